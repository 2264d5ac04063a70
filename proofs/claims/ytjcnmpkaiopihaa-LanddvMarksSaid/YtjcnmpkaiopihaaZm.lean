/- LanddvMarks: whatever comes in, the law answers true, and what came in stays as it was. No condition. -/
import Derived.Test.YtjcnmpkaiopihaaRows
import Derived.Test.YtjcnmpkaiopihaaZmPAx44
import Derived.Test.YtjcnmpkaiopihaaZmStLanddvMarks
import Derived.Test.YtjcnmpkaiopihaaZmPureLanddvMarks
import Derived.WalkKit
import Derived.ProofKit
import Derived.OpenShut
import Derived.ShutString
import Derived.ChangeOld
import Derived.Below
import Derived.SizedLaws
import Derived.Laws.Cover2
namespace Go.Proofs.Ytjcnmpkaiopihaa.landdvMarks
open Go.ChangeShapes Go.WideShapes Go.ChangeAt Go.RowKit Go.Proofs.Ytjcnmpkaiopihaa.PA Go.Proofs.YtjcnmpkaiopihaaW.PrintWords
open Go.ChangeMaps (open_string shut_string)
set_option linter.unusedVariables false
theorem own : ownKnob Try.prog.godebug = none := by kernel_rfl
theorem laidOut : laidOutB Try.prog = true := by kernel_rfl
set_option maxRecDepth 100000 in
theorem lifted (os : Os) (started : os.Started) (H : Type) (enc : TypeId × Value → H) :
    ReturnsInHanded {} Try.checked os 4 .any (Rows.landdvMarksSpec.pre6 enc Try.prog Try.f4 Rows.landdvMarksRow.domain false) (Rows.landdvMarksSpec.post enc Try.prog Try.f4 false true false false) := by
  refine returnsInHanded_of_change_sized (C := Try.checked) own started (by kernel_rfl) Try.func4
    (ChangeSpec.witness6 (enc := enc) (C := Try.checked) false ⟨#[],#[.int .i64 0,.slice none 0 0,.float .f64 0],[]⟩ 8 (by kernel_rfl) (by kernel_rfl) (by kernel_rfl) (by kernel_rfl)) ?_
  intro W base args ds gs before hval0 hW hcnd hsz0 _
  have hsz : (DataW.weightsEach Try.prog (Try.f4.params.toList ++ Rows.landdvMarksSpec.plain.varTypes Try.prog) (ds ++ gs)).all (· ≤ reachBytes) = true := hsz0
  have hval : ∀ (j : Nat) t v,Try.f4.params[j]? = some t → args[j]? = some v → Value.okWide Try.prog W .any base t v := hval0
  have hW' := hW
  obtain ⟨p,q,hA0,hV,rfl,hfz,hnd⟩ := hW
  have hA : DataW.TrodAll enc Try.prog W 0 (fun _ => true) true Try.f4.params.toList args.toList ds p := hA0
  rw [Try.params4] at hA hval hsz
  obtain ⟨v0,vs0,d0,ds0,p0,q0,hargs,rfl,rfl,h0,r0⟩ := trodAll_cons hA
  obtain ⟨v1,vs1,d1,ds1,p1,q1,rfl,rfl,rfl,h1,r1⟩ := trodAll_cons r0
  obtain ⟨v2,vs2,d2,ds2,p2,q2,rfl,rfl,rfl,h2,r2⟩ := trodAll_cons r1
  obtain ⟨rfl,rfl,rfl⟩ := trodAll_nil r2
  obtain rfl : args = #[v0,v1,v2] := by cases args;simp_all
  obtain ⟨rfl,rfl⟩ := trodVars_none hV
  have z0 := weights_of hsz (j := 0) (t := 3) (d := d0) rfl rfl
  have lt0 : ∀ x ∈ p0,x.block < W.heap.size := by obtain ⟨m,hm⟩ := h0;exact DataW.trod_lt m _ _ _ hm
  have k0_ := h0
  obtain ⟨a0,rfl,rfl,rfl,w0⟩ := open_int Try.underlying3 (hval 0 3 v0 rfl rfl) h0
  have z1 := weights_of hsz (j := 1) (t := 22) (d := d1) rfl rfl
  have lt1 : ∀ x ∈ p1,x.block < W.heap.size := by obtain ⟨m,hm⟩ := h1;exact DataW.trod_lt m _ _ _ hm
  have k1_ := h1
  obtain ⟨u1,n1_,c1_,rfl⟩ := okWide_slice Try.underlying22 (hval 1 22 v1 rfl rfl)
  obtain ⟨l1,⟨A1,c1,e1,hc1,hr1⟩,w1⟩ := opens_arg o22 h1 z1
  obtain ⟨rfl,rfl,rfl⟩ : u1 = A1 ∧ n1_ = l1.length ∧ c1_ = c1 := by simpa [Value.cells] using e1
  have z2 := weights_of hsz (j := 2) (t := 23) (d := d2) rfl rfl
  have lt2 : ∀ x ∈ p2,x.block < W.heap.size := by obtain ⟨m,hm⟩ := h2;exact DataW.trod_lt m _ _ _ hm
  have k2_ := h2
  obtain ⟨a2,e2,w2⟩ := opens_arg o23 h2 z2
  obtain ⟨b2,rfl⟩ := okWide_float Try.underlying23 (hval 2 23 v2 rfl rfl)
  obtain rfl : b2 = a2 := by simpa [Kd.float,Kd.scalar,Value.cells] using e2
  obtain ⟨k,h⟩ := LanddvMarks_pure a0 l1 b2 w0 w1 w2
  clear hA0 hval0 hsz0 hsz
  refine (beaconlaw15_LanddvMarks.calls k a0 u1 c1_ l1 b2 true W hr1 hc1 h).mono ?_
  rintro e W' ⟨rfl,bel⟩
  exact ⟨_,rfl,_,_,_,[],_,[],hW',trodAll_mk1 (shut_bool Try.underlying4 _),(trodAll_cons_mk (Below.trod laidOut (by kernel_rfl) (of_decide_eq_true (by kernel_rfl)) k0_ bel lt0) (trodAll_cons_mk (Below.trod laidOut (by kernel_rfl) (of_decide_eq_true (by kernel_rfl)) k1_ bel lt1) (trodAll_cons_mk (Below.trod laidOut (by kernel_rfl) (of_decide_eq_true (by kernel_rfl)) k2_ bel lt2) trodAll_mk0))),rfl,bel.frame _,fun h => by cases h⟩
theorem over : Rows.landdvMarksRow.holds Try.pinned (OpenSpec.ofChange Rows.landdvMarksSpec) :=
  OpenClaim.holds_of_wide 4 Try.f4 rfl rfl rfl rfl rfl rfl rfl ⟨rfl,rfl,rfl,rfl,rfl⟩ rfl rfl rfl rfl rfl (by kernel_rfl) Try.func4 (by kernel_rfl)
    (of_decide_eq_true (by kernel_rfl)) (by unfold Func.isWrapper;first | (rw [if_pos (by decide +kernel)];kernel_rfl) | (rw [if_neg (by decide +kernel)];exact ⟨rfl,rfl⟩))
    (fun os started H enc _ => lifted os started H enc)
theorem proved : Rows.LanddvMarksSaid := over
end Go.Proofs.Ytjcnmpkaiopihaa.landdvMarks
namespace Go.Proofs.Ytjcnmpkaiopihaa
theorem landdvMarks_holds : Rows.LanddvMarksSaid := landdvMarks.proved
#print axioms landdvMarks_holds
end Go.Proofs.Ytjcnmpkaiopihaa
