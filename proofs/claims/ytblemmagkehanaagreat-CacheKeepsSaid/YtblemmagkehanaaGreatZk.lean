/- CacheKeeps: whatever comes in, the law answers true, and what came in stays as it was. No condition. -/
import Derived.Test.YtblemmagkehanaaGreatRows
import Derived.Test.YtblemmagkehanaaGreatZkEg
import Derived.Test.YtblemmagkehanaaGreatZkPureCacheKeeps
import Derived.WalkKit
import Derived.ProofKit
import Derived.OpenShut
import Derived.ShutString
import Derived.ChangeOld
import Derived.Below
import Derived.SizedLaws
import Derived.Laws.Cover2
namespace Go.Proofs.YtblemmagkehanaaGreat.cacheKeeps
open Go.ChangeShapes Go.WideShapes Go.ChangeAt Go.RowKit Go.Proofs.YtblemmagkehanaaGreat.PA Go.Proofs.YtblemmagkehanaaGreatW.PrintWords
open Go.ChangeMaps (open_string shut_string)
set_option linter.unusedVariables false
theorem own : ownKnob Tryz.prog.godebug = none := by kernel_rfl
theorem laidOut : laidOutB Tryz.prog = true := by kernel_rfl
set_option maxRecDepth 100000 in
theorem lifted (os : Os) (started : os.Started) (H : Type) (enc : TypeId × Value → H) :
    ReturnsInHanded {} Tryz.checked os 4 .any (Rows.cacheKeepsSpec.pre6 enc Tryz.prog Tryz.f4 Rows.cacheKeepsRow.domain false) (Rows.cacheKeepsSpec.post enc Tryz.prog Tryz.f4 false true false false) := by
  refine returnsInHanded_of_change_sized (C := Tryz.checked) own started (by kernel_rfl) Tryz.func4
    (ChangeSpec.witness6 (enc := enc) (C := Tryz.checked) false ⟨#[],#[.slice none 0 0,.int .i64 0,.slice none 0 0],[]⟩ 8 (by kernel_rfl) (by kernel_rfl) (by kernel_rfl) (by kernel_rfl)) ?_
  intro W base args ds gs before hval0 hW hcnd hsz0 _;have hsz : (DataW.weightsEach Tryz.prog (Tryz.f4.params.toList ++ Rows.cacheKeepsSpec.plain.varTypes Tryz.prog) (ds ++ gs)).all (· ≤ reachBytes) = true := hsz0;have hval : ∀ (j : Nat) t v,Tryz.f4.params[j]? = some t → args[j]? = some v → Value.okWide Tryz.prog W .any base t v := hval0;have hW' := hW;obtain ⟨p,q,hA0,hV,rfl,hfz,hnd⟩ := hW;have hA : DataW.TrodAll enc Tryz.prog W 0 (fun _ => true) true Tryz.f4.params.toList args.toList ds p := hA0;rw [Tryz.params4] at hA hval hsz;obtain ⟨v0,vs0,d0,ds0,p0,q0,hargs,rfl,rfl,h0,r0⟩ := trodAll_cons hA;obtain ⟨v1,vs1,d1,ds1,p1,q1,rfl,rfl,rfl,h1,r1⟩ := trodAll_cons r0;obtain ⟨v2,vs2,d2,ds2,p2,q2,rfl,rfl,rfl,h2,r2⟩ := trodAll_cons r1;obtain ⟨rfl,rfl,rfl⟩ := trodAll_nil r2;obtain rfl : args = #[v0,v1,v2] := by cases args;simp_all
  obtain ⟨rfl,rfl⟩ := trodVars_none hV;have z0 := weights_of hsz (j := 0) (t := 22) (d := d0) rfl rfl;have lt0 : ∀ x ∈ p0,x.block < W.heap.size := by obtain ⟨m,hm⟩ := h0;exact DataW.trod_lt m _ _ _ hm
  have k0_ := h0;obtain ⟨u0,n0_,c0_,rfl⟩ := okWide_slice Tryz.underlying22 (hval 0 22 v0 rfl rfl);obtain ⟨l0,⟨A0,c0,e0,hc0,hr0⟩,w0⟩ := opens_arg o22 h0 z0;obtain ⟨rfl,rfl,rfl⟩ : u0 = A0 ∧ n0_ = l0.length ∧ c0_ = c0 := by simpa [Value.cells] using e0
  have z1 := weights_of hsz (j := 1) (t := 3) (d := d1) rfl rfl;have lt1 : ∀ x ∈ p1,x.block < W.heap.size := by obtain ⟨m,hm⟩ := h1;exact DataW.trod_lt m _ _ _ hm
  have k1_ := h1;obtain ⟨a1,rfl,rfl,rfl,w1⟩ := open_int Tryz.underlying3 (hval 1 3 v1 rfl rfl) h1;have z2 := weights_of hsz (j := 2) (t := 29) (d := d2) rfl rfl;have lt2 : ∀ x ∈ p2,x.block < W.heap.size := by obtain ⟨m,hm⟩ := h2;exact DataW.trod_lt m _ _ _ hm
  have k2_ := h2;obtain ⟨u2,n2_,c2_,rfl⟩ := okWide_slice Tryz.underlying29 (hval 2 29 v2 rfl rfl);obtain ⟨l2,⟨A2,c2,e2,hc2,hr2⟩,w2⟩ := opens_arg o29 h2 z2;obtain ⟨rfl,rfl,rfl⟩ : u2 = A2 ∧ n2_ = l2.length ∧ c2_ = c2 := by simpa [Value.cells] using e2
  have h := CacheKeeps_pure l0 a1 l2 w0 w1 w2;clear hA0 hval0 hsz0 hsz;refine (beaconlaw13_CacheKeeps.calls u0 c0_ l0 a1 u2 c2_ l2 true W hr0 hc0 hr2 hc2 h).mono ?_;rintro e W' ⟨rfl,bel⟩;exact ⟨_,rfl,_,_,_,[],_,[],hW',trodAll_mk1 (shut_bool Tryz.underlying4 _),(trodAll_cons_mk (Below.trod laidOut (by kernel_rfl) (of_decide_eq_true (by kernel_rfl)) k0_ bel lt0) (trodAll_cons_mk (Below.trod laidOut (by kernel_rfl) (of_decide_eq_true (by kernel_rfl)) k1_ bel lt1) (trodAll_cons_mk (Below.trod laidOut (by kernel_rfl) (of_decide_eq_true (by kernel_rfl)) k2_ bel lt2) trodAll_mk0))),rfl,bel.frame _,fun h => by cases h⟩
theorem over : Rows.cacheKeepsRow.holds Tryz.pinned (OpenSpec.ofChange Rows.cacheKeepsSpec) :=
  OpenClaim.holds_of_wide 4 Tryz.f4 rfl rfl rfl rfl rfl rfl rfl ⟨rfl,rfl,rfl,rfl,rfl⟩ rfl rfl rfl rfl rfl (by kernel_rfl) Tryz.func4 (by kernel_rfl)
    (of_decide_eq_true (by kernel_rfl)) (by unfold Func.isWrapper;first | (rw [if_pos (by decide +kernel)];kernel_rfl) | (rw [if_neg (by decide +kernel)];exact ⟨rfl,rfl⟩))
    (fun os started H enc _ => lifted os started H enc)
theorem proved : Rows.CacheKeepsSaid := over
end Go.Proofs.YtblemmagkehanaaGreat.cacheKeeps
namespace Go.Proofs.YtblemmagkehanaaGreat
theorem cacheKeeps_holds : Rows.CacheKeepsSaid := cacheKeeps.proved
#print axioms cacheKeeps_holds
end Go.Proofs.YtblemmagkehanaaGreat
