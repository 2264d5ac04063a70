/- Entries, sorted by kind and destination: slices.SortFunc by the shelf. Condition: kinds and destinations are small. -/
import Derived.Test.YtjcnmpkaiopihaaZoSh
import Derived.Test.YtjcnmpkaiopihaaZoPAx0
import Derived.WalkLawsBesides
import Derived.Test.YtjcnmpkaiopihaaZoMn
import Derived.Test.YtjcnmpkaiopihaaZoPAx4
import Derived.Test.YtjcnmpkaiopihaaZoPAx1
import Derived.Test.YtjcnmpkaiopihaaZoHc
import Derived.Test.YtjcnmpkaiopihaaZoGo
import Derived.Test.YtjcnmpkaiopihaaZoPAx26
namespace Go.Proofs.Ytjcnmpkaiopihaa.PA
open Go.Shelf Go.RowKit Go.Lib Go.Sort Go.Proofs.YtjcnmpkaiopihaaW.PrintWords Go.Proofs.YtjcnmpkaiopihaaW.PrintLast Go.Proofs.YtjcnmpkaiopihaaW.PrintMore
set_option linter.unusedVariables false
set_option linter.unusedSimpArgs false
def SmallE (x : S58) : Prop := 0 ≤ x.f1 ∧ x.f1 ≤ 4611686018427387904 ∧ 0 ≤ x.f0 ∧ x.f0 ≤ 4611686018427387904
abbrev ES := { x : S58 // SmallE x }
instance : Inhabited ES := ⟨⟨z58,by unfold SmallE z58;decide⟩⟩
def ltE (x y : S58) : Bool := decide (x.f1 < y.f1) || (x.f1 == y.f1 && decide (x.f0 < y.f0))
def cfE (x y : ES) : Int := if x.1.f1 = y.1.f1 then x.1.f0 - y.1.f0 else x.1.f1 - y.1.f1
def encE (a : S58) : List Value := [.int .i64 a.f0,.int .i64 a.f1,.float .f64 a.f2,.int .i64 a.f3,.float .f64 a.f4,.int .i64 a.f5]
theorem ltOfE (x y : ES) : ltOf cfE x y = ltE x.1 y.1 := by
  unfold ltOf cfE ltE
  by_cases h : x.1.f1 = y.1.f1
  · rw [if_pos h,h]
    by_cases h2 : x.1.f0 < y.1.f0
    · simp [h2]
      omega
    simp [h2]
    omega
  rw [if_neg h]
  have hb : (x.1.f1 == y.1.f1) = false := by simpa using h
  rw [hb]
  by_cases h2 : x.1.f1 < y.1.f1
  · simp [h2]
    omega
  simp [h2]
  omega
theorem ltE_irrefl (x : S58) : ltE x x = false := by unfold ltE;simp
theorem ltE_trans {x y z : S58} (h1 : ltE x y = true) (h2 : ltE y z = true) : ltE x z = true := by
  unfold ltE at *
  simp only [Bool.or_eq_true,Bool.and_eq_true,decide_eq_true_eq,beq_iff_eq] at *
  omega
theorem ltE_ntrans {x y z : S58} (h1 : ltE x y = false) (h2 : ltE y z = false) : ltE x z = false := by
  rw [Bool.eq_false_iff] at *
  unfold ltE at *
  simp only [ne_eq,Bool.or_eq_true,Bool.and_eq_true,decide_eq_true_eq,beq_iff_eq] at *
  omega
theorem ltE_asym {x y : S58} (h : ltE x y = true) : ltE y x = false := by
  rw [Bool.eq_false_iff]
  unfold ltE at *
  simp only [ne_eq,Bool.or_eq_true,Bool.and_eq_true,decide_eq_true_eq,beq_iff_eq] at *
  omega
theorem swoE : SWO (ltOf cfE) where
  irrefl x := by rw [ltOfE];exact ltE_irrefl _
  trans x y z h1 h2 := by rw [ltOfE] at *;exact ltE_trans h1 h2
  ntrans x y z h1 h2 := by rw [ltOfE] at *;exact ltE_ntrans h1 h2
theorem sub64 {a b : Int} (ha : 0 ≤ a ∧ a ≤ 4611686018427387904) (hb : 0 ≤ b ∧ b ≤ 4611686018427387904) : IntKind.i64.wrap (a - b) = a - b := by
  rw [i64_w]
  unfold wrap64
  omega
set_option maxHeartbeats 2000000 in
set_option maxRecDepth 100000 in
theorem order_any (x y : ES) (W : World) : Calls Try.prog 35 #[.agg (encE x.1).toArray,.agg (encE y.1).toArray] W fun e w' => e = .returned (.int .i64 (cfE x y)) ∧ ∃ q os',w' = grow (W.drewN q) os' := by
  have hu58 := Try.underlying58
  obtain ⟨x,hx1,hx2,hx3,hx4⟩ := x
  obtain ⟨y,hy1,hy2,hy3,hy4⟩ := y
  have s1 := sub64 ⟨hx1,hx2⟩ ⟨hy1,hy2⟩
  have s0 := sub64 ⟨hx3,hx4⟩ ⟨hy3,hy4⟩
  unfold cfE
  show Calls Try.prog 35 #[.agg #[.int .i64 x.f0,.int .i64 x.f1,.float .f64 x.f2,.int .i64 x.f3,.float .f64 x.f4,.int .i64 x.f5],.agg #[.int .i64 y.f0,.int .i64 y.f1,.float .f64 y.f2,.int .i64 y.f3,.float .f64 y.f4,.int .i64 y.f5]] W _
  by_cases h : x.f1 = y.f1
  · have hb : (x.f1 != y.f1) = false := by simp [h]
    simp only [if_pos h]
    have H := Aside0.mk h
    clear h
    go_enter Try.func35,Try.ntmps35
    go_wp2
    go_ret
    exact ⟨rfl,0,_,by rw [alloc_eq_grow,alloc_eq_grow,grow_grow];rfl⟩
  have hb : (x.f1 != y.f1) = true := by simp [h]
  simp only [if_neg h]
  have H := Aside0.mk h
  clear h
  go_enter Try.func35,Try.ntmps35
  go_wp2
  go_ret
  exact ⟨rfl,0,_,by rw [alloc_eq_grow,alloc_eq_grow,grow_grow];rfl⟩
end Go.Proofs.Ytjcnmpkaiopihaa.PA
namespace Go.Proofs.Ytjcnmpkaiopihaa.PA
open Go.RowKit Go.Proofs.YtjcnmpkaiopihaaW.PrintWords Go.Proofs.YtjcnmpkaiopihaaW.PrintLast Go.Proofs.YtjcnmpkaiopihaaW.PrintMore
attribute [local go_sem] max2_int min2_int max_two min_two max_three min_three max_four min_four
set_option linter.unusedVariables false
set_option linter.unusedSimpArgs false
def beaconref01_Nan.f  : Option (Nat):=some 9221120237041090560
def beaconref01_Add.f (a0:Nat) (a1:Nat) (a2:Nat):Option (Nat):=(floatBits .add .f64 a0 a1).bind fun t203 => ((beaconref01_nan.f t203).bind fun t204 => (if t204 = true then ((beaconref01_Nan.f).bind fun t205 => (some t205)) else (if (FloatKind.f64.format.order t203 a2 == some .lt) = true then (if (FloatKind.f64.format.order t203 0 == some .eq) = true then (some 0) else (some t203)) else ((math_Inf.f 1).bind fun t206 => (some t206)))))
end Go.Proofs.Ytjcnmpkaiopihaa.PA
namespace Go.Proofs.Ytjcnmpkaiopihaa.PA
open Go.RowKit Go.Proofs.YtjcnmpkaiopihaaW.PrintWords
set_option linter.unusedVariables false
set_option linter.unusedSimpArgs false
open Classical
noncomputable def landdv_list.f (l0 : List S56) : Option Bool := if l0.length * 40 ≤ 140737488355000 ∧ WordsN l0 then some (listB l0) else none
theorem landdv_list.calls (A0 : Option Addr) (c0 : Nat) (l0 : List S56) (r : Bool) (w : World) (hr0 : Kd.C k56 w A0 l0.length l0) (hc0 : l0.length ≤ c0) (h : landdv_list.f l0 = some r) :
    Calls Try.prog 51 #[.slice A0 l0.length c0] w fun e w' => e = .returned (.bool r) ∧ Below w.heap.size w w' := by
  unfold landdv_list.f at h
  by_cases hc : l0.length * 40 ≤ 140737488355000 ∧ WordsN l0
  · rw [if_pos hc] at h
    obtain rfl := Option.some.inj h
    exact list_any (2 * l0.length + 540) A0 c0 l0 _ w hr0 hc0 (list_prog l0 hc.2 (by omega) _ (Nat.le_refl _)) hc.1 (by omega)
  rw [if_neg hc] at h
  cases h
end Go.Proofs.Ytjcnmpkaiopihaa.PA
namespace Go.Proofs.Ytjcnmpkaiopihaa.PA
open Go.RowKit Go.Proofs.YtjcnmpkaiopihaaW.PrintWords Go.Proofs.YtjcnmpkaiopihaaW.PrintLast Go.Proofs.YtjcnmpkaiopihaaW.PrintMore
set_option linter.unusedVariables false
set_option linter.unusedSimpArgs false
theorem blk_set6 {w : World} {g : Nat} {t : TypeId} {a0 a1 a2 a3 a4 a5 : Value} (h : w.heap[g]? = some (.cells #[a0,a1,a2,a3,a4,a5] t (0,0))) (v0 v1 v2 v3 v4 v5 : Value) :
    ((((((w.setCell ⟨g,0,none⟩ v0).setCell ⟨g,1,none⟩ v1).setCell ⟨g,2,none⟩ v2).setCell ⟨g,3,none⟩ v3).setCell ⟨g,4,none⟩ v4).setCell ⟨g,5,none⟩ v5).heap[g]? = some (.cells #[v0,v1,v2,v3,v4,v5] t (0,0)) :=
  (blk_set (blk_set (blk_set (blk_set (blk_set (blk_set h 0 v0) 1 v1) 2 v2) 3 v3) 4 v4) 5 v5).trans rfl
theorem blk_far6 {w : World} {g b : Nat} {t : TypeId} {cs : Array Value} (h : w.heap[b]? = some (.cells cs t (0,0))) (hne : b ≠ g) (v0 v1 v2 v3 v4 v5 : Value) :
    ((((((w.setCell ⟨g,0,none⟩ v0).setCell ⟨g,1,none⟩ v1).setCell ⟨g,2,none⟩ v2).setCell ⟨g,3,none⟩ v3).setCell ⟨g,4,none⟩ v4).setCell ⟨g,5,none⟩ v5).heap[b]? = some (.cells cs t (0,0)) :=
  blk_far (blk_far (blk_far (blk_far (blk_far (blk_far h hne _) hne _) hne _) hne _) hne _) hne _
theorem below_set6 {w w' : World} {B g : Nat} (h : Below B w w') (hg : B ≤ g) (v0 v1 v2 v3 v4 v5 : Value) :
    Below B w ((((((w'.setCell ⟨g,0,none⟩ v0).setCell ⟨g,1,none⟩ v1).setCell ⟨g,2,none⟩ v2).setCell ⟨g,3,none⟩ v3).setCell ⟨g,4,none⟩ v4).setCell ⟨g,5,none⟩ v5) :=
  (((((h.setCell hg _).setCell hg _).setCell hg _).setCell hg _).setCell hg _).setCell hg _
end Go.Proofs.Ytjcnmpkaiopihaa.PA
