/- Entries, sorted by kind and destination: slices.SortFunc by the shelf. Condition: kinds and destinations are small. -/
import Derived.Test.YtjcnmpkaiopihaaZtSh
import Derived.Test.YtjcnmpkaiopihaaZtPAx0
import Derived.WalkLawsBesides
namespace Go.Proofs.Ytjcnmpkaiopihaa.PA
open Go.Shelf Go.RowKit Go.Lib Go.Sort Go.Proofs.YtjcnmpkaiopihaaW.PrintWords Go.Proofs.YtjcnmpkaiopihaaW.PrintLast Go.Proofs.YtjcnmpkaiopihaaW.PrintMore
set_option linter.unusedVariables false
set_option linter.unusedSimpArgs false
def SmallE (x : S58) : Prop := 0 ≤ x.f1 ∧ x.f1 ≤ 4611686018427387904 ∧ 0 ≤ x.f0 ∧ x.f0 ≤ 4611686018427387904
abbrev ES := { x : S58 // SmallE x }
instance : Inhabited ES := ⟨⟨z58,by unfold SmallE z58;decide⟩⟩
def ltE (x y : S58) : Bool := decide (x.f1 < y.f1) || (x.f1 == y.f1 && decide (x.f0 < y.f0))
def cfE (x y : ES) : Int := if x.1.f1 = y.1.f1 then x.1.f0 - y.1.f0 else x.1.f1 - y.1.f1
def encE (a : S58) : List Value := [.int .i64 a.f0,.int .i64 a.f1,.float .f64 a.f2,.int .i64 a.f3,.float .f64 a.f4,.int .i64 a.f5]
theorem ltOfE (x y : ES) : ltOf cfE x y = ltE x.1 y.1 := by
  unfold ltOf cfE ltE
  by_cases h : x.1.f1 = y.1.f1
  · rw [if_pos h,h]
    by_cases h2 : x.1.f0 < y.1.f0
    · simp [h2]
      omega
    simp [h2]
    omega
  rw [if_neg h]
  have hb : (x.1.f1 == y.1.f1) = false := by simpa using h
  rw [hb]
  by_cases h2 : x.1.f1 < y.1.f1
  · simp [h2]
    omega
  simp [h2]
  omega
theorem ltE_irrefl (x : S58) : ltE x x = false := by unfold ltE;simp
theorem ltE_trans {x y z : S58} (h1 : ltE x y = true) (h2 : ltE y z = true) : ltE x z = true := by
  unfold ltE at *
  simp only [Bool.or_eq_true,Bool.and_eq_true,decide_eq_true_eq,beq_iff_eq] at *
  omega
theorem ltE_ntrans {x y z : S58} (h1 : ltE x y = false) (h2 : ltE y z = false) : ltE x z = false := by
  rw [Bool.eq_false_iff] at *
  unfold ltE at *
  simp only [ne_eq,Bool.or_eq_true,Bool.and_eq_true,decide_eq_true_eq,beq_iff_eq] at *
  omega
theorem ltE_asym {x y : S58} (h : ltE x y = true) : ltE y x = false := by
  rw [Bool.eq_false_iff]
  unfold ltE at *
  simp only [ne_eq,Bool.or_eq_true,Bool.and_eq_true,decide_eq_true_eq,beq_iff_eq] at *
  omega
theorem swoE : SWO (ltOf cfE) where
  irrefl x := by rw [ltOfE];exact ltE_irrefl _
  trans x y z h1 h2 := by rw [ltOfE] at *;exact ltE_trans h1 h2
  ntrans x y z h1 h2 := by rw [ltOfE] at *;exact ltE_ntrans h1 h2
theorem sub64 {a b : Int} (ha : 0 ≤ a ∧ a ≤ 4611686018427387904) (hb : 0 ≤ b ∧ b ≤ 4611686018427387904) : IntKind.i64.wrap (a - b) = a - b := by
  rw [i64_w]
  unfold wrap64
  omega
set_option maxHeartbeats 2000000 in
set_option maxRecDepth 100000 in
theorem order_any (x y : ES) (W : World) : Calls Try.prog 35 #[.agg (encE x.1).toArray,.agg (encE y.1).toArray] W fun e w' => e = .returned (.int .i64 (cfE x y)) ∧ ∃ q os',w' = grow (W.drewN q) os' := by
  have hu58 := Try.underlying58
  obtain ⟨x,hx1,hx2,hx3,hx4⟩ := x
  obtain ⟨y,hy1,hy2,hy3,hy4⟩ := y
  have s1 := sub64 ⟨hx1,hx2⟩ ⟨hy1,hy2⟩
  have s0 := sub64 ⟨hx3,hx4⟩ ⟨hy3,hy4⟩
  unfold cfE
  show Calls Try.prog 35 #[.agg #[.int .i64 x.f0,.int .i64 x.f1,.float .f64 x.f2,.int .i64 x.f3,.float .f64 x.f4,.int .i64 x.f5],.agg #[.int .i64 y.f0,.int .i64 y.f1,.float .f64 y.f2,.int .i64 y.f3,.float .f64 y.f4,.int .i64 y.f5]] W _
  by_cases h : x.f1 = y.f1
  · have hb : (x.f1 != y.f1) = false := by simp [h]
    simp only [if_pos h]
    have H := Aside0.mk h
    clear h
    go_enter Try.func35,Try.ntmps35
    go_wp2
    go_ret
    exact ⟨rfl,0,_,by rw [alloc_eq_grow,alloc_eq_grow,grow_grow];rfl⟩
  have hb : (x.f1 != y.f1) = true := by simp [h]
  simp only [if_neg h]
  have H := Aside0.mk h
  clear h
  go_enter Try.func35,Try.ntmps35
  go_wp2
  go_ret
  exact ⟨rfl,0,_,by rw [alloc_eq_grow,alloc_eq_grow,grow_grow];rfl⟩
end Go.Proofs.Ytjcnmpkaiopihaa.PA
