/- scopedv.known: what is known of a router by an offer. Condition: the sum is told. -/
import Derived.Test.YtjcnmpkaiopihaaZoMn
import Derived.Test.YtjcnmpkaiopihaaZoHd
namespace Go.Proofs.Ytjcnmpkaiopihaa.PA
open Go.RowKit Go.Proofs.YtjcnmpkaiopihaaW.PrintWords Go.Proofs.YtjcnmpkaiopihaaW.PrintLast Go.Proofs.YtjcnmpkaiopihaaW.PrintMore
set_option linter.unusedVariables false
set_option linter.unusedSimpArgs false
def scopedv_known.f (a0 : Int) (a1_0 : Int) (a1_1 : Nat) (l1_2 : List S56) (a2_0 : Int) (a2_1 : Int) (a2_2 : Nat) (a2_3 : Nat) (a2_4 : Int) (a3 : Nat) : Option (Int × Int × Nat × Int × Nat × Int × Bool) :=
  (metric_Add.f a1_1 a2_2 a3).bind fun d => (math_IsInf.f d 1).bind fun t =>
    if t = true ∨ a2_0 = a0 then some (a2_0,2,d,a1_0,a2_3,a2_4,false) else if (FloatKind.f64.format.order d a2_3 == some .lt) = true then some (a2_0,2,d,a1_0,a2_3,a2_4,true)
    else some (a2_0,3,d,a1_0,a2_3,a2_4,(FloatKind.f64.format.order d a2_3 == some .eq) && (a2_4 == a0))
set_option maxHeartbeats 4000000 in
set_option maxRecDepth 100000 in
theorem scopedv_known.calls (a0 : Int) (a1_0 : Int) (a1_1 : Nat) (A1_2 : Option Addr) (c1_2 : Nat) (l1_2 : List (S56)) (a2_0 : Int) (a2_1 : Int) (a2_2 : Nat) (a2_3 : Nat) (a2_4 : Int) (a3 : Nat) (r1 : Int) (r2 : Int) (r3 : Nat) (r4 : Int) (r5 : Nat) (r6 : Int) (r7 : Bool) (w : World) (hr1_2 : Kd.C k56 w A1_2 l1_2.length l1_2) (hc1_2 : l1_2.length ≤ c1_2) (h : scopedv_known.f a0 a1_0 a1_1 l1_2 a2_0 a2_1 a2_2 a2_3 a2_4 a3 = some (r1,r2,r3,r4,r5,r6,r7)) :
    Calls Try.prog 33 #[.int .i64 a0,.agg #[.int .i64 a1_0,.float .f64 a1_1,.slice A1_2 l1_2.length c1_2],.agg #[.int .i64 a2_0,.int .i64 a2_1,.float .f64 a2_2,.float .f64 a2_3,.int .i64 a2_4],.float .f64 a3] w fun e w' => e = .returned (.tuple #[.agg #[.int .i64 r1,.int .i64 r2,.float .f64 r3,.int .i64 r4,.float .f64 r5,.int .i64 r6],.bool r7]) ∧ Below w.heap.size w w' := by
  have hu54 := Try.underlying54
  have hu56 := Try.underlying56
  have hu58 := Try.underlying58
  clear hr1_2 hc1_2
  unfold scopedv_known.f at h
  obtain ⟨d,hd,h⟩ := Option.bind_eq_some_iff.1 h
  obtain ⟨t,ht,h⟩ := Option.bind_eq_some_iff.1 h
  have AD := Aside0.mk hd
  have FT := Aside0.mk ht
  clear hd ht
  by_cases hts : t = true ∨ a2_0 = a0
  · rw [if_pos hts] at h
    cases h
    cases t
    · obtain rfl : a2_0 = a0 := by simpa using hts
      go_enter Try.func33,Try.ntmps33
      go_upto_region 1 with fail
      obtain ⟨w0,hw0⟩ : ∃ w0,w0 = (((w.alloc (.cells #[.int .i64 a1_0,.float .f64 a1_1,.slice A1_2 l1_2.length c1_2] 54)).alloc (.cells #[.int .i64 a2_0,.int .i64 a2_1,.float .f64 a2_2,.float .f64 a2_3,.int .i64 a2_4] 56)).alloc (.cells #[.int .i64 0,.int .i64 0,.float .f64 0,.int .i64 0,.float .f64 0,.int .i64 0] 58)) := ⟨_,rfl⟩
      rw [← hw0]
      have H0 : Aside0 (w0.heap[w.heap.size]? = some (.cells #[.int .i64 a1_0,.float .f64 a1_1,.slice A1_2 l1_2.length c1_2] 54 (0,0))) := ⟨by rw [hw0];exact blk_alloc (blk_alloc (blk_new w _) _) _⟩
      have N0 : Aside0 (w0.heap[w.heap.size + 1]? = some (.cells #[.int .i64 a2_0,.int .i64 a2_1,.float .f64 a2_2,.float .f64 a2_3,.int .i64 a2_4] 56 (0,0))) := ⟨by rw [hw0];have := blk_alloc (blk_new (w.alloc (.cells #[.int .i64 a1_0,.float .f64 a1_1,.slice A1_2 l1_2.length c1_2] 54)) (.cells #[.int .i64 a2_0,.int .i64 a2_1,.float .f64 a2_2,.float .f64 a2_3,.int .i64 a2_4] 56)) (.cells #[.int .i64 0,.int .i64 0,.float .f64 0,.int .i64 0,.float .f64 0,.int .i64 0] 58);rwa [World.size_alloc] at this⟩
      have Z0 : Aside0 (w0.heap[w.heap.size + 1 + 1]? = some (.cells #[.int .i64 0,.int .i64 0,.float .f64 0,.int .i64 0,.float .f64 0,.int .i64 0] 58 (0,0))) := ⟨by rw [hw0];have := blk_new ((w.alloc (.cells #[.int .i64 a1_0,.float .f64 a1_1,.slice A1_2 l1_2.length c1_2] 54)).alloc (.cells #[.int .i64 a2_0,.int .i64 a2_1,.float .f64 a2_2,.float .f64 a2_3,.int .i64 a2_4] 56)) (.cells #[.int .i64 0,.int .i64 0,.float .f64 0,.int .i64 0,.float .f64 0,.int .i64 0] 58);rwa [World.size_alloc,World.size_alloc] at this⟩
      have B0 : Aside0 (Below w.heap.size w w0) := ⟨by rw [hw0];exact below_alloc (below_alloc (below_alloc (Below.refl _ _) _) _) _⟩
      obtain ⟨b8,hb8⟩ : ∃ b,b = w.heap.size + 1 + 1 := ⟨_,rfl⟩
      obtain ⟨b6,hb6⟩ : ∃ b,b = w.heap.size + 1 := ⟨_,rfl⟩
      obtain ⟨b5,hb5⟩ : ∃ b,b = w.heap.size := ⟨_,rfl⟩
      have GE8 : Aside0 (w.heap.size ≤ b8) := ⟨by omega⟩
      have GE6 : Aside0 (w.heap.size ≤ b6) := ⟨by omega⟩
      have d68 : b6 ≠ b8 := by omega
      have d86 : b8 ≠ b6 := by omega
      rw [← hb8] at Z0 ⊢
      rw [← hb6] at N0 ⊢
      rw [← hb5] at H0
      have hgs := Aside0.mk hb5
      rw [← hb5]
      clear hw0 hb8 hb6 hb5
      have h00 : w0.cell? ⟨b5,0,none⟩ = some (.int .i64 a1_0) := (blk_cell H0.out 0).trans rfl
      have h01 : w0.cell? ⟨b5,1,none⟩ = some (.float .f64 a1_1) := (blk_cell H0.out 1).trans rfl
      have h02 : w0.cell? ⟨b5,2,none⟩ = some (.slice A1_2 l1_2.length c1_2) := (blk_cell H0.out 2).trans rfl
      have lth0 := blk_lt H0.out
      have n00 : w0.cell? ⟨b6,0,none⟩ = some (.int .i64 a2_0) := (blk_cell N0.out 0).trans rfl
      have n01 : w0.cell? ⟨b6,1,none⟩ = some (.int .i64 a2_1) := (blk_cell N0.out 1).trans rfl
      have n02 : w0.cell? ⟨b6,2,none⟩ = some (.float .f64 a2_2) := (blk_cell N0.out 2).trans rfl
      have n03 : w0.cell? ⟨b6,3,none⟩ = some (.float .f64 a2_3) := (blk_cell N0.out 3).trans rfl
      have n04 : w0.cell? ⟨b6,4,none⟩ = some (.int .i64 a2_4) := (blk_cell N0.out 4).trans rfl
      have ltn0 := blk_lt N0.out
      have z00 : w0.cell? ⟨b8,0,none⟩ = some (.int .i64 0) := (blk_cell Z0.out 0).trans rfl
      have z01 : w0.cell? ⟨b8,1,none⟩ = some (.int .i64 0) := (blk_cell Z0.out 1).trans rfl
      have z02 : w0.cell? ⟨b8,2,none⟩ = some (.float .f64 0) := (blk_cell Z0.out 2).trans rfl
      have z03 : w0.cell? ⟨b8,3,none⟩ = some (.int .i64 0) := (blk_cell Z0.out 3).trans rfl
      have z04 : w0.cell? ⟨b8,4,none⟩ = some (.float .f64 0) := (blk_cell Z0.out 4).trans rfl
      have z05 : w0.cell? ⟨b8,5,none⟩ = some (.int .i64 0) := (blk_cell Z0.out 5).trans rfl
      have ltz0 := blk_lt Z0.out
      go_wp2_with (first | (go_at_call 41;refine (metric_Add.calls _ _ _ _ _ AD.out).mono ?_;rintro e w1 ⟨rfl,hd1⟩;have B1 := Aside0.mk (below_then B0.out B0.out.size hd1.below);have H1 := Aside0.mk (blk_below H0.out hd1.below);have N1 := Aside0.mk (blk_below N0.out hd1.below);have Z1 := Aside0.mk (blk_below Z0.out hd1.below);clear hd1;have h10 : w1.cell? ⟨b5,0,none⟩ = some (.int .i64 a1_0) := (blk_cell H1.out 0).trans rfl;have h11 : w1.cell? ⟨b5,1,none⟩ = some (.float .f64 a1_1) := (blk_cell H1.out 1).trans rfl;have h12 : w1.cell? ⟨b5,2,none⟩ = some (.slice A1_2 l1_2.length c1_2) := (blk_cell H1.out 2).trans rfl;have lth1 := blk_lt H1.out;have n10 : w1.cell? ⟨b6,0,none⟩ = some (.int .i64 a2_0) := (blk_cell N1.out 0).trans rfl;have n11 : w1.cell? ⟨b6,1,none⟩ = some (.int .i64 a2_1) := (blk_cell N1.out 1).trans rfl;have n12 : w1.cell? ⟨b6,2,none⟩ = some (.float .f64 a2_2) := (blk_cell N1.out 2).trans rfl;have n13 : w1.cell? ⟨b6,3,none⟩ = some (.float .f64 a2_3) := (blk_cell N1.out 3).trans rfl;have n14 : w1.cell? ⟨b6,4,none⟩ = some (.int .i64 a2_4) := (blk_cell N1.out 4).trans rfl;have ltn1 := blk_lt N1.out;have z10 : w1.cell? ⟨b8,0,none⟩ = some (.int .i64 0) := (blk_cell Z1.out 0).trans rfl;have z11 : w1.cell? ⟨b8,1,none⟩ = some (.int .i64 0) := (blk_cell Z1.out 1).trans rfl;have z12 : w1.cell? ⟨b8,2,none⟩ = some (.float .f64 0) := (blk_cell Z1.out 2).trans rfl;have z13 : w1.cell? ⟨b8,3,none⟩ = some (.int .i64 0) := (blk_cell Z1.out 3).trans rfl;have z14 : w1.cell? ⟨b8,4,none⟩ = some (.float .f64 0) := (blk_cell Z1.out 4).trans rfl;have z15 : w1.cell? ⟨b8,5,none⟩ = some (.int .i64 0) := (blk_cell Z1.out 5).trans rfl;have ltz1 := blk_lt Z1.out;have z1z0 := blk_frozen Z1.out 0;have z1z1 := blk_frozen Z1.out 1;have z1z2 := blk_frozen Z1.out 2;have z1z3 := blk_frozen Z1.out 3;have z1z4 := blk_frozen Z1.out 4;have z1z5 := blk_frozen Z1.out 5) | (go_at_call 62;refine (math_IsInf.calls _ 1 _ _ FT.out).mono ?_;rintro e w2 ⟨rfl,hd2⟩;have B2 := Aside0.mk (below_then (below_alloc B1.out (Obj.cells #[.int .i64 a2_0,.int .i64 2,.float .f64 r3,.int .i64 a1_0,.float .f64 a2_3,.int .i64 a2_4] 58)) (below_alloc B1.out (Obj.cells #[.int .i64 a2_0,.int .i64 2,.float .f64 r3,.int .i64 a1_0,.float .f64 a2_3,.int .i64 a2_4] 58)).size hd2.below);have N2 := Aside0.mk (blk_below (blk_alloc N1.out (Obj.cells #[.int .i64 a2_0,.int .i64 2,.float .f64 r3,.int .i64 a1_0,.float .f64 a2_3,.int .i64 a2_4] 58)) hd2.below);have Z2 := Aside0.mk (blk_below (blk_alloc Z1.out (Obj.cells #[.int .i64 a2_0,.int .i64 2,.float .f64 r3,.int .i64 a1_0,.float .f64 a2_3,.int .i64 a2_4] 58)) hd2.below);have X2 := Aside0.mk (blk_below (blk_new w1 (Obj.cells #[.int .i64 a2_0,.int .i64 2,.float .f64 r3,.int .i64 a1_0,.float .f64 a2_3,.int .i64 a2_4] 58)) hd2.below);have NZX : Aside0 (b8 ≠ w1.heap.size) := ⟨by have := blk_lt Z1.out;omega⟩;clear hd2;have n20 : w2.cell? ⟨b6,0,none⟩ = some (.int .i64 a2_0) := (blk_cell N2.out 0).trans rfl;have n21 : w2.cell? ⟨b6,1,none⟩ = some (.int .i64 a2_1) := (blk_cell N2.out 1).trans rfl;have n22 : w2.cell? ⟨b6,2,none⟩ = some (.float .f64 a2_2) := (blk_cell N2.out 2).trans rfl;have n23 : w2.cell? ⟨b6,3,none⟩ = some (.float .f64 a2_3) := (blk_cell N2.out 3).trans rfl;have n24 : w2.cell? ⟨b6,4,none⟩ = some (.int .i64 a2_4) := (blk_cell N2.out 4).trans rfl;have ltn2 := blk_lt N2.out;have z20 : w2.cell? ⟨b8,0,none⟩ = some (.int .i64 0) := (blk_cell Z2.out 0).trans rfl;have z21 : w2.cell? ⟨b8,1,none⟩ = some (.int .i64 0) := (blk_cell Z2.out 1).trans rfl;have z22 : w2.cell? ⟨b8,2,none⟩ = some (.float .f64 0) := (blk_cell Z2.out 2).trans rfl;have z23 : w2.cell? ⟨b8,3,none⟩ = some (.int .i64 0) := (blk_cell Z2.out 3).trans rfl;have z24 : w2.cell? ⟨b8,4,none⟩ = some (.float .f64 0) := (blk_cell Z2.out 4).trans rfl;have z25 : w2.cell? ⟨b8,5,none⟩ = some (.int .i64 0) := (blk_cell Z2.out 5).trans rfl;have ltz2 := blk_lt Z2.out;have z2z0 := blk_frozen Z2.out 0;have z2z1 := blk_frozen Z2.out 1;have z2z2 := blk_frozen Z2.out 2;have z2z3 := blk_frozen Z2.out 3;have z2z4 := blk_frozen Z2.out 4;have z2z5 := blk_frozen Z2.out 5;have x20 : w2.cell? ⟨w1.heap.size,0,none⟩ = some (.int .i64 a2_0) := (blk_cell X2.out 0).trans rfl;have x21 : w2.cell? ⟨w1.heap.size,1,none⟩ = some (.int .i64 2) := (blk_cell X2.out 1).trans rfl;have x22 : w2.cell? ⟨w1.heap.size,2,none⟩ = some (.float .f64 r3) := (blk_cell X2.out 2).trans rfl;have x23 : w2.cell? ⟨w1.heap.size,3,none⟩ = some (.int .i64 a1_0) := (blk_cell X2.out 3).trans rfl;have x24 : w2.cell? ⟨w1.heap.size,4,none⟩ = some (.float .f64 a2_3) := (blk_cell X2.out 4).trans rfl;have x25 : w2.cell? ⟨w1.heap.size,5,none⟩ = some (.int .i64 a2_4) := (blk_cell X2.out 5).trans rfl;have ltx2 := blk_lt X2.out;have x2z0 := blk_frozen X2.out 0;have x2z1 := blk_frozen X2.out 1;have x2z2 := blk_frozen X2.out 2;have x2z3 := blk_frozen X2.out 3;have x2z4 := blk_frozen X2.out 4;have x2z5 := blk_frozen X2.out 5))
      refine bodyPost_ret (results_ct rfl _ _ b8 58 #[.int .i64 a2_0,.int .i64 2,.float .f64 r3,.int .i64 a1_0,.float .f64 a2_3,.int .i64 a2_4] (0,0) _ rfl (blk_set6 Z2.out (.int .i64 a2_0) (.int .i64 2) (.float .f64 r3) (.int .i64 a1_0) (.float .f64 a2_3) (.int .i64 a2_4)) Try.underlying58 rfl (by kernel_rfl)) rfl ?_
      exact ⟨rfl,below_set6 B2.out GE8.out (.int .i64 a2_0) (.int .i64 2) (.float .f64 r3) (.int .i64 a1_0) (.float .f64 a2_3) (.int .i64 a2_4)⟩
    clear hts
    go_enter Try.func33,Try.ntmps33
    go_upto_region 1 with fail
    obtain ⟨w0,hw0⟩ : ∃ w0,w0 = (((w.alloc (.cells #[.int .i64 a1_0,.float .f64 a1_1,.slice A1_2 l1_2.length c1_2] 54)).alloc (.cells #[.int .i64 a2_0,.int .i64 a2_1,.float .f64 a2_2,.float .f64 a2_3,.int .i64 a2_4] 56)).alloc (.cells #[.int .i64 0,.int .i64 0,.float .f64 0,.int .i64 0,.float .f64 0,.int .i64 0] 58)) := ⟨_,rfl⟩
    rw [← hw0]
    have H0 : Aside0 (w0.heap[w.heap.size]? = some (.cells #[.int .i64 a1_0,.float .f64 a1_1,.slice A1_2 l1_2.length c1_2] 54 (0,0))) := ⟨by rw [hw0];exact blk_alloc (blk_alloc (blk_new w _) _) _⟩
    have N0 : Aside0 (w0.heap[w.heap.size + 1]? = some (.cells #[.int .i64 a2_0,.int .i64 a2_1,.float .f64 a2_2,.float .f64 a2_3,.int .i64 a2_4] 56 (0,0))) := ⟨by rw [hw0];have := blk_alloc (blk_new (w.alloc (.cells #[.int .i64 a1_0,.float .f64 a1_1,.slice A1_2 l1_2.length c1_2] 54)) (.cells #[.int .i64 a2_0,.int .i64 a2_1,.float .f64 a2_2,.float .f64 a2_3,.int .i64 a2_4] 56)) (.cells #[.int .i64 0,.int .i64 0,.float .f64 0,.int .i64 0,.float .f64 0,.int .i64 0] 58);rwa [World.size_alloc] at this⟩
    have Z0 : Aside0 (w0.heap[w.heap.size + 1 + 1]? = some (.cells #[.int .i64 0,.int .i64 0,.float .f64 0,.int .i64 0,.float .f64 0,.int .i64 0] 58 (0,0))) := ⟨by rw [hw0];have := blk_new ((w.alloc (.cells #[.int .i64 a1_0,.float .f64 a1_1,.slice A1_2 l1_2.length c1_2] 54)).alloc (.cells #[.int .i64 a2_0,.int .i64 a2_1,.float .f64 a2_2,.float .f64 a2_3,.int .i64 a2_4] 56)) (.cells #[.int .i64 0,.int .i64 0,.float .f64 0,.int .i64 0,.float .f64 0,.int .i64 0] 58);rwa [World.size_alloc,World.size_alloc] at this⟩
    have B0 : Aside0 (Below w.heap.size w w0) := ⟨by rw [hw0];exact below_alloc (below_alloc (below_alloc (Below.refl _ _) _) _) _⟩
    obtain ⟨b8,hb8⟩ : ∃ b,b = w.heap.size + 1 + 1 := ⟨_,rfl⟩
    obtain ⟨b6,hb6⟩ : ∃ b,b = w.heap.size + 1 := ⟨_,rfl⟩
    obtain ⟨b5,hb5⟩ : ∃ b,b = w.heap.size := ⟨_,rfl⟩
    have GE8 : Aside0 (w.heap.size ≤ b8) := ⟨by omega⟩
    have GE6 : Aside0 (w.heap.size ≤ b6) := ⟨by omega⟩
    have d68 : b6 ≠ b8 := by omega
    have d86 : b8 ≠ b6 := by omega
    rw [← hb8] at Z0 ⊢
    rw [← hb6] at N0 ⊢
    rw [← hb5] at H0
    have hgs := Aside0.mk hb5
    rw [← hb5]
    clear hw0 hb8 hb6 hb5
    have h00 : w0.cell? ⟨b5,0,none⟩ = some (.int .i64 a1_0) := (blk_cell H0.out 0).trans rfl
    have h01 : w0.cell? ⟨b5,1,none⟩ = some (.float .f64 a1_1) := (blk_cell H0.out 1).trans rfl
    have h02 : w0.cell? ⟨b5,2,none⟩ = some (.slice A1_2 l1_2.length c1_2) := (blk_cell H0.out 2).trans rfl
    have lth0 := blk_lt H0.out
    have n00 : w0.cell? ⟨b6,0,none⟩ = some (.int .i64 a2_0) := (blk_cell N0.out 0).trans rfl
    have n01 : w0.cell? ⟨b6,1,none⟩ = some (.int .i64 a2_1) := (blk_cell N0.out 1).trans rfl
    have n02 : w0.cell? ⟨b6,2,none⟩ = some (.float .f64 a2_2) := (blk_cell N0.out 2).trans rfl
    have n03 : w0.cell? ⟨b6,3,none⟩ = some (.float .f64 a2_3) := (blk_cell N0.out 3).trans rfl
    have n04 : w0.cell? ⟨b6,4,none⟩ = some (.int .i64 a2_4) := (blk_cell N0.out 4).trans rfl
    have ltn0 := blk_lt N0.out
    have z00 : w0.cell? ⟨b8,0,none⟩ = some (.int .i64 0) := (blk_cell Z0.out 0).trans rfl
    have z01 : w0.cell? ⟨b8,1,none⟩ = some (.int .i64 0) := (blk_cell Z0.out 1).trans rfl
    have z02 : w0.cell? ⟨b8,2,none⟩ = some (.float .f64 0) := (blk_cell Z0.out 2).trans rfl
    have z03 : w0.cell? ⟨b8,3,none⟩ = some (.int .i64 0) := (blk_cell Z0.out 3).trans rfl
    have z04 : w0.cell? ⟨b8,4,none⟩ = some (.float .f64 0) := (blk_cell Z0.out 4).trans rfl
    have z05 : w0.cell? ⟨b8,5,none⟩ = some (.int .i64 0) := (blk_cell Z0.out 5).trans rfl
    have ltz0 := blk_lt Z0.out
    go_wp2_with (first | (go_at_call 41;refine (metric_Add.calls _ _ _ _ _ AD.out).mono ?_;rintro e w1 ⟨rfl,hd1⟩;have B1 := Aside0.mk (below_then B0.out B0.out.size hd1.below);have H1 := Aside0.mk (blk_below H0.out hd1.below);have N1 := Aside0.mk (blk_below N0.out hd1.below);have Z1 := Aside0.mk (blk_below Z0.out hd1.below);clear hd1;have h10 : w1.cell? ⟨b5,0,none⟩ = some (.int .i64 a1_0) := (blk_cell H1.out 0).trans rfl;have h11 : w1.cell? ⟨b5,1,none⟩ = some (.float .f64 a1_1) := (blk_cell H1.out 1).trans rfl;have h12 : w1.cell? ⟨b5,2,none⟩ = some (.slice A1_2 l1_2.length c1_2) := (blk_cell H1.out 2).trans rfl;have lth1 := blk_lt H1.out;have n10 : w1.cell? ⟨b6,0,none⟩ = some (.int .i64 a2_0) := (blk_cell N1.out 0).trans rfl;have n11 : w1.cell? ⟨b6,1,none⟩ = some (.int .i64 a2_1) := (blk_cell N1.out 1).trans rfl;have n12 : w1.cell? ⟨b6,2,none⟩ = some (.float .f64 a2_2) := (blk_cell N1.out 2).trans rfl;have n13 : w1.cell? ⟨b6,3,none⟩ = some (.float .f64 a2_3) := (blk_cell N1.out 3).trans rfl;have n14 : w1.cell? ⟨b6,4,none⟩ = some (.int .i64 a2_4) := (blk_cell N1.out 4).trans rfl;have ltn1 := blk_lt N1.out;have z10 : w1.cell? ⟨b8,0,none⟩ = some (.int .i64 0) := (blk_cell Z1.out 0).trans rfl;have z11 : w1.cell? ⟨b8,1,none⟩ = some (.int .i64 0) := (blk_cell Z1.out 1).trans rfl;have z12 : w1.cell? ⟨b8,2,none⟩ = some (.float .f64 0) := (blk_cell Z1.out 2).trans rfl;have z13 : w1.cell? ⟨b8,3,none⟩ = some (.int .i64 0) := (blk_cell Z1.out 3).trans rfl;have z14 : w1.cell? ⟨b8,4,none⟩ = some (.float .f64 0) := (blk_cell Z1.out 4).trans rfl;have z15 : w1.cell? ⟨b8,5,none⟩ = some (.int .i64 0) := (blk_cell Z1.out 5).trans rfl;have ltz1 := blk_lt Z1.out;have z1z0 := blk_frozen Z1.out 0;have z1z1 := blk_frozen Z1.out 1;have z1z2 := blk_frozen Z1.out 2;have z1z3 := blk_frozen Z1.out 3;have z1z4 := blk_frozen Z1.out 4;have z1z5 := blk_frozen Z1.out 5) | (go_at_call 62;refine (math_IsInf.calls _ 1 _ _ FT.out).mono ?_;rintro e w2 ⟨rfl,hd2⟩;have B2 := Aside0.mk (below_then (below_alloc B1.out (Obj.cells #[.int .i64 a2_0,.int .i64 2,.float .f64 r3,.int .i64 a1_0,.float .f64 a2_3,.int .i64 a2_4] 58)) (below_alloc B1.out (Obj.cells #[.int .i64 a2_0,.int .i64 2,.float .f64 r3,.int .i64 a1_0,.float .f64 a2_3,.int .i64 a2_4] 58)).size hd2.below);have N2 := Aside0.mk (blk_below (blk_alloc N1.out (Obj.cells #[.int .i64 a2_0,.int .i64 2,.float .f64 r3,.int .i64 a1_0,.float .f64 a2_3,.int .i64 a2_4] 58)) hd2.below);have Z2 := Aside0.mk (blk_below (blk_alloc Z1.out (Obj.cells #[.int .i64 a2_0,.int .i64 2,.float .f64 r3,.int .i64 a1_0,.float .f64 a2_3,.int .i64 a2_4] 58)) hd2.below);have X2 := Aside0.mk (blk_below (blk_new w1 (Obj.cells #[.int .i64 a2_0,.int .i64 2,.float .f64 r3,.int .i64 a1_0,.float .f64 a2_3,.int .i64 a2_4] 58)) hd2.below);have NZX : Aside0 (b8 ≠ w1.heap.size) := ⟨by have := blk_lt Z1.out;omega⟩;clear hd2;have n20 : w2.cell? ⟨b6,0,none⟩ = some (.int .i64 a2_0) := (blk_cell N2.out 0).trans rfl;have n21 : w2.cell? ⟨b6,1,none⟩ = some (.int .i64 a2_1) := (blk_cell N2.out 1).trans rfl;have n22 : w2.cell? ⟨b6,2,none⟩ = some (.float .f64 a2_2) := (blk_cell N2.out 2).trans rfl;have n23 : w2.cell? ⟨b6,3,none⟩ = some (.float .f64 a2_3) := (blk_cell N2.out 3).trans rfl;have n24 : w2.cell? ⟨b6,4,none⟩ = some (.int .i64 a2_4) := (blk_cell N2.out 4).trans rfl;have ltn2 := blk_lt N2.out;have z20 : w2.cell? ⟨b8,0,none⟩ = some (.int .i64 0) := (blk_cell Z2.out 0).trans rfl;have z21 : w2.cell? ⟨b8,1,none⟩ = some (.int .i64 0) := (blk_cell Z2.out 1).trans rfl;have z22 : w2.cell? ⟨b8,2,none⟩ = some (.float .f64 0) := (blk_cell Z2.out 2).trans rfl;have z23 : w2.cell? ⟨b8,3,none⟩ = some (.int .i64 0) := (blk_cell Z2.out 3).trans rfl;have z24 : w2.cell? ⟨b8,4,none⟩ = some (.float .f64 0) := (blk_cell Z2.out 4).trans rfl;have z25 : w2.cell? ⟨b8,5,none⟩ = some (.int .i64 0) := (blk_cell Z2.out 5).trans rfl;have ltz2 := blk_lt Z2.out;have z2z0 := blk_frozen Z2.out 0;have z2z1 := blk_frozen Z2.out 1;have z2z2 := blk_frozen Z2.out 2;have z2z3 := blk_frozen Z2.out 3;have z2z4 := blk_frozen Z2.out 4;have z2z5 := blk_frozen Z2.out 5;have x20 : w2.cell? ⟨w1.heap.size,0,none⟩ = some (.int .i64 a2_0) := (blk_cell X2.out 0).trans rfl;have x21 : w2.cell? ⟨w1.heap.size,1,none⟩ = some (.int .i64 2) := (blk_cell X2.out 1).trans rfl;have x22 : w2.cell? ⟨w1.heap.size,2,none⟩ = some (.float .f64 r3) := (blk_cell X2.out 2).trans rfl;have x23 : w2.cell? ⟨w1.heap.size,3,none⟩ = some (.int .i64 a1_0) := (blk_cell X2.out 3).trans rfl;have x24 : w2.cell? ⟨w1.heap.size,4,none⟩ = some (.float .f64 a2_3) := (blk_cell X2.out 4).trans rfl;have x25 : w2.cell? ⟨w1.heap.size,5,none⟩ = some (.int .i64 a2_4) := (blk_cell X2.out 5).trans rfl;have ltx2 := blk_lt X2.out;have x2z0 := blk_frozen X2.out 0;have x2z1 := blk_frozen X2.out 1;have x2z2 := blk_frozen X2.out 2;have x2z3 := blk_frozen X2.out 3;have x2z4 := blk_frozen X2.out 4;have x2z5 := blk_frozen X2.out 5))
    refine bodyPost_ret (results_ct rfl _ _ b8 58 #[.int .i64 a2_0,.int .i64 2,.float .f64 r3,.int .i64 a1_0,.float .f64 a2_3,.int .i64 a2_4] (0,0) _ rfl (blk_set6 Z2.out (.int .i64 a2_0) (.int .i64 2) (.float .f64 r3) (.int .i64 a1_0) (.float .f64 a2_3) (.int .i64 a2_4)) Try.underlying58 rfl (by kernel_rfl)) rfl ?_
    exact ⟨rfl,below_set6 B2.out GE8.out (.int .i64 a2_0) (.int .i64 2) (.float .f64 r3) (.int .i64 a1_0) (.float .f64 a2_3) (.int .i64 a2_4)⟩
  rw [if_neg hts] at h
  obtain ⟨rfl,hs⟩ : t = false ∧ ¬ a2_0 = a0 := by simpa using hts
  have hsb : (a2_0 == a0) = false := by simpa using hs
  clear hts hs
  by_cases hl : (FloatKind.f64.format.order d a2_3 == some .lt) = true
  · rw [if_pos hl] at h
    cases h
    go_enter Try.func33,Try.ntmps33
    go_upto_region 1 with fail
    obtain ⟨w0,hw0⟩ : ∃ w0,w0 = (((w.alloc (.cells #[.int .i64 a1_0,.float .f64 a1_1,.slice A1_2 l1_2.length c1_2] 54)).alloc (.cells #[.int .i64 a2_0,.int .i64 a2_1,.float .f64 a2_2,.float .f64 a2_3,.int .i64 a2_4] 56)).alloc (.cells #[.int .i64 0,.int .i64 0,.float .f64 0,.int .i64 0,.float .f64 0,.int .i64 0] 58)) := ⟨_,rfl⟩
    rw [← hw0]
    have H0 : Aside0 (w0.heap[w.heap.size]? = some (.cells #[.int .i64 a1_0,.float .f64 a1_1,.slice A1_2 l1_2.length c1_2] 54 (0,0))) := ⟨by rw [hw0];exact blk_alloc (blk_alloc (blk_new w _) _) _⟩
    have N0 : Aside0 (w0.heap[w.heap.size + 1]? = some (.cells #[.int .i64 a2_0,.int .i64 a2_1,.float .f64 a2_2,.float .f64 a2_3,.int .i64 a2_4] 56 (0,0))) := ⟨by rw [hw0];have := blk_alloc (blk_new (w.alloc (.cells #[.int .i64 a1_0,.float .f64 a1_1,.slice A1_2 l1_2.length c1_2] 54)) (.cells #[.int .i64 a2_0,.int .i64 a2_1,.float .f64 a2_2,.float .f64 a2_3,.int .i64 a2_4] 56)) (.cells #[.int .i64 0,.int .i64 0,.float .f64 0,.int .i64 0,.float .f64 0,.int .i64 0] 58);rwa [World.size_alloc] at this⟩
    have Z0 : Aside0 (w0.heap[w.heap.size + 1 + 1]? = some (.cells #[.int .i64 0,.int .i64 0,.float .f64 0,.int .i64 0,.float .f64 0,.int .i64 0] 58 (0,0))) := ⟨by rw [hw0];have := blk_new ((w.alloc (.cells #[.int .i64 a1_0,.float .f64 a1_1,.slice A1_2 l1_2.length c1_2] 54)).alloc (.cells #[.int .i64 a2_0,.int .i64 a2_1,.float .f64 a2_2,.float .f64 a2_3,.int .i64 a2_4] 56)) (.cells #[.int .i64 0,.int .i64 0,.float .f64 0,.int .i64 0,.float .f64 0,.int .i64 0] 58);rwa [World.size_alloc,World.size_alloc] at this⟩
    have B0 : Aside0 (Below w.heap.size w w0) := ⟨by rw [hw0];exact below_alloc (below_alloc (below_alloc (Below.refl _ _) _) _) _⟩
    obtain ⟨b8,hb8⟩ : ∃ b,b = w.heap.size + 1 + 1 := ⟨_,rfl⟩
    obtain ⟨b6,hb6⟩ : ∃ b,b = w.heap.size + 1 := ⟨_,rfl⟩
    obtain ⟨b5,hb5⟩ : ∃ b,b = w.heap.size := ⟨_,rfl⟩
    have GE8 : Aside0 (w.heap.size ≤ b8) := ⟨by omega⟩
    have GE6 : Aside0 (w.heap.size ≤ b6) := ⟨by omega⟩
    have d68 : b6 ≠ b8 := by omega
    have d86 : b8 ≠ b6 := by omega
    rw [← hb8] at Z0 ⊢
    rw [← hb6] at N0 ⊢
    rw [← hb5] at H0
    have hgs := Aside0.mk hb5
    rw [← hb5]
    clear hw0 hb8 hb6 hb5
    have h00 : w0.cell? ⟨b5,0,none⟩ = some (.int .i64 a1_0) := (blk_cell H0.out 0).trans rfl
    have h01 : w0.cell? ⟨b5,1,none⟩ = some (.float .f64 a1_1) := (blk_cell H0.out 1).trans rfl
    have h02 : w0.cell? ⟨b5,2,none⟩ = some (.slice A1_2 l1_2.length c1_2) := (blk_cell H0.out 2).trans rfl
    have lth0 := blk_lt H0.out
    have n00 : w0.cell? ⟨b6,0,none⟩ = some (.int .i64 a2_0) := (blk_cell N0.out 0).trans rfl
    have n01 : w0.cell? ⟨b6,1,none⟩ = some (.int .i64 a2_1) := (blk_cell N0.out 1).trans rfl
    have n02 : w0.cell? ⟨b6,2,none⟩ = some (.float .f64 a2_2) := (blk_cell N0.out 2).trans rfl
    have n03 : w0.cell? ⟨b6,3,none⟩ = some (.float .f64 a2_3) := (blk_cell N0.out 3).trans rfl
    have n04 : w0.cell? ⟨b6,4,none⟩ = some (.int .i64 a2_4) := (blk_cell N0.out 4).trans rfl
    have ltn0 := blk_lt N0.out
    have z00 : w0.cell? ⟨b8,0,none⟩ = some (.int .i64 0) := (blk_cell Z0.out 0).trans rfl
    have z01 : w0.cell? ⟨b8,1,none⟩ = some (.int .i64 0) := (blk_cell Z0.out 1).trans rfl
    have z02 : w0.cell? ⟨b8,2,none⟩ = some (.float .f64 0) := (blk_cell Z0.out 2).trans rfl
    have z03 : w0.cell? ⟨b8,3,none⟩ = some (.int .i64 0) := (blk_cell Z0.out 3).trans rfl
    have z04 : w0.cell? ⟨b8,4,none⟩ = some (.float .f64 0) := (blk_cell Z0.out 4).trans rfl
    have z05 : w0.cell? ⟨b8,5,none⟩ = some (.int .i64 0) := (blk_cell Z0.out 5).trans rfl
    have ltz0 := blk_lt Z0.out
    go_wp2_with (first | (go_at_call 41;refine (metric_Add.calls _ _ _ _ _ AD.out).mono ?_;rintro e w1 ⟨rfl,hd1⟩;have B1 := Aside0.mk (below_then B0.out B0.out.size hd1.below);have H1 := Aside0.mk (blk_below H0.out hd1.below);have N1 := Aside0.mk (blk_below N0.out hd1.below);have Z1 := Aside0.mk (blk_below Z0.out hd1.below);clear hd1;have h10 : w1.cell? ⟨b5,0,none⟩ = some (.int .i64 a1_0) := (blk_cell H1.out 0).trans rfl;have h11 : w1.cell? ⟨b5,1,none⟩ = some (.float .f64 a1_1) := (blk_cell H1.out 1).trans rfl;have h12 : w1.cell? ⟨b5,2,none⟩ = some (.slice A1_2 l1_2.length c1_2) := (blk_cell H1.out 2).trans rfl;have lth1 := blk_lt H1.out;have n10 : w1.cell? ⟨b6,0,none⟩ = some (.int .i64 a2_0) := (blk_cell N1.out 0).trans rfl;have n11 : w1.cell? ⟨b6,1,none⟩ = some (.int .i64 a2_1) := (blk_cell N1.out 1).trans rfl;have n12 : w1.cell? ⟨b6,2,none⟩ = some (.float .f64 a2_2) := (blk_cell N1.out 2).trans rfl;have n13 : w1.cell? ⟨b6,3,none⟩ = some (.float .f64 a2_3) := (blk_cell N1.out 3).trans rfl;have n14 : w1.cell? ⟨b6,4,none⟩ = some (.int .i64 a2_4) := (blk_cell N1.out 4).trans rfl;have ltn1 := blk_lt N1.out;have z10 : w1.cell? ⟨b8,0,none⟩ = some (.int .i64 0) := (blk_cell Z1.out 0).trans rfl;have z11 : w1.cell? ⟨b8,1,none⟩ = some (.int .i64 0) := (blk_cell Z1.out 1).trans rfl;have z12 : w1.cell? ⟨b8,2,none⟩ = some (.float .f64 0) := (blk_cell Z1.out 2).trans rfl;have z13 : w1.cell? ⟨b8,3,none⟩ = some (.int .i64 0) := (blk_cell Z1.out 3).trans rfl;have z14 : w1.cell? ⟨b8,4,none⟩ = some (.float .f64 0) := (blk_cell Z1.out 4).trans rfl;have z15 : w1.cell? ⟨b8,5,none⟩ = some (.int .i64 0) := (blk_cell Z1.out 5).trans rfl;have ltz1 := blk_lt Z1.out;have z1z0 := blk_frozen Z1.out 0;have z1z1 := blk_frozen Z1.out 1;have z1z2 := blk_frozen Z1.out 2;have z1z3 := blk_frozen Z1.out 3;have z1z4 := blk_frozen Z1.out 4;have z1z5 := blk_frozen Z1.out 5) | (go_at_call 62;refine (math_IsInf.calls _ 1 _ _ FT.out).mono ?_;rintro e w2 ⟨rfl,hd2⟩;have B2 := Aside0.mk (below_then (below_alloc B1.out (Obj.cells #[.int .i64 a2_0,.int .i64 2,.float .f64 r3,.int .i64 a1_0,.float .f64 a2_3,.int .i64 a2_4] 58)) (below_alloc B1.out (Obj.cells #[.int .i64 a2_0,.int .i64 2,.float .f64 r3,.int .i64 a1_0,.float .f64 a2_3,.int .i64 a2_4] 58)).size hd2.below);have N2 := Aside0.mk (blk_below (blk_alloc N1.out (Obj.cells #[.int .i64 a2_0,.int .i64 2,.float .f64 r3,.int .i64 a1_0,.float .f64 a2_3,.int .i64 a2_4] 58)) hd2.below);have Z2 := Aside0.mk (blk_below (blk_alloc Z1.out (Obj.cells #[.int .i64 a2_0,.int .i64 2,.float .f64 r3,.int .i64 a1_0,.float .f64 a2_3,.int .i64 a2_4] 58)) hd2.below);have X2 := Aside0.mk (blk_below (blk_new w1 (Obj.cells #[.int .i64 a2_0,.int .i64 2,.float .f64 r3,.int .i64 a1_0,.float .f64 a2_3,.int .i64 a2_4] 58)) hd2.below);have NZX : Aside0 (b8 ≠ w1.heap.size) := ⟨by have := blk_lt Z1.out;omega⟩;clear hd2;have n20 : w2.cell? ⟨b6,0,none⟩ = some (.int .i64 a2_0) := (blk_cell N2.out 0).trans rfl;have n21 : w2.cell? ⟨b6,1,none⟩ = some (.int .i64 a2_1) := (blk_cell N2.out 1).trans rfl;have n22 : w2.cell? ⟨b6,2,none⟩ = some (.float .f64 a2_2) := (blk_cell N2.out 2).trans rfl;have n23 : w2.cell? ⟨b6,3,none⟩ = some (.float .f64 a2_3) := (blk_cell N2.out 3).trans rfl;have n24 : w2.cell? ⟨b6,4,none⟩ = some (.int .i64 a2_4) := (blk_cell N2.out 4).trans rfl;have ltn2 := blk_lt N2.out;have z20 : w2.cell? ⟨b8,0,none⟩ = some (.int .i64 0) := (blk_cell Z2.out 0).trans rfl;have z21 : w2.cell? ⟨b8,1,none⟩ = some (.int .i64 0) := (blk_cell Z2.out 1).trans rfl;have z22 : w2.cell? ⟨b8,2,none⟩ = some (.float .f64 0) := (blk_cell Z2.out 2).trans rfl;have z23 : w2.cell? ⟨b8,3,none⟩ = some (.int .i64 0) := (blk_cell Z2.out 3).trans rfl;have z24 : w2.cell? ⟨b8,4,none⟩ = some (.float .f64 0) := (blk_cell Z2.out 4).trans rfl;have z25 : w2.cell? ⟨b8,5,none⟩ = some (.int .i64 0) := (blk_cell Z2.out 5).trans rfl;have ltz2 := blk_lt Z2.out;have z2z0 := blk_frozen Z2.out 0;have z2z1 := blk_frozen Z2.out 1;have z2z2 := blk_frozen Z2.out 2;have z2z3 := blk_frozen Z2.out 3;have z2z4 := blk_frozen Z2.out 4;have z2z5 := blk_frozen Z2.out 5;have x20 : w2.cell? ⟨w1.heap.size,0,none⟩ = some (.int .i64 a2_0) := (blk_cell X2.out 0).trans rfl;have x21 : w2.cell? ⟨w1.heap.size,1,none⟩ = some (.int .i64 2) := (blk_cell X2.out 1).trans rfl;have x22 : w2.cell? ⟨w1.heap.size,2,none⟩ = some (.float .f64 r3) := (blk_cell X2.out 2).trans rfl;have x23 : w2.cell? ⟨w1.heap.size,3,none⟩ = some (.int .i64 a1_0) := (blk_cell X2.out 3).trans rfl;have x24 : w2.cell? ⟨w1.heap.size,4,none⟩ = some (.float .f64 a2_3) := (blk_cell X2.out 4).trans rfl;have x25 : w2.cell? ⟨w1.heap.size,5,none⟩ = some (.int .i64 a2_4) := (blk_cell X2.out 5).trans rfl;have ltx2 := blk_lt X2.out;have x2z0 := blk_frozen X2.out 0;have x2z1 := blk_frozen X2.out 1;have x2z2 := blk_frozen X2.out 2;have x2z3 := blk_frozen X2.out 3;have x2z4 := blk_frozen X2.out 4;have x2z5 := blk_frozen X2.out 5))
    refine bodyPost_ret (results_ct rfl _ _ b8 58 #[.int .i64 a2_0,.int .i64 2,.float .f64 r3,.int .i64 a1_0,.float .f64 a2_3,.int .i64 a2_4] (0,0) _ rfl (blk_set6 Z2.out (.int .i64 a2_0) (.int .i64 2) (.float .f64 r3) (.int .i64 a1_0) (.float .f64 a2_3) (.int .i64 a2_4)) Try.underlying58 rfl (by kernel_rfl)) rfl ?_
    exact ⟨rfl,below_set6 B2.out GE8.out (.int .i64 a2_0) (.int .i64 2) (.float .f64 r3) (.int .i64 a1_0) (.float .f64 a2_3) (.int .i64 a2_4)⟩
  rw [if_neg hl] at h
  have hlb := Bool.eq_false_iff.mpr hl
  clear hl
  obtain ⟨eq,heq⟩ : ∃ b,(FloatKind.f64.format.order d a2_3 == some .eq) = b := ⟨_,rfl⟩
  rw [heq] at h
  cases eq
  · cases h
    go_enter Try.func33,Try.ntmps33
    go_upto_region 1 with fail
    obtain ⟨w0,hw0⟩ : ∃ w0,w0 = (((w.alloc (.cells #[.int .i64 a1_0,.float .f64 a1_1,.slice A1_2 l1_2.length c1_2] 54)).alloc (.cells #[.int .i64 a2_0,.int .i64 a2_1,.float .f64 a2_2,.float .f64 a2_3,.int .i64 a2_4] 56)).alloc (.cells #[.int .i64 0,.int .i64 0,.float .f64 0,.int .i64 0,.float .f64 0,.int .i64 0] 58)) := ⟨_,rfl⟩
    rw [← hw0]
    have H0 : Aside0 (w0.heap[w.heap.size]? = some (.cells #[.int .i64 a1_0,.float .f64 a1_1,.slice A1_2 l1_2.length c1_2] 54 (0,0))) := ⟨by rw [hw0];exact blk_alloc (blk_alloc (blk_new w _) _) _⟩
    have N0 : Aside0 (w0.heap[w.heap.size + 1]? = some (.cells #[.int .i64 a2_0,.int .i64 a2_1,.float .f64 a2_2,.float .f64 a2_3,.int .i64 a2_4] 56 (0,0))) := ⟨by rw [hw0];have := blk_alloc (blk_new (w.alloc (.cells #[.int .i64 a1_0,.float .f64 a1_1,.slice A1_2 l1_2.length c1_2] 54)) (.cells #[.int .i64 a2_0,.int .i64 a2_1,.float .f64 a2_2,.float .f64 a2_3,.int .i64 a2_4] 56)) (.cells #[.int .i64 0,.int .i64 0,.float .f64 0,.int .i64 0,.float .f64 0,.int .i64 0] 58);rwa [World.size_alloc] at this⟩
    have Z0 : Aside0 (w0.heap[w.heap.size + 1 + 1]? = some (.cells #[.int .i64 0,.int .i64 0,.float .f64 0,.int .i64 0,.float .f64 0,.int .i64 0] 58 (0,0))) := ⟨by rw [hw0];have := blk_new ((w.alloc (.cells #[.int .i64 a1_0,.float .f64 a1_1,.slice A1_2 l1_2.length c1_2] 54)).alloc (.cells #[.int .i64 a2_0,.int .i64 a2_1,.float .f64 a2_2,.float .f64 a2_3,.int .i64 a2_4] 56)) (.cells #[.int .i64 0,.int .i64 0,.float .f64 0,.int .i64 0,.float .f64 0,.int .i64 0] 58);rwa [World.size_alloc,World.size_alloc] at this⟩
    have B0 : Aside0 (Below w.heap.size w w0) := ⟨by rw [hw0];exact below_alloc (below_alloc (below_alloc (Below.refl _ _) _) _) _⟩
    obtain ⟨b8,hb8⟩ : ∃ b,b = w.heap.size + 1 + 1 := ⟨_,rfl⟩
    obtain ⟨b6,hb6⟩ : ∃ b,b = w.heap.size + 1 := ⟨_,rfl⟩
    obtain ⟨b5,hb5⟩ : ∃ b,b = w.heap.size := ⟨_,rfl⟩
    have GE8 : Aside0 (w.heap.size ≤ b8) := ⟨by omega⟩
    have GE6 : Aside0 (w.heap.size ≤ b6) := ⟨by omega⟩
    have d68 : b6 ≠ b8 := by omega
    have d86 : b8 ≠ b6 := by omega
    rw [← hb8] at Z0 ⊢
    rw [← hb6] at N0 ⊢
    rw [← hb5] at H0
    have hgs := Aside0.mk hb5
    rw [← hb5]
    clear hw0 hb8 hb6 hb5
    have h00 : w0.cell? ⟨b5,0,none⟩ = some (.int .i64 a1_0) := (blk_cell H0.out 0).trans rfl
    have h01 : w0.cell? ⟨b5,1,none⟩ = some (.float .f64 a1_1) := (blk_cell H0.out 1).trans rfl
    have h02 : w0.cell? ⟨b5,2,none⟩ = some (.slice A1_2 l1_2.length c1_2) := (blk_cell H0.out 2).trans rfl
    have lth0 := blk_lt H0.out
    have n00 : w0.cell? ⟨b6,0,none⟩ = some (.int .i64 a2_0) := (blk_cell N0.out 0).trans rfl
    have n01 : w0.cell? ⟨b6,1,none⟩ = some (.int .i64 a2_1) := (blk_cell N0.out 1).trans rfl
    have n02 : w0.cell? ⟨b6,2,none⟩ = some (.float .f64 a2_2) := (blk_cell N0.out 2).trans rfl
    have n03 : w0.cell? ⟨b6,3,none⟩ = some (.float .f64 a2_3) := (blk_cell N0.out 3).trans rfl
    have n04 : w0.cell? ⟨b6,4,none⟩ = some (.int .i64 a2_4) := (blk_cell N0.out 4).trans rfl
    have ltn0 := blk_lt N0.out
    have z00 : w0.cell? ⟨b8,0,none⟩ = some (.int .i64 0) := (blk_cell Z0.out 0).trans rfl
    have z01 : w0.cell? ⟨b8,1,none⟩ = some (.int .i64 0) := (blk_cell Z0.out 1).trans rfl
    have z02 : w0.cell? ⟨b8,2,none⟩ = some (.float .f64 0) := (blk_cell Z0.out 2).trans rfl
    have z03 : w0.cell? ⟨b8,3,none⟩ = some (.int .i64 0) := (blk_cell Z0.out 3).trans rfl
    have z04 : w0.cell? ⟨b8,4,none⟩ = some (.float .f64 0) := (blk_cell Z0.out 4).trans rfl
    have z05 : w0.cell? ⟨b8,5,none⟩ = some (.int .i64 0) := (blk_cell Z0.out 5).trans rfl
    have ltz0 := blk_lt Z0.out
    go_upto_region 8 with (first | (go_at_call 41;refine (metric_Add.calls _ _ _ _ _ AD.out).mono ?_;rintro e w1 ⟨rfl,hd1⟩;have B1 := Aside0.mk (below_then B0.out B0.out.size hd1.below);have H1 := Aside0.mk (blk_below H0.out hd1.below);have N1 := Aside0.mk (blk_below N0.out hd1.below);have Z1 := Aside0.mk (blk_below Z0.out hd1.below);clear hd1;have h10 : w1.cell? ⟨b5,0,none⟩ = some (.int .i64 a1_0) := (blk_cell H1.out 0).trans rfl;have h11 : w1.cell? ⟨b5,1,none⟩ = some (.float .f64 a1_1) := (blk_cell H1.out 1).trans rfl;have h12 : w1.cell? ⟨b5,2,none⟩ = some (.slice A1_2 l1_2.length c1_2) := (blk_cell H1.out 2).trans rfl;have lth1 := blk_lt H1.out;have n10 : w1.cell? ⟨b6,0,none⟩ = some (.int .i64 a2_0) := (blk_cell N1.out 0).trans rfl;have n11 : w1.cell? ⟨b6,1,none⟩ = some (.int .i64 a2_1) := (blk_cell N1.out 1).trans rfl;have n12 : w1.cell? ⟨b6,2,none⟩ = some (.float .f64 a2_2) := (blk_cell N1.out 2).trans rfl;have n13 : w1.cell? ⟨b6,3,none⟩ = some (.float .f64 a2_3) := (blk_cell N1.out 3).trans rfl;have n14 : w1.cell? ⟨b6,4,none⟩ = some (.int .i64 a2_4) := (blk_cell N1.out 4).trans rfl;have ltn1 := blk_lt N1.out;have z10 : w1.cell? ⟨b8,0,none⟩ = some (.int .i64 0) := (blk_cell Z1.out 0).trans rfl;have z11 : w1.cell? ⟨b8,1,none⟩ = some (.int .i64 0) := (blk_cell Z1.out 1).trans rfl;have z12 : w1.cell? ⟨b8,2,none⟩ = some (.float .f64 0) := (blk_cell Z1.out 2).trans rfl;have z13 : w1.cell? ⟨b8,3,none⟩ = some (.int .i64 0) := (blk_cell Z1.out 3).trans rfl;have z14 : w1.cell? ⟨b8,4,none⟩ = some (.float .f64 0) := (blk_cell Z1.out 4).trans rfl;have z15 : w1.cell? ⟨b8,5,none⟩ = some (.int .i64 0) := (blk_cell Z1.out 5).trans rfl;have ltz1 := blk_lt Z1.out;have z1z0 := blk_frozen Z1.out 0;have z1z1 := blk_frozen Z1.out 1;have z1z2 := blk_frozen Z1.out 2;have z1z3 := blk_frozen Z1.out 3;have z1z4 := blk_frozen Z1.out 4;have z1z5 := blk_frozen Z1.out 5) | (go_at_call 62;refine (math_IsInf.calls _ 1 _ _ FT.out).mono ?_;rintro e w2 ⟨rfl,hd2⟩;have B2 := Aside0.mk (below_then (below_alloc B1.out (Obj.cells #[.int .i64 a2_0,.int .i64 2,.float .f64 r3,.int .i64 a1_0,.float .f64 a2_3,.int .i64 a2_4] 58)) (below_alloc B1.out (Obj.cells #[.int .i64 a2_0,.int .i64 2,.float .f64 r3,.int .i64 a1_0,.float .f64 a2_3,.int .i64 a2_4] 58)).size hd2.below);have N2 := Aside0.mk (blk_below (blk_alloc N1.out (Obj.cells #[.int .i64 a2_0,.int .i64 2,.float .f64 r3,.int .i64 a1_0,.float .f64 a2_3,.int .i64 a2_4] 58)) hd2.below);have Z2 := Aside0.mk (blk_below (blk_alloc Z1.out (Obj.cells #[.int .i64 a2_0,.int .i64 2,.float .f64 r3,.int .i64 a1_0,.float .f64 a2_3,.int .i64 a2_4] 58)) hd2.below);have X2 := Aside0.mk (blk_below (blk_new w1 (Obj.cells #[.int .i64 a2_0,.int .i64 2,.float .f64 r3,.int .i64 a1_0,.float .f64 a2_3,.int .i64 a2_4] 58)) hd2.below);have NZX : Aside0 (b8 ≠ w1.heap.size) := ⟨by have := blk_lt Z1.out;omega⟩;clear hd2;have n20 : w2.cell? ⟨b6,0,none⟩ = some (.int .i64 a2_0) := (blk_cell N2.out 0).trans rfl;have n21 : w2.cell? ⟨b6,1,none⟩ = some (.int .i64 a2_1) := (blk_cell N2.out 1).trans rfl;have n22 : w2.cell? ⟨b6,2,none⟩ = some (.float .f64 a2_2) := (blk_cell N2.out 2).trans rfl;have n23 : w2.cell? ⟨b6,3,none⟩ = some (.float .f64 a2_3) := (blk_cell N2.out 3).trans rfl;have n24 : w2.cell? ⟨b6,4,none⟩ = some (.int .i64 a2_4) := (blk_cell N2.out 4).trans rfl;have ltn2 := blk_lt N2.out;have z20 : w2.cell? ⟨b8,0,none⟩ = some (.int .i64 0) := (blk_cell Z2.out 0).trans rfl;have z21 : w2.cell? ⟨b8,1,none⟩ = some (.int .i64 0) := (blk_cell Z2.out 1).trans rfl;have z22 : w2.cell? ⟨b8,2,none⟩ = some (.float .f64 0) := (blk_cell Z2.out 2).trans rfl;have z23 : w2.cell? ⟨b8,3,none⟩ = some (.int .i64 0) := (blk_cell Z2.out 3).trans rfl;have z24 : w2.cell? ⟨b8,4,none⟩ = some (.float .f64 0) := (blk_cell Z2.out 4).trans rfl;have z25 : w2.cell? ⟨b8,5,none⟩ = some (.int .i64 0) := (blk_cell Z2.out 5).trans rfl;have ltz2 := blk_lt Z2.out;have z2z0 := blk_frozen Z2.out 0;have z2z1 := blk_frozen Z2.out 1;have z2z2 := blk_frozen Z2.out 2;have z2z3 := blk_frozen Z2.out 3;have z2z4 := blk_frozen Z2.out 4;have z2z5 := blk_frozen Z2.out 5;have x20 : w2.cell? ⟨w1.heap.size,0,none⟩ = some (.int .i64 a2_0) := (blk_cell X2.out 0).trans rfl;have x21 : w2.cell? ⟨w1.heap.size,1,none⟩ = some (.int .i64 2) := (blk_cell X2.out 1).trans rfl;have x22 : w2.cell? ⟨w1.heap.size,2,none⟩ = some (.float .f64 r3) := (blk_cell X2.out 2).trans rfl;have x23 : w2.cell? ⟨w1.heap.size,3,none⟩ = some (.int .i64 a1_0) := (blk_cell X2.out 3).trans rfl;have x24 : w2.cell? ⟨w1.heap.size,4,none⟩ = some (.float .f64 a2_3) := (blk_cell X2.out 4).trans rfl;have x25 : w2.cell? ⟨w1.heap.size,5,none⟩ = some (.int .i64 a2_4) := (blk_cell X2.out 5).trans rfl;have ltx2 := blk_lt X2.out;have x2z0 := blk_frozen X2.out 0;have x2z1 := blk_frozen X2.out 1;have x2z2 := blk_frozen X2.out 2;have x2z3 := blk_frozen X2.out 3;have x2z4 := blk_frozen X2.out 4;have x2z5 := blk_frozen X2.out 5))
    go_upto_region 8 with fail
    obtain ⟨w3,hw3⟩ : ∃ w3,w3 = (w2.setCell ⟨w1.heap.size,1,none⟩ (.int .i64 3)) := ⟨_,rfl⟩
    rw [← hw3]
    have X3 : Aside0 (w3.heap[w1.heap.size]? = some (.cells #[.int .i64 a2_0,.int .i64 3,.float .f64 r3,.int .i64 a1_0,.float .f64 a2_3,.int .i64 a2_4] 58 (0,0))) := ⟨by rw [hw3];exact (blk_set X2.out 1 _).trans rfl⟩
    have N3 : Aside0 (w3.heap[b6]? = some (.cells #[.int .i64 a2_0,.int .i64 a2_1,.float .f64 a2_2,.float .f64 a2_3,.int .i64 a2_4] 56 (0,0))) := ⟨by rw [hw3];exact blk_far N2.out (p := ⟨w1.heap.size,1,none⟩) (by have := blk_lt N1.out;show b6 ≠ w1.heap.size;omega) _⟩
    have Z3 : Aside0 (w3.heap[b8]? = some (.cells #[.int .i64 0,.int .i64 0,.float .f64 0,.int .i64 0,.float .f64 0,.int .i64 0] 58 (0,0))) := ⟨by rw [hw3];exact blk_far Z2.out (p := ⟨w1.heap.size,1,none⟩) NZX.out _⟩
    have B3 : Aside0 (Below w.heap.size w w3) := ⟨by rw [hw3];exact B2.out.setCell (p := ⟨w1.heap.size,1,none⟩) (show w.heap.size ≤ w1.heap.size from B1.out.size) _⟩
    clear hw3
    have xx0 : w3.cell? ⟨w1.heap.size,0,none⟩ = some (.int .i64 a2_0) := (blk_cell X3.out 0).trans rfl
    have xx1 : w3.cell? ⟨w1.heap.size,1,none⟩ = some (.int .i64 3) := (blk_cell X3.out 1).trans rfl
    have xx2 : w3.cell? ⟨w1.heap.size,2,none⟩ = some (.float .f64 r3) := (blk_cell X3.out 2).trans rfl
    have xx3 : w3.cell? ⟨w1.heap.size,3,none⟩ = some (.int .i64 a1_0) := (blk_cell X3.out 3).trans rfl
    have xx4 : w3.cell? ⟨w1.heap.size,4,none⟩ = some (.float .f64 a2_3) := (blk_cell X3.out 4).trans rfl
    have xx5 : w3.cell? ⟨w1.heap.size,5,none⟩ = some (.int .i64 a2_4) := (blk_cell X3.out 5).trans rfl
    have nn3 : w3.cell? ⟨b6,3,none⟩ = some (.float .f64 a2_3) := (blk_cell N3.out 3).trans rfl
    have nn4 : w3.cell? ⟨b6,4,none⟩ = some (.int .i64 a2_4) := (blk_cell N3.out 4).trans rfl
    have zc0 : w3.cell? ⟨b8,0,none⟩ = some (.int .i64 0) := (blk_cell Z3.out 0).trans rfl
    have zc1 : w3.cell? ⟨b8,1,none⟩ = some (.int .i64 0) := (blk_cell Z3.out 1).trans rfl
    have zc2 : w3.cell? ⟨b8,2,none⟩ = some (.float .f64 0) := (blk_cell Z3.out 2).trans rfl
    have zc3 : w3.cell? ⟨b8,3,none⟩ = some (.int .i64 0) := (blk_cell Z3.out 3).trans rfl
    have zc4 : w3.cell? ⟨b8,4,none⟩ = some (.float .f64 0) := (blk_cell Z3.out 4).trans rfl
    have zc5 : w3.cell? ⟨b8,5,none⟩ = some (.int .i64 0) := (blk_cell Z3.out 5).trans rfl
    have zz0 : w3.frozen? ⟨b8,0,none⟩ = false := blk_frozen Z3.out 0
    have zz1 : w3.frozen? ⟨b8,1,none⟩ = false := blk_frozen Z3.out 1
    have zz2 : w3.frozen? ⟨b8,2,none⟩ = false := blk_frozen Z3.out 2
    have zz3 : w3.frozen? ⟨b8,3,none⟩ = false := blk_frozen Z3.out 3
    have zz4 : w3.frozen? ⟨b8,4,none⟩ = false := blk_frozen Z3.out 4
    have zz5 : w3.frozen? ⟨b8,5,none⟩ = false := blk_frozen Z3.out 5
    refine start_ (n := 13) (S := fun w' => w'.cell? ⟨w1.heap.size,0,none⟩ = some (.int .i64 a2_0) ∧ w'.cell? ⟨w1.heap.size,1,none⟩ = some (.int .i64 3) ∧ w'.cell? ⟨w1.heap.size,2,none⟩ = some (.float .f64 r3) ∧ w'.cell? ⟨w1.heap.size,3,none⟩ = some (.int .i64 a1_0) ∧ w'.cell? ⟨w1.heap.size,4,none⟩ = some (.float .f64 a2_3) ∧ w'.cell? ⟨w1.heap.size,5,none⟩ = some (.int .i64 a2_4) ∧ w'.cell? ⟨b6,3,none⟩ = some (.float .f64 a2_3) ∧ w'.cell? ⟨b6,4,none⟩ = some (.int .i64 a2_4)) (ds := []) #[false,false,false,false,false,false,false,false,false,false,false,false,false] (by kernel_rfl) rfl rfl ⟨xx0,xx1,xx2,xx3,xx4,xx5,nn3,nn4⟩ (fun hHeld => ?_)
    refine manyD_ (fuel := 2) (a' := ?_) ((1,0) :: (2,0) :: (0,2) :: (3,2) :: (4,0) :: (5,0) :: (6,1) :: (7,1) :: (8,1) :: (9,1) :: (10,0) :: []) #[true,true,true,true,true,true,true,true,true,true,true,false,false] rfl (by kernel_rfl) (fun _ _ _ _ _ h => h) (fun _ => hHeld) ?_ ?_
    rotate_left
    · repeat (first | exact Chain.nil _ | (apply Chain.on;rfl;rfl;(focus intro w';go_simp;with_reducible rfl);(focus simp only [Act.put,List.setIfInBounds_toArray,List.set_cons_zero,List.set_cons_succ,i64_w,i32_w];rfl)) | (apply Chain.take;rfl;rfl;(focus rintro w' ⟨s0,s1,s2,s3,s4,s5,s6,s7⟩;go_simp;with_reducible rfl);(focus simp only [Act.put,List.setIfInBounds_toArray,List.set_cons_zero,List.set_cons_succ,i64_w,i32_w];rfl)) | (apply Chain.off;rfl;rfl;(focus simp only [Act.put,List.setIfInBounds_toArray,List.set_cons_zero,List.set_cons_succ,i64_w,i32_w];rfl)))
    refine one_ (i := 11) (N := none) #[true,true,true,true,true,true,true,true,true,true,true,true,false] rfl rfl (by kernel_rfl) (by decide) (fun K hK => ?_)
    refine skip_ (w1 := ?_) (by rfl) rfl ?_ ?_
    rotate_left
    · go_simp
      rfl
    refine hK.out _ _ ⟨(blk_cell (blk_drew (blk_far6 X3.out NZX.out.symm (.int .i64 a2_0) (.int .i64 3) (.float .f64 r3) (.int .i64 a1_0) (.float .f64 a2_3) (.int .i64 a2_4))) 0).trans rfl,(blk_cell (blk_drew (blk_far6 X3.out NZX.out.symm (.int .i64 a2_0) (.int .i64 3) (.float .f64 r3) (.int .i64 a1_0) (.float .f64 a2_3) (.int .i64 a2_4))) 1).trans rfl,(blk_cell (blk_drew (blk_far6 X3.out NZX.out.symm (.int .i64 a2_0) (.int .i64 3) (.float .f64 r3) (.int .i64 a1_0) (.float .f64 a2_3) (.int .i64 a2_4))) 2).trans rfl,(blk_cell (blk_drew (blk_far6 X3.out NZX.out.symm (.int .i64 a2_0) (.int .i64 3) (.float .f64 r3) (.int .i64 a1_0) (.float .f64 a2_3) (.int .i64 a2_4))) 3).trans rfl,(blk_cell (blk_drew (blk_far6 X3.out NZX.out.symm (.int .i64 a2_0) (.int .i64 3) (.float .f64 r3) (.int .i64 a1_0) (.float .f64 a2_3) (.int .i64 a2_4))) 4).trans rfl,(blk_cell (blk_drew (blk_far6 X3.out NZX.out.symm (.int .i64 a2_0) (.int .i64 3) (.float .f64 r3) (.int .i64 a1_0) (.float .f64 a2_3) (.int .i64 a2_4))) 5).trans rfl,(blk_cell (blk_drew (blk_far6 N3.out d68 (.int .i64 a2_0) (.int .i64 3) (.float .f64 r3) (.int .i64 a1_0) (.float .f64 a2_3) (.int .i64 a2_4))) 3).trans rfl,(blk_cell (blk_drew (blk_far6 N3.out d68 (.int .i64 a2_0) (.int .i64 3) (.float .f64 r3) (.int .i64 a1_0) (.float .f64 a2_3) (.int .i64 a2_4))) 4).trans rfl⟩ (fun hHeld => ?_)
    clear hK K
    refine manyD_ (fuel := 0) (a' := ?_) ((12,0) :: []) #[true,true,true,true,true,true,true,true,true,true,true,true,true] rfl (by kernel_rfl) (fun _ _ _ _ _ h => h) (fun h => absurd h (by decide)) ?_ ?_
    rotate_left
    · repeat (first | exact Chain.nil _ | (apply Chain.on;rfl;rfl;(focus intro w';go_simp;with_reducible rfl);(focus simp only [Act.put,List.setIfInBounds_toArray,List.set_cons_zero,List.set_cons_succ,i64_w,i32_w];rfl)))
    refine done_ (by kernel_rfl) ?_
    go_wp2_with fail
    refine bodyPost_ret (results_ct rfl _ _ b8 58 #[.int .i64 a2_0,.int .i64 3,.float .f64 r3,.int .i64 a1_0,.float .f64 a2_3,.int .i64 a2_4] (0,0) _ rfl (blk_drew (blk_set6 Z3.out (.int .i64 a2_0) (.int .i64 3) (.float .f64 r3) (.int .i64 a1_0) (.float .f64 a2_3) (.int .i64 a2_4))) Try.underlying58 rfl (by kernel_rfl)) rfl ?_
    exact ⟨rfl,below_drew (below_set6 B3.out GE8.out (.int .i64 a2_0) (.int .i64 3) (.float .f64 r3) (.int .i64 a1_0) (.float .f64 a2_3) (.int .i64 a2_4))⟩
  cases h
  go_enter Try.func33,Try.ntmps33
  go_upto_region 1 with fail
  obtain ⟨w0,hw0⟩ : ∃ w0,w0 = (((w.alloc (.cells #[.int .i64 a1_0,.float .f64 a1_1,.slice A1_2 l1_2.length c1_2] 54)).alloc (.cells #[.int .i64 a2_0,.int .i64 a2_1,.float .f64 a2_2,.float .f64 a2_3,.int .i64 a2_4] 56)).alloc (.cells #[.int .i64 0,.int .i64 0,.float .f64 0,.int .i64 0,.float .f64 0,.int .i64 0] 58)) := ⟨_,rfl⟩
  rw [← hw0]
  have H0 : Aside0 (w0.heap[w.heap.size]? = some (.cells #[.int .i64 a1_0,.float .f64 a1_1,.slice A1_2 l1_2.length c1_2] 54 (0,0))) := ⟨by rw [hw0];exact blk_alloc (blk_alloc (blk_new w _) _) _⟩
  have N0 : Aside0 (w0.heap[w.heap.size + 1]? = some (.cells #[.int .i64 a2_0,.int .i64 a2_1,.float .f64 a2_2,.float .f64 a2_3,.int .i64 a2_4] 56 (0,0))) := ⟨by rw [hw0];have := blk_alloc (blk_new (w.alloc (.cells #[.int .i64 a1_0,.float .f64 a1_1,.slice A1_2 l1_2.length c1_2] 54)) (.cells #[.int .i64 a2_0,.int .i64 a2_1,.float .f64 a2_2,.float .f64 a2_3,.int .i64 a2_4] 56)) (.cells #[.int .i64 0,.int .i64 0,.float .f64 0,.int .i64 0,.float .f64 0,.int .i64 0] 58);rwa [World.size_alloc] at this⟩
  have Z0 : Aside0 (w0.heap[w.heap.size + 1 + 1]? = some (.cells #[.int .i64 0,.int .i64 0,.float .f64 0,.int .i64 0,.float .f64 0,.int .i64 0] 58 (0,0))) := ⟨by rw [hw0];have := blk_new ((w.alloc (.cells #[.int .i64 a1_0,.float .f64 a1_1,.slice A1_2 l1_2.length c1_2] 54)).alloc (.cells #[.int .i64 a2_0,.int .i64 a2_1,.float .f64 a2_2,.float .f64 a2_3,.int .i64 a2_4] 56)) (.cells #[.int .i64 0,.int .i64 0,.float .f64 0,.int .i64 0,.float .f64 0,.int .i64 0] 58);rwa [World.size_alloc,World.size_alloc] at this⟩
  have B0 : Aside0 (Below w.heap.size w w0) := ⟨by rw [hw0];exact below_alloc (below_alloc (below_alloc (Below.refl _ _) _) _) _⟩
  obtain ⟨b8,hb8⟩ : ∃ b,b = w.heap.size + 1 + 1 := ⟨_,rfl⟩
  obtain ⟨b6,hb6⟩ : ∃ b,b = w.heap.size + 1 := ⟨_,rfl⟩
  obtain ⟨b5,hb5⟩ : ∃ b,b = w.heap.size := ⟨_,rfl⟩
  have GE8 : Aside0 (w.heap.size ≤ b8) := ⟨by omega⟩
  have GE6 : Aside0 (w.heap.size ≤ b6) := ⟨by omega⟩
  have d68 : b6 ≠ b8 := by omega
  have d86 : b8 ≠ b6 := by omega
  rw [← hb8] at Z0 ⊢
  rw [← hb6] at N0 ⊢
  rw [← hb5] at H0
  have hgs := Aside0.mk hb5
  rw [← hb5]
  clear hw0 hb8 hb6 hb5
  have h00 : w0.cell? ⟨b5,0,none⟩ = some (.int .i64 a1_0) := (blk_cell H0.out 0).trans rfl
  have h01 : w0.cell? ⟨b5,1,none⟩ = some (.float .f64 a1_1) := (blk_cell H0.out 1).trans rfl
  have h02 : w0.cell? ⟨b5,2,none⟩ = some (.slice A1_2 l1_2.length c1_2) := (blk_cell H0.out 2).trans rfl
  have lth0 := blk_lt H0.out
  have n00 : w0.cell? ⟨b6,0,none⟩ = some (.int .i64 a2_0) := (blk_cell N0.out 0).trans rfl
  have n01 : w0.cell? ⟨b6,1,none⟩ = some (.int .i64 a2_1) := (blk_cell N0.out 1).trans rfl
  have n02 : w0.cell? ⟨b6,2,none⟩ = some (.float .f64 a2_2) := (blk_cell N0.out 2).trans rfl
  have n03 : w0.cell? ⟨b6,3,none⟩ = some (.float .f64 a2_3) := (blk_cell N0.out 3).trans rfl
  have n04 : w0.cell? ⟨b6,4,none⟩ = some (.int .i64 a2_4) := (blk_cell N0.out 4).trans rfl
  have ltn0 := blk_lt N0.out
  have z00 : w0.cell? ⟨b8,0,none⟩ = some (.int .i64 0) := (blk_cell Z0.out 0).trans rfl
  have z01 : w0.cell? ⟨b8,1,none⟩ = some (.int .i64 0) := (blk_cell Z0.out 1).trans rfl
  have z02 : w0.cell? ⟨b8,2,none⟩ = some (.float .f64 0) := (blk_cell Z0.out 2).trans rfl
  have z03 : w0.cell? ⟨b8,3,none⟩ = some (.int .i64 0) := (blk_cell Z0.out 3).trans rfl
  have z04 : w0.cell? ⟨b8,4,none⟩ = some (.float .f64 0) := (blk_cell Z0.out 4).trans rfl
  have z05 : w0.cell? ⟨b8,5,none⟩ = some (.int .i64 0) := (blk_cell Z0.out 5).trans rfl
  have ltz0 := blk_lt Z0.out
  go_upto_region 8 with (first | (go_at_call 41;refine (metric_Add.calls _ _ _ _ _ AD.out).mono ?_;rintro e w1 ⟨rfl,hd1⟩;have B1 := Aside0.mk (below_then B0.out B0.out.size hd1.below);have H1 := Aside0.mk (blk_below H0.out hd1.below);have N1 := Aside0.mk (blk_below N0.out hd1.below);have Z1 := Aside0.mk (blk_below Z0.out hd1.below);clear hd1;have h10 : w1.cell? ⟨b5,0,none⟩ = some (.int .i64 a1_0) := (blk_cell H1.out 0).trans rfl;have h11 : w1.cell? ⟨b5,1,none⟩ = some (.float .f64 a1_1) := (blk_cell H1.out 1).trans rfl;have h12 : w1.cell? ⟨b5,2,none⟩ = some (.slice A1_2 l1_2.length c1_2) := (blk_cell H1.out 2).trans rfl;have lth1 := blk_lt H1.out;have n10 : w1.cell? ⟨b6,0,none⟩ = some (.int .i64 a2_0) := (blk_cell N1.out 0).trans rfl;have n11 : w1.cell? ⟨b6,1,none⟩ = some (.int .i64 a2_1) := (blk_cell N1.out 1).trans rfl;have n12 : w1.cell? ⟨b6,2,none⟩ = some (.float .f64 a2_2) := (blk_cell N1.out 2).trans rfl;have n13 : w1.cell? ⟨b6,3,none⟩ = some (.float .f64 a2_3) := (blk_cell N1.out 3).trans rfl;have n14 : w1.cell? ⟨b6,4,none⟩ = some (.int .i64 a2_4) := (blk_cell N1.out 4).trans rfl;have ltn1 := blk_lt N1.out;have z10 : w1.cell? ⟨b8,0,none⟩ = some (.int .i64 0) := (blk_cell Z1.out 0).trans rfl;have z11 : w1.cell? ⟨b8,1,none⟩ = some (.int .i64 0) := (blk_cell Z1.out 1).trans rfl;have z12 : w1.cell? ⟨b8,2,none⟩ = some (.float .f64 0) := (blk_cell Z1.out 2).trans rfl;have z13 : w1.cell? ⟨b8,3,none⟩ = some (.int .i64 0) := (blk_cell Z1.out 3).trans rfl;have z14 : w1.cell? ⟨b8,4,none⟩ = some (.float .f64 0) := (blk_cell Z1.out 4).trans rfl;have z15 : w1.cell? ⟨b8,5,none⟩ = some (.int .i64 0) := (blk_cell Z1.out 5).trans rfl;have ltz1 := blk_lt Z1.out;have z1z0 := blk_frozen Z1.out 0;have z1z1 := blk_frozen Z1.out 1;have z1z2 := blk_frozen Z1.out 2;have z1z3 := blk_frozen Z1.out 3;have z1z4 := blk_frozen Z1.out 4;have z1z5 := blk_frozen Z1.out 5) | (go_at_call 62;refine (math_IsInf.calls _ 1 _ _ FT.out).mono ?_;rintro e w2 ⟨rfl,hd2⟩;have B2 := Aside0.mk (below_then (below_alloc B1.out (Obj.cells #[.int .i64 a2_0,.int .i64 2,.float .f64 r3,.int .i64 a1_0,.float .f64 a2_3,.int .i64 a2_4] 58)) (below_alloc B1.out (Obj.cells #[.int .i64 a2_0,.int .i64 2,.float .f64 r3,.int .i64 a1_0,.float .f64 a2_3,.int .i64 a2_4] 58)).size hd2.below);have N2 := Aside0.mk (blk_below (blk_alloc N1.out (Obj.cells #[.int .i64 a2_0,.int .i64 2,.float .f64 r3,.int .i64 a1_0,.float .f64 a2_3,.int .i64 a2_4] 58)) hd2.below);have Z2 := Aside0.mk (blk_below (blk_alloc Z1.out (Obj.cells #[.int .i64 a2_0,.int .i64 2,.float .f64 r3,.int .i64 a1_0,.float .f64 a2_3,.int .i64 a2_4] 58)) hd2.below);have X2 := Aside0.mk (blk_below (blk_new w1 (Obj.cells #[.int .i64 a2_0,.int .i64 2,.float .f64 r3,.int .i64 a1_0,.float .f64 a2_3,.int .i64 a2_4] 58)) hd2.below);have NZX : Aside0 (b8 ≠ w1.heap.size) := ⟨by have := blk_lt Z1.out;omega⟩;clear hd2;have n20 : w2.cell? ⟨b6,0,none⟩ = some (.int .i64 a2_0) := (blk_cell N2.out 0).trans rfl;have n21 : w2.cell? ⟨b6,1,none⟩ = some (.int .i64 a2_1) := (blk_cell N2.out 1).trans rfl;have n22 : w2.cell? ⟨b6,2,none⟩ = some (.float .f64 a2_2) := (blk_cell N2.out 2).trans rfl;have n23 : w2.cell? ⟨b6,3,none⟩ = some (.float .f64 a2_3) := (blk_cell N2.out 3).trans rfl;have n24 : w2.cell? ⟨b6,4,none⟩ = some (.int .i64 a2_4) := (blk_cell N2.out 4).trans rfl;have ltn2 := blk_lt N2.out;have z20 : w2.cell? ⟨b8,0,none⟩ = some (.int .i64 0) := (blk_cell Z2.out 0).trans rfl;have z21 : w2.cell? ⟨b8,1,none⟩ = some (.int .i64 0) := (blk_cell Z2.out 1).trans rfl;have z22 : w2.cell? ⟨b8,2,none⟩ = some (.float .f64 0) := (blk_cell Z2.out 2).trans rfl;have z23 : w2.cell? ⟨b8,3,none⟩ = some (.int .i64 0) := (blk_cell Z2.out 3).trans rfl;have z24 : w2.cell? ⟨b8,4,none⟩ = some (.float .f64 0) := (blk_cell Z2.out 4).trans rfl;have z25 : w2.cell? ⟨b8,5,none⟩ = some (.int .i64 0) := (blk_cell Z2.out 5).trans rfl;have ltz2 := blk_lt Z2.out;have z2z0 := blk_frozen Z2.out 0;have z2z1 := blk_frozen Z2.out 1;have z2z2 := blk_frozen Z2.out 2;have z2z3 := blk_frozen Z2.out 3;have z2z4 := blk_frozen Z2.out 4;have z2z5 := blk_frozen Z2.out 5;have x20 : w2.cell? ⟨w1.heap.size,0,none⟩ = some (.int .i64 a2_0) := (blk_cell X2.out 0).trans rfl;have x21 : w2.cell? ⟨w1.heap.size,1,none⟩ = some (.int .i64 2) := (blk_cell X2.out 1).trans rfl;have x22 : w2.cell? ⟨w1.heap.size,2,none⟩ = some (.float .f64 r3) := (blk_cell X2.out 2).trans rfl;have x23 : w2.cell? ⟨w1.heap.size,3,none⟩ = some (.int .i64 a1_0) := (blk_cell X2.out 3).trans rfl;have x24 : w2.cell? ⟨w1.heap.size,4,none⟩ = some (.float .f64 a2_3) := (blk_cell X2.out 4).trans rfl;have x25 : w2.cell? ⟨w1.heap.size,5,none⟩ = some (.int .i64 a2_4) := (blk_cell X2.out 5).trans rfl;have ltx2 := blk_lt X2.out;have x2z0 := blk_frozen X2.out 0;have x2z1 := blk_frozen X2.out 1;have x2z2 := blk_frozen X2.out 2;have x2z3 := blk_frozen X2.out 3;have x2z4 := blk_frozen X2.out 4;have x2z5 := blk_frozen X2.out 5))
  go_upto_region 8 with fail
  obtain ⟨w3,hw3⟩ : ∃ w3,w3 = (w2.setCell ⟨w1.heap.size,1,none⟩ (.int .i64 3)) := ⟨_,rfl⟩
  rw [← hw3]
  have X3 : Aside0 (w3.heap[w1.heap.size]? = some (.cells #[.int .i64 a2_0,.int .i64 3,.float .f64 r3,.int .i64 a1_0,.float .f64 a2_3,.int .i64 a2_4] 58 (0,0))) := ⟨by rw [hw3];exact (blk_set X2.out 1 _).trans rfl⟩
  have N3 : Aside0 (w3.heap[b6]? = some (.cells #[.int .i64 a2_0,.int .i64 a2_1,.float .f64 a2_2,.float .f64 a2_3,.int .i64 a2_4] 56 (0,0))) := ⟨by rw [hw3];exact blk_far N2.out (p := ⟨w1.heap.size,1,none⟩) (by have := blk_lt N1.out;show b6 ≠ w1.heap.size;omega) _⟩
  have Z3 : Aside0 (w3.heap[b8]? = some (.cells #[.int .i64 0,.int .i64 0,.float .f64 0,.int .i64 0,.float .f64 0,.int .i64 0] 58 (0,0))) := ⟨by rw [hw3];exact blk_far Z2.out (p := ⟨w1.heap.size,1,none⟩) NZX.out _⟩
  have B3 : Aside0 (Below w.heap.size w w3) := ⟨by rw [hw3];exact B2.out.setCell (p := ⟨w1.heap.size,1,none⟩) (show w.heap.size ≤ w1.heap.size from B1.out.size) _⟩
  clear hw3
  have xx0 : w3.cell? ⟨w1.heap.size,0,none⟩ = some (.int .i64 a2_0) := (blk_cell X3.out 0).trans rfl
  have xx1 : w3.cell? ⟨w1.heap.size,1,none⟩ = some (.int .i64 3) := (blk_cell X3.out 1).trans rfl
  have xx2 : w3.cell? ⟨w1.heap.size,2,none⟩ = some (.float .f64 r3) := (blk_cell X3.out 2).trans rfl
  have xx3 : w3.cell? ⟨w1.heap.size,3,none⟩ = some (.int .i64 a1_0) := (blk_cell X3.out 3).trans rfl
  have xx4 : w3.cell? ⟨w1.heap.size,4,none⟩ = some (.float .f64 a2_3) := (blk_cell X3.out 4).trans rfl
  have xx5 : w3.cell? ⟨w1.heap.size,5,none⟩ = some (.int .i64 a2_4) := (blk_cell X3.out 5).trans rfl
  have nn3 : w3.cell? ⟨b6,3,none⟩ = some (.float .f64 a2_3) := (blk_cell N3.out 3).trans rfl
  have nn4 : w3.cell? ⟨b6,4,none⟩ = some (.int .i64 a2_4) := (blk_cell N3.out 4).trans rfl
  have zc0 : w3.cell? ⟨b8,0,none⟩ = some (.int .i64 0) := (blk_cell Z3.out 0).trans rfl
  have zc1 : w3.cell? ⟨b8,1,none⟩ = some (.int .i64 0) := (blk_cell Z3.out 1).trans rfl
  have zc2 : w3.cell? ⟨b8,2,none⟩ = some (.float .f64 0) := (blk_cell Z3.out 2).trans rfl
  have zc3 : w3.cell? ⟨b8,3,none⟩ = some (.int .i64 0) := (blk_cell Z3.out 3).trans rfl
  have zc4 : w3.cell? ⟨b8,4,none⟩ = some (.float .f64 0) := (blk_cell Z3.out 4).trans rfl
  have zc5 : w3.cell? ⟨b8,5,none⟩ = some (.int .i64 0) := (blk_cell Z3.out 5).trans rfl
  have zz0 : w3.frozen? ⟨b8,0,none⟩ = false := blk_frozen Z3.out 0
  have zz1 : w3.frozen? ⟨b8,1,none⟩ = false := blk_frozen Z3.out 1
  have zz2 : w3.frozen? ⟨b8,2,none⟩ = false := blk_frozen Z3.out 2
  have zz3 : w3.frozen? ⟨b8,3,none⟩ = false := blk_frozen Z3.out 3
  have zz4 : w3.frozen? ⟨b8,4,none⟩ = false := blk_frozen Z3.out 4
  have zz5 : w3.frozen? ⟨b8,5,none⟩ = false := blk_frozen Z3.out 5
  refine start_ (n := 13) (S := fun w' => w'.cell? ⟨w1.heap.size,0,none⟩ = some (.int .i64 a2_0) ∧ w'.cell? ⟨w1.heap.size,1,none⟩ = some (.int .i64 3) ∧ w'.cell? ⟨w1.heap.size,2,none⟩ = some (.float .f64 r3) ∧ w'.cell? ⟨w1.heap.size,3,none⟩ = some (.int .i64 a1_0) ∧ w'.cell? ⟨w1.heap.size,4,none⟩ = some (.float .f64 a2_3) ∧ w'.cell? ⟨w1.heap.size,5,none⟩ = some (.int .i64 a2_4) ∧ w'.cell? ⟨b6,3,none⟩ = some (.float .f64 a2_3) ∧ w'.cell? ⟨b6,4,none⟩ = some (.int .i64 a2_4)) (ds := []) #[false,false,false,false,false,false,false,false,false,false,false,false,false] (by kernel_rfl) rfl rfl ⟨xx0,xx1,xx2,xx3,xx4,xx5,nn3,nn4⟩ (fun hHeld => ?_)
  refine manyD_ (fuel := 2) (a' := ?_) ((1,0) :: (2,0) :: (0,2) :: (3,2) :: (4,0) :: (5,0) :: (6,0) :: (8,0) :: (7,2) :: (9,0) :: (10,0) :: []) #[true,true,true,true,true,true,true,true,true,true,true,false,false] rfl (by kernel_rfl) (fun _ _ _ _ _ h => h) (fun _ => hHeld) ?_ ?_
  rotate_left
  · repeat (first | exact Chain.nil _ | (apply Chain.on;rfl;rfl;(focus intro w';go_simp;with_reducible rfl);(focus simp only [Act.put,List.setIfInBounds_toArray,List.set_cons_zero,List.set_cons_succ,i64_w,i32_w];rfl)) | (apply Chain.take;rfl;rfl;(focus rintro w' ⟨s0,s1,s2,s3,s4,s5,s6,s7⟩;go_simp;with_reducible rfl);(focus simp only [Act.put,List.setIfInBounds_toArray,List.set_cons_zero,List.set_cons_succ,i64_w,i32_w];rfl)))
  refine one_ (i := 11) (N := none) #[true,true,true,true,true,true,true,true,true,true,true,true,false] rfl rfl (by kernel_rfl) (by decide) (fun K hK => ?_)
  refine skip_ (w1 := ?_) (by rfl) rfl ?_ ?_
  rotate_left
  · go_simp
    rfl
  refine hK.out _ _ ⟨(blk_cell (blk_drew (blk_far6 X3.out NZX.out.symm (.int .i64 a2_0) (.int .i64 3) (.float .f64 r3) (.int .i64 a1_0) (.float .f64 a2_3) (.int .i64 a2_4))) 0).trans rfl,(blk_cell (blk_drew (blk_far6 X3.out NZX.out.symm (.int .i64 a2_0) (.int .i64 3) (.float .f64 r3) (.int .i64 a1_0) (.float .f64 a2_3) (.int .i64 a2_4))) 1).trans rfl,(blk_cell (blk_drew (blk_far6 X3.out NZX.out.symm (.int .i64 a2_0) (.int .i64 3) (.float .f64 r3) (.int .i64 a1_0) (.float .f64 a2_3) (.int .i64 a2_4))) 2).trans rfl,(blk_cell (blk_drew (blk_far6 X3.out NZX.out.symm (.int .i64 a2_0) (.int .i64 3) (.float .f64 r3) (.int .i64 a1_0) (.float .f64 a2_3) (.int .i64 a2_4))) 3).trans rfl,(blk_cell (blk_drew (blk_far6 X3.out NZX.out.symm (.int .i64 a2_0) (.int .i64 3) (.float .f64 r3) (.int .i64 a1_0) (.float .f64 a2_3) (.int .i64 a2_4))) 4).trans rfl,(blk_cell (blk_drew (blk_far6 X3.out NZX.out.symm (.int .i64 a2_0) (.int .i64 3) (.float .f64 r3) (.int .i64 a1_0) (.float .f64 a2_3) (.int .i64 a2_4))) 5).trans rfl,(blk_cell (blk_drew (blk_far6 N3.out d68 (.int .i64 a2_0) (.int .i64 3) (.float .f64 r3) (.int .i64 a1_0) (.float .f64 a2_3) (.int .i64 a2_4))) 3).trans rfl,(blk_cell (blk_drew (blk_far6 N3.out d68 (.int .i64 a2_0) (.int .i64 3) (.float .f64 r3) (.int .i64 a1_0) (.float .f64 a2_3) (.int .i64 a2_4))) 4).trans rfl⟩ (fun hHeld => ?_)
  clear hK K
  refine manyD_ (fuel := 0) (a' := ?_) ((12,0) :: []) #[true,true,true,true,true,true,true,true,true,true,true,true,true] rfl (by kernel_rfl) (fun _ _ _ _ _ h => h) (fun h => absurd h (by decide)) ?_ ?_
  rotate_left
  · repeat (first | exact Chain.nil _ | (apply Chain.on;rfl;rfl;(focus intro w';go_simp;with_reducible rfl);(focus simp only [Act.put,List.setIfInBounds_toArray,List.set_cons_zero,List.set_cons_succ,i64_w,i32_w];rfl)))
  refine done_ (by kernel_rfl) ?_
  go_wp2_with fail
  refine bodyPost_ret (results_ct rfl _ _ b8 58 #[.int .i64 a2_0,.int .i64 3,.float .f64 r3,.int .i64 a1_0,.float .f64 a2_3,.int .i64 a2_4] (0,0) _ rfl (blk_drew (blk_set6 Z3.out (.int .i64 a2_0) (.int .i64 3) (.float .f64 r3) (.int .i64 a1_0) (.float .f64 a2_3) (.int .i64 a2_4))) Try.underlying58 rfl (by kernel_rfl)) rfl ?_
  exact ⟨rfl,below_drew (below_set6 B3.out GE8.out (.int .i64 a2_0) (.int .i64 3) (.float .f64 r3) (.int .i64 a1_0) (.float .f64 a2_3) (.int .i64 a2_4))⟩
end Go.Proofs.Ytjcnmpkaiopihaa.PA
