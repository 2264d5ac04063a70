/- paths.made: the limit's check, then paths.checked. Conditions: those of checked_calls; what metric.Limit says is told. -/
import Derived.Test.YtmdkcecbklgihaaCcHn
import Derived.Test.YtmdkcecbklgihaaCcPAx3
namespace Go.Proofs.Ytmdkcecbklgihaa.PA
open Go.RowKit Go.Proofs.YtmdkcecbklgihaaW.PrintWords Go.Proofs.YtmdkcecbklgihaaW.PrintLast Go.Proofs.YtmdkcecbklgihaaW.PrintMore
set_option linter.unusedVariables false
set_option linter.unusedSimpArgs false
theorem CheckedOut.mono_below {e : Int} {nodes : List S40} {links : List S74} {mx : Nat} {ids : List Int} {w w1 : World} {x : Ending} {w' : World} (h : CheckedOut e nodes links mx ids w1 x w') (hs : w.heap.size ≤ w1.heap.size) : CheckedOut e nodes links mx ids w x w' := by
  rcases h with h | h | ⟨h1,h2,g,h3,h4,h5⟩
  · exact Or.inl h
  · exact Or.inr (Or.inl h)
  exact Or.inr (Or.inr ⟨h1,h2,g,h3,Nat.le_trans hs h4,h5⟩)
set_option maxHeartbeats 8000000 in
set_option maxRecDepth 100000 in
theorem made_calls (k : Nat) (e0 e : Int) (A0 : Option Addr) (c0 : Nat) (nodes : List S40) (A1 : Option Addr) (c1 : Nat) (links : List S74) (mx : Nat) (Ai : Option Addr) (ci : Nat) (ids : List Int) (w : World)
    (hr0 : Kd.C k40 w A0 nodes.length nodes) (hc0 : nodes.length ≤ c0) (hr1 : Kd.C k74 w A1 links.length links) (hc1 : links.length ≤ c1) (hri : Kd.C (Kd.int .i64) w Ai ids.length ids)
    (hL : metric_Limit.f mx = some e0)
    (hC : graph_Check.f k nodes links = some e) (hok : e = 0 → nodes.length ≤ 256 ∧ links.length ≤ 4096 ∧ (nodes.map (·.f0)).Nodup ∧ ∀ l ∈ links,plc nodes l.f0 < nodes.length ∧ plc nodes l.f1 < nodes.length) :
    Calls Try.prog 31 #[.agg #[.slice A0 nodes.length c0,.slice A1 links.length c1],.float .f64 mx,.slice Ai ids.length ci] w fun x w' => Below w.heap.size w w' ∧
      ((e0 ≠ 0 ∧ x = .returned (.tuple #[.pointer none,.int .i64 e0])) ∨ (e0 = 0 ∧ CheckedOut e nodes links mx ids w x w')) := by
  have R0 := Aside0.mk hr0
  have R1 := Aside0.mk hr1
  have RI := Aside0.mk hri
  have CK := Aside0.mk hC
  have OK := Aside0.mk hok
  clear hr0 hr1 hri hC hok
  go_enter Try.func31,Try.ntmps31
  go_wp2_with fail
  refine (metric_Limit.calls mx e0 _ hL).mono ?_
  rintro x1 w1 ⟨rfl,hb1⟩
  have hu25 := Try.underlying25
  have hbx : (w.alloc (.cells #[.slice A0 nodes.length c0,.slice A1 links.length c1] 25)).heap[w.heap.size]? = some (.cells #[.slice A0 nodes.length c0,.slice A1 links.length c1] 25 (0,0)) := heap_alloc_new w _
  have hbl : Below w.heap.size w w1 := below_then (below_alloc (Below.refl w.heap.size w) _) (by simp) hb1.below
  have hbb := blk_below hbx hb1.below
  have b0 : w1.cell? ⟨w.heap.size,0,none⟩ = some (.slice A0 nodes.length c0) := (blk_cell hbb 0).trans rfl
  have b1 : w1.cell? ⟨w.heap.size,1,none⟩ = some (.slice A1 links.length c1) := (blk_cell hbb 1).trans rfl
  have BL := Aside0.mk hbl
  clear hbx hbl hbb hb1
  by_cases he : e0 = 0
  · subst he
    go_wp2_with fail
    refine (checked_calls k e A0 c0 nodes A1 c1 links mx Ai ci ids _ (Kd.C_below R0.out BL.out) hc0 (Kd.C_below R1.out BL.out) hc1 (Kd.C_below RI.out BL.out) CK.out OK.out).mono ?_
    rintro x2 w2 ⟨hb2,ho⟩
    have HB2 : Aside0 (Below w.heap.size w w2) := ⟨below_then BL.out BL.out.size hb2⟩
    have HO : Aside0 (CheckedOut e nodes links mx ids w x2 w2) := ⟨ho.mono_below BL.out.size⟩
    rcases ho with ⟨h1,rfl⟩ | ⟨h1,h2,rfl⟩ | ⟨h1,h2,g,rfl,h3,h4⟩
    all_goals (
      clear b0 b1 hb2
      go_wp2_with fail
      go_ret2
      first | exact And.intro HB2.out HO.out | (have HO2 := HO.out;rw [h1] at HO2;exact And.intro HB2.out HO2))
  have heb : (e0 == 0) = false := by simpa using he
  have heb1 : (e0 != 0) = true := by simpa using he
  go_wp2_with fail
  go_ret2
  exact ⟨BL.out,Or.inl ⟨he,rfl⟩⟩
end Go.Proofs.Ytmdkcecbklgihaa.PA
