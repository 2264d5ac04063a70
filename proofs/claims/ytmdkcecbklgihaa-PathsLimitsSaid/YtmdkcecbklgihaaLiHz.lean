/- paths.Dists: how far each router is from one, as the document has it. Conditions: weights and the limit are words. -/
import Derived.Test.YtmdkcecbklgihaaCHy
namespace Go.Proofs.Ytmdkcecbklgihaa.PA
open Go.RowKit Go.Proofs.YtmdkcecbklgihaaW.PrintWords Go.Proofs.YtmdkcecbklgihaaW.PrintLast Go.Proofs.YtmdkcecbklgihaaW.PrintMore
open Classical
set_option linter.unusedVariables false
set_option linter.unusedSimpArgs false
noncomputable def paths_Dists.f (l0_0 : List S40) (l0_1 : List S74) (a1 : Nat) (a2 : Int) : Option (List Nat × Int) := if Fits l0_1 ∧ a1 < 18446744073709551616 then some (distsSpec l0_0 l0_1 a1 a2) else none
set_option maxHeartbeats 8000000 in
set_option maxRecDepth 100000 in
theorem paths_Dists.calls (A0_0 : Option Addr) (c0_0 : Nat) (l0_0 : List (S40)) (A0_1 : Option Addr) (c0_1 : Nat) (l0_1 : List (S74)) (a1 : Nat) (a2 : Int) (r1 : List Nat) (r2 : Int) (w : World) (hr0_0 : Kd.C k40 w A0_0 l0_0.length l0_0) (hc0_0 : l0_0.length ≤ c0_0) (hr0_1 : Kd.C k74 w A0_1 l0_1.length l0_1) (hc0_1 : l0_1.length ≤ c0_1) (h : paths_Dists.f l0_0 l0_1 a1 a2 = some (r1,r2)) :
    Calls Try.prog 15 #[.agg #[.slice A0_0 l0_0.length c0_0,.slice A0_1 l0_1.length c0_1],.float .f64 a1,.int .i64 a2] w fun e w' => ∃ v0_ : Value,e = .returned (.tuple #[v0_,.int .i64 r2]) ∧ Kd.R Kd.float 26 w' w.heap.size (fun _ => True) v0_ r1 ∧ Below w.heap.size w w' := by
  unfold paths_Dists.f at h
  by_cases hF : Fits l0_1 ∧ a1 < 18446744073709551616
  · rw [if_pos hF] at h
    obtain ⟨K,hK⟩ := graph_tells (nodes := l0_0) hF.1
    have hL := (limit_all a1 hF.2).2.1
    have hC : graph_Check.f K l0_0 l0_1 = some (ckSpec l0_0 l0_1) := hK K (Nat.le_refl _)
    have SP := Aside0.mk (Option.some.inj h)
    have FI := Aside0.mk hF
    have R0 := Aside0.mk hr0_0
    have R1 := Aside0.mk hr0_1
    have LL := Aside0.mk hL
    have CC := Aside0.mk hC
    clear hK hC hL h hF hr0_0 hr0_1
    have hu25 := Try.underlying25
    have hu27 := Try.underlying27
    go_enter Try.func15,Try.ntmps15
    go_wp2_with fail
    have hb2 : Below w.heap.size w ((w.alloc (Obj.cells #[Value.slice A0_0 l0_0.length c0_0,Value.slice A0_1 l0_1.length c0_1] 25)).alloc (Obj.cells #[Value.int IntKind.i64 a2] 3)) := below_alloc (below_alloc (Below.refl _ _) _) _
    refine (made_calls K (lE a1) (ckSpec l0_0 l0_1) A0_0 c0_0 l0_0 A0_1 c0_1 l0_1 a1 (some ⟨w.heap.size + 1,0,none⟩) 1 [a2] _ (Kd.C_below R0.out hb2) hc0_0 (Kd.C_below R1.out hb2) hc0_1 (by simpa using one_id (w.alloc (Obj.cells #[Value.slice A0_0 l0_0.length c0_0,Value.slice A0_1 l0_1.length c0_1] 25)) a2) LL.out CC.out (fun h0 => by
      have G := ckSpec_zero _ _ h0
      exact ⟨G.n256,G.l4096,G.nodup,G.ends⟩)).mono ?_
    rintro x1 w1 ⟨hb1,ho⟩
    have HB1 : Aside0 (Below w.heap.size w w1) := ⟨below_then hb2 hb2.size hb1⟩
    have SZ : Aside0 (w.heap.size ≤ ((w.alloc (Obj.cells #[Value.slice A0_0 l0_0.length c0_0,Value.slice A0_1 l0_1.length c0_1] 25)).alloc (Obj.cells #[Value.int IntKind.i64 a2] 3)).heap.size) := ⟨hb2.size⟩
    clear hb2 hb1
    rcases ho with ⟨h1,rfl⟩ | ⟨h1,⟨h2,rfl⟩ | ⟨h2,h3,rfl⟩ | ⟨h2,h3,g,rfl,h4,h5⟩⟩
    · have heb : (lE a1 == 0) = false := by simpa using h1
      have heb1 : (lE a1 != 0) = true := by simpa using h1
      obtain ⟨rfl,rfl⟩ := Prod.mk.inj ((distsSpec_no (ask_lim h1) h1).symm.trans SP.out)
      go_wp2_with fail
      go_ret2
      exact ⟨_,rfl,Kd.R_nil _ _ _ _ _,HB1.out⟩
    · have heb : (ckSpec l0_0 l0_1 == 0) = false := by simpa using h2
      have heb1 : (ckSpec l0_0 l0_1 != 0) = true := by simpa using h2
      obtain ⟨rfl,rfl⟩ := Prod.mk.inj ((distsSpec_no (ask_ck h1 h2) h2).symm.trans SP.out)
      go_wp2_with fail
      go_ret2
      exact ⟨_,rfl,Kd.R_nil _ _ _ _ _,HB1.out⟩
    · obtain ⟨id,hid,hpl⟩ := h3
      obtain rfl : id = a2 := by simpa using hid
      obtain ⟨rfl,rfl⟩ := Prod.mk.inj ((distsSpec_no (ask_none h1 h2 hpl) (by decide)).symm.trans SP.out)
      go_wp2_with fail
      go_ret2
      exact ⟨_,rfl,Kd.R_nil _ _ _ _ _,HB1.out⟩
    · have hpl := h3 a2 (by simp)
      obtain ⟨rfl,rfl⟩ := Prod.mk.inj ((distsSpec_ok (ask_ok h1 h2 hpl)).symm.trans SP.out)
      have NA := Aside0.mk h5
      have GG : Aside0 (w.heap.size ≤ g) := ⟨by have := SZ.out;omega⟩
      obtain ⟨B0,d0,B1,d1,mb,B3,d3,k1,k2,k3,k4,k5,k6⟩ := h5
      have n3 : w1.cell? ⟨g,3,none⟩ = some (.map (some mb)) := (blk_cell k1 3).trans rfl
      have lk : (Instr.lookup 63 (.map (some mb)) (.int .i64 a2) false).run Try.prog w1 = .ok (.int .i64 (plc l0_0 a2 : Int)) w1 := by
        have h9 := run_look1 (P := Try.prog) (t := 63) (et := 3) (key_int Try.underlying3) Try.underlying63 k6 a2 (.int .i64 0) (by kernel_rfl)
        rw [mget_places,if_pos hpl] at h9
        exact h9
      have hu63 := Try.underlying63
      have hu66 := Try.underlying66
      clear k1 k2 k3 k4 k5 k6 h3 h4
      go_wp2_with fail
      obtain ⟨T,-,-⟩ := askSpec_zero FI.out.2 (ask_ok (id := a2) h1 h2 hpl)
      refine (dists_net T.good FI.out.1 T.lim T.low T.high hpl _ NA.out).mono ?_
      rintro e w2 ⟨b,rfl,hb1,hb2,hb3⟩
      have HB2 : Aside0 (Below w.heap.size w w2) := ⟨below_then HB1.out HB1.out.size hb3⟩
      have HR : Aside0 (Kd.R Kd.float 26 w2 w.heap.size (fun _ => True) (.slice (some ⟨b,0,none⟩) l0_0.length l0_0.length) (dbits (mqOf a1) (dQ l0_0 l0_1 (mqOf a1) (plc l0_0 a2)))) :=
        ⟨dists_row (by have := HB1.out.size;omega) hb2 (dQ_tells T.good FI.out.1 T.low T.high hpl).len T.good.n256⟩
      clear hb1 hb2 hb3 T lk n3
      go_wp2_with fail
      go_ret2
      exact ⟨_,rfl,HR.out,HB2.out⟩
  · rw [if_neg hF] at h
    cases h
end Go.Proofs.Ytmdkcecbklgihaa.PA
