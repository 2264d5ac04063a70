/- paths.Components: who reaches whom, in plain terms. Conditions: weights are words. -/
import Derived.Test.YtmdkcecbklgihaaCoGr
import Derived.Test.YtmdkcecbklgihaaCcHy
import Derived.Shelf.SortM.Plain
import Derived.Ground.SlgmProg
import Derived.Sort.OwnSortedInts
namespace Go.Proofs.Ytmdkcecbklgihaa.PA
open Go.RowKit Go.Proofs.YtmdkcecbklgihaaW.PrintWords Go.Proofs.YtmdkcecbklgihaaW.PrintLast Go.Proofs.YtmdkcecbklgihaaW.PrintMore
open Classical
set_option linter.unusedVariables false
set_option linter.unusedSimpArgs false
set_option linter.unusedSectionVars false
def Try.sortL_ren : Go.Shelf.Ren := ⟨fun | 5 => 46 | 8 => 59 | 7 => 58 | 19 => 80 | 20 => 81 | 10 => 71 | 11 => 72 | 12 => 73 | 13 => 74 | 14 => 75 | 15 => 76 | 16 => 77 | 17 => 78 | 18 => 79 | 30 => 89 | 31 => 90 | 32 => 91 | 33 => 92 | 34 => 93 | 35 => 94 | 40 => 99 | n => n, fun | 23 => 27 | 25 => 3 | 3 => 3 | 32 => 100 | 22 => 27 | 0 => 0 | 44 => 114 | 46 => 48 | 4 => 4 | 36 => 107 | 35 => 106 | 41 => 97 | 5 => 5 | 9 => 9 | 53 => 122 | 57 => 126 | 63 => 133 | 64 => 134 | n => n, fun | n => n⟩
theorem Try.sortL : Go.Proofs.SlLaysM.n5 Try.prog Try.sortL_ren := {
  mixed := by kernel_rfl
  f5 := ⟨Try.f46.name, by decide, Try.func46.trans (congrArg some (by kernel_rfl))⟩
  f7 := ⟨Try.f58.name, by decide, Try.func58.trans (congrArg some (by kernel_rfl))⟩
  f8 := Try.func59.trans (congrArg some (by kernel_rfl))
  f10 := ⟨Try.f71.name, by decide, Try.func71.trans (congrArg some (by kernel_rfl))⟩
  f11 := ⟨Try.f72.name, by decide, Try.func72.trans (congrArg some (by kernel_rfl))⟩
  f12 := ⟨Try.f73.name, by decide, Try.func73.trans (congrArg some (by kernel_rfl))⟩
  f13 := ⟨Try.f74.name, by decide, Try.func74.trans (congrArg some (by kernel_rfl))⟩
  f14 := ⟨Try.f75.name, by decide, Try.func75.trans (congrArg some (by kernel_rfl))⟩
  f15 := ⟨Try.f76.name, by decide, Try.func76.trans (congrArg some (by kernel_rfl))⟩
  f16 := ⟨Try.f77.name, by decide, Try.func77.trans (congrArg some (by kernel_rfl))⟩
  f17 := ⟨Try.f78.name, by decide, Try.func78.trans (congrArg some (by kernel_rfl))⟩
  f18 := ⟨Try.f79.name, by decide, Try.func79.trans (congrArg some (by kernel_rfl))⟩
  f19 := Try.func80.trans (congrArg some (by kernel_rfl))
  f20 := Try.func81.trans (congrArg some (by kernel_rfl))
  f30 := ⟨Try.f89.name, by decide, Try.func89.trans (congrArg some (by kernel_rfl))⟩
  f31 := Try.func90.trans (congrArg some (by kernel_rfl))
  f32 := Try.func91.trans (congrArg some (by kernel_rfl))
  f33 := ⟨Try.f92.name, by decide, Try.func92.trans (congrArg some (by kernel_rfl))⟩
  f34 := ⟨Try.f93.name, by decide, Try.func93.trans (congrArg some (by kernel_rfl))⟩
  f35 := ⟨Try.f94.name, by decide, Try.func94.trans (congrArg some (by kernel_rfl))⟩
  f40 := ⟨Try.f99.name, by decide, Try.func99.trans (congrArg some (by kernel_rfl))⟩
  t0 := Try.underlying0
  a0 := Try.isAgg0
  z0 := Try.sizeOf0
  v0 := Try.zeroValue0
  t3 := Try.underlying3
  a3 := Try.isAgg3
  z3 := Try.sizeOf3
  v3 := Try.zeroValue3
  t4 := Try.underlying4
  a4 := Try.isAgg4
  z4 := Try.sizeOf4
  v4 := Try.zeroValue4
  t5 := Try.underlying5
  a5 := Try.isAgg5
  z5 := Try.sizeOf5
  v5 := Try.zeroValue5
  t9 := Try.underlying9
  a9 := Try.isAgg9
  z9 := Try.sizeOf9
  v9 := Try.zeroValue9
  t22 := Try.underlying27
  a22 := Try.isAgg27
  z22 := Try.sizeOf27
  v22 := Try.zeroValue27
  t23 := Try.underlying27
  a23 := Try.isAgg27
  z23 := Try.sizeOf27
  v23 := Try.zeroValue27
  t25 := Try.underlying3
  a25 := Try.isAgg3
  z25 := Try.sizeOf3
  v25 := Try.zeroValue3
  t32 := Try.underlying100
  a32 := Try.isAgg100
  z32 := Try.sizeOf100
  v32 := Try.zeroValue100
  t35 := Try.underlying106
  a35 := Try.isAgg106
  z35 := Try.sizeOf106
  v35 := Try.zeroValue106
  t36 := Try.underlying107
  a36 := Try.isAgg107
  z36 := Try.sizeOf107
  v36 := Try.zeroValue107
  t41 := Try.underlying97
  a41 := Try.isAgg97
  z41 := Try.sizeOf97
  v41 := Try.zeroValue97
  t44 := Try.underlying114
  a44 := Try.isAgg114
  z44 := Try.sizeOf114
  v44 := Try.zeroValue114
  t46 := Try.underlying48
  a46 := Try.isAgg48
  z46 := Try.sizeOf48
  v46 := Try.zeroValue48
  t53 := Try.underlying122
  a53 := Try.isAgg122
  z53 := Try.sizeOf122
  v53 := Try.zeroValue122
  t57 := Try.underlying126
  a57 := Try.isAgg126
  z57 := Try.sizeOf126
  v57 := Try.zeroValue126
  t63 := Try.underlying133
  a63 := Try.isAgg133
  z63 := Try.sizeOf133
  v63 := Try.zeroValue133
  t64 := Try.underlying134
  a64 := Try.isAgg134
  z64 := Try.sizeOf134
  v64 := Try.zeroValue134 }
open Go.Sort in
theorem sort_calls (blk off cap : Nat) (zs : List Int) (w : World) (hH : Holds (Value.int .i64) w blk off zs.toArray) (hblk : blk < w.heap.size) (hsz : zs.length < 4611686018427387904) :
    Calls Try.prog 46 #[.slice (some ⟨blk,off,none⟩) zs.length cap] w fun e w' =>
      e = .returned (.tuple #[]) ∧ ∃ n os,w' = grow (putRow (Value.int .i64) (Sort.ahead w n) blk off (zs.mergeSort fun x y => decide (x ≤ y)).toArray) os :=
  AnyM.slices_Sort_int Try.sortL blk off cap zs w hH hblk hsz
theorem info4 : (Try.prog.info? 4).map (fun i => (i.zero,i.size,i.bytes)) = some (some (.bool false),1,1) := by kernel_rfl
theorem Good.wts {nodes : List S40} {links : List S74} (G : Good nodes links) (hF : Fits links) : Weights wqOf 4194304 links := fun l hl => ⟨(G.weights hF hl).1,by have := (G.weights hF hl).2.1;omega,(G.weights hF hl).2.2⟩
theorem bools_start (n : Nat) : (Obj.cells (madeCells #[Value.bool false] n) 4) = Obj.cells (bools (List.replicate n false)).toArray 4 (0,0) := by
  congr 1
  apply Array.ext'
  apply List.ext_getElem
  · simp [bools,madeCells]
  intro i h1 h2
  simp [bools,madeCells,Nat.mod_one]
theorem bools_at (s : List Bool) (p : Nat) (h : p < s.length) : (bools s).toArray[p]? = some (.bool (s.getD p false)) := by
  simp [bools,h,List.getD_eq_getElem?_getD]
theorem bools_set (s : List Bool) (p : Nat) (b : Bool) : (bools s).toArray.setIfInBounds p (.bool b) = (bools (s.set p b)).toArray := by
  simp [bools,List.map_set]
def nats (l : List Nat) : List Int := l.map fun p : Nat => (p : Int)
theorem nats_len (l : List Nat) : (nats l).length = l.length := by simp [nats]
theorem nats_at (l : List Nat) (k : Nat) (h : k < l.length) : (nats l).getD k 0 = ((l.getD k 0 : Nat) : Int) := by
  simp [nats,h,List.getD_eq_getElem?_getD]
theorem nats_app (l : List Nat) (p : Nat) : nats (l ++ [p]) = nats l ++ [(p : Int)] := by simp [nats]
theorem no_ids' (W : World) : Kd.C (Kd.int .i64) W none ([] : List Int).length [] := (Kd.R_reads' (Kd.R_nil (Kd.int .i64) 3 W 0 (fun _ => True))).2.2
theorem compsSpec_no {nodes : List S40} {links : List S74} (h : ckSpec nodes links ≠ 0) : compsSpec nodes links = ([],ckSpec nodes links) := by
  unfold compsSpec
  rw [if_neg h]
theorem compsSpec_ok {nodes : List S40} {links : List S74} (h : ckSpec nodes links = 0) : compsSpec nodes links = ((compsTo nodes (adjQ wqOf nodes links) nodes.length nodes.length).map (idsOf nodes),0) := by
  unfold compsSpec
  rw [if_pos h]
noncomputable def paths_Components.f (l0_0 : List S40) (l0_1 : List S74) : Option (List (List Int) × Int) := if Fits l0_1 then some (compsSpec l0_0 l0_1) else none
set_option maxHeartbeats 1500000 in
set_option maxRecDepth 100000 in
theorem paths_Components.calls (A0_0 : Option Addr) (c0_0 : Nat) (l0_0 : List (S40)) (A0_1 : Option Addr) (c0_1 : Nat) (l0_1 : List (S74)) (r1 : List (List Int)) (r2 : Int) (w : World) (hr0_0 : Kd.C k40 w A0_0 l0_0.length l0_0) (hc0_0 : l0_0.length ≤ c0_0) (hr0_1 : Kd.C k74 w A0_1 l0_1.length l0_1) (hc0_1 : l0_1.length ≤ c0_1) (h : paths_Components.f l0_0 l0_1 = some (r1,r2)) :
    Calls Try.prog 27 #[.agg #[.slice A0_0 l0_0.length c0_0,.slice A0_1 l0_1.length c0_1]] w fun e w' => ∃ v0_ : Value,e = .returned (.tuple #[v0_,.int .i64 r2]) ∧ Kd.S (Kd.slice 3 (Kd.int .i64)) 27 w' w.heap.size (fun _ => True) v0_ r1 ∧ Below w.heap.size w w' := by
  unfold paths_Components.f at h
  by_cases hF : Fits l0_1
  rotate_left
  · rw [if_neg hF] at h
    cases h
  rw [if_pos hF] at h
  obtain ⟨K,hK⟩ := graph_tells (nodes := l0_0) hF
  have hC : graph_Check.f K l0_0 l0_1 = some (ckSpec l0_0 l0_1) := hK K (Nat.le_refl _)
  have SP := Aside0.mk (Option.some.inj h)
  have FI := Aside0.mk hF
  have R0 := Aside0.mk hr0_0
  have R1 := Aside0.mk hr0_1
  have CC := Aside0.mk hC
  clear hK hC h hF hr0_0 hr0_1
  have hu25 := Try.underlying25
  have hu27 := Try.underlying27
  go_enter Try.func27,Try.ntmps27
  go_wp2_with fail
  have hb2 : Below w.heap.size w (w.alloc (Obj.cells #[Value.slice A0_0 l0_0.length c0_0,Value.slice A0_1 l0_1.length c0_1] 25)) := below_alloc (Below.refl _ _) _
  refine (checked_calls K (ckSpec l0_0 l0_1) A0_0 c0_0 l0_0 A0_1 c0_1 l0_1 0 none 0 [] _ (Kd.C_below R0.out hb2) hc0_0 (Kd.C_below R1.out hb2) hc0_1 (no_ids' _) CC.out (fun h0 => by
    have G := ckSpec_zero _ _ h0
    exact ⟨G.n256,G.l4096,G.nodup,G.ends⟩)).mono ?_
  rintro x1 w1 ⟨hb1,ho⟩
  have HB1 : Aside0 (Below w.heap.size w w1) := ⟨below_then hb2 hb2.size hb1⟩
  have BX : Aside0 (w1.heap[w.heap.size]? = some (.cells #[.slice A0_0 l0_0.length c0_0,.slice A0_1 l0_1.length c0_1] 25 (0,0))) := ⟨blk_below (heap_alloc_new w _) hb1⟩
  clear hb2 hb1
  rcases ho with ⟨h2,rfl⟩ | ⟨h2,⟨id,hid,_⟩,rfl⟩ | ⟨h2,h3,g,rfl,h4,h5⟩
  · have heb : (ckSpec l0_0 l0_1 == 0) = false := by simpa using h2
    have heb1 : (ckSpec l0_0 l0_1 != 0) = true := by simpa using h2
    obtain ⟨rfl,rfl⟩ := Prod.mk.inj ((compsSpec_no h2).symm.trans SP.out)
    go_wp2_with fail
    go_ret2
    exact ⟨_,rfl,Kd.S_nil _ _ _ _ _,HB1.out⟩
  · cases hid
  obtain ⟨rfl,rfl⟩ := Prod.mk.inj ((compsSpec_ok h2).symm.trans SP.out)
  have NA := Aside0.mk h5
  have G := ckSpec_zero _ _ h2
  have GG := Aside0.mk G
  have hn := G.n256
  have hu63 := Try.underlying63
  have hu66 := Try.underlying66
  have hu22 := Try.underlying22
  have hu78 := Try.underlying78
  have hu40 := Try.underlying40
  have hu79 := Try.underlying79
  have hmk := run_make_row' (P := Try.prog) 78 4 (.bool false) 1 Try.underlying78 info4 rfl .i64 .i64 l0_0.length (by omega) (by omega)
  have b0 : w1.cell? ⟨w.heap.size,0,none⟩ = some (.slice A0_0 l0_0.length c0_0) := (blk_cell BX.out 0).trans rfl
  have hsz1 := blk_lt BX.out
  obtain ⟨n,hnn⟩ : ∃ n,n = l0_0.length := ⟨_,rfl⟩
  have NN := Aside0.mk hnn
  rw [adjQ_rows wqOf 4194304 l0_0 l0_1 G.ends (G.wts FI.out)] at h5
  obtain ⟨R,hR⟩ : ∃ R,adjQ wqOf l0_0 l0_1 = R := ⟨_,rfl⟩
  rw [hR] at h5
  have hW : Wf R n := by rw [← hR,hnn];exact adjQ_wf wqOf 4194304 l0_0 l0_1 G.ends (G.wts FI.out)
  obtain ⟨B0,d0,B1,d1,mb,B3,d3,k1,k2,k3,k4,k5,k6⟩ := h5
  have N1 := Aside0.mk k1
  have N4 := Aside0.mk k4
  have RQ := Aside0.mk hR
  have WF := Aside0.mk hW
  clear h3 h4 G k1 k2 k3 k4 k5 k6 hR
  rw [← hnn] at hmk hn b0 ⊢
  clear hnn
  go_wp2_with fail
  clear hmk b0
  obtain ⟨sb,hsb⟩ : ∃ sb,sb = w1.heap.size := ⟨_,rfl⟩
  obtain ⟨w2,hw2⟩ : ∃ w2,w2 = w1.alloc (Obj.cells (madeCells #[Value.bool false] n) 4) := ⟨_,rfl⟩
  have S2 : Aside0 (Below w1.heap.size w1 w2 ∧ w2.heap[sb]? = some (.cells (bools (List.replicate n false)).toArray 4 (0,0)) ∧ Kd.S (Kd.slice 3 (Kd.int .i64)) 27 w2 w1.heap.size (fun k => k ≠ sb) (.slice none 0 0) ([] : List (List Int))) :=
    ⟨by rw [hw2];exact below_alloc (Below.refl _ _) _,by rw [hw2,hsb];exact (heap_alloc_new w1 _).trans (by rw [bools_start]),Kd.S_nil _ _ _ _ _⟩
  rw [← hsb,← hw2]
  have SB : Aside0 (w1.heap.size ≤ sb) := ⟨by omega⟩
  clear hsb hw2
  go_loopg [7,32] n (fun kq vo vi wr => ∃ (j : Nat) (s : List Bool),vi = .int .i64 (j : Int) ∧ j + kq = n ∧ Aside0 (s.length = n ∧ ∀ p,p < n → (s.getD p false = true ↔ Old l0_0 R j p)) ∧
    Aside0 (Below w1.heap.size w1 wr ∧ wr.heap[sb]? = some (.cells (bools s).toArray 4 (0,0)) ∧ Kd.S (Kd.slice 3 (Kd.int .i64)) 27 wr w1.heap.size (fun k => k ≠ sb) vo ((compsTo l0_0 R n j).map (idsOf l0_0))))
  case atStart => exact ⟨0,List.replicate n false,rfl,by simp,⟨by simp,fun p hp => ⟨fun h => by simp [List.getD_eq_getElem?_getD,hp] at h,fun h => by obtain ⟨h,h1,_⟩ := h;exact absurd h1 (Nat.not_lt_zero _)⟩⟩,S2⟩
  case round =>
    obtain ⟨wo,rfl⟩ : ∃ wo,wo = wr := ⟨_,rfl⟩
    obtain ⟨go,rfl⟩ : ∃ go,go = gk := ⟨_,rfl⟩
    obtain ⟨j,s,rfl,hj,HS,HM⟩ := hrel
    by_cases hjl : j < n
    rotate_left
    · have hjn : j = n := by omega
      subst hjn
      go_wp2_with fail
      go_ret2
      exact ⟨_,rfl,by rw [← NN.out,RQ.out];exact Kd.S_mono (Kd.S_lower HM.out.2.2 HB1.out.size) (fun _ _ => trivial),below_then HB1.out HB1.out.size HM.out.1⟩
    have hjz : (j : Int) < (n : Int) := by omega
    obtain ⟨an,e0,ha0,ha1,ha2⟩ := at_T40 R0.out (j : Int) (by omega) (by rw [← NN.out];exact hjz)
    subst e0
    have hrd2 : rd_T40 l0_0 (j : Int) = l0_0.getD j z40 := by
      unfold rd_T40
      rw [Int.toNat_natCast]
    rw [hrd2,Int.toNat_natCast] at ha0 ha1 ha2
    have hbw : Below w.heap.size w wo := below_then HB1.out HB1.out.size HM.out.1
    have a0' := (hbw.cell (World.block_lt_of_cell? w _ ha0)).trans ha0
    have a1' := (hbw.cell (World.block_lt_of_cell? w _ ha1)).trans ha1
    have a2' := (hbw.cell (World.block_lt_of_cell? w _ ha2)).trans ha2
    obtain ⟨nd,hnd⟩ : ∃ nd,l0_0.getD j z40 = nd := ⟨_,rfl⟩
    rw [hnd] at a0' a1' a2'
    obtain ⟨lb,hlb⟩ : ∃ lb,lb = wo.heap.size := ⟨_,rfl⟩
    obtain ⟨w6,hw6⟩ : ∃ w6,w6 = wo.alloc (.cells #[.int .i64 nd.f0,.bool nd.f1,.bool nd.f2] 40) := ⟨_,rfl⟩
    have hB6 : Below wo.heap.size wo w6 := by rw [hw6];exact below_alloc (Below.refl _ _) _
    have hl6 : w6.heap[lb]? = some (.cells #[.int .i64 nd.f0,.bool nd.f1,.bool nd.f2] 40 (0,0)) := by rw [hw6,hlb];exact heap_alloc_new _ _
    have H6 : Aside0 (Below w1.heap.size w1 w6 ∧ w6.heap[sb]? = some (.cells (bools s).toArray 4 (0,0)) ∧ Kd.S (Kd.slice 3 (Kd.int .i64)) 27 w6 w1.heap.size (fun k => k ≠ sb) u7 ((compsTo l0_0 R n j).map (idsOf l0_0))) :=
      ⟨below_then HM.out.1 HM.out.1.size hB6,blk_below HM.out.2.1 hB6,Kd.S_below HM.out.2.2 hB6⟩
    obtain ⟨up,hup⟩ : ∃ up,nd.f1 = up := ⟨_,rfl⟩
    obtain ⟨sj,hsj⟩ : ∃ sj,s.getD j false = sj := ⟨_,rfl⟩
    rw [hup] at a1' hw6 hl6
    have sq : wo.cell? ⟨sb,j,none⟩ = some (.bool sj) := (blk_cell HM.out.2.1 j).trans ((bools_at s j (by rw [HS.out.1];exact hjl)).trans (by rw [hsj]))
    have sf : wo.frozen? ⟨sb,j,none⟩ = false := blk_frozen HM.out.2.1 j
    have hsbl : sb < wo.heap.size := blk_lt HM.out.2.1
    have hhead : Head l0_0 R j ↔ (up = true ∧ sj = false) := by
      have h1 := head_old GG.out (i := j) (by rw [← NN.out];exact hjl)
      rw [RQ.out,hnd,hup,← HS.out.2 j hjl,hsj] at h1
      rw [h1]
      cases sj <;> simp
    have HH := Aside0.mk hhead
    have L6 := Aside0.mk hl6
    have HB6 := Aside0.mk hB6
    clear ha0 ha1 ha2 hrd2 hbw hnd hB6 hl6 hup hsj hhead
    by_cases hskip : up = true ∧ sj = false
    rotate_left
    · have hno : ¬ Head l0_0 R j := fun h => hskip (HH.out.1 h)
      have hS2 : s.length = n ∧ ∀ p,p < n → (s.getD p false = true ↔ Old l0_0 R (j + 1) p) := ⟨HS.out.1,fun p hp => by
        rw [HS.out.2 p hp,← RQ.out,old_skip GG.out (by rw [RQ.out];exact hno)]⟩
      have hC2 : compsTo l0_0 R n (j + 1) = compsTo l0_0 R n j := by rw [compsTo_succ,if_neg hno]
      have HS2 := Aside0.mk hS2
      have HC2 := Aside0.mk hC2
      clear hS2 hC2 hno
      have hcase : up = false ∨ (up = true ∧ sj = true) := by
        cases up
        · exact Or.inl rfl
        cases sj
        · exact absurd ⟨rfl,rfl⟩ hskip
        exact Or.inr ⟨rfl,rfl⟩
      clear hskip
      rcases hcase with rfl | ⟨rfl,rfl⟩
      all_goals (
        go_wp2_with fail
        simp only [← hw6,← hlb]
        go_roundg (go - 1)
        case measure => omega
        case rel => exact ⟨j + 1,s,by go_num,by omega,HS2,⟨H6.out.1,H6.out.2.1,by rw [HC2.out];exact H6.out.2.2⟩⟩)
    obtain ⟨rfl,rfl⟩ := hskip
    have HHD := Aside0.mk (HH.out.2 ⟨rfl,rfl⟩)
    go_wp2_with fail
    simp only [← hw6,← hlb]
    have hX : ((wo.setCell ⟨sb,j,none⟩ (.bool true)).alloc (.cells #[.int .i64 nd.f0,.bool true,.bool nd.f2] 40)).heap.size = lb + 1 := by
      rw [hlb]
      simp
    have R8 : Aside0 (Kd.R (Kd.int .i64) 3 (((wo.setCell ⟨sb,j,none⟩ (.bool true)).alloc (.cells #[.int .i64 nd.f0,.bool true,.bool nd.f2] 40)).alloc (.cells #[.int .i64 (j : Int)] 3)) w1.heap.size (fun k => wo.heap.size ≤ k) (.slice (some ⟨lb + 1,0,none⟩) 1 1) (nats [j])) := ⟨by
      have h9 := own_lit ((wo.setCell ⟨sb,j,none⟩ (.bool true)).alloc (.cells #[.int .i64 nd.f0,.bool true,.bool nd.f2] 40)) w1.heap.size 3 .i64 [(j : Int)] (by rw [hX];have := HM.out.1.size;omega) (by simp)
      rw [hX] at h9
      exact Kd.R_of_own h9 (fun k hk => by simp [Value.ownBlock] at hk;omega)⟩
    have M8 : Aside0 ((((wo.setCell ⟨sb,j,none⟩ (.bool true)).alloc (.cells #[.int .i64 nd.f0,.bool true,.bool nd.f2] 40)).alloc (.cells #[.int .i64 (j : Int)] 3)).heap[sb]? = some (.cells (bools (s.set j true)).toArray 4 (0,0))) := ⟨blk_below (blk_below (blk_put HM.out.2.1 j _ (bools_set s j true)) (below_alloc (Below.refl _ _) _)) (below_alloc (Below.refl _ _) _)⟩
    have K8 : Aside0 (Kept wo (((wo.setCell ⟨sb,j,none⟩ (.bool true)).alloc (.cells #[.int .i64 nd.f0,.bool true,.bool nd.f2] 40)).alloc (.cells #[.int .i64 (j : Int)] 3)) (fun k => k = sb) ∧ Below w1.heap.size w1 (((wo.setCell ⟨sb,j,none⟩ (.bool true)).alloc (.cells #[.int .i64 nd.f0,.bool true,.bool nd.f2] 40)).alloc (.cells #[.int .i64 (j : Int)] 3))) :=
      ⟨(((Kept.refl wo (fun k => k = sb)).setCell (p := ⟨sb,j,none⟩) (Or.inl rfl) _).alloc _).alloc _,below_alloc (below_alloc (Below.setCell HM.out.1 SB.out _) _) _⟩
    have BI : Aside0 (BInv R n j (Old l0_0 R j) (s.set j true) [j]) := ⟨by
      have h9 := BInv.start GG.out (i := j) (by rw [← NN.out];exact hjl) (by rw [RQ.out];exact HHD.out) (s := s) (by rw [← NN.out];exact HS.out.1) (by rw [← NN.out,RQ.out];exact HS.out.2)
      rwa [← NN.out,RQ.out] at h9⟩
    have hnj : 0 < n := by omega
    go_loopg [10,11] n (fun kq vin vk W => ∃ (k : Nat) (l : List Nat) (s' : List Bool),vk = .int .i64 (k : Int) ∧ k + kq = n ∧ Aside0 (k ≤ l.length ∧ BInv R n j (Old l0_0 R j) s' l ∧ Closed R (Old l0_0 R j) l k) ∧
      Aside0 (Kd.R (Kd.int .i64) 3 W w1.heap.size (fun k => wo.heap.size ≤ k) vin (nats l) ∧ W.heap[sb]? = some (.cells (bools s').toArray 4 (0,0)) ∧ Kept wo W (fun k => k = sb) ∧ Below w1.heap.size w1 W))
    case atStart => exact ⟨0,[j],s.set j true,rfl,by simp,⟨Nat.zero_le _,BI.out,fun k hk => absurd hk (Nat.not_lt_zero _)⟩,⟨R8.out,M8.out,K8.out⟩⟩
    case round =>
      clear R8 M8 K8 BI hX sq sf a0' a1' a2' hw6 hlb
      obtain ⟨wk,rfl⟩ : ∃ wk,wk = wr := ⟨_,rfl⟩
      obtain ⟨k,l,s',rfl,hk,HI,HB⟩ := hrel
      obtain ⟨Ai,ci,rfl⟩ := Kd.R_slice HB.out.1
      have hll := nats_len l
      have hln := HI.out.2.1.len
      rw [hll] at HB ⊢
      have hkn : k ≤ n := by omega
      by_cases hkl : k < l.length
      · have hkz : (k : Int) < (l.length : Int) := by omega
        obtain ⟨p,hp⟩ : ∃ p,l.getD k 0 = p := ⟨_,rfl⟩
        have hpl : p ∈ l := by
          rw [← hp]
          simp [List.getD_eq_getElem?_getD,hkl]
        obtain ⟨hpn,hpr⟩ := HI.out.2.1.rc p hpl
        obtain ⟨ai,e0,hi0⟩ := Kd.at_int (Kd.R_reads' HB.out.1).2.2 (k : Int) (by omega) (by rw [nats_len];exact hkz)
        subst e0
        rw [Int.toNat_natCast] at hi0
        have hrdk : rd (nats l) (k : Int) = (p : Int) := by
          unfold rd
          rw [Int.toNat_natCast,nats_at l k hkl,hp]
        rw [hrdk] at hi0
        obtain ⟨ar,Ar,cr,e1,hr0,hr1,hr2⟩ := at_L81 N4.out (p : Int) (by omega) (by rw [List.length_map,WF.out.1];omega)
        obtain ⟨row,hrow⟩ : ∃ row,R.getD p [] = row := ⟨_,rfl⟩
        have hrd : rd_L81 (R.map (rowOf bq)) (p : Int) = rowOf bq row := by
          unfold rd_L81
          rw [Int.toNat_natCast,← hrow]
          have hpl2 : p < R.length := by rw [WF.out.1];exact hpn
          simp [List.getD_eq_getElem?_getD,hpl2]
        have hrl : (rowOf bq row).length = row.length := by simp [rowOf]
        rw [hrd,hrl] at hr0 hr1 hr2
        rw [Int.toNat_natCast] at hr0
        subst e1
        have r0' := (HB.out.2.2.2.cell (World.block_lt_of_cell? w1 _ hr0)).trans hr0
        have g4' : wk.cell? ⟨g,4,none⟩ = some (.slice (some ar) n d3) := (HB.out.2.2.2.cell (blk_lt N1.out)).trans ((blk_cell N1.out 4).trans (by rw [List.length_map,WF.out.1];rfl))
        have hpz : (p : Int) < (n : Int) := by omega
        have HP := Aside0.mk (And.intro hp (And.intro hpn hpr))
        have HRW := Aside0.mk hrow
        have HR2 := Aside0.mk hr2
        clear hp hpl hpn hpr hrdk hrd hrl hr0 hr1 hr2 hrow
        have HBK := Aside0.mk HB.out
        go_wp2_with fail
        go_quiet (fail)
        go_wp2_with fail
        clear g4' r0' hi0
        have SBO : Aside0 (sb < wo.heap.size) := ⟨blk_lt HM.out.2.1⟩
        go_loopw [10,68] (fun vin vc W => ∃ (c : Nat) (l : List Nat) (s' : List Bool),vc = .int .i64 (c : Int) ∧ c ≤ row.length ∧ Aside0 (k < l.length ∧ l.getD k 0 = p ∧ BInv R n j (Old l0_0 R j) s' l ∧ Closed R (Old l0_0 R j) l k ∧ ClosedRow R (Old l0_0 R j) l k c) ∧
          Aside0 (Kd.R (Kd.int .i64) 3 W w1.heap.size (fun k => wo.heap.size ≤ k) vin (nats l) ∧ W.heap[sb]? = some (.cells (bools s').toArray 4 (0,0)) ∧ Kept wo W (fun k => k = sb) ∧ Below w1.heap.size w1 W)) (fun _ vc _ => row.length - (intOf vc).toNat)
        case atStart => exact ⟨0,l,s',rfl,Nat.zero_le _,⟨hkl,HP.out.1,HI.out.2.1,HI.out.2.2,fun c' hc' => absurd hc' (Nat.not_lt_zero _)⟩,⟨by have h9 := Kd.R_drewN HBK.out.1 (nq + 1);rw [nats_len] at *;exact h9,HBK.out.2.1,HBK.out.2.2.1.drewN _,HBK.out.2.2.2.trans (pw_below_drewN (Below.refl _ _) _)⟩⟩
        case round =>
          obtain ⟨wi,rfl⟩ : ∃ wi,wi = wr := ⟨_,rfl⟩
          obtain ⟨c,l,s',rfl,hc,HJ,HQ⟩ := hrel
          by_cases hcl : c < row.length
          rotate_left
          · have hcn : c = row.length := by omega
            subst hcn
            go_wp2_with fail
            go_roundg (gk - 1)
            case measure => omega
            case rel => exact ⟨k + 1,l,s',by go_num,by omega,⟨HJ.out.1,HJ.out.2.2.1,ClosedRow.done HJ.out.2.2.2.1 (by rw [HJ.out.2.1,HRW.out];rw [← HJ.out.2.1] at *;exact HJ.out.2.2.2.2)⟩,HQ⟩
          have hcz : (c : Int) < (row.length : Int) := by omega
          obtain ⟨e,he⟩ : ∃ e,row[c]? = some e := ⟨row[c],List.getElem?_eq_getElem hcl⟩
          obtain ⟨ra,e0,hc0,hc1⟩ := at_T81 HR2.out (c : Int) (by omega) hcz
          subst e0
          have hrd : rd_T81 (rowOf bq row) (c : Int) = ⟨(e.1 : Int),bq e.2⟩ := by
            unfold rd_T81 rowOf
            rw [Int.toNat_natCast]
            simp [List.getD_eq_getElem?_getD,he]
          rw [hrd] at hc0 hc1
          rw [Int.toNat_natCast] at hc0 hc1
          have c0' := (HQ.out.2.2.2.cell (World.block_lt_of_cell? w1 _ hc0)).trans hc0
          have c1' := (HQ.out.2.2.2.cell (World.block_lt_of_cell? w1 _ hc1)).trans hc1
          have heR : (R.getD (l.getD k 0) [])[c]? = some e := by rw [HJ.out.2.1,HRW.out];exact he
          obtain ⟨hen,hw1⟩ := WF.out.2 _ e (List.mem_of_getElem? heR)
          have hrc : Rch R j e.1 := (HJ.out.2.2.1.rc p (by
            rw [← HJ.out.2.1]
            have := HJ.out.1
            simp [List.getD_eq_getElem?_getD,this])).2.step (e := e) (by rw [← HJ.out.2.1];exact List.mem_of_getElem? heR)
          have henz : (e.1 : Int) < (n : Int) := by omega
          have hmax := Kd.C_max HR2.out
          obtain ⟨se,hse⟩ : ∃ se,s'.getD e.1 false = se := ⟨_,rfl⟩
          have sq : wi.cell? ⟨sb,e.1,none⟩ = some (.bool se) := (blk_cell HQ.out.2.1 e.1).trans ((bools_at s' e.1 (by rw [HJ.out.2.2.1.slen];exact hen)).trans (by rw [hse]))
          have sf : wi.frozen? ⟨sb,e.1,none⟩ = false := blk_frozen HQ.out.2.1 e.1
          have hsbl : sb < wi.heap.size := blk_lt HQ.out.2.1
          have HE := Aside0.mk (And.intro heR (And.intro hen (And.intro hrc hse)))
          clear hc0 hc1 hrd heR hse hrc he
          by_cases hsee : se = true
          · subst hsee
            go_wp2_with fail
            go_roundw
            case rel => exact ⟨c + 1,l,s',by go_num,hcl,⟨HJ.out.1,HJ.out.2.1,HJ.out.2.2.1,HJ.out.2.2.2.1,HJ.out.2.2.2.2.same HE.out.1 (((HJ.out.2.2.1.seen e.1 hen).1 HE.out.2.2.2).symm)⟩,⟨Kd.R_below HQ.out.1 (below_alloc (Below.refl _ _) _),blk_below HQ.out.2.1 (below_alloc (Below.refl _ _) _),HQ.out.2.2.1.alloc _,below_alloc HQ.out.2.2.2 _⟩⟩
            case measure => simp [intOf];omega
          obtain rfl : se = false := by simpa using hsee
          have hY : Kept wi ((wi.setCell ⟨sb,e.1,none⟩ (.bool true)).alloc (.cells #[.int .i64 (e.1 : Int),.float .f64 (bq e.2)] 81)) (fun k => k = sb) := ((Kept.refl wi (fun k => k = sb)).setCell (p := ⟨sb,e.1,none⟩) (Or.inl rfl) _).alloc _
          have HY : Aside0 (Kd.R (Kd.int .i64) 3 ((wi.setCell ⟨sb,e.1,none⟩ (.bool true)).alloc (.cells #[.int .i64 (e.1 : Int),.float .f64 (bq e.2)] 81)) w1.heap.size (fun k => wo.heap.size ≤ k) u10 (nats l) ∧ ((wi.setCell ⟨sb,e.1,none⟩ (.bool true)).alloc (.cells #[.int .i64 (e.1 : Int),.float .f64 (bq e.2)] 81)).heap[sb]? = some (.cells (bools (s'.set e.1 true)).toArray 4 (0,0)) ∧
            Kept wo ((wi.setCell ⟨sb,e.1,none⟩ (.bool true)).alloc (.cells #[.int .i64 (e.1 : Int),.float .f64 (bq e.2)] 81)) (fun k => k = sb) ∧ Below w1.heap.size w1 ((wi.setCell ⟨sb,e.1,none⟩ (.bool true)).alloc (.cells #[.int .i64 (e.1 : Int),.float .f64 (bq e.2)] 81))) :=
            ⟨Kd.R_kept HQ.out.1 hY (fun k hk h => by have := SBO.out;omega),blk_below (blk_put HQ.out.2.1 e.1 _ (bools_set s' e.1 true)) (below_alloc (Below.refl _ _) _),HQ.out.2.2.1.then_ hY (fun k hk => Or.inl hk),below_alloc (Below.setCell HQ.out.2.2.2 SB.out _) _⟩
          have LN : Aside0 ((nats l).length ≤ 256) := ⟨by rw [nats_len];have := HJ.out.2.2.1.len;omega⟩
          have hown : ∀ k,u10.ownBlock = some k → wo.heap.size ≤ k := HQ.out.1.1
          have OW := Aside0.mk hown
          clear hY hsee hown
          go_wp2_with ((with_reducible refine gate_builtin (b := .append) (xs := #[.tmp 82,.tmp 85]) rfl ?_);at_builtin;refine Kd.R_append (Kd.int .i64) (w0 := w1) w1.heap.size rfl (.tmp 82) (.tmp 85) 27 3 (.int .i64 0) 8 rfl Try.underlying27 info3 rfl (by decide) (by omega) u10 (nats l) (e.1 : Int) [.int .i64 (e.1 : Int)] (fun k => wo.heap.size ≤ k) (fun _ => False) rfl (by first | rfl | (simp [Act.eval,Act.put];done)) ?aP (fun _ hk => hk.elim) ?aF ?aO ?aB ?aS ?aL ?_;(case aP => exact rfl);(case aB => exact HY.out.2.2.2);(case aF => exact (fun k hk => Nat.le_trans HY.out.2.2.1.1 hk));(case aO => exact HY.out.1);(case aS => exact HY.out.2.2.2.size);(case aL => have := LN.out;omega);intro v9 w9 ho hb9 hg hat;rw [← nats_app] at ho;have HO9 := Aside0.mk (And.intro ho (And.intro (blk_grown HY.out.2.1 hg (fun h => by have := OW.out sb h.symm;have := SBO.out;omega)) (And.intro (Kept.of_grown hg HY.out.2.2.1 (fun k hk => Or.inr (OW.out k hk))) hb9)));clear ho hb9 hg hat)
          go_roundw
          case rel => exact ⟨c + 1,l ++ [e.1],s'.set e.1 true,by go_num,hcl,⟨by rw [List.length_append];have := HJ.out.1;omega,by rw [getD_appN _ _ _ HJ.out.1];exact HJ.out.2.1,HJ.out.2.2.1.add hen HE.out.2.2.1 HE.out.2.2.2,HJ.out.2.2.2.1.add (Nat.le_of_lt HJ.out.1) _,HJ.out.2.2.2.2.add HJ.out.1 HE.out.1⟩,HO9⟩
          case measure => simp [intOf];omega
      have hkl2 : k = l.length := by have := HI.out.1;omega
      subst hkl2
      have hmem := HI.out.2.1.done HI.out.2.2 (fun p hr => by
        have := old_apart GG.out (by rw [RQ.out];exact HHD.out) p (by rw [RQ.out];exact hr)
        rwa [RQ.out] at this)
      have hcomp : (nats l).mergeSort (fun x y => decide (x ≤ y)) = nats (comp R n j) := sorted_comp HI.out.2.1.nd hmem
      obtain ⟨hown1,hown2⟩ := Kd.own_of_R HB.out.1
      rcases hown2 with ⟨_,h0⟩ | ⟨gi,cap,cur,hv,hge,hheap,q1,q2,q3,q4⟩
      · exfalso
        rw [nats_len] at h0
        have := List.length_pos_of_mem HI.out.2.1.hd
        omega
      injection hv with hv1 hv2 hv3
      subst hv1
      subst hv3
      clear hv2
      have hokg : wo.heap.size ≤ gi := HB.out.1.1 gi rfl
      have C46 := sort_calls gi 0 ci (nats l) wk (holds_of_blockI hheap (by rw [Nat.mul_one] at q4;exact q4)) (blk_lt hheap) (by rw [nats_len];omega)
      rw [nats_len,hcomp] at C46
      have hcl : (nats (comp R n j)).length = (nats l).length := by rw [← hcomp,List.length_mergeSort]
      have HCL : Aside0 ((comp R n j).length = l.length) := ⟨by rw [nats_len,nats_len] at hcl;exact hcl⟩
      have SO : Aside0 (∀ (m : Nat) (os : Array Obj),(Go.Sort.grow (Go.Sort.putRow (Value.int .i64) (Sort.ahead wk m) gi 0 (nats (comp R n j)).toArray) os).ownsRow w1.heap.size 3 1 (.slice (some ⟨gi,0,none⟩) (nats l).length ci) (nats l).length ((nats (comp R n j)).map (Value.int .i64)) ∧ wk.grownBy (Go.Sort.grow (Go.Sort.putRow (Value.int .i64) (Sort.ahead wk m) gi 0 (nats (comp R n j)).toArray) os) (some gi)) := ⟨fun m os => ⟨ownsRow_sortedI hcl hge hheap q1 q2 q3,grownBy_sortedI _⟩⟩
      clear hown1 hheap q1 q2 q3 q4 hcomp hcl
      go_wp2_with fail
      refine C46.mono ?_
      rintro e5 w5 ⟨rfl,m,os,hw5⟩
      obtain ⟨h5o,h5g⟩ := SO.out m os
      rw [← hw5] at h5o h5g
      have SBO : Aside0 (sb < wo.heap.size) := ⟨blk_lt HM.out.2.1⟩
      have Q5 : Aside0 (Kd.R (Kd.int .i64) 3 w5 w1.heap.size (fun k => wo.heap.size ≤ k) (.slice (some ⟨gi,0,none⟩) l.length ci) (nats (comp R n j))) := ⟨Kd.R_of_own (by
        have h9 := h5o
        rw [nats_len] at h9
        rw [nats_len,HCL.out]
        exact h9) (fun k hk => by simp [Value.ownBlock] at hk;omega)⟩
      have K5 : Aside0 (w5.heap[sb]? = some (.cells (bools s').toArray 4 (0,0)) ∧ Kept wo w5 (fun k => k = sb) ∧ Below w1.heap.size w1 w5) :=
        ⟨blk_grown HB.out.2.1 h5g (fun h => by have := SBO.out;injection h with h;omega),Kept.of_grown h5g HB.out.2.2.1 (fun k hk => Or.inr (by injection hk with hk;omega)),pw_below_grown HB.out.2.2.2 _ HB.out.2.2.2.size h5g (fun k hk => by injection hk with hk;have := HM.out.1.size;omega)⟩
      clear h5o h5g hw5 C46 SO
      have CMN : Aside0 (∀ p,p ∈ comp R n j → p < n) := ⟨fun p hp => (mem_comp.1 hp).1⟩
      have CS := compsTo_succ l0_0 R n j
      rw [if_pos HHD.out] at CS
      have CLN : Aside0 (((compsTo l0_0 R n j).map (idsOf l0_0)).length ≤ 256) := ⟨by
        have h9 : (compsTo l0_0 R n j).length ≤ j := by
          unfold compsTo
          rw [List.length_map]
          exact Nat.le_trans (List.length_filter_le _ _) (by simp)
        rw [List.length_map]
        omega⟩
      have CS2 : Aside0 ((compsTo l0_0 R n (j + 1)).map (idsOf l0_0) = (compsTo l0_0 R n j).map (idsOf l0_0) ++ [idsOf l0_0 (comp R n j)]) := ⟨by rw [CS,List.map_append];rfl⟩
      clear CS
      have NS : Aside0 (∀ p,p < n → ((s'.getD p false) = true ↔ Old l0_0 R (j + 1) p)) := ⟨fun p hp => by
        have h9 := old_head GG.out (i := j) (by rw [RQ.out];exact HHD.out) p
        rw [RQ.out] at h9
        rw [HI.out.2.1.seen p hp,h9,hmem p]
        constructor
        · rintro (h1 | h1)
          · exact Or.inl h1
          exact Or.inr h1.2
        rintro (h1 | h1)
        · exact Or.inl h1
        exact Or.inr ⟨hp,h1⟩⟩
      have SL : Aside0 (s'.length = n) := ⟨HI.out.2.1.slen⟩
      have LL : Aside0 (l.length ≤ n) := ⟨hln⟩
      clear hmem
      obtain ⟨cm,hcm⟩ : ∃ cm,comp R n j = cm := ⟨_,rfl⟩
      rw [hcm] at Q5 CMN HCL CS2
      clear hcm
      have UL : Aside0 (∀ k,u7.ownBlock = some k → k < wo.heap.size ∧ k ≠ sb) := ⟨fun k hk => ⟨Kd.S_lt HM.out.2.2 k hk,(Kd.S_R HM.out.2.2).1 k hk⟩⟩
      go_wp2_with fail
      go_loopw [14,92] (fun vids vc W => ∃ (c : Nat),vc = .int .i64 (c : Int) ∧ c ≤ l.length ∧ Aside0 (Kd.R (Kd.int .i64) 3 W w5.heap.size (fun _ => True) vids (idsOf l0_0 (cm.take c)) ∧ Below w5.heap.size w5 W)) (fun _ vc _ => l.length - (intOf vc).toNat)
      case atStart => exact ⟨0,rfl,Nat.zero_le _,⟨Kd.R_nil _ _ _ _ _,Below.refl _ _⟩⟩
      case round =>
        obtain ⟨wi,rfl⟩ : ∃ wi,wi = wr := ⟨_,rfl⟩
        obtain ⟨c,rfl,hc,HO⟩ := hrel
        by_cases hcl : c < l.length
        · have hcz : (c : Int) < (l.length : Int) := by omega
          have hcm2 : c < cm.length := by rw [HCL.out];exact hcl
          obtain ⟨p,hp⟩ : ∃ p,cm.getD c 0 = p := ⟨_,rfl⟩
          have hpm : p ∈ cm := by
            rw [← hp]
            simp [List.getD_eq_getElem?_getD,hcm2]
          have hpn := CMN.out p hpm
          obtain ⟨ai,e0,hi0⟩ := Kd.at_int (Kd.R_reads' Q5.out).2.2 (c : Int) (by omega) (by rw [nats_len,HCL.out];exact hcz)
          injection e0 with e0
          subst e0
          have hrdk : rd (nats cm) (c : Int) = (p : Int) := by
            unfold rd
            rw [Int.toNat_natCast,nats_at cm c hcm2,hp]
          rw [hrdk,Int.toNat_natCast] at hi0
          have i0' : wi.cell? ⟨gi,c,none⟩ = some (.int .i64 (p : Int)) := by
            have h9 := (HO.out.2.cell (World.block_lt_of_cell? w5 _ hi0)).trans hi0
            rcases Nat.eq_zero_or_pos c with rfl | h8
            · simpa [Addr.add] using h9
            simpa [Addr.add,Nat.ne_of_gt h8] using h9
          have hbw1 : Below w1.heap.size w1 wi := below_then K5.out.2.2 K5.out.2.2.size HO.out.2
          have hbw : Below w.heap.size w wi := below_then HB1.out HB1.out.size hbw1
          obtain ⟨an2,e1,ha0,ha1,ha2⟩ := at_T40 R0.out (p : Int) (by omega) (by rw [← NN.out];omega)
          injection e1 with e1
          subst e1
          have hrd2 : rd_T40 l0_0 (p : Int) = l0_0.getD p z40 := by
            unfold rd_T40
            rw [Int.toNat_natCast]
          rw [hrd2,Int.toNat_natCast] at ha0
          have a0' : wi.cell? (an.add (p * 3)) = some (.int .i64 (idAt l0_0 p)) := (hbw.cell (World.block_lt_of_cell? w _ ha0)).trans ha0
          have b0' : wi.cell? ⟨w.heap.size,0,none⟩ = some (.slice (some an) n c0_0) := by
            rw [NN.out]
            exact (hbw1.cell (blk_lt BX.out)).trans ((blk_cell BX.out 0).trans rfl)
          have hpz : (p : Int) < (n : Int) := by omega
          have htk : idsOf l0_0 (cm.take (c + 1)) = idsOf l0_0 (cm.take c) ++ [idAt l0_0 p] := by
            unfold idsOf
            rw [List.take_add_one,List.map_append,List.getElem?_eq_getElem hcm2]
            have : cm[c] = p := by rw [← hp];simp [List.getD_eq_getElem?_getD,hcm2]
            simp [this]
          have HTK := Aside0.mk htk
          obtain ⟨L,hL⟩ : ∃ L,idsOf l0_0 (cm.take c) = L := ⟨_,rfl⟩
          have LN : Aside0 (L.length ≤ 256) := ⟨by
            rw [← hL]
            unfold idsOf
            rw [List.length_map,List.length_take]
            omega⟩
          rw [hL] at HO HTK
          obtain ⟨hp0,hhp⟩ : ∃ q,idAt l0_0 p = q := ⟨_,rfl⟩
          rw [hhp] at a0' HTK
          clear hL hhp htk ha0 ha1 ha2 hi0 hrdk hrd2 hp hpm hbw hbw1
          go_wp2_with ((with_reducible refine gate_builtin (b := .append) (xs := #[.tmp 96,.tmp 103]) rfl ?_);at_builtin;refine Kd.R_append (Kd.int .i64) (w0 := w5) w5.heap.size rfl (.tmp 96) (.tmp 103) 27 3 (.int .i64 0) 8 rfl Try.underlying27 info3 rfl (by decide) (by omega) u14 L hp0 [.int .i64 hp0] (fun _ => True) (fun _ => False) rfl rfl ?aP (fun _ hk => hk.elim) ?aF ?aO ?aB ?aS ?aL ?_;(case aP => exact rfl);(case aB => exact HO.out.2);(case aF => exact (fun _ _ => trivial));(case aO => exact HO.out.1);(case aS => exact HO.out.2.size);(case aL => have := LN.out;omega);intro v9 w9 ho hb9 hg hat;rw [← HTK.out] at ho;have HO9 := Aside0.mk (And.intro ho hb9);clear ho hb9 hg hat)
          go_roundw
          case rel => exact ⟨c + 1,by go_num,hcl,HO9⟩
          case measure => simp [intOf];omega
        have hcn : c = l.length := by omega
        subst hcn
        have HO2 : Aside0 (Kd.R (Kd.int .i64) 3 wi w1.heap.size (fun k => w5.heap.size ≤ k) u14 (idsOf l0_0 cm)) := ⟨by
          have h9 := HO.out.1
          rw [List.take_of_length_le (by rw [HCL.out];exact Nat.le_refl _)] at h9
          exact Kd.R_mono (Kd.R_lower (Kd.R_bound h9) K5.out.2.2.size) (fun k hk => hk.2.1)⟩
        have HB2 : Aside0 (Below w1.heap.size w1 wi) := ⟨below_then K5.out.2.2 K5.out.2.2.size HO.out.2⟩
        obtain ⟨XS,hXS⟩ : ∃ XS,(compsTo l0_0 R n j).map (idsOf l0_0) = XS := ⟨_,rfl⟩
        obtain ⟨IX,hIX⟩ : ∃ IX,idsOf l0_0 cm = IX := ⟨_,rfl⟩
        rw [hXS] at CS2 CLN
        rw [hIX] at CS2 HO2
        have HS9 : Aside0 (Kd.S (Kd.slice 3 (Kd.int .i64)) 27 wi w1.heap.size (fun k => k ≠ sb ∧ ¬ w5.heap.size ≤ k) u7 XS) := ⟨by
          rw [← hXS]
          refine Kd.S_mono (ok := fun k => k ≠ sb ∧ k < wo.heap.size) (Kd.S_below (Kd.S_kept (Kd.S_mono (Kd.S_bound HM.out.2.2) (fun k hk => ⟨hk.1,hk.2.2.1⟩)) K5.out.2.1 (fun k hk => hk.1)) ?_) (fun k hk => ⟨hk.1,by have := K5.out.2.1.1;omega⟩)
          exact HO.out.2⟩
        have SBC : Aside0 (wi.heap[sb]? = some (.cells (bools s').toArray 4 (0,0))) := ⟨blk_below K5.out.1 HO.out.2⟩
        clear hXS hIX HO
        obtain ⟨Aw,cw,rfl⟩ := Kd.R_slice HO2.out
        go_wp2_with ((with_reducible refine gate_builtin (b := .append) (xs := #[.tmp 106,.tmp 108]) rfl ?_);at_builtin;refine Kd.S_append (Kd.slice 3 (Kd.int .i64)) (w0 := w1) w1.heap.size rfl (.tmp 106) (.tmp 108) 53 27 (.slice none 0 0) 24 rfl Try.underlying53 info27 rfl (by decide) (by omega) u7 XS IX [.slice Aw IX.length cw] (fun k => k ≠ sb) (fun k => w5.heap.size ≤ k) rfl rfl ?aP ?aK ?aF ?aO ?aB ?aS ?aL ?_;(case aP => exact Kd.M_row HO2.out);(case aK => intro k hk;have h8 := K5.out.2.1.1;have h7 := SBO.out;exact ⟨by omega,fun h9 => by have := (UL.out k h9.symm).1;omega⟩);(case aF => intro k hk;have h8 := HB2.out.size;have h9 := blk_lt SBC.out;omega);(case aO => exact HS9.out);(case aB => exact HB2.out);(case aS => exact HB2.out.size);(case aL => have := CLN.out;omega);intro v9 w9 ho hb9 hg hat;rw [← CS2.out] at ho;have HO9 := Aside0.mk (And.intro hb9 (And.intro (blk_grown SBC.out hg (fun h9 => (UL.out sb h9.symm).2 rfl)) ho));clear ho hb9 hg hat)
        go_roundg (go - 1)
        case measure => omega
        case rel => exact ⟨j + 1,s',by go_num,by omega,⟨SL.out,NS.out⟩,HO9⟩
end Go.Proofs.Ytmdkcecbklgihaa.PA
