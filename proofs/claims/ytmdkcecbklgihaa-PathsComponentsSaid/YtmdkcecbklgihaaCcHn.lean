/- paths.checked: it lays the net of a graph that may be, if all routers that are asked about are there. Conditions: what graph.Check says is told; if it says OK the routers are at most 256, no two alike, and each link's ends are there. -/
import Derived.Test.YtmdkcecbklgihaaCcHs
import Derived.Test.YtmdkcecbklgihaaCcPAx2
namespace Go.Proofs.Ytmdkcecbklgihaa.PA
open Go.RowKit Go.Proofs.YtmdkcecbklgihaaW.PrintWords Go.Proofs.YtmdkcecbklgihaaW.PrintLast Go.Proofs.YtmdkcecbklgihaaW.PrintMore
set_option linter.unusedVariables false
set_option linter.unusedSimpArgs false
set_option maxHeartbeats 8000000 in
set_option maxRecDepth 100000 in
theorem checked_calls (k : Nat) (e : Int) (A0 : Option Addr) (c0 : Nat) (nodes : List S40) (A1 : Option Addr) (c1 : Nat) (links : List S74) (mx : Nat) (Ai : Option Addr) (ci : Nat) (ids : List Int) (w : World)
    (hr0 : Kd.C k40 w A0 nodes.length nodes) (hc0 : nodes.length ≤ c0) (hr1 : Kd.C k74 w A1 links.length links) (hc1 : links.length ≤ c1) (hri : Kd.C (Kd.int .i64) w Ai ids.length ids)
    (hC : graph_Check.f k nodes links = some e) (hok : e = 0 → nodes.length ≤ 256 ∧ links.length ≤ 4096 ∧ (nodes.map (·.f0)).Nodup ∧ ∀ l ∈ links,plc nodes l.f0 < nodes.length ∧ plc nodes l.f1 < nodes.length) :
    Calls Try.prog 45 #[.agg #[.slice A0 nodes.length c0,.slice A1 links.length c1],.float .f64 mx,.slice Ai ids.length ci] w fun x w' => Below w.heap.size w w' ∧ CheckedOut e nodes links mx ids w x w' := by
  have hu25 := Try.underlying25
  have hu66 := Try.underlying66
  have hu22 := Try.underlying22
  have hu23 := Try.underlying23
  have hu40 := Try.underlying40
  have hu74 := Try.underlying74
  have R0 := Aside0.mk hr0
  have R1 := Aside0.mk hr1
  have RI := Aside0.mk hri
  have CK := Aside0.mk hC
  have OK := Aside0.mk hok
  clear hr0 hr1 hri hC hok
  obtain ⟨n,hn⟩ : ∃ n,n = nodes.length := ⟨_,rfl⟩
  obtain ⟨nl,hnl⟩ : ∃ nl,nl = links.length := ⟨_,rfl⟩
  go_enter Try.func45,Try.ntmps45
  go_wp2_with fail
  refine (graph_Check.calls k A0 c0 nodes A1 c1 links e _ (Kd.C_alloc R0.out _) hc0 (Kd.C_alloc R1.out _) hc1 CK.out).mono ?_
  rintro x1 w1 ⟨rfl,hb1⟩
  have hbx : (w.alloc (.cells #[.slice A0 nodes.length c0,.slice A1 links.length c1] 25)).heap[w.heap.size]? = some (.cells #[.slice A0 nodes.length c0,.slice A1 links.length c1] 25 (0,0)) := heap_alloc_new w _
  have BX := Aside0.mk (blk_below hbx hb1)
  have B1 := Aside0.mk (below_then (below_alloc (Below.refl w.heap.size w) _) (by simp) hb1)
  clear hbx hb1
  by_cases he : e = 0
  rotate_left
  · have heb : (e == 0) = false := by simpa using he
    have heb1 : (e != 0) = true := by simpa using he
    go_wp2_with fail
    go_ret2
    exact ⟨B1.out,Or.inl ⟨he,rfl⟩⟩
  subst he
  obtain ⟨h256,h4096,hnd,hends⟩ := OK.out rfl
  have HND := Aside0.mk hnd
  have HEN := Aside0.mk hends
  clear hnd hends
  have hmm := @run_makeMap Try.prog
  have hmk := run_make_row' (P := Try.prog) 64 79 (.slice none 0 0) 24 Try.underlying64 info79 rfl .i64 .i64 nodes.length (by omega) (by omega)
  have b0 : w1.cell? ⟨w.heap.size,0,none⟩ = some (.slice A0 nodes.length c0) := (blk_cell BX.out 0).trans rfl
  have b1 : w1.cell? ⟨w.heap.size,1,none⟩ = some (.slice A1 links.length c1) := (blk_cell BX.out 1).trans rfl
  have hsz1 : w.heap.size < w1.heap.size := blk_lt BX.out
  go_upto_region 4 with fail
  go_cut [9] from 25 to 33 (fun s9 wx => ∃ N0 g0 mb a3,s9 = .pointer (some ⟨g0,0,none⟩) ∧ Aside0 (w.heap.size ≤ g0) ∧ Aside0 (Mk w wx N0 g0 w.heap.size mb a3 mx nodes.length A0 A1 c0 c1 links.length [] (List.replicate nodes.length [])))
  case first =>
    go_region
    all_goals (go_wp2_with fail;go_meet)
    · exact ⟨w1.heap.size + 3,w1.heap.size + 2,w1.heap.size,w1.heap.size + 1,rfl,⟨by omega⟩,⟨Mk.start h256 BX.out B1.out (Or.inl ⟨rfl,rfl,rfl,rfl⟩)⟩⟩
    exact ⟨w1.heap.size + 3,w1.heap.size + 2,w1.heap.size + 1,w1.heap.size,rfl,⟨by omega⟩,⟨Mk.start h256 BX.out B1.out (Or.inr ⟨rfl,rfl,rfl,rfl⟩)⟩⟩
  case rest =>
  obtain ⟨N0,g0,mb,a3,rfl,GG,HM⟩ := hcut
  clear b0 b1 hmm hmk
  have b0 : wc.cell? ⟨w.heap.size,0,none⟩ = some (.slice A0 nodes.length c0) := (blk_cell HM.out.box 0).trans rfl
  go_wp2_with fail
  clear b0
  go_loopw [37] (fun vi wr => ∃ (j : Nat),vi = .int .i64 (j : Int) ∧ j ≤ nodes.length ∧ Aside0 (Mk w wr N0 g0 w.heap.size mb a3 mx nodes.length A0 A1 c0 c1 links.length (placesOf (nodes.take j)) (List.replicate nodes.length []))) (fun vi _ => nodes.length - (intOf vi).toNat)
  case atStart => exact ⟨0,rfl,Nat.zero_le _,HM⟩
  case round =>
    obtain ⟨j,rfl,hj,HJ⟩ := hrel
    by_cases hjl : j < nodes.length
    · have hjz : (j : Int) < (nodes.length : Int) := by omega
      obtain ⟨ad,e0,hx0,hx1,hx2⟩ := at_T40 R0.out (j : Int) (by omega) hjz
      subst e0
      obtain ⟨nd,hnd⟩ : ∃ nd,nodes.getD j z40 = nd := ⟨_,rfl⟩
      have hrd : rd_T40 nodes (j : Int) = nd := by
        unfold rd_T40
        rw [Int.toNat_natCast]
        exact hnd
      rw [hrd,Int.toNat_natCast] at hx0 hx1 hx2
      have x0 := (HJ.out.below.cell (World.block_lt_of_cell? w _ hx0)).trans hx0
      have x1 := (HJ.out.below.cell (World.block_lt_of_cell? w _ hx1)).trans hx1
      have x2 := (HJ.out.below.cell (World.block_lt_of_cell? w _ hx2)).trans hx2
      obtain ⟨lb,hlb⟩ : ∃ lb,lb = wr.heap.size := ⟨_,rfl⟩
      obtain ⟨w6,hw6⟩ : ∃ w6,w6 = wr.alloc (.cells #[.int .i64 nd.f0,.bool nd.f1,.bool nd.f2] 40) := ⟨_,rfl⟩
      have hB6 : Below wr.heap.size wr w6 := by rw [hw6];exact below_alloc (Below.refl _ _) _
      have hl6 : w6.heap[lb]? = some (.cells #[.int .i64 nd.f0,.bool nd.f1,.bool nd.f2] 40 (0,0)) := by rw [hw6,hlb];exact heap_alloc_new _ _
      have H6 := Aside0.mk (HJ.out.alloc hB6)
      have l0 := (blk_cell hl6 0).trans rfl
      have n3 : w6.cell? ⟨g0,3,none⟩ = some (.map (some mb)) := (blk_cell H6.out.net 3).trans rfl
      have ND := Aside0.mk hnd
      clear hx0 hx1 hx2 hrd hB6 hnd
      go_wp2_with fail
      simp only [← hw6,← hlb]
      clear hw6 hlb
      go_still_tail 7,(by kernel_rfl)
      refine wp_put rfl (.tmp 45) (.tmp 47) (.tmp 48) 63 3 3 rfl (key_int Try.underlying3) Try.underlying63 rfl nd.f0 rfl (.int .i64 (j : Int)) rfl (H6.out.alloc (below_drew (Below.refl _ _))).map ?_
      intro w7 hm7 hg7 hs7
      have hj7 := (H6.out.alloc (below_drew (Below.refl _ _))).put hm7 hg7
      rw [← ND.out,places_put nodes j hjl HND.out] at hj7
      have HJ7 := Aside0.mk hj7
      clear hm7 hg7 hs7 hj7
      go_wp2_with fail
      go_roundw
      case rel => exact ⟨j + 1,by go_num,hjl,HJ7⟩
      case measure => simp [intOf];omega
    have hjn : j = nodes.length := by omega
    subst hjn
    rw [List.take_length] at HJ
    go_wp2_with fail
    go_loopw [52] (fun vi wr => ∃ (j : Nat),vi = .int .i64 (j : Int) ∧ j ≤ ids.length ∧ Aside0 (∀ i,i < j → plc nodes (ids.getD i 0) < nodes.length) ∧ Aside0 (Mk w wr N0 g0 w.heap.size mb a3 mx nodes.length A0 A1 c0 c1 links.length (placesOf nodes) (List.replicate nodes.length []))) (fun vi _ => ids.length - (intOf vi).toNat)
    case atStart => exact ⟨0,rfl,Nat.zero_le _,⟨fun i hi => absurd hi (Nat.not_lt_zero _)⟩,HJ⟩
    case round =>
      obtain ⟨j,rfl,hj,HID,HJ⟩ := hrel
      by_cases hjl : j < ids.length
      · have hjz : (j : Int) < (ids.length : Int) := by omega
        obtain ⟨id,hid⟩ : ∃ id,ids.getD j 0 = id := ⟨_,rfl⟩
        obtain ⟨ad,e0,hx0⟩ := Kd.at_int RI.out (j : Int) (by omega) hjz
        subst e0
        have x0 : wr.cell? (ad.add j) = some (.int .i64 id) := (HJ.out.below.cell (World.block_lt_of_cell? w _ hx0)).trans (hx0.trans (by rw [← hid];rfl))
        have hmax := Kd.C_max RI.out
        have n3 : wr.cell? ⟨g0,3,none⟩ = some (.map (some mb)) := (blk_cell HJ.out.net 3).trans rfl
        have HD := Aside0.mk hid
        clear hx0 hid
        by_cases hin : plc nodes id < nodes.length
        · have hget : mget (placesOf nodes) id = some (.int .i64 (plc nodes id : Int)) := by rw [mget_places,if_pos hin]
          have HGET := Aside0.mk hget
          clear hget
          go_wp2_with (at_lookup;refine wp_look rfl _ _ 63 3 3 rfl (key_int Try.underlying3) Try.underlying63 rfl id rfl HJ.out.map (.int .i64 0) (by kernel_rfl) ?_;rw [HGET.out])
          go_roundw
          case rel =>
            refine ⟨j + 1,by go_num,hjl,⟨fun i hi => ?_⟩,HJ⟩
            rcases Nat.lt_or_ge i j with h7 | h7
            · exact HID.out i h7
            obtain rfl : i = j := by omega
            rw [HD.out]
            exact hin
          case measure => simp [intOf];omega
        have hget : mget (placesOf nodes) id = none := by rw [mget_places,if_neg hin]
        have HGET := Aside0.mk hget
        clear hget
        go_wp2_with (at_lookup;refine wp_look rfl _ _ 63 3 3 rfl (key_int Try.underlying3) Try.underlying63 rfl id rfl HJ.out.map (.int .i64 0) (by kernel_rfl) ?_;rw [HGET.out])
        go_ret2
        refine ⟨HJ.out.below,Or.inr (Or.inl ⟨rfl,⟨id,?_,by omega⟩,rfl⟩)⟩
        rw [← HD.out]
        simp [List.getD_eq_getElem?_getD,hjl]
      have hjn : j = ids.length := by omega
      subst hjn
      have b1 : wr.cell? ⟨w.heap.size,1,none⟩ = some (.slice A1 links.length c1) := (blk_cell HJ.out.box 1).trans rfl
      go_wp2_with fail
      clear b1
      have HID2 : Aside0 (∀ id,id ∈ ids → plc nodes id < nodes.length) := ⟨fun id hid => by
        obtain ⟨i,hi,rfl⟩ := List.mem_iff_getElem.1 hid
        have := HID.out i hi
        simpa [List.getD_eq_getElem?_getD,hi] using this⟩
      clear HID
      go_loopg [71] links.length (fun kq vi wr => ∃ (j : Nat),vi = .int .i64 (j : Int) ∧ j + kq = links.length ∧ Aside0 (Mk w wr N0 g0 w.heap.size mb a3 mx nodes.length A0 A1 c0 c1 links.length (placesOf nodes) (adjB nodes (links.take j))))
      case atStart => exact ⟨0,rfl,by simp,HJ⟩
      case round =>
        obtain ⟨j,rfl,hj,HJ⟩ := hrel
        by_cases hjl : j < links.length
        rotate_left
        · have hjn : j = links.length := by omega
          subst hjn
          rw [List.take_length] at HJ
          go_wp2_with fail
          go_ret2
          refine ⟨HJ.out.below,Or.inr (Or.inr ⟨rfl,HID2.out,g0,rfl,GG.out,?_⟩)⟩
          have hS := Kd.S_reads' HJ.out.rows
          have hlen := adjB_len nodes links
          refine ⟨A0,c0,A1,c1,mb,some ⟨a3,0,none⟩,nodes.length,?_,Kd.C_below R0.out HJ.out.below,hc0,hS.2.2,by rw [hlen];exact Nat.le_refl _,HJ.out.map⟩
          rw [hlen]
          exact HJ.out.net
        have hjz : (j : Int) < (links.length : Int) := by omega
        obtain ⟨ad,e0,hx0,hx1,hx2,hx3⟩ := at_T74 R1.out (j : Int) (by omega) hjz
        subst e0
        have hmaxl := Kd.C_max R1.out
        obtain ⟨l,hl⟩ : ∃ l,links.getD j z74 = l := ⟨_,rfl⟩
        have hrd : rd_T74 links (j : Int) = l := by
          unfold rd_T74
          rw [Int.toNat_natCast]
          exact hl
        rw [hrd,Int.toNat_natCast] at hx0 hx1 hx2 hx3
        have hmem : l ∈ links := by
          rw [← hl]
          simp [List.getD_eq_getElem?_getD,hjl]
        have x0 := (HJ.out.below.cell (World.block_lt_of_cell? w _ hx0)).trans hx0
        have x1 := (HJ.out.below.cell (World.block_lt_of_cell? w _ hx1)).trans hx1
        have x2 := (HJ.out.below.cell (World.block_lt_of_cell? w _ hx2)).trans hx2
        have x3 := (HJ.out.below.cell (World.block_lt_of_cell? w _ hx3)).trans hx3
        obtain ⟨ha,hb⟩ := HEN.out l hmem
        obtain ⟨a,hav⟩ : ∃ a,plc nodes l.f0 = a := ⟨_,rfl⟩
        obtain ⟨b,hbv⟩ : ∃ b,plc nodes l.f1 = b := ⟨_,rfl⟩
        rw [hav] at ha
        rw [hbv] at hb
        obtain ⟨lb,hlb⟩ : ∃ lb,lb = wr.heap.size := ⟨_,rfl⟩
        obtain ⟨w6,hw6⟩ : ∃ w6,w6 = wr.alloc (.cells #[.int .i64 l.f0,.int .i64 l.f1,.float .f64 l.f2,.bool l.f3] 74) := ⟨_,rfl⟩
        have hB6 : Below wr.heap.size wr w6 := by rw [hw6];exact below_alloc (Below.refl _ _) _
        have hl6 : w6.heap[lb]? = some (.cells #[.int .i64 l.f0,.int .i64 l.f1,.float .f64 l.f2,.bool l.f3] 74 (0,0)) := by rw [hw6,hlb];exact heap_alloc_new _ _
        have H6 := Aside0.mk (HJ.out.alloc hB6)
        have L6 := Aside0.mk hl6
        have l0 := (blk_cell hl6 0).trans rfl
        have l1 := (blk_cell hl6 1).trans rfl
        have n3 : w6.cell? ⟨g0,3,none⟩ = some (.map (some mb)) := (blk_cell H6.out.net 3).trans rfl
        have lk0 : ∀ m,(Instr.lookup 63 (.map (some mb)) (.int .i64 l.f0) false).run Try.prog (w6.drewN m) = .ok (.int .i64 (a : Int)) (w6.drewN m) := fun m => by
          have h9 := run_look1 (P := Try.prog) (t := 63) (et := 3) (key_int Try.underlying3) Try.underlying63 (H6.out.alloc (pw_below_drewN (Below.refl _ _) m)).map l.f0 (.int .i64 0) (by kernel_rfl)
          rw [mget_places,hav,if_pos ha] at h9
          exact h9
        have lk1 : ∀ m,(Instr.lookup 63 (.map (some mb)) (.int .i64 l.f1) false).run Try.prog (w6.drewN m) = .ok (.int .i64 (b : Int)) (w6.drewN m) := fun m => by
          have h9 := run_look1 (P := Try.prog) (t := 63) (et := 3) (key_int Try.underlying3) Try.underlying63 (H6.out.alloc (pw_below_drewN (Below.refl _ _) m)).map l.f1 (.int .i64 0) (by kernel_rfl)
          rw [mget_places,hbv,if_pos hb] at h9
          exact h9
        have HL := Aside0.mk (And.intro hl (And.intro hav hbv))
        clear hx0 hx1 hx2 hx3 hrd hB6 hl hav hbv hl6 hmem
        go_wp2_with fail
        simp only [← hw6,← hlb]
        clear hw6 hlb
        go_quiet (fail)
        clear lk0 lk1
        have l2 := (blk_cell L6.out 2).trans rfl
        have l3 := (blk_cell L6.out 3).trans rfl
        have bc0 : w6.cell? ⟨w.heap.size,0,none⟩ = some (.slice A0 nodes.length c0) := (blk_cell H6.out.box 0).trans rfl
        obtain ⟨an,e0,ha0,ha1,ha2⟩ := at_T40 R0.out (a : Int) (by omega) (by omega)
        subst e0
        obtain ⟨an2,e1,hb0,hb1,hb2⟩ := at_T40 R0.out (b : Int) (by omega) (by omega)
        cases e1
        obtain ⟨ua,hua⟩ : ∃ ua,(nodes.getD a z40).f1 = ua := ⟨_,rfl⟩
        obtain ⟨ub,hub⟩ : ∃ ub,(nodes.getD b z40).f1 = ub := ⟨_,rfl⟩
        obtain ⟨ul,hul⟩ : ∃ ul,l.f3 = ul := ⟨_,rfl⟩
        have a1 : w6.cell? ⟨(an.add (a * 3)).block,(an.add (a * 3)).off + 1,none⟩ = some (.bool ua) := ((H6.out.below.cell (World.block_lt_of_cell? w _ ha1)).trans ha1).trans (by rw [← hua];rfl)
        have b1 : w6.cell? ⟨(an.add (b * 3)).block,(an.add (b * 3)).off + 1,none⟩ = some (.bool ub) := ((H6.out.below.cell (World.block_lt_of_cell? w _ hb1)).trans hb1).trans (by rw [← hub];rfl)
        rw [hul] at l3
        have UU := Aside0.mk (And.intro hua (And.intro hub hul))
        have haz : (a : Int) < (nodes.length : Int) := by omega
        have hbz : (b : Int) < (nodes.length : Int) := by omega
        clear ha0 ha1 ha2 hb0 hb1 hb2 hua hub hul
        by_cases hall : ul = true ∧ ua = true ∧ ub = true
        rotate_left
        · have hstep : adjStep nodes (adjB nodes (links.take j)) l = adjB nodes (links.take j) := by
            unfold adjStep
            rw [HL.out.2.1,HL.out.2.2,UU.out.1,UU.out.2.1,UU.out.2.2,if_neg hall]
          have hsucc : adjB nodes (links.take (j + 1)) = adjB nodes (links.take j) := by rw [adjB_succ nodes links j hjl,HL.out.1,hstep]
          have HSU := Aside0.mk hsucc
          clear hstep hsucc
          have hcase := three_bools ul ua ub hall
          clear hall
          rcases hcase with rfl | ⟨rfl,rfl⟩ | ⟨rfl,rfl,rfl⟩
          all_goals (
            go_wp2_with fail
            go_roundg (gk - 1)
            case measure => omega
            case rel => exact ⟨j + 1,by go_num,by omega,⟨by rw [HSU.out];exact H6.out.alloc (pw_below_drewN (Below.refl _ _) _)⟩⟩)
        obtain ⟨rfl,rfl,rfl⟩ := hall
        obtain ⟨rows,hrows⟩ : ∃ rows,adjB nodes (links.take j) = rows := ⟨_,rfl⟩
        have hrl : rows.length = nodes.length := by rw [← hrows];exact adjB_len _ _
        go_wp2_with fail
        go_cut [71] from 71 to 145 (fun s71 wx => s71 = .int .i64 (j : Int) ∧ Aside0 (Mk w wx N0 g0 w.heap.size mb a3 mx nodes.length (some an) (some ad) c0 c1 links.length (placesOf nodes) (rows.set a (rows.getD a [] ++ [⟨(b : Int),l.f2⟩])) ∧ wx.heap[lb]? = some (.cells #[.int .i64 l.f0,.int .i64 l.f1,.float .f64 l.f2,.bool true] 74 (0,0))))
        case first =>
          have hMk := H6.out.alloc (pw_below_drewN (Below.refl w6.heap.size w6) nq)
          rw [hrows] at hMk
          have hLB : (w6.drewN nq).heap[lb]? = some (.cells #[.int .i64 l.f0,.int .i64 l.f1,.float .f64 l.f2,.bool true] 74 (0,0)) := by
            have := L6.out
            rw [UU.out.2.2] at this
            exact this
          have hrn : (rows.getD a []).length ≤ 8193 := by
            have h9 := adjB_row nodes (links.take j) a
            rw [hrows] at h9
            simp only [List.length_take] at h9
            omega
          clear hrows hrl OK BX B1 CK RI R0 R1 HEN HND GG HID2 HJ UU HL L6 x0 x1 x2 x3 l3 l0 l1 bc0 a1 b1 hmaxl hb hjz hc0
          refine region22 _ _ _ _ _ _ _ _ _ _ _ _ _ _ _ _ _ _ _ _ _ _ _ _ _ _ _ _ _ _ _ _ _ _ _ _ _ _ _ _ _ _ _ _ _ _ _ _ _ _ _ _ _ _ _ _ _ _ _ _ _ _ _ _ _ _ _ _ _ _ _ _ _ _ _ _ _ _ _ _ _ _ _ _ _ _ _ _ _ _ _ _ _ _ _ _ _ _ _ _ _ _ _ _ _ _ _ _ _ _ _ _ _ _ _ _ _ _ _ _ _ _ _ _ _ _ _ _ _ _ _ _ _ _ _ _ _ _ _ _ _ _ _ hMk hLB ha hrn ?_
          intro u107 u108 u109 u110 u111 u112 u113 u114 u115 u116 u117 u118 u119 u120 u121 u122 u123 u124 u125 w8 hm8 hl8
          have HM8 := Aside0.mk (And.intro hm8 hl8)
          clear hm8 hl8
          go_wp2_with fail
          go_meet
          exact ⟨rfl,HM8⟩
        case rest =>
          obtain ⟨rfl,HC⟩ := hcut
          obtain ⟨rows1,hr1⟩ : ∃ rows1,rows.set a (rows.getD a [] ++ [(⟨(b : Int),l.f2⟩ : S81)]) = rows1 := ⟨_,rfl⟩
          rw [hr1] at HC
          have hrl1 : rows1.length = nodes.length := by rw [← hr1,List.length_set];exact hrl
          have hsucc : adjB nodes (links.take (j + 1)) = rows1.set b (rows1.getD b [] ++ [⟨(a : Int),l.f2⟩]) := by
            rw [adjB_succ nodes links j hjl,HL.out.1]
            unfold adjStep
            rw [HL.out.2.1,HL.out.2.2,UU.out.1,UU.out.2.1,UU.out.2.2,if_pos ⟨rfl,rfl,rfl⟩,hrows,hr1]
          have hrn1 : (rows1.getD b []).length ≤ 8193 := by
            rw [← hr1]
            refine Nat.le_trans (getD_setL _ _ _ _) ?_
            have h8 := adjB_row nodes (links.take j) a
            have h9 := adjB_row nodes (links.take j) b
            rw [hrows] at h8 h9
            simp only [List.length_take] at h8 h9
            simp only [List.length_append,List.length_singleton]
            omega
          have HSU := Aside0.mk hsucc
          clear hsucc hrows hrl hr1
          go_wp2_with fail
          clear OK BX B1 CK RI R0 R1 HEN HND GG HID2 HJ UU HL L6 H6 x0 x1 x2 x3 l3 l0 l1 bc0 a1 b1 ha hc0
          refine region23 _ _ _ _ _ _ _ _ _ _ _ _ _ _ _ _ _ _ _ _ _ _ _ _ _ _ _ _ _ _ _ _ _ _ _ _ _ _ _ _ _ _ _ _ _ _ _ _ _ _ _ _ _ _ _ _ _ _ _ _ _ _ _ _ _ _ _ _ _ _ _ _ _ _ _ _ _ _ _ _ _ _ _ _ _ _ _ _ _ _ _ _ _ _ _ _ _ _ _ _ _ _ _ _ _ _ _ _ _ _ _ _ _ _ _ _ _ _ _ _ _ _ _ _ _ _ _ _ _ _ _ _ _ _ _ _ _ _ _ _ _ _ _ HC.out.1 HC.out.2 hb hrn1 ?_
          intro u126 u127 u128 u129 u130 u131 u132 u133 u134 u135 u136 u137 u138 u139 u140 u141 u142 u143 u144 w8 hm8 hl8
          rw [← HSU.out] at hm8
          have HM8 := Aside0.mk hm8
          clear hm8 hl8 HSU HC
          go_wp2_with fail
          go_roundg (gk - 1)
          case measure => omega
          case rel => exact ⟨j + 1,by go_num,by omega,HM8⟩
end Go.Proofs.Ytmdkcecbklgihaa.PA
