/- directory.Announce, Ask and the document's; DirectoryPackets walked. Conditions: those that each theorem names. -/
import Derived.Test.YtlpmblcdafdfdaaAnDf
import Derived.Test.YtlpmblcdafdfdaaAcPAx0
namespace Go.Proofs.Ytlpmblcdafdfdaa.PA
open Go.RowKit Go.Proofs.YtlpmblcdafdfdaaW.PrintWords Go.Proofs.YtlpmblcdafdfdaaW.PrintLast Go.Proofs.YtlpmblcdafdfdaaW.PrintMore
set_option linter.unusedVariables false
set_option linter.unusedSimpArgs false
set_option maxHeartbeats 2000000 in
set_option maxRecDepth 100000 in
theorem announce_any (self home : Int) (name : ByteArray) (A : Option Addr) (c : Nat) (marks : List Int) (hops serial : Int) (w : World) (hr : Kd.C (Kd.int .i64) w A marks.length marks) (hc : marks.length ≤ c) :
    Calls Try.prog 10 #[.int .i64 self,.int .i64 home,.string name,.slice A marks.length c,.int .i64 hops,.int .u64 serial] w fun e w' => e = .returned (.tuple #[pkV (toP 2 self home name marks hops serial self home),.int .i64 (toE self home name marks hops)]) ∧ Below w.heap.size w w' := by
  have hu30 := Try.underlying30
  have HR := Aside0.mk hr
  have CA := Aside0.mk (fun W h => to_any 2 self home name A c marks hops serial W h hc)
  clear hr hc
  obtain ⟨r1,r2,hv⟩ : ∃ r1 r2,drawV marks name = (r1,r2) := ⟨_,_,rfl⟩
  obtain ⟨n,hn⟩ : ∃ n,toE self home name marks hops = n := ⟨_,rfl⟩
  by_cases h0 : n = 0
  · subst h0
    have hr2 : r2 = 0 := by
      unfold toE at hn
      split at hn
      · rw [hv] at hn
        exact hn
      · contradiction
    subst hr2
    have P := Aside0.mk (toP_ok (kind := 2) (serial := serial) (id := 0) (at_ := 0) hn hv)
    have PO := Aside0.mk (toP_ok (kind := 2) (serial := serial) (id := self) (at_ := home) hn hv)
    have E := Aside0.mk hn
    clear hn hv
    go_enter Try.func10,Try.ntmps10
    go_wp2_with (go_at_call 34;refine (CA.out _ (Kd.C_alloc HR.out _)).mono ?_;rintro e w1 ⟨rfl,hb⟩;rw [E.out,P.out];simp only [pkV,z30];have HB1 := Aside0.mk (below_then (below_alloc (Below.refl _ w) (.cells #[.int .i64 0,.int .i64 0,.int .i64 0,.int .i64 0,.int .i64 0,.int .i64 0,.int .u64 0,.int .i64 0,.string ⟨#[]⟩,.int .i64 0,.int .i64 0,.string ⟨#[]⟩] 30)) (below_alloc (Below.refl _ w) (.cells #[.int .i64 0,.int .i64 0,.int .i64 0,.int .i64 0,.int .i64 0,.int .i64 0,.int .u64 0,.int .i64 0,.string ⟨#[]⟩,.int .i64 0,.int .i64 0,.string ⟨#[]⟩] 30)).size hb);have B1 := Aside0.mk (blk_below (blk_new w _) hb);clear hb;have lt1 := blk_lt B1.out;have z0_w1 : w1.cell? ⟨w.heap.size,0,none⟩ = some (.int .i64 0) := (blk_cell B1.out 0).trans rfl;have z1_w1 : w1.cell? ⟨w.heap.size,1,none⟩ = some (.int .i64 0) := (blk_cell B1.out 1).trans rfl;have z2_w1 : w1.cell? ⟨w.heap.size,2,none⟩ = some (.int .i64 0) := (blk_cell B1.out 2).trans rfl;have z3_w1 : w1.cell? ⟨w.heap.size,3,none⟩ = some (.int .i64 0) := (blk_cell B1.out 3).trans rfl;have z4_w1 : w1.cell? ⟨w.heap.size,4,none⟩ = some (.int .i64 0) := (blk_cell B1.out 4).trans rfl;have z5_w1 : w1.cell? ⟨w.heap.size,5,none⟩ = some (.int .i64 0) := (blk_cell B1.out 5).trans rfl;have z6_w1 : w1.cell? ⟨w.heap.size,6,none⟩ = some (.int .u64 0) := (blk_cell B1.out 6).trans rfl;have z7_w1 : w1.cell? ⟨w.heap.size,7,none⟩ = some (.int .i64 0) := (blk_cell B1.out 7).trans rfl;have z8_w1 : w1.cell? ⟨w.heap.size,8,none⟩ = some (.string ⟨#[]⟩) := (blk_cell B1.out 8).trans rfl;have z9_w1 : w1.cell? ⟨w.heap.size,9,none⟩ = some (.int .i64 0) := (blk_cell B1.out 9).trans rfl;have z10_w1 : w1.cell? ⟨w.heap.size,10,none⟩ = some (.int .i64 0) := (blk_cell B1.out 10).trans rfl;have z11_w1 : w1.cell? ⟨w.heap.size,11,none⟩ = some (.string ⟨#[]⟩) := (blk_cell B1.out 11).trans rfl;have y0_w1 := blk_frozen B1.out 0;have y1_w1 := blk_frozen B1.out 1;have y2_w1 := blk_frozen B1.out 2;have y3_w1 := blk_frozen B1.out 3;have y4_w1 := blk_frozen B1.out 4;have y5_w1 := blk_frozen B1.out 5;have y6_w1 := blk_frozen B1.out 6;have y7_w1 := blk_frozen B1.out 7;have y8_w1 := blk_frozen B1.out 8;have y9_w1 := blk_frozen B1.out 9;have y10_w1 := blk_frozen B1.out 10;have y11_w1 := blk_frozen B1.out 11)
    obtain ⟨W,hW⟩ : ∃ W,W = ((((((((((((w1.setCell ⟨w.heap.size,0,none⟩ (.int .i64 2)).setCell ⟨w.heap.size,1,none⟩ (.int .i64 self)).setCell ⟨w.heap.size,2,none⟩ (.int .i64 home)).setCell ⟨w.heap.size,3,none⟩ (.int .i64 r1)).setCell ⟨w.heap.size,4,none⟩ (.int .i64 r1)).setCell ⟨w.heap.size,5,none⟩ (.int .i64 hops)).setCell ⟨w.heap.size,6,none⟩ (.int .u64 serial)).setCell ⟨w.heap.size,7,none⟩ (.int .i64 0)).setCell ⟨w.heap.size,8,none⟩ (.string name)).setCell ⟨w.heap.size,9,none⟩ (.int .i64 self)).setCell ⟨w.heap.size,10,none⟩ (.int .i64 home)).setCell ⟨w.heap.size,11,none⟩ (.string ⟨#[]⟩)) := ⟨_,rfl⟩
    have BW : W.heap[w.heap.size]? = some (.cells #[.int .i64 2,.int .i64 self,.int .i64 home,.int .i64 r1,.int .i64 r1,.int .i64 hops,.int .u64 serial,.int .i64 0,.string name,.int .i64 self,.int .i64 home,.string ⟨#[]⟩] 30 (0,0)) := by rw [hW];exact blk_set12 B1.out _ _ _ _ _ _ _ _ _ _ _ _
    have HW : Below w.heap.size w W := by rw [hW];exact below_set12 HB1.out (Nat.le_refl _) _ _ _ _ _ _ _ _ _ _ _ _
    rw [← hW]
    clear hW
    obtain ⟨V,hV⟩ : ∃ V,V = W.alloc (Obj.cells #[.int .i64 2,.int .i64 self,.int .i64 home,.int .i64 r1,.int .i64 r1,.int .i64 hops,.int .u64 serial,.int .i64 0,.string name,.int .i64 self,.int .i64 home,.string ⟨#[]⟩] 30) := ⟨_,rfl⟩
    have BV : V.heap[w.heap.size]? = some (.cells #[.int .i64 2,.int .i64 self,.int .i64 home,.int .i64 r1,.int .i64 r1,.int .i64 hops,.int .u64 serial,.int .i64 0,.string name,.int .i64 self,.int .i64 home,.string ⟨#[]⟩] 30 (0,0)) := by rw [hV];exact blk_alloc BW _
    have HV : Below w.heap.size w V := by rw [hV];exact below_alloc HW _
    rw [← hV]
    clear hV
    have g0 : V.cell? ⟨w.heap.size,0,none⟩ = some (.int .i64 2) := (blk_cell BV 0).trans rfl
    have g1 : V.cell? ⟨w.heap.size,1,none⟩ = some (.int .i64 self) := (blk_cell BV 1).trans rfl
    have g2 : V.cell? ⟨w.heap.size,2,none⟩ = some (.int .i64 home) := (blk_cell BV 2).trans rfl
    have g3 : V.cell? ⟨w.heap.size,3,none⟩ = some (.int .i64 r1) := (blk_cell BV 3).trans rfl
    have g4 : V.cell? ⟨w.heap.size,4,none⟩ = some (.int .i64 r1) := (blk_cell BV 4).trans rfl
    have g5 : V.cell? ⟨w.heap.size,5,none⟩ = some (.int .i64 hops) := (blk_cell BV 5).trans rfl
    have g6 : V.cell? ⟨w.heap.size,6,none⟩ = some (.int .u64 serial) := (blk_cell BV 6).trans rfl
    have g7 : V.cell? ⟨w.heap.size,7,none⟩ = some (.int .i64 0) := (blk_cell BV 7).trans rfl
    have g8 : V.cell? ⟨w.heap.size,8,none⟩ = some (.string name) := (blk_cell BV 8).trans rfl
    have g9 : V.cell? ⟨w.heap.size,9,none⟩ = some (.int .i64 self) := (blk_cell BV 9).trans rfl
    have g10 : V.cell? ⟨w.heap.size,10,none⟩ = some (.int .i64 home) := (blk_cell BV 10).trans rfl
    have g11 : V.cell? ⟨w.heap.size,11,none⟩ = some (.string ⟨#[]⟩) := (blk_cell BV 11).trans rfl
    refine bodyPost_ret (v := .tuple #[pkV ⟨2,self,home,r1,r1,hops,serial,0,name,self,home,⟨#[]⟩⟩,.int .i64 0]) (by simp [results,Try.results10,go_sem,pkV,g0,g1,g2,g3,g4,g5,g6,g7,g8,g9,g10,g11]) rfl ⟨by rw [E.out,PO.out],HV⟩
  · have hb1 : (n == 0) = false := by simpa using h0
    have P := Aside0.mk (toP_no (kind := 2) (serial := serial) (id := 0) (at_ := 0) (by rw [hn];exact h0))
    have PO := Aside0.mk (toP_no (kind := 2) (serial := serial) (id := self) (at_ := home) (by rw [hn];exact h0))
    have E := Aside0.mk hn
    clear hn hv h0
    go_enter Try.func10,Try.ntmps10
    go_wp2_with (go_at_call 34;refine (CA.out _ (Kd.C_alloc HR.out _)).mono ?_;rintro e w1 ⟨rfl,hb⟩;rw [E.out,P.out];simp only [pkV,z30];have HB1 := Aside0.mk (below_then (below_alloc (Below.refl _ w) (.cells #[.int .i64 0,.int .i64 0,.int .i64 0,.int .i64 0,.int .i64 0,.int .i64 0,.int .u64 0,.int .i64 0,.string ⟨#[]⟩,.int .i64 0,.int .i64 0,.string ⟨#[]⟩] 30)) (below_alloc (Below.refl _ w) (.cells #[.int .i64 0,.int .i64 0,.int .i64 0,.int .i64 0,.int .i64 0,.int .i64 0,.int .u64 0,.int .i64 0,.string ⟨#[]⟩,.int .i64 0,.int .i64 0,.string ⟨#[]⟩] 30)).size hb);have B1 := Aside0.mk (blk_below (blk_new w _) hb);clear hb;have lt1 := blk_lt B1.out;have z0_w1 : w1.cell? ⟨w.heap.size,0,none⟩ = some (.int .i64 0) := (blk_cell B1.out 0).trans rfl;have z1_w1 : w1.cell? ⟨w.heap.size,1,none⟩ = some (.int .i64 0) := (blk_cell B1.out 1).trans rfl;have z2_w1 : w1.cell? ⟨w.heap.size,2,none⟩ = some (.int .i64 0) := (blk_cell B1.out 2).trans rfl;have z3_w1 : w1.cell? ⟨w.heap.size,3,none⟩ = some (.int .i64 0) := (blk_cell B1.out 3).trans rfl;have z4_w1 : w1.cell? ⟨w.heap.size,4,none⟩ = some (.int .i64 0) := (blk_cell B1.out 4).trans rfl;have z5_w1 : w1.cell? ⟨w.heap.size,5,none⟩ = some (.int .i64 0) := (blk_cell B1.out 5).trans rfl;have z6_w1 : w1.cell? ⟨w.heap.size,6,none⟩ = some (.int .u64 0) := (blk_cell B1.out 6).trans rfl;have z7_w1 : w1.cell? ⟨w.heap.size,7,none⟩ = some (.int .i64 0) := (blk_cell B1.out 7).trans rfl;have z8_w1 : w1.cell? ⟨w.heap.size,8,none⟩ = some (.string ⟨#[]⟩) := (blk_cell B1.out 8).trans rfl;have z9_w1 : w1.cell? ⟨w.heap.size,9,none⟩ = some (.int .i64 0) := (blk_cell B1.out 9).trans rfl;have z10_w1 : w1.cell? ⟨w.heap.size,10,none⟩ = some (.int .i64 0) := (blk_cell B1.out 10).trans rfl;have z11_w1 : w1.cell? ⟨w.heap.size,11,none⟩ = some (.string ⟨#[]⟩) := (blk_cell B1.out 11).trans rfl;have y0_w1 := blk_frozen B1.out 0;have y1_w1 := blk_frozen B1.out 1;have y2_w1 := blk_frozen B1.out 2;have y3_w1 := blk_frozen B1.out 3;have y4_w1 := blk_frozen B1.out 4;have y5_w1 := blk_frozen B1.out 5;have y6_w1 := blk_frozen B1.out 6;have y7_w1 := blk_frozen B1.out 7;have y8_w1 := blk_frozen B1.out 8;have y9_w1 := blk_frozen B1.out 9;have y10_w1 := blk_frozen B1.out 10;have y11_w1 := blk_frozen B1.out 11)
    obtain ⟨W,hW⟩ : ∃ W,W = ((((((((((((w1.setCell ⟨w.heap.size,0,none⟩ (.int .i64 0)).setCell ⟨w.heap.size,1,none⟩ (.int .i64 0)).setCell ⟨w.heap.size,2,none⟩ (.int .i64 0)).setCell ⟨w.heap.size,3,none⟩ (.int .i64 0)).setCell ⟨w.heap.size,4,none⟩ (.int .i64 0)).setCell ⟨w.heap.size,5,none⟩ (.int .i64 0)).setCell ⟨w.heap.size,6,none⟩ (.int .u64 0)).setCell ⟨w.heap.size,7,none⟩ (.int .i64 0)).setCell ⟨w.heap.size,8,none⟩ (.string ⟨#[]⟩)).setCell ⟨w.heap.size,9,none⟩ (.int .i64 0)).setCell ⟨w.heap.size,10,none⟩ (.int .i64 0)).setCell ⟨w.heap.size,11,none⟩ (.string ⟨#[]⟩)) := ⟨_,rfl⟩
    have BW : W.heap[w.heap.size]? = some (.cells #[.int .i64 0,.int .i64 0,.int .i64 0,.int .i64 0,.int .i64 0,.int .i64 0,.int .u64 0,.int .i64 0,.string ⟨#[]⟩,.int .i64 0,.int .i64 0,.string ⟨#[]⟩] 30 (0,0)) := by rw [hW];exact blk_set12 B1.out _ _ _ _ _ _ _ _ _ _ _ _
    have HW : Below w.heap.size w W := by rw [hW];exact below_set12 HB1.out (Nat.le_refl _) _ _ _ _ _ _ _ _ _ _ _ _
    rw [← hW]
    clear hW
    obtain ⟨V,hV⟩ : ∃ V,V = W.alloc (Obj.cells #[.int .i64 0,.int .i64 0,.int .i64 0,.int .i64 0,.int .i64 0,.int .i64 0,.int .u64 0,.int .i64 0,.string ⟨#[]⟩,.int .i64 0,.int .i64 0,.string ⟨#[]⟩] 30) := ⟨_,rfl⟩
    have BV : V.heap[w.heap.size]? = some (.cells #[.int .i64 0,.int .i64 0,.int .i64 0,.int .i64 0,.int .i64 0,.int .i64 0,.int .u64 0,.int .i64 0,.string ⟨#[]⟩,.int .i64 0,.int .i64 0,.string ⟨#[]⟩] 30 (0,0)) := by rw [hV];exact blk_alloc BW _
    have HV : Below w.heap.size w V := by rw [hV];exact below_alloc HW _
    rw [← hV]
    clear hV
    have g0 : V.cell? ⟨w.heap.size,0,none⟩ = some (.int .i64 0) := (blk_cell BV 0).trans rfl
    have g1 : V.cell? ⟨w.heap.size,1,none⟩ = some (.int .i64 0) := (blk_cell BV 1).trans rfl
    have g2 : V.cell? ⟨w.heap.size,2,none⟩ = some (.int .i64 0) := (blk_cell BV 2).trans rfl
    have g3 : V.cell? ⟨w.heap.size,3,none⟩ = some (.int .i64 0) := (blk_cell BV 3).trans rfl
    have g4 : V.cell? ⟨w.heap.size,4,none⟩ = some (.int .i64 0) := (blk_cell BV 4).trans rfl
    have g5 : V.cell? ⟨w.heap.size,5,none⟩ = some (.int .i64 0) := (blk_cell BV 5).trans rfl
    have g6 : V.cell? ⟨w.heap.size,6,none⟩ = some (.int .u64 0) := (blk_cell BV 6).trans rfl
    have g7 : V.cell? ⟨w.heap.size,7,none⟩ = some (.int .i64 0) := (blk_cell BV 7).trans rfl
    have g8 : V.cell? ⟨w.heap.size,8,none⟩ = some (.string ⟨#[]⟩) := (blk_cell BV 8).trans rfl
    have g9 : V.cell? ⟨w.heap.size,9,none⟩ = some (.int .i64 0) := (blk_cell BV 9).trans rfl
    have g10 : V.cell? ⟨w.heap.size,10,none⟩ = some (.int .i64 0) := (blk_cell BV 10).trans rfl
    have g11 : V.cell? ⟨w.heap.size,11,none⟩ = some (.string ⟨#[]⟩) := (blk_cell BV 11).trans rfl
    refine bodyPost_ret (v := .tuple #[pkV z30,.int .i64 n]) (by simp [results,Try.results10,go_sem,pkV,z30,g0,g1,g2,g3,g4,g5,g6,g7,g8,g9,g10,g11]) rfl ⟨by rw [E.out,PO.out],HV⟩
set_option maxHeartbeats 2000000 in
set_option maxRecDepth 100000 in
theorem ask_any (self home : Int) (name : ByteArray) (A : Option Addr) (c : Nat) (marks : List Int) (hops serial : Int) (w : World) (hr : Kd.C (Kd.int .i64) w A marks.length marks) (hc : marks.length ≤ c) :
    Calls Try.prog 12 #[.int .i64 self,.int .i64 home,.string name,.slice A marks.length c,.int .i64 hops,.int .u64 serial] w fun e w' => e = .returned (.tuple #[pkV (toP 3 self home name marks hops serial 0 0),.int .i64 (toE self home name marks hops)]) ∧ Below w.heap.size w w' := by
  have hu30 := Try.underlying30
  have HR := Aside0.mk hr
  have CA := Aside0.mk (fun W h => to_any 3 self home name A c marks hops serial W h hc)
  clear hr hc
  obtain ⟨r1,r2,hv⟩ : ∃ r1 r2,drawV marks name = (r1,r2) := ⟨_,_,rfl⟩
  obtain ⟨n,hn⟩ : ∃ n,toE self home name marks hops = n := ⟨_,rfl⟩
  by_cases h0 : n = 0
  · subst h0
    have hr2 : r2 = 0 := by
      unfold toE at hn
      split at hn
      · rw [hv] at hn
        exact hn
      · contradiction
    subst hr2
    have P := Aside0.mk (toP_ok (kind := 3) (serial := serial) (id := 0) (at_ := 0) hn hv)
    have PO := Aside0.mk (toP_ok (kind := 3) (serial := serial) (id := 0) (at_ := 0) hn hv)
    have E := Aside0.mk hn
    clear hn hv
    go_enter Try.func12,Try.ntmps12
    go_wp2_with (go_at_call 34;refine (CA.out _ (Kd.C_alloc HR.out _)).mono ?_;rintro e w1 ⟨rfl,hb⟩;rw [E.out,P.out];simp only [pkV,z30];have HB1 := Aside0.mk (below_then (below_alloc (Below.refl _ w) (.cells #[.int .i64 0,.int .i64 0,.int .i64 0,.int .i64 0,.int .i64 0,.int .i64 0,.int .u64 0,.int .i64 0,.string ⟨#[]⟩,.int .i64 0,.int .i64 0,.string ⟨#[]⟩] 30)) (below_alloc (Below.refl _ w) (.cells #[.int .i64 0,.int .i64 0,.int .i64 0,.int .i64 0,.int .i64 0,.int .i64 0,.int .u64 0,.int .i64 0,.string ⟨#[]⟩,.int .i64 0,.int .i64 0,.string ⟨#[]⟩] 30)).size hb);have B1 := Aside0.mk (blk_below (blk_new w _) hb);clear hb;have lt1 := blk_lt B1.out;have z0_w1 : w1.cell? ⟨w.heap.size,0,none⟩ = some (.int .i64 0) := (blk_cell B1.out 0).trans rfl;have z1_w1 : w1.cell? ⟨w.heap.size,1,none⟩ = some (.int .i64 0) := (blk_cell B1.out 1).trans rfl;have z2_w1 : w1.cell? ⟨w.heap.size,2,none⟩ = some (.int .i64 0) := (blk_cell B1.out 2).trans rfl;have z3_w1 : w1.cell? ⟨w.heap.size,3,none⟩ = some (.int .i64 0) := (blk_cell B1.out 3).trans rfl;have z4_w1 : w1.cell? ⟨w.heap.size,4,none⟩ = some (.int .i64 0) := (blk_cell B1.out 4).trans rfl;have z5_w1 : w1.cell? ⟨w.heap.size,5,none⟩ = some (.int .i64 0) := (blk_cell B1.out 5).trans rfl;have z6_w1 : w1.cell? ⟨w.heap.size,6,none⟩ = some (.int .u64 0) := (blk_cell B1.out 6).trans rfl;have z7_w1 : w1.cell? ⟨w.heap.size,7,none⟩ = some (.int .i64 0) := (blk_cell B1.out 7).trans rfl;have z8_w1 : w1.cell? ⟨w.heap.size,8,none⟩ = some (.string ⟨#[]⟩) := (blk_cell B1.out 8).trans rfl;have z9_w1 : w1.cell? ⟨w.heap.size,9,none⟩ = some (.int .i64 0) := (blk_cell B1.out 9).trans rfl;have z10_w1 : w1.cell? ⟨w.heap.size,10,none⟩ = some (.int .i64 0) := (blk_cell B1.out 10).trans rfl;have z11_w1 : w1.cell? ⟨w.heap.size,11,none⟩ = some (.string ⟨#[]⟩) := (blk_cell B1.out 11).trans rfl;have y0_w1 := blk_frozen B1.out 0;have y1_w1 := blk_frozen B1.out 1;have y2_w1 := blk_frozen B1.out 2;have y3_w1 := blk_frozen B1.out 3;have y4_w1 := blk_frozen B1.out 4;have y5_w1 := blk_frozen B1.out 5;have y6_w1 := blk_frozen B1.out 6;have y7_w1 := blk_frozen B1.out 7;have y8_w1 := blk_frozen B1.out 8;have y9_w1 := blk_frozen B1.out 9;have y10_w1 := blk_frozen B1.out 10;have y11_w1 := blk_frozen B1.out 11)
    obtain ⟨W,hW⟩ : ∃ W,W = ((((((((((((w1.setCell ⟨w.heap.size,0,none⟩ (.int .i64 3)).setCell ⟨w.heap.size,1,none⟩ (.int .i64 self)).setCell ⟨w.heap.size,2,none⟩ (.int .i64 home)).setCell ⟨w.heap.size,3,none⟩ (.int .i64 r1)).setCell ⟨w.heap.size,4,none⟩ (.int .i64 r1)).setCell ⟨w.heap.size,5,none⟩ (.int .i64 hops)).setCell ⟨w.heap.size,6,none⟩ (.int .u64 serial)).setCell ⟨w.heap.size,7,none⟩ (.int .i64 0)).setCell ⟨w.heap.size,8,none⟩ (.string name)).setCell ⟨w.heap.size,9,none⟩ (.int .i64 0)).setCell ⟨w.heap.size,10,none⟩ (.int .i64 0)).setCell ⟨w.heap.size,11,none⟩ (.string ⟨#[]⟩)) := ⟨_,rfl⟩
    have BW : W.heap[w.heap.size]? = some (.cells #[.int .i64 3,.int .i64 self,.int .i64 home,.int .i64 r1,.int .i64 r1,.int .i64 hops,.int .u64 serial,.int .i64 0,.string name,.int .i64 0,.int .i64 0,.string ⟨#[]⟩] 30 (0,0)) := by rw [hW];exact blk_set12 B1.out _ _ _ _ _ _ _ _ _ _ _ _
    have HW : Below w.heap.size w W := by rw [hW];exact below_set12 HB1.out (Nat.le_refl _) _ _ _ _ _ _ _ _ _ _ _ _
    rw [← hW]
    clear hW
    have g0 : W.cell? ⟨w.heap.size,0,none⟩ = some (.int .i64 3) := (blk_cell BW 0).trans rfl
    have g1 : W.cell? ⟨w.heap.size,1,none⟩ = some (.int .i64 self) := (blk_cell BW 1).trans rfl
    have g2 : W.cell? ⟨w.heap.size,2,none⟩ = some (.int .i64 home) := (blk_cell BW 2).trans rfl
    have g3 : W.cell? ⟨w.heap.size,3,none⟩ = some (.int .i64 r1) := (blk_cell BW 3).trans rfl
    have g4 : W.cell? ⟨w.heap.size,4,none⟩ = some (.int .i64 r1) := (blk_cell BW 4).trans rfl
    have g5 : W.cell? ⟨w.heap.size,5,none⟩ = some (.int .i64 hops) := (blk_cell BW 5).trans rfl
    have g6 : W.cell? ⟨w.heap.size,6,none⟩ = some (.int .u64 serial) := (blk_cell BW 6).trans rfl
    have g7 : W.cell? ⟨w.heap.size,7,none⟩ = some (.int .i64 0) := (blk_cell BW 7).trans rfl
    have g8 : W.cell? ⟨w.heap.size,8,none⟩ = some (.string name) := (blk_cell BW 8).trans rfl
    have g9 : W.cell? ⟨w.heap.size,9,none⟩ = some (.int .i64 0) := (blk_cell BW 9).trans rfl
    have g10 : W.cell? ⟨w.heap.size,10,none⟩ = some (.int .i64 0) := (blk_cell BW 10).trans rfl
    have g11 : W.cell? ⟨w.heap.size,11,none⟩ = some (.string ⟨#[]⟩) := (blk_cell BW 11).trans rfl
    refine bodyPost_ret (v := .tuple #[pkV ⟨3,self,home,r1,r1,hops,serial,0,name,0,0,⟨#[]⟩⟩,.int .i64 0]) (by simp [results,Try.results12,go_sem,pkV,g0,g1,g2,g3,g4,g5,g6,g7,g8,g9,g10,g11]) rfl ⟨by rw [E.out,PO.out],HW⟩
  · have hb1 : (n == 0) = false := by simpa using h0
    have P := Aside0.mk (toP_no (kind := 3) (serial := serial) (id := 0) (at_ := 0) (by rw [hn];exact h0))
    have PO := Aside0.mk (toP_no (kind := 3) (serial := serial) (id := 0) (at_ := 0) (by rw [hn];exact h0))
    have E := Aside0.mk hn
    clear hn hv h0
    go_enter Try.func12,Try.ntmps12
    go_wp2_with (go_at_call 34;refine (CA.out _ (Kd.C_alloc HR.out _)).mono ?_;rintro e w1 ⟨rfl,hb⟩;rw [E.out,P.out];simp only [pkV,z30];have HB1 := Aside0.mk (below_then (below_alloc (Below.refl _ w) (.cells #[.int .i64 0,.int .i64 0,.int .i64 0,.int .i64 0,.int .i64 0,.int .i64 0,.int .u64 0,.int .i64 0,.string ⟨#[]⟩,.int .i64 0,.int .i64 0,.string ⟨#[]⟩] 30)) (below_alloc (Below.refl _ w) (.cells #[.int .i64 0,.int .i64 0,.int .i64 0,.int .i64 0,.int .i64 0,.int .i64 0,.int .u64 0,.int .i64 0,.string ⟨#[]⟩,.int .i64 0,.int .i64 0,.string ⟨#[]⟩] 30)).size hb);have B1 := Aside0.mk (blk_below (blk_new w _) hb);clear hb;have lt1 := blk_lt B1.out;have z0_w1 : w1.cell? ⟨w.heap.size,0,none⟩ = some (.int .i64 0) := (blk_cell B1.out 0).trans rfl;have z1_w1 : w1.cell? ⟨w.heap.size,1,none⟩ = some (.int .i64 0) := (blk_cell B1.out 1).trans rfl;have z2_w1 : w1.cell? ⟨w.heap.size,2,none⟩ = some (.int .i64 0) := (blk_cell B1.out 2).trans rfl;have z3_w1 : w1.cell? ⟨w.heap.size,3,none⟩ = some (.int .i64 0) := (blk_cell B1.out 3).trans rfl;have z4_w1 : w1.cell? ⟨w.heap.size,4,none⟩ = some (.int .i64 0) := (blk_cell B1.out 4).trans rfl;have z5_w1 : w1.cell? ⟨w.heap.size,5,none⟩ = some (.int .i64 0) := (blk_cell B1.out 5).trans rfl;have z6_w1 : w1.cell? ⟨w.heap.size,6,none⟩ = some (.int .u64 0) := (blk_cell B1.out 6).trans rfl;have z7_w1 : w1.cell? ⟨w.heap.size,7,none⟩ = some (.int .i64 0) := (blk_cell B1.out 7).trans rfl;have z8_w1 : w1.cell? ⟨w.heap.size,8,none⟩ = some (.string ⟨#[]⟩) := (blk_cell B1.out 8).trans rfl;have z9_w1 : w1.cell? ⟨w.heap.size,9,none⟩ = some (.int .i64 0) := (blk_cell B1.out 9).trans rfl;have z10_w1 : w1.cell? ⟨w.heap.size,10,none⟩ = some (.int .i64 0) := (blk_cell B1.out 10).trans rfl;have z11_w1 : w1.cell? ⟨w.heap.size,11,none⟩ = some (.string ⟨#[]⟩) := (blk_cell B1.out 11).trans rfl;have y0_w1 := blk_frozen B1.out 0;have y1_w1 := blk_frozen B1.out 1;have y2_w1 := blk_frozen B1.out 2;have y3_w1 := blk_frozen B1.out 3;have y4_w1 := blk_frozen B1.out 4;have y5_w1 := blk_frozen B1.out 5;have y6_w1 := blk_frozen B1.out 6;have y7_w1 := blk_frozen B1.out 7;have y8_w1 := blk_frozen B1.out 8;have y9_w1 := blk_frozen B1.out 9;have y10_w1 := blk_frozen B1.out 10;have y11_w1 := blk_frozen B1.out 11)
    obtain ⟨W,hW⟩ : ∃ W,W = ((((((((((((w1.setCell ⟨w.heap.size,0,none⟩ (.int .i64 0)).setCell ⟨w.heap.size,1,none⟩ (.int .i64 0)).setCell ⟨w.heap.size,2,none⟩ (.int .i64 0)).setCell ⟨w.heap.size,3,none⟩ (.int .i64 0)).setCell ⟨w.heap.size,4,none⟩ (.int .i64 0)).setCell ⟨w.heap.size,5,none⟩ (.int .i64 0)).setCell ⟨w.heap.size,6,none⟩ (.int .u64 0)).setCell ⟨w.heap.size,7,none⟩ (.int .i64 0)).setCell ⟨w.heap.size,8,none⟩ (.string ⟨#[]⟩)).setCell ⟨w.heap.size,9,none⟩ (.int .i64 0)).setCell ⟨w.heap.size,10,none⟩ (.int .i64 0)).setCell ⟨w.heap.size,11,none⟩ (.string ⟨#[]⟩)) := ⟨_,rfl⟩
    have BW : W.heap[w.heap.size]? = some (.cells #[.int .i64 0,.int .i64 0,.int .i64 0,.int .i64 0,.int .i64 0,.int .i64 0,.int .u64 0,.int .i64 0,.string ⟨#[]⟩,.int .i64 0,.int .i64 0,.string ⟨#[]⟩] 30 (0,0)) := by rw [hW];exact blk_set12 B1.out _ _ _ _ _ _ _ _ _ _ _ _
    have HW : Below w.heap.size w W := by rw [hW];exact below_set12 HB1.out (Nat.le_refl _) _ _ _ _ _ _ _ _ _ _ _ _
    rw [← hW]
    clear hW
    have g0 : W.cell? ⟨w.heap.size,0,none⟩ = some (.int .i64 0) := (blk_cell BW 0).trans rfl
    have g1 : W.cell? ⟨w.heap.size,1,none⟩ = some (.int .i64 0) := (blk_cell BW 1).trans rfl
    have g2 : W.cell? ⟨w.heap.size,2,none⟩ = some (.int .i64 0) := (blk_cell BW 2).trans rfl
    have g3 : W.cell? ⟨w.heap.size,3,none⟩ = some (.int .i64 0) := (blk_cell BW 3).trans rfl
    have g4 : W.cell? ⟨w.heap.size,4,none⟩ = some (.int .i64 0) := (blk_cell BW 4).trans rfl
    have g5 : W.cell? ⟨w.heap.size,5,none⟩ = some (.int .i64 0) := (blk_cell BW 5).trans rfl
    have g6 : W.cell? ⟨w.heap.size,6,none⟩ = some (.int .u64 0) := (blk_cell BW 6).trans rfl
    have g7 : W.cell? ⟨w.heap.size,7,none⟩ = some (.int .i64 0) := (blk_cell BW 7).trans rfl
    have g8 : W.cell? ⟨w.heap.size,8,none⟩ = some (.string ⟨#[]⟩) := (blk_cell BW 8).trans rfl
    have g9 : W.cell? ⟨w.heap.size,9,none⟩ = some (.int .i64 0) := (blk_cell BW 9).trans rfl
    have g10 : W.cell? ⟨w.heap.size,10,none⟩ = some (.int .i64 0) := (blk_cell BW 10).trans rfl
    have g11 : W.cell? ⟨w.heap.size,11,none⟩ = some (.string ⟨#[]⟩) := (blk_cell BW 11).trans rfl
    refine bodyPost_ret (v := .tuple #[pkV z30,.int .i64 n]) (by simp [results,Try.results12,go_sem,pkV,z30,g0,g1,g2,g3,g4,g5,g6,g7,g8,g9,g10,g11]) rfl ⟨by rw [E.out,PO.out],HW⟩
end Go.Proofs.Ytlpmblcdafdfdaa.PA
