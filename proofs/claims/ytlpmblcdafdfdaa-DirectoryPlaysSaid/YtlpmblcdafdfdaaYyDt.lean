/- The document's Put, walked. Condition: what is kept stands by names, and is no more than a directory holds. -/
import Derived.Test.YtlpmblcdafdfdaaYyGx
import Derived.Test.YtlpmblcdafdfdaaYyDr2
import Derived.Test.YtlpmblcdafdfdaaYyDf
namespace Go.Proofs.Ytlpmblcdafdfdaa.PA
open Go.RowKit Go.Proofs.YtlpmblcdafdfdaaW.PrintWords Go.Proofs.YtlpmblcdafdfdaaW.PrintLast Go.Proofs.YtlpmblcdafdfdaaW.PrintMore
set_option linter.unusedVariables false
set_option linter.unusedSimpArgs false
open Classical
theorem rname_any (s : ByteArray) (n : Int) (h : nameV s = n) (W : World) : Calls Try.prog 31 #[.string s] W fun e w' => e = .returned (.int .i64 n) ∧ Below W.heap.size W w' := of_drawn (beaconref02_CheckName.calls 80 s n W (by rw [rname_tells s 80 (Nat.le_refl _),h]))
theorem rnum_any (x : Int) (r : Bool) (h : (!badId x) = r) (W : World) : Calls Try.prog 36 #[.int .i64 x] W fun e w' => e = .returned (.bool r) ∧ Below W.heap.size W w' := of_drawn (beaconref20_number.calls x r W (by rw [rnum_f,h]))
theorem place_any (M : List S57) (hM : M.length ≤ 4096) (s : ByteArray) (life : Int) (A : Option Addr) (c : Nat) (W : World) (hr : Kd.C k57 W A M.length M) (hc : M.length ≤ c) :
    Calls Try.prog 37 #[.agg #[.int .i64 life,.slice A M.length c],.string s] W fun e w' => e = .returned (.int .i64 (placeN s M 0)) ∧ Below W.heap.size W w' := beaconref20_place.calls 4100 life A c M s _ W hr hc (place_f M hM s life)
def rputL (life : Int) (M : List S57) (s : ByteArray) (id at_ : Int) : List S57 := if putE M s id at_ = 0 then sortN (adPut ⟨s,id,at_,life⟩ M) else M
def RPutOut (w : World) (life : Int) (A : Option Addr) (M : List S57) (s : ByteArray) (id at_ : Int) (e : Ending) (w' : World) : Prop :=
  ∃ A' c',e = .returned (.tuple #[.agg #[.int .i64 life,.slice A' (rputL life M s id at_).length c'],.int .i64 (putE M s id at_)]) ∧ (rputL life M s id at_).length ≤ c' ∧ Kd.C k57 w' A' (rputL life M s id at_).length (rputL life M s id at_) ∧ Below w.heap.size w w' ∧ (A' = A ∧ rputL life M s id at_ = M ∨ ∀ ad,A' = some ad → w.heap.size ≤ ad.block)
def PBase (w wr : World) (bx br : Nat) (life : Int) (A : Option Addr) (n c : Nat) : Prop :=
  Below w.heap.size w wr ∧ wr.heap[bx]? = some (.cells #[.int .i64 life,.slice A n c] 42 (0,0)) ∧ wr.heap[br]? = some (.cells #[.int .i64 0,.slice none 0 0] 42 (0,0)) ∧ bx ≠ br ∧ w.heap.size ≤ bx ∧ w.heap.size ≤ br
theorem PBase.below {w wr w1 : World} {bx br : Nat} {life : Int} {A : Option Addr} {n c : Nat} (h : PBase w wr bx br life A n c) (hb : Below wr.heap.size wr w1) : PBase w w1 bx br life A n c :=
  ⟨below_then h.1 h.1.size hb,blk_below h.2.1 hb,blk_below h.2.2.1 hb,h.2.2.2⟩
theorem PBase.back {w wr : World} {bx br : Nat} {life : Int} {A : Option Addr} {M : List S57} {c : Nat} (h : PBase w wr bx br life A M.length c) (hr : Kd.C k57 w A M.length M) (hc : M.length ≤ c) {s : ByteArray} {id at_ n : Int} (hE : putE M s id at_ = n) (hn : n ≠ 0) :
    RPutOut w life A M s id at_ (.returned (.tuple #[.agg #[.int .i64 life,.slice A M.length c],.int .i64 n])) ((wr.setCell ⟨br,0,none⟩ (.int .i64 life)).setCell ⟨br,1,none⟩ (.slice A M.length c)) := by
  have e : rputL life M s id at_ = M := by unfold rputL;rw [hE,if_neg hn]
  have hb : Below w.heap.size w ((wr.setCell ⟨br,0,none⟩ (.int .i64 life)).setCell ⟨br,1,none⟩ (.slice A M.length c)) := (h.1.setCell h.2.2.2.2.2 _).setCell h.2.2.2.2.2 _
  exact ⟨A,c,by rw [e,hE],by rw [e];exact hc,by rw [e];exact Kd.C_below hr hb,hb,.inl ⟨rfl,e⟩⟩
set_option maxHeartbeats 4000000 in
set_option maxRecDepth 100000 in
theorem rput_bad (w : World) (life : Int) (A : Option Addr) (c : Nat) (M : List S57) (hr : Kd.C k57 w A M.length M) (hc : M.length ≤ c) (hl : M.length ≤ 4096) (s : ByteArray) (id at_ : Int) (hne : putE M s id at_ ≠ 0) :
    Calls Try.prog 18 #[.agg #[.int .i64 life,.slice A M.length c],.string s,.int .i64 id,.int .i64 at_] w fun e w' => RPutOut w life A M s id at_ e w' := by
  have hu57 := Try.underlying57
  have hu42 := Try.underlying42
  have hu40 := Try.underlying40
  have HR := Aside0.mk hr
  have HC := Aside0.mk hc
  clear hr hc
  obtain ⟨w0,hw0⟩ : ∃ w0,w0 = (w.alloc (Obj.cells #[.int .i64 life,.slice A M.length c] 42)).alloc (Obj.cells #[.int .i64 0,.slice none 0 0] 42) := ⟨_,rfl⟩
  obtain ⟨bx,hbx⟩ : ∃ b,b = w.heap.size := ⟨_,rfl⟩
  obtain ⟨br,hbr⟩ : ∃ b,b = w.heap.size + 1 := ⟨_,rfl⟩
  have W0 := Aside0.mk (And.intro hw0 (And.intro hbx hbr))
  have I0 : Aside0 (PBase w w0 bx br life A M.length c) := ⟨by rw [hw0];exact below_alloc (below_alloc (Below.refl _ _) _) _,by rw [hw0,hbx];exact blk_alloc (blk_new w _) _,by rw [hw0,hbr];have := blk_new (w.alloc (Obj.cells #[.int .i64 life,.slice A M.length c] 42)) (Obj.cells #[.int .i64 0,.slice none 0 0] 42);rwa [World.size_alloc] at this,by omega,by omega,by omega⟩
  clear hw0 hbx hbr
  obtain ⟨n,hn⟩ : ∃ n,nameV s = n := ⟨_,rfl⟩
  have NM := Aside0.mk (fun W => rname_any s n hn W)
  by_cases h0 : n = 0
  · subst h0
    obtain ⟨r1,hr1⟩ : ∃ r1,(!badId id) = r1 := ⟨_,rfl⟩
    obtain ⟨r2,hr2⟩ : ∃ r2,(!badId at_) = r2 := ⟨_,rfl⟩
    have N1 := Aside0.mk (fun W => rnum_any id r1 hr1 W)
    have N2 := Aside0.mk (fun W => rnum_any at_ r2 hr2 W)
    have E1 : badId id = !r1 := by rw [← hr1];simp
    have E2 : badId at_ = !r2 := by rw [← hr2];simp
    clear hr1 hr2
    cases r1
    · have hE := Aside0.mk (putE_id (L := M) (id := id) (at_ := at_) hn (by rw [E1];rfl))
      clear hn hne E1 E2
      go_enter Try.func18,Try.ntmps18
      go_upto_region 1 with fail
      rw [← W0.out.2.2,← W0.out.2.1,← W0.out.1]
      go_wp2_with (first | (go_at_call 31;refine (NM.out _).mono ?_;rintro e w1 ⟨rfl,hb⟩;have I1 := Aside0.mk (I0.out.below hb);clear hb;have Xw1 := Aside0.mk I1.out.2.1;have Yw1 := Aside0.mk I1.out.2.2.1;have x0w1 : w1.cell? ⟨bx,0,none⟩ = some (.int .i64 life) := (blk_cell Xw1.out 0).trans rfl;have x1w1 : w1.cell? ⟨bx,1,none⟩ = some (.slice A M.length c) := (blk_cell Xw1.out 1).trans rfl;have y0w1 : w1.cell? ⟨br,0,none⟩ = some (.int .i64 0) := (blk_cell Yw1.out 0).trans rfl;have y1w1 : w1.cell? ⟨br,1,none⟩ = some (.slice none 0 0) := (blk_cell Yw1.out 1).trans rfl;have z0w1 := blk_frozen Yw1.out 0;have z1w1 := blk_frozen Yw1.out 1;have zxw1 := blk_frozen Xw1.out 1) | (go_at_call 36;(with_reducible refine (N1.out _).mono ?_);rintro e w2 ⟨rfl,hb⟩;have I2 := Aside0.mk (I1.out.below hb);clear hb;have Xw2 := Aside0.mk I2.out.2.1;have Yw2 := Aside0.mk I2.out.2.2.1;have x0w2 : w2.cell? ⟨bx,0,none⟩ = some (.int .i64 life) := (blk_cell Xw2.out 0).trans rfl;have x1w2 : w2.cell? ⟨bx,1,none⟩ = some (.slice A M.length c) := (blk_cell Xw2.out 1).trans rfl;have y0w2 : w2.cell? ⟨br,0,none⟩ = some (.int .i64 0) := (blk_cell Yw2.out 0).trans rfl;have y1w2 : w2.cell? ⟨br,1,none⟩ = some (.slice none 0 0) := (blk_cell Yw2.out 1).trans rfl;have z0w2 := blk_frozen Yw2.out 0;have z1w2 := blk_frozen Yw2.out 1;have zxw2 := blk_frozen Xw2.out 1))
      obtain ⟨W,hW⟩ : ∃ W,W = (w2.setCell ⟨br,0,none⟩ (.int .i64 life)).setCell ⟨br,1,none⟩ (.slice A M.length c) := ⟨_,rfl⟩
      have BK := I2.out.back HR.out HC.out hE.out (by decide)
      have BW : W.heap[br]? = some (.cells #[.int .i64 life,.slice A M.length c] 42 (0,0)) := by rw [hW];exact (blk_set (blk_set Yw2.out 0 _) 1 _).trans rfl
      rw [← hW] at BK ⊢
      clear hW
      have g0 : W.cell? ⟨br,0,none⟩ = some (.int .i64 life) := (blk_cell BW 0).trans rfl
      have g1 : W.cell? ⟨br,1,none⟩ = some (.slice A M.length c) := (blk_cell BW 1).trans rfl
      exact bodyPost_ret (v := .tuple #[.agg #[.int .i64 life,.slice A M.length c],.int .i64 20]) (by simp [results,Try.results18,go_sem,g0,g1]) rfl BK
    · by_cases ha : at_ = 0
      · have hfull : adGet s M = none ∧ 4096 ≤ M.length := Classical.byContradiction fun h => hne (putE_ok hn (by rw [E1,ha];rfl) h)
        have hE := Aside0.mk (putE_full (L := M) (id := id) (at_ := at_) hn (by rw [E1,ha];rfl) hfull)
        have PL := Aside0.mk (placeN_none (i := 0) hfull.1)
        have hml : (4096 : Int) ≤ (M.length : Int) := by have := hfull.2;omega
        have hab : (at_ != 0) = false := by simp [ha]
        clear hn hne E1 E2 ha hfull
        go_enter Try.func18,Try.ntmps18
        go_upto_region 1 with fail
        rw [← W0.out.2.2,← W0.out.2.1,← W0.out.1]
        go_wp2_with (first | (go_at_call 31;refine (NM.out _).mono ?_;rintro e w1 ⟨rfl,hb⟩;have I1 := Aside0.mk (I0.out.below hb);clear hb;have Xw1 := Aside0.mk I1.out.2.1;have Yw1 := Aside0.mk I1.out.2.2.1;have x0w1 : w1.cell? ⟨bx,0,none⟩ = some (.int .i64 life) := (blk_cell Xw1.out 0).trans rfl;have x1w1 : w1.cell? ⟨bx,1,none⟩ = some (.slice A M.length c) := (blk_cell Xw1.out 1).trans rfl;have y0w1 : w1.cell? ⟨br,0,none⟩ = some (.int .i64 0) := (blk_cell Yw1.out 0).trans rfl;have y1w1 : w1.cell? ⟨br,1,none⟩ = some (.slice none 0 0) := (blk_cell Yw1.out 1).trans rfl;have z0w1 := blk_frozen Yw1.out 0;have z1w1 := blk_frozen Yw1.out 1;have zxw1 := blk_frozen Xw1.out 1) | (go_at_call 36;(with_reducible refine (N1.out _).mono ?_);rintro e w2 ⟨rfl,hb⟩;have I2 := Aside0.mk (I1.out.below hb);clear hb;have Xw2 := Aside0.mk I2.out.2.1;have Yw2 := Aside0.mk I2.out.2.2.1;have x0w2 : w2.cell? ⟨bx,0,none⟩ = some (.int .i64 life) := (blk_cell Xw2.out 0).trans rfl;have x1w2 : w2.cell? ⟨bx,1,none⟩ = some (.slice A M.length c) := (blk_cell Xw2.out 1).trans rfl;have y0w2 : w2.cell? ⟨br,0,none⟩ = some (.int .i64 0) := (blk_cell Yw2.out 0).trans rfl;have y1w2 : w2.cell? ⟨br,1,none⟩ = some (.slice none 0 0) := (blk_cell Yw2.out 1).trans rfl;have z0w2 := blk_frozen Yw2.out 0;have z1w2 := blk_frozen Yw2.out 1;have zxw2 := blk_frozen Xw2.out 1) | (go_at_call 37;refine (place_any M hl s life A c _ (Kd.C_below HR.out I2.out.1) HC.out).mono ?_;rintro e w3 ⟨rfl,hb⟩;rw [PL.out];have I3 := Aside0.mk (I2.out.below hb);clear hb;have Xw3 := Aside0.mk I3.out.2.1;have Yw3 := Aside0.mk I3.out.2.2.1;have x0w3 : w3.cell? ⟨bx,0,none⟩ = some (.int .i64 life) := (blk_cell Xw3.out 0).trans rfl;have x1w3 : w3.cell? ⟨bx,1,none⟩ = some (.slice A M.length c) := (blk_cell Xw3.out 1).trans rfl;have y0w3 : w3.cell? ⟨br,0,none⟩ = some (.int .i64 0) := (blk_cell Yw3.out 0).trans rfl;have y1w3 : w3.cell? ⟨br,1,none⟩ = some (.slice none 0 0) := (blk_cell Yw3.out 1).trans rfl;have z0w3 := blk_frozen Yw3.out 0;have z1w3 := blk_frozen Yw3.out 1;have zxw3 := blk_frozen Xw3.out 1))
        obtain ⟨W,hW⟩ : ∃ W,W = (w3.setCell ⟨br,0,none⟩ (.int .i64 life)).setCell ⟨br,1,none⟩ (.slice A M.length c) := ⟨_,rfl⟩
        have BK := I3.out.back HR.out HC.out hE.out (by decide)
        have BW : W.heap[br]? = some (.cells #[.int .i64 life,.slice A M.length c] 42 (0,0)) := by rw [hW];exact (blk_set (blk_set Yw3.out 0 _) 1 _).trans rfl
        rw [← hW] at BK ⊢
        clear hW
        have g0 : W.cell? ⟨br,0,none⟩ = some (.int .i64 life) := (blk_cell BW 0).trans rfl
        have g1 : W.cell? ⟨br,1,none⟩ = some (.slice A M.length c) := (blk_cell BW 1).trans rfl
        exact bodyPost_ret (v := .tuple #[.agg #[.int .i64 life,.slice A M.length c],.int .i64 2]) (by simp [results,Try.results18,go_sem,g0,g1]) rfl BK
      · have hab : (at_ != 0) = true := by simpa using ha
        cases r2
        · have hE := Aside0.mk (putE_id (L := M) (id := id) (at_ := at_) hn (by rw [E1,E2,hab];rfl))
          clear hn hne E1 E2 ha
          go_enter Try.func18,Try.ntmps18
          go_upto_region 1 with fail
          rw [← W0.out.2.2,← W0.out.2.1,← W0.out.1]
          go_wp2_with (first | (go_at_call 31;refine (NM.out _).mono ?_;rintro e w1 ⟨rfl,hb⟩;have I1 := Aside0.mk (I0.out.below hb);clear hb;have Xw1 := Aside0.mk I1.out.2.1;have Yw1 := Aside0.mk I1.out.2.2.1;have x0w1 : w1.cell? ⟨bx,0,none⟩ = some (.int .i64 life) := (blk_cell Xw1.out 0).trans rfl;have x1w1 : w1.cell? ⟨bx,1,none⟩ = some (.slice A M.length c) := (blk_cell Xw1.out 1).trans rfl;have y0w1 : w1.cell? ⟨br,0,none⟩ = some (.int .i64 0) := (blk_cell Yw1.out 0).trans rfl;have y1w1 : w1.cell? ⟨br,1,none⟩ = some (.slice none 0 0) := (blk_cell Yw1.out 1).trans rfl;have z0w1 := blk_frozen Yw1.out 0;have z1w1 := blk_frozen Yw1.out 1;have zxw1 := blk_frozen Xw1.out 1) | (go_at_call 36;(with_reducible refine (N1.out _).mono ?_);rintro e w2 ⟨rfl,hb⟩;have I2 := Aside0.mk (I1.out.below hb);clear hb;have Xw2 := Aside0.mk I2.out.2.1;have Yw2 := Aside0.mk I2.out.2.2.1;have x0w2 : w2.cell? ⟨bx,0,none⟩ = some (.int .i64 life) := (blk_cell Xw2.out 0).trans rfl;have x1w2 : w2.cell? ⟨bx,1,none⟩ = some (.slice A M.length c) := (blk_cell Xw2.out 1).trans rfl;have y0w2 : w2.cell? ⟨br,0,none⟩ = some (.int .i64 0) := (blk_cell Yw2.out 0).trans rfl;have y1w2 : w2.cell? ⟨br,1,none⟩ = some (.slice none 0 0) := (blk_cell Yw2.out 1).trans rfl;have z0w2 := blk_frozen Yw2.out 0;have z1w2 := blk_frozen Yw2.out 1;have zxw2 := blk_frozen Xw2.out 1) | (go_at_call 36;(with_reducible refine (N2.out _).mono ?_);rintro e w3 ⟨rfl,hb⟩;have I3 := Aside0.mk (I2.out.below hb);clear hb;have Xw3 := Aside0.mk I3.out.2.1;have Yw3 := Aside0.mk I3.out.2.2.1;have x0w3 : w3.cell? ⟨bx,0,none⟩ = some (.int .i64 life) := (blk_cell Xw3.out 0).trans rfl;have x1w3 : w3.cell? ⟨bx,1,none⟩ = some (.slice A M.length c) := (blk_cell Xw3.out 1).trans rfl;have y0w3 : w3.cell? ⟨br,0,none⟩ = some (.int .i64 0) := (blk_cell Yw3.out 0).trans rfl;have y1w3 : w3.cell? ⟨br,1,none⟩ = some (.slice none 0 0) := (blk_cell Yw3.out 1).trans rfl;have z0w3 := blk_frozen Yw3.out 0;have z1w3 := blk_frozen Yw3.out 1;have zxw3 := blk_frozen Xw3.out 1))
          obtain ⟨W,hW⟩ : ∃ W,W = (w3.setCell ⟨br,0,none⟩ (.int .i64 life)).setCell ⟨br,1,none⟩ (.slice A M.length c) := ⟨_,rfl⟩
          have BK := I3.out.back HR.out HC.out hE.out (by decide)
          have BW : W.heap[br]? = some (.cells #[.int .i64 life,.slice A M.length c] 42 (0,0)) := by rw [hW];exact (blk_set (blk_set Yw3.out 0 _) 1 _).trans rfl
          rw [← hW] at BK ⊢
          clear hW
          have g0 : W.cell? ⟨br,0,none⟩ = some (.int .i64 life) := (blk_cell BW 0).trans rfl
          have g1 : W.cell? ⟨br,1,none⟩ = some (.slice A M.length c) := (blk_cell BW 1).trans rfl
          exact bodyPost_ret (v := .tuple #[.agg #[.int .i64 life,.slice A M.length c],.int .i64 20]) (by simp [results,Try.results18,go_sem,g0,g1]) rfl BK
        · have hfull : adGet s M = none ∧ 4096 ≤ M.length := Classical.byContradiction fun h => hne (putE_ok hn (by rw [E1,E2];simp) h)
          have hE := Aside0.mk (putE_full (L := M) (id := id) (at_ := at_) hn (by rw [E1,E2];simp) hfull)
          have PL := Aside0.mk (placeN_none (i := 0) hfull.1)
          have hml : (4096 : Int) ≤ (M.length : Int) := by have := hfull.2;omega
          clear hn hne E1 E2 ha hfull
          go_enter Try.func18,Try.ntmps18
          go_upto_region 1 with fail
          rw [← W0.out.2.2,← W0.out.2.1,← W0.out.1]
          go_wp2_with (first | (go_at_call 31;refine (NM.out _).mono ?_;rintro e w1 ⟨rfl,hb⟩;have I1 := Aside0.mk (I0.out.below hb);clear hb;have Xw1 := Aside0.mk I1.out.2.1;have Yw1 := Aside0.mk I1.out.2.2.1;have x0w1 : w1.cell? ⟨bx,0,none⟩ = some (.int .i64 life) := (blk_cell Xw1.out 0).trans rfl;have x1w1 : w1.cell? ⟨bx,1,none⟩ = some (.slice A M.length c) := (blk_cell Xw1.out 1).trans rfl;have y0w1 : w1.cell? ⟨br,0,none⟩ = some (.int .i64 0) := (blk_cell Yw1.out 0).trans rfl;have y1w1 : w1.cell? ⟨br,1,none⟩ = some (.slice none 0 0) := (blk_cell Yw1.out 1).trans rfl;have z0w1 := blk_frozen Yw1.out 0;have z1w1 := blk_frozen Yw1.out 1;have zxw1 := blk_frozen Xw1.out 1) | (go_at_call 36;(with_reducible refine (N1.out _).mono ?_);rintro e w2 ⟨rfl,hb⟩;have I2 := Aside0.mk (I1.out.below hb);clear hb;have Xw2 := Aside0.mk I2.out.2.1;have Yw2 := Aside0.mk I2.out.2.2.1;have x0w2 : w2.cell? ⟨bx,0,none⟩ = some (.int .i64 life) := (blk_cell Xw2.out 0).trans rfl;have x1w2 : w2.cell? ⟨bx,1,none⟩ = some (.slice A M.length c) := (blk_cell Xw2.out 1).trans rfl;have y0w2 : w2.cell? ⟨br,0,none⟩ = some (.int .i64 0) := (blk_cell Yw2.out 0).trans rfl;have y1w2 : w2.cell? ⟨br,1,none⟩ = some (.slice none 0 0) := (blk_cell Yw2.out 1).trans rfl;have z0w2 := blk_frozen Yw2.out 0;have z1w2 := blk_frozen Yw2.out 1;have zxw2 := blk_frozen Xw2.out 1) | (go_at_call 36;(with_reducible refine (N2.out _).mono ?_);rintro e w3 ⟨rfl,hb⟩;have I3 := Aside0.mk (I2.out.below hb);clear hb;have Xw3 := Aside0.mk I3.out.2.1;have Yw3 := Aside0.mk I3.out.2.2.1;have x0w3 : w3.cell? ⟨bx,0,none⟩ = some (.int .i64 life) := (blk_cell Xw3.out 0).trans rfl;have x1w3 : w3.cell? ⟨bx,1,none⟩ = some (.slice A M.length c) := (blk_cell Xw3.out 1).trans rfl;have y0w3 : w3.cell? ⟨br,0,none⟩ = some (.int .i64 0) := (blk_cell Yw3.out 0).trans rfl;have y1w3 : w3.cell? ⟨br,1,none⟩ = some (.slice none 0 0) := (blk_cell Yw3.out 1).trans rfl;have z0w3 := blk_frozen Yw3.out 0;have z1w3 := blk_frozen Yw3.out 1;have zxw3 := blk_frozen Xw3.out 1) | (go_at_call 37;refine (place_any M hl s life A c _ (Kd.C_below HR.out I3.out.1) HC.out).mono ?_;rintro e w4 ⟨rfl,hb⟩;rw [PL.out];have I4 := Aside0.mk (I3.out.below hb);clear hb;have Xw4 := Aside0.mk I4.out.2.1;have Yw4 := Aside0.mk I4.out.2.2.1;have x0w4 : w4.cell? ⟨bx,0,none⟩ = some (.int .i64 life) := (blk_cell Xw4.out 0).trans rfl;have x1w4 : w4.cell? ⟨bx,1,none⟩ = some (.slice A M.length c) := (blk_cell Xw4.out 1).trans rfl;have y0w4 : w4.cell? ⟨br,0,none⟩ = some (.int .i64 0) := (blk_cell Yw4.out 0).trans rfl;have y1w4 : w4.cell? ⟨br,1,none⟩ = some (.slice none 0 0) := (blk_cell Yw4.out 1).trans rfl;have z0w4 := blk_frozen Yw4.out 0;have z1w4 := blk_frozen Yw4.out 1;have zxw4 := blk_frozen Xw4.out 1))
          obtain ⟨W,hW⟩ : ∃ W,W = (w4.setCell ⟨br,0,none⟩ (.int .i64 life)).setCell ⟨br,1,none⟩ (.slice A M.length c) := ⟨_,rfl⟩
          have BK := I4.out.back HR.out HC.out hE.out (by decide)
          have BW : W.heap[br]? = some (.cells #[.int .i64 life,.slice A M.length c] 42 (0,0)) := by rw [hW];exact (blk_set (blk_set Yw4.out 0 _) 1 _).trans rfl
          rw [← hW] at BK ⊢
          clear hW
          have g0 : W.cell? ⟨br,0,none⟩ = some (.int .i64 life) := (blk_cell BW 0).trans rfl
          have g1 : W.cell? ⟨br,1,none⟩ = some (.slice A M.length c) := (blk_cell BW 1).trans rfl
          exact bodyPost_ret (v := .tuple #[.agg #[.int .i64 life,.slice A M.length c],.int .i64 2]) (by simp [results,Try.results18,go_sem,g0,g1]) rfl BK
  · have hE := Aside0.mk (putE_name (L := M) (id := id) (at_ := at_) hn h0)
    have hb1 : (n != 0) = true := by simpa using h0
    have H0 := Aside0.mk h0
    clear hn h0 hne
    go_enter Try.func18,Try.ntmps18
    go_upto_region 1 with fail
    rw [← W0.out.2.2,← W0.out.2.1,← W0.out.1]
    go_wp2_with (go_at_call 31;refine (NM.out _).mono ?_;rintro e w1 ⟨rfl,hb⟩;have I1 := Aside0.mk (I0.out.below hb);clear hb;have Xw1 := Aside0.mk I1.out.2.1;have Yw1 := Aside0.mk I1.out.2.2.1;have x0w1 : w1.cell? ⟨bx,0,none⟩ = some (.int .i64 life) := (blk_cell Xw1.out 0).trans rfl;have x1w1 : w1.cell? ⟨bx,1,none⟩ = some (.slice A M.length c) := (blk_cell Xw1.out 1).trans rfl;have y0w1 : w1.cell? ⟨br,0,none⟩ = some (.int .i64 0) := (blk_cell Yw1.out 0).trans rfl;have y1w1 : w1.cell? ⟨br,1,none⟩ = some (.slice none 0 0) := (blk_cell Yw1.out 1).trans rfl;have z0w1 := blk_frozen Yw1.out 0;have z1w1 := blk_frozen Yw1.out 1;have zxw1 := blk_frozen Xw1.out 1)
    obtain ⟨W,hW⟩ : ∃ W,W = (w1.setCell ⟨br,0,none⟩ (.int .i64 life)).setCell ⟨br,1,none⟩ (.slice A M.length c) := ⟨_,rfl⟩
    have BK := I1.out.back HR.out HC.out hE.out H0.out
    have BW : W.heap[br]? = some (.cells #[.int .i64 life,.slice A M.length c] 42 (0,0)) := by rw [hW];exact (blk_set (blk_set Yw1.out 0 _) 1 _).trans rfl
    rw [← hW] at BK ⊢
    clear hW
    have g0 : W.cell? ⟨br,0,none⟩ = some (.int .i64 life) := (blk_cell BW 0).trans rfl
    have g1 : W.cell? ⟨br,1,none⟩ = some (.slice A M.length c) := (blk_cell BW 1).trans rfl
    exact bodyPost_ret (v := .tuple #[.agg #[.int .i64 life,.slice A M.length c],.int .i64 n]) (by simp [results,Try.results18,go_sem,g0,g1]) rfl BK
end Go.Proofs.Ytlpmblcdafdfdaa.PA
