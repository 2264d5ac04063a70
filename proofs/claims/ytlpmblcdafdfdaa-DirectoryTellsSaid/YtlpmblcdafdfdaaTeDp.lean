/- DirectoryTells walked. No condition. -/
import Derived.Test.YtlpmblcdafdfdaaTeGt
import Derived.Test.YtlpmblcdafdfdaaTeKd
namespace Go.Proofs.Ytlpmblcdafdfdaa.PA
open Go.RowKit Go.Proofs.YtlpmblcdafdfdaaW.PrintWords Go.Proofs.YtlpmblcdafdfdaaW.PrintLast Go.Proofs.YtlpmblcdafdfdaaW.PrintMore
set_option linter.unusedVariables false
set_option linter.unusedSimpArgs false
open Classical
theorem at46 {w : World} {A : Option Addr} {n : Nat} {xs : List S46} (h : Kd.C k46 w A n xs) (j : Nat) (hj : j < n) (c : S46) (hc : xs.getD j z46 = c) : ∃ ad,A = some ad ∧ w.cell? (ad.add (j * 17)) = some (.int .i64 c.f0) ∧ w.cell? ⟨(ad.add (j * 17)).block,(ad.add (j * 17)).off + 1,none⟩ = some (.string c.f1) ∧ w.cell? ⟨(ad.add (j * 17)).block,(ad.add (j * 17)).off + 2,none⟩ = some (.int .i64 c.f2) ∧ w.cell? ⟨(ad.add (j * 17)).block,(ad.add (j * 17)).off + 3,none⟩ = some (.int .i64 c.f3) ∧ w.cell? ⟨(ad.add (j * 17)).block,(ad.add (j * 17)).off + 4,none⟩ = some (.int .i64 c.f4) ∧ w.cell? ⟨(ad.add (j * 17)).block,(ad.add (j * 17)).off + 5,none⟩ = some (.int .i64 c.f5.f0) ∧ w.cell? ⟨(ad.add (j * 17)).block,(ad.add (j * 17)).off + 6,none⟩ = some (.int .i64 c.f5.f1) ∧ w.cell? ⟨(ad.add (j * 17)).block,(ad.add (j * 17)).off + 7,none⟩ = some (.int .i64 c.f5.f2) ∧ w.cell? ⟨(ad.add (j * 17)).block,(ad.add (j * 17)).off + 8,none⟩ = some (.int .i64 c.f5.f3) ∧ w.cell? ⟨(ad.add (j * 17)).block,(ad.add (j * 17)).off + 9,none⟩ = some (.int .i64 c.f5.f4) ∧ w.cell? ⟨(ad.add (j * 17)).block,(ad.add (j * 17)).off + 10,none⟩ = some (.int .i64 c.f5.f5) ∧ w.cell? ⟨(ad.add (j * 17)).block,(ad.add (j * 17)).off + 11,none⟩ = some (.int .u64 c.f5.f6) ∧ w.cell? ⟨(ad.add (j * 17)).block,(ad.add (j * 17)).off + 12,none⟩ = some (.int .i64 c.f5.f7) ∧ w.cell? ⟨(ad.add (j * 17)).block,(ad.add (j * 17)).off + 13,none⟩ = some (.string c.f5.f8) ∧ w.cell? ⟨(ad.add (j * 17)).block,(ad.add (j * 17)).off + 14,none⟩ = some (.int .i64 c.f5.f9) ∧ w.cell? ⟨(ad.add (j * 17)).block,(ad.add (j * 17)).off + 15,none⟩ = some (.int .i64 c.f5.f10) ∧ w.cell? ⟨(ad.add (j * 17)).block,(ad.add (j * 17)).off + 16,none⟩ = some (.string c.f5.f11) := by
  obtain ⟨ad,cs,e,_,hK,hc0⟩ := Kd.C_get h z46 (j : Int) (by omega) (by omega)
  rw [Int.toNat_natCast,hc] at hK
  rw [Int.toNat_natCast] at hc0
  obtain rfl := k46_open hK
  have hcc : ∀ i u,[Value.int .i64 c.f0,.string c.f1,.int .i64 c.f2,.int .i64 c.f3,.int .i64 c.f4,.int .i64 c.f5.f0,.int .i64 c.f5.f1,.int .i64 c.f5.f2,.int .i64 c.f5.f3,.int .i64 c.f5.f4,.int .i64 c.f5.f5,.int .u64 c.f5.f6,.int .i64 c.f5.f7,.string c.f5.f8,.int .i64 c.f5.f9,.int .i64 c.f5.f10,.string c.f5.f11][i]? = some u → w.cell? (ad.add (j * 17 + i)) = some u := hc0
  exact ⟨ad,e,hcc 0 _ rfl,by rw [← add_field _ _ 1 (by omega)];exact hcc 1 _ rfl,by rw [← add_field _ _ 2 (by omega)];exact hcc 2 _ rfl,by rw [← add_field _ _ 3 (by omega)];exact hcc 3 _ rfl,by rw [← add_field _ _ 4 (by omega)];exact hcc 4 _ rfl,by rw [← add_field _ _ 5 (by omega)];exact hcc 5 _ rfl,by rw [← add_field _ _ 6 (by omega)];exact hcc 6 _ rfl,by rw [← add_field _ _ 7 (by omega)];exact hcc 7 _ rfl,by rw [← add_field _ _ 8 (by omega)];exact hcc 8 _ rfl,by rw [← add_field _ _ 9 (by omega)];exact hcc 9 _ rfl,by rw [← add_field _ _ 10 (by omega)];exact hcc 10 _ rfl,by rw [← add_field _ _ 11 (by omega)];exact hcc 11 _ rfl,by rw [← add_field _ _ 12 (by omega)];exact hcc 12 _ rfl,by rw [← add_field _ _ 13 (by omega)];exact hcc 13 _ rfl,by rw [← add_field _ _ 14 (by omega)];exact hcc 14 _ rfl,by rw [← add_field _ _ 15 (by omega)];exact hcc 15 _ rfl,by rw [← add_field _ _ 16 (by omega)];exact hcc 16 _ rfl⟩
def TellAt (w wr : World) (g b bl : Nat) (life : Int) (name : ByteArray) (L : List S57) (sm : Bool) (nm : ByteArray) (id at_ lf ago : Int) : Prop :=
  DirAt wr g b life L ∧ wr.heap[bl]? = some (.cells #[.string nm,.int .i64 id,.int .i64 at_,.int .i64 lf,.int .i64 ago] 66 (0,0)) ∧ Below w.heap.size w wr ∧ Known life name L sm id at_ ago
theorem TellAt.below {w wr w1 : World} {g b bl : Nat} {life : Int} {name : ByteArray} {L : List S57} {sm : Bool} {nm : ByteArray} {id at_ lf ago : Int} (h : TellAt w wr g b bl life name L sm nm id at_ lf ago) (hb : Below wr.heap.size wr w1) : TellAt w w1 g b bl life name L sm nm id at_ lf ago :=
  ⟨h.1.below hb,blk_below h.2.1 hb,below_then h.2.2.1 h.2.2.1.size hb,h.2.2.2⟩
theorem TellAt.turn {w wr w1 : World} {g b bl : Nat} {life : Int} {name : ByteArray} {L L' : List S57} {sm : Bool} {nm : ByteArray} {id at_ lf ago : Int} (h : TellAt w wr g b bl life name L sm nm id at_ lf ago) (hb : w.heap.size ≤ b) (hbl : bl ≠ b) (hd : DirAt w1 g b life L') (hg : wr.grownBy w1 (some b)) :
    wr.heap.size ≤ w1.heap.size ∧ w1.heap[bl]? = some (.cells #[.string nm,.int .i64 id,.int .i64 at_,.int .i64 lf,.int .i64 ago] 66 (0,0)) ∧ Below w.heap.size w w1 :=
  ⟨hg.size,blk_grown h.2.1 hg (fun e => hbl (Option.some.inj e)),pw_below_grown h.2.2.1 _ h.2.2.1.size hg (fun k e => by cases e;exact hb)⟩
theorem tell_set {w w7 : World} {g b bl : Nat} {life : Int} {name : ByteArray} {L : List S57} {nm nm' : ByteArray} {id at_ lf ago id' at' lf' ago' : Int} {sm : Bool} (hd : DirAt w7 g b life L) (hl : w7.heap[bl]? = some (.cells #[.string nm,.int .i64 id,.int .i64 at_,.int .i64 lf,.int .i64 ago] 66 (0,0))) (hb : Below w.heap.size w w7) (hne : bl ≠ g ∧ bl ≠ b) (hbl : w.heap.size ≤ bl) (hk : Known life name L sm id' at' ago') :
    TellAt w (((((w7.setCell ⟨bl,0,none⟩ (.string nm')).setCell ⟨bl,1,none⟩ (.int .i64 id')).setCell ⟨bl,2,none⟩ (.int .i64 at')).setCell ⟨bl,3,none⟩ (.int .i64 lf')).setCell ⟨bl,4,none⟩ (.int .i64 ago')) g b bl life name L sm nm' id' at' lf' ago' :=
  ⟨((((hd.far hne.1 hne.2 _).far hne.1 hne.2 _).far hne.1 hne.2 _).far hne.1 hne.2 _).far hne.1 hne.2 _,(blk_set (blk_set (blk_set (blk_set (blk_set hl 0 _) 1 _) 2 _) 3 _) 4 _).trans rfl,((((hb.setCell hbl _).setCell hbl _).setCell hbl _).setCell hbl _).setCell hbl _,hk⟩
theorem tell_ago {w w7 : World} {g b bl : Nat} {life : Int} {name : ByteArray} {L : List S57} {nm : ByteArray} {id at_ lf ago ago' : Int} {sm : Bool} (hd : DirAt w7 g b life L) (hl : w7.heap[bl]? = some (.cells #[.string nm,.int .i64 id,.int .i64 at_,.int .i64 lf,.int .i64 ago] 66 (0,0))) (hb : Below w.heap.size w w7) (hne : bl ≠ g ∧ bl ≠ b) (hbl : w.heap.size ≤ bl) (hk : Known life name L sm id at_ ago') :
    TellAt w (w7.setCell ⟨bl,4,none⟩ (.int .i64 ago')) g b bl life name L sm nm id at_ lf ago' := ⟨hd.far hne.1 hne.2 _,(blk_set hl 4 _).trans rfl,hb.setCell hbl _,hk⟩
def beaconlaw20_DirectoryTells.f (life : Int) (l : List S46) (name : ByteArray) : Option Bool := some true
set_option maxHeartbeats 8000000 in
set_option maxRecDepth 1000000 in
theorem beaconlaw20_DirectoryTells.calls (life : Int) (A : Option Addr) (c0 : Nat) (l : List S46) (name : ByteArray) (r : Bool) (w : World) (hr : Kd.C k46 w A l.length l) (hc : l.length ≤ c0) (h : beaconlaw20_DirectoryTells.f life l name = some r) :
    Calls Try.prog 5 #[.int .i64 life,.slice A l.length c0,.string name] w fun e w' => e = .returned (.bool r) ∧ Below w.heap.size w w' := by
  obtain rfl : true = r := Option.some.inj h
  clear h
  have hu57 := Try.underlying57
  have hu66 := Try.underlying66
  have hu46 := Try.underlying46
  have hu30 := Try.underlying30
  have hu36 := Try.underlying36
  have HR := Aside0.mk hr
  have hmax := Kd.C_max hr
  clear hr
  by_cases hlife : 1 ≤ life ∧ life ≤ 1048576
  · obtain ⟨hl1,hl2⟩ := hlife
    go_enter Try.func5,Try.ntmps5
    go_wp2_with (go_at_call 16;refine (new_yes life _ hl1 hl2).mono ?_;rintro e w1 ⟨g,b,rfl,hg,hb,hd,hbl⟩;have HB1 := Aside0.mk hbl;have HD1 := Aside0.mk (show DirAt w1 g b life [] from hd);have GB := Aside0.mk (And.intro hg hb);clear hg hb hd hbl)
    obtain ⟨w2,hw2⟩ : ∃ w2,w2 = w1.alloc (Obj.cells #[.string ⟨#[]⟩,.int .i64 0,.int .i64 0,.int .i64 0,.int .i64 0] 66) := ⟨_,rfl⟩
    obtain ⟨bl,hbl⟩ : ∃ bl,bl = w1.heap.size := ⟨_,rfl⟩
    have GL := Aside0.mk (And.intro (show bl ≠ g by have := blk_lt HD1.out.1;omega) (show bl ≠ b by have := HD1.out.2.lt;omega))
    have LB : Aside0 (w.heap.size ≤ bl) := ⟨by have := HB1.out.size;omega⟩
    have T2 : Aside0 (TellAt w w2 g b bl life name [] false ⟨#[]⟩ 0 0 0 0) := ⟨by rw [hw2];exact HD1.out.below (below_alloc (Below.refl _ _) _),by rw [hw2,hbl];exact blk_new w1 _,by rw [hw2];exact below_alloc HB1.out _,Known.start⟩
    rw [← hw2,← hbl]
    clear hw2 hbl
    go_loopg [10,11] l.length (fun kq vs vi wr => ∃ (j : Nat) (L : List S57) (sm : Bool) (nm : ByteArray) (id at_ lf ago : Int),vs = .bool sm ∧ vi = .int .i64 (j : Int) ∧ j + kq = l.length ∧ Aside0 (TellAt w wr g b bl life name L sm nm id at_ lf ago))
    case atStart => exact ⟨0,[],false,⟨#[]⟩,0,0,0,0,rfl,rfl,by simp,T2⟩
    case round =>
      as_aux_lemma =>
        obtain ⟨j,L,sm,nm,id,at_,lf,ago,rfl,rfl,hj,HT⟩ := hrel
        by_cases hjl : j < l.length
        · have hjz : (j : Int) < (l.length : Int) := by omega
          obtain ⟨c,hcc⟩ : ∃ c,l.getD j z46 = c := ⟨_,rfl⟩
          obtain ⟨ad,e0,x0,x1,x2,x3,x4,x5,x6,x7,x8,x9,x10,x11,x12,x13,x14,x15,x16⟩ := at46 HR.out j hjl c hcc
          subst e0
          replace x0 := (HT.out.2.2.1.cell (World.block_lt_of_cell? w _ x0)).trans x0
          replace x1 := (HT.out.2.2.1.cell (World.block_lt_of_cell? w _ x1)).trans x1
          replace x2 := (HT.out.2.2.1.cell (World.block_lt_of_cell? w _ x2)).trans x2
          replace x3 := (HT.out.2.2.1.cell (World.block_lt_of_cell? w _ x3)).trans x3
          replace x4 := (HT.out.2.2.1.cell (World.block_lt_of_cell? w _ x4)).trans x4
          replace x5 := (HT.out.2.2.1.cell (World.block_lt_of_cell? w _ x5)).trans x5
          replace x6 := (HT.out.2.2.1.cell (World.block_lt_of_cell? w _ x6)).trans x6
          replace x7 := (HT.out.2.2.1.cell (World.block_lt_of_cell? w _ x7)).trans x7
          replace x8 := (HT.out.2.2.1.cell (World.block_lt_of_cell? w _ x8)).trans x8
          replace x9 := (HT.out.2.2.1.cell (World.block_lt_of_cell? w _ x9)).trans x9
          replace x10 := (HT.out.2.2.1.cell (World.block_lt_of_cell? w _ x10)).trans x10
          replace x11 := (HT.out.2.2.1.cell (World.block_lt_of_cell? w _ x11)).trans x11
          replace x12 := (HT.out.2.2.1.cell (World.block_lt_of_cell? w _ x12)).trans x12
          replace x13 := (HT.out.2.2.1.cell (World.block_lt_of_cell? w _ x13)).trans x13
          replace x14 := (HT.out.2.2.1.cell (World.block_lt_of_cell? w _ x14)).trans x14
          replace x15 := (HT.out.2.2.1.cell (World.block_lt_of_cell? w _ x15)).trans x15
          replace x16 := (HT.out.2.2.1.cell (World.block_lt_of_cell? w _ x16)).trans x16
          obtain ⟨w6,hw6⟩ : ∃ w6,w6 = wr.alloc (.cells #[.int .i64 c.f0,.string c.f1,.int .i64 c.f2,.int .i64 c.f3,.int .i64 c.f4,.int .i64 c.f5.f0,.int .i64 c.f5.f1,.int .i64 c.f5.f2,.int .i64 c.f5.f3,.int .i64 c.f5.f4,.int .i64 c.f5.f5,.int .u64 c.f5.f6,.int .i64 c.f5.f7,.string c.f5.f8,.int .i64 c.f5.f9,.int .i64 c.f5.f10,.string c.f5.f11] 46) := ⟨_,rfl⟩
          obtain ⟨bc,hbc⟩ : ∃ bc,bc = wr.heap.size := ⟨_,rfl⟩
          have W6 := Aside0.mk (And.intro hw6 hbc)
          have T6 : Aside0 (TellAt w w6 g b bl life name L sm nm id at_ lf ago) := ⟨by rw [hw6];exact HT.out.below (below_alloc (Below.refl _ _) _)⟩
          have C6 : Aside0 (w6.heap[bc]? = some (.cells #[.int .i64 c.f0,.string c.f1,.int .i64 c.f2,.int .i64 c.f3,.int .i64 c.f4,.int .i64 c.f5.f0,.int .i64 c.f5.f1,.int .i64 c.f5.f2,.int .i64 c.f5.f3,.int .i64 c.f5.f4,.int .i64 c.f5.f5,.int .u64 c.f5.f6,.int .i64 c.f5.f7,.string c.f5.f8,.int .i64 c.f5.f9,.int .i64 c.f5.f10,.string c.f5.f11] 46 (0,0))) := ⟨by rw [hw6,hbc];exact blk_new wr _⟩
          clear hw6 hbc hcc
          go_upto_region 10 with fail
          rw [← W6.out.1,← W6.out.2]
          clear x0 x1 x2 x3 x4 x5 x6 x7 x8 x9 x10 x11 x12 x13 x14 x15 x16
          have c0_w6 : w6.cell? ⟨bc,0,none⟩ = some (.int .i64 c.f0) := (blk_cell C6.out 0).trans rfl
          have c1_w6 : w6.cell? ⟨bc,1,none⟩ = some (.string c.f1) := (blk_cell C6.out 1).trans rfl
          have c2_w6 : w6.cell? ⟨bc,2,none⟩ = some (.int .i64 c.f2) := (blk_cell C6.out 2).trans rfl
          have c3_w6 : w6.cell? ⟨bc,3,none⟩ = some (.int .i64 c.f3) := (blk_cell C6.out 3).trans rfl
          have c4_w6 : w6.cell? ⟨bc,4,none⟩ = some (.int .i64 c.f4) := (blk_cell C6.out 4).trans rfl
          have c5_w6 : w6.cell? ⟨bc,5,none⟩ = some (.int .i64 c.f5.f0) := (blk_cell C6.out 5).trans rfl
          have c6_w6 : w6.cell? ⟨bc,6,none⟩ = some (.int .i64 c.f5.f1) := (blk_cell C6.out 6).trans rfl
          have c7_w6 : w6.cell? ⟨bc,7,none⟩ = some (.int .i64 c.f5.f2) := (blk_cell C6.out 7).trans rfl
          have c8_w6 : w6.cell? ⟨bc,8,none⟩ = some (.int .i64 c.f5.f3) := (blk_cell C6.out 8).trans rfl
          have c9_w6 : w6.cell? ⟨bc,9,none⟩ = some (.int .i64 c.f5.f4) := (blk_cell C6.out 9).trans rfl
          have c10_w6 : w6.cell? ⟨bc,10,none⟩ = some (.int .i64 c.f5.f5) := (blk_cell C6.out 10).trans rfl
          have c11_w6 : w6.cell? ⟨bc,11,none⟩ = some (.int .u64 c.f5.f6) := (blk_cell C6.out 11).trans rfl
          have c12_w6 : w6.cell? ⟨bc,12,none⟩ = some (.int .i64 c.f5.f7) := (blk_cell C6.out 12).trans rfl
          have c13_w6 : w6.cell? ⟨bc,13,none⟩ = some (.string c.f5.f8) := (blk_cell C6.out 13).trans rfl
          have c14_w6 : w6.cell? ⟨bc,14,none⟩ = some (.int .i64 c.f5.f9) := (blk_cell C6.out 14).trans rfl
          have c15_w6 : w6.cell? ⟨bc,15,none⟩ = some (.int .i64 c.f5.f10) := (blk_cell C6.out 15).trans rfl
          have c16_w6 : w6.cell? ⟨bc,16,none⟩ = some (.string c.f5.f11) := (blk_cell C6.out 16).trans rfl
          have ltc_w6 := blk_lt C6.out
          go_upto_block 2 with fail
          go_cut [10] (fun s10 wx => ∃ (L : List S57) (sm : Bool) (nm : ByteArray) (id at_ lf ago : Int),s10 = .bool sm ∧ Aside0 (TellAt w wx g b bl life name L sm nm id at_ lf ago))
          case first =>
            as_aux_lemma =>
              have LAST6 : Aside0 (w6.heap[bl]? = some (.cells #[.string nm,.int .i64 id,.int .i64 at_,.int .i64 lf,.int .i64 ago] 66 (0,0))) := ⟨T6.out.2.1⟩
              have BCB : Aside0 (bc ≠ b) := ⟨fun e => by obtain ⟨es,clock,h9,_⟩ := T6.out.1.2;have h8 := C6.out;rw [e,h9] at h8;cases h8⟩
              by_cases h0 : c.f0 = 0
              · have k0 : (c.f0 == 0) = true := by simp [h0]
                clear h0
                obtain ⟨n,hn⟩ : ∃ n,putE L c.f1 c.f2 c.f3 = n := ⟨_,rfl⟩
                have PN := Aside0.mk hn
                clear hn
                have CALL : Aside0 (Calls Try.prog 19 #[.pointer (some ⟨g,0,none⟩),.string c.f1,.int .i64 c.f2,.int .i64 c.f3] w6 fun e w' => e = .returned (.int .i64 n) ∧ DirAt w' g b life (putL life L c.f1 c.f2 c.f3) ∧ w6.grownBy w' (some b)) := ⟨(put_live T6.out.1 c.f1 c.f2 c.f3).mono fun e w' h => ⟨by rw [← PN.out];exact h.1,h.2⟩⟩
                by_cases hit : n = 0 ∧ c.f1 = name
                · obtain ⟨hn0,hnm⟩ := hit
                  subst hn0
                  subst hnm
                  go_wp2_with (go_at_call 19;refine CALL.out.mono ?_;rintro e w7 ⟨rfl,hd,hg⟩;have TN7 := Aside0.mk (T6.out.turn GB.out.2 GL.out.2 hd hg);have D7 := Aside0.mk hd;have hgc := hg;clear hd hg;have C7 := Aside0.mk (blk_grown C6.out hgc (fun e => BCB.out (Option.some.inj e)));have c1_w7 : w7.cell? ⟨bc,1,none⟩ = some (.string c.f1) := (blk_cell C7.out 1).trans rfl;have c2_w7 : w7.cell? ⟨bc,2,none⟩ = some (.int .i64 c.f2) := (blk_cell C7.out 2).trans rfl;have c3_w7 : w7.cell? ⟨bc,3,none⟩ = some (.int .i64 c.f3) := (blk_cell C7.out 3).trans rfl;have ltc_w7 := blk_lt C7.out;clear hgc;have LA7 := Aside0.mk TN7.out.2.1;have l0_w7 : w7.cell? ⟨bl,0,none⟩ = some (.string nm) := (blk_cell LA7.out 0).trans rfl;have l1_w7 : w7.cell? ⟨bl,1,none⟩ = some (.int .i64 id) := (blk_cell LA7.out 1).trans rfl;have l2_w7 : w7.cell? ⟨bl,2,none⟩ = some (.int .i64 at_) := (blk_cell LA7.out 2).trans rfl;have l3_w7 : w7.cell? ⟨bl,3,none⟩ = some (.int .i64 lf) := (blk_cell LA7.out 3).trans rfl;have l4_w7 : w7.cell? ⟨bl,4,none⟩ = some (.int .i64 ago) := (blk_cell LA7.out 4).trans rfl;have ltl_w7 := blk_lt LA7.out;have zl0_w7 := blk_frozen LA7.out 0;have zl1_w7 := blk_frozen LA7.out 1;have zl2_w7 := blk_frozen LA7.out 2;have zl3_w7 := blk_frozen LA7.out 3;have zl4_w7 := blk_frozen LA7.out 4)
                  go_meet
                  exact ⟨putL life L c.f1 c.f2 c.f3,true,c.f1,c.f2,c.f3,0,0,rfl,⟨tell_set D7.out TN7.out.2.1 TN7.out.2.2 GL.out LB.out (T6.out.2.2.2.put hl1 PN.out)⟩⟩
                · have hkn := T6.out.2.2.2.other hl1 (s := c.f1) (id' := c.f2) (at' := c.f3) (by rw [PN.out];exact hit)
                  have KN := Aside0.mk hkn
                  clear hkn
                  by_cases hn0 : n = 0
                  · have hne : (c.f1.toList == name.toList) = false := by
                      rw [beq_eq_false_iff_ne]
                      exact fun e => hit ⟨hn0,toList_inj e⟩
                    subst hn0
                    clear hit
                    go_wp2_with (go_at_call 19;refine CALL.out.mono ?_;rintro e w7 ⟨rfl,hd,hg⟩;have TN7 := Aside0.mk (T6.out.turn GB.out.2 GL.out.2 hd hg);have D7 := Aside0.mk hd;have hgc := hg;clear hd hg;have C7 := Aside0.mk (blk_grown C6.out hgc (fun e => BCB.out (Option.some.inj e)));have c1_w7 : w7.cell? ⟨bc,1,none⟩ = some (.string c.f1) := (blk_cell C7.out 1).trans rfl;have c2_w7 : w7.cell? ⟨bc,2,none⟩ = some (.int .i64 c.f2) := (blk_cell C7.out 2).trans rfl;have c3_w7 : w7.cell? ⟨bc,3,none⟩ = some (.int .i64 c.f3) := (blk_cell C7.out 3).trans rfl;have ltc_w7 := blk_lt C7.out;clear hgc)
                    go_meet
                    exact ⟨_,sm,nm,id,at_,lf,ago,rfl,⟨D7.out,TN7.out.2.1,TN7.out.2.2,KN.out⟩⟩
                  · have hnb : (n == 0) = false := by simpa using hn0
                    clear hit hn0
                    go_wp2_with (go_at_call 19;refine CALL.out.mono ?_;rintro e w7 ⟨rfl,hd,hg⟩;have TN7 := Aside0.mk (T6.out.turn GB.out.2 GL.out.2 hd hg);have D7 := Aside0.mk hd;have hgc := hg;clear hd hg;have C7 := Aside0.mk (blk_grown C6.out hgc (fun e => BCB.out (Option.some.inj e)));have c1_w7 : w7.cell? ⟨bc,1,none⟩ = some (.string c.f1) := (blk_cell C7.out 1).trans rfl;have c2_w7 : w7.cell? ⟨bc,2,none⟩ = some (.int .i64 c.f2) := (blk_cell C7.out 2).trans rfl;have c3_w7 : w7.cell? ⟨bc,3,none⟩ = some (.int .i64 c.f3) := (blk_cell C7.out 3).trans rfl;have ltc_w7 := blk_lt C7.out;clear hgc)
                    go_meet
                    exact ⟨_,sm,nm,id,at_,lf,ago,rfl,⟨D7.out,TN7.out.2.1,TN7.out.2.2,KN.out⟩⟩
              · have k0 : (c.f0 == 0) = false := by simpa using h0
                clear h0
                by_cases h1 : c.f0 = 1
                · have k1 : (c.f0 == 1) = true := by simp [h1]
                  clear h1
                  have CALL : Aside0 (Calls Try.prog 21 #[.pointer (some ⟨g,0,none⟩)] w6 fun e w' => TickOut w6 g b life L e w') := ⟨tick_live T6.out.1 (T6.out.2.2.2.1.kept hl2)⟩
                  have hag := T6.out.2.2.2.2.2
                  obtain ⟨hag1,hag2⟩ := hag
                  by_cases hlt : ago < 4611686018427387904
                  · have KN := Aside0.mk (T6.out.2.2.2.tick hl2 T6.out.1.nodup (ag := ago + 1) (by rw [if_pos hlt]))
                    go_wp2_with (go_at_call 21;refine CALL.out.mono ?_;rintro e w7 ⟨rfl,hd,hg⟩;have TN7 := Aside0.mk (T6.out.turn GB.out.2 GL.out.2 hd hg);have D7 := Aside0.mk hd;clear hd hg;have LA7 := Aside0.mk TN7.out.2.1;have l0_w7 : w7.cell? ⟨bl,0,none⟩ = some (.string nm) := (blk_cell LA7.out 0).trans rfl;have l1_w7 : w7.cell? ⟨bl,1,none⟩ = some (.int .i64 id) := (blk_cell LA7.out 1).trans rfl;have l2_w7 : w7.cell? ⟨bl,2,none⟩ = some (.int .i64 at_) := (blk_cell LA7.out 2).trans rfl;have l3_w7 : w7.cell? ⟨bl,3,none⟩ = some (.int .i64 lf) := (blk_cell LA7.out 3).trans rfl;have l4_w7 : w7.cell? ⟨bl,4,none⟩ = some (.int .i64 ago) := (blk_cell LA7.out 4).trans rfl;have ltl_w7 := blk_lt LA7.out;have zl0_w7 := blk_frozen LA7.out 0;have zl1_w7 := blk_frozen LA7.out 1;have zl2_w7 := blk_frozen LA7.out 2;have zl3_w7 := blk_frozen LA7.out 3;have zl4_w7 := blk_frozen LA7.out 4)
                    go_meet
                    exact ⟨_,sm,nm,id,at_,lf,ago + 1,rfl,⟨tell_ago D7.out TN7.out.2.1 TN7.out.2.2 GL.out LB.out KN.out⟩⟩
                  · have KN := Aside0.mk (T6.out.2.2.2.tick hl2 T6.out.1.nodup (ag := ago) (by rw [if_neg hlt]))
                    go_wp2_with (go_at_call 21;refine CALL.out.mono ?_;rintro e w7 ⟨rfl,hd,hg⟩;have TN7 := Aside0.mk (T6.out.turn GB.out.2 GL.out.2 hd hg);have D7 := Aside0.mk hd;clear hd hg;have LA7 := Aside0.mk TN7.out.2.1;have l0_w7 : w7.cell? ⟨bl,0,none⟩ = some (.string nm) := (blk_cell LA7.out 0).trans rfl;have l1_w7 : w7.cell? ⟨bl,1,none⟩ = some (.int .i64 id) := (blk_cell LA7.out 1).trans rfl;have l2_w7 : w7.cell? ⟨bl,2,none⟩ = some (.int .i64 at_) := (blk_cell LA7.out 2).trans rfl;have l3_w7 : w7.cell? ⟨bl,3,none⟩ = some (.int .i64 lf) := (blk_cell LA7.out 3).trans rfl;have l4_w7 : w7.cell? ⟨bl,4,none⟩ = some (.int .i64 ago) := (blk_cell LA7.out 4).trans rfl;have ltl_w7 := blk_lt LA7.out;have zl0_w7 := blk_frozen LA7.out 0;have zl1_w7 := blk_frozen LA7.out 1;have zl2_w7 := blk_frozen LA7.out 2;have zl3_w7 := blk_frozen LA7.out 3;have zl4_w7 := blk_frozen LA7.out 4)
                    go_meet
                    exact ⟨_,sm,nm,id,at_,lf,ago,rfl,⟨D7.out,TN7.out.2.1,TN7.out.2.2,KN.out⟩⟩
                · have k1 : (c.f0 == 1) = false := by simpa using h1
                  clear h1
                  by_cases h2 : c.f0 = 2
                  · have k2 : (c.f0 == 2) = true := by simp [h2]
                    clear h2
                    obtain ⟨n,hn⟩ : ∃ n,serveE L c.f2 c.f3 c.f4 c.f5 = n := ⟨_,rfl⟩
                    obtain ⟨q,hq⟩ : ∃ q,serveP L c.f2 c.f3 c.f4 c.f5 = q := ⟨_,rfl⟩
                    obtain ⟨tt,htt⟩ : ∃ tt,serveT c.f2 c.f3 c.f4 c.f5 = tt := ⟨_,rfl⟩
                    have PN := Aside0.mk hn
                    have CALL : Aside0 (Calls Try.prog 22 #[.pointer (some ⟨g,0,none⟩),.int .i64 c.f2,.int .i64 c.f3,.int .i64 c.f4,.agg #[.int .i64 c.f5.f0,.int .i64 c.f5.f1,.int .i64 c.f5.f2,.int .i64 c.f5.f3,.int .i64 c.f5.f4,.int .i64 c.f5.f5,.int .u64 c.f5.f6,.int .i64 c.f5.f7,.string c.f5.f8,.int .i64 c.f5.f9,.int .i64 c.f5.f10,.string c.f5.f11]] w6 fun e w' => e = .returned (.tuple #[pkV q,.bool tt,.int .i64 n]) ∧ DirAt w' g b life (serveL life L c.f2 c.f3 c.f4 c.f5) ∧ w6.grownBy w' (some b)) := ⟨(serve_live T6.out.1 c.f2 c.f3 c.f4 c.f5).mono fun e w' h => ⟨by rw [← hn,← hq,← htt];exact h.1,h.2⟩⟩
                    clear hn hq htt
                    by_cases hit : n = 0 ∧ c.f5.f0 = 2 ∧ c.f5.f8 = name
                    · obtain ⟨hn0,hk2,hnm⟩ := hit
                      subst hn0
                      have KN := Aside0.mk (T6.out.2.2.2.served hl1 PN.out hk2 hnm)
                      have q2 : (c.f5.f0 == 2) = true := by simp [hk2]
                      have qn : (c.f5.f8.toList == name.toList) = true := by simp [hnm]
                      clear hk2 hnm
                      go_wp2_with (go_at_call 22;refine CALL.out.mono ?_;rintro e w7 ⟨rfl,hd,hg⟩;simp only [pkV];have TN7 := Aside0.mk (T6.out.turn GB.out.2 GL.out.2 hd hg);have D7 := Aside0.mk hd;have hgc := hg;clear hd hg;have C7 := Aside0.mk (blk_grown C6.out hgc (fun e => BCB.out (Option.some.inj e)));have c5_w7 : w7.cell? ⟨bc,5,none⟩ = some (.int .i64 c.f5.f0) := (blk_cell C7.out 5).trans rfl;have c13_w7 : w7.cell? ⟨bc,13,none⟩ = some (.string c.f5.f8) := (blk_cell C7.out 13).trans rfl;have c14_w7 : w7.cell? ⟨bc,14,none⟩ = some (.int .i64 c.f5.f9) := (blk_cell C7.out 14).trans rfl;have c15_w7 : w7.cell? ⟨bc,15,none⟩ = some (.int .i64 c.f5.f10) := (blk_cell C7.out 15).trans rfl;have ltc_w7 := blk_lt C7.out;clear hgc;have LA7 := Aside0.mk TN7.out.2.1;have l0_w7 : w7.cell? ⟨bl,0,none⟩ = some (.string nm) := (blk_cell LA7.out 0).trans rfl;have l1_w7 : w7.cell? ⟨bl,1,none⟩ = some (.int .i64 id) := (blk_cell LA7.out 1).trans rfl;have l2_w7 : w7.cell? ⟨bl,2,none⟩ = some (.int .i64 at_) := (blk_cell LA7.out 2).trans rfl;have l3_w7 : w7.cell? ⟨bl,3,none⟩ = some (.int .i64 lf) := (blk_cell LA7.out 3).trans rfl;have l4_w7 : w7.cell? ⟨bl,4,none⟩ = some (.int .i64 ago) := (blk_cell LA7.out 4).trans rfl;have ltl_w7 := blk_lt LA7.out;have zl0_w7 := blk_frozen LA7.out 0;have zl1_w7 := blk_frozen LA7.out 1;have zl2_w7 := blk_frozen LA7.out 2;have zl3_w7 := blk_frozen LA7.out 3;have zl4_w7 := blk_frozen LA7.out 4)
                      go_meet
                      exact ⟨_,true,name,c.f5.f9,c.f5.f10,0,0,rfl,⟨(tell_set D7.out TN7.out.2.1 TN7.out.2.2 GL.out LB.out KN.out).below (below_alloc (Below.refl _ _) _)⟩⟩
                    · have hkn := T6.out.2.2.2.unserved hl1 (self := c.f2) (home := c.f3) (hops := c.f4) (p := c.f5) (by rw [PN.out];exact hit)
                      have KN := Aside0.mk hkn
                      clear hkn
                      by_cases hn0 : n = 0
                      · subst hn0
                        by_cases hk2 : c.f5.f0 = 2
                        · have q2 : (c.f5.f0 == 2) = true := by simp [hk2]
                          have qn : (c.f5.f8.toList == name.toList) = false := by
                            rw [beq_eq_false_iff_ne]
                            exact fun e => hit ⟨rfl,hk2,toList_inj e⟩
                          clear hit hk2
                          go_wp2_with (go_at_call 22;refine CALL.out.mono ?_;rintro e w7 ⟨rfl,hd,hg⟩;simp only [pkV];have TN7 := Aside0.mk (T6.out.turn GB.out.2 GL.out.2 hd hg);have D7 := Aside0.mk hd;have hgc := hg;clear hd hg;have C7 := Aside0.mk (blk_grown C6.out hgc (fun e => BCB.out (Option.some.inj e)));have c5_w7 : w7.cell? ⟨bc,5,none⟩ = some (.int .i64 c.f5.f0) := (blk_cell C7.out 5).trans rfl;have c13_w7 : w7.cell? ⟨bc,13,none⟩ = some (.string c.f5.f8) := (blk_cell C7.out 13).trans rfl;have c14_w7 : w7.cell? ⟨bc,14,none⟩ = some (.int .i64 c.f5.f9) := (blk_cell C7.out 14).trans rfl;have c15_w7 : w7.cell? ⟨bc,15,none⟩ = some (.int .i64 c.f5.f10) := (blk_cell C7.out 15).trans rfl;have ltc_w7 := blk_lt C7.out;clear hgc)
                          go_meet
                          exact ⟨_,sm,nm,id,at_,lf,ago,rfl,⟨D7.out.below (below_alloc (Below.refl _ _) _),blk_alloc TN7.out.2.1 _,below_alloc TN7.out.2.2 _,KN.out⟩⟩
                        · have q2 : (c.f5.f0 == 2) = false := by simpa using hk2
                          clear hit hk2
                          go_wp2_with (go_at_call 22;refine CALL.out.mono ?_;rintro e w7 ⟨rfl,hd,hg⟩;simp only [pkV];have TN7 := Aside0.mk (T6.out.turn GB.out.2 GL.out.2 hd hg);have D7 := Aside0.mk hd;have hgc := hg;clear hd hg;have C7 := Aside0.mk (blk_grown C6.out hgc (fun e => BCB.out (Option.some.inj e)));have c5_w7 : w7.cell? ⟨bc,5,none⟩ = some (.int .i64 c.f5.f0) := (blk_cell C7.out 5).trans rfl;have c13_w7 : w7.cell? ⟨bc,13,none⟩ = some (.string c.f5.f8) := (blk_cell C7.out 13).trans rfl;have c14_w7 : w7.cell? ⟨bc,14,none⟩ = some (.int .i64 c.f5.f9) := (blk_cell C7.out 14).trans rfl;have c15_w7 : w7.cell? ⟨bc,15,none⟩ = some (.int .i64 c.f5.f10) := (blk_cell C7.out 15).trans rfl;have ltc_w7 := blk_lt C7.out;clear hgc)
                          go_meet
                          exact ⟨_,sm,nm,id,at_,lf,ago,rfl,⟨D7.out.below (below_alloc (Below.refl _ _) _),blk_alloc TN7.out.2.1 _,below_alloc TN7.out.2.2 _,KN.out⟩⟩
                      · have hnb : (n == 0) = false := by simpa using hn0
                        clear hit hn0
                        go_wp2_with (go_at_call 22;refine CALL.out.mono ?_;rintro e w7 ⟨rfl,hd,hg⟩;simp only [pkV];have TN7 := Aside0.mk (T6.out.turn GB.out.2 GL.out.2 hd hg);have D7 := Aside0.mk hd;have hgc := hg;clear hd hg;have C7 := Aside0.mk (blk_grown C6.out hgc (fun e => BCB.out (Option.some.inj e)));have c5_w7 : w7.cell? ⟨bc,5,none⟩ = some (.int .i64 c.f5.f0) := (blk_cell C7.out 5).trans rfl;have c13_w7 : w7.cell? ⟨bc,13,none⟩ = some (.string c.f5.f8) := (blk_cell C7.out 13).trans rfl;have c14_w7 : w7.cell? ⟨bc,14,none⟩ = some (.int .i64 c.f5.f9) := (blk_cell C7.out 14).trans rfl;have c15_w7 : w7.cell? ⟨bc,15,none⟩ = some (.int .i64 c.f5.f10) := (blk_cell C7.out 15).trans rfl;have ltc_w7 := blk_lt C7.out;clear hgc)
                        go_meet
                        exact ⟨_,sm,nm,id,at_,lf,ago,rfl,⟨D7.out.below (below_alloc (Below.refl _ _) _),blk_alloc TN7.out.2.1 _,below_alloc TN7.out.2.2 _,KN.out⟩⟩
                  · have k2 : (c.f0 == 2) = false := by simpa using h2
                    clear h2
                    by_cases h3 : c.f0 = 3
                    · have k3 : (c.f0 == 3) = true := by simp [h3]
                      clear h3
                      go_wp2_with (go_at_call 24;refine (drop_live T6.out.1).mono ?_;rintro e w7 ⟨rfl,hd,hg⟩;have TN7 := Aside0.mk (T6.out.turn GB.out.2 GL.out.2 hd hg);have D7 := Aside0.mk hd;clear hd hg)
                      go_meet
                      exact ⟨[],false,nm,id,at_,lf,ago,rfl,⟨D7.out,TN7.out.2.1,TN7.out.2.2,T6.out.2.2.2.drop⟩⟩
                    · have k3 : (c.f0 == 3) = false := by simpa using h3
                      clear h3
                      go_wp2_with fail
                      go_meet
                      exact ⟨L,sm,nm,id,at_,lf,ago,rfl,T6⟩
          case rest =>
            as_aux_lemma =>
              clear c0_w6 c1_w6 c2_w6 c3_w6 c4_w6 c5_w6 c6_w6 c7_w6 c8_w6 c9_w6 c10_w6 c11_w6 c12_w6 c13_w6 c14_w6 c15_w6 c16_w6 ltc_w6
              clear T6 C6
              obtain ⟨L,sm,nm,id,at_,lf,ago,rfl,HU⟩ := hcut
              obtain ⟨hag1,hag2⟩ := HU.out.2.2.2.2.2
              by_cases hs : sm = true ∧ ago < life
              · obtain ⟨hs1,hs2⟩ := hs
                subst hs1
                have hg : adGet name L = some ⟨name,id,at_,life - ago⟩ := by rw [HU.out.2.2.2.2.1,if_pos ⟨rfl,hs2⟩]
                have GT := Aside0.mk hg
                clear hg
                go_wp2_with (go_at_call 25;refine (get_dir HU.out.1 name).mono ?_;rintro e w8 ⟨rfl,hb⟩;rw [GT.out];simp only [adOr,adV,Option.getD_some,Option.isSome_some];have T8 := Aside0.mk (HU.out.below hb);clear hb;have LA8 := Aside0.mk T8.out.2.1;have l1_w8 : w8.cell? ⟨bl,1,none⟩ = some (.int .i64 id) := (blk_cell LA8.out 1).trans rfl;have l2_w8 : w8.cell? ⟨bl,2,none⟩ = some (.int .i64 at_) := (blk_cell LA8.out 2).trans rfl;have l4_w8 : w8.cell? ⟨bl,4,none⟩ = some (.int .i64 ago) := (blk_cell LA8.out 4).trans rfl;have ltl_w8 := blk_lt LA8.out)
                go_roundg (gk - 1)
                case measure => omega
                case rel => exact ⟨j + 1,L,true,nm,id,at_,lf,ago,rfl,by go_num,by omega,⟨T8.out.below (below_alloc (Below.refl _ _) _)⟩⟩
              · have hg : adGet name L = none := by rw [HU.out.2.2.2.2.1,if_neg hs]
                have GT := Aside0.mk hg
                clear hg
                cases sm
                · clear hs
                  go_wp2_with (go_at_call 25;refine (get_dir HU.out.1 name).mono ?_;rintro e w8 ⟨rfl,hb⟩;rw [GT.out];simp only [adOr,adV,Option.getD_none,Option.isSome_none,z57];have T8 := Aside0.mk (HU.out.below hb);clear hb;have LA8 := Aside0.mk T8.out.2.1;have l1_w8 : w8.cell? ⟨bl,1,none⟩ = some (.int .i64 id) := (blk_cell LA8.out 1).trans rfl;have l2_w8 : w8.cell? ⟨bl,2,none⟩ = some (.int .i64 at_) := (blk_cell LA8.out 2).trans rfl;have l4_w8 : w8.cell? ⟨bl,4,none⟩ = some (.int .i64 ago) := (blk_cell LA8.out 4).trans rfl;have ltl_w8 := blk_lt LA8.out)
                  go_roundg (gk - 1)
                  case measure => omega
                  case rel => exact ⟨j + 1,L,false,nm,id,at_,lf,ago,rfl,by go_num,by omega,⟨T8.out.below (below_alloc (Below.refl _ _) _)⟩⟩
                · have hs2 : ¬ ago < life := fun h => hs ⟨rfl,h⟩
                  clear hs
                  go_wp2_with (go_at_call 25;refine (get_dir HU.out.1 name).mono ?_;rintro e w8 ⟨rfl,hb⟩;rw [GT.out];simp only [adOr,adV,Option.getD_none,Option.isSome_none,z57];have T8 := Aside0.mk (HU.out.below hb);clear hb;have LA8 := Aside0.mk T8.out.2.1;have l1_w8 : w8.cell? ⟨bl,1,none⟩ = some (.int .i64 id) := (blk_cell LA8.out 1).trans rfl;have l2_w8 : w8.cell? ⟨bl,2,none⟩ = some (.int .i64 at_) := (blk_cell LA8.out 2).trans rfl;have l4_w8 : w8.cell? ⟨bl,4,none⟩ = some (.int .i64 ago) := (blk_cell LA8.out 4).trans rfl;have ltl_w8 := blk_lt LA8.out)
                  go_roundg (gk - 1)
                  case measure => omega
                  case rel => exact ⟨j + 1,L,true,nm,id,at_,lf,ago,rfl,by go_num,by omega,⟨T8.out.below (below_alloc (Below.refl _ _) _)⟩⟩
        · have hjn : j = l.length := by omega
          subst hjn
          go_wp2_with (go_at_call 15;refine (beaconlaw20_awake.calls true _ rfl).mono ?_;rintro e w9 ⟨rfl,hb⟩;have HB9 := Aside0.mk (below_then HT.out.2.2.1 HT.out.2.2.1.size hb);clear hb)
          go_ret
          exact ⟨rfl,HB9.out⟩
  · have hlife' : life < 1 ∨ 1048576 < life := by omega
    clear hlife
    go_enter Try.func5,Try.ntmps5
    go_wp2_with (first | (go_at_call 16;refine (new_no life _ hlife').mono ?_;rintro e w1 ⟨rfl,rfl⟩) | (go_at_call 15;refine (beaconlaw20_awake.calls true _ rfl).mono ?_;rintro e w9 ⟨rfl,hb⟩;have HB9 := Aside0.mk hb;clear hb))
    go_ret
    exact ⟨rfl,HB9.out⟩end Go.Proofs.Ytlpmblcdafdfdaa.PA
