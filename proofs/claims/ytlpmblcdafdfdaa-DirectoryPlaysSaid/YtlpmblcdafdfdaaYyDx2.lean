/- DirectoryPlays: its state, and New. No condition. -/
import Derived.Test.YtlpmblcdafdfdaaYyDv
import Derived.Test.YtlpmblcdafdfdaaYyGu
import Derived.Test.YtlpmblcdafdfdaaYyGs
import Derived.Test.YtlpmblcdafdfdaaYyDp
import Derived.Test.YtlpmblcdafdfdaaYyDk
import Derived.Test.YtlpmblcdafdfdaaYpPAx5
namespace Go.Proofs.Ytlpmblcdafdfdaa.PA
open Go.RowKit Go.Proofs.YtlpmblcdafdfdaaW.PrintWords Go.Proofs.YtlpmblcdafdfdaaW.PrintLast Go.Proofs.YtlpmblcdafdfdaaW.PrintMore
set_option linter.unusedVariables false
set_option linter.unusedSimpArgs false
open Classical
def PlayAt (w wr : World) (g b bm : Nat) (life : Int) (A : Option Addr) (c : Nat) (L : List S57) : Prop :=
  DirAt wr g b life L ∧ wr.heap[bm]? = some (.cells #[.int .i64 life,.slice A (sortN L).length c] 42 (0,0)) ∧ Kd.C k57 wr A (sortN L).length (sortN L) ∧ (sortN L).length ≤ c ∧ (∀ ad,A = some ad → ad.block ≠ bm) ∧ Below w.heap.size w wr ∧ Lives life L
theorem PlayAt.below {w wr w1 : World} {g b bm : Nat} {life : Int} {A : Option Addr} {c : Nat} {L : List S57} (h : PlayAt w wr g b bm life A c L) (hb : Below wr.heap.size wr w1) : PlayAt w w1 g b bm life A c L :=
  ⟨h.1.below hb,blk_below h.2.1 hb,Kd.C_below h.2.2.1 hb,h.2.2.2.1,h.2.2.2.2.1,below_then h.2.2.2.2.2.1 h.2.2.2.2.2.1.size hb,h.2.2.2.2.2.2⟩
theorem rnew_f {life : Int} (h1 : 1 ≤ life) (h2 : life ≤ 1048576) : beaconref20_New.f life = some (life,[],0) := by
  unfold beaconref20_New.f
  rw [if_neg (by omega),if_neg (by omega)]
theorem rnew_no {life : Int} (h : life < 1 ∨ 1048576 < life) : beaconref20_New.f life = some (0,[],1) := by
  unfold beaconref20_New.f
  by_cases h1 : life < 1
  · rw [if_pos h1]
  · rw [if_neg h1,if_pos (by omega)]
theorem rnew_any (life r1 r3 : Int) (W : World) (h : beaconref20_New.f life = some (r1,[],r3)) : Calls Try.prog 17 #[.int .i64 life] W fun e w' => ∃ A c,e = .returned (.tuple #[.agg #[.int .i64 r1,.slice A 0 c],.int .i64 r3]) ∧ Kd.C k57 w' A 0 [] ∧ (∀ ad,A = some ad → ad.block < w'.heap.size) ∧ Below W.heap.size W w' := by
  refine (beaconref20_New.calls life r1 [] r3 W h).mono ?_
  rintro e w' ⟨v,rfl,hR,hb⟩
  obtain ⟨A,c,rfl⟩ := Kd.R_slice hR
  exact ⟨A,c,rfl,(Kd.R_reads' hR).2.2,fun ad he => Kd.R_lt hR ad.block (by rw [he];simp [Value.ownBlock]),hb⟩
end Go.Proofs.Ytlpmblcdafdfdaa.PA
namespace Go.Proofs.Ytlpmblcdafdfdaa.PA
open Go.RowKit Go.Proofs.YtlpmblcdafdfdaaW.PrintWords Go.Proofs.YtlpmblcdafdfdaaW.PrintLast Go.Proofs.YtlpmblcdafdfdaaW.PrintMore
set_option linter.unusedVariables false
set_option linter.unusedSimpArgs false
open Classical
def MidAt (w wr : World) (g b bm : Nat) (life : Int) (A : Option Addr) (c : Nat) (L L' : List S57) : Prop :=
  DirAt wr g b life L ∧ wr.heap[bm]? = some (.cells #[.int .i64 life,.slice A (sortN L').length c] 42 (0,0)) ∧ Kd.C k57 wr A (sortN L').length (sortN L') ∧ (sortN L').length ≤ c ∧ (∀ ad,A = some ad → ad.block ≠ bm) ∧ Below w.heap.size w wr
theorem MidAt.below {w wr w1 : World} {g b bm : Nat} {life : Int} {A : Option Addr} {c : Nat} {L L' : List S57} (h : MidAt w wr g b bm life A c L L') (hb : Below wr.heap.size wr w1) : MidAt w w1 g b bm life A c L L' :=
  ⟨h.1.below hb,blk_below h.2.1 hb,Kd.C_below h.2.2.1 hb,h.2.2.2.1,h.2.2.2.2.1,below_then h.2.2.2.2.2 h.2.2.2.2.2.size hb⟩
end Go.Proofs.Ytlpmblcdafdfdaa.PA
namespace Go.Proofs.Ytlpmblcdafdfdaa.PA
open Go.RowKit Go.Proofs.YtlpmblcdafdfdaaW.PrintWords Go.Proofs.YtlpmblcdafdfdaaW.PrintLast Go.Proofs.YtlpmblcdafdfdaaW.PrintMore
set_option linter.unusedVariables false
set_option linter.unusedSimpArgs false
open Classical
theorem PlayAt.two {w wr : World} {g b bm : Nat} {life : Int} {A : Option Addr} {c : Nat} {L : List S57} (h : PlayAt w wr g b bm life A c L) : MidAt w wr g b bm life A c L L := ⟨h.1,h.2.1,h.2.2.1,h.2.2.2.1,h.2.2.2.2.1,h.2.2.2.2.2.1⟩
theorem MidAt.one {w wr : World} {g b bm : Nat} {life : Int} {A : Option Addr} {c : Nat} {L : List S57} (h : MidAt w wr g b bm life A c L L) (hl : Lives life L) : PlayAt w wr g b bm life A c L := ⟨h.1,h.2.1,h.2.2.1,h.2.2.2.1,h.2.2.2.2.1,h.2.2.2.2.2,hl⟩
theorem MidAt.dir {w w8 w9 : World} {g b bm : Nat} {life : Int} {A : Option Addr} {c : Nat} {L L' M : List S57} (h : MidAt w w8 g b bm life A c L M) (hd : DirAt w9 g b life L') (hg : w8.grownBy w9 (some b)) (hm : bm ≠ b) (hb : w.heap.size ≤ b) : MidAt w w9 g b bm life A c L' M :=
  ⟨hd,blk_grown h.2.1 hg (fun e => hm (Option.some.inj e)),C_kept h.2.2.1 h.1.2 hg,h.2.2.2.1,h.2.2.2.2.1,pw_below_grown h.2.2.2.2.2 _ h.2.2.2.2.2.size hg (fun k e => by cases e;exact hb)⟩
theorem MidAt.val {w w6 w7 : World} {g b bm : Nat} {life : Int} {A A' : Option Addr} {c c' : Nat} {L M M' : List S57} (h : MidAt w w6 g b bm life A c L M) (hb : Below w6.heap.size w6 w7) (hC : Kd.C k57 w7 A' (sortN M').length (sortN M')) (hc : (sortN M').length ≤ c')
    (ho : A' = A ∧ sortN M' = sortN M ∨ ∀ ad,A' = some ad → w6.heap.size ≤ ad.block) (hm : bm ≠ g ∧ bm ≠ b) (hbm : w.heap.size ≤ bm) :
    MidAt w ((w7.setCell ⟨bm,0,none⟩ (.int .i64 life)).setCell ⟨bm,1,none⟩ (.slice A' (sortN M').length c')) g b bm life A' c' L M' := by
  have h7 := h.below hb
  have hlt := blk_lt h.2.1
  have hoff : ∀ ad,A' = some ad → ad.block ≠ bm := by
    rcases ho with ⟨rfl,_⟩ | hf
    · exact h.2.2.2.2.1
    · intro ad he
      have := hf ad he
      omega
  exact ⟨(h7.1.far hm.1 hm.2 _).far hm.1 hm.2 _,(blk_set (blk_set h7.2.1 0 _) 1 _).trans rfl,C57_set (C57_set hC hoff 0 _) hoff 1 _,hc,hoff,(h7.2.2.2.2.2.setCell hbm _).setCell hbm _⟩
theorem MidAt.gone {w w6 : World} {g b bm : Nat} {life : Int} {A : Option Addr} {c : Nat} {L M : List S57} (h : MidAt w w6 g b bm life A c L M) (hm : bm ≠ g ∧ bm ≠ b) (hbm : w.heap.size ≤ bm) :
    MidAt w (w6.setCell ⟨bm,1,none⟩ (.slice none 0 0)) g b bm life none 0 L [] := by
  have e0 : sortN ([] : List S57) = [] := by simp [sortN]
  refine ⟨h.1.far hm.1 hm.2 _,?_,?_,?_,(fun ad he => by cases he),h.2.2.2.2.2.setCell hbm _⟩
  · rw [e0]
    exact (blk_set h.2.1 1 _).trans rfl
  · rw [e0]
    exact Kd.C_nil k57 _
  · rw [e0]
    exact Nat.zero_le _
def ValOut (w w' : World) (A A' : Option Addr) (c' : Nat) (M M' : List S57) : Prop :=
  Below w.heap.size w w' ∧ Kd.C k57 w' A' (sortN M').length (sortN M') ∧ (sortN M').length ≤ c' ∧ (A' = A ∧ sortN M' = sortN M ∨ ∀ ad,A' = some ad → w.heap.size ≤ ad.block)
theorem ValOut.alloc {w w' : World} {A A' : Option Addr} {c' : Nat} {M M' : List S57} (h : ValOut w w' A A' c' M M') (o : Obj) : ValOut w (w'.alloc o) A A' c' M M' := ⟨below_alloc h.1 _,Kd.C_alloc h.2.1 _,h.2.2.1,h.2.2.2⟩
theorem MidAt.set {w w6 w7 : World} {g b bm : Nat} {life : Int} {A A' : Option Addr} {c c' : Nat} {L M M' : List S57} (h : MidAt w w6 g b bm life A c L M) (hv : ValOut w6 w7 A A' c' M M') (hm : bm ≠ g ∧ bm ≠ b) (hbm : w.heap.size ≤ bm) :
    MidAt w ((w7.setCell ⟨bm,0,none⟩ (.int .i64 life)).setCell ⟨bm,1,none⟩ (.slice A' (sortN M').length c')) g b bm life A' c' L M' := h.val hv.1 hv.2.1 hv.2.2.1 hv.2.2.2 hm hbm
theorem MidAt.rput {w wr : World} {g b bm : Nat} {life : Int} {A : Option Addr} {c : Nat} {L M : List S57} (h : MidAt w wr g b bm life A c L M) (hn : (M.map (·.f0)).Nodup) (hl : M.length ≤ 4096) (s : ByteArray) (id at_ : Int) :
    Calls Try.prog 18 #[.agg #[.int .i64 life,.slice A (sortN M).length c],.string s,.int .i64 id,.int .i64 at_] wr fun e w' => ∃ A' c',e = .returned (.tuple #[.agg #[.int .i64 life,.slice A' (sortN (putL life M s id at_)).length c'],.int .i64 (putE M s id at_)]) ∧ ValOut wr w' A A' c' M (putL life M s id at_) := by
  refine (dput_any wr life A c (sortN M) h.2.2.1 h.2.2.2.1 (by rw [sortN_len];exact hl) (sortN_byName hn) (sortN_nodup hn) s id at_).mono ?_
  rintro e w' ⟨A',c',he,hc,hC,hb,ho⟩
  rw [rputL_sort hn] at he hc hC ho
  rw [putE_sort hn] at he
  exact ⟨A',c',he,hb,hC,hc,ho⟩
theorem MidAt.rserve {w wr : World} {g b bm : Nat} {life : Int} {A : Option Addr} {c : Nat} {L M : List S57} (h : MidAt w wr g b bm life A c L M) (hn : (M.map (·.f0)).Nodup) (hl : M.length ≤ 4096) (self home hops : Int) (p : S30) :
    Calls Try.prog 23 #[.agg #[.int .i64 life,.slice A (sortN M).length c],.int .i64 self,.int .i64 home,.int .i64 hops,.agg #[.int .i64 p.f0,.int .i64 p.f1,.int .i64 p.f2,.int .i64 p.f3,.int .i64 p.f4,.int .i64 p.f5,.int .u64 p.f6,.int .i64 p.f7,.string p.f8,.int .i64 p.f9,.int .i64 p.f10,.string p.f11]] wr fun e w' => ∃ A' c',e = .returned (.tuple #[.agg #[.int .i64 life,.slice A' (sortN (serveL life M self home hops p)).length c'],pkV (serveP M self home hops p),.bool (serveT self home hops p),.int .i64 (serveE M self home hops p)]) ∧ ValOut wr w' A A' c' M (serveL life M self home hops p) := by
  refine (rserve_any wr life A c (sortN M) h.2.2.1 h.2.2.2.1 self home hops p (by rw [sortN_len];exact hl) (sortN_byName hn) (sortN_nodup hn)).mono ?_
  rintro e w' ⟨A',c',he,hc,hC,hb,ho⟩
  rw [rserveL_sort hn] at he hc hC ho
  rw [(servable_sort hn self home hops p).1,(servable_sort hn self home hops p).2] at he
  exact ⟨A',c',he,hb,hC,hc,ho⟩
theorem kept_sort {L : List S57} (h : Kept L) : Kept (sortN L) := ⟨by rw [sortN_len];exact h.1,fun a ha => h.2 a ((sortN_perm L).mem_iff.1 ha)⟩
theorem MidAt.rtick {w wr : World} {g b bm : Nat} {life : Int} {A : Option Addr} {c : Nat} {L M : List S57} (h : MidAt w wr g b bm life A c L M) (hn : (M.map (·.f0)).Nodup) (hk : Kept M) :
    Calls Try.prog 20 #[.agg #[.int .i64 life,.slice A (sortN M).length c]] wr fun e w' => ∃ A' c',e = .returned (.tuple #[.agg #[.int .i64 life,.slice A' (sortN (tickL M)).length c'],.int .i64 ((M.length : Int) - ((tickL M).length : Int))]) ∧ ValOut wr w' A A' c' M (tickL M) := by
  refine (rtick_any wr life A c (sortN M) h.2.2.1 h.2.2.2.1 (kept_sort hk)).mono ?_
  rintro e w' ⟨A',c',he,hc,hC,hb,ho⟩
  rw [tick_sort hn] at he hc hC
  rw [sortN_len M] at he
  have e2 : ((sortN (tickL M)).length : Int) = ((tickL M).length : Int) := by rw [sortN_len]
  refine ⟨A',c',?_,hb,hC,hc,.inr ho⟩
  rw [he,e2]
theorem MidAt.rget {w wr : World} {g b bm : Nat} {life : Int} {A : Option Addr} {c : Nat} {L M : List S57} (h : MidAt w wr g b bm life A c L M) (hn : (M.map (·.f0)).Nodup) (hl : M.length ≤ 4096) (s : ByteArray) :
    Calls Try.prog 26 #[.agg #[.int .i64 life,.slice A (sortN M).length c],.string s] wr fun e w' => e = .returned (.tuple #[adV (adOr (adGet s M)),.bool (adGet s M).isSome]) ∧ Below wr.heap.size wr w' := by
  refine (rget_any life A c (sortN M) (by rw [sortN_len];exact hl) s wr h.2.2.1 h.2.2.2.1).mono ?_
  rintro e w' ⟨he,hb⟩
  rw [adGet_sort hn] at he
  exact ⟨he,hb⟩
theorem blk_two {w : World} {bc bm : Nat} {t : TypeId} {cs : Array Value} (h : w.heap[bc]? = some (.cells cs t (0,0))) (hne : bc ≠ bm) (u v : Value) : ((w.setCell ⟨bm,0,none⟩ u).setCell ⟨bm,1,none⟩ v).heap[bc]? = some (.cells cs t (0,0)) :=
  blk_far (blk_far h hne _) hne _
end Go.Proofs.Ytlpmblcdafdfdaa.PA
