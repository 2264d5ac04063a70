/- The document's Tick, walked. Condition: what is kept is kept at least one tick more and at most 2^20, and is no more than a directory holds. -/
import Derived.Test.YtlpmblcdafdfdaaYyDm
import Derived.Test.YtlpmblcdafdfdaaYyPAx7
namespace Go.Proofs.Ytlpmblcdafdfdaa.PA
open Go.RowKit Go.Proofs.YtlpmblcdafdfdaaW.PrintWords Go.Proofs.YtlpmblcdafdfdaaW.PrintLast Go.Proofs.YtlpmblcdafdfdaaW.PrintMore
set_option linter.unusedVariables false
set_option linter.unusedSimpArgs false
def RInv (w wr : World) (bx br : Nat) (v : Value) (P : List S57) (life : Int) (A : Option Addr) (n c : Nat) : Prop :=
  Kd.R k57 57 wr w.heap.size (fun k => k ≠ bx ∧ k ≠ br) v P ∧ Below w.heap.size w wr ∧ wr.heap[bx]? = some (.cells #[.int .i64 life,.slice A n c] 42 (0,0)) ∧ wr.heap[br]? = some (.cells #[.int .i64 0,.slice none 0 0] 42 (0,0))
theorem RInv.below {w wr w1 : World} {bx br : Nat} {v : Value} {P : List S57} {life : Int} {A : Option Addr} {n c : Nat} (h : RInv w wr bx br v P life A n c) (hb : Below wr.heap.size wr w1) : RInv w w1 bx br v P life A n c :=
  ⟨Kd.R_below h.1 hb,below_then h.2.1 h.2.1.size hb,blk_below h.2.2.1 hb,blk_below h.2.2.2 hb⟩
theorem RInv.app {w w6 w3 : World} {bx br : Nat} {v v3 : Value} {P P' : List S57} {life : Int} {A : Option Addr} {n c : Nat} (h : RInv w w6 bx br v P life A n c) (h3 : Kd.R k57 57 w3 w.heap.size (fun k => k ≠ bx ∧ k ≠ br) v3 P') (hb3 : Below w.heap.size w w3) (hg3 : w6.grownBy w3 v.ownBlock) : RInv w w3 bx br v3 P' life A n c :=
  ⟨h3,hb3,blk_grown h.2.2.1 hg3 (fun e => (h.1.1 bx e.symm).1 rfl),blk_grown h.2.2.2 hg3 (fun e => (h.1.1 br e.symm).2 rfl)⟩
def RTickOut (w : World) (life : Int) (M : List S57) (e : Ending) (w' : World) : Prop :=
  ∃ A' c',e = .returned (.tuple #[.agg #[.int .i64 life,.slice A' (tickL M).length c'],.int .i64 ((M.length : Int) - ((tickL M).length : Int))]) ∧ (tickL M).length ≤ c' ∧ Kd.C k57 w' A' (tickL M).length (tickL M) ∧ Below w.heap.size w w' ∧ ∀ ad,A' = some ad → w.heap.size ≤ ad.block
theorem tickL_take {M : List S57} {j : Nat} {a : S57} (h : j < M.length) (ha : M.getD j z57 = a) : tickL (M.take (j + 1)) = tickL (M.take j) ++ (match tick1 a with | some b => [b] | none => []) := by
  rw [take_app h ha]
  unfold tickL
  rw [List.filterMap_append]
  congr 1
  rw [List.filterMap_cons]
  cases tick1 a <;> rfl
set_option maxHeartbeats 4000000 in
set_option maxRecDepth 100000 in
theorem rtick_any (w : World) (life : Int) (A : Option Addr) (c : Nat) (M : List S57) (hr : Kd.C k57 w A M.length M) (hc : M.length ≤ c) (hk : Kept M) :
    Calls Try.prog 20 #[.agg #[.int .i64 life,.slice A M.length c]] w fun e w' => RTickOut w life M e w' := by
  have hu57 := Try.underlying57
  have hu42 := Try.underlying42
  have hu40 := Try.underlying40
  have HR := Aside0.mk hr
  have HK := Aside0.mk hk
  have hmax := hk.1
  clear hr hk
  obtain ⟨w0,hw0⟩ : ∃ w0,w0 = (w.alloc (Obj.cells #[.int .i64 life,.slice A M.length c] 42)).alloc (Obj.cells #[.int .i64 0,.slice none 0 0] 42) := ⟨_,rfl⟩
  obtain ⟨bx,hbx⟩ : ∃ b,b = w.heap.size := ⟨_,rfl⟩
  obtain ⟨br,hbr⟩ : ∃ b,b = w.heap.size + 1 := ⟨_,rfl⟩
  have W0 := Aside0.mk (And.intro hw0 (And.intro hbx hbr))
  have I0 : Aside0 (RInv w w0 bx br (.slice none 0 0) [] life A M.length c) := ⟨Kd.R_nil _ _ _ _ _,by rw [hw0];exact below_alloc (below_alloc (Below.refl _ _) _) _,by rw [hw0,hbx];exact blk_alloc (blk_new w _) _,by rw [hw0,hbr];have := blk_new (w.alloc (Obj.cells #[.int .i64 life,.slice A M.length c] 42)) (Obj.cells #[.int .i64 0,.slice none 0 0] 42);rwa [World.size_alloc] at this⟩
  have XR : Aside0 (bx ≠ br ∧ w.heap.size ≤ bx ∧ w.heap.size ≤ br) := ⟨by omega⟩
  clear hw0 hbx hbr
  go_enter Try.func20,Try.ntmps20
  go_wp2_with fail
  rw [← W0.out.2.2,← W0.out.2.1,← W0.out.1]
  go_loopg [4,5] M.length (fun kq vl vi wr => ∃ j : Nat,vi = .int .i64 (j : Int) ∧ j + kq = M.length ∧ Aside0 (RInv w wr bx br vl (tickL (M.take j)) life A M.length c))
  case atStart => exact ⟨0,rfl,by simp,⟨by have := I0.out;exact this⟩⟩
  case round =>
    as_aux_lemma =>
      obtain ⟨j,rfl,hj,HJ⟩ := hrel
      have X0 := Aside0.mk HJ.out.2.2.1
      have x1 : wr.cell? ⟨bx,1,none⟩ = some (.slice A M.length c) := (blk_cell X0.out 1).trans rfl
      by_cases hjl : j < M.length
      · have hjz : (j : Int) < (M.length : Int) := by omega
        obtain ⟨a,ha⟩ : ∃ a,M.getD j z57 = a := ⟨_,rfl⟩
        obtain ⟨ad,e0,x2,x3,x4,x5⟩ := at57 (Kd.C_below HR.out HJ.out.2.1) j hjl a ha
        subst e0
        have hmem : a ∈ M := by rw [← ha,List.getD_eq_getElem?_getD,List.getElem?_eq_getElem hjl];exact List.getElem_mem _
        obtain ⟨hf1,hf2⟩ := HK.out.2 a hmem
        have TT := Aside0.mk (tickL_take hjl ha)
        clear hmem ha
        obtain ⟨w6,hw6⟩ : ∃ w6,w6 = wr.alloc (.cells #[.string a.f0,.int .i64 a.f1,.int .i64 a.f2,.int .i64 (a.f3 - 1)] 57) := ⟨_,rfl⟩
        have W6 := Aside0.mk hw6
        have I6 : Aside0 (RInv w w6 bx br u4 (tickL (M.take j)) life (some ad) M.length c) := ⟨by rw [hw6];exact HJ.out.below (below_alloc (Below.refl _ _) _)⟩
        clear hw6
        have LN : Aside0 ((tickL (M.take j)).length ≤ 4096) := ⟨Nat.le_trans (List.length_filterMap_le _ _) (by rw [List.length_take];omega)⟩
        by_cases hpos : a.f3 - 1 > 0
        · have TK : Aside0 (tickL (M.take (j + 1)) = tickL (M.take j) ++ [⟨a.f0,a.f1,a.f2,a.f3 - 1⟩]) := ⟨by rw [TT.out];unfold tick1;rw [if_pos hpos]⟩
          have I7 : Aside0 (RInv w (wr.alloc (.cells #[.string a.f0,.int .i64 a.f1,.int .i64 a.f2,.int .i64 (a.f3 - 1)] 57)) bx br u4 (tickL (M.take j)) life (some ad) M.length c) := ⟨HJ.out.below (below_alloc (Below.refl _ _) _)⟩
          have LT : Aside0 (bx < wr.heap.size ∧ br < wr.heap.size) := ⟨blk_lt HJ.out.2.2.1,blk_lt HJ.out.2.2.2⟩
          go_wp2_with ((with_reducible refine gate_builtin (b := .append) (xs := #[.tmp 27,.tmp 29]) rfl ?_);at_builtin;refine Kd.R_append k57 (w0 := w) w.heap.size rfl (.tmp 27) (.tmp 29) 40 57 nilA 40 rfl Try.underlying40 inf57 rfl (by decide) (by omega) u4 (tickL (M.take j)) ⟨a.f0,a.f1,a.f2,a.f3 - 1⟩ [.string a.f0,.int .i64 a.f1,.int .i64 a.f2,.int .i64 (a.f3 - 1)] (fun k => k ≠ bx ∧ k ≠ br) (fun _ => False) rfl (by first | rfl | (simp [Act.eval,Act.put];done)) ?aP (fun _ hk => hk.elim) ?aF ?aO ?aB ?aS ?aL ?_;(case aP => exact k57_mkM _ _ _ (⟨a.f0,a.f1,a.f2,a.f3 - 1⟩ : S57));(case aF => (intro k hk;rw [World.size_alloc] at hk;have := LT.out;omega));(case aO => exact I7.out.1);(case aB => exact I7.out.2.1);(case aS => exact I7.out.2.1.size);(case aL => have := LN.out;omega);intro v3 w3 ho hb3 hg3 hat;rw [← TK.out] at ho;have I3 := Aside0.mk (I7.out.app ho hb3 hg3);clear ho hb3 hg3 hat)
          go_roundg (gk - 1)
          case measure => omega
          case rel => exact ⟨j + 1,by go_num,by omega,I3⟩
        · have TK : Aside0 (tickL (M.take (j + 1)) = tickL (M.take j)) := ⟨by rw [TT.out];unfold tick1;rw [if_neg hpos];simp⟩
          go_wp2_with fail
          go_roundg (gk - 1)
          case measure => omega
          case rel => exact ⟨j + 1,by go_num,by omega,⟨by rw [TK.out,← W6.out];exact I6.out⟩⟩
      · have hje : j = M.length := by omega
        subst hje
        have HL : Aside0 (RInv w wr bx br u4 (tickL M) life A M.length c) := ⟨by have := HJ.out;rwa [List.take_length] at this⟩
        clear HJ
        have hgl := List.length_filterMap_le tick1 M
        have hgl2 : (tickL M).length ≤ M.length := hgl
        clear hgl
        obtain ⟨A',c',rfl⟩ := Kd.R_slice HL.out.1
        obtain ⟨m,hm⟩ : ∃ m,m = (tickL M).length := ⟨_,rfl⟩
        have MM := Aside0.mk hm
        rw [← hm] at hgl2 ⊢
        rw [← hm] at HL
        clear hm
        have x0 : wr.cell? ⟨bx,0,none⟩ = some (.int .i64 life) := (blk_cell X0.out 0).trans rfl
        have z0 := blk_frozen X0.out 0
        have z1 := blk_frozen X0.out 1
        have Y0 := Aside0.mk HL.out.2.2.2
        have y0 : wr.cell? ⟨br,0,none⟩ = some (.int .i64 0) := (blk_cell Y0.out 0).trans rfl
        have y1 : wr.cell? ⟨br,1,none⟩ = some (.slice none 0 0) := (blk_cell Y0.out 1).trans rfl
        have zy0 := blk_frozen Y0.out 0
        have zy1 := blk_frozen Y0.out 1
        have hne1 := XR.out.1
        have hne2 := Ne.symm XR.out.1
        go_wp2_with fail
        obtain ⟨W,hW⟩ : ∃ W,W = ((wr.setCell ⟨bx,1,none⟩ (.slice A' m c')).setCell ⟨br,0,none⟩ (.int .i64 life)).setCell ⟨br,1,none⟩ (.slice A' m c') := ⟨_,rfl⟩
        have BW : W.heap[br]? = some (.cells #[.int .i64 life,.slice A' m c'] 42 (0,0)) := by rw [hW];exact (blk_set (blk_set (blk_far Y0.out hne2 _) 0 _) 1 _).trans rfl
        have HW : Below w.heap.size w W := by rw [hW];exact ((HL.out.2.1.setCell XR.out.2.1 _).setCell XR.out.2.2 _).setCell XR.out.2.2 _
        have RW : Kd.R k57 57 W w.heap.size (fun k => k ≠ bx ∧ k ≠ br) (.slice A' m c') (tickL M) := by rw [hW];exact Kd.R_far (p := ⟨br,1,none⟩) (Kd.R_far (p := ⟨br,0,none⟩) (Kd.R_far (p := ⟨bx,1,none⟩) HL.out.1 (fun k hk => hk.1) _) (fun k hk => hk.2) _) (fun k hk => hk.2) _
        rw [← hW]
        clear hW
        have g0 : W.cell? ⟨br,0,none⟩ = some (.int .i64 life) := (blk_cell BW 0).trans rfl
        have g1 : W.cell? ⟨br,1,none⟩ = some (.slice A' m c') := (blk_cell BW 1).trans rfl
        obtain ⟨_,hcc,hC⟩ := Kd.R_reads' RW
        refine bodyPost_ret (v := .tuple #[.agg #[.int .i64 life,.slice A' m c'],.int .i64 ((M.length : Int) - (m : Int))]) (by simp [results,Try.results20,go_sem,g0,g1]) rfl ⟨A',c',by rw [← MM.out],by rw [← MM.out];exact hcc,hC,HW,fun ad he => Kd.R_base RW ad.block (by rw [he];simp [Value.ownBlock])⟩
end Go.Proofs.Ytlpmblcdafdfdaa.PA
