/- Tick of a directory that was made, walked. Condition: no more names than a directory holds, each kept at least one tick more and at most 2^20. -/
import Derived.Test.YtlpmblcdafdfdaaYyDl
namespace Go.Proofs.Ytlpmblcdafdfdaa.PA
open Go.RowKit Go.Proofs.YtlpmblcdafdfdaaW.PrintWords Go.Proofs.YtlpmblcdafdfdaaW.PrintLast Go.Proofs.YtlpmblcdafdfdaaW.PrintMore
set_option linter.unusedVariables false
set_option linter.unusedSimpArgs false
open Classical
def Kept (L : List S57) : Prop := L.length ≤ 4096 ∧ ∀ a ∈ L,1 ≤ a.f3 ∧ a.f3 ≤ 1048576
def TickInv (w wr : World) (g b : Nat) (life : Int) (L : List S57) (A : Option Addr) (j : Nat) : Prop :=
  DirAt wr g b life (tickN ((sortN L).take j |>.map (·.f0)) L) ∧ Kd.C k57 wr A (sortN L).length (sortN L) ∧ w.grownBy wr (some b)
theorem at57 {w : World} {A : Option Addr} {n : Nat} {xs : List S57} (h : Kd.C k57 w A n xs) (j : Nat) (hj : j < n) (a : S57) (ha : xs.getD j z57 = a) : ∃ ad,A = some ad ∧ w.cell? (ad.add (j * 4)) = some (.string a.f0) ∧ w.cell? ⟨(ad.add (j * 4)).block,(ad.add (j * 4)).off + 1,none⟩ = some (.int .i64 a.f1) ∧ w.cell? ⟨(ad.add (j * 4)).block,(ad.add (j * 4)).off + 2,none⟩ = some (.int .i64 a.f2) ∧ w.cell? ⟨(ad.add (j * 4)).block,(ad.add (j * 4)).off + 3,none⟩ = some (.int .i64 a.f3) := by
  obtain ⟨ad,c,e,_,hK,hc0⟩ := Kd.C_get h z57 (j : Int) (by omega) (by omega)
  rw [Int.toNat_natCast,ha] at hK
  rw [Int.toNat_natCast] at hc0
  obtain rfl := k57_open hK
  have hc : ∀ i u,[Value.string a.f0,.int .i64 a.f1,.int .i64 a.f2,.int .i64 a.f3][i]? = some u → w.cell? (ad.add (j * 4 + i)) = some u := hc0
  exact ⟨ad,e,hc 0 _ rfl,by rw [← add_field _ _ 1 (by omega)];exact hc 1 _ rfl,by rw [← add_field _ _ 2 (by omega)];exact hc 2 _ rfl,by rw [← add_field _ _ 3 (by omega)];exact hc 3 _ rfl⟩
theorem take_app {ss : List S57} {j : Nat} {a : S57} (h : j < ss.length) (ha : ss.getD j z57 = a) : ss.take (j + 1) = ss.take j ++ [a] := by
  rw [List.take_succ_eq_append_getElem h,← ha]
  simp [List.getD_eq_getElem?_getD,h]
theorem take_names {ss : List S57} {j : Nat} {a : S57} (h : j < ss.length) (ha : ss.getD j z57 = a) : (ss.take (j + 1)).map (·.f0) = (ss.take j).map (·.f0) ++ [a.f0] := by
  rw [take_app h ha,List.map_append]
  rfl
theorem name_fresh {ss : List S57} {j : Nat} {a : S57} (hn : (ss.map (·.f0)).Nodup) (h : j < ss.length) (ha : ss.getD j z57 = a) : a.f0 ∉ (ss.take j).map (·.f0) := by
  intro hm
  have h1 : ((ss.take (j + 1)).map (·.f0)).Nodup := by
    rw [List.map_take]
    exact hn.sublist (List.take_sublist _ _)
  rw [take_names h ha,List.nodup_append] at h1
  exact h1.2.2 _ hm _ (by simp) rfl
theorem TickInv.put {w wr w1 w7 : World} {g b : Nat} {life : Int} {L : List S57} {A : Option Addr} {j : Nat} {a a' : S57} (h : TickInv w wr g b life L A j) (hn : (L.map (·.f0)).Nodup) (hj : j < (sortN L).length) (ha : (sortN L).getD j z57 = a) (ht : tick1 a = some a')
    (hb : Below wr.heap.size wr w1) (hm : IsMap w7 b Value.string (mput (dirM (tickN ((sortN L).take j |>.map (·.f0)) L)) a.f0 (adV a'))) (hg : w1.grownBy w7 (some b)) : TickInv w w7 g b life L A (j + 1) := by
  have hfr := name_fresh (((sortN_perm L).map (·.f0)).nodup_iff.2 hn) hj ha
  have hmem : a ∈ L := (sortN_perm L).mem_iff.1 (by rw [← ha,List.getD_eq_getElem?_getD,List.getElem?_eq_getElem hj];exact List.getElem_mem hj)
  have hm' : IsMap w7 b Value.string (dirM (tickN ((sortN L).take (j + 1) |>.map (·.f0)) L)) := by
    rw [take_names hj ha,← tickN_put ht hfr hn hmem,← mput_dir,tick1_name ht]
    exact hm
  have hD1 := h.1.below hb
  exact ⟨hD1.turn hm' hg,C_kept (Kd.C_below h.2.1 hb) hD1.2 hg,(h.2.2.trans (grown_of_below hb _)).trans hg⟩
theorem TickInv.del {w wr w1 w7 : World} {g b : Nat} {life : Int} {L : List S57} {A : Option Addr} {j : Nat} {a : S57} (h : TickInv w wr g b life L A j) (hn : (L.map (·.f0)).Nodup) (hj : j < (sortN L).length) (ha : (sortN L).getD j z57 = a) (ht : tick1 a = none)
    (hb : Below wr.heap.size wr w1) (hm : IsMap w7 b Value.string (mdel (dirM (tickN ((sortN L).take j |>.map (·.f0)) L)) a.f0)) (hg : w1.grownBy w7 (some b)) : TickInv w w7 g b life L A (j + 1) := by
  have hfr := name_fresh (((sortN_perm L).map (·.f0)).nodup_iff.2 hn) hj ha
  have hmem : a ∈ L := (sortN_perm L).mem_iff.1 (by rw [← ha,List.getD_eq_getElem?_getD,List.getElem?_eq_getElem hj];exact List.getElem_mem hj)
  have hm' : IsMap w7 b Value.string (dirM (tickN ((sortN L).take (j + 1) |>.map (·.f0)) L)) := by
    rw [take_names hj ha,← tickN_del ht hfr hn hmem,← mdel_dir]
    exact hm
  have hD1 := h.1.below hb
  exact ⟨hD1.turn hm' hg,C_kept (Kd.C_below h.2.1 hb) hD1.2 hg,(h.2.2.trans (grown_of_below hb _)).trans hg⟩
def TickOut (w : World) (g b : Nat) (life : Int) (L : List S57) (e : Ending) (w' : World) : Prop := e = .returned (.int .i64 ((L.length : Int) - ((tickL L).length : Int))) ∧ DirAt w' g b life (tickL L) ∧ w.grownBy w' (some b)
set_option maxHeartbeats 4000000 in
set_option maxRecDepth 100000 in
theorem tick_live {w : World} {g b : Nat} {life : Int} {L : List S57} (h : DirAt w g b life L) (hk : Kept L) :
    Calls Try.prog 21 #[.pointer (some ⟨g,0,none⟩)] w fun e w' => TickOut w g b life L e w' := by
  have HD := Aside0.mk h
  have ND := Aside0.mk h.nodup
  have HK := Aside0.mk hk
  have hu70 := Try.underlying70
  have hu57 := Try.underlying57
  have hu40 := Try.underlying40
  clear h hk
  go_enter Try.func21,Try.ntmps21
  go_wp2_with (go_at_call 29;refine (all_live HD.out HK.out.1).mono ?_;rintro e w1 ⟨A,c,rfl,hcc,hC,hb⟩;have I1 := Aside0.mk (show TickInv w w1 g b life L A 0 from ⟨by rw [List.take_zero,List.map_nil,tickN_nil];exact HD.out.below hb,hC,grown_of_below hb _⟩);clear hcc hC hb)
  obtain ⟨n,hn⟩ : ∃ n,n = (sortN L).length := ⟨_,rfl⟩
  have NN := Aside0.mk hn
  have hmax : n ≤ 4096 := by rw [hn,sortN_len];exact HK.out.1
  rw [← hn]
  clear hn
  go_loopg [3,9] n (fun kq vn vi wr => ∃ j : Nat,∃ c : Int,vn = .int .i64 c ∧ vi = .int .i64 (j : Int) ∧ j + kq = n ∧ 0 ≤ c ∧ c ≤ (j : Int) ∧ Aside0 (TickInv w wr g b life L A j) ∧ Aside0 (c = gone ((sortN L).take j)))
  case atStart => exact ⟨0,0,rfl,rfl,by simp,by omega,by omega,I1,⟨by simp [gone]⟩⟩
  case round =>
    obtain ⟨j,c0,rfl,rfl,hj,hc0,hc1,HJ,HC⟩ := hrel
    by_cases hjl : j < n
    · have hjz : (j : Int) < (n : Int) := by omega
      obtain ⟨a,ha⟩ : ∃ a,(sortN L).getD j z57 = a := ⟨_,rfl⟩
      obtain ⟨ad,e0,x0,x1,x2,x3⟩ := at57 HJ.out.2.1 j (by rw [← NN.out];exact hjl) a ha
      subst e0
      have hmem : a ∈ L := (sortN_perm L).mem_iff.1 (by rw [← ha,List.getD_eq_getElem?_getD,List.getElem?_eq_getElem (by rw [← NN.out];exact hjl)];exact List.getElem_mem _)
      have hf := HK.out.2 a hmem
      obtain ⟨hf1,hf2⟩ := hf
      have JL : Aside0 (j < (sortN L).length) := ⟨by rw [← NN.out];exact hjl⟩
      have HA := Aside0.mk ha
      have hcn : gone ((sortN L).take (j + 1)) = c0 + if a.f3 - 1 > 0 then 0 else 1 := by rw [take_app JL.out ha,gone_app,HC.out]
      obtain ⟨w6,hw6⟩ : ∃ w6,w6 = wr.alloc (.cells #[.string a.f0,.int .i64 a.f1,.int .i64 a.f2,.int .i64 (a.f3 - 1)] 57) := ⟨_,rfl⟩
      obtain ⟨b6,hb6⟩ : ∃ b6,b6 = wr.heap.size := ⟨_,rfl⟩
      have W6 := Aside0.mk (And.intro hw6 hb6)
      have B6 : Aside0 (Below wr.heap.size wr w6) := ⟨by rw [hw6];exact below_alloc (Below.refl _ _) _⟩
      have K6 : Aside0 (w6.heap[b6]? = some (.cells #[.string a.f0,.int .i64 a.f1,.int .i64 a.f2,.int .i64 (a.f3 - 1)] 57 (0,0))) := ⟨by rw [hw6,hb6];exact heap_alloc_new _ _⟩
      clear hw6 hb6 ha hmem
      by_cases hpos : a.f3 - 1 > 0
      · rw [if_pos hpos] at hcn
        have CN := Aside0.mk hcn
        have TK : Aside0 (tick1 a = some ⟨a.f0,a.f1,a.f2,a.f3 - 1⟩) := ⟨by unfold tick1;rw [if_pos hpos]⟩
        clear hcn
        go_wp2_with fail
        rw [← W6.out.1,← W6.out.2]
        have D6 := Aside0.mk (HJ.out.1.below B6.out)
        have c1 : w6.cell? ⟨g,1,none⟩ = some (.map (some b)) := (blk_cell D6.out.1 1).trans rfl
        have l0 : w6.cell? ⟨b6,0,none⟩ = some (.string a.f0) := (blk_cell K6.out 0).trans rfl
        have l1 : w6.cell? ⟨b6,1,none⟩ = some (.int .i64 a.f1) := (blk_cell K6.out 1).trans rfl
        have l2 : w6.cell? ⟨b6,2,none⟩ = some (.int .i64 a.f2) := (blk_cell K6.out 2).trans rfl
        have l3 : w6.cell? ⟨b6,3,none⟩ = some (.int .i64 (a.f3 - 1)) := (blk_cell K6.out 3).trans rfl
        go_still_tail 7,(by kernel_rfl)
        refine wp_put rfl (.tmp 23) (.tmp 25) (.tmp 26) 68 9 57 rfl (key_string Try.underlying9) Try.underlying68 rfl a.f0 rfl (adV ⟨a.f0,a.f1,a.f2,a.f3 - 1⟩) rfl (D6.out.below (below_drew (Below.refl _ _))).2 ?_
        intro w7 hm7 hg7 hs7
        have I7 := Aside0.mk (HJ.out.put ND.out JL.out HA.out TK.out (below_then B6.out B6.out.size (below_drew (Below.refl _ _))) hm7 hg7)
        clear hm7 hg7 hs7
        go_wp2_with fail
        go_roundg (gk - 1)
        case measure => omega
        case rel => exact ⟨j + 1,c0,rfl,by go_num,by omega,hc0,by omega,I7,⟨by rw [CN.out];omega⟩⟩
      · rw [if_neg hpos] at hcn
        have CN := Aside0.mk hcn
        have TK : Aside0 (tick1 a = none) := ⟨by unfold tick1;rw [if_neg hpos]⟩
        clear hcn
        go_wp2_with fail
        rw [← W6.out.1,← W6.out.2]
        have D6 := Aside0.mk (HJ.out.1.below B6.out)
        have c1 : w6.cell? ⟨g,1,none⟩ = some (.map (some b)) := (blk_cell D6.out.1 1).trans rfl
        have l0 : w6.cell? ⟨b6,0,none⟩ = some (.string a.f0) := (blk_cell K6.out 0).trans rfl
        go_still_tail 6,(by kernel_rfl)
        refine wp_del rfl (.tmp 30) (.tmp 32) 68 9 57 rfl (key_string Try.underlying9) Try.underlying68 rfl a.f0 rfl (D6.out.below (below_drew (Below.refl _ _))).2 ?_
        intro w7 hm7 hg7 hs7
        have I7 := Aside0.mk (HJ.out.del ND.out JL.out HA.out TK.out (below_then B6.out B6.out.size (below_drew (Below.refl _ _))) hm7 hg7)
        clear hm7 hg7 hs7
        go_wp2_with fail
        go_roundg (gk - 1)
        case measure => omega
        case rel => exact ⟨j + 1,c0 + 1,by go_num,by go_num,by omega,by omega,by omega,I7,⟨by rw [CN.out]⟩⟩
    · have hjn : j = n := by omega
      subst hjn
      go_wp2_with fail
      go_ret
      have hd := HJ.out.1
      have hg := HC.out
      rw [NN.out,List.take_length] at hg
      have e1 : tickN ((sortN L).take j |>.map (·.f0)) L = tickL L := tickN_all (fun a ha => by
        rw [NN.out,List.take_length]
        exact List.mem_map.2 ⟨a,(sortN_perm L).mem_iff.2 ha,rfl⟩)
      rw [e1] at hd
      exact ⟨by rw [← gone_len,← gone_perm (sortN_perm L),← hg];rfl,hd,HJ.out.2.2⟩
end Go.Proofs.Ytlpmblcdafdfdaa.PA
