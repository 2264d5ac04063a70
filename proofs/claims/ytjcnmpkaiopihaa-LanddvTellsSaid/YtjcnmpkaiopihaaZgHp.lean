/- landdv.Tell: an error, or the news of marks, sorted by destination. Conditions: the floats are words, the list fits in memory. -/
import Derived.Test.YtjcnmpkaiopihaaZgGi
import Derived.Test.YtjcnmpkaiopihaaZgHn
import Derived.Test.YtjcnmpkaiopihaaZgMp
namespace Go.Proofs.Ytjcnmpkaiopihaa.PA
open Go.RowKit Go.Proofs.YtjcnmpkaiopihaaW.PrintWords Go.Proofs.YtjcnmpkaiopihaaW.PrintLast Go.Proofs.YtjcnmpkaiopihaaW.PrintMore
set_option linter.unusedVariables false
set_option linter.unusedSimpArgs false
set_option maxHeartbeats 4000000 in
set_option maxRecDepth 100000 in
theorem ltell_bad (self : Int) (mark : Bool) (A : Option Addr) (c : Nat) (l : List S58) (w : World) (hr : Kd.C k58 w A l.length l) (hc : l.length ≤ c) (hw : EntsF l) (hl : l.length < 2932031007402) (h0 : askM self l ≠ 0) :
    Calls Try.prog 30 #[.int .i64 self,.bool mark,.slice A l.length c] w fun e w' => e = .returned (.tuple #[.slice none 0 0,.int .i64 (askM self l)]) ∧ Below w.heap.size w w' := by
  have HR := Aside0.mk hr
  have HC := Aside0.mk hc
  have HA := Aside0.mk (pmay_all self l hw (by omega) (5 * l.length + 1) (Nat.le_refl _))
  have c0 : (askM self l != 0) = true := bne_iff_ne.mpr h0
  clear hr hc hw hl h0
  generalize askM self l = e0 at *
  go_enter Try.func30,Try.ntmps30
  go_wp2_with (go_at_call 64;(with_reducible refine (landdv_asked.calls _ _ _ _ _ _ _ ?side1 ?side2 HA.out).mono ?_);(case side1 => exact HR.out);(case side2 => exact HC.out);rintro e w1 ⟨rfl,hb⟩;have B1 := Aside0.mk hb;clear hb)
  refine bodyPost_ret (v := .tuple #[.slice none 0 0,.int .i64 e0]) (by simp [results,Try.results30,go_sem]) rfl ⟨rfl,B1.out⟩
set_option maxHeartbeats 8000000 in
set_option maxRecDepth 100000 in
theorem ltell_good (self : Int) (mark : Bool) (A : Option Addr) (c : Nat) (l : List S58) (w : World) (hr : Kd.C k58 w A l.length l) (hc : l.length ≤ c) (hw : EntsF l) (hl : l.length < 2932031007402) (h0 : askM self l = 0) :
    Calls Try.prog 30 #[.int .i64 self,.bool mark,.slice A l.length c] w fun e w' => ∃ v : Value,e = .returned (.tuple #[v,.int .i64 0]) ∧ Kd.R k56 56 w' w.heap.size (fun _ => True) v (sortN (tellTo self mark l l.length)) ∧ Below w.heap.size w w' := by
  have hu56 := Try.underlying56
  have hu58 := Try.underlying58
  have HR := Aside0.mk hr
  have HC := Aside0.mk hc
  have LL := Aside0.mk hl
  have hA := pmay_all self l hw (by omega) (5 * l.length + 1) (Nat.le_refl _)
  rw [h0] at hA
  have HA := Aside0.mk hA
  have AZ := Aside0.mk (ask_zero h0)
  clear hr hc hw hl h0 hA
  go_enter Try.func30,Try.ntmps30
  go_upto_if 18 with (go_at_call 64;(with_reducible refine (landdv_asked.calls _ _ _ _ _ _ _ ?side1 ?side2 HA.out).mono ?_);(case side1 => exact HR.out);(case side2 => exact HC.out);rintro e w1 ⟨rfl,hb⟩;have B1 := Aside0.mk hb;clear hb)
  go_cut [9] from 18 to 24 (fun s9 wx => Aside0 (TInv w wx s9 (tellTo self mark l 0)))
  case first =>
    cases mark with
    | false =>
      have E0 : Aside0 (tellTo self false l 0 = []) := ⟨by unfold tellTo;simp⟩
      go_wp2_with fail
      go_meet
      exact ⟨by rw [E0.out];exact ⟨Kd.R_nil _ _ _ _ _,B1.out⟩⟩
    | true =>
      have E0 : Aside0 (tellTo self true l 0 = [] ++ [⟨self,1,0,0,0⟩]) := ⟨by unfold tellTo ownT;simp⟩
      go_wp2_with ((with_reducible refine gate_builtin (b := .append) (xs := #[.tmp 19,.tmp 22]) rfl ?_);at_builtin;refine Kd.R_append k56 (w0 := w) w.heap.size rfl (.tmp 19) (.tmp 22) 35 56 (.agg #[(.int .i64 0),(.int .i64 0),(.float .f64 0),(.float .f64 0),(.int .i64 0)]) 40 rfl Try.underlying35 info56 rfl (by decide) (by omega) (.slice none 0 0) [] ⟨self,1,0,0,0⟩ [.int .i64 self,.int .i64 1,.float .f64 0,.float .f64 0,.int .i64 0] (fun _ => True) (fun _ => False) rfl (by first | rfl | (simp [Act.eval,Act.put];done)) ?aP (fun _ hk => hk.elim) ?aF ?aO ?aB ?aS ?aL ?_;(case aP => exact k56_mkM _ _ _ (⟨self,1,0,0,0⟩ : S56));(case aF => exact fun _ _ => trivial);(case aO => exact Kd.R_nil _ _ _ _ _);(case aB => exact B1.out);(case aS => exact B1.out.size);(case aL => simp);intro v3 w3 ho hb3 hg3 hat;have K3 : Aside0 (TInv w w3 v3 (tellTo self true l 0)) := ⟨by rw [E0.out];exact ⟨ho,hb3⟩⟩;clear ho hb3 hg3 hat)
      go_meet
      exact K3
  case rest =>
  have I0 := hcut
  clear hcut
  go_wp2_with fail
  go_loopg [9,26] l.length (fun kq v9 v26 wr => ∃ i : Nat,v26 = .int .i64 (i : Int) ∧ i + kq = l.length ∧ Aside0 (TInv w wr v9 (tellTo self mark l i)))
  case atStart => exact ⟨0,rfl,by simp,I0⟩
  case round =>
    obtain ⟨i,rfl,hi,HT⟩ := hrel
    have hbl := LL.out
    by_cases hil : i < l.length
    · have hiz : (i : Int) < (l.length : Int) := by omega
      obtain ⟨ad,e0,x0,x1,x2,x3,x4,x5⟩ := at_T58 (Kd.C_below HR.out HT.out.2) (i : Int) (by omega) hiz
      rw [rde,Int.toNat_natCast] at x0 x1 x2 x3 x4 x5
      obtain ⟨x,hxe⟩ : ∃ x,l.getD i z58 = x := ⟨_,rfl⟩
      rw [hxe] at x0 x1 x2 x3 x4 x5
      have XE := Aside0.mk hxe
      clear hxe
      subst e0
      obtain ⟨q,hq⟩ : ∃ q,q = wr.heap.size := ⟨_,rfl⟩
      obtain ⟨w6,hw6⟩ : ∃ w6,w6 = wr.alloc (.cells #[.int .i64 x.f0,.int .i64 x.f1,.float .f64 x.f2,.int .i64 x.f3,.float .f64 x.f4,.int .i64 x.f5] 58) := ⟨_,rfl⟩
      have B6 : Below wr.heap.size wr w6 := by rw [hw6];exact below_alloc (Below.refl _ _) _
      have T6 := Aside0.mk (HT.out.below B6)
      have Q6 : Aside0 (w6.heap[q]? = some (.cells #[.int .i64 x.f0,.int .i64 x.f1,.float .f64 x.f2,.int .i64 x.f3,.float .f64 x.f4,.int .i64 x.f5] 58 (0,0))) := ⟨by rw [hw6,hq];exact al_new _ _⟩
      clear B6
      go_upto_region 10 with fail
      rw [← hw6,← hq]
      clear hw6 hq x0 x1 x2 x3 x4 x5
      have y2 : w6.cell? ⟨q,2,none⟩ = some (.float .f64 x.f2) := (blk_cell Q6.out 2).trans rfl
      have LN := Aside0.mk (tellTo_len self mark l i)
      have HI := Aside0.mk (show math_IsInf.f x.f2 1 = some (infB x.f2) from isInf1 x.f2)
      obtain ⟨bi,hbi⟩ : ∃ bi,infB x.f2 = bi := ⟨_,rfl⟩
      rw [hbi] at HI
      cases bi with
      | true =>
        have E1 : Aside0 (tellTo self mark l (i + 1) = tellTo self mark l i) := ⟨by rw [tellTo_next _ _ _ _ hil,XE.out,farN,if_pos hbi];simp⟩
        clear hbi
        go_wp2_with (go_at_call 62;refine (math_IsInf.calls _ _ _ _ HI.out).mono ?_;rintro e w7 ⟨rfl,hd⟩;have T7 := Aside0.mk (T6.out.below hd.below);have Q7 := Aside0.mk (blk_below Q6.out hd.below);clear hd)
        go_roundg (gk - 1)
        case measure => omega
        case rel => exact ⟨i + 1,by go_num,by omega,⟨by rw [E1.out];exact T7.out⟩⟩
      | false =>
        have E1 : Aside0 (tellTo self mark l (i + 1) = tellTo self mark l i ++ [⟨x.f0,1,x.f2,0,0⟩]) := ⟨by rw [tellTo_next _ _ _ _ hil,XE.out,farN,if_neg (by rw [hbi];decide)];rfl⟩
        clear hbi
        go_wp2_with (first | (go_at_call 62;refine (math_IsInf.calls _ _ _ _ HI.out).mono ?_;rintro e w7 ⟨rfl,hd⟩;have T7 := Aside0.mk (T6.out.below hd.below);have Q7 := Aside0.mk (blk_below Q6.out hd.below);clear hd y2;have y0 : w7.cell? ⟨q,0,none⟩ = some (.int .i64 x.f0) := (blk_cell Q7.out 0).trans rfl;have y2 : w7.cell? ⟨q,2,none⟩ = some (.float .f64 x.f2) := (blk_cell Q7.out 2).trans rfl) | ((with_reducible refine gate_builtin (b := .append) (xs := #[.tmp 34,.tmp 40]) rfl ?_);at_builtin;refine Kd.R_append k56 (w0 := w) w.heap.size rfl (.tmp 34) (.tmp 40) 35 56 (.agg #[(.int .i64 0),(.int .i64 0),(.float .f64 0),(.float .f64 0),(.int .i64 0)]) 40 rfl Try.underlying35 info56 rfl (by decide) (by omega) u9 (tellTo self mark l i) ⟨x.f0,1,x.f2,0,0⟩ [.int .i64 x.f0,.int .i64 1,.float .f64 x.f2,.float .f64 0,.int .i64 0] (fun _ => True) (fun _ => False) rfl (by first | rfl | (simp [Act.eval,Act.put];done)) ?aP (fun _ hk => hk.elim) ?aF ?aO ?aB ?aS ?aL ?_;(case aP => exact k56_mkM _ _ _ (⟨x.f0,1,x.f2,0,0⟩ : S56));(case aF => exact fun _ _ => trivial);(case aO => exact T7.out.1);(case aB => exact T7.out.2);(case aS => exact T7.out.2.size);(case aL => have := LN.out;omega);intro v3 w3 ho hb3 hg3 hat;have K3 : Aside0 (TInv w w3 v3 (tellTo self mark l (i + 1))) := ⟨by rw [E1.out];exact ⟨ho,hb3⟩⟩;clear ho hb3 hg3 hat))
        go_roundg (gk - 1)
        case measure => omega
        case rel => exact ⟨i + 1,by go_num,by omega,K3⟩
    obtain rfl : i = l.length := by omega
    obtain ⟨P,hP⟩ : ∃ P,tellTo self mark l l.length = P := ⟨_,rfl⟩
    have HT2 := HT.out
    have hsm := tell_small (mark := mark) AZ.out.1 AZ.out.2 l.length
    have hnd := tell_dests (mark := mark) AZ.out.2
    have hln := tellTo_len self mark l l.length
    rw [hP] at HT2 hsm hnd hln
    have HP := Aside0.mk hP
    obtain ⟨A',c',rfl⟩ := Kd.R_slice HT2.1
    have HT3 := Aside0.mk HT2
    have HSM := Aside0.mk hsm
    have HND := Aside0.mk hnd
    have HLN := Aside0.mk hln
    clear HT HT2 hsm hnd hln hP
    go_wp2_with (go_at_call 57;refine (sort_news (fn := 66) (fun args w => enters_ Try.func66 (by kernel_rfl) rfl args w) orderN_66 HT3.out.1 HT3.out.2.size HSM.out (List.Perm.refl _) HND.out (by have := HLN.out;omega)).mono ?_;rintro e w5 ⟨rfl,hb,hc⟩;have B5 := Aside0.mk (HT3.out.2.trans hb);have C5 := Aside0.mk hc;clear hb hc)
    refine bodyPost_ret (v := .tuple #[.slice A' P.length c',.int .i64 0]) (by simp [results,Try.results30,go_sem]) rfl ?_
    exact ⟨.slice A' (sortN P).length c',by rw [sortN_len],by rw [HP.out];exact C5.out,B5.out⟩
end Go.Proofs.Ytjcnmpkaiopihaa.PA
