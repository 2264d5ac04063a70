/- delta.both's iterator, where the second list is nil. Conditions: those that the theorem names. -/
import Derived.Test.YtjcnmpkaiopihaaZmHa
import Derived.Sort.LoopGhostIn
namespace Go.Proofs.Ytjcnmpkaiopihaa.PA
open Go.RowKit Go.Proofs.YtjcnmpkaiopihaaW.PrintWords Go.Proofs.YtjcnmpkaiopihaaW.PrintLast Go.Proofs.YtjcnmpkaiopihaaW.PrintMore
set_option linter.unusedVariables false
set_option linter.unusedSimpArgs false
attribute [local go_sem] Oper.semAt_some
theorem addr_next (ad : Addr) (k : Nat) : (⟨(ad.add (k * 5)).block,(ad.add (k * 5)).off + 5,none⟩ : Addr) = ad.add ((k + 1) * 5) := by
  unfold Addr.add
  rw [if_neg (show (k + 1) * 5 ≠ 0 by omega)]
  by_cases h : k * 5 = 0
  · rw [if_pos h]
    have : k = 0 := by omega
    subst this
    rfl
  rw [if_neg h]
  simp only [Addr.mk.injEq,true_and,and_true]
  omega
theorem upon_yield {n : Nat} {P : Program} {o : Oper} {a : Act} {next : Act → World → Prop} {Q : Exit → Act → World → Prop} {l : Nat} {args : Array Value} {W : World} {R : Ending → World → Prop} (h : YieldAt Fence.wide (n - 1) P l args W R)
    (hR : ∀ e W',R e W' → e = .returned (.bool true) ∧ next (a.put o.dst (.bool true)) W') : o.uponIn Fence.wide n P a next Q ((Instr.yield l args).run P W) := by
  obtain ⟨fn,tmps,assign,body,hy,hr⟩ := h
  rw [hy]
  refine ⟨(fun h => by cases h),hr.mono ?_⟩
  intro e W' he
  obtain ⟨rfl,hn⟩ := hR e W' he
  exact hn
def bothE (ad : Addr) (nn : Nat) (x : { k : Nat // k < nn }) : Array Value := #[.pointer (some (ad.add (x.1 * 5))),.pointer none]
def BothAt (W : World) (ba bb : Nat) (ad : Addr) (nn cc k : Nat) : Prop :=
  (∃ A c,W.heap[ba]? = some (.cells #[.slice A (nn - k) c] 35 (0,0)) ∧ nn - k ≤ c ∧ (k < nn → A = some (ad.add (k * 5)))) ∧ W.heap[bb]? = some (.cells #[.slice none 0 0] 35 (0,0))
set_option maxHeartbeats 2000000 in
set_option maxRecDepth 100000 in
theorem both1_in (m ba bb : Nat) (hab : ba ≠ bb) (ad : Addr) (nn cc : Nat) (hnn : nn < 4611686018427387904) (l : Nat) (J : List { k : Nat // k < nn } → World → Prop) (W : World) (Kp : World → World → Prop) (hKp : ∀ A B,Kp A B → B.heap[ba]? = A.heap[ba]? ∧ B.heap[bb]? = A.heap[bb]?)
    (hJ : ∀ s A v,J s A → J s (A.setCell ⟨ba,0,none⟩ v)) (hJd : ∀ s A q,J s A → J s (A.drewN q))
    (hY : ∀ pre x W1,J pre W1 → pre.length < nn → YieldAt Fence.wide (m - 1) Try.prog l (bothE ad nn x) W1 fun e W' => e = .returned (.bool true) ∧ J (pre ++ [x]) W' ∧ Kp W1 W')
    (h0 : J [] W) (hB : BothAt W ba bb ad nn cc 0) :
    CallsIn Fence.wide m Try.prog 154 (#[.func (.yield l) #[] #[]] ++ #[.pointer (some ⟨ba,0,none⟩),.pointer (some ⟨bb,0,none⟩)]) W fun e W' => (∃ v,e = .returned v) ∧ ∃ xs,J xs W' := by
  have hu35 := Try.underlying35
  have hu56 := Try.underlying56
  refine callsIn_of_wp Try.func154 rfl trivial ?_ rfl
  simp only [Try.ntmps154,List.size_toArray,List.length_cons,List.length_nil,Nat.reduceAdd,Nat.reduceSub,Array.replicate_succ,Array.replicate_zero,List.push_toArray,List.append_toArray,List.nil_append,List.cons_append]
  gi_wp2
  gi_loopg [] nn (fun kq wr => ∃ (k : Nat) (pre : List { k : Nat // k < nn }),k + kq = nn ∧ pre.length = k ∧ J pre wr ∧ BothAt wr ba bb ad nn cc k)
  case atStart => exact ⟨0,[],by simp,rfl,h0,hB⟩
  case round =>
    obtain ⟨k,pre,hk,hp,hj,⟨A,c,hA,hc,hAa⟩,hB0⟩ := hrel
    have a0 := (blk_cell hA 0).trans rfl
    have b0 := (blk_cell hB0 0).trans rfl
    have az := blk_frozen hA 0
    by_cases hkn : k < nn
    rotate_left
    · have hk0 : nn - k = 0 := by omega
      rw [hk0] at a0
      gi_wp2
      go_end0
      exact ⟨⟨_,rfl⟩,pre,hj⟩
    obtain rfl := hAa hkn
    obtain ⟨r,hr⟩ : ∃ r,nn - k = r := ⟨_,rfl⟩
    rw [hr] at a0 hc
    have hA' := Aside0.mk hA
    have hr0 : 0 < r := by omega
    have hkz : (0 : Int) < (r : Int) := by omega
    have hk1 : (1 : Int) ≤ (r : Int) := by omega
    have hkc : (r : Int) ≤ (c : Int) := by omega
    have hke : ((r : Int) == 0) = false := by simp;omega
    have hkd : ¬ ((r : Int) = 0) := by omega
    have hkr := Aside0.mk (And.intro hr (And.intro hc (show 0 < r by omega)))
    clear hA hr
    gi_wp2
    refine wpIn_wide.2 ?_
    go_quiet (fail)
    gi_wp2
    refine wpIn_wide.2 ?_
    go_quiet (fail)
    gi_wp2
    all_goals (refine upon_yield (hY pre ⟨k,hkn⟩ _ (hJ _ _ _ (hJd _ _ _ hj)) (by omega)) ?_;rintro e W3 ⟨rfl,hj3,hk3⟩;refine ⟨rfl,?_⟩;obtain ⟨hka,hkb⟩ := hKp _ _ hk3;have HK3 := Aside0.mk (And.intro hka hkb);clear hka hkb hk3;gi_wp2)
    · have hr1 : r = 1 := by omega
      gi_roundg (r - 1)
      case measure => have := hkr.out;omega
      case rel =>
        have e1 : W3.heap[ba]? = some (.cells #[.slice (some (ad.add (k * 5))) (r - 1) 0] 35 (0,0)) := HK3.out.1.trans ((blk_set (show (wr.drewN _).heap[ba]? = _ from hA'.out) 0 _).trans rfl)
        have e2 : W3.heap[bb]? = some (.cells #[.slice none 0 0] 35 (0,0)) := HK3.out.2.trans (blk_far (show (wr.drewN _).heap[bb]? = _ from hB0) (fun e => hab e.symm) _)
        have e3 : nn - (k + 1) = r - 1 := by have := hkr.out;omega
        refine ⟨k + 1,pre ++ [⟨k,hkn⟩],by have := hkr.out;omega,by simp [hp],hj3,?_,e2⟩
        rw [e3]
        exact ⟨_,0,e1,by omega,fun hlt => by have := hkr.out;omega⟩
    skip
    gi_roundg (r - 1)
    case measure => have := hkr.out;omega
    case rel =>
      have e1 : W3.heap[ba]? = some (.cells #[.slice (some ⟨(ad.add (k * 5)).block,(ad.add (k * 5)).off + 5,none⟩) (r - 1) (c - 1)] 35 (0,0)) := HK3.out.1.trans ((blk_set (show (wr.drewN _).heap[ba]? = _ from hA'.out) 0 _).trans rfl)
      have e2 : W3.heap[bb]? = some (.cells #[.slice none 0 0] 35 (0,0)) := HK3.out.2.trans (blk_far (show (wr.drewN _).heap[bb]? = _ from hB0) (fun e => hab e.symm) _)
      have e3 : nn - (k + 1) = r - 1 := by have := hkr.out;omega
      refine ⟨k + 1,pre ++ [⟨k,hkn⟩],by have := hkr.out;omega,by simp [hp],hj3,?_,e2⟩
      rw [e3]
      exact ⟨_,c - 1,e1,by have := hkr.out;omega,fun hlt => congrArg some (addr_next ad k)⟩
end Go.Proofs.Ytjcnmpkaiopihaa.PA
