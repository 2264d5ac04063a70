/- What Balls makes may be told, and what Tell makes of it is a list. Conditions: words, lists that fit. -/
import Derived.Test.YtjcnmpkaiopihaaZoFx
import Derived.Test.YtjcnmpkaiopihaaZoGx
import Derived.Test.YtjcnmpkaiopihaaZoStScopedvOwn
namespace Go.Proofs.Ytjcnmpkaiopihaa.PA
open Go.RowKit Go.Proofs.YtjcnmpkaiopihaaW.PrintWords
set_option linter.unusedVariables false
set_option linter.unusedSimpArgs false
theorem near_at {l : List S56} : ∀ {n i : Nat},nearFrom l n i = true → ∀ j,i ≤ j → j < i + n → infB (l.getD j z56).f2 = false
  | 0,i,h,j,h1,h2 => by omega
  | n + 1,i,h,j,h1,h2 => by
    unfold nearFrom at h
    rw [Bool.and_eq_true] at h
    by_cases e : j = i
    · rw [e];simpa using h.1
    exact near_at h.2 j (by omega) (by omega)
def FullH (self : Int) (h : S54) : Prop := okId h.f0 = true ∧ wE h.f1 = 0 ∧ h.f1 < 18446744073709551616 ∧ ∀ n ∈ h.f2,mayB n = true ∧ infB n.f2 = false ∧ n.f2 < 18446744073709551616 ∧ n.f3 < 18446744073709551616
theorem fullH_of {self : Int} {l : List S54} (hw : HeardW l) (hc : ckE self l = 0) : okId self = true ∧ ∀ h ∈ l,FullH self h := by
  unfold ckE at hc
  have h1 : okId self = true := by
    cases h1 : okId self
    · rw [h1] at hc;cases hc
    rfl
  rw [h1] at hc
  have hh : heardFrom self l l.length 0 = true := by
    cases h2 : heardFrom self l l.length 0
    · rw [h2] at hc;cases hc
    rfl
  refine ⟨h1,?_⟩
  intro h hm
  obtain ⟨i,hi,rfl⟩ := List.mem_iff_getElem.1 hm
  have hk := heard_at hh i (by omega) (by omega)
  have hat : l.getD i z54 = l[i] := by simp [List.getD_eq_getElem?_getD,hi]
  unfold okHeard at hk
  rw [hat] at hk
  simp only [Bool.and_eq_true] at hk
  have hwi := hw _ (List.getElem_mem hi)
  refine ⟨hk.1,by simpa using hk.2.2.2.1,hwi.1,fun n hn => ?_⟩
  have hl := hk.2.2.2.2
  unfold listB at hl
  rw [Bool.and_eq_true] at hl
  obtain ⟨j,hj,rfl⟩ := List.mem_iff_getElem.1 hn
  have ha := ris_at hl.2 j (by omega) (by omega)
  have hb := near_at hl.1 j (by omega) (by omega)
  have hjt : l[i].f2.getD j z56 = l[i].f2[j] := by simp [List.getD_eq_getElem?_getD,hj]
  unfold okAt at ha
  rw [hjt] at ha hb
  rw [Bool.and_eq_true] at ha
  have hwn := hwi.2.1 _ hn
  exact ⟨ha.1,hb,hwn.1,hwn.2⟩
theorem foldB_mem {self : Int} {max : Nat} {frm : Int} {w : Nat} {x : S58} : ∀ (ns : List S56) (M : List S58),x ∈ ns.foldl (stepB self max frm w) M → x ∈ M ∨ ∃ n ∈ ns,cntB self w n max = true ∧ x = knownE self frm w n max
  | [],M,h => .inl h
  | a :: r,M,h => by
    rcases foldB_mem r _ h with h | ⟨n,hn,h1,h2⟩
    · unfold stepB at h
      split at h
      · rename_i hc
        rcases addB_mem h with h | h
        · exact .inr ⟨a,List.mem_cons_self,hc,h⟩
        exact .inl h
      exact .inl h
    exact .inr ⟨n,List.mem_cons_of_mem _ hn,h1,h2⟩
theorem allB_mem' {self : Int} {max : Nat} {x : S58} : ∀ (l : List S54) (M : List S58),x ∈ l.foldl (oneB self max) M → x ∈ M ∨ ∃ h ∈ l,∃ n ∈ h.f2,cntB self h.f1 n max = true ∧ x = knownE self h.f0 h.f1 n max
  | [],M,h => .inl h
  | a :: r,M,h => by
    rcases allB_mem' r _ h with h | ⟨b,hb,n,hn,h1,h2⟩
    · rcases foldB_mem a.f2 M h with h | ⟨n,hn,h1,h2⟩
      · exact .inl h
      exact .inr ⟨a,List.mem_cons_self,n,hn,h1,h2⟩
    exact .inr ⟨b,List.mem_cons_of_mem _ hb,n,hn,h1,h2⟩
theorem allB_mem {self : Int} {max : Nat} {l : List S54} {x : S58} (h : x ∈ allB self max l) : ∃ h ∈ l,∃ n ∈ h.f2,cntB self h.f1 n max = true ∧ x = knownE self h.f0 h.f1 n max := by
  rcases allB_mem' l [] h with h | h
  · simp at h
  exact h
theorem sum_q (w b : Nat) (hw : 4 ≤ w ∧ w ≤ 4194304) (hb : b < 4294967296) (hi : infB (addV (bq w) (bq b) 4647714815446351872) = false) : addV (bq w) (bq b) 4647714815446351872 = bq (w + b) ∧ w + b < 2048 := by
  have hadd : floatBits .add .f64 (bq w) (bq b) = some (bq (w + b)) := add_bq w b (by omega)
  obtain ⟨m,i,hr,_⟩ := read_bq (w + b) (by omega)
  have hnan : (Ieee.double.read (bq (w + b))).isNaN = false := by rw [hr];rfl
  have hlim : bq 2048 = 4647714815446351872 := by decide
  have hz : (FloatKind.f64.format.order (bq (w + b)) 0 == some .eq) = false := by
    have e := order_bq (w + b) 0 (by omega) (by decide)
    rw [bq_zero] at e
    rw [e,Nat.compare_eq_gt.2 (by omega)]
    rfl
  have hlt : (FloatKind.f64.format.order (bq (w + b)) 4647714815446351872 == some .lt) = decide (w + b < 2048) := by
    rw [← hlim,order_bq (w + b) 2048 (by omega) (by decide)]
    rcases Nat.lt_trichotomy (w + b) 2048 with h | h | h
    · rw [Nat.compare_eq_lt.2 h,decide_eq_true h];rfl
    · rw [Nat.compare_eq_eq.2 h,decide_eq_false (by omega)];rfl
    rw [Nat.compare_eq_gt.2 h,decide_eq_false (by omega)];rfl
  have hv : addV (bq w) (bq b) 4647714815446351872 = if w + b < 2048 then bq (w + b) else (math_Inf.f 1).getD 0 := by
    unfold addV metric_Add.f
    rw [hadd,Option.bind_some,nan_read,hnan,Option.bind_some,if_neg (by decide),hlt,hz]
    by_cases h : w + b < 2048
    · rw [if_pos h,if_pos (decide_eq_true h),if_neg (by decide)]
      rfl
    rw [if_neg h,decide_eq_false h,if_neg (by decide)]
    cases math_Inf.f 1 <;> rfl
  rw [hv] at hi ⊢
  by_cases h : w + b < 2048
  · rw [if_pos h]
    exact ⟨rfl,h⟩
  rw [if_neg h] at hi
  have : infB ((math_Inf.f 1).getD 0) = true := by decide
  rw [this] at hi
  cases hi
theorem okBall_of {self : Int} {h : S54} {n : S56} (hh : FullH self h) (hn : n ∈ h.f2) (hc : cntB self h.f1 n 4647714815446351872 = true) :
    okBall self (knownE self h.f0 h.f1 n 4647714815446351872) = true ∧ (knownE self h.f0 h.f1 n 4647714815446351872).f2 < 18446744073709551616 ∧ (knownE self h.f0 h.f1 n 4647714815446351872).f4 < 18446744073709551616 := by
  obtain ⟨h1,h2,h3,h4⟩ := hh
  obtain ⟨hm,hi,hw2,hw3⟩ := h4 n hn
  obtain ⟨w,w4,wM,hw⟩ := (weight_all h.f1 h3).2.2 h2
  have hm0 := hm
  unfold mayB at hm
  simp only [Bool.and_eq_true] at hm
  obtain ⟨m1,m2,m3,m4⟩ := hm
  obtain ⟨b,hb,hbq⟩ := far_q n.f2 hw2 m3 hi
  unfold cntB knownC at hc
  simp only [Bool.and_eq_true,Bool.not_eq_true',beq_iff_eq] at hc
  obtain ⟨k0,k1,k2,k3⟩ := hc
  obtain ⟨e,hs⟩ := sum_q w b ⟨w4,wM⟩ hb (by rw [← hw,← hbq];exact k1)
  have ed : addV h.f1 n.f2 4647714815446351872 = bq (w + b) := by rw [hw,hbq];exact e
  rw [ed] at k1 k3
  have hlt : lessB n.f3 (bq (w + b)) = false := by
    rw [Bool.or_eq_true] at k3
    rcases k3 with k3 | k3
    · exact order_lt_not _ _ k3
    rw [Bool.and_eq_true] at k3
    exact order_eq_not _ _ k3.1
  have hz : zeroB (bq (w + b)) = false := by
    have e := order_bq (w + b) 0 (by omega) (by decide)
    rw [bq_zero] at e
    unfold zeroB
    rw [e,Nat.compare_eq_gt.2 (by omega)]
    rfl
  have hne : (n.f1 == 1) = false := by rw [k0];decide
  rw [hi,hne] at m4
  unfold restB at m4
  rw [Bool.or_false,if_neg (by decide)] at m4
  have m5 : farB n.f3 = true ∧ (if infB n.f3 = true then n.f4 == 0 else okId n.f4) = true := by
    by_cases h7 : infB n.f3 = true
    · rw [if_pos h7] at m4
      rw [if_pos h7]
      exact ⟨inf_far h7,m4⟩
    rw [if_neg h7,Bool.and_eq_true] at m4
    rw [if_neg h7]
    exact m4
  have hbw := (bq_word (w + b) (by omega)).1
  unfold okBall knownE
  rw [ed]
  refine ⟨?_,by show bq (w + b) < _;omega,hw3⟩
  have k2' : (n.f0 == self) = false := by simpa using k2
  simp only [m1,k2',h1,far_bq (w + b) (by omega),hz,k1,m5.1,m5.2,hlt,Bool.not_false,Bool.and_self,Bool.and_true]
  split <;> rfl
theorem balls_told {self : Int} {l : List S54} (hw : HeardW l) (hc : ckE self l = 0) : ballsFrom self (sortE (allB self 4647714815446351872 l)) (sortE (allB self 4647714815446351872 l)).length 0 = true ∧ EntsW (sortE (allB self 4647714815446351872 l)) := by
  obtain ⟨_,hf⟩ := fullH_of hw hc
  have hk := sortE_byKey (allB_dests self 4647714815446351872 l)
  have hmem : ∀ x ∈ sortE (allB self 4647714815446351872 l),okBall self x = true ∧ x.f2 < 18446744073709551616 ∧ x.f4 < 18446744073709551616 := by
    intro x hx
    obtain ⟨h,hh,n,hn,h1,rfl⟩ := allB_mem ((sortE_perm _).mem_iff.1 hx)
    exact okBall_of (hf h hh) hn h1
  refine ⟨?_,fun x hx => (hmem x hx).2⟩
  generalize sortE (allB self 4647714815446351872 l) = L at hk hmem
  have hall : ∀ j,j < L.length → ballAt self L j = true := by
    intro j hj
    unfold ballAt
    have e : L.getD j z58 = L[j] := by simp [List.getD_eq_getElem?_getD,hj]
    rw [e,(hmem _ (List.getElem_mem hj)).1,Bool.true_and]
    by_cases h0 : j = 0
    · simp [h0]
    have e1 : L.getD (j - 1) z58 = L[j - 1] := by
      have : j - 1 < L.length := by omega
      simp [List.getD_eq_getElem?_getD,this]
    rw [e1,List.pairwise_iff_getElem.1 hk (j - 1) j (by omega) hj (by omega),Bool.or_true]
  have go : ∀ n i,i + n = L.length → ballsFrom self L n i = true := by
    intro n
    induction n with
    | zero => intro i _;rfl
    | succ n ih =>
      intro i hi
      unfold ballsFrom
      rw [hall i (by omega),ih (i + 1) (by omega)]
      rfl
  exact go L.length 0 (by omega)
theorem tell_list {self id home : Int} {r : Nat} {L : List S58} (hs : okId self = true) (hh : okHome self id home r = true) (hb : ballsFrom self L L.length 0 = true) : listB (sortN (newsTo self home r L L.length)) = true := by
  have hk := sortN_byDst (news_dests (home := home) (r := r) hb)
  have hmem : ∀ n ∈ sortN (newsTo self home r L L.length),mayB n = true ∧ infB n.f2 = false ∧ n.f1 = 2 := by
    intro n hn
    have hn := (sortN_perm _).mem_iff.1 hn
    unfold newsTo at hn
    rcases List.mem_append.1 hn with hn | hn
    · unfold ownN at hn
      split at hn
      · simp at hn
      rw [List.mem_singleton.1 hn]
      unfold okHome at hh
      rw [Bool.and_eq_true] at hh
      have h2 := hh.2
      have i0 : infB 0 = false := by decide
      refine ⟨?_,i0,rfl⟩
      unfold mayB restB
      simp only [hs,far_zero,i0,Bool.true_and]
      cases hi : infB r
      · rw [hi] at h2
        rw [if_neg (by decide)] at h2
        simp only [Bool.and_eq_true] at h2
        simp [h2.1,h2.2.1]
      rw [hi,if_pos rfl] at h2
      simpa using h2
    obtain ⟨y,hy,hyn⟩ := List.mem_filterMap.1 hn
    rw [List.take_length] at hy
    have hok := balls_mem hb y hy
    unfold newsOf at hyn
    split at hyn
    · rename_i h2
      rw [← Option.some.inj hyn]
      unfold okBall at hok
      simp only [Bool.and_eq_true,Bool.not_eq_true'] at hok
      obtain ⟨_,b1,b2,b3,b4,b5,b6,b7,b8,b9⟩ := hok
      refine ⟨?_,b6,rfl⟩
      unfold mayB restB
      simp only [b1,b4,b6,Bool.true_and]
      cases hi : infB y.f4
      · rw [hi,if_neg (by decide)] at b9
        simp [b7,b9]
      rw [hi,if_pos rfl] at b9
      simpa using b9
    cases hyn
  generalize sortN (newsTo self home r L L.length) = M at hk hmem
  have hgt : ∀ j (hj : j < M.length),M.getD j z56 = M[j] := fun j hj => by simp [List.getD_eq_getElem?_getD,hj]
  have hall : ∀ j,j < M.length → okAt M j = true := by
    intro j hj
    unfold okAt
    rw [hgt j hj,(hmem _ (List.getElem_mem hj)).1,Bool.true_and]
    by_cases h0 : j = 0
    · simp [h0]
    have hj1 : j - 1 < M.length := by omega
    rw [hgt (j - 1) hj1]
    have h5 := ltN_lt (List.pairwise_iff_getElem.1 hk (j - 1) j hj1 hj (by omega))
    unfold aheadB
    rw [(hmem _ (List.getElem_mem hj)).2.2,(hmem _ (List.getElem_mem hj1)).2.2]
    simp [h5]
  have go : ∀ n i,i + n = M.length → risFrom M n i = true ∧ nearFrom M n i = true := by
    intro n
    induction n with
    | zero => intro i _;exact ⟨rfl,rfl⟩
    | succ n ih =>
      intro i hi
      obtain ⟨a,b⟩ := ih (i + 1) (by omega)
      unfold risFrom nearFrom
      rw [hall i (by omega),a,b,hgt i (by omega),(hmem _ (List.getElem_mem (by omega))).2.1]
      exact ⟨rfl,rfl⟩
  unfold listB
  rw [(go M.length 0 (by omega)).1,(go M.length 0 (by omega)).2]
  rfl
end Go.Proofs.Ytjcnmpkaiopihaa.PA
