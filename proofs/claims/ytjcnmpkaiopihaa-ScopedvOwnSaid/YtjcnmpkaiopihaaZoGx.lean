/- The document's Tell in plain terms: nothing, or the news of a home and of balls, sorted by destination. Conditions: the floats are words. -/
import Derived.Test.YtjcnmpkaiopihaaZoGw
import Derived.Test.YtjcnmpkaiopihaaZoHm
import Derived.Test.YtjcnmpkaiopihaaZoMn
import Derived.Test.YtjcnmpkaiopihaaZoPAx0
import Derived.Test.YtjcnmpkaiopihaaZoPAx29
import Derived.Test.YtjcnmpkaiopihaaZoPAx30
namespace Go.Proofs.Ytjcnmpkaiopihaa.PA
open Go.RowKit Go.Proofs.YtjcnmpkaiopihaaW.PrintWords Go.Proofs.YtjcnmpkaiopihaaW.PrintLast Go.Proofs.YtjcnmpkaiopihaaW.PrintMore
set_option linter.unusedVariables false
set_option linter.unusedSimpArgs false
theorem ltN_lt {a b : S56} (h : ltN a b = true) : a.f0 < b.f0 := by simpa [ltN] using h
def ownN (self home : Int) (r : Nat) : List S56 := if home = self then [] else [⟨self,2,0,r,home⟩]
def newsOf (x : S58) : Option S56 := if x.f1 = 2 then some ⟨x.f0,2,x.f2,x.f4,x.f5⟩ else none
def newsTo (self home : Int) (r : Nat) (l : List S58) (i : Nat) : List S56 := ownN self home r ++ (l.take i).filterMap newsOf
theorem newsTo_next (self home : Int) (r : Nat) (l : List S58) (i : Nat) (hi : i < l.length) : newsTo self home r l (i + 1) = newsTo self home r l i ++ (newsOf (l.getD i z58)).toList := by
  unfold newsTo
  rw [List.take_succ_eq_append_getElem hi,List.filterMap_append,List.append_assoc]
  have e : l.getD i z58 = l[i] := by simp [List.getD_eq_getElem?_getD,hi]
  rw [e]
  congr 1
theorem newsTo_len (self home : Int) (r : Nat) (l : List S58) (i : Nat) : (newsTo self home r l i).length ≤ l.length + 1 := by
  unfold newsTo ownN
  have h1 := List.length_filterMap_le newsOf (l.take i)
  have h2 : (l.take i).length ≤ l.length := by rw [List.length_take];omega
  rw [List.length_append]
  split <;> simp <;> omega
theorem balls_at {self : Int} {l : List S58} : ∀ {n i : Nat},ballsFrom self l n i = true → ∀ j,i ≤ j → j < i + n → ballAt self l j = true
  | 0,i,h,j,h1,h2 => by omega
  | n + 1,i,h,j,h1,h2 => by
    unfold ballsFrom at h
    rw [Bool.and_eq_true] at h
    by_cases e : j = i
    · rw [e];exact h.1
    exact balls_at h.2 j (by omega) (by omega)
theorem balls_rising {self : Int} {l : List S58} (h : ballsFrom self l l.length 0 = true) : ByKey l := by
  unfold ByKey
  have step : ∀ j,j + 1 < l.length → ltE (l.getD j z58) (l.getD (j + 1) z58) = true := by
    intro j hj
    have := balls_at h (j + 1) (by omega) (by omega)
    unfold ballAt at this
    rw [Bool.and_eq_true,Bool.or_eq_true] at this
    rcases this.2 with e | e
    · simp at e
    exact e
  have far : ∀ d i,i + d + 1 < l.length → ltE (l.getD i z58) (l.getD (i + d + 1) z58) = true := by
    intro d
    induction d with
    | zero => intro i hi;exact step i hi
    | succ d ih => intro i hi;exact ltE_trans (ih i (by omega)) (step (i + d + 1) (by omega))
  rw [List.pairwise_iff_getElem]
  intro i j hi hj hij
  have := far (j - i - 1) i (by omega)
  rw [show i + (j - i - 1) + 1 = j by omega] at this
  simpa [List.getD_eq_getElem?_getD,hi,hj] using this
theorem ball_props {self : Int} {x : S58} (h : okBall self x = true) : (x.f1 = 2 ∨ x.f1 = 3) ∧ okId x.f0 = true ∧ x.f0 ≠ self := by
  unfold okBall at h
  simp only [Bool.and_eq_true,Bool.or_eq_true,beq_iff_eq,Bool.not_eq_true',beq_eq_false_iff_ne] at h
  exact ⟨h.1,h.2.1,h.2.2.1⟩
theorem balls_mem {self : Int} {l : List S58} (h : ballsFrom self l l.length 0 = true) : ∀ x ∈ l,okBall self x = true := by
  intro x hx
  obtain ⟨i,hi,rfl⟩ := List.mem_iff_getElem.1 hx
  have := balls_at h i (by omega) (by omega)
  unfold ballAt at this
  rw [Bool.and_eq_true] at this
  have e : l.getD i z58 = l[i] := by simp [List.getD_eq_getElem?_getD,hi]
  rw [← e]
  exact this.1
theorem newsOf_dest {x : S58} {n : S56} (h : newsOf x = some n) : x.f1 = 2 ∧ n.f0 = x.f0 := by
  unfold newsOf at h
  split at h
  · rename_i e
    rw [← Option.some.inj h]
    exact ⟨e,rfl⟩
  cases h
theorem filt_dests : ∀ {l : List S58},ByKey l → ((l.filterMap newsOf).map (·.f0)).Nodup
  | [],_ => by simp
  | a :: r,h => by
    have p := List.pairwise_cons.1 h
    have ih := filt_dests p.2
    rw [List.filterMap_cons]
    cases hn : newsOf a with
    | none => exact ih
    | some n =>
      show ((n :: r.filterMap newsOf).map (·.f0)).Nodup
      rw [List.map_cons,List.nodup_cons]
      refine ⟨fun hm => ?_,ih⟩
      obtain ⟨m,hm1,hm2⟩ := List.mem_map.1 hm
      obtain ⟨y,hy,hyn⟩ := List.mem_filterMap.1 hm1
      have hlt := p.1 y hy
      obtain ⟨e1,e2⟩ := newsOf_dest hn
      obtain ⟨e3,e4⟩ := newsOf_dest hyn
      unfold ltE at hlt
      simp only [e1,e3,Bool.or_eq_true,decide_eq_true_eq,Bool.and_eq_true,beq_iff_eq] at hlt
      rw [e4,e2] at hm2
      omega
theorem news_dests {self home : Int} {r : Nat} {l : List S58} (h : ballsFrom self l l.length 0 = true) : ((newsTo self home r l l.length).map (·.f0)).Nodup := by
  have h1 := filt_dests (balls_rising h)
  unfold newsTo ownN
  rw [List.take_length]
  split
  · simpa using h1
  rw [List.singleton_append,List.map_cons,List.nodup_cons]
  refine ⟨fun hm => ?_,h1⟩
  obtain ⟨m,hm1,hm2⟩ := List.mem_map.1 hm
  obtain ⟨y,hy,hyn⟩ := List.mem_filterMap.1 hm1
  obtain ⟨_,e4⟩ := newsOf_dest hyn
  exact (ball_props (balls_mem h y hy)).2.2 (by rw [← e4,hm2])
theorem news_small {self home : Int} {r : Nat} {l : List S58} (hs : okId self = true) (h : ballsFrom self l l.length 0 = true) (i : Nat) : ∀ n ∈ newsTo self home r l i,SmallN n := by
  intro n hn
  unfold newsTo at hn
  rcases List.mem_append.1 hn with hn | hn
  · unfold ownN at hn
    split at hn
    · simp at hn
    rw [List.mem_singleton.1 hn]
    have := okId_bounds hs
    unfold SmallN
    show 0 ≤ self ∧ self ≤ _
    omega
  obtain ⟨y,hy,hyn⟩ := List.mem_filterMap.1 hn
  obtain ⟨_,e4⟩ := newsOf_dest hyn
  have := okId_bounds (ball_props (balls_mem h y (List.mem_of_mem_take hy))).2.1
  unfold SmallN
  rw [e4]
  omega
def tellV (self id home : Int) (r : Nat) (l : List S58) : List S56 × Int :=
  if okId self = true then (if okHome self id home r = true ∧ ballsFrom self l l.length 0 = true then (sortN (newsTo self home r l l.length),0) else ([],1)) else ([],20)
end Go.Proofs.Ytjcnmpkaiopihaa.PA
