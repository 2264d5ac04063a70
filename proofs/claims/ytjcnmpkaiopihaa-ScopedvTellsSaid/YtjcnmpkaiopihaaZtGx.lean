/- The document's Tell in plain terms: nothing, or the news of a home and of balls, sorted by destination. Conditions: the floats are words. -/
import Derived.Test.YtjcnmpkaiopihaaZtGw
import Derived.Test.YtjcnmpkaiopihaaZtHm
import Derived.Test.YtjcnmpkaiopihaaZtPAx31
namespace Go.Proofs.Ytjcnmpkaiopihaa.PA
open Go.RowKit Go.Proofs.YtjcnmpkaiopihaaW.PrintWords Go.Proofs.YtjcnmpkaiopihaaW.PrintLast Go.Proofs.YtjcnmpkaiopihaaW.PrintMore
set_option linter.unusedVariables false
set_option linter.unusedSimpArgs false
theorem beaconref16_Tell_j0_eq (k : Nat) (x0 : Int) (x2 : List (S58)) (x25 : Bool) (x449000 : Int) (x449001 : Int) (x449002 : Nat) : beaconref16_Tell.j0 (k + 1) x0 x2 x25 x449000 x449001 x449002 = if x25 = true then (some (([] : List (S56)),1)) else (if x449001 = x0 then (beaconref16_Tell.j1 k x2 ([] : List (S56))) else (if ([] : List (S56)).length < 3518437208883 then (beaconref16_Tell.j1 k x2 (([] : List (S56)) ++ [(⟨x0,2,0,x449002,x449001⟩ : S56)])) else (none))) := by rw [beaconref16_Tell.j0]
theorem beaconref16_Tell_j1_eq (k : Nat) (x2 : List (S58)) (x8 : List (S56)) : beaconref16_Tell.j1 (k + 1) x2 x8 = beaconref16_Tell.l0 k x2 x8 0 := by rw [beaconref16_Tell.j1]
theorem beaconref16_Tell_l0_eq (k : Nat) (x2 : List (S58)) (x8 : List (S56)) (x9 : Int) : beaconref16_Tell.l0 (k + 1) x2 x8 x9 = if x9 < (x2.length : Int) then (if 0 ≤ x9 then (if ((rd_T58 x2 x9).f1) = 2 then (if x8.length < 3518437208883 then (beaconref16_Tell.l0 k x2 (x8 ++ [(⟨(rd_T58 x2 x9).f0,2,(rd_T58 x2 x9).f2,(rd_T58 x2 x9).f4,(rd_T58 x2 x9).f5⟩ : S56)]) (wrap64 (x9 + 1))) else (none)) else (beaconref16_Tell.l0 k x2 x8 (wrap64 (x9 + 1)))) else (none)) else (beaconref16_Tell.l1 k x8 0) := by rw [beaconref16_Tell.l0]
theorem beaconref16_Tell_l1_eq (k : Nat) (x8 : List (S56)) (x11 : Int) : beaconref16_Tell.l1 (k + 1) x8 x11 = if x11 < (x8.length : Int) then (beaconref16_Tell.l2 k x8 x11 x11) else (some (x8,0)) := by rw [beaconref16_Tell.l1]
theorem beaconref16_Tell_l2_eq (k : Nat) (x8 : List (S56)) (x11 : Int) (x12 : Int) : beaconref16_Tell.l2 (k + 1) x8 x11 x12 = if x12 > 0 then (if 0 ≤ x12 then (if x12 < (x8.length : Int) then (if 0 ≤ (wrap64 (x12 - 1)) then (if (wrap64 (x12 - 1)) < (x8.length : Int) then (if ((rd_T56 x8 x12).f0) < ((rd_T56 x8 (wrap64 (x12 - 1))).f0) then (beaconref16_Tell.l2 k ((x8.set (x12 : Int).toNat (⟨(rd_T56 x8 (wrap64 (x12 - 1))).f0,(rd_T56 x8 (wrap64 (x12 - 1))).f1,(rd_T56 x8 (wrap64 (x12 - 1))).f2,(rd_T56 x8 (wrap64 (x12 - 1))).f3,(rd_T56 x8 (wrap64 (x12 - 1))).f4⟩ : S56)).set ((wrap64 (x12 - 1)) : Int).toNat (⟨(rd_T56 x8 x12).f0,(rd_T56 x8 x12).f1,(rd_T56 x8 x12).f2,(rd_T56 x8 x12).f3,(rd_T56 x8 x12).f4⟩ : S56)) x11 (wrap64 (x12 - 1))) else (beaconref16_Tell.l1 k x8 (wrap64 (x11 + 1)))) else (none)) else (none)) else (none)) else (none)) else (beaconref16_Tell.l1 k x8 (wrap64 (x11 + 1))) := by rw [beaconref16_Tell.l2]
theorem ltN_lt {a b : S56} (h : ltN a b = true) : a.f0 < b.f0 := by simpa [ltN] using h
theorem ltN_not {a b : S56} (h : ltN a b = false) : ¬ a.f0 < b.f0 := by simpa [ltN] using h
theorem ltN_or {a b : S56} (hn : a.f0 ≠ b.f0) (h : ltN a b = false) : ltN b a = true := by
  cases hx : ltN b a
  · exact absurd (ltN_tot h hx) hn
  rfl
theorem sortN_of {L M : List S56} (hp : L.Perm M) (hn : (M.map (·.f0)).Nodup) (h : ByDst L) : L = sortN M :=
  byDst_unique (hp.trans (sortN_perm M).symm) h (sortN_byDst hn)
theorem nodup_midN {S T : List S56} {a b : S56} (hn : ((S ++ b :: a :: T).map (·.f0)).Nodup) : a.f0 ≠ b.f0 := by
  rw [List.map_append,List.nodup_append] at hn
  have := List.nodup_cons.1 hn.2.1
  intro e
  exact this.1 (by simp [e])
theorem swap_midN (S T : List S56) (a b : S56) : ((S ++ b :: a :: T).set (S.length + 1) b).set S.length a = S ++ a :: b :: T := by
  rw [List.set_append_right _ _ (by omega),show S.length + 1 - S.length = 1 by omega,List.set_append_right _ _ (by omega),Nat.sub_self]
  rfl
theorem tell_l2 (i : Int) (R : List S56) (r : List S56 × Int) : ∀ (n : Nat) (S1 S2 : List S56) (a : S56),S1.length = n → ((S1 ++ a :: S2).map (·.f0)).Nodup → ByDst (S1 ++ S2) → (∀ b ∈ S2,ltN a b = true) → (S1 ++ a :: (S2 ++ R)).length < 4611686018427387904 →
    (∀ L' : List S56,L'.Perm (S1 ++ a :: S2) → ByDst L' → Ev (fun k => beaconref16_Tell.l1 k (L' ++ R) (wrap64 (i + 1))) r) →
    Ev (fun k => beaconref16_Tell.l2 k (S1 ++ a :: (S2 ++ R)) i (n : Int)) r
  | 0,S1,S2,a,h1,hn,hb,ha,hl,h => by
    obtain rfl := List.length_eq_zero_iff.1 h1
    refine Ev.next (h (a :: S2) (List.Perm.refl _) (List.pairwise_cons.2 ⟨ha,hb⟩)) fun k => ?_
    rw [beaconref16_Tell_l2_eq,if_neg (by omega)]
    rfl
  | n + 1,S1,S2,a,h1,hn,hb,ha,hl,h => by
    obtain ⟨S,b,rfl⟩ : ∃ S b,S1 = S ++ [b] := by
      rcases List.eq_nil_or_concat S1 with e | ⟨S,b,e⟩
      · rw [e] at h1;simp at h1
      exact ⟨S,b,by simpa using e⟩
    have hS : S.length = n := by simpa using h1
    subst hS
    simp only [List.append_assoc,List.cons_append,List.nil_append] at hn hb hl h ⊢
    have hat : (S ++ b :: a :: (S2 ++ R)).getD (S.length + 1) z56 = a := by simp [List.getD_eq_getElem?_getD]
    have hbt : (S ++ b :: a :: (S2 ++ R)).getD S.length z56 = b := by simp [List.getD_eq_getElem?_getD]
    have hlen : (S ++ b :: a :: (S2 ++ R)).length = S.length + 2 + (S2 ++ R).length := by simp;omega
    have hpv : wrap64 (((S.length + 1 : Nat) : Int) - 1) = ((S.length : Nat) : Int) := by rw [prev64 _ (by omega) (by omega)];rfl
    have hne := nodup_midN hn
    cases hx : ltN a b
    · have hba := ltN_or hne hx
      refine Ev.next (h (S ++ b :: a :: S2) (List.Perm.refl _) ?_) fun k => ?_
      · have p := List.pairwise_append.1 hb
        have q := List.pairwise_cons.1 p.2.1
        refine List.pairwise_append.2 ⟨p.1,List.pairwise_cons.2 ⟨?_,List.pairwise_cons.2 ⟨ha,q.2⟩⟩,?_⟩
        · intro x hx
          rcases List.mem_cons.1 hx with rfl | hx
          · exact hba
          exact q.1 x hx
        intro x hxm y hy
        rcases List.mem_cons.1 hy with rfl | hy
        · exact p.2.2 x hxm _ List.mem_cons_self
        rcases List.mem_cons.1 hy with rfl | hy
        · exact ltN_trans (p.2.2 x hxm _ List.mem_cons_self) hba
        exact p.2.2 x hxm y (List.mem_cons_of_mem _ hy)
      rw [beaconref16_Tell_l2_eq,if_pos (by omega),if_pos (by omega),if_pos (by omega),hpv,if_pos (by omega),if_pos (by omega),rdn,rdn,hat,hbt,if_neg (ltN_not hx)]
      simp
    have hp : (S ++ a :: b :: S2).Perm (S ++ b :: a :: S2) := (List.Perm.swap b a S2).append_left S
    have ih := tell_l2 i R r S.length S (b :: S2) a rfl ((hp.map (·.f0)).nodup_iff.2 hn) hb (by
      intro x hx2
      rcases List.mem_cons.1 hx2 with rfl | hx2
      · exact hx
      exact ha x hx2) (by simp at hl ⊢;omega) (fun L' hL hK => h L' (hL.trans hp) hK)
    refine Ev.next ih fun k => ?_
    rw [beaconref16_Tell_l2_eq,if_pos (by omega),if_pos (by omega),if_pos (by omega),hpv,if_pos (by omega),if_pos (by omega),rdn,rdn,hat,hbt,if_pos (ltN_lt hx),Int.toNat_natCast,Int.toNat_natCast,swap_midN]
    rfl
theorem tell_l1 : ∀ (R S : List S56),((S ++ R).map (·.f0)).Nodup → ByDst S → (S ++ R).length < 4611686018427387904 → Ev (fun k => beaconref16_Tell.l1 k (S ++ R) (S.length : Int)) (sortN (S ++ R),0)
  | [],S,hn,hb,hl => by
    rw [List.append_nil] at *
    rw [← sortN_of (List.Perm.refl _) hn hb]
    refine ⟨1,fun k hk => ?_⟩
    obtain ⟨j,rfl⟩ : ∃ j,k = j + 1 := ⟨k - 1,by omega⟩
    show beaconref16_Tell.l1 (j + 1) S (S.length : Int) = some (S,0)
    rw [beaconref16_Tell_l1_eq,if_neg (by omega)]
  | a :: R,S,hn,hb,hl => by
    have hn1 : ((S ++ [a]).map (·.f0)).Nodup := by
      have e : S ++ a :: R = (S ++ [a]) ++ R := by simp
      rw [e,List.map_append,List.nodup_append] at hn
      exact hn.1
    have h4 := tell_l2 (S.length : Int) R (sortN (S ++ a :: R),0) S.length S [] a rfl hn1 (by rw [List.append_nil];exact hb) (by simp) (by simpa using hl) (fun L' hp hK => by
      have hpp : (L' ++ R).Perm (S ++ a :: R) := by
        have := hp.append_right R
        simpa using this
      have ih := tell_l1 R L' ((hpp.map (·.f0)).nodup_iff.2 hn) hK (by rw [hpp.length_eq];exact hl)
      have hll : L'.length = S.length + 1 := by rw [hp.length_eq];simp
      rw [next64 _ (by simp at hl;omega),← hll]
      have hs : sortN (L' ++ R) = sortN (S ++ a :: R) := sortN_of ((sortN_perm _).trans hpp) hn (sortN_byDst ((hpp.map (·.f0)).nodup_iff.2 hn))
      rw [← hs]
      exact ih)
    refine Ev.next h4 fun k => ?_
    rw [beaconref16_Tell_l1_eq,if_pos (by simp;omega)]
    rfl
def ownN (self home : Int) (r : Nat) : List S56 := if home = self then [] else [⟨self,2,0,r,home⟩]
def newsOf (x : S58) : Option S56 := if x.f1 = 2 then some ⟨x.f0,2,x.f2,x.f4,x.f5⟩ else none
def newsTo (self home : Int) (r : Nat) (l : List S58) (i : Nat) : List S56 := ownN self home r ++ (l.take i).filterMap newsOf
theorem newsTo_next (self home : Int) (r : Nat) (l : List S58) (i : Nat) (hi : i < l.length) : newsTo self home r l (i + 1) = newsTo self home r l i ++ (newsOf (l.getD i z58)).toList := by
  unfold newsTo
  rw [List.take_succ_eq_append_getElem hi,List.filterMap_append,List.append_assoc]
  have e : l.getD i z58 = l[i] := by simp [List.getD_eq_getElem?_getD,hi]
  rw [e]
  congr 1
theorem newsTo_len (self home : Int) (r : Nat) (l : List S58) (i : Nat) : (newsTo self home r l i).length ≤ l.length + 1 := by
  unfold newsTo ownN
  have h1 := List.length_filterMap_le newsOf (l.take i)
  have h2 : (l.take i).length ≤ l.length := by rw [List.length_take];omega
  rw [List.length_append]
  split <;> simp <;> omega
theorem balls_at {self : Int} {l : List S58} : ∀ {n i : Nat},ballsFrom self l n i = true → ∀ j,i ≤ j → j < i + n → ballAt self l j = true
  | 0,i,h,j,h1,h2 => by omega
  | n + 1,i,h,j,h1,h2 => by
    unfold ballsFrom at h
    rw [Bool.and_eq_true] at h
    by_cases e : j = i
    · rw [e];exact h.1
    exact balls_at h.2 j (by omega) (by omega)
theorem balls_rising {self : Int} {l : List S58} (h : ballsFrom self l l.length 0 = true) : ByKey l := by
  unfold ByKey
  have step : ∀ j,j + 1 < l.length → ltE (l.getD j z58) (l.getD (j + 1) z58) = true := by
    intro j hj
    have := balls_at h (j + 1) (by omega) (by omega)
    unfold ballAt at this
    rw [Bool.and_eq_true,Bool.or_eq_true] at this
    rcases this.2 with e | e
    · simp at e
    exact e
  have far : ∀ d i,i + d + 1 < l.length → ltE (l.getD i z58) (l.getD (i + d + 1) z58) = true := by
    intro d
    induction d with
    | zero => intro i hi;exact step i hi
    | succ d ih => intro i hi;exact ltE_trans (ih i (by omega)) (step (i + d + 1) (by omega))
  rw [List.pairwise_iff_getElem]
  intro i j hi hj hij
  have := far (j - i - 1) i (by omega)
  rw [show i + (j - i - 1) + 1 = j by omega] at this
  simpa [List.getD_eq_getElem?_getD,hi,hj] using this
theorem ball_props {self : Int} {x : S58} (h : okBall self x = true) : (x.f1 = 2 ∨ x.f1 = 3) ∧ okId x.f0 = true ∧ x.f0 ≠ self := by
  unfold okBall at h
  simp only [Bool.and_eq_true,Bool.or_eq_true,beq_iff_eq,Bool.not_eq_true',beq_eq_false_iff_ne] at h
  exact ⟨h.1,h.2.1,h.2.2.1⟩
theorem balls_mem {self : Int} {l : List S58} (h : ballsFrom self l l.length 0 = true) : ∀ x ∈ l,okBall self x = true := by
  intro x hx
  obtain ⟨i,hi,rfl⟩ := List.mem_iff_getElem.1 hx
  have := balls_at h i (by omega) (by omega)
  unfold ballAt at this
  rw [Bool.and_eq_true] at this
  have e : l.getD i z58 = l[i] := by simp [List.getD_eq_getElem?_getD,hi]
  rw [← e]
  exact this.1
theorem newsOf_dest {x : S58} {n : S56} (h : newsOf x = some n) : x.f1 = 2 ∧ n.f0 = x.f0 := by
  unfold newsOf at h
  split at h
  · rename_i e
    rw [← Option.some.inj h]
    exact ⟨e,rfl⟩
  cases h
theorem filt_dests : ∀ {l : List S58},ByKey l → ((l.filterMap newsOf).map (·.f0)).Nodup
  | [],_ => by simp
  | a :: r,h => by
    have p := List.pairwise_cons.1 h
    have ih := filt_dests p.2
    rw [List.filterMap_cons]
    cases hn : newsOf a with
    | none => exact ih
    | some n =>
      show ((n :: r.filterMap newsOf).map (·.f0)).Nodup
      rw [List.map_cons,List.nodup_cons]
      refine ⟨fun hm => ?_,ih⟩
      obtain ⟨m,hm1,hm2⟩ := List.mem_map.1 hm
      obtain ⟨y,hy,hyn⟩ := List.mem_filterMap.1 hm1
      have hlt := p.1 y hy
      obtain ⟨e1,e2⟩ := newsOf_dest hn
      obtain ⟨e3,e4⟩ := newsOf_dest hyn
      unfold ltE at hlt
      simp only [e1,e3,Bool.or_eq_true,decide_eq_true_eq,Bool.and_eq_true,beq_iff_eq] at hlt
      rw [e4,e2] at hm2
      omega
theorem news_dests {self home : Int} {r : Nat} {l : List S58} (h : ballsFrom self l l.length 0 = true) : ((newsTo self home r l l.length).map (·.f0)).Nodup := by
  have h1 := filt_dests (balls_rising h)
  unfold newsTo ownN
  rw [List.take_length]
  split
  · simpa using h1
  rw [List.singleton_append,List.map_cons,List.nodup_cons]
  refine ⟨fun hm => ?_,h1⟩
  obtain ⟨m,hm1,hm2⟩ := List.mem_map.1 hm
  obtain ⟨y,hy,hyn⟩ := List.mem_filterMap.1 hm1
  obtain ⟨_,e4⟩ := newsOf_dest hyn
  exact (ball_props (balls_mem h y hy)).2.2 (by rw [← e4,hm2])
theorem news_small {self home : Int} {r : Nat} {l : List S58} (hs : okId self = true) (h : ballsFrom self l l.length 0 = true) (i : Nat) : ∀ n ∈ newsTo self home r l i,SmallN n := by
  intro n hn
  unfold newsTo at hn
  rcases List.mem_append.1 hn with hn | hn
  · unfold ownN at hn
    split at hn
    · simp at hn
    rw [List.mem_singleton.1 hn]
    have := okId_bounds hs
    unfold SmallN
    show 0 ≤ self ∧ self ≤ _
    omega
  obtain ⟨y,hy,hyn⟩ := List.mem_filterMap.1 hn
  obtain ⟨_,e4⟩ := newsOf_dest hyn
  have := okId_bounds (ball_props (balls_mem h y (List.mem_of_mem_take hy))).2.1
  unfold SmallN
  rw [e4]
  omega
def tellV (self id home : Int) (r : Nat) (l : List S58) : List S56 × Int :=
  if okId self = true then (if okHome self id home r = true ∧ ballsFrom self l l.length 0 = true then (sortN (newsTo self home r l l.length),0) else ([],1)) else ([],20)
theorem tell_l0 (self home : Int) (r : Nat) (l : List S58) (hl : l.length < 2932031007402) (hb : ballsFrom self l l.length 0 = true) : ∀ (n i : Nat),i + n = l.length → Ev (fun k => beaconref16_Tell.l0 k l (newsTo self home r l i) (i : Int)) (sortN (newsTo self home r l l.length),0)
  | 0,i,e => by
    obtain rfl : i = l.length := by omega
    have hlen := newsTo_len self home r l l.length
    have h1 := tell_l1 (newsTo self home r l l.length) [] (by simpa using news_dests hb) List.Pairwise.nil (by simp;omega)
    refine Ev.next h1 fun k => ?_
    rw [beaconref16_Tell_l0_eq,if_neg (by omega)]
    rfl
  | n + 1,i,e => by
    have ih := tell_l0 self home r l hl hb n (i + 1) (by omega)
    have hlen := newsTo_len self home r l i
    rw [newsTo_next _ _ _ _ _ (by omega)] at ih
    refine Ev.next ih fun k => ?_
    rw [beaconref16_Tell_l0_eq,if_pos (by omega),if_pos (by omega),rde,next64 _ (by omega)]
    by_cases h2 : (l.getD i z58).f1 = 2
    · rw [if_pos h2,if_pos (by omega),newsOf,if_pos h2]
      rfl
    rw [if_neg h2,newsOf,if_neg h2]
    simp
theorem tell_ref (self id home : Int) (r : Nat) (l : List S58) (hl : l.length < 2932031007402) : Ev (fun k => beaconref16_Tell.f k self id home r l) (tellV self id home r l) := by
  have j0 : Ev (fun k => beaconref16_Tell.j0 k self l true id home r) (([] : List S56),1) := by
    refine ⟨1,fun k hk => ?_⟩
    obtain ⟨j,rfl⟩ : ∃ j,k = j + 1 := ⟨k - 1,by omega⟩
    show beaconref16_Tell.j0 (j + 1) self l true id home r = _
    rw [beaconref16_Tell_j0_eq,if_pos rfl]
  unfold tellV
  cases hs : okId self
  · rw [if_neg (by decide)]
    refine ⟨0,fun k _ => ?_⟩
    show beaconref16_Tell.f k self id home r l = _
    unfold beaconref16_Tell.f
    rw [num16,hs,Option.bind_some,if_neg (by decide)]
  rw [if_pos rfl]
  cases hh : okHome self id home r
  · rw [if_neg (by simp)]
    obtain ⟨K,hK⟩ := j0
    refine ⟨K,fun k hk => ?_⟩
    show beaconref16_Tell.f k self id home r l = _
    unfold beaconref16_Tell.f
    rw [num16,hs,Option.bind_some,if_pos rfl,mayHome_all,hh,Option.bind_some,if_neg (by decide)]
    exact hK k hk
  cases hb : ballsFrom self l l.length 0
  · rw [if_neg (by simp)]
    obtain ⟨K,hK⟩ := j0
    refine ⟨K + 5 * l.length + 1,fun k hk => ?_⟩
    show beaconref16_Tell.f k self id home r l = _
    unfold beaconref16_Tell.f
    rw [num16,hs,Option.bind_some,if_pos rfl,mayHome_all,hh,Option.bind_some,if_pos rfl,mayBalls_all _ _ (by omega) _ (by omega),hb,Option.bind_some]
    exact hK k (by omega)
  rw [if_pos ⟨rfl,rfl⟩]
  have h0 := tell_l0 self home r l hl hb l.length 0 (by omega)
  have h1 : Ev (fun k => beaconref16_Tell.j1 k l (newsTo self home r l 0)) (sortN (newsTo self home r l l.length),0) := Ev.next h0 fun k => by rw [beaconref16_Tell_j1_eq];rfl
  have h2 : Ev (fun k => beaconref16_Tell.j0 k self l false id home r) (sortN (newsTo self home r l l.length),0) := Ev.next h1 fun k => by
    rw [beaconref16_Tell_j0_eq,if_neg (by decide)]
    unfold newsTo ownN
    by_cases hhs : home = self
    · rw [if_pos hhs,if_pos hhs]
      rfl
    rw [if_neg hhs,if_neg hhs,if_pos (by simp)]
    rfl
  obtain ⟨K,hK⟩ := h2
  refine ⟨K + 5 * l.length + 1,fun k hk => ?_⟩
  show beaconref16_Tell.f k self id home r l = _
  unfold beaconref16_Tell.f
  rw [num16,hs,Option.bind_some,if_pos rfl,mayHome_all,hh,Option.bind_some,if_pos rfl,mayBalls_all _ _ (by omega) _ (by omega),hb,Option.bind_some]
  exact hK k (by omega)
end Go.Proofs.Ytjcnmpkaiopihaa.PA
