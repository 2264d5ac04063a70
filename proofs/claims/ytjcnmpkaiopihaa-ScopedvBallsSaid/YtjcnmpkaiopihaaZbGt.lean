/- The document's sorting of balls in plain terms: insertion is sortE. Condition: no destination twice. -/
import Derived.Test.YtjcnmpkaiopihaaZbGs
namespace Go.Proofs.Ytjcnmpkaiopihaa.PA
open Go.RowKit Go.Proofs.YtjcnmpkaiopihaaW.PrintWords Go.Proofs.YtjcnmpkaiopihaaW.PrintLast Go.Proofs.YtjcnmpkaiopihaaW.PrintMore
set_option linter.unusedVariables false
set_option linter.unusedSimpArgs false
theorem ahead16_is (a b : S58) : beaconref16_ahead.f a.f0 a.f1 a.f2 a.f3 a.f4 a.f5 b.f0 b.f1 b.f2 b.f3 b.f4 b.f5 = some (ltE a b) := by
  unfold beaconref16_ahead.f ltE
  by_cases h1 : a.f1 < b.f1
  · simp [h1]
  by_cases h2 : a.f1 = b.f1
  · simp [h1,h2]
  simp [h1,h2]
theorem ltE_or {a b : S58} (hn : a.f0 ≠ b.f0) (h : ltE a b = false) : ltE b a = true := by
  cases hx : ltE b a
  · exact absurd (ltE_tot h hx) hn
  rfl
theorem sortE_of {L M : List S58} (hp : L.Perm M) (hn : (M.map (·.f0)).Nodup) (h : ByKey L) : L = sortE M :=
  byKey_unique (hp.trans (sortE_perm M).symm) h (sortE_byKey hn)
theorem nodup_mid {S T : List S58} {a b : S58} (hn : ((S ++ b :: a :: T).map (·.f0)).Nodup) : a.f0 ≠ b.f0 := by
  rw [List.map_append,List.nodup_append] at hn
  have := List.nodup_cons.1 hn.2.1
  intro e
  exact this.1 (by simp [e])
theorem swap_mid (S T : List S58) (a b : S58) : ((S ++ b :: a :: T).set (S.length + 1) b).set S.length a = S ++ a :: b :: T := by
  rw [List.set_append_right _ _ (by omega),show S.length + 1 - S.length = 1 by omega,List.set_append_right _ _ (by omega),Nat.sub_self]
  rfl
theorem balls_l4 (i : Int) (R : List S58) (r : List S58 × Int) : ∀ (n : Nat) (S1 S2 : List S58) (a : S58),S1.length = n → ((S1 ++ a :: S2).map (·.f0)).Nodup → ByKey (S1 ++ S2) → (∀ b ∈ S2,ltE a b = true) → (S1 ++ a :: (S2 ++ R)).length < 4611686018427387904 →
    (∀ L' : List S58,L'.Perm (S1 ++ a :: S2) → ByKey L' → Ev (fun k => beaconref16_Balls.l3 k (L' ++ R) (wrap64 (i + 1))) r) →
    Ev (fun k => beaconref16_Balls.l4 k (S1 ++ a :: (S2 ++ R)) i (n : Int)) r
  | 0,S1,S2,a,h1,hn,hb,ha,hl,h => by
    obtain rfl := List.length_eq_zero_iff.1 h1
    refine Ev.next (h (a :: S2) (List.Perm.refl _) (List.pairwise_cons.2 ⟨ha,hb⟩)) fun k => ?_
    rw [beaconref16_Balls_l4_eq,if_neg (by omega)]
    rfl
  | n + 1,S1,S2,a,h1,hn,hb,ha,hl,h => by
    obtain ⟨S,b,rfl⟩ : ∃ S b,S1 = S ++ [b] := by
      rcases List.eq_nil_or_concat S1 with e | ⟨S,b,e⟩
      · rw [e] at h1;simp at h1
      exact ⟨S,b,by simpa using e⟩
    have hS : S.length = n := by simpa using h1
    subst hS
    simp only [List.append_assoc,List.cons_append,List.nil_append] at hn hb hl h ⊢
    have hat : (S ++ b :: a :: (S2 ++ R)).getD (S.length + 1) z58 = a := by simp [List.getD_eq_getElem?_getD]
    have hbt : (S ++ b :: a :: (S2 ++ R)).getD S.length z58 = b := by simp [List.getD_eq_getElem?_getD]
    have hlen : (S ++ b :: a :: (S2 ++ R)).length = S.length + 2 + (S2 ++ R).length := by simp;omega
    have hpv : wrap64 (((S.length + 1 : Nat) : Int) - 1) = ((S.length : Nat) : Int) := by rw [prev64 _ (by omega) (by omega)];rfl
    have hne := nodup_mid hn
    cases hx : ltE a b
    · have hba := ltE_or hne hx
      refine Ev.next (h (S ++ b :: a :: S2) (List.Perm.refl _) ?_) fun k => ?_
      · have p := List.pairwise_append.1 hb
        have q := List.pairwise_cons.1 p.2.1
        refine List.pairwise_append.2 ⟨p.1,List.pairwise_cons.2 ⟨?_,List.pairwise_cons.2 ⟨ha,q.2⟩⟩,?_⟩
        · intro x hx
          rcases List.mem_cons.1 hx with rfl | hx
          · exact hba
          exact q.1 x hx
        intro x hxm y hy
        rcases List.mem_cons.1 hy with rfl | hy
        · exact p.2.2 x hxm _ List.mem_cons_self
        rcases List.mem_cons.1 hy with rfl | hy
        · exact ltE_trans (p.2.2 x hxm _ List.mem_cons_self) hba
        exact p.2.2 x hxm y (List.mem_cons_of_mem _ hy)
      rw [beaconref16_Balls_l4_eq,if_pos (by omega),if_pos (by omega),if_pos (by omega),hpv,if_pos (by omega),if_pos (by omega),rde,rde,hat,hbt,ahead16_is,hx,Option.bind_some,if_neg (by decide)]
      simp
    have hp : (S ++ a :: b :: S2).Perm (S ++ b :: a :: S2) := (List.Perm.swap b a S2).append_left S
    have ih := balls_l4 i R r S.length S (b :: S2) a rfl ((hp.map (·.f0)).nodup_iff.2 hn) hb (by
      intro x hx2
      rcases List.mem_cons.1 hx2 with rfl | hx2
      · exact hx
      exact ha x hx2) (by simp at hl ⊢;omega) (fun L' hL hK => h L' (hL.trans hp) hK)
    refine Ev.next ih fun k => ?_
    rw [beaconref16_Balls_l4_eq,if_pos (by omega),if_pos (by omega),if_pos (by omega),hpv,if_pos (by omega),if_pos (by omega),rde,rde,hat,hbt,ahead16_is,hx,Option.bind_some,if_pos rfl,Int.toNat_natCast,Int.toNat_natCast,swap_mid]
    rfl
theorem balls_l3 : ∀ (R S : List S58),((S ++ R).map (·.f0)).Nodup → ByKey S → (S ++ R).length < 4611686018427387904 → Ev (fun k => beaconref16_Balls.l3 k (S ++ R) (S.length : Int)) (sortE (S ++ R),0)
  | [],S,hn,hb,hl => by
    rw [List.append_nil] at *
    rw [← sortE_of (List.Perm.refl _) hn hb]
    refine ⟨1,fun k hk => ?_⟩
    obtain ⟨j,rfl⟩ : ∃ j,k = j + 1 := ⟨k - 1,by omega⟩
    show beaconref16_Balls.l3 (j + 1) S (S.length : Int) = some (S,0)
    rw [beaconref16_Balls_l3_eq,if_neg (by omega)]
  | a :: R,S,hn,hb,hl => by
    have hn1 : ((S ++ [a]).map (·.f0)).Nodup := by
      have e : S ++ a :: R = (S ++ [a]) ++ R := by simp
      rw [e,List.map_append,List.nodup_append] at hn
      exact hn.1
    have h4 := balls_l4 (S.length : Int) R (sortE (S ++ a :: R),0) S.length S [] a rfl hn1 (by rw [List.append_nil];exact hb) (by simp) (by simpa using hl) (fun L' hp hK => by
      have hpp : (L' ++ R).Perm (S ++ a :: R) := by
        have := hp.append_right R
        simpa using this
      have ih := balls_l3 R L' ((hpp.map (·.f0)).nodup_iff.2 hn) hK (by rw [hpp.length_eq];exact hl)
      have hll : L'.length = S.length + 1 := by rw [hp.length_eq];simp
      rw [next64 _ (by simp at hl;omega),← hll]
      have hs : sortE (L' ++ R) = sortE (S ++ a :: R) := sortE_of ((sortE_perm _).trans hpp) hn (sortE_byKey ((hpp.map (·.f0)).nodup_iff.2 hn))
      rw [← hs]
      exact ih)
    refine Ev.next h4 fun k => ?_
    rw [beaconref16_Balls_l3_eq,if_pos (by simp;omega)]
    rfl
theorem addB_dests {e : S58} {M : List S58} (h : (M.map (·.f0)).Nodup) : ((addB e M).map (·.f0)).Nodup := by
  unfold addB
  split
  · exact enPut_dests h
  split
  · exact enPut_dests h
  exact h
theorem addB_mem {e x : S58} {M : List S58} (h : x ∈ addB e M) : x = e ∨ x ∈ M := by
  unfold addB at h
  split at h
  · exact enPut_mem h
  split at h
  · exact enPut_mem h
  exact .inr h
theorem stepB_dests {self : Int} {max : Nat} {frm : Int} {w : Nat} {M : List S58} {n : S56} (h : (M.map (·.f0)).Nodup) : ((stepB self max frm w M n).map (·.f0)).Nodup := by
  unfold stepB
  split
  · exact addB_dests h
  exact h
def oneB (self : Int) (max : Nat) (M : List S58) (h : S54) : List S58 := h.f2.foldl (stepB self max h.f0 h.f1) M
def allB (self : Int) (max : Nat) (l : List S54) : List S58 := l.foldl (oneB self max) []
end Go.Proofs.Ytjcnmpkaiopihaa.PA
