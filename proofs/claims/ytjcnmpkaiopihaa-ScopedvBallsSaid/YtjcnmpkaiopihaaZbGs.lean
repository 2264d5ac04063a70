/- The document's Balls in plain terms: what counts is kept by destination, the nearest of each; then sorted. Conditions: as each theorem names. -/
import Derived.Test.YtjcnmpkaiopihaaZbGr
import Derived.Test.YtjcnmpkaiopihaaZbPAx27
import Derived.Test.YtjcnmpkaiopihaaZbHh
namespace Go.Proofs.Ytjcnmpkaiopihaa.PA
open Go.RowKit Go.Proofs.YtjcnmpkaiopihaaW.PrintWords Go.Proofs.YtjcnmpkaiopihaaW.PrintLast Go.Proofs.YtjcnmpkaiopihaaW.PrintMore
set_option linter.unusedVariables false
set_option linter.unusedSimpArgs false
theorem beaconref16_Balls_j0_eq (k : Nat) (x0 : Int) (x1 : List (S54)) (x2 : Nat) (x8 : Int) : beaconref16_Balls.j0 (k + 1) x0 x1 x2 x8 = if x8 = 0 then (beaconref16_Balls.l0 k x0 x1 x2 ([] : List (S58)) 0) else (some (([] : List (S58)),x8)) := by rw [beaconref16_Balls.j0]
theorem beaconref16_Balls_l0_eq (k : Nat) (x0 : Int) (x1 : List (S54)) (x2 : Nat) (x9 : List (S58)) (x10 : Int) : beaconref16_Balls.l0 (k + 1) x0 x1 x2 x9 x10 = if x10 < (x1.length : Int) then (beaconref16_Balls.l1 k x0 x1 x2 x9 x10 0) else (beaconref16_Balls.l3 k x9 0) := by rw [beaconref16_Balls.l0]
theorem beaconref16_Balls_l1_eq (k : Nat) (x0 : Int) (x1 : List (S54)) (x2 : Nat) (x9 : List (S58)) (x10 : Int) (x11 : Int) : beaconref16_Balls.l1 (k + 1) x0 x1 x2 x9 x10 x11 = if 0 ≤ x10 then (if x10 < (x1.length : Int) then (if x11 < (((rd_T54 x1 x10).f2).length : Int) then (if 0 ≤ x11 then ((beaconref16_counted.f x0 ((rd_T54 x1 x10).f0) ((rd_T54 x1 x10).f1) ((rd_T54 x1 x10).f2) ((rd_T56 ((rd_T54 x1 x10).f2) x11).f0) ((rd_T56 ((rd_T54 x1 x10).f2) x11).f1) ((rd_T56 ((rd_T54 x1 x10).f2) x11).f2) ((rd_T56 ((rd_T54 x1 x10).f2) x11).f3) ((rd_T56 ((rd_T54 x1 x10).f2) x11).f4) x2).bind fun bt403 => (if bt403.2.2.2.2.2.2 = true then (beaconref16_Balls.l2 k x0 x1 x2 x9 x10 x11 0 bt403.1 bt403.2.1 bt403.2.2.1 bt403.2.2.2.1 bt403.2.2.2.2.1 bt403.2.2.2.2.2.1) else (beaconref16_Balls.l1 k x0 x1 x2 x9 x10 (wrap64 (x11 + 1))))) else (none)) else (beaconref16_Balls.l0 k x0 x1 x2 x9 (wrap64 (x10 + 1)))) else (none)) else (none) := by rw [beaconref16_Balls.l1]
theorem beaconref16_Balls_j4_eq (k : Nat) (x0 : Int) (x1 : List (S54)) (x2 : Nat) (x9 : List (S58)) (x10 : Int) (x11 : Int) (x14 : Int) (x411000 : Int) (x411001 : Int) (x411002 : Nat) (x411003 : Int) (x411004 : Nat) (x411005 : Int) : beaconref16_Balls.j4 (k + 1) x0 x1 x2 x9 x10 x11 x14 x411000 x411001 x411002 x411003 x411004 x411005 = if x14 = (x9.length : Int) then (if x9.length < 2932031007402 then (beaconref16_Balls.l1 k x0 x1 x2 (x9 ++ [(⟨x411000,x411001,x411002,x411003,x411004,x411005⟩ : S58)]) x10 (wrap64 (x11 + 1))) else (none)) else (if 0 ≤ x14 then (if x14 < (x9.length : Int) then (if (FloatKind.f64.format.order x411002 ((rd_T58 x9 x14).f2) == some .lt) = true then (beaconref16_Balls.l1 k x0 x1 x2 (x9.set (x14 : Int).toNat (⟨x411000,x411001,x411002,x411003,x411004,x411005⟩ : S58)) x10 (wrap64 (x11 + 1))) else (beaconref16_Balls.l1 k x0 x1 x2 x9 x10 (wrap64 (x11 + 1)))) else (none)) else (none)) := by rw [beaconref16_Balls.j4]
theorem beaconref16_Balls_l2_eq (k : Nat) (x0 : Int) (x1 : List (S54)) (x2 : Nat) (x9 : List (S58)) (x10 : Int) (x11 : Int) (x14 : Int) (x411000 : Int) (x411001 : Int) (x411002 : Nat) (x411003 : Int) (x411004 : Nat) (x411005 : Int) : beaconref16_Balls.l2 (k + 1) x0 x1 x2 x9 x10 x11 x14 x411000 x411001 x411002 x411003 x411004 x411005 = if x14 < (x9.length : Int) then (if 0 ≤ x14 then (if ((rd_T58 x9 x14).f0) = x411000 then (beaconref16_Balls.j4 k x0 x1 x2 x9 x10 x11 x14 x411000 x411001 x411002 x411003 x411004 x411005) else (beaconref16_Balls.l2 k x0 x1 x2 x9 x10 x11 (wrap64 (x14 + 1)) x411000 x411001 x411002 x411003 x411004 x411005)) else (none)) else (beaconref16_Balls.j4 k x0 x1 x2 x9 x10 x11 x14 x411000 x411001 x411002 x411003 x411004 x411005) := by rw [beaconref16_Balls.l2]
theorem beaconref16_Balls_l3_eq (k : Nat) (x9 : List (S58)) (x15 : Int) : beaconref16_Balls.l3 (k + 1) x9 x15 = if x15 < (x9.length : Int) then (beaconref16_Balls.l4 k x9 x15 x15) else (some (x9,0)) := by rw [beaconref16_Balls.l3]
theorem beaconref16_Balls_l4_eq (k : Nat) (x9 : List (S58)) (x15 : Int) (x16 : Int) : beaconref16_Balls.l4 (k + 1) x9 x15 x16 = if x16 > 0 then (if 0 ≤ x16 then (if x16 < (x9.length : Int) then (if 0 ≤ (wrap64 (x16 - 1)) then (if (wrap64 (x16 - 1)) < (x9.length : Int) then ((beaconref16_ahead.f ((rd_T58 x9 x16).f0) ((rd_T58 x9 x16).f1) ((rd_T58 x9 x16).f2) ((rd_T58 x9 x16).f3) ((rd_T58 x9 x16).f4) ((rd_T58 x9 x16).f5) ((rd_T58 x9 (wrap64 (x16 - 1))).f0) ((rd_T58 x9 (wrap64 (x16 - 1))).f1) ((rd_T58 x9 (wrap64 (x16 - 1))).f2) ((rd_T58 x9 (wrap64 (x16 - 1))).f3) ((rd_T58 x9 (wrap64 (x16 - 1))).f4) ((rd_T58 x9 (wrap64 (x16 - 1))).f5)).bind fun t419 => (if t419 = true then (beaconref16_Balls.l4 k ((x9.set (x16 : Int).toNat (⟨(rd_T58 x9 (wrap64 (x16 - 1))).f0,(rd_T58 x9 (wrap64 (x16 - 1))).f1,(rd_T58 x9 (wrap64 (x16 - 1))).f2,(rd_T58 x9 (wrap64 (x16 - 1))).f3,(rd_T58 x9 (wrap64 (x16 - 1))).f4,(rd_T58 x9 (wrap64 (x16 - 1))).f5⟩ : S58)).set ((wrap64 (x16 - 1)) : Int).toNat (⟨(rd_T58 x9 x16).f0,(rd_T58 x9 x16).f1,(rd_T58 x9 x16).f2,(rd_T58 x9 x16).f3,(rd_T58 x9 x16).f4,(rd_T58 x9 x16).f5⟩ : S58)) x15 (wrap64 (x16 - 1))) else (beaconref16_Balls.l3 k x9 (wrap64 (x15 + 1))))) else (none)) else (none)) else (none)) else (none)) else (beaconref16_Balls.l3 k x9 (wrap64 (x15 + 1))) := by rw [beaconref16_Balls.l4]
def cntB (self : Int) (w : Nat) (n : S56) (max : Nat) : Bool := (n.f1 == 2) && knownC self w n max
theorem counted_is (self frm : Int) (w : Nat) (l : List S56) (n : S56) (max : Nat) (ha : ∃ m i,Ieee.double.read w = .number false m i) (hb : (Ieee.double.read n.f2).isNaN = false) :
    ∃ e : S58,beaconref16_counted.f self frm w l n.f0 n.f1 n.f2 n.f3 n.f4 max = some (e.f0,e.f1,e.f2,e.f3,e.f4,e.f5,cntB self w n max) ∧ (cntB self w n max = true → e = knownE self frm w n max) := by
  unfold beaconref16_counted.f cntB knownC knownE
  by_cases hk : n.f1 = 2
  · by_cases hs : n.f0 = self
    · rw [if_neg (by simp [hs])]
      exact ⟨⟨0,0,0,0,0,0⟩,by simp [hs],by simp [hs]⟩
    rw [if_pos ⟨hk,hs⟩,(add_is w n.f2 max ha hb).2,Option.bind_some,far_same,Option.bind_some]
    generalize addV w n.f2 max = d
    cases hi : infB d
    · rw [if_neg (by decide)]
      by_cases hl : (FloatKind.f64.format.order d n.f3 == some .lt) = true
      · rw [if_pos hl]
        exact ⟨⟨n.f0,2,d,frm,n.f3,n.f4⟩,by simp [hk,hs,hl],by simp [hs,hl]⟩
      rw [if_neg hl]
      exact ⟨⟨n.f0,3,d,frm,n.f3,n.f4⟩,by simp [hk,hs,hl],by simp [hs,hl]⟩
    rw [if_pos rfl]
    exact ⟨⟨n.f0,0,d,frm,n.f3,n.f4⟩,by simp,by simp⟩
  rw [if_neg (by simp [hk])]
  exact ⟨⟨0,0,0,0,0,0⟩,by simp [hk],by simp [hk]⟩
def addB (e : S58) (M : List S58) : List S58 :=
  match enGet e.f0 M with
  | none => enPut e M
  | some b => if (FloatKind.f64.format.order e.f2 b.f2 == some .lt) = true then enPut e M else M
def stepB (self : Int) (max : Nat) (frm : Int) (w : Nat) (M : List S58) (n : S56) : List S58 :=
  if cntB self w n max = true then addB (knownE self frm w n max) M else M
def Ev {α : Type} (F : Nat → Option α) (r : α) : Prop := ∃ K,∀ k,K ≤ k → F k = some r
theorem Ev.next {α : Type} {F G : Nat → Option α} {r : α} (h : Ev G r) (e : ∀ k,F (k + 1) = G k) : Ev F r := by
  obtain ⟨K,hK⟩ := h
  refine ⟨K + 1,fun k hk => ?_⟩
  obtain ⟨j,rfl⟩ : ∃ j,k = j + 1 := ⟨k - 1,by omega⟩
  rw [e]
  exact hK j (by omega)
theorem rde (l : List S58) (i : Nat) : rd_T58 l (i : Int) = l.getD i z58 := by unfold rd_T58;rw [Int.toNat_natCast]
theorem enGet_none_put {e : S58} : ∀ {M : List S58},enGet e.f0 M = none → enPut e M = M ++ [e]
  | [],_ => rfl
  | b :: r,h => by
    rw [enGet] at h
    split at h
    · cases h
    rename_i hn
    rw [enPut,if_neg hn,enGet_none_put h]
    rfl
theorem enGet_app {s : Int} : ∀ {A R : List S58},enGet s A = none → enGet s (A ++ R) = enGet s R
  | [],R,_ => rfl
  | b :: r,R,h => by
    rw [enGet] at h
    split at h
    · cases h
    rename_i hn
    rw [List.cons_append,enGet,if_neg hn]
    exact enGet_app h
theorem enPut_app {e : S58} : ∀ {A R : List S58},enGet e.f0 A = none → enPut e (A ++ R) = A ++ enPut e R
  | [],R,_ => rfl
  | b :: r,R,h => by
    rw [enGet] at h
    split at h
    · cases h
    rename_i hn
    rw [List.cons_append,enPut,if_neg hn,enPut_app h]
    rfl
theorem enGet_snoc {s : Int} {A : List S58} {b : S58} (h : enGet s A = none) (hn : s ≠ b.f0) : enGet s (A ++ [b]) = none := by
  rw [enGet_app h,enGet,if_neg hn]
  rfl
theorem balls_l2 (self : Int) (l : List S54) (max : Nat) (x10 x11 : Int) (e : S58) (r : List S58 × Int) : ∀ (R A : List S58),(A ++ R).length < 2932031007402 → enGet e.f0 A = none →
    Ev (fun k => beaconref16_Balls.l1 k self l max (addB e (A ++ R)) x10 (wrap64 (x11 + 1))) r →
    Ev (fun k => beaconref16_Balls.l2 k self l max (A ++ R) x10 x11 (A.length : Int) e.f0 e.f1 e.f2 e.f3 e.f4 e.f5) r
  | [],A,hl,ha,h => by
    rw [List.append_nil] at hl h ⊢
    unfold addB at h
    simp only [ha] at h
    rw [enGet_none_put ha] at h
    refine Ev.next (G := fun k => beaconref16_Balls.j4 k self l max A x10 x11 (A.length : Int) e.f0 e.f1 e.f2 e.f3 e.f4 e.f5) ?_ (fun k => by rw [beaconref16_Balls_l2_eq,if_neg (by omega)])
    exact h.next fun k => by rw [beaconref16_Balls_j4_eq,if_pos rfl,if_pos hl]
  | b :: R,A,hl,ha,h => by
    have hlt : (A.length : Int) < ((A ++ b :: R).length : Int) := by simp;omega
    have hat : (A ++ b :: R).getD A.length z58 = b := by simp [List.getD_eq_getElem?_getD]
    by_cases he : b.f0 = e.f0
    · refine Ev.next (G := fun k => beaconref16_Balls.j4 k self l max (A ++ b :: R) x10 x11 (A.length : Int) e.f0 e.f1 e.f2 e.f3 e.f4 e.f5) ?_ (fun k => by rw [beaconref16_Balls_l2_eq,if_pos hlt,if_pos (by omega),rde,hat,if_pos he])
      have hg : enGet e.f0 (A ++ b :: R) = some b := by rw [enGet_app ha,enGet,if_pos he.symm]
      unfold addB at h
      simp only [hg] at h
      refine h.next fun k => ?_
      rw [beaconref16_Balls_j4_eq,if_neg (by omega),if_pos (by omega),if_pos hlt,rde,hat]
      by_cases ho : (FloatKind.f64.format.order e.f2 b.f2 == some .lt) = true
      · rw [if_pos ho,if_pos ho,enPut_app ha,enPut,if_pos he.symm,Int.toNat_natCast]
        congr 1
        simp
      rw [if_neg ho,if_neg ho]
    have ih := balls_l2 self l max x10 x11 e r R (A ++ [b]) (by simpa using hl) (enGet_snoc ha fun x => he x.symm) (by simpa using h)
    refine Ev.next ih fun k => ?_
    rw [beaconref16_Balls_l2_eq,if_pos hlt,if_pos (by omega),rde,hat,if_neg he,next64 _ (by simp at hl;omega)]
    simp
end Go.Proofs.Ytjcnmpkaiopihaa.PA
