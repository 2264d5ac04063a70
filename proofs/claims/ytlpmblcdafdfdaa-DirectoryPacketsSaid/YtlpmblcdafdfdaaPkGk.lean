/- Who keeps a name, in plain terms: the document's Draw is drawV. Conditions: lists of fewer than 2^63 routers. -/
import Derived.Test.YtlpmblcdafdfdaaPkDr
import Derived.Test.YtlpmblcdafdfdaaPkPAx7
import Derived.Test.YtlpmblcdafdfdaaPkPAx13
namespace Go.Proofs.Ytlpmblcdafdfdaa.PA
open Go.RowKit Go.Proofs.YtlpmblcdafdfdaaW.PrintWords Go.Proofs.YtlpmblcdafdfdaaW.PrintLast Go.Proofs.YtlpmblcdafdfdaaW.PrintMore
set_option linter.unusedVariables false
set_option linter.unusedSimpArgs false
theorem rid_f (x : Int) : beaconref02_CheckId.f x = some (idV x) := by
  unfold beaconref02_CheckId.f idV badId
  by_cases h1 : x < 1 <;> by_cases h2 : x > 2147483647 <;> simp [h1,h2] <;> omega
theorem rd_nat (l : List Int) (i : Nat) (h : i < l.length) : rd l (i : Int) = l[i] := by
  show l.getD (i : Int).toNat 0 = _
  rw [Int.toNat_natCast]
  simp [List.getD_eq_getElem?_getD,h]
theorem any_drop (l : List Int) (i : Nat) (h : i < l.length) : (l.drop i).any badId = (badId l[i] || (l.drop (i + 1)).any badId) := by
  rw [List.drop_eq_getElem_cons h,List.any_cons]
theorem list_l2 (l : List Int) (hl : l.length ≤ 9223372036854775807) (j : Nat) (hj : j < l.length) : ∀ (n i k : Nat),i + n = j → n < k →
    beaconref02_list.l2 k l (j : Int) (i : Int) = if l[j] ∈ (l.take j).drop i then some 72 else beaconref02_list.l1 (k - n - 1) l ((j + 1 : Nat) : Int)
  | 0,i,k + 1,e,_ => by
    have hi : i = j := by omega
    subst hi
    unfold beaconref02_list.l2
    rw [if_neg (by omega),w64 (by omega) (by omega),if_neg (by rw [List.drop_eq_nil_of_le (by simp;omega)];simp)]
    rfl
  | n + 1,i,k + 1,e,hk => by
    unfold beaconref02_list.l2
    have hil : i < l.length := by omega
    rw [if_pos (by omega),if_pos (by omega),if_pos (by omega),if_pos (by omega),if_pos (by omega),rd_nat l i hil,rd_nat l j hj]
    have hd : (l.take j).drop i = l[i] :: (l.take j).drop (i + 1) := by
      rw [List.drop_eq_getElem_cons (by simp;omega),List.getElem_take]
    by_cases h : l[i] = l[j]
    · rw [if_pos h,if_pos (by rw [hd,h];simp)]
    · rw [if_neg h,w64 (by omega) (by omega),show ((i : Int) + 1) = ((i + 1 : Nat) : Int) by omega,list_l2 l hl j hj n (i + 1) k (by omega) (by omega),hd,show k + 1 - (n + 1) - 1 = k - n - 1 by omega]
      have hx : (l[j] ∈ l[i] :: (l.take j).drop (i + 1)) ↔ l[j] ∈ (l.take j).drop (i + 1) := by
        rw [List.mem_cons]
        exact ⟨fun h2 => h2.resolve_left (fun e => h e.symm),Or.inr⟩
      by_cases h3 : l[j] ∈ (l.take j).drop (i + 1)
      · rw [if_pos h3,if_pos (hx.2 h3)]
      · rw [if_neg h3,if_neg (fun h4 => h3 (hx.1 h4))]
theorem take_nodup (l : List Int) (j : Nat) (hj : j < l.length) (h : (l.take j).Nodup) : (l.take (j + 1)).Nodup ↔ l[j] ∉ l.take j := by
  rw [List.take_succ_eq_append_getElem hj,List.nodup_append]
  constructor
  · intro h2 h3
    exact h2.2.2 _ h3 _ (by simp) rfl
  · intro h2
    refine ⟨h,by simp,?_⟩
    intro a ha b hb e
    simp at hb
    subst hb
    subst e
    exact h2 ha
theorem list_l1 (l : List Int) (hl : l.length ≤ 9223372036854775807) : ∀ (n j k : Nat),j + n = l.length → (n + 1) * (l.length + 2) < k → (l.take j).Nodup → beaconref02_list.l1 k l (j : Int) = some (if l.Nodup then 0 else 72)
  | 0,j,k + 1,e,_,h => by
    have : l.take j = l := List.take_of_length_le (by omega)
    rw [this] at h
    unfold beaconref02_list.l1
    rw [if_neg (by omega),if_pos h]
  | n + 1,j,k + 1,e,hk,h => by
    have hj : j < l.length := by omega
    unfold beaconref02_list.l1
    have h0 := list_l2 l hl j hj j 0 k (by omega) (by have : l.length + 2 ≤ (n + 1 + 1) * (l.length + 2) := Nat.le_mul_of_pos_left _ (by omega);omega)
    rw [List.drop_zero] at h0
    rw [if_pos (by omega),show ((0 : Int)) = ((0 : Nat) : Int) from rfl,h0]
    by_cases h1 : l[j] ∈ l.take j
    · rw [if_pos h1,if_neg]
      intro h2
      have h3 := h2.sublist (List.take_sublist (j + 1) l)
      exact (take_nodup l j hj h).1 h3 h1
    · rw [if_neg h1]
      refine list_l1 l hl n (j + 1) (k - j - 1) (by omega) ?_ ((take_nodup l j hj h).2 h1)
      rw [Nat.add_mul] at hk
      omega
theorem list_l0 (l : List Int) (hl : l.length ≤ 9223372036854775807) : ∀ (n i k : Nat),i + n = l.length → n + (l.length + 1) * (l.length + 2) + 1 < k → beaconref02_list.l0 k l (i : Int) = some (if (l.drop i).any badId = true then 20 else if l.Nodup then 0 else 72)
  | 0,i,k + 1,e,hk => by
    unfold beaconref02_list.l0
    rw [if_neg (by omega),List.drop_eq_nil_of_le (by omega),if_neg (by simp)]
    exact list_l1 l hl l.length 0 k (by omega) (by omega) (by simp)
  | n + 1,i,k + 1,e,hk => by
    unfold beaconref02_list.l0
    have hi : i < l.length := by omega
    rw [if_pos (by omega),if_pos (by omega),rid_f,Option.bind_some,rd_nat l i hi,any_drop l i hi]
    unfold idV
    by_cases hb : badId l[i] = true
    · simp [hb]
    · rw [if_neg hb,if_pos rfl,w64 (by omega) (by omega),show ((i : Int) + 1) = ((i + 1 : Nat) : Int) by omega,list_l0 l hl n (i + 1) k (by omega) (by omega)]
      rw [Bool.not_eq_true] at hb
      rw [hb,Bool.false_or]
def listK (l : List Int) : Nat := l.length + (l.length + 1) * (l.length + 2) + 2
theorem list_tells (l : List Int) (hl : l.length ≤ 9223372036854775807) (k : Nat) (hk : listK l ≤ k) : beaconref02_list.f k l = some (idsV l) := by
  have := list_l0 l hl l.length 0 k (by omega) (by unfold listK at hk;omega)
  rw [List.drop_zero] at this
  exact this
theorem rscore_f (x : Int) (s : ByteArray) (h : nameV s = 0) (k : Nat) (hk : 40 ≤ k) : beaconref02_score.f k x s = some (scV x (sumV s)) := by
  unfold beaconref02_score.f
  rw [rsum_tells s (nameOk_size (nameV_ok h)).2 k hk,Option.bind_some,rmix_f,Option.bind_some,rmix_f,Option.bind_some]
  rfl
theorem more_f (x y : Int) (s : ByteArray) (h : nameV s = 0) (k : Nat) (hk : 40 ≤ k) : beaconref02_more.f k x y s = some (aheadV (sumV s) x y) := by
  unfold beaconref02_more.f
  rw [rscore_f x s h k hk,rscore_f y s h k hk,Option.bind_some,Option.bind_some]
  unfold aheadV
  by_cases h1 : scV x (sumV s) > scV y (sumV s)
  · simp [h1]
  · by_cases h2 : scV x (sumV s) = scV y (sumV s)
    · simp [h2]
    · rw [if_neg h1,if_neg h2]
      simp [Ne.symm h2]
      omega
section
variable (ah : Int → Int → Bool)
def bestBy (l : List Int) (b : Int) : Int := l.foldl (fun b x => if ah x b = true then x else b) b
theorem bestBy_cons (x : Int) (l : List Int) (b : Int) : bestBy ah (x :: l) b = bestBy ah l (if ah x b = true then x else b) := rfl
theorem best_mem : ∀ (l : List Int) (b : Int),bestBy ah l b = b ∨ bestBy ah l b ∈ l
  | [],b => .inl rfl
  | x :: l,b => by
    rw [bestBy_cons]
    by_cases h1 : ah x b = true
    · rw [if_pos h1]
      rcases best_mem l x with h | h
      · right
        rw [h]
        simp
      · exact .inr (List.mem_cons_of_mem _ h)
    · rw [if_neg h1]
      rcases best_mem l b with h | h
      · exact .inl h
      · exact .inr (List.mem_cons_of_mem _ h)
variable (tr : ∀ x y z,ah x y = false → ah y z = false → ah x z = false) (asy : ∀ x y,ah x y = true → ah y x = false) (slf : ∀ x,ah x x = false)
include tr asy slf
theorem best_first : ∀ (l : List Int) (b : Int),ah b (bestBy ah l b) = false ∧ ∀ y ∈ l,ah y (bestBy ah l b) = false
  | [],b => ⟨slf b,by simp⟩
  | x :: l,b => by
    rw [bestBy_cons]
    by_cases h1 : ah x b = true
    · rw [if_pos h1]
      have ih := best_first l x
      refine ⟨tr _ _ _ (asy _ _ h1) ih.1,fun y hy => ?_⟩
      rcases List.mem_cons.1 hy with rfl | hy
      · exact ih.1
      · exact ih.2 y hy
    · rw [if_neg h1]
      have ih := best_first l b
      rw [Bool.not_eq_true] at h1
      refine ⟨ih.1,fun y hy => ?_⟩
      rcases List.mem_cons.1 hy with rfl | hy
      · exact tr _ _ _ h1 ih.1
      · exact ih.2 y hy
theorem sort_head (l : List Int) (hn : 0 < l.length) : (l.mergeSort fun x y => !(ah y x)).getD 0 0 ∈ l ∧ ∀ y ∈ l,ah y ((l.mergeSort fun x y => !(ah y x)).getD 0 0) = false := by
  have hp : List.Perm (l.mergeSort fun x y => !(ah y x)) l := List.mergeSort_perm l _
  have hs : List.Pairwise (fun x y => (!(ah y x)) = true) (l.mergeSort fun x y => !(ah y x)) := List.pairwise_mergeSort (le := fun x y => !(ah y x)) (fun a b c h1 h2 => by
    simp only [Bool.not_eq_true'] at *
    exact tr _ _ _ h2 h1) (fun a b => by
    cases h : ah b a
    · simp
    · simp [asy _ _ h]) l
  cases ho : l.mergeSort fun x y => !(ah y x) with
  | nil =>
    have := List.length_mergeSort (le := fun x y => !(ah y x)) l
    rw [ho] at this
    simp at this
    omega
  | cons x r =>
    rw [ho] at hp hs
    have hs' := List.pairwise_cons.1 hs
    refine ⟨?_,fun y hy => ?_⟩
    · show x ∈ l
      exact hp.mem_iff.1 (by simp)
    · show ah y x = false
      rcases List.mem_cons.1 (hp.mem_iff.2 hy) with rfl | h
      · exact slf y
      · simpa using hs'.1 y h
theorem best_sort (tot : ∀ x y,ah x y = false → ah y x = false → x = y) (l : List Int) (hn : 0 < l.length) : bestBy ah l (l.getD 0 0) = (l.mergeSort fun x y => !(ah y x)).getD 0 0 := by
  have h1 := sort_head ah tr asy slf l hn
  have hm0 : l.getD 0 0 ∈ l := by
    rw [List.getD_eq_getElem?_getD,List.getElem?_eq_getElem hn]
    exact List.getElem_mem hn
  have hm : bestBy ah l (l.getD 0 0) ∈ l := by
    rcases best_mem ah l (l.getD 0 0) with h | h
    · rw [h]
      exact hm0
    · exact h
  exact tot _ _ ((best_first ah tr asy slf l (l.getD 0 0)).2 _ h1.1 |> fun h => by exact (h1.2 _ hm)) ((best_first ah tr asy slf l (l.getD 0 0)).2 _ h1.1)
end
theorem ahead_trans {s : Int} (x y z : Int) (h1 : aheadV s x y = false) (h2 : aheadV s y z = false) : aheadV s x z = false := by rw [aheadV_no] at *;omega
theorem ahead_asym {s : Int} (x y : Int) (h1 : aheadV s x y = true) : aheadV s y x = false := by rw [aheadV_iff] at h1;rw [aheadV_no];omega
theorem ahead_self (s x : Int) : aheadV s x x = false := by rw [aheadV_no];omega
theorem ahead_tot {s : Int} (x y : Int) (h1 : aheadV s x y = false) (h2 : aheadV s y x = false) : x = y := by rw [aheadV_no] at *;omega
theorem best_ord (s : Int) (l : List Int) (hn : 0 < l.length) : bestBy (aheadV s) l (l.getD 0 0) = (ordOf s l).getD 0 0 := best_sort (aheadV s) ahead_trans ahead_asym (ahead_self s) ahead_tot l hn
theorem draw_l0 (l : List Int) (hl : l.length ≤ 9223372036854775807) (s : ByteArray) (h : nameV s = 0) : ∀ (n i k : Nat) (b : Int),i + n = l.length → n + 40 < k → beaconref02_Draw.l0 k l s b (i : Int) = some (bestBy (aheadV (sumV s)) (l.drop i) b,0)
  | 0,i,k + 1,b,e,_ => by
    unfold beaconref02_Draw.l0
    rw [if_neg (by omega),List.drop_eq_nil_of_le (by omega)]
    rfl
  | n + 1,i,k + 1,b,e,hk => by
    have hi : i < l.length := by omega
    unfold beaconref02_Draw.l0
    rw [if_pos (by omega),if_pos (by omega),rd_nat l i hi,more_f _ _ s h k (by omega),Option.bind_some,w64 (by omega) (by omega),show ((i : Int) + 1) = ((i + 1 : Nat) : Int) by omega,draw_l0 l hl s h n (i + 1) k _ (by omega) (by omega),draw_l0 l hl s h n (i + 1) k _ (by omega) (by omega)]
    rw [List.drop_eq_getElem_cons hi,bestBy_cons]
    by_cases h1 : aheadV (sumV s) l[i] b = true
    · rw [if_pos h1,if_pos h1]
    · rw [if_neg h1,if_neg h1]
def drawK (l : List Int) : Nat := listK l + 100
theorem rdraw_tells (l : List Int) (hl : l.length ≤ 9223372036854775807) (s : ByteArray) (k : Nat) (hk : drawK l ≤ k) : beaconref02_Draw.f k l s = some (drawV l s) := by
  have hk2 : listK l + 100 ≤ k := hk
  unfold beaconref02_Draw.f
  rw [rname_tells s k (by omega),Option.bind_some,list_tells l hl k (by omega),Option.bind_some]
  obtain ⟨k,rfl⟩ : ∃ m,k = m + 1 := ⟨k - 1,by omega⟩
  have hj : ∀ e : Int,e ≠ 0 → beaconref02_Draw.j0 (k + 1) l s e = some (0,e) := fun e he => by
    simp [beaconref02_Draw.j0,he]
  have hj0 : beaconref02_Draw.j0 (k + 1) l s 0 = (if (l.length : Int) = 0 then some (0,4) else if 0 < (l.length : Int) then beaconref02_Draw.l0 k l s (rd l 0) 0 else none) := by simp only [beaconref02_Draw.j0,if_true]
  by_cases h0 : nameV s = 0
  · rw [if_pos h0]
    by_cases h1 : idsV l = 0
    · have hd : drawE l s = 0 := by unfold drawE;rw [if_pos h0,h1]
      unfold drawV
      rw [h1,if_pos hd]
      rw [hj0]
      by_cases h2 : l.length = 0
      · rw [if_pos (by omega),if_pos h2]
      · rw [if_neg (by omega),if_neg h2,if_pos (by omega)]
        have := draw_l0 l hl s h0 l.length 0 k (rd l 0) (by omega) (by unfold listK at hk2;omega)
        rw [show ((0 : Nat) : Int) = 0 from rfl,List.drop_zero] at this
        rw [this,show rd l 0 = l.getD 0 0 from rfl,best_ord _ l (by omega)]
    · have hd : drawE l s = idsV l := by unfold drawE;rw [if_pos h0]
      rw [hj _ h1]
      unfold drawV
      rw [hd,if_neg h1]
  · have hd : drawE l s = nameV s := by unfold drawE;rw [if_neg h0]
    rw [if_neg h0,hj _ h0]
    unfold drawV
    rw [hd,if_neg h0]
end Go.Proofs.Ytlpmblcdafdfdaa.PA
