/- The document's list of addresses, in plain terms: where a name stands; how a new one is let in. Condition: names stand once. -/
import Derived.Test.YtlpmblcdafdfdaaYyGt
import Derived.Test.YtlpmblcdafdfdaaYyPAx7
import Derived.Test.YtlpmblcdafdfdaaYyPAx11
namespace Go.Proofs.Ytlpmblcdafdfdaa.PA
open Go.RowKit Go.Proofs.YtlpmblcdafdfdaaW.PrintWords Go.Proofs.YtlpmblcdafdfdaaW.PrintLast Go.Proofs.YtlpmblcdafdfdaaW.PrintMore
set_option linter.unusedVariables false
set_option linter.unusedSimpArgs false
open Classical
def placeN (s : ByteArray) : List S57 → Int → Int
  | [],_ => -1
  | a :: r,i => if a.f0 = s then i else placeN s r (i + 1)
theorem rd57 (M : List S57) (i : Nat) (h : i < M.length) : rd_T57 M (i : Int) = M[i] := by
  show M.getD (i : Int).toNat z57 = _
  rw [Int.toNat_natCast]
  simp [List.getD_eq_getElem?_getD,h]
theorem place_l0 (M : List S57) (hM : M.length ≤ 4096) (s : ByteArray) (life : Int) : ∀ (n i k : Nat),i + n = M.length → n < k → beaconref20_place.l0 k s (i : Int) life M = some (placeN s (M.drop i) (i : Int))
  | 0,i,k + 1,e,_ => by
    unfold beaconref20_place.l0
    rw [if_neg (by omega),List.drop_eq_nil_of_le (by omega)]
    rfl
  | n + 1,i,k + 1,e,hk => by
    unfold beaconref20_place.l0
    have hi : i < M.length := by omega
    rw [if_pos (by omega),if_pos (by omega),rd57 M i hi,List.drop_eq_getElem_cons hi,placeN]
    by_cases h : M[i].f0 = s
    · rw [if_pos (by rw [h]),if_pos h]
    · rw [if_neg (fun e => h (toList_inj e)),if_neg h,w64 (by omega) (by omega),show ((i : Int) + 1) = ((i + 1 : Nat) : Int) by omega,place_l0 M hM s life n (i + 1) k (by omega) (by omega)]
theorem place_f (M : List S57) (hM : M.length ≤ 4096) (s : ByteArray) (life : Int) : beaconref20_place.f 4100 life M s = some (placeN s M 0) := by
  have := place_l0 M hM s life M.length 0 4100 (by omega) (by omega)
  rw [List.drop_zero] at this
  exact this
theorem placeN_none {s : ByteArray} : ∀ {M : List S57} {i : Int},adGet s M = none → placeN s M i = -1
  | [],_,_ => rfl
  | a :: r,i,h => by
    rw [adGet] at h
    split at h
    · cases h
    · rename_i h1
      rw [placeN,if_neg (Ne.symm h1),placeN_none h]
theorem placeN_some {s : ByteArray} : ∀ {M : List S57} {i : Int} {a : S57},adGet s M = some a → ∃ j : Nat,placeN s M i = i + j ∧ M[j]? = some a
  | b :: r,i,a,h => by
    rw [adGet] at h
    split at h
    · rename_i h1
      rw [placeN,if_pos h1.symm]
      exact ⟨0,by simp,by simpa using h⟩
    · rename_i h1
      rw [placeN,if_neg (Ne.symm h1)]
      obtain ⟨j,h2,h3⟩ := placeN_some (i := i + 1) h
      exact ⟨j + 1,by rw [h2];omega,by simpa using h3⟩
theorem place_iff {s : ByteArray} {M : List S57} (hn : (M.map (·.f0)).Nodup) {i : Nat} (hi : i < M.length) : ((i : Int) = placeN s M 0) ↔ M[i].f0 = s := by
  cases h : adGet s M with
  | none =>
    rw [placeN_none h]
    constructor
    · intro e
      omega
    · intro e
      exfalso
      have h2 : adGet s M ≠ none := by
        clear h
        induction M generalizing i with
        | nil => simp at hi
        | cons b r ih =>
          rw [adGet]
          split
          · simp
          · rename_i h3
            cases i with
            | zero => exact absurd e.symm h3
            | succ i => exact ih (List.nodup_cons.1 hn).2 (i := i) (by simpa using hi) (by simpa using e)
      exact h2 h
  | some a =>
    obtain ⟨j,h2,h3⟩ := placeN_some (i := 0) h
    have ha := adGet_name h
    rw [h2]
    have hj := List.getElem?_eq_some_iff.1 h3
    obtain ⟨hjl,hja⟩ := hj
    constructor
    · intro e
      obtain rfl : i = j := by omega
      rw [hja,ha]
    · intro e
      have : i = j := by
        have h4 : (M.map (·.f0))[i]'(by simpa using hi) = (M.map (·.f0))[j]'(by simpa using hjl) := by simp [e,hja,ha]
        exact (List.getElem_inj hn).1 h4
      omega
noncomputable def others (s : ByteArray) (M : List S57) : List S57 := M.filter fun a => decide (a.f0 ≠ s)
theorem others_take {s : ByteArray} {M : List S57} (hn : (M.map (·.f0)).Nodup) {j : Nat} {a : S57} (hj : j < M.length) (ha : M.getD j z57 = a) : others s (M.take (j + 1)) = if (j : Int) = placeN s M 0 then others s (M.take j) else others s (M.take j) ++ [a] := by
  have e : M[j] = a := by rw [← ha];simp [List.getD_eq_getElem?_getD,hj]
  rw [take_app hj ha]
  unfold others
  rw [List.filter_append]
  by_cases h : (j : Int) = placeN s M 0
  · have := (place_iff hn hj).1 h
    rw [e] at this
    rw [if_pos h]
    simp [this]
  · have : ¬ a.f0 = s := fun h2 => h ((place_iff hn hj).2 (by rw [e];exact h2))
    rw [if_neg h]
    simp [this]
theorem others_len (s : ByteArray) (M : List S57) : (others s M).length ≤ M.length := List.length_filter_le _ _
theorem others_names {s : ByteArray} {M : List S57} : ∀ x ∈ others s M,x.f0 ≠ s := fun x hx => by
  have := (List.mem_filter.1 hx).2
  simpa using this
theorem others_byName {s : ByteArray} {M : List S57} (h : ByName M) : ByName (others s M) := h.sublist List.filter_sublist
theorem adPut_perm (a : S57) : ∀ {L : List S57},(L.map (·.f0)).Nodup → (adPut a L).Perm (a :: others a.f0 L)
  | [],_ => by simp [adPut,others]
  | b :: r,hn => by
    have q := List.nodup_cons.1 hn
    rw [adPut]
    by_cases h : a.f0 = b.f0
    · rw [if_pos h]
      have e : others a.f0 (b :: r) = r := by
        unfold others
        rw [List.filter_cons,if_neg (by simp [h])]
        refine List.filter_eq_self.2 (fun x hx => ?_)
        simp only [decide_eq_true_eq]
        intro e2
        exact q.1 (List.mem_map.2 ⟨x,hx,by rw [e2,h]⟩)
      rw [e]
    · rw [if_neg h]
      have e : others a.f0 (b :: r) = b :: others a.f0 r := by
        unfold others
        rw [List.filter_cons,if_pos (by simp [Ne.symm h])]
      rw [e]
      exact ((adPut_perm a q.2).cons b).trans (List.Perm.swap a b _)
def letIn (B : List S57) (a : S57) (k : Nat) : List S57 := B.take k ++ a :: B.drop k
theorem letIn_perm (B : List S57) (a : S57) (k : Nat) : (letIn B a k).Perm (a :: B) := by
  unfold letIn
  refine List.perm_middle.trans ?_
  rw [List.take_append_drop]
theorem letIn_end (B : List S57) (a : S57) : letIn B a B.length = B ++ [a] := by simp [letIn]
theorem letIn_at (B : List S57) (a : S57) (k : Nat) (hk : k ≤ B.length) : (letIn B a k).getD k z57 = a := by
  unfold letIn
  rw [List.getD_eq_getElem?_getD,List.getElem?_append_right (by simp;omega)]
  simp [Nat.min_eq_left hk]
theorem letIn_prev (B : List S57) (a : S57) (k : Nat) (hk : k + 1 ≤ B.length) : (letIn B a (k + 1)).getD k z57 = B.getD k z57 := by
  unfold letIn
  rw [List.getD_eq_getElem?_getD,List.getElem?_append_left (by simp;omega),List.getD_eq_getElem?_getD]
  simp
theorem letIn_swap (B : List S57) (a : S57) (k : Nat) (hk : k + 1 ≤ B.length) : ((letIn B a (k + 1)).set (k + 1) (B.getD k z57)).set k a = letIn B a k := by
  have hk' : k < B.length := by omega
  apply List.ext_getElem?
  intro i
  unfold letIn
  have e1 : B.take (k + 1) = B.take k ++ [B[k]] := List.take_succ_eq_append_getElem hk'
  have e2 : B.drop k = B[k] :: B.drop (k + 1) := List.drop_eq_getElem_cons hk'
  have e3 : B.getD k z57 = B[k] := by simp [List.getD_eq_getElem?_getD,hk']
  rw [e3,e1,e2,List.append_assoc]
  have hl : (B.take k).length = k := by simp;omega
  rw [List.set_append_right _ _ (by omega),List.set_append_right _ _ (by omega),hl]
  simp
theorem letIn_done {M L : List S57} {a : S57} {k : Nat} (hML : M.Perm L) (hM : ByName M) (hn : (L.map (·.f0)).Nodup) (hk : k ≤ (others a.f0 M).length) (h1 : ∀ x ∈ (others a.f0 M).drop k,nmLt a.f0 x.f0 = true) (h2 : k = 0 ∨ nmLt a.f0 ((others a.f0 M).getD (k - 1) z57).f0 = false) : letIn (others a.f0 M) a k = sortN (adPut a L) := by
  have hB := others_byName (s := a.f0) hM
  have hOP : (others a.f0 M).Perm (others a.f0 L) := hML.filter _
  have hPerm : (letIn (others a.f0 M) a k).Perm (adPut a L) := (letIn_perm _ a k).trans ((hOP.cons a).trans (adPut_perm a hn).symm)
  have hnames : ((adPut a L).map (·.f0)).Nodup := by
    refine (((adPut_perm a hn).map (·.f0)).nodup_iff).2 ?_
    rw [List.map_cons,List.nodup_cons]
    refine ⟨?_,?_⟩
    · intro h
      obtain ⟨x,hx,e⟩ := List.mem_map.1 h
      exact others_names x hx e
    · exact hn.sublist (List.filter_sublist.map _)
  refine byName_unique (hPerm.trans (sortN_perm _).symm) ?_ (sortN_byName hnames)
  unfold letIn
  unfold ByName at hB ⊢
  have hsp := hB
  rw [← List.take_append_drop k (others a.f0 M),List.pairwise_append] at hsp
  rw [List.pairwise_append,List.pairwise_cons]
  refine ⟨hsp.1,⟨h1,hsp.2.1⟩,?_⟩
  intro x hx y hy
  have hxa : nmLt x.f0 a.f0 = true := by
    rcases h2 with rfl | h2
    · simp at hx
    · obtain ⟨i,hi,he⟩ := List.getElem_of_mem hx
      have hik : i < k := by
        have := hi
        simp at this
        omega
      have hxb : x = (others a.f0 M)[i]'(by omega) := by rw [← he,List.getElem_take]
      have hl : k - 1 < (others a.f0 M).length := by omega
      have e4 : (others a.f0 M).getD (k - 1) z57 = (others a.f0 M)[k - 1] := by simp [List.getD_eq_getElem?_getD,hl]
      rw [e4] at h2
      have hne := others_names _ (List.getElem_mem hl)
      have h3 : nmLt ((others a.f0 M)[k - 1]).f0 a.f0 = true := by
        cases hc : nmLt ((others a.f0 M)[k - 1]).f0 a.f0
        · exact absurd (nmLt_tot h2 hc).symm hne
        · rfl
      rcases Nat.lt_or_ge i (k - 1) with h4 | h4
      · have := (List.pairwise_iff_getElem.1 hB) i (k - 1) (by omega) hl h4
        rw [hxb]
        exact nmLt_trans this h3
      · have : i = k - 1 := by omega
        subst this
        rw [hxb]
        exact h3
  rcases List.mem_cons.1 hy with rfl | hy
  · exact hxa
  · exact nmLt_trans hxa (h1 y hy)
end Go.Proofs.Ytlpmblcdafdfdaa.PA
