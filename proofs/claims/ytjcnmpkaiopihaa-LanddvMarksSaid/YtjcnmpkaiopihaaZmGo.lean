/- Lists of news: delta's own check of them tells what the document's does. Condition: their floats are words below 2^64. -/
import Derived.Test.YtjcnmpkaiopihaaZmGn
namespace Go.Proofs.Ytjcnmpkaiopihaa.PA
open Go.RowKit Go.Proofs.YtjcnmpkaiopihaaW.PrintWords
set_option linter.unusedVariables false
set_option linter.unusedSimpArgs false
def WordsN (l : List S56) : Prop := ∀ n ∈ l,n.f2 < 18446744073709551616 ∧ n.f3 < 18446744073709551616
theorem WordsN.at {l : List S56} (h : WordsN l) (i : Nat) (hi : i < l.length) : (l.getD i z56).f2 < 18446744073709551616 ∧ (l.getD i z56).f3 < 18446744073709551616 := by
  have : l.getD i z56 = l[i] := by simp [List.getD_eq_getElem?_getD,hi]
  rw [this]
  exact h _ (List.getElem_mem hi)
def chk60 (b : Bool) : Int := bif b then 0 else 60
theorem chk_l0 (l : List S56) (hw : WordsN l) (hl : l.length < 4611686018427387904) : ∀ (n i k : Nat) (x : Bool),i + n = l.length → n + 5 ≤ k → message_Check.l0 k x l (l.length : Int) (i : Int) 2 1 1 1 l 0 0 0 0 0 0 0 0 (⟨#[]⟩ : ByteArray) 0 0 (⟨#[]⟩ : ByteArray) = some (chk60 (x && risFrom l n i))
  | 0,i,k + 2,x,e,_ => by
    rw [message_Check_l0_eq,if_neg (by omega),message_Check_j3_eq]
    cases x <;> rfl
  | n + 1,i,k + 1,x,e,hk => by
    have ih := fun y => chk_l0 l hw hl n (i + 1) k y (by omega) (by omega)
    obtain ⟨hw2,hw3⟩ := hw.at i (by omega)
    rw [message_Check_l0_eq,if_pos (by omega),if_pos (by omega),if_pos (by omega)]
    cases x
    · rw [if_neg (by decide),next64 _ (by omega),ih]
      rfl
    rw [if_pos rfl,rdn,news_all _ _ hw2 hw3 (by omega),Option.bind_some]
    simp only [risFrom,okAt]
    by_cases hM : mayB (l.getD i z56) = true
    rotate_left
    · rw [if_neg hM,next64 _ (by omega),ih,Bool.eq_false_iff.mpr hM]
      rfl
    rw [if_pos hM,hM]
    by_cases h0 : i = 0
    · subst h0
      rw [if_pos (by omega),next64 _ (by omega),ih]
      rfl
    have e0 : (i == 0) = false := by simpa using h0
    rw [if_neg (by omega),prev64 i (by omega) (by omega),if_pos (by omega),if_pos (by omega),rdn,ahead_msg,Option.bind_some,next64 _ (by omega),ih,e0]
    rfl
theorem chk_all (l : List S56) (hw : WordsN l) (hl : l.length ≤ 512) (k : Nat) (hk : l.length + 8 ≤ k) : message_Check.f k 2 1 1 1 l 0 0 0 0 0 0 0 0 (⟨#[]⟩ : ByteArray) 0 0 (⟨#[]⟩ : ByteArray) = some (chk60 (risFrom l l.length 0)) := by
  obtain ⟨k,rfl⟩ : ∃ q,k = q + 2 := ⟨k - 2,by omega⟩
  unfold message_Check.f
  rw [if_neg (by decide),if_pos rfl,message_Check_j0_eq,if_pos (by rfl),if_pos (by decide),if_pos (by decide),if_pos (by decide)]
  have e : message_none.f 0 0 0 0 0 0 0 0 (⟨#[]⟩ : ByteArray) 0 0 (⟨#[]⟩ : ByteArray) = some true := by
    have e0 : (⟨#[]⟩ : ByteArray).toList = [] := by unfold ByteArray.toList;rw [ByteArray.toList.loop];rfl
    unfold message_none.f
    rw [e0]
    rfl
  rw [e,Option.bind_some,if_pos rfl,if_pos (by omega),if_pos rfl,message_Check_j1_eq]
  have := chk_l0 l hw (by omega) l.length 0 k true (by omega) (by omega)
  rw [show ((0 : Nat) : Int) = 0 from rfl] at this
  rw [this]
  rfl
theorem ris_add (l : List S56) : ∀ (a b i : Nat),risFrom l (a + b) i = (risFrom l a i && risFrom l b (i + a))
  | 0,b,i => by simp [risFrom]
  | a + 1,b,i => by
    rw [show a + 1 + b = (a + b) + 1 by omega]
    simp only [risFrom]
    rw [ris_add l a b (i + 1),show i + 1 + a = i + (a + 1) by omega,Bool.and_assoc]
theorem ris_part (l p : List S56) (i : Nat) (hp : ∀ j,j < p.length → p.getD j z56 = l.getD (i + j) z56) : ∀ (n j : Nat),0 < j → j + n ≤ p.length → risFrom p n j = risFrom l n (i + j)
  | 0,j,_,_ => rfl
  | n + 1,j,h0,h => by
    simp only [risFrom,okAt]
    rw [ris_part l p i hp n (j + 1) (by omega) (by omega),hp j (by omega),hp (j - 1) (by omega),show i + (j - 1) = i + j - 1 by omega,show i + (j + 1) = i + j + 1 by omega]
    have e1 : (j == 0) = false := by simp;omega
    have e2 : (i + j == 0) = false := by simp;omega
    rw [e1,e2]
theorem part_at (l : List S56) (i m j : Nat) (hj : j < ((l.take m).drop i).length) : ((l.take m).drop i).getD j z56 = l.getD (i + j) z56 := by
  simp only [List.length_drop,List.length_take] at hj
  simp only [List.getD_eq_getElem?_getD,List.getElem?_drop]
  rw [List.getElem?_take_of_lt (by omega)]
theorem told_l0 (l : List S56) (hw : WordsN l) (hl : l.length < 4611686018427387904) : ∀ (m i k : Nat),l.length - i ≤ m → i ≤ l.length → m + 530 ≤ k → delta_told.l0 k l (i : Int) = some (risFrom l (l.length - i) i)
  | 0,i,k + 1,hm,hi,hk => by
    rw [delta_told_l0_eq,if_neg (by omega),show l.length - i = 0 by omega]
    rfl
  | m + 1,i,k + 1,hm,hi,hk => by
    by_cases hlt : i < l.length
    rotate_left
    · rw [delta_told_l0_eq,if_neg (by omega),show l.length - i = 0 by omega]
      rfl
    obtain ⟨q,hq⟩ : ∃ q,q = min (i + 512) l.length := ⟨_,rfl⟩
    have e1 : wrap64 ((i : Int) + 512) = ((i + 512 : Nat) : Int) := by rw [w64n (by omega) (by omega)];omega
    have e2 : mn ((i + 512 : Nat) : Int) (l.length : Int) = (q : Int) := by
      unfold mn
      split <;> omega
    obtain ⟨p,hp⟩ : ∃ p,p = (l.take q).drop i := ⟨_,rfl⟩
    have hpl : p.length = q - i := by rw [hp];simp;omega
    have hpw : WordsN p := fun n hn => hw n (List.mem_of_mem_take (List.mem_of_mem_drop (by rw [hp] at hn;exact hn)))
    have hpa : ∀ j,j < p.length → p.getD j z56 = l.getD (i + j) z56 := fun j hj => by rw [hp] at hj ⊢;exact part_at l i q j hj
    have hck := chk_all p hpw (by omega) k (by omega)
    rw [hp] at hck
    rw [delta_told_l0_eq,if_pos (by omega),if_pos (by omega),e1,e2,if_pos (by omega),if_pos (by omega),Int.toNat_natCast,Int.toNat_natCast,hck,Option.bind_some,← hp]
    obtain ⟨n,hn⟩ : ∃ n,p.length = n + 1 := ⟨p.length - 1,by omega⟩
    have hs : l.length - i = (n + 1) + (l.length - q) := by omega
    have hrest : risFrom p n 1 = risFrom l n (i + 1) := ris_part l p i hpa n 1 (by omega) (by omega)
    have h0 : p.getD 0 z56 = l.getD i z56 := hpa 0 (by omega)
    have hP : risFrom p p.length 0 = (mayB (l.getD i z56) && risFrom l n (i + 1)) := by
      rw [hn]
      simp only [risFrom,okAt]
      rw [hrest,h0]
      simp
    have hL : risFrom l (l.length - i) i = (okAt l i && risFrom l n (i + 1) && risFrom l (l.length - q) q) := by
      rw [hs,ris_add]
      simp only [risFrom]
      rw [show i + (n + 1) = q by omega]
    have ih : delta_told.l0 k l (q : Int) = some (risFrom l (l.length - q) q) := told_l0 l hw hl m q k (by omega) (by omega) (by omega)
    have hnext : delta_told.l0 k l ((i + 512 : Nat) : Int) = some (risFrom l (l.length - q) q) := by
      by_cases hq5 : i + 512 ≤ l.length
      · rw [show i + 512 = q by omega]
        exact ih
      obtain ⟨k',rfl⟩ : ∃ k',k = k' + 1 := ⟨k - 1,by omega⟩
      rw [delta_told_l0_eq,if_neg (by omega),show l.length - q = 0 by omega]
      rfl
    rw [hP,hL]
    unfold okAt
    cases hA : (mayB (l.getD i z56) && risFrom l n (i + 1))
    · rw [if_neg (by decide)]
      have : (mayB (l.getD i z56) && (i == 0 || aheadB (l.getD (i - 1) z56) (l.getD i z56)) && risFrom l n (i + 1) && risFrom l (l.length - q) q) = false := by
        cases h1 : mayB (l.getD i z56)
        · rfl
        rw [h1,Bool.true_and] at hA
        rw [hA]
        simp
      rw [this]
    rw [Bool.and_eq_true] at hA
    rw [if_pos (by rfl),hA.1,hA.2]
    by_cases hi0 : i = 0
    · subst hi0
      rw [if_neg (by omega),hnext]
      simp
    have ei : (i == 0) = false := by simpa using hi0
    rw [if_pos (by omega),prev64 i (by omega) (by omega),if_pos (by omega),if_pos (by omega),rdn,rdn,ahead_delta,Option.bind_some,ei]
    cases aheadB (l.getD (i - 1) z56) (l.getD i z56)
    · rfl
    rw [if_pos rfl,hnext]
    simp
theorem list_l0 (l : List S56) (hw : WordsN l) (hl : l.length < 4611686018427387904) : ∀ (n i k : Nat),i + n = l.length → n + l.length + 540 ≤ k → delta_list.l0 k l l (l.length : Int) (i : Int) = some (nearFrom l n i && risFrom l l.length 0)
  | 0,i,k + 1,e,hk => by
    rw [delta_list_l0_eq,if_neg (by omega)]
    unfold delta_told.f
    have := told_l0 l hw hl l.length 0 k (by omega) (by omega) (by omega)
    rw [show ((0 : Nat) : Int) = 0 from rfl] at this
    rw [this]
    rfl
  | n + 1,i,k + 1,e,hk => by
    rw [delta_list_l0_eq,if_pos (by omega),if_pos (by omega),if_pos (by omega),rdn,isInf1,Option.bind_some]
    simp only [nearFrom]
    have ih := list_l0 l hw hl n (i + 1) k (by omega) (by omega)
    show (if infB (l.getD i z56).f2 = true then _ else _) = _
    cases infB (l.getD i z56).f2
    · rw [if_neg (by decide),next64 _ (by omega),ih]
      rfl
    rfl
theorem list_prog (l : List S56) (hw : WordsN l) (hl : l.length < 4611686018427387904) (k : Nat) (hk : 2 * l.length + 540 ≤ k) : delta_list.f k l = some (listB l) := list_l0 l hw hl l.length 0 k (by omega) (by omega)
end Go.Proofs.Ytjcnmpkaiopihaa.PA
