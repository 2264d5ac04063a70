/- The document's list is the directory's addresses sorted by names: what each does to them. Condition: names stand once. -/
import Derived.Test.YtlpmblcdafdfdaaYyDv0
namespace Go.Proofs.Ytlpmblcdafdfdaa.PA
open Go.RowKit Go.Proofs.YtlpmblcdafdfdaaW.PrintWords Go.Proofs.YtlpmblcdafdfdaaW.PrintLast Go.Proofs.YtlpmblcdafdfdaaW.PrintMore
set_option linter.unusedVariables false
set_option linter.unusedSimpArgs false
open Classical
theorem adGet_iff {s : ByteArray} {a : S57} : ∀ {L : List S57},(L.map (·.f0)).Nodup → (adGet s L = some a ↔ a ∈ L ∧ a.f0 = s)
  | [],_ => by simp [adGet]
  | b :: r,hn => by
    have q := List.nodup_cons.1 hn
    rw [adGet]
    split
    · rename_i h
      constructor
      · intro e
        obtain rfl := Option.some.inj e
        exact ⟨List.mem_cons_self,h.symm⟩
      · rintro ⟨h1,h2⟩
        rcases List.mem_cons.1 h1 with rfl | h1
        · rfl
        · exact absurd (List.mem_map.2 ⟨a,h1,by rw [h2,h]⟩) q.1
    · rename_i h
      rw [adGet_iff q.2]
      constructor
      · rintro ⟨h1,h2⟩
        exact ⟨List.mem_cons_of_mem _ h1,h2⟩
      · rintro ⟨h1,h2⟩
        rcases List.mem_cons.1 h1 with rfl | h1
        · exact absurd h2.symm h
        · exact ⟨h1,h2⟩
theorem sortN_nodup {L : List S57} (hn : (L.map (·.f0)).Nodup) : ((sortN L).map (·.f0)).Nodup := (((sortN_perm L).map (·.f0)).nodup_iff).2 hn
theorem adGet_sort {L : List S57} (hn : (L.map (·.f0)).Nodup) (s : ByteArray) : adGet s (sortN L) = adGet s L := by
  cases h : adGet s L with
  | some a =>
    have h2 := (adGet_iff hn).1 h
    exact (adGet_iff (sortN_nodup hn)).2 ⟨(sortN_perm L).mem_iff.2 h2.1,h2.2⟩
  | none =>
    cases h3 : adGet s (sortN L) with
    | none => rfl
    | some a =>
      have h2 := (adGet_iff (sortN_nodup hn)).1 h3
      have h4 := (adGet_iff hn).2 ⟨(sortN_perm L).mem_iff.1 h2.1,h2.2⟩
      rw [h] at h4
      cases h4
theorem putE_sort {L : List S57} (hn : (L.map (·.f0)).Nodup) (s : ByteArray) (id at_ : Int) : putE (sortN L) s id at_ = putE L s id at_ := by
  unfold putE
  rw [adGet_sort hn,sortN_len]
theorem rputL_sort {life : Int} {L : List S57} (hn : (L.map (·.f0)).Nodup) (s : ByteArray) (id at_ : Int) : rputL life (sortN L) s id at_ = sortN (putL life L s id at_) := by
  unfold rputL putL
  rw [putE_sort hn]
  by_cases h : putE L s id at_ = 0
  · rw [if_pos h,if_pos h]
    have hp : (adPut ⟨s,id,at_,life⟩ (sortN L)).Perm (adPut ⟨s,id,at_,life⟩ L) := (adPut_perm _ (sortN_nodup hn)).trans ((((sortN_perm L).filter _).cons _).trans (adPut_perm ⟨s,id,at_,life⟩ hn).symm)
    have hnames : ((adPut ⟨s,id,at_,life⟩ L).map (·.f0)).Nodup := by
      refine (((adPut_perm (⟨s,id,at_,life⟩ : S57) hn).map (·.f0)).nodup_iff).2 ?_
      rw [List.map_cons,List.nodup_cons]
      refine ⟨?_,hn.sublist (List.filter_sublist.map _)⟩
      intro h
      obtain ⟨x,hx,e⟩ := List.mem_map.1 h
      exact others_names x hx e
    exact byName_unique ((sortN_perm _).trans (hp.trans (sortN_perm _).symm)) (sortN_byName ((((hp.map (·.f0)).nodup_iff)).2 hnames)) (sortN_byName hnames)
  · rw [if_neg h,if_neg h]
theorem tick_names : ∀ {L : List S57},(tickL L).map (·.f0) |>.Sublist (L.map (·.f0))
  | [] => List.Sublist.refl _
  | a :: r => by
    unfold tickL
    rw [List.filterMap_cons]
    have ih := tick_names (L := r)
    cases h : tick1 a with
    | none => exact (ih.cons _)
    | some b =>
      show (b.f0 :: (tickL r).map (·.f0)).Sublist (a.f0 :: r.map (·.f0))
      rw [tick1_name h]
      exact ih.cons_cons _
theorem tick_sort {L : List S57} (hn : (L.map (·.f0)).Nodup) : tickL (sortN L) = sortN (tickL L) := by
  have hp : (tickL (sortN L)).Perm (tickL L) := (sortN_perm L).filterMap _
  refine byName_unique (hp.trans (sortN_perm _).symm) ?_ (sortN_byName (hn.sublist tick_names))
  have hb := sortN_byName hn
  have h1 : ((sortN L).map (·.f0)).Pairwise fun a b => nmLt a b = true := List.pairwise_map.2 hb
  have h2 := h1.sublist (tick_names (L := sortN L))
  exact List.pairwise_map.1 h2
theorem servable_sort {L : List S57} (hn : (L.map (·.f0)).Nodup) (self home hops : Int) (p : S30) : serveE (sortN L) self home hops p = serveE L self home hops p ∧ serveP (sortN L) self home hops p = serveP L self home hops p := by
  unfold serveE serveP
  rw [putE_sort hn,adGet_sort hn]
  exact ⟨rfl,rfl⟩
theorem rserveL_sort {life : Int} {L : List S57} (hn : (L.map (·.f0)).Nodup) (self home hops : Int) (p : S30) : rserveL life (sortN L) self home hops p = sortN (serveL life L self home hops p) := by
  unfold rserveL serveL
  rw [rputL_sort hn]
  split <;> rfl
end Go.Proofs.Ytlpmblcdafdfdaa.PA
