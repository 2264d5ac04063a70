/- The way from one router to another one, hop by hop. Conditions: the graph may be, weights are words. -/
import Derived.Test.YtmdkcecbklgihaaSpX
import Derived.Test.YtmdkcecbklgihaaSpGj
import Derived.Test.YtmdkcecbklgihaaSpHy
namespace Go.Proofs.Ytmdkcecbklgihaa.PA
open Go.RowKit Go.Proofs.YtmdkcecbklgihaaW.PrintWords
open Classical
set_option linter.unusedVariables false
set_option linter.unusedSimpArgs false
noncomputable def ask2 (nodes : List S40) (links : List S74) (mx : Nat) (a b : Int) : Int := if askSpec nodes links mx a = 0 then askSpec nodes links mx b else askSpec nodes links mx a
noncomputable def hopTo (nodes : List S40) (links : List S74) (M : Nat) (q : List Nat) (t : Nat) (id : Int) : Int := hopOf nodes M ((adjQ wqOf nodes links).getD (plc nodes id) []) q (plc nodes id) t
noncomputable def walkOn (nodes : List S40) (links : List S74) (M : Nat) (q : List Nat) (dest : Int) : Nat → Int → List Int → List Int
  | 0,_,l => l
  | k + 1,id,l => if id = dest then l else walkOn nodes links M q dest k (hopTo nodes links M q (plc nodes dest) id) (l ++ [hopTo nodes links M q (plc nodes dest) id])
noncomputable def pathSpec (nodes : List S40) (links : List S74) (mx : Nat) (a b : Int) : List Int × Nat × Int :=
  if ask2 nodes links mx a b = 0 then
    (if mqOf mx ≤ (dQ nodes links (mqOf mx) (plc nodes b)).getD (plc nodes a) 0 then ([],9218868437227405312,0)
    else (walkOn nodes links (mqOf mx) (dQ nodes links (mqOf mx) (plc nodes b)) b ((dQ nodes links (mqOf mx) (plc nodes b)).getD (plc nodes a) 0) a [a],bq ((dQ nodes links (mqOf mx) (plc nodes b)).getD (plc nodes a) 0),0))
  else ([],0,ask2 nodes links mx a b)
theorem pathSpec_no {nodes : List S40} {links : List S74} {mx : Nat} {a b e : Int} (h : ask2 nodes links mx a b = e) (he : e ≠ 0) : pathSpec nodes links mx a b = ([],0,e) := by
  unfold pathSpec
  rw [h,if_neg he]
theorem pathSpec_far {nodes : List S40} {links : List S74} {mx : Nat} {a b : Int} (h : ask2 nodes links mx a b = 0) (h2 : mqOf mx ≤ (dQ nodes links (mqOf mx) (plc nodes b)).getD (plc nodes a) 0) : pathSpec nodes links mx a b = ([],9218868437227405312,0) := by
  unfold pathSpec
  rw [if_pos h,if_pos h2]
theorem pathSpec_ok {nodes : List S40} {links : List S74} {mx : Nat} {a b : Int} (h : ask2 nodes links mx a b = 0) (h2 : ¬ mqOf mx ≤ (dQ nodes links (mqOf mx) (plc nodes b)).getD (plc nodes a) 0) :
    pathSpec nodes links mx a b = (walkOn nodes links (mqOf mx) (dQ nodes links (mqOf mx) (plc nodes b)) b ((dQ nodes links (mqOf mx) (plc nodes b)).getD (plc nodes a) 0) a [a],bq ((dQ nodes links (mqOf mx) (plc nodes b)).getD (plc nodes a) 0),0) := by
  unfold pathSpec
  rw [if_pos h,if_neg h2]
theorem candR_pos {nodes : List S40} {links : List S74} (G : Good nodes links) (hF : Fits links) {M : Nat} {q : List Nat} {f p : Nat} (c : Int) (h : some c ∈ ((adjQ wqOf nodes links).getD p []).map (candR nodes M q f)) : 1 ≤ c := by
  obtain ⟨e,he,hc⟩ := List.mem_map.1 h
  unfold candR at hc
  split at hc
  · rw [← Option.some.inj hc]
    obtain ⟨l,hl,_,h2⟩ := (mem_adjQ wqOf nodes links G.ends _ _).1 he
    obtain ⟨e0,e1⟩ := G.ends l hl
    rcases h2 with ⟨_,rfl⟩ | ⟨_,rfl⟩
    · exact (G.id _ e1).1
    · exact (G.id _ e0).1
  · cases hc
section
variable {nodes : List S40} {links : List S74} (G : Good nodes links) (hF : Fits links) {M s : Nat} (h4 : 4 ≤ M) (hM : M ≤ 4294967296) (hs : s < nodes.length)
include G hF h4 hM hs
theorem way_link {p : Nat} (hp : p < nodes.length) (hne : p ≠ s) (hlt : (dQ nodes links M s).getD p 0 < M) :
    ∃ e,e ∈ (adjQ wqOf nodes links).getD p [] ∧ (dQ nodes links M s).getD e.1 0 < M ∧ e.2 + (dQ nodes links M s).getD e.1 0 = (dQ nodes links M s).getD p 0 ∧ e.1 < nodes.length ∧ 1 ≤ e.2 := by
  have P := G.pass hF h4 hM hs
  have hW := adjQ_wf wqOf 4194304 nodes links P.ends P.wts
  have hu := dQ_up G hF h4 hM hs hp hlt
  have hI := dQ_is G hF h4 hM hs hu.2
  have hw := hI.wk p hp hlt
  obtain ⟨t,ht⟩ : ∃ t,(dQ nodes links M s).getD p 0 = t := ⟨_,rfl⟩
  rw [ht] at hw hlt ⊢
  cases hw with
  | nil => exact absurd rfl hne
  | cons h1 h2 h3 =>
    rename_i r u e
    have hr := h1.lt hW hs
    have h5 := hI.le_walk hW hs h1
    have h6 := hI.fix r hr e h2
    have h7 := sym_adj G r e h2
    have h8 := hW.2 r e h2
    rw [ht] at h6
    refine ⟨(r,e.2),h7,?_,?_,hr,h8.2⟩
    · show (dQ nodes links M s).getD r 0 < M
      omega
    · show e.2 + (dQ nodes links M s).getD r 0 = e.2 + u
      omega
theorem hop_tells {id : Int} (hid : plc nodes id < nodes.length) (hne : plc nodes id ≠ s) (hlt : (dQ nodes links M s).getD (plc nodes id) 0 < M) :
    ∃ e,e ∈ (adjQ wqOf nodes links).getD (plc nodes id) [] ∧ (dQ nodes links M s).getD e.1 0 < M ∧ e.2 + (dQ nodes links M s).getD e.1 0 = (dQ nodes links M s).getD (plc nodes id) 0 ∧ e.1 < nodes.length ∧ 1 ≤ e.2 ∧
      hopTo nodes links M (dQ nodes links M s) s id = (nodes.getD e.1 z40).f0 ∧ plc nodes (hopTo nodes links M (dQ nodes links M s) s id) = e.1 := by
  have P := G.pass hF h4 hM hs
  have hW := adjQ_wf wqOf 4194304 nodes links P.ends P.wts
  obtain ⟨e0,a1,a2,a3,a4,a5⟩ := way_link G hF h4 hM hs hid hne hlt
  have hh : hopTo nodes links M (dQ nodes links M s) s id = (((adjQ wqOf nodes links).getD (plc nodes id) []).map (candR nodes M (dQ nodes links M s) (plc nodes id))).foldl minStep 0 := by
    unfold hopTo hopOf
    rw [if_neg (by omega),hop_cand]
  obtain ⟨b1,b2,b3⟩ := least (((adjQ wqOf nodes links).getD (plc nodes id) []).map (candR nodes M (dQ nodes links M s) (plc nodes id))) 0 (Int.le_refl _) (fun c hc => candR_pos G hF c hc)
  rw [← hh] at b1 b2 b3
  by_cases h0 : hopTo nodes links M (dQ nodes links M s) s id = 0
  · exfalso
    refine (b2 h0).2 (nodes.getD e0.1 z40).f0 (List.mem_map.2 ⟨e0,a1,?_⟩)
    unfold candR
    rw [if_pos ⟨a2,a3⟩]
  · rcases (b3 h0).1 with h5 | h5
    · exact absurd h5 h0
    · obtain ⟨e,he,hc⟩ := List.mem_map.1 h5
      unfold candR at hc
      by_cases hcond : (dQ nodes links M s).getD e.1 0 < M ∧ e.2 + (dQ nodes links M s).getD e.1 0 = (dQ nodes links M s).getD (plc nodes id) 0
      · rw [if_pos hcond] at hc
        have h8 := hW.2 _ e he
        exact ⟨e,he,hcond.1,hcond.2,h8.1,h8.2,(Option.some.inj hc).symm,Good.plc_inj G.nd h8.1 (Option.some.inj hc)⟩
      · rw [if_neg hcond] at hc
        cases hc
theorem walkOn_more {dest : Int} (hd : plc nodes dest = s) (hdl : (nodes.getD s z40).f0 = dest) : ∀ (k k' : Nat) (id : Int) (l : List Int),plc nodes id < nodes.length → (dQ nodes links M s).getD (plc nodes id) 0 < M → (dQ nodes links M s).getD (plc nodes id) 0 ≤ k → k ≤ k' →
    walkOn nodes links M (dQ nodes links M s) dest k' id l = walkOn nodes links M (dQ nodes links M s) dest k id l
  | 0,k',id,l,hid,hlt,hk,hk' => by
    have he : id = dest := by
      rcases Nat.decEq (plc nodes id) s with h | h
      · obtain ⟨e,_,_,a3,_,a5⟩ := way_link G hF h4 hM hs hid h hlt
        omega
      · rw [← hdl,← h,plc_at hid]
    cases k' with
    | zero => rfl
    | succ k' =>
      show (if id = dest then l else _) = l
      rw [if_pos he]
  | k + 1,k',id,l,hid,hlt,hk,hk' => by
    obtain ⟨k',rfl⟩ : ∃ m,k' = m + 1 := ⟨k' - 1,by omega⟩
    by_cases he : id = dest
    · show (if id = dest then l else _) = (if id = dest then l else _)
      rw [if_pos he,if_pos he]
    · have hne : plc nodes id ≠ s := by
        intro h
        apply he
        rw [← hdl,← h,plc_at hid]
      obtain ⟨e,a1,a2,a3,a4,a5,a6,a7⟩ := hop_tells G hF h4 hM hs hid hne hlt
      show (if id = dest then l else _) = (if id = dest then l else _)
      rw [if_neg he,if_neg he,hd]
      exact walkOn_more hd hdl k k' _ _ (by rw [a7];exact a4) (by rw [a7];exact a2) (by rw [a7];omega) (by omega)
end
end Go.Proofs.Ytmdkcecbklgihaa.PA
