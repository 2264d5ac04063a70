/- What a keeper does with an announcement and with a question, in plain terms. No condition but those that each theorem names. -/
import Derived.Test.YtlpmblcdafdfdaaAnGt
import Derived.Test.YtlpmblcdafdfdaaAnDg
namespace Go.Proofs.Ytlpmblcdafdfdaa.PA
open Go.RowKit Go.Proofs.YtlpmblcdafdfdaaW.PrintWords Go.Proofs.YtlpmblcdafdfdaaW.PrintLast Go.Proofs.YtlpmblcdafdfdaaW.PrintMore
set_option linter.unusedVariables false
set_option linter.unusedSimpArgs false
theorem idsV_zero {l : List Int} (h : idsV l = 0) : ∀ x ∈ l,badId x = false := by
  intro x hx
  unfold idsV at h
  split at h
  · exact absurd h (by decide)
  · rename_i h1
    cases hb : badId x
    · rfl
    · exact absurd (List.any_eq_true.2 ⟨x,hx,hb⟩) h1
theorem draw_ok {marks : List Int} {name : ByteArray} (h : (drawV marks name).2 = 0) : nameV name = 0 ∧ badId (drawV marks name).1 = false := by
  unfold drawV at h ⊢
  by_cases h0 : drawE marks name = 0
  · rw [if_pos h0] at h ⊢
    have hn : nameV name = 0 := by
      unfold drawE at h0
      split at h0
      · assumption
      · contradiction
    have hi : idsV marks = 0 := by
      unfold drawE at h0
      rwa [if_pos hn] at h0
    by_cases hl : marks.length = 0
    · rw [if_pos hl] at h
      exact absurd h (by decide)
    · rw [if_neg hl]
      have hm : (ordOf (sumV name) marks).getD 0 0 ∈ marks := (sort_head (aheadV (sumV name)) ahead_trans ahead_asym (ahead_self _) marks (by omega)).1
      exact ⟨hn,idsV_zero hi _ hm⟩
  · rw [if_neg h0] at h
    exact absurd h h0
theorem toE_zero {self home : Int} {name : ByteArray} {marks : List Int} {hops : Int} (h : toE self home name marks hops = 0) : askedV self home hops = 0 ∧ (drawV marks name).2 = 0 := by
  unfold toE at h
  split at h
  · rename_i h1
    exact ⟨h1,h⟩
  · contradiction
theorem asked_zero {a b c : Int} (h : askedV a b c = 0) : badId a = false ∧ (b == 0 || !badId b) = true ∧ 0 ≤ c ∧ c ≤ 65536 := by
  unfold askedV at h
  split at h
  · contradiction
  · rename_i h1
    split at h
    · contradiction
    · rename_i h2
      simp only [Bool.or_eq_true,decide_eq_true_eq,not_or] at h2
      refine ⟨?_,?_,by omega,by omega⟩
      · cases hb : badId a
        · rfl
        · simp [hb] at h1
      · cases hb : badId b
        · simp
        · by_cases hz : b = 0
          · simp [hz]
          · simp [hb,hz] at h1
theorem asked_keeper {r : Int} (h : badId r = false) : askedV r r 9 = 0 := by
  unfold askedV
  rw [if_neg (by simp [h]),if_neg (by decide)]
theorem noBytes_nil : noBytes ⟨#[]⟩ = true := by decide +kernel
section
variable {self home : Int} {name : ByteArray} {marks : List Int} {hops serial r : Int}
theorem may_put (hn : nameV name = 0) (hr : badId r = false) (ha : askedV self home hops = 0) : servable r ⟨2,self,home,r,r,hops,serial,0,name,self,home,⟨#[]⟩⟩ = true := by
  obtain ⟨h1,h2,h3,h4⟩ := asked_zero ha
  unfold servable mayP mayB borne
  simp only [h1,hr,h2,hn,noBytes_nil]
  simp [h3,h4]
theorem may_ask (hn : nameV name = 0) (hr : badId r = false) (ha : askedV self home hops = 0) : servable r ⟨3,self,home,r,r,hops,serial,0,name,0,0,⟨#[]⟩⟩ = true := by
  obtain ⟨h1,h2,h3,h4⟩ := asked_zero ha
  unfold servable mayP mayB nobodyP
  simp only [h1,hr,h2,hn,noBytes_nil]
  simp [h3,h4]
theorem put_first (hn : nameV name = 0) (ha : askedV self home hops = 0) : putE [] name self home = 0 := by
  obtain ⟨h1,h2,h3,h4⟩ := asked_zero ha
  refine putE_ok hn ?_ (by simp)
  rw [h1,Bool.false_or]
  cases hb : badId home
  · simp
  · by_cases hz : home = 0
    · simp [hz]
    · simp [hb,hz] at h2
theorem keeper_put {life : Int} (hl : 1 ≤ life) (hn : nameV name = 0) (hr : badId r = false) (ha : askedV self home hops = 0) (p : S30) (hp : p = ⟨2,self,home,r,r,hops,serial,0,name,self,home,⟨#[]⟩⟩) :
    serveE [] r r 9 p = 0 ∧ serveT r r 9 p = false ∧ serveP [] r r 9 p = z30 ∧ Known life name (serveL life [] r r 9 p) true self home 0 := by
  have hs := may_put (serial := serial) hn hr ha
  rw [← hp] at hs
  have e0 : p.f0 = 2 := by rw [hp]
  have e8 : p.f8 = name := by rw [hp]
  have e9 : p.f9 = self := by rw [hp]
  have e10 : p.f10 = home := by rw [hp]
  have hE : serveE [] r r 9 p = 0 := by
    unfold serveE
    rw [if_neg (by rw [asked_keeper hr];simp),if_neg (by rw [hs];simp),if_pos e0,e8,e9,e10]
    exact put_first hn ha
  have hT : serveT r r 9 p = false := by
    unfold serveT
    rw [e0]
    simp
  refine ⟨hE,hT,by unfold serveP;rw [hT,if_neg (by simp)],?_⟩
  have := (Known.start (life := life) (name := name) (id := 0) (at_ := 0)).served hl hE e0 e8
  rw [e9,e10] at this
  exact this
theorem keeper_ask {L : List S57} {life : Int} (hn : nameV name = 0) (hr : badId r = false) (ha : askedV self home hops = 0) (q : S30) (hq : q = ⟨3,self,home,r,r,hops,serial,0,name,0,0,⟨#[]⟩⟩) :
    serveE L r r 9 q = 0 ∧ serveT r r 9 q = true ∧ serveP L r r 9 q = answerP r r 9 q (adGet name L) ∧ serveL life L r r 9 q = L := by
  have hs := may_ask (serial := serial) hn hr ha
  rw [← hq] at hs
  have e0 : q.f0 = 3 := by rw [hq]
  have e8 : q.f8 = name := by rw [hq]
  have hT : serveT r r 9 q = true := by
    unfold serveT
    rw [asked_keeper hr,hs,e0]
    rfl
  refine ⟨?_,hT,by unfold serveP;rw [hT,if_pos rfl,e8],?_⟩
  · unfold serveE
    rw [if_neg (by rw [asked_keeper hr];simp),if_neg (by rw [hs];simp),if_neg (by rw [e0];decide)]
  · unfold serveL
    rw [if_neg (fun h => by rw [e0] at h;exact absurd h.2.2 (by decide))]
end
end Go.Proofs.Ytlpmblcdafdfdaa.PA
