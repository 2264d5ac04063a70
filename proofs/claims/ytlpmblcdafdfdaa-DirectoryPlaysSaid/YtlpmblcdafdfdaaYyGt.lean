/- What is told of a name, in plain terms: behind each call of a directory. No condition but those that each theorem names. -/
import Derived.Test.YtlpmblcdafdfdaaYyDo
import Derived.Test.YtlpmblcdafdfdaaYyDm
namespace Go.Proofs.Ytlpmblcdafdfdaa.PA
open Go.RowKit Go.Proofs.YtlpmblcdafdfdaaW.PrintWords Go.Proofs.YtlpmblcdafdfdaaW.PrintLast Go.Proofs.YtlpmblcdafdfdaaW.PrintMore
set_option linter.unusedVariables false
set_option linter.unusedSimpArgs false
open Classical
def Lives (life : Int) (L : List S57) : Prop := L.length ≤ 4096 ∧ ∀ a ∈ L,1 ≤ a.f3 ∧ a.f3 ≤ life
theorem Lives.kept {life : Int} {L : List S57} (h : Lives life L) (hl : life ≤ 1048576) : Kept L := ⟨h.1,fun a ha => ⟨(h.2 a ha).1,by have := (h.2 a ha).2;omega⟩⟩
theorem adPut_len (a : S57) : ∀ L : List S57,(adPut a L).length = if adGet a.f0 L = none then L.length + 1 else L.length
  | [] => by simp [adPut,adGet]
  | b :: r => by
    rw [adPut,adGet]
    by_cases h : a.f0 = b.f0
    · simp [h]
    · rw [if_neg h,if_neg h,List.length_cons,adPut_len a r]
      split <;> simp
theorem adPut_mem {a x : S57} : ∀ {L : List S57},x ∈ adPut a L → x = a ∨ x ∈ L
  | [],h => by simpa [adPut] using h
  | b :: r,h => by
    rw [adPut] at h
    by_cases e : a.f0 = b.f0
    · rw [if_pos e] at h
      rcases List.mem_cons.1 h with h | h
      · exact .inl h
      · exact .inr (List.mem_cons_of_mem _ h)
    · rw [if_neg e] at h
      rcases List.mem_cons.1 h with h | h
      · exact .inr (by rw [h];simp)
      · rcases adPut_mem h with h | h
        · exact .inl h
        · exact .inr (List.mem_cons_of_mem _ h)
theorem adGet_put (a : S57) (s : ByteArray) : ∀ L : List S57,adGet s (adPut a L) = if s = a.f0 then some a else adGet s L
  | [] => by simp [adPut,adGet]
  | b :: r => by
    rw [adPut]
    by_cases e : a.f0 = b.f0
    · rw [if_pos e,adGet,adGet]
      by_cases h : s = a.f0
      · simp [h]
      · rw [if_neg h,if_neg h,if_neg (by rw [← e];exact h)]
    · rw [if_neg e,adGet,adGet_put a s r,adGet]
      by_cases h : s = b.f0
      · rw [if_pos h,if_pos h,if_neg (by rw [h];exact Ne.symm e)]
      · rw [if_neg h,if_neg h]
theorem lives_nil (life : Int) : Lives life [] := ⟨by simp,by simp⟩
theorem putE_zero {L : List S57} {s : ByteArray} {id at_ : Int} (h : putE L s id at_ = 0) : ¬ (adGet s L = none ∧ 4096 ≤ L.length) := by
  intro hf
  unfold putE at h
  split at h
  · contradiction
  · split at h
    · contradiction
    · first
        | contradiction
        | (rw [if_pos hf] at h;contradiction)
theorem lives_put {life : Int} {L : List S57} (h : Lives life L) (hl : 1 ≤ life) (s : ByteArray) (id at_ : Int) : Lives life (putL life L s id at_) := by
  unfold putL
  by_cases h0 : putE L s id at_ = 0
  · rw [if_pos h0]
    refine ⟨?_,fun a ha => ?_⟩
    · rw [adPut_len]
      have := putE_zero h0
      have := h.1
      by_cases hg : adGet s L = none
      · rw [if_pos hg]
        have : ¬ 4096 ≤ L.length := fun h4 => putE_zero h0 ⟨hg,h4⟩
        omega
      · rw [if_neg hg]
        exact h.1
    · rcases adPut_mem ha with rfl | ha
      · exact ⟨hl,Int.le_refl _⟩
      · exact h.2 a ha
  · rw [if_neg h0]
    exact h
theorem lives_tick {life : Int} {L : List S57} (h : Lives life L) : Lives life (tickL L) := by
  refine ⟨Nat.le_trans (List.length_filterMap_le _ _) h.1,fun a ha => ?_⟩
  obtain ⟨b,hb,he⟩ := List.mem_filterMap.1 ha
  have := h.2 b hb
  unfold tick1 at he
  split at he
  · rw [← Option.some.inj he]
    show 1 ≤ b.f3 - 1 ∧ b.f3 - 1 ≤ life
    omega
  · cases he
theorem lives_serve {life : Int} {L : List S57} (h : Lives life L) (hl : 1 ≤ life) (self home hops : Int) (p : S30) : Lives life (serveL life L self home hops p) := by
  unfold serveL
  split
  · exact lives_put h hl _ _ _
  · exact h
def Known (life : Int) (name : ByteArray) (L : List S57) (sm : Bool) (id at_ ago : Int) : Prop :=
  Lives life L ∧ adGet name L = (if sm = true ∧ ago < life then some ⟨name,id,at_,life - ago⟩ else none) ∧ 0 ≤ ago ∧ ago ≤ 4611686018427387904
section
variable {life : Int} {name : ByteArray} {L : List S57} {sm : Bool} {id at_ ago : Int}
theorem Known.put (h : Known life name L sm id at_ ago) (hl : 1 ≤ life) {id' at' : Int} (h0 : putE L name id' at' = 0) : Known life name (putL life L name id' at') true id' at' 0 := by
  refine ⟨lives_put h.1 hl _ _ _,?_,by omega,by omega⟩
  rw [putL_ok h0,adGet_put,if_pos rfl,if_pos ⟨rfl,by omega⟩,Int.sub_zero]
theorem Known.drop (h : Known life name L sm id at_ ago) : Known life name [] false id at_ ago := ⟨lives_nil life,by simp [adGet],h.2.2⟩
end
theorem serve_live {w : World} {g b : Nat} {life : Int} {L : List S57} (h : DirAt w g b life L) (self home hops : Int) (p : S30) :
    Calls Try.prog 22 #[.pointer (some ⟨g,0,none⟩),.int .i64 self,.int .i64 home,.int .i64 hops,.agg #[.int .i64 p.f0,.int .i64 p.f1,.int .i64 p.f2,.int .i64 p.f3,.int .i64 p.f4,.int .i64 p.f5,.int .u64 p.f6,.int .i64 p.f7,.string p.f8,.int .i64 p.f9,.int .i64 p.f10,.string p.f11]] w fun e w' => ServeOut w g b life L self home hops p e w' := by
  by_cases h0 : askedV self home hops = 0
  · cases hm : mayP p
    · exact serve_may h self home hops p h0 hm
    · by_cases h2 : p.f0 = 2
      · by_cases ht : p.f3 = self
        · exact serve_put h self home hops p h0 hm h2 ht
        · exact serve_to2 h self home hops p h0 hm h2 ht
      · by_cases h3 : p.f0 = 3
        · by_cases ht : p.f3 = self
          · cases hg : adGet p.f8 L with
            | none => exact serve_none h self home hops p h0 hm h3 ht hg
            | some a => exact serve_some h self home hops p h0 hm h3 ht a hg
          · exact serve_to3 h self home hops p h0 hm h3 ht
        · exact serve_kind h self home hops p h0 hm h2 h3
  · exact serve_asked h self home hops p _ rfl h0
end Go.Proofs.Ytlpmblcdafdfdaa.PA
