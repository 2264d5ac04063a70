/- The document's Put: words for its list while a new address is let in. No condition. -/
import Derived.Test.YtlpmblcdafdfdaaYyDt
namespace Go.Proofs.Ytlpmblcdafdfdaa.PA
open Go.RowKit Go.Proofs.YtlpmblcdafdfdaaW.PrintWords Go.Proofs.YtlpmblcdafdfdaaW.PrintLast Go.Proofs.YtlpmblcdafdfdaaW.PrintMore
set_option linter.unusedVariables false
set_option linter.unusedSimpArgs false
open Classical
theorem putE_inv {M : List S57} {s : ByteArray} {id at_ : Int} (h : putE M s id at_ = 0) : nameV s = 0 ∧ badId id = false ∧ (at_ = 0 ∨ badId at_ = false) ∧ ((∃ j : Nat,placeN s M 0 = (j : Int)) ∨ placeN s M 0 = -1 ∧ M.length < 4096) := by
  have h1 : nameV s = 0 := Classical.byContradiction fun hn => hn ((putE_name rfl hn).symm.trans h)
  have h2 : (badId id || (at_ != 0 && badId at_)) = false := by
    cases hb : (badId id || (at_ != 0 && badId at_))
    · rfl
    · have := (putE_id (L := M) h1 hb).symm.trans h
      omega
  have h3 : ¬ (adGet s M = none ∧ 4096 ≤ M.length) := fun hf => by
    have := (putE_full h1 h2 hf).symm.trans h
    omega
  have h2' := Bool.or_eq_false_iff.1 h2
  refine ⟨h1,h2'.1,?_,?_⟩
  · by_cases ha : at_ = 0
    · exact .inl ha
    · right
      have h4 := h2'.2
      have : (at_ != 0) = true := by simpa using ha
      rw [this,Bool.true_and] at h4
      exact h4
  · cases hg : adGet s M with
    | none =>
      right
      refine ⟨placeN_none hg,?_⟩
      have : ¬ 4096 ≤ M.length := fun h4 => h3 ⟨hg,h4⟩
      omega
    | some a =>
      left
      obtain ⟨j,hj,_⟩ := placeN_some (i := 0) hg
      exact ⟨j,by omega⟩
theorem put_form {w w3 : World} {bx br nb : Nat} {v3 : Value} {B : List S57} {a : S57} {life : Int} {A : Option Addr} {n c : Nat} (h : RInv w w3 bx br v3 (B ++ [a]) life A n c) (hb : nb = B.length) :
    ∃ g cap,v3 = .slice (some ⟨g,0,none⟩) (nb + 1) cap ∧ g ≠ bx ∧ g ≠ br ∧ RInv w w3 bx br (.slice (some ⟨g,0,none⟩) (nb + 1) cap) (letIn B a nb) life A n c := by
  obtain ⟨g,cap,hv,h1,h2,cells,h3⟩ := Kd.R_form h.1 (by simp)
  have hl : (B ++ [a]).length = nb + 1 := by simp [hb]
  rw [hl] at hv
  have hg := h.1.1 g (by rw [hv];simp [Value.ownBlock])
  subst hb
  refine ⟨g,cap,hv,hg.1,hg.2,?_⟩
  rw [letIn_end,← hv]
  exact h
theorem row_at {w wr : World} {bx br g n1 cap : Nat} {P : List S57} {life : Int} {A : Option Addr} {n c : Nat} (h : RInv w wr bx br (.slice (some ⟨g,0,none⟩) n1 cap) P life A n c) (i : Nat) (hi : i < n1) (x : S57) (hx : P.getD i z57 = x) :
    wr.cell? ⟨g,i * 4,none⟩ = some (.string x.f0) ∧ wr.cell? ⟨g,i * 4 + 1,none⟩ = some (.int .i64 x.f1) ∧ wr.cell? ⟨g,i * 4 + 2,none⟩ = some (.int .i64 x.f2) ∧ wr.cell? ⟨g,i * 4 + 3,none⟩ = some (.int .i64 x.f3) ∧ ∀ j,wr.frozen? ⟨g,i * 4 + j,none⟩ = false := by
  obtain ⟨cs,hcl,hM,hcc,hfr⟩ := Kd.R_elem h.1 z57 (i : Int) (by omega) (by omega)
  rw [Int.toNat_natCast,hx] at hM
  rw [Int.toNat_natCast] at hcc hfr
  have := k57_openM hM
  subst this
  exact ⟨hcc 0 _ rfl,hcc 1 _ rfl,hcc 2 _ rfl,hcc 3 _ rfl,hfr⟩
theorem row_set {w wr : World} {bx br g n1 cap : Nat} {P : List S57} {life : Int} {A : Option Addr} {n c : Nat} (h : RInv w wr bx br (.slice (some ⟨g,0,none⟩) n1 cap) P life A n c) (i : Nat) (hi : i < n1) (y : S57) (hg1 : g ≠ bx) (hg2 : g ≠ br) :
    RInv w ((((wr.setCell ⟨g,i * 4,none⟩ (.string y.f0)).setCell ⟨g,i * 4 + 1,none⟩ (.int .i64 y.f1)).setCell ⟨g,i * 4 + 2,none⟩ (.int .i64 y.f2)).setCell ⟨g,i * 4 + 3,none⟩ (.int .i64 y.f3)) bx br (.slice (some ⟨g,0,none⟩) n1 cap) (P.set i y) life A n c := by
  obtain ⟨cs,hcl,hM,hcc,hfr⟩ := Kd.R_elem h.1 z57 (i : Int) (by omega) (by omega)
  have hgb : w.heap.size ≤ g := Kd.R_base h.1 g (by simp [Value.ownBlock])
  obtain ⟨h1,h2⟩ := Kd.R_seg h.1 (i : Int) (by omega) (by omega) (c := cs) (seg := [.string y.f0,.int .i64 y.f1,.int .i64 y.f2,.int .i64 y.f3]) (j := 0) (x' := y) (okp := fun k => (k ≠ bx ∧ k ≠ br) ∧ k ≠ g) hcl hcc (by show 0 + 4 ≤ 4;omega)
    (by
      have h4 : cs.length = 4 := hcl
      have e : cs.take 0 ++ [.string y.f0,.int .i64 y.f1,.int .i64 y.f2,.int .i64 y.f3] ++ cs.drop (0 + 4) = [.string y.f0,.int .i64 y.f1,.int .i64 y.f2,.int .i64 y.f3] := by
        rw [List.drop_eq_nil_of_le (by omega)]
        simp
      show k57.M wr w.heap.size _ y (cs.take 0 ++ [.string y.f0,.int .i64 y.f1,.int .i64 y.f2,.int .i64 y.f3] ++ cs.drop (0 + 4))
      rw [e]
      exact k57_mkM _ _ _ y) (fun k hk => hk)
  rw [Int.toNat_natCast] at h1 h2
  exact ⟨h1,(((h.2.1.setCell hgb _).setCell hgb _).setCell hgb _).setCell hgb _,blk_grown h.2.2.1 h2 (fun e => hg1 (Option.some.inj e).symm),blk_grown h.2.2.2 h2 (fun e => hg2 (Option.some.inj e).symm)⟩
theorem row_swap {w wr : World} {bx br g cap nb : Nat} {B : List S57} {a y : S57} {k : Nat} {life : Int} {A : Option Addr} {n c : Nat} (h : RInv w wr bx br (.slice (some ⟨g,0,none⟩) (nb + 1) cap) (letIn B a (k + 1)) life A n c) (hb : nb = B.length) (hk : k + 1 ≤ nb) (hy : B.getD k z57 = y) (hg1 : g ≠ bx) (hg2 : g ≠ br) :
    RInv w ((((((((wr.setCell ⟨g,(k + 1) * 4,none⟩ (.string y.f0)).setCell ⟨g,(k + 1) * 4 + 1,none⟩ (.int .i64 y.f1)).setCell ⟨g,(k + 1) * 4 + 2,none⟩ (.int .i64 y.f2)).setCell ⟨g,(k + 1) * 4 + 3,none⟩ (.int .i64 y.f3)).setCell ⟨g,k * 4,none⟩ (.string a.f0)).setCell ⟨g,k * 4 + 1,none⟩ (.int .i64 a.f1)).setCell ⟨g,k * 4 + 2,none⟩ (.int .i64 a.f2)).setCell ⟨g,k * 4 + 3,none⟩ (.int .i64 a.f3)) bx br (.slice (some ⟨g,0,none⟩) (nb + 1) cap) (letIn B a k) life A n c := by
  have h1 := row_set (row_set h (k + 1) (by omega) y hg1 hg2) k (by omega) a hg1 hg2
  have e := letIn_swap B a k (by omega)
  rw [hy] at e
  rw [e] at h1
  exact h1
theorem row_swap4 {w wr : World} {bx br g cap nb : Nat} {B : List S57} {s : ByteArray} {id at_ : Int} {y : S57} {k : Nat} {life : Int} {A : Option Addr} {n c : Nat} (h : RInv w wr bx br (.slice (some ⟨g,0,none⟩) (nb + 1) cap) (letIn B ⟨s,id,at_,life⟩ (k + 1)) life A n c) (hb : nb = B.length) (hk : k + 1 ≤ nb) (hy : B.getD k z57 = y) (hg1 : g ≠ bx) (hg2 : g ≠ br) :
    RInv w (((((((((wr.setCell ⟨g,(k + 1) * 4,none⟩ (.string y.f0)).setCell ⟨g,(k + 1) * 4 + 1,none⟩ (.int .i64 y.f1)).setCell ⟨g,(k + 1) * 4 + 2,none⟩ (.int .i64 y.f2)).setCell ⟨g,(k + 1) * 4 + 3,none⟩ (.int .i64 y.f3)).setCell ⟨g,k * 4,none⟩ (.string s)).setCell ⟨g,k * 4 + 1,none⟩ (.int .i64 id)).setCell ⟨g,k * 4 + 2,none⟩ (.int .i64 at_)).setCell ⟨g,k * 4 + 3,none⟩ (.int .i64 life)).drew) bx br (.slice (some ⟨g,0,none⟩) (nb + 1) cap) (letIn B ⟨s,id,at_,life⟩ k) life A n c := (row_swap (a := ⟨s,id,at_,life⟩) h hb hk hy hg1 hg2).below (below_drew (Below.refl _ _))
theorem rput_end {w wr : World} {bx br g cap n1 : Nat} {P M : List S57} {life : Int} {A : Option Addr} {c : Nat} {s : ByteArray} {id at_ : Int} (h : RInv w wr bx br (.slice (some ⟨g,0,none⟩) n1 cap) P life A M.length c) (hP : P = sortN (adPut ⟨s,id,at_,life⟩ M)) (hE : putE M s id at_ = 0) (hx : bx ≠ br ∧ w.heap.size ≤ bx ∧ w.heap.size ≤ br) :
    RPutOut w life A M s id at_ (.returned (.tuple #[.agg #[.int .i64 life,.slice (some ⟨g,0,none⟩) n1 cap],.int .i64 0])) (((wr.setCell ⟨bx,1,none⟩ (.slice (some ⟨g,0,none⟩) n1 cap)).setCell ⟨br,0,none⟩ (.int .i64 life)).setCell ⟨br,1,none⟩ (.slice (some ⟨g,0,none⟩) n1 cap)) := by
  have e : rputL life M s id at_ = P := by unfold rputL;rw [if_pos hE,hP]
  have RW : Kd.R k57 57 (((wr.setCell ⟨bx,1,none⟩ (.slice (some ⟨g,0,none⟩) n1 cap)).setCell ⟨br,0,none⟩ (.int .i64 life)).setCell ⟨br,1,none⟩ (.slice (some ⟨g,0,none⟩) n1 cap)) w.heap.size (fun k => k ≠ bx ∧ k ≠ br) (.slice (some ⟨g,0,none⟩) n1 cap) P := Kd.R_far (p := ⟨br,1,none⟩) (Kd.R_far (p := ⟨br,0,none⟩) (Kd.R_far (p := ⟨bx,1,none⟩) h.1 (fun k hk => hk.1) _) (fun k hk => hk.2) _) (fun k hk => hk.2) _
  obtain ⟨hn,hcc,hC⟩ := Kd.R_reads' RW
  subst hn
  exact ⟨_,_,by rw [e,hE],by rw [e];exact hcc,by rw [e];exact hC,((h.2.1.setCell hx.2.1 _).setCell hx.2.2 _).setCell hx.2.2 _,.inr (fun ad he => by obtain rfl := Option.some.inj he;exact Kd.R_base h.1 g (by simp [Value.ownBlock]))⟩
end Go.Proofs.Ytlpmblcdafdfdaa.PA
