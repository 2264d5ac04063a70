/- Rows of rows: made empty; an element appended to one of them. No condition but those each theorem names. -/
import Derived.Test.YtmdkcecbklgihaaCcHd
namespace Go.Proofs.Ytmdkcecbklgihaa.PA
open Go.RowKit Go.Proofs.YtmdkcecbklgihaaW.PrintWords Go.Proofs.YtmdkcecbklgihaaW.PrintLast Go.Proofs.YtmdkcecbklgihaaW.PrintMore
set_option linter.unusedVariables false
set_option linter.unusedSimpArgs false
def kRow : Kd (List S81) := Kd.slice 81 k81
theorem info79 : (Try.prog.info? 79).map (fun i => (i.zero,i.size,i.bytes)) = some (some (.slice none 0 0),1,24) := by kernel_rfl
theorem S_new {W : World} {b n base : Nat} {ok : Nat → Prop} (hb : W.heap[b]? = some (.cells (madeCells #[.slice none 0 0] n) 79 (0,0))) (hbase : base ≤ b) (hok : ok b) (hn : n ≤ maxLen) :
    Kd.S kRow 79 W base ok (.slice (some ⟨b,0,none⟩) n n) (List.replicate n []) := by
  refine Kd.S_bare ⟨fun k hk => ?_,(madeCells #[.slice none 0 0] n).toList,⟨?_,.inr ⟨b,n,madeCells #[.slice none 0 0] n,?_,hbase,hb,?_,hn,?_,?_⟩⟩,?_⟩
  · simp only [Value.ownBlock,Option.some.injEq] at hk
    subst hk
    exact hok
  · show (madeCells #[.slice none 0 0] n).toList.length = (List.replicate n []).length * 1
    simp [size_madeCells]
  · simp
  · simp
  · show (madeCells #[.slice none 0 0] n).size = n * 1
    simp [size_madeCells]
  · show (madeCells #[.slice none 0 0] n).toList.take ((List.replicate n []).length * 1) = (madeCells #[.slice none 0 0] n).toList
    rw [List.take_of_length_le]
    simp [size_madeCells]
  have h := Kd.reps_made (R := (Kd.bare kRow).M W base (fun k => ok k ∧ some k ≠ (Value.slice (some ⟨b,0,none⟩) n n).ownBlock)) (z := .slice none 0 0) (size := 1) (z0 := ([] : List S81)) rfl (by decide) ⟨.slice none 0 0,rfl,Kd.R_nil _ _ _ _ _⟩ n
  rw [Nat.mul_one] at h
  exact h
theorem S_app {W : World} {g n cap base : Nat} {ok : Nat → Prop} {rows : List (List S81)} (h : Kd.S kRow 79 W base ok (.slice (some ⟨g,0,none⟩) n cap) rows) (hfresh : ∀ k,W.heap.size ≤ k → ok k) (i : Nat) (hi : i < n) :
    ∃ A c okr,W.cell? ⟨g,i,none⟩ = some (.slice A (rows.getD i []).length c) ∧ W.frozen? ⟨g,i,none⟩ = false ∧ k81.R 81 W base okr (.slice A (rows.getD i []).length c) (rows.getD i []) ∧ (∀ k,W.heap.size ≤ k → okr k) ∧ (∀ k,okr k → ok k ∧ k ≠ g) ∧
      ∀ x v1 w1,k81.R 81 w1 base okr v1 (rows.getD i [] ++ [x]) → W.grownBy w1 (Value.slice A (rows.getD i []).length c).ownBlock →
        Kd.S kRow 79 (w1.setCell ⟨g,i,none⟩ v1) base ok (.slice (some ⟨g,0,none⟩) n cap) (rows.set i (rows.getD i [] ++ [x])) := by
  obtain ⟨oki,c,hcl,hM,hcc,hfr,hoki,hH⟩ := Kd.S_elem h [] (i : Int) (by omega) (by omega)
  obtain ⟨v,rfl,hR⟩ := hM
  rw [Int.toNat_natCast] at hR
  obtain ⟨A,cp,rfl⟩ := Kd.R_slice hR
  have hg : g < W.heap.size := Kd.S_lt h g rfl
  have hc0 : W.cell? ⟨g,i * 1,none⟩ = some (.slice A (rows.getD i []).length cp) := hcc 0 _ rfl
  have hf0 : W.frozen? ⟨g,i * 1,none⟩ = false := hfr 0
  rw [Nat.mul_one] at hc0 hf0
  refine ⟨A,cp,fun k => oki k ∨ ok k ∧ W.heap.size ≤ k,hc0,hf0,Kd.R_mono hR (fun k hk => Or.inl hk),fun k hk => Or.inr ⟨hfresh k hk,hk⟩,fun k hk => ?_,fun x v1 w1 hR1 hg1 => ?_⟩
  · rcases hk with hk | hk
    · exact hoki k hk
    exact ⟨hk.1,by omega⟩
  have hH1 := Kd.H_grown (Kd.H_widen hH) hg1 (fun k hk => Or.inl (hR.1 k hk))
  have hv1 := Kd.R_val hR1
  obtain ⟨hH2,hg2⟩ := Kd.H_seg hH1 (by omega : 0 ≤ (i : Int)) (by omega) (seg := [v1]) (j := 0) (Nat.le_refl 1) (by
    intro q hq
    rw [List.mem_singleton.1 hq]
    exact hv1.2)
  have hH3 : Kd.H kRow 79 (w1.setCell ⟨g,i,none⟩ v1) base ok (.slice (some ⟨g,0,none⟩) n cap) rows (i : Int) (fun k => oki k ∨ ok k ∧ W.heap.size ≤ k) [v1] := by
    have e : w1.setCells g ((i : Int).toNat * kRow.sz + 0) [v1] = w1.setCell ⟨g,i,none⟩ v1 := by
      show w1.setCells g (i * 1 + 0) [v1] = _
      rw [Nat.mul_one,Nat.add_zero]
      rfl
    rw [e] at hH2
    exact hH2
  have hfar : k81.R 81 (w1.setCell ⟨g,i,none⟩ v1) base (fun k => oki k ∨ ok k ∧ W.heap.size ≤ k) v1 (rows.getD i [] ++ [x]) := by
    refine Kd.R_far hR1 (fun k hk => ?_) _
    rcases hk with hk | hk
    · exact (hoki k hk).2
    show k ≠ g
    omega
  have := Kd.H_back hH3 (x' := rows.getD i [] ++ [x]) (okp := fun k => oki k ∨ ok k ∧ W.heap.size ≤ k) ⟨v1,rfl,hfar⟩ (fun _ hk => hk)
  rw [Int.toNat_natCast] at this
  exact this
end Go.Proofs.Ytmdkcecbklgihaa.PA
