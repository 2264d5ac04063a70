/- The queue of package paths: push puts an element more, pop takes one of them out, size tells how many. No condition but that it has fewer than 2^42. -/
import Derived.Test.YtmdkcecbklgihaaCcHe
import Derived.Test.YtmdkcecbklgihaaCcFl
import Derived.WalkLawsBesides
import Derived.WalkSpells
import Derived.Outline
import Derived.Deep.QuietTactic
import Derived.BigQuiet
import Derived.BigRegion
import Derived.Deep.CutRange
import Derived.Deep.RegionLaw
namespace Go.Proofs.Ytmdkcecbklgihaa.PA
open Go.RowKit Go.Proofs.YtmdkcecbklgihaaW.PrintWords Go.Proofs.YtmdkcecbklgihaaW.PrintLast Go.Proofs.YtmdkcecbklgihaaW.PrintMore
set_option linter.unusedVariables false
set_option linter.unusedSimpArgs false
theorem take_snoc (t : List S81) (m : Nat) (h : t.length = m + 1) : t = t.take m ++ [t.getD m z81] := by
  have h1 := (List.take_append_drop m t).symm
  have h2 : t.drop m = [t.getD m z81] := by
    rw [List.drop_eq_getElem_cons (by omega),List.drop_eq_nil_of_le (by omega)]
    simp [List.getD_eq_getElem?_getD,h]
  rw [h2] at h1
  exact h1
theorem pop_perm (xs : List S81) (n : Nat) (hn : xs.length = n + 1) : (xs.getD 0 z81 :: (xs.set 0 (xs.getD n z81)).take n).Perm xs := by
  cases xs with
  | nil => simp at hn
  | cons x0 t =>
    have ht : t.length = n := by simpa using hn
    cases n with
    | zero =>
      obtain rfl : t = [] := List.eq_nil_of_length_eq_zero ht
      simp
    | succ m =>
      simp only [List.set_cons_zero,List.take_succ_cons,List.getD_cons_zero,List.getD_cons_succ]
      refine List.Perm.cons _ ?_
      have h1 := take_snoc t m ht
      generalize t.getD m z81 = q at h1
      rw [h1]
      have h2 : (t.take m ++ [q]).take m = t.take m := by
        rw [← h1]
      rw [h2]
      exact (List.perm_append_singleton q (t.take m)).symm
theorem HeapAt.cells {w : World} {base hb g n c : Nat} {ys : List S81} (h : HeapAt w base hb (.slice (some ⟨g,0,none⟩) n c) ys) (j : Nat) (hj : j < n) :
    w.cell? ⟨g,j * 2,none⟩ = some (.int .i64 (ys.getD j z81).f0) ∧ w.cell? ⟨g,j * 2 + 1,none⟩ = some (.float .f64 (ys.getD j z81).f1) ∧ w.frozen? ⟨g,j * 2,none⟩ = false ∧ w.frozen? ⟨g,j * 2 + 1,none⟩ = false := by
  obtain ⟨ca,hcla,hMa,hcca,hfra⟩ := Kd.R_elem h.2 z81 (j : Int) (by omega) (by omega)
  obtain rfl := k81_openM hMa
  exact ⟨hcca 0 _ rfl,hcca 1 _ rfl,hfra 0,hfra 1⟩
theorem HeapAt.far {w : World} {base hb : Nat} {v : Value} {xs : List S81} (h : HeapAt w base hb v xs) {p : Addr} (h1 : hb ≠ p.block) (h2 : some p.block ≠ v.ownBlock) (u : Value) : HeapAt (w.setCell p u) base hb v xs := by
  refine ⟨(Below.heap_setCell _ _ _ _ h1).trans h.1,?_⟩
  refine Kd.R_mono (Kd.R_far (Kd.R_tight rfl h.2) (fun k hk e => h2 (by rw [← e];exact hk)) u) (fun k hk e => ?_)
  exact h.ne (by rw [← e];exact hk)
theorem HeapTo.far {w w1 : World} {hb : Nat} {v v' : Value} (h : HeapTo w w1 hb v v') {p : Addr} (hp : w.heap.size ≤ p.block) (u : Value) : HeapTo w (w1.setCell p u) hb v v' := by
  have hB := Below.setCell (Below.refl 0 w1) (Nat.zero_le p.block) u
  refine ⟨hB.os.trans h.os,hB.tape.trans h.tape,hB.output.trans h.output,Nat.le_trans h.size hB.size,fun k hk h1 h2 => ?_,h.own⟩
  rw [Below.heap_setCell _ _ _ _ (by omega)]
  exact h.keep k hk h1 h2
set_option maxHeartbeats 4000000 in
set_option maxRecDepth 100000 in
theorem pop_calls (base hb : Nat) (v : Value) (xs : List S81) (w : World) (hH : HeapAt w base hb v xs) (hb0 : base ≤ hb) (hl : xs.length < 4398046511104) (hpos : 0 < xs.length) :
    Calls Try.prog 117 #[.pointer (some ⟨hb,0,none⟩)] w fun e w' => ∃ x v' xs',e = .returned (.agg #[.int .i64 x.f0,.float .f64 x.f1]) ∧ (x :: xs').Perm xs ∧ HeapAt w' base hb v' xs' ∧ HeapTo w w' hb v v' := by
  obtain ⟨hblk,hR⟩ := hH
  have hu79 := Try.underlying79
  have hu81 := Try.underlying81
  have hu86 := Try.underlying86
  have hlt := blk_lt hblk
  obtain ⟨g,cap,hv,hg1,hg2,cs0,hg3⟩ := Kd.R_form hR hpos
  have hne : hb ≠ g := fun e => Kd.R_away hR (fun _ h => h) (by rw [hv,e];rfl)
  subst hv
  obtain ⟨n,hn⟩ : ∃ n,xs.length = n + 1 := ⟨xs.length - 1,by omega⟩
  have hn1 : n < 4398046511104 := by omega
  rw [hn] at hblk hR ⊢
  obtain ⟨ca,hcla,hMa,hcca,hfra⟩ := Kd.R_elem hR z81 (0 : Int) (by omega) (by omega)
  obtain rfl := k81_openM hMa
  obtain ⟨a,ha⟩ : ∃ a,xs.getD (0 : Int).toNat z81 = a := ⟨_,rfl⟩
  rw [ha] at hcca
  obtain ⟨cb,hclb,hMb,hccb,hfrb⟩ := Kd.R_elem hR z81 (n : Int) (by omega) (by omega)
  obtain rfl := k81_openM hMb
  obtain ⟨b,hb1⟩ : ∃ b,xs.getD (n : Int).toNat z81 = b := ⟨_,rfl⟩
  rw [hb1] at hccb
  have hB := below_alloc (Below.refl w.heap.size w) (.cells #[.int .i64 0,.float .f64 0] 81)
  have k0 : (w.alloc (.cells #[.int .i64 0,.float .f64 0] 81)).cell? ⟨hb,0,none⟩ = some (.slice (some ⟨g,0,none⟩) (n + 1) cap) := (hB.cell hlt).trans ((blk_cell hblk 0).trans rfl)
  have kf : (w.alloc (.cells #[.int .i64 0,.float .f64 0] 81)).frozen? ⟨hb,0,none⟩ = false := blk_frozen (blk_below hblk hB) 0
  have a0 : (w.alloc (.cells #[.int .i64 0,.float .f64 0] 81)).cell? ⟨g,0,none⟩ = some (.int .i64 a.f0) := (hB.cell hg2).trans (hcca 0 _ rfl)
  have a1 : (w.alloc (.cells #[.int .i64 0,.float .f64 0] 81)).cell? ⟨g,1,none⟩ = some (.float .f64 a.f1) := (hB.cell hg2).trans (hcca 1 _ rfl)
  have b0 : (w.alloc (.cells #[.int .i64 0,.float .f64 0] 81)).cell? ⟨g,n * 2,none⟩ = some (.int .i64 b.f0) := (hB.cell hg2).trans (hccb 0 _ rfl)
  have b1 : (w.alloc (.cells #[.int .i64 0,.float .f64 0] 81)).cell? ⟨g,n * 2 + 1,none⟩ = some (.float .f64 b.f1) := (hB.cell hg2).trans (hccb 1 _ rfl)
  have q1 : IntKind.i64.wrap ((n : Int) + 1 - 1) = (n : Int) := by
    rw [i64_w]
    unfold wrap64
    omega
  have HR := Aside0.mk hR
  have HBLK := Aside0.mk hblk
  have FG0 : Aside0 (w.frozen? ⟨g,0,none⟩ = false ∧ w.frozen? ⟨g,1,none⟩ = false) := ⟨hfra 0,hfra 1⟩
  have CB : Aside0 (w.cell? ⟨g,0,none⟩ = some (.int .i64 a.f0) ∧ w.cell? ⟨g,1,none⟩ = some (.float .f64 a.f1) ∧ w.cell? ⟨g,n * 2,none⟩ = some (.int .i64 b.f0) ∧ w.cell? ⟨g,n * 2 + 1,none⟩ = some (.float .f64 b.f1)) := ⟨hcca 0 _ rfl,hcca 1 _ rfl,hccb 0 _ rfl,hccb 1 _ rfl⟩
  clear hcla hMa hclb hMb hcca hccb hfra hfrb hR hblk
  go_enter Try.func117,Try.ntmps117
  go_upto_region 1 with fail
  go_cut [3,4] from 7 to 18 (fun s3 s4 wx => s3 = .pointer (some ⟨w.heap.size + 1,0,none⟩) ∧ s4 = .int .i64 (n : Int) ∧ Aside0 (wx.heap[w.heap.size]? = some (.cells #[.int .i64 0,.float .f64 0] 81 (0,0)) ∧ wx.heap[w.heap.size + 1]? = some (.cells #[.int .i64 a.f0,.float .f64 a.f1] 81 (0,0)) ∧ Below w.heap.size w wx))
  case first =>
    go_region
    go_wp2_with fail
    go_meet
    refine ⟨rfl,rfl,⟨?_,?_,below_drew (below_alloc hB _)⟩⟩
    · have h1 : (w.alloc (.cells #[.int .i64 0,.float .f64 0] 81)).heap[w.heap.size]? = some (.cells #[.int .i64 0,.float .f64 0] 81 (0,0)) := heap_alloc_new w _
      exact blk_below h1 (below_drew (below_alloc (Below.refl _ _) _))
    have h1 := heap_alloc_new (w.alloc (.cells #[.int .i64 0,.float .f64 0] 81)) (.cells #[.int .i64 a.f0,.float .f64 a.f1] 81)
    have h2 : (w.alloc (.cells #[.int .i64 0,.float .f64 0] 81)).heap.size = w.heap.size + 1 := by simp
    rw [h2] at h1
    exact h1
  case rest =>
  obtain ⟨rfl,rfl,HW⟩ := hcut
  clear k0 kf a0 a1 b0 b1 q1 hB
  have k0 := (blk_cell (blk_below HBLK.out HW.out.2.2) 0).trans rfl
  have kf := blk_frozen (blk_below HBLK.out HW.out.2.2) 0
  have a0 := (HW.out.2.2.cell hg2).trans CB.out.1
  have a1 := (HW.out.2.2.cell hg2).trans CB.out.2.1
  have b0 := (HW.out.2.2.cell hg2).trans CB.out.2.2.1
  have b1 := (HW.out.2.2.cell hg2).trans CB.out.2.2.2
  have e0 : wc.frozen? ⟨g,0,none⟩ = false := (World.frozen?_of_block (HW.out.2.2.block g hg2)).trans FG0.out.1
  have e1 : wc.frozen? ⟨g,1,none⟩ = false := (World.frozen?_of_block (HW.out.2.2.block g hg2)).trans FG0.out.2
  have hn2 : (n : Int) < (n : Int) + 1 := by omega
  have hn3 : n ≤ cap := by have := (Kd.R_reads' HR.out).2.1;omega
  go_wp2_with fail
  go_region
  go_wp2_with fail
  have hH1 : HeapAt ((wc.setCell ⟨g,0,none⟩ (.int .i64 b.f0)).setCell ⟨g,1,none⟩ (.float .f64 b.f1)) base hb (.slice (some ⟨g,0,none⟩) (n + 1) cap) (xs.set 0 b) := by
    have := HeapAt.put (w := wc) ⟨blk_below HBLK.out HW.out.2.2,Kd.R_below HR.out HW.out.2.2⟩ 0 (Nat.succ_pos n) b
    simpa using this
  have hH2 : HeapAt (((wc.setCell ⟨g,0,none⟩ (.int .i64 b.f0)).setCell ⟨g,1,none⟩ (.float .f64 b.f1)).setCell ⟨hb,0,none⟩ (.slice (some ⟨g,0,none⟩) n cap)).drew base hb (.slice (some ⟨g,0,none⟩) n cap) ((xs.set 0 b).take n) := by
    refine ⟨(blk_set hH1.1 0 _).trans rfl,Kd.R_drew (Kd.R_far (Kd.R_take hH1.2 ?_) (fun k hk => hk) _)⟩
    simp
    omega
  have hT2 : HeapTo w (((wc.setCell ⟨g,0,none⟩ (.int .i64 b.f0)).setCell ⟨g,1,none⟩ (.float .f64 b.f1)).setCell ⟨hb,0,none⟩ (.slice (some ⟨g,0,none⟩) n cap)).drew hb (.slice (some ⟨g,0,none⟩) (n + 1) cap) (.slice (some ⟨g,0,none⟩) n cap) := by
    have h0 : HeapTo w wc hb (.slice (some ⟨g,0,none⟩) (n + 1) cap) (.slice (some ⟨g,0,none⟩) n cap) := ⟨HW.out.2.2.os,HW.out.2.2.tape,HW.out.2.2.output,HW.out.2.2.size,fun k hk _ _ => HW.out.2.2.block k hk,Or.inl rfl⟩
    have h1 := (h0.put 0 (.int .i64 b.f0)).put 1 (.float .f64 b.f1)
    have hS := below_drew (Below.setCell (Below.refl 0 ((wc.setCell ⟨g,0,none⟩ (.int .i64 b.f0)).setCell ⟨g,1,none⟩ (.float .f64 b.f1))) (Nat.zero_le (⟨hb,0,none⟩ : Addr).block) (.slice (some ⟨g,0,none⟩) n cap))
    refine ⟨hS.os.trans h1.os,hS.tape.trans h1.tape,hS.output.trans h1.output,Nat.le_trans h1.size hS.size,fun k hk h2 h3 => ?_,Or.inl rfl⟩
    refine Eq.trans ?_ (h1.keep k hk h2 h3)
    exact Below.heap_setCell _ _ _ _ h2
  have hX : ∀ k,k = w.heap.size ∨ k = w.heap.size + 1 → (((wc.setCell ⟨g,0,none⟩ (.int .i64 b.f0)).setCell ⟨g,1,none⟩ (.float .f64 b.f1)).setCell ⟨hb,0,none⟩ (.slice (some ⟨g,0,none⟩) n cap)).drew.heap[k]? = wc.heap[k]? := by
    intro k hk
    refine (Below.heap_setCell _ _ _ _ (by intro e;simp at e;omega)).trans ((Below.heap_setCell _ _ _ _ (by intro e;simp at e;omega)).trans (Below.heap_setCell _ _ _ _ (by intro e;simp at e;omega)))
  have HS : Aside0 (HeapAt (((wc.setCell ⟨g,0,none⟩ (.int .i64 b.f0)).setCell ⟨g,1,none⟩ (.float .f64 b.f1)).setCell ⟨hb,0,none⟩ (.slice (some ⟨g,0,none⟩) n cap)).drew base hb (.slice (some ⟨g,0,none⟩) n cap) ((xs.set 0 b).take n) ∧ HeapTo w (((wc.setCell ⟨g,0,none⟩ (.int .i64 b.f0)).setCell ⟨g,1,none⟩ (.float .f64 b.f1)).setCell ⟨hb,0,none⟩ (.slice (some ⟨g,0,none⟩) n cap)).drew hb (.slice (some ⟨g,0,none⟩) (n + 1) cap) (.slice (some ⟨g,0,none⟩) n cap) ∧ (((wc.setCell ⟨g,0,none⟩ (.int .i64 b.f0)).setCell ⟨g,1,none⟩ (.float .f64 b.f1)).setCell ⟨hb,0,none⟩ (.slice (some ⟨g,0,none⟩) n cap)).drew.heap[w.heap.size]? = some (.cells #[.int .i64 0,.float .f64 0] 81 (0,0)) ∧ (((wc.setCell ⟨g,0,none⟩ (.int .i64 b.f0)).setCell ⟨g,1,none⟩ (.float .f64 b.f1)).setCell ⟨hb,0,none⟩ (.slice (some ⟨g,0,none⟩) n cap)).drew.heap[w.heap.size + 1]? = some (.cells #[.int .i64 a.f0,.float .f64 a.f1] 81 (0,0))) :=
    ⟨hH2,hT2,(hX _ (Or.inl rfl)).trans HW.out.1,(hX _ (Or.inr rfl)).trans HW.out.2.1⟩
  have HPM : Aside0 (((xs.set 0 b).take n).length = n ∧ (a :: (xs.set 0 b).take n).Perm xs) := ⟨by simp;omega,by rw [← ha,← hb1];exact pop_perm xs n hn⟩
  clear hH1 hH2 hT2 hX k0 kf a0 a1 b0 b1 e0 e1 hn2 hn3
  go_loopw [5] (fun vi wr => ∃ (i : Nat) (ys : List S81),vi = .int .i64 (i : Nat) ∧ (n ≤ i → i = 0) ∧ Aside0 (ys.length = n ∧ (a :: ys).Perm xs) ∧ Aside0 (HeapAt wr base hb (.slice (some ⟨g,0,none⟩) n cap) ys ∧ HeapTo w wr hb (.slice (some ⟨g,0,none⟩) (n + 1) cap) (.slice (some ⟨g,0,none⟩) n cap) ∧ wr.heap[w.heap.size]? = some (.cells #[.int .i64 0,.float .f64 0] 81 (0,0)) ∧ wr.heap[w.heap.size + 1]? = some (.cells #[.int .i64 a.f0,.float .f64 a.f1] 81 (0,0)))) (fun vi _ => n - (intOf vi).toNat)
  case atStart => exact ⟨0,_,rfl,fun _ => rfl,HPM,HS⟩
  case round =>
    obtain ⟨i,ys,rfl,hi,HP,HH⟩ := hrel
    have x0 := (blk_cell HH.out.2.2.2 0).trans rfl
    have x1 := (blk_cell HH.out.2.2.2 1).trans rfl
    have r0 := (blk_cell HH.out.2.2.1 0).trans rfl
    have r1 := (blk_cell HH.out.2.2.1 1).trans rfl
    have rf0 := blk_frozen HH.out.2.2.1 0
    have rf1 := blk_frozen HH.out.2.2.1 1
    obtain ⟨d,hd⟩ : ∃ d,d = 2 * i := ⟨_,rfl⟩
    obtain ⟨k,hk⟩ : ∃ k,k = d + 1 := ⟨_,rfl⟩
    obtain ⟨m,hm⟩ : ∃ m,m = k + 1 := ⟨_,rfl⟩
    have q1 : IntKind.i64.wrap (2 * (i : Int)) = (d : Int) := by
      rw [i64_w]
      unfold wrap64
      omega
    have q2 : IntKind.i64.wrap ((d : Int) + 1) = (k : Int) := by
      rw [i64_w]
      unfold wrap64
      omega
    have q3 : IntKind.i64.wrap ((k : Int) + 1) = (m : Int) := by
      rw [i64_w]
      unfold wrap64
      omega
    have HD := Aside0.mk (And.intro hd (And.intro hk hm))
    clear hd hk hm
    have hbz : hb ≠ (⟨w.heap.size,0,none⟩ : Addr).block := by simp;omega
    have gz : some (⟨w.heap.size,0,none⟩ : Addr).block ≠ (Value.slice (some ⟨g,0,none⟩) n cap).ownBlock := by simp [Value.ownBlock];omega
    have put4 : ∀ (g i k nn : Nat) (u1 u2 u3 u4 : Value) {z : Nat},z ≠ g → (((((wr.drewN nn).setCell ⟨g,i * 2,none⟩ u1).setCell ⟨g,i * 2 + 1,none⟩ u2).setCell ⟨g,k * 2,none⟩ u3).setCell ⟨g,k * 2 + 1,none⟩ u4).heap[z]? = wr.heap[z]? := by
      intro g i k nn u1 u2 u3 u4 z hz
      rw [Below.heap_setCell _ _ _ _ hz,Below.heap_setCell _ _ _ _ hz,Below.heap_setCell _ _ _ _ hz,Below.heap_setCell _ _ _ _ hz]
      rfl
    have PUT4 := Aside0.mk put4
    clear put4
    have BZ := Aside0.mk (And.intro hbz gz)
    clear hbz gz
    by_cases hkn : k < n
    rotate_left
    · go_wp2_with fail
      refine bodyPost_ret (v := .agg #[.int .i64 a.f0,.float .f64 a.f1]) (by simp only [results,Try.results117];go_simp) rfl ?_
      exact ⟨a,rfl,_,ys,HP.out.2,(HH.out.1.far (p := ⟨w.heap.size,0,none⟩) BZ.out.1 BZ.out.2 _).far (p := ⟨w.heap.size,1,none⟩) BZ.out.1 BZ.out.2 _,(HH.out.2.1.far (p := ⟨w.heap.size,0,none⟩) (Nat.le_refl _) _).far (p := ⟨w.heap.size,1,none⟩) (Nat.le_refl _) _⟩
    have hkz : (k : Int) < (n : Int) := by omega
    have hik : i < k := by have := HD.out;omega
    have him : i < m := by have := HD.out;omega
    have hin : i < n := by have := HD.out;omega
    have hinz : (i : Int) < (n : Int) := by omega
    have hk1 := (blk_cell HH.out.1.1 0).trans rfl
    have hkf := blk_frozen HH.out.1.1 0
    obtain ⟨ci0,ci1,fi0,fi1⟩ := HH.out.1.cells i hin
    obtain ⟨ck0,ck1,fk0,fk1⟩ := HH.out.1.cells k hkn
    obtain ⟨ei,hei⟩ : ∃ e,ys.getD i z81 = e := ⟨_,rfl⟩
    obtain ⟨ek,hek⟩ : ∃ e,ys.getD k z81 = e := ⟨_,rfl⟩
    obtain ⟨em,hem⟩ : ∃ e,ys.getD m z81 = e := ⟨_,rfl⟩
    rw [hei] at ci0 ci1
    rw [hek] at ck0 ck1
    have EI := Aside0.mk hei
    have EK := Aside0.mk hek
    have EM := Aside0.mk hem
    clear hei hek hem
    by_cases hmn : m < n
    rotate_left
    · have hmt : decide (m < n) = false := decide_eq_false hmn
      go_wp2_with fail
      go_quiet (fail)
      go_wp2_with fail
      go_quiet (fail)
      go_wp2_with fail
      · refine bodyPost_ret (v := .agg #[.int .i64 a.f0,.float .f64 a.f1]) (by simp only [results,Try.results117];go_simp) rfl ?_
        exact ⟨a,_,ys,rfl,HP.out.2,((HH.out.1.drewN _).far (p := ⟨w.heap.size,0,none⟩) BZ.out.1 BZ.out.2 _).far (p := ⟨w.heap.size,1,none⟩) BZ.out.1 BZ.out.2 _,((HH.out.2.1.drewN _).far (p := ⟨w.heap.size,0,none⟩) (Nat.le_refl _) _).far (p := ⟨w.heap.size,1,none⟩) (Nat.le_refl _) _⟩
      go_region
      go_wp2_with fail
      go_roundw
      case rel =>
        refine ⟨k,(ys.set i ek).set k ei,rfl,by omega,⟨?_,?_⟩,?_,?_,?_,?_⟩
        · simp [HP.out.1]
        · rw [← EI.out,← EK.out]
          exact ((swap_perm ys i k (by rw [HP.out.1];omega) (by rw [HP.out.1];omega)).cons _).trans HP.out.2
        · exact ((HH.out.1.drewN _).put i hin ek).put k (by omega) ei
        · exact ((((HH.out.2.1.drewN _).put _ _).put _ _).put _ _).put _ _
        · exact (PUT4.out g i k _ _ _ _ _ (by omega)).trans HH.out.2.2.1
        exact (PUT4.out g i k _ _ _ _ _ (by omega)).trans HH.out.2.2.2
      case measure => have := HD.out;simp [intOf];omega
    have hmz : (m : Int) < (n : Int) := by omega
    have hmt : decide (m < n) = true := decide_eq_true hmn
    obtain ⟨cm0,cm1,fm0,fm1⟩ := HH.out.1.cells m hmn
    rw [EM.out] at cm0 cm1
    by_cases hlt : (FloatKind.f64.format.order em.f1 ek.f1 == some .lt) = true
    · go_wp2_with fail
      go_quiet (fail)
      go_wp2_with fail
      go_quiet (fail)
      go_wp2_with fail
      · refine bodyPost_ret (v := .agg #[.int .i64 a.f0,.float .f64 a.f1]) (by simp only [results,Try.results117];go_simp) rfl ?_
        exact ⟨a,_,ys,rfl,HP.out.2,((HH.out.1.drewN _).far (p := ⟨w.heap.size,0,none⟩) BZ.out.1 BZ.out.2 _).far (p := ⟨w.heap.size,1,none⟩) BZ.out.1 BZ.out.2 _,((HH.out.2.1.drewN _).far (p := ⟨w.heap.size,0,none⟩) (Nat.le_refl _) _).far (p := ⟨w.heap.size,1,none⟩) (Nat.le_refl _) _⟩
      go_region
      go_wp2_with fail
      go_roundw
      case rel =>
        refine ⟨m,(ys.set i em).set m ei,rfl,by omega,⟨?_,?_⟩,?_,?_,?_,?_⟩
        · simp [HP.out.1]
        · rw [← EI.out,← EM.out]
          exact ((swap_perm ys i m (by rw [HP.out.1];omega) (by rw [HP.out.1];omega)).cons _).trans HP.out.2
        · exact ((HH.out.1.drewN _).put i hin em).put m (by omega) ei
        · exact ((((HH.out.2.1.drewN _).put _ _).put _ _).put _ _).put _ _
        · exact (PUT4.out g i m _ _ _ _ _ (by omega)).trans HH.out.2.2.1
        exact (PUT4.out g i m _ _ _ _ _ (by omega)).trans HH.out.2.2.2
      case measure => have := HD.out;simp [intOf];omega
    have hlt' : (FloatKind.f64.format.order em.f1 ek.f1 == some .lt) = false := by simpa using hlt
    clear hlt
    go_wp2_with fail
    go_quiet (fail)
    go_wp2_with fail
    go_quiet (fail)
    go_wp2_with fail
    · refine bodyPost_ret (v := .agg #[.int .i64 a.f0,.float .f64 a.f1]) (by simp only [results,Try.results117];go_simp) rfl ?_
      exact ⟨a,_,ys,rfl,HP.out.2,((HH.out.1.drewN _).far (p := ⟨w.heap.size,0,none⟩) BZ.out.1 BZ.out.2 _).far (p := ⟨w.heap.size,1,none⟩) BZ.out.1 BZ.out.2 _,((HH.out.2.1.drewN _).far (p := ⟨w.heap.size,0,none⟩) (Nat.le_refl _) _).far (p := ⟨w.heap.size,1,none⟩) (Nat.le_refl _) _⟩
    go_region
    go_wp2_with fail
    go_roundw
    case rel =>
      refine ⟨k,(ys.set i ek).set k ei,rfl,by omega,⟨?_,?_⟩,?_,?_,?_,?_⟩
      · simp [HP.out.1]
      · rw [← EI.out,← EK.out]
        exact ((swap_perm ys i k (by rw [HP.out.1];omega) (by rw [HP.out.1];omega)).cons _).trans HP.out.2
      · exact ((HH.out.1.drewN _).put i hin ek).put k (by omega) ei
      · exact ((((HH.out.2.1.drewN _).put _ _).put _ _).put _ _).put _ _
      · exact (PUT4.out g i k _ _ _ _ _ (by omega)).trans HH.out.2.2.1
      exact (PUT4.out g i k _ _ _ _ _ (by omega)).trans HH.out.2.2.2
    case measure => have := HD.out;simp [intOf];omega
end Go.Proofs.Ytmdkcecbklgihaa.PA
