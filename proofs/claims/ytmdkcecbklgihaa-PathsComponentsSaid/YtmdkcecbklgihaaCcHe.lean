/- The queue of package paths: push puts an element more, pop takes one of them out, size tells how many. No condition but that it has fewer than 2^42. -/
import Derived.Test.YtmdkcecbklgihaaCcPAx1
import Derived.Test.YtmdkcecbklgihaaCcFl
import Derived.WalkLawsBesides
import Derived.WalkSpells
import Derived.Outline
import Derived.Deep.QuietTactic
import Derived.BigQuiet
import Derived.BigRegion
import Derived.Deep.CutRange
import Derived.Deep.RegionLaw
namespace Go.Proofs.Ytmdkcecbklgihaa.PA
open Go.RowKit Go.Proofs.YtmdkcecbklgihaaW.PrintWords Go.Proofs.YtmdkcecbklgihaaW.PrintLast Go.Proofs.YtmdkcecbklgihaaW.PrintMore
set_option linter.unusedVariables false
set_option linter.unusedSimpArgs false
structure S81 where
  f0 : Int
  f1 : Nat
def z81 : S81 := ⟨(0 : Int),(0 : Nat)⟩
def k81 : Kd S81 := Kd.iso (Kd.pair (Kd.int .i64) Kd.float) (fun x : S81 => (x.f0,x.f1))
theorem k81_open {w : World} {x : S81} {cs : List Value} (h : k81.K w x cs) : cs = [.int .i64 x.f0,.float .f64 x.f1] := by
  obtain ⟨_,_,rfl,rfl,rfl⟩ := h
  exact rfl
theorem k81_openM {w : World} {base : Nat} {ok : Nat → Prop} {x : S81} {cs : List Value} (h : k81.M w base ok x cs) : cs = [.int .i64 x.f0,.float .f64 x.f1] := by
  obtain ⟨_,_,rfl,rfl,rfl⟩ := h
  exact rfl
theorem k81_mkM (w : World) (base : Nat) (ok : Nat → Prop) (x : S81)  : k81.M w base ok x [.int .i64 x.f0,.float .f64 x.f1] := ⟨[.int .i64 x.f0],[.float .f64 x.f1],rfl,rfl,rfl⟩
def rd_T81 (xs : List S81) (i : Int) : S81 := xs.getD i.toNat z81
theorem at_T81 {w : World} {A : Option Addr} {n : Nat} {xs : List S81} (h : Kd.C k81 w A n xs) (i : Int) (h0 : 0 ≤ i) (h1 : i < n) : ∃ ad ,A = some ad ∧ w.cell? (ad.add (i.toNat * 2)) = some (.int .i64 (rd_T81 xs i).f0) ∧ w.cell? ⟨(ad.add (i.toNat * 2)).block,(ad.add (i.toNat * 2)).off + 1,none⟩ = some (.float .f64 (rd_T81 xs i).f1) := by
  obtain ⟨ad,c,e,_,hK,hc0⟩ := Kd.C_get h z81 i h0 h1
  have hc : ∀ j u,c[j]? = some u → w.cell? (ad.add (i.toNat * 2 + j)) = some u := hc0
  obtain rfl := k81_open hK
  exact ⟨ad,e,hc 0 _ rfl,by rw [← add_field _ _ 1 (by omega)];exact hc 1 _ rfl⟩
theorem info81 : (Try.prog.info? 81).map (fun i => (i.zero,i.size,i.bytes)) = some (some (.agg #[(.int .i64 0),(.float .f64 0)]),2,16) := by kernel_rfl
def HeapAt (w : World) (base hb : Nat) (v : Value) (xs : List S81) : Prop := w.heap[hb]? = some (.cells #[v] 86 (0,0)) ∧ k81.R 81 w base (fun k => k ≠ hb) v xs
structure HeapTo (w w' : World) (hb : Nat) (v v' : Value) : Prop where
  os : w'.os = w.os
  tape : w'.tape = w.tape
  output : w'.output = w.output
  size : w.heap.size ≤ w'.heap.size
  keep : ∀ k,k < w.heap.size → k ≠ hb → some k ≠ v.ownBlock → w'.heap[k]? = w.heap[k]?
  own : v'.ownBlock = v.ownBlock ∨ ∃ b,v'.ownBlock = some b ∧ w.heap.size ≤ b
theorem HeapAt.drewN {w : World} {base hb : Nat} {v : Value} {xs : List S81} (h : HeapAt w base hb v xs) (m : Nat) : HeapAt (w.drewN m) base hb v xs := ⟨h.1,Kd.R_below h.2 (pw_below_drewN (Below.refl _ _) m)⟩
theorem HeapAt.ne {w : World} {base hb : Nat} {v : Value} {xs : List S81} (h : HeapAt w base hb v xs) : some hb ≠ v.ownBlock := Kd.R_away h.2 (fun _ h => h)
theorem HeapAt.put {w : World} {base hb g n c : Nat} {xs : List S81} (h : HeapAt w base hb (.slice (some ⟨g,0,none⟩) n c) xs) (i : Nat) (hi : i < n) (y : S81) :
    HeapAt ((w.setCell ⟨g,i * 2,none⟩ (.int .i64 y.f0)).setCell ⟨g,i * 2 + 1,none⟩ (.float .f64 y.f1)) base hb (.slice (some ⟨g,0,none⟩) n c) (xs.set i y) := by
  obtain ⟨hb1,hR⟩ := h
  have hne : hb ≠ g := fun e => Kd.R_away hR (fun _ h => h) (by rw [e];rfl)
  obtain ⟨ca,hcla,hMa,hcca,hfra⟩ := Kd.R_elem hR z81 (i : Int) (by omega) (by omega)
  have hlen : ca.length = 2 := hcla
  have hs := Kd.R_seg hR (i : Int) (by omega) (by omega) (seg := [.int .i64 y.f0,.float .f64 y.f1]) (j := 0) (x' := y) (okp := fun _ => False) hcla hcca (Nat.le_refl 2) (by
    have : ca.drop 2 = [] := List.drop_eq_nil_of_le (by omega)
    simpa [this] using k81_mkM w base (fun _ => False) y) (fun _ hk => hk.elim)
  refine ⟨?_,hs.1⟩
  rw [Below.heap_setCell _ _ _ _ hne,Below.heap_setCell _ _ _ _ hne]
  exact hb1
theorem HeapTo.drewN {w w1 : World} {hb : Nat} {v v' : Value} (h : HeapTo w w1 hb v v') (m : Nat) : HeapTo w (w1.drewN m) hb v v' := by
  have hB := pw_below_drewN (Below.refl w1.heap.size w1) m
  exact ⟨hB.os.trans h.os,hB.tape.trans h.tape,hB.output.trans h.output,Nat.le_trans h.size hB.size,fun k hk h1 h2 => (hB.block k (Nat.lt_of_lt_of_le hk h.size)).trans (h.keep k hk h1 h2),h.own⟩
theorem HeapTo.put {w w1 : World} {hb g n c : Nat} {v : Value} (h : HeapTo w w1 hb v (.slice (some ⟨g,0,none⟩) n c)) (j : Nat) (u : Value) : HeapTo w (w1.setCell ⟨g,j,none⟩ u) hb v (.slice (some ⟨g,0,none⟩) n c) := by
  have hB := Below.setCell (Below.refl 0 w1) (Nat.zero_le (⟨g,j,none⟩ : Addr).block) u
  refine ⟨hB.os.trans h.os,hB.tape.trans h.tape,hB.output.trans h.output,Nat.le_trans h.size hB.size,fun k hk h1 h2 => ?_,h.own⟩
  have hkg : k ≠ g := by
    rintro rfl
    rcases h.own with h3 | ⟨b,h3,h4⟩
    · exact h2 h3
    cases h3
    exact absurd hk (Nat.not_lt.2 h4)
  rw [Below.heap_setCell _ _ _ _ hkg]
  exact h.keep k hk h1 h2
theorem swap_perm (ys : List S81) (i p : Nat) (hi : i < ys.length) (hp : p < ys.length) : ((ys.set i (ys.getD p z81)).set p (ys.getD i z81)).Perm ys := by
  have := @List.set_set_perm _ ys i p hi hp
  simpa [List.getD_eq_getElem?_getD,hi,hp] using this
theorem append_any {P : Program} {ops : Array Oper} {o : Oper} {a : Act} {Kc : Act → World → Prop} {Q : Exit → Act → World → Prop} {E : Prop} {α : Type} (d : Kd α) {w0 W : World} (base : Nat) (hw : Region.wanted o (yielded ops a.tmps) = true) (s x : Operand) (t e : TypeId) (z : Value) (bytes : Nat)
    (ho : o.op = .call { callee := .builtin .append,args := #[s,x],argTypes := #[t,t] })
    (ht : P.underlying t = some (.slice e)) (hinfo : (P.info? e).map (fun i => (i.zero,i.size,i.bytes)) = some (some z,d.sz,bytes)) (hz : z.cells.size = d.sz) (hs0 : 0 < d.sz) (hb0 : 0 < bytes)
    (v : Value) (xs : List α) (p : α) (cs : List Value) (ok okp : Nat → Prop) (hs : a.eval s = v) (hx : a.eval x = .slice (some ⟨W.heap.size,0,none⟩) 1 1) (hp : d.M W base okp p cs) (hokp : ∀ k,okp k → ok k ∧ some k ≠ v.ownBlock) (hfresh : ∀ k,W.heap.size ≤ k → ok k)
    (HO : d.R e W base ok v xs) (HB : Below base w0 W) (hbase : base ≤ W.heap.size) (hl : (xs.length + 1) * bytes ≤ 140737488355328)
    (h : ∀ v1 w1,d.R e w1 base ok v1 (xs ++ [p]) → Below base w0 w1 → W.grownBy w1 v.ownBlock → (v1.ownBlock = v.ownBlock ∨ ∃ b,v1.ownBlock = some b ∧ W.heap.size ≤ b) → Kc (a.put o.dst v1) w1) :
    if Region.wanted o (yielded ops a.tmps) = true then Oper.wp P o a (W.alloc (.cells cs.toArray e)) Kc Q else E := by
  have := Kd.R_append_step (P := P) (ops := ops) (o := o) (a := a) (Kc := Kc) (Q := Q) d base hw s x t e z bytes ho ht hinfo hz hs0 hb0 v xs p cs ok okp hs hx hp hokp hfresh HO HB hbase hl h
  rw [if_pos hw] at this ⊢
  exact this
set_option maxRecDepth 100000 in
theorem push_calls (base hb : Nat) (v : Value) (xs : List S81) (x : S81) (w : World) (hH : HeapAt w base hb v xs) (hb0 : base ≤ hb) (hl : xs.length < 4398046511104) :
    Calls Try.prog 118 #[.pointer (some ⟨hb,0,none⟩),.agg #[.int .i64 x.f0,.float .f64 x.f1]] w fun e w' => e = .returned (.tuple #[]) ∧ ∃ v' xs',xs'.Perm (xs ++ [x]) ∧ HeapAt w' base hb v' xs' ∧ HeapTo w w' hb v v' := by
  obtain ⟨hblk,hR⟩ := hH
  have hu79 := Try.underlying79
  have hu81 := Try.underlying81
  have hu86 := Try.underlying86
  have hlt := blk_lt hblk
  have hcell : (w.alloc (.cells #[.int .i64 x.f0,.float .f64 x.f1] 81)).cell? ⟨hb,0,none⟩ = some v := by
    exact ((below_alloc (Below.refl w.heap.size w) _).cell hlt).trans ((blk_cell hblk 0).trans rfl)
  have HR := Aside0.mk hR
  have FRESH : Aside0 (∀ k,(w.alloc (.cells #[.int .i64 x.f0,.float .f64 x.f1] 81)).drew.heap.size ≤ k → k ≠ hb) := ⟨by intro k hk;simp at hk;omega⟩
  have BASE : Aside0 (base ≤ (w.alloc (.cells #[.int .i64 x.f0,.float .f64 x.f1] 81)).drew.heap.size) := ⟨by simp;omega⟩
  have BLK : Aside0 ((w.alloc (.cells #[.int .i64 x.f0,.float .f64 x.f1] 81)).drew.heap[hb]? = some (.cells #[v] 86 (0,0))) := ⟨((below_alloc (Below.refl w.heap.size w) _).block hb hlt).trans hblk⟩
  have NE : Aside0 (some hb ≠ v.ownBlock) := ⟨Kd.R_away hR (fun _ h => h)⟩
  have LEN : Aside0 ((xs.length + 1) * 16 ≤ 140737488355328) := ⟨by omega⟩
  go_enter Try.func118,Try.ntmps118
  go_upto_region 1 with fail
  go_cut [] from 5 to 14 (fun wx => ∃ A1 c1,Aside0 (HeapAt wx base hb (.slice A1 (xs ++ [x]).length c1) (xs ++ [x]) ∧ HeapTo w wx hb v (.slice A1 (xs ++ [x]).length c1)))
  case first =>
    go_region_law (refine append_any k81 base rfl (.tmp 9) (.tmp 11) 79 81 (.agg #[(.int .i64 0),(.float .f64 0)]) 16 rfl Try.underlying79 info81 rfl (by decide) (by decide) v xs x [.int .i64 x.f0,.float .f64 x.f1] (fun k => k ≠ hb) (fun _ => False) rfl (by simp [Act.eval]) (k81_mkM _ _ _ _) (fun _ hk => hk.elim) (FRESH.out) (Kd.R_drew (Kd.R_alloc HR.out _)) (Below.refl _ _) BASE.out LEN.out ?_;intro v1 w1 hr hbw hg hat;obtain ⟨A1,c1,rfl⟩ := Kd.R_slice hr;have hk1 := blk_cell (blk_grown BLK.out hg NE.out) 0;have hk2 := blk_frozen (blk_grown BLK.out hg NE.out) 0;have HR1 := Aside0.mk hr;have HG1 := Aside0.mk hg;have HA1 := Aside0.mk hat;clear hr hg hat hbw)
    all_goals (go_wp2_with fail;go_meet)
    all_goals (
      have hH1 : HeapAt (w1.setCell ⟨hb,0,none⟩ (.slice A1 (xs ++ [x]).length c1)) base hb (.slice A1 (xs ++ [x]).length c1) (xs ++ [x]) := ⟨(blk_set (blk_grown BLK.out HG1.out NE.out) 0 _).trans rfl,Kd.R_far HR1.out (fun k hk => hk) _⟩
      have hT1 : HeapTo w (w1.setCell ⟨hb,0,none⟩ (.slice A1 (xs ++ [x]).length c1)) hb v (.slice A1 (xs ++ [x]).length c1) := by
        have hg := HG1.out
        have hbl : ∀ k,k < w.heap.size → (w.alloc (.cells #[.int .i64 x.f0,.float .f64 x.f1] 81)).drew.heap[k]? = w.heap[k]? := fun k hk => (below_alloc (Below.refl w.heap.size w) _).block k hk
        have hsz : (w.alloc (.cells #[.int .i64 x.f0,.float .f64 x.f1] 81)).drew.heap.size = w.heap.size + 1 := by simp
        have hS := Below.setCell (Below.refl 0 w1) (Nat.zero_le (⟨hb,0,none⟩ : Addr).block) (.slice A1 (xs ++ [x]).length c1)
        refine ⟨hS.os.trans hg.os,hS.tape.trans hg.tape,hS.output.trans hg.output,?_,?_,?_⟩
        · have := hg.size
          have := hS.size
          rw [hsz] at *
          omega
        · intro k hk hkh hkv
          rw [Below.heap_setCell _ _ _ _ hkh,hg.block k (by rw [hsz];omega) hkv]
          exact hbl k hk
        rcases HA1.out with h | ⟨b,h1,h2⟩
        · exact Or.inl h
        exact Or.inr ⟨b,h1,by rw [hsz] at h2;omega⟩
      exact ⟨A1,c1,⟨by simpa using hH1,by simpa using hT1⟩⟩)
  case rest =>
  obtain ⟨A1,c1,HH⟩ := hcut
  obtain ⟨n,hn⟩ : ∃ n,n = xs.length + 1 := ⟨_,rfl⟩
  have hzl : (xs ++ [x]).length = n := by simp [hn]
  rw [hzl] at HH
  have hk1 := (blk_cell HH.out.1.1 0).trans rfl
  go_wp2_with fail
  go_loopw [4] (fun vi wr => ∃ (i : Nat) (ys : List S81),vi = .int .i64 (i : Nat) ∧ i < n ∧ Aside0 (ys.length = n ∧ ys.Perm (xs ++ [x])) ∧ Aside0 (HeapAt wr base hb (.slice A1 n c1) ys ∧ HeapTo w wr hb v (.slice A1 n c1))) (fun vi _ => (intOf vi).toNat)
  case atStart => exact ⟨xs.length,xs ++ [x],rfl,by omega,⟨by simp [hn],List.Perm.refl _⟩,HH⟩
  case round =>
    obtain ⟨i,ys,rfl,hi,HP,HH⟩ := hrel
    by_cases h0 : i = 0
    · subst h0
      have ht : decide (((0 : Nat) : Int) > 0) = false := by decide
      go_wp2_with fail
      go_quiet (fail)
      go_wp2_with fail
      go_end0
      exact ⟨rfl,_,ys,HP.out.2,HH.out.1.drewN _,HH.out.2.drewN _⟩
    have ht : decide ((i : Int) > 0) = true := decide_eq_true (by omega)
    have ht1 : decide (i > 0) = true := decide_eq_true (by omega)
    have hi1 : (i : Int) < (xs.length : Int) + 1 := by omega
    have hi2 : i < xs.length + 1 := by omega
    obtain ⟨hblkr,hRr⟩ := HH.out.1
    obtain ⟨g,cap,hv,hg1,hg2,cs0,hg3⟩ := Kd.R_form hRr (by rw [HP.out.1];omega)
    have hne : hb ≠ g := fun e => Kd.R_away hRr (fun _ h => h) (by rw [hv,e];rfl)
    have hA : A1 = some ⟨g,0,none⟩ := (Value.slice.inj hv).1
    subst hA
    clear hv
    obtain ⟨ca,hcla,hMa,hcca,hfra⟩ := Kd.R_elem hRr z81 (i : Int) (by omega) (by omega)
    obtain rfl := k81_openM hMa
    obtain ⟨a,ha⟩ : ∃ a,ys.getD (i : Int).toNat z81 = a := ⟨_,rfl⟩
    rw [ha] at hcca
    obtain ⟨p,hp⟩ : ∃ p : Nat,p = (i - 1) / 2 := ⟨_,rfl⟩
    have hpi : p < i := by omega
    obtain ⟨cb,hclb,hMb,hccb,hfrb⟩ := Kd.R_elem hRr z81 (p : Int) (by omega) (by omega)
    obtain rfl := k81_openM hMb
    obtain ⟨b,hb1⟩ : ∃ b,ys.getD (p : Int).toNat z81 = b := ⟨_,rfl⟩
    rw [hb1] at hccb
    have a0 : wr.cell? ⟨g,i * 2,none⟩ = some (.int .i64 a.f0) := hcca 0 _ rfl
    have a1 : wr.cell? ⟨g,i * 2 + 1,none⟩ = some (.float .f64 a.f1) := hcca 1 _ rfl
    have b0 : wr.cell? ⟨g,p * 2,none⟩ = some (.int .i64 b.f0) := hccb 0 _ rfl
    have b1 : wr.cell? ⟨g,p * 2 + 1,none⟩ = some (.float .f64 b.f1) := hccb 1 _ rfl
    have fa0 : wr.frozen? ⟨g,i * 2,none⟩ = false := hfra 0
    have fa1 : wr.frozen? ⟨g,i * 2 + 1,none⟩ = false := hfra 1
    have fb0 : wr.frozen? ⟨g,p * 2,none⟩ = false := hfrb 0
    have fb1 : wr.frozen? ⟨g,p * 2 + 1,none⟩ = false := hfrb 1
    have hk1 := (blk_cell hblkr 0).trans rfl
    obtain ⟨m,hm⟩ : ∃ m,i = m + 1 := ⟨i - 1,by omega⟩
    have q1 : IntKind.i64.wrap ((i : Int) - 1) = (m : Int) := by
      rw [i64_w]
      unfold wrap64
      omega
    have q2 : IntKind.i64.wrap ((m : Int) / 2) = (p : Int) := by
      rw [i64_w]
      unfold wrap64
      omega
    have hp1 : (p : Int) < (xs.length : Int) + 1 := by omega
    have hp2 : p < xs.length + 1 := by omega
    have HM := Aside0.mk hm
    have HPP := Aside0.mk hp
    clear hm hp
    clear hcla hMa hclb hMb hcca hccb hfra hfrb
    by_cases hlt : (FloatKind.f64.format.order a.f1 b.f1 == some .lt) = true
    · go_wp2_with fail
      go_quiet (fail)
      go_wp2_with fail
      go_region
      go_wp2_with fail
      go_roundw
      case rel =>
        refine ⟨p,(ys.set i b).set p a,rfl,by omega,⟨?_,?_⟩,?_,?_⟩
        · simp [HP.out.1]
        · rw [← ha,← hb1]
          exact (swap_perm ys i p (by rw [HP.out.1];omega) (by rw [HP.out.1];omega)).trans HP.out.2
        · exact ((HH.out.1.drewN _).put i hi b).put p (by omega) a
        exact ((((HH.out.2.drewN _).put _ _).put _ _).put _ _).put _ _
      case measure => simp [intOf];omega
    have hlt' : (FloatKind.f64.format.order a.f1 b.f1 == some .lt) = false := by simpa using hlt
    go_wp2_with fail
    go_quiet (fail)
    go_wp2_with fail
    go_end0
    exact ⟨rfl,_,ys,HP.out.2,HH.out.1.drewN _,HH.out.2.drewN _⟩
end Go.Proofs.Ytmdkcecbklgihaa.PA
