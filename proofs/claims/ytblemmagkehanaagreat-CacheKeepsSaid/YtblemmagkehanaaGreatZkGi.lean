/- CachePlays walked. Condition: the calls are words, and fit in memory. -/
import Derived.Test.YtblemmagkehanaaGreatZkEd
import Derived.Test.YtblemmagkehanaaGreatZkCr
import Derived.Test.YtblemmagkehanaaGreatZkPAx0
import Derived.Test.YtblemmagkehanaaGreatZkOp
import Derived.KernelRfl
namespace Go.Proofs.YtblemmagkehanaaGreat.PA
open Go.RowKit Go.Proofs.YtblemmagkehanaaGreatW.PrintWords Go.Proofs.YtblemmagkehanaaGreatW.PrintLast Go.Proofs.YtblemmagkehanaaGreatW.PrintMore
set_option linter.unusedVariables false
set_option linter.unusedSimpArgs false
open Classical
def ActsW (l : List S31) : Prop := ∀ a ∈ l,ActW a
theorem rd31 (l : List S31) (i : Nat) (h : i < l.length) : rd_T31 l (i : Int) = l[i] := by
  unfold rd_T31;rw [Int.toNat_natCast]
  simp [List.getD_eq_getElem?_getD,h]
theorem play_start {w w1 w2 : World} {g b : Nat} {A : Option Addr} {c : Nat} (hb : w.heap.size ≤ b) (hC : CacheAt w1 g b []) (h1 : Below w.heap.size w w1) (h2 : Below w1.heap.size w1 w2) (hA : Kd.C k43 w2 A 0 []) : PlayAt w w2 g b [] A c [] :=
  ⟨⟨hC.below h2,hA,Nat.zero_le _,⟨List.Perm.refl _,List.Pairwise.nil,fun e he => (by cases he),fun e he => (by cases he),by decide⟩⟩,below_then h1 h1.size h2,hb,fun e he => by cases he⟩
end Go.Proofs.YtblemmagkehanaaGreat.PA
namespace Go.Proofs.YtblemmagkehanaaGreat.PA
open Go.RowKit Go.Proofs.YtblemmagkehanaaGreatW.PrintWords
set_option linter.unusedVariables false
theorem o3 : Opens Tryz.prog 3 (Kd.int .i64) (fun n => (Lit.int .i64 n).wf = true) := opens_int (by kernel_rfl) Tryz.underlying3
theorem o28 : Opens Tryz.prog 28 Kd.float (fun n => n < 18446744073709551616) := opens_float (by kernel_rfl) Tryz.underlying28
def ok61 (x : S61) : Prop := ((Lit.int .i64 x.f0).wf = true) ∧ ((Lit.int .i64 x.f1).wf = true) ∧ (x.f2 < 18446744073709551616) ∧ (x.f3 < 18446744073709551616) ∧ ((Lit.int .i64 x.f4).wf = true)
theorem o61 : Opens Tryz.prog 61 k61 ok61 := by
  have h := opens_struct (P := Tryz.prog) (t := 61) (f := (fun x : S61 => (x.f0,x.f1,x.f2,x.f3,x.f4))) (mk := fun p => (⟨p.1,p.2.1,p.2.2.1,p.2.2.2.1,p.2.2.2.2⟩ : S61)) (fun _ => rfl) (by kernel_rfl) Tryz.underlying61 (opens_next rfl o3 (opens_next rfl o3 (opens_next rfl o28 (opens_next rfl o28 (opens_last rfl o3)))));exact h
theorem o29 : Opens Tryz.prog 29 (Kd.slice 61 k61) (fun l => l.length * 40 ≤ 140737488351232 ∧ ∀ y ∈ l,ok61 y) := opens_slice 40 (by kernel_rfl) (by kernel_rfl) Tryz.underlying29 o61
def ok31 (x : S31) : Prop := ((Lit.int .i64 x.f0).wf = true) ∧ ((Lit.int .i64 x.f1).wf = true) ∧ (x.f2 < 18446744073709551616) ∧ (x.f3.length * 40 ≤ 140737488351232 ∧ ∀ y ∈ x.f3,ok61 y)
theorem o31 : Opens Tryz.prog 31 k31 ok31 := by
  have h := opens_struct (P := Tryz.prog) (t := 31) (f := (fun x : S31 => (x.f0,x.f1,x.f2,x.f3))) (mk := fun p => (⟨p.1,p.2.1,p.2.2.1,p.2.2.2⟩ : S31)) (fun _ => rfl) (by kernel_rfl) Tryz.underlying31 (opens_next rfl o3 (opens_next rfl o3 (opens_next rfl o28 (opens_last rfl o29))));exact h
theorem o22 : Opens Tryz.prog 22 (Kd.slice 31 k31) (fun l => l.length * 48 ≤ 140737488351232 ∧ ∀ y ∈ l,ok31 y) := opens_slice 48 (by kernel_rfl) (by kernel_rfl) Tryz.underlying22 o31
end Go.Proofs.YtblemmagkehanaaGreat.PA
namespace Go.Proofs.YtblemmagkehanaaGreat.PA
open Go.RowKit Go.Proofs.YtblemmagkehanaaGreatW.PrintWords
set_option linter.unusedVariables false
set_option linter.unusedSimpArgs false
theorem upd_ins {n : S61} : ∀ {l : List S61},AscN l → fnd n l = upd n → insN n l = l
  | [],_,h => by
    unfold insN;unfold fnd upd at h
    by_cases hi : infB n.f2 = true
    · rw [if_pos hi]
    rw [if_neg hi] at h
    cases h
  | y :: r,ha,h => by
    have p := List.pairwise_cons.1 ha;unfold insN
    by_cases h1 : aheadB y n = true
    · rw [if_pos h1]
      have hk := ahead_key h1;have : fnd n (y :: r) = fnd n r := by
        unfold fnd;rw [List.find?_cons,hk]
      rw [this] at h;rw [upd_ins p.2 h]
    rw [if_neg h1]
    by_cases h2 : aheadB n y = true
    · rw [if_pos h2]
      have hn : fnd n (y :: r) = none := fnd_none fun z hz => by
        rcases List.mem_cons.1 hz with rfl | hz
        · exact h2
        exact ahead_trans h2 (p.1 z hz)
      rw [hn] at h;unfold upd at h
      by_cases hi : infB n.f2 = true
      · rw [if_pos hi]
      rw [if_neg hi] at h
      cases h
    rw [if_neg h2];have hk := not_ahead_key (by simpa using h1) (by simpa using h2);have hf : fnd n (y :: r) = some y := by
      unfold fnd;rw [List.find?_cons,hk]
    rw [hf] at h;unfold upd at h
    by_cases hi : infB n.f2 = true
    · rw [if_pos hi] at h
      cases h
    rw [if_neg hi] at h ⊢;rw [Option.some.inj h]
theorem fold_upd : ∀ (ns l : List S61),AscN l → AscN ns → ∀ n ∈ ns,fnd n (foldN l ns) = upd n
  | [],l,_,_,n,h => by cases h
  | z :: ns,l,hl,hn,n,h => by
    have p := List.pairwise_cons.1 hn
    show fnd n (foldN (insN z l) ns) = upd n
    rcases List.mem_cons.1 h with rfl | h
    · rw [fnd_fold ns _ p.1,fnd_ins_same n hl]
    exact fold_upd ns _ (insN_asc hl) p.2 n h
theorem fold_id : ∀ (ns l : List S61),AscN l → (∀ n ∈ ns,fnd n l = upd n) → foldN l ns = l ∧ cntN l ns = 0
  | [],l,_,_ => ⟨rfl,rfl⟩
  | n :: ns,l,hl,h => by
    have h1 := h n List.mem_cons_self;have e1 := upd_ins hl h1;obtain ⟨h2,h3⟩ := fold_id ns l hl fun z hz => h z (List.mem_cons_of_mem _ hz)
    have e2 : stepC l n = 0 := by
      rw [stepC_is n l hl,h1]
      cases upd n with
      | none => rfl
      | some y => simp [same_refl]
    constructor
    · show foldN (insN n l) ns = l
      rw [e1,h2]
    show stepC l n + cntN (insN n l) ns = 0
    rw [e1,e2,h3]
theorem fold_again {ns l : List S61} (hl : AscN l) (hn : AscN ns) : foldN (foldN l ns) ns = foldN l ns ∧ cntAt (foldN l ns) ns ns.length = 0 := by
  rw [cntAt_is];exact fold_id ns _ (foldN_asc ns hl) (fold_upd ns l hl hn)
theorem nbGet_turn {id : Int} {f : Nb → Nb} (hf : ∀ e,(f e).id = e.id) (i : Int) : ∀ L : List Nb,nbGet i (nbTurn id f L) = (nbGet i L).map fun e => if i = id then f e else e
  | [] => rfl
  | e :: L => by
    have ih := nbGet_turn (id := id) hf i L;unfold nbTurn at ih ⊢;rw [List.map_cons];have hid : (if e.id = id then f e else e).id = e.id := by split <;> simp [hf]
    unfold nbGet;rw [hid]
    by_cases h : i = e.id
    · subst h
      simp
    simp only [h,if_false];exact ih
theorem learn_to {s : Nat} {L L' : List Nb} {id : Int} {ns : List S61} {x : Nb} (hg : nbGet id L = some x) (hr : risFrom ns ns.length 0 = true) (h : LearnTo s L id ns L') : ∃ A c,L' = nbTurn id (nbLearn A c (foldN x.news ns)) L ∧ nbGet id L' = some (nbLearn A c (foldN x.news ns) x) ∧ (∀ ad,A = some ad → s ≤ ad.block) := by
  unfold LearnTo at h;rw [hg] at h;simp only [hr,if_true] at h;obtain ⟨A,c,rfl,ha⟩ := h;refine ⟨A,c,rfl,?_,ha⟩;rw [nbGet_turn (f := nbLearn A c (foldN x.news ns)) (fun _ => rfl),hg]
  simp
theorem StOk.get {L : List Nb} {m : List S43} (h : StOk L m) (hn : (L.map (·.id)).Nodup) {x : S43} (hx : x ∈ m) : ∃ e,nbGet x.f0 L = some e ∧ e.hd = x := by
  obtain ⟨e,he,rfl⟩ := List.mem_map.1 (h.perm.mem_iff.2 hx);exact ⟨e,nbGet_self hn he,rfl⟩
end Go.Proofs.YtblemmagkehanaaGreat.PA
