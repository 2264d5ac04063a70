/- Lists of news behind news: what cache.merge does one by one is what the document's merge does side by side, and it tells as many changes. Conditions: both lists rise. -/
import Derived.Test.YtblemmagkehanaaGreatZkGe
import Derived.Test.YtblemmagkehanaaGreatZkCl
namespace Go.Proofs.YtblemmagkehanaaGreat.PA
open Go.RowKit Go.Proofs.YtblemmagkehanaaGreatW.PrintWords
set_option linter.unusedVariables false
set_option linter.unusedSimpArgs false
theorem ahead_iff (a b : S61) : aheadB a b = true ↔ a.f1 < b.f1 ∨ (a.f1 = b.f1 ∧ a.f0 < b.f0) := by simp [aheadB]
theorem ahead_trans {a b c : S61} (h1 : aheadB a b = true) (h2 : aheadB b c = true) : aheadB a c = true := by
  rw [ahead_iff] at *;omega
def keyB (a b : S61) : Bool := a.f1 == b.f1 && a.f0 == b.f0
theorem key_iff (a b : S61) : keyB a b = true ↔ a.f1 = b.f1 ∧ a.f0 = b.f0 := by simp [keyB]
theorem ahead_key {a b : S61} (h : aheadB a b = true) : keyB a b = false := by
  rw [Bool.eq_false_iff,ne_eq,key_iff];rw [ahead_iff] at h;omega
theorem ahead_asym {a b : S61} (h : aheadB a b = true) : aheadB b a = false := by
  rw [Bool.eq_false_iff,ne_eq,ahead_iff];rw [ahead_iff] at h;omega
theorem not_ahead_key {a b : S61} (h1 : aheadB a b = false) (h2 : aheadB b a = false) : keyB a b = true := by
  rw [Bool.eq_false_iff,ne_eq,ahead_iff] at h1 h2;rw [key_iff];omega
theorem key_ahead {a b c : S61} (h : keyB a b = true) : aheadB a c = aheadB b c := by
  rw [key_iff] at h;unfold aheadB;rw [h.1,h.2]
theorem key_ahead' {a b c : S61} (h : keyB a b = true) : aheadB c a = aheadB c b := by
  rw [key_iff] at h;unfold aheadB;rw [h.1,h.2]
theorem same_eq {a b : S61} (h : sameB a b = true) : a = b := by
  obtain ⟨a0,a1,a2,a3,a4⟩ := a;obtain ⟨b0,b1,b2,b3,b4⟩ := b;simp only [sameB,Bool.and_eq_true,beq_iff_eq] at h;obtain ⟨rfl,rfl,rfl,rfl,rfl⟩ := h;rfl
theorem same_refl (a : S61) : sameB a a = true := by simp [sameB]
def AscN (l : List S61) : Prop := l.Pairwise fun a b => aheadB a b = true
def insN (n : S61) : List S61 → List S61
  | [] => if infB n.f2 = true then [] else [n]
  | y :: r => if aheadB y n = true then y :: insN n r else if aheadB n y = true then (if infB n.f2 = true then y :: r else n :: y :: r) else if infB n.f2 = true then r else n :: r
theorem hasN_cons (n y : S61) (r : List S61) : hasN n (y :: r) = if aheadB y n = true then hasN n r else decide (ordV y n = 0) := by
  unfold hasN
  by_cases h : aheadB y n = true
  · rw [if_pos h]
    simp only [posN,if_pos h,List.length_cons,List.getD_cons_succ]
    by_cases h2 : posN n r < r.length <;> simp [h2]
  rw [if_neg h]
  simp [posN,h]
theorem step_ins : ∀ (out : List S61) (n : S61),stepL out n = insN n out
  | [],n => by
    unfold stepL
    simp [hasN,posN,insN]
  | y :: r,n => by
    have ih := step_ins r n;unfold stepL at ih ⊢;rw [hasN_cons,insN]
    by_cases h : aheadB y n = true
    · rw [if_pos h,if_pos h,← ih]
      simp only [posN,if_pos h,List.take_succ_cons,List.drop_succ_cons,List.getD_cons_succ,List.set_cons_succ,List.cons_append]
      split
      · split
        · rfl
        split <;> rfl
      split <;> rfl
    have hp : posN n (y :: r) = 0 := by simp [posN,h]
    rw [if_neg h,if_neg h,hp];simp only [List.take_zero,List.nil_append,List.drop_zero,List.getD_cons_zero,List.set_cons_zero,List.drop_succ_cons]
    by_cases h2 : aheadB n y = true
    · have h3 : ¬ ordV y n = 0 := by
        rw [ord_zero];rw [ahead_iff] at h2;omega
      rw [if_pos h2,if_neg (by simpa using h3)]
    have h3 : ordV y n = 0 := by
      rw [ord_zero];rw [ahead_iff] at h h2;omega
    rw [if_neg h2,if_pos (by simpa using h3)]
    split
    · rfl
    split
    · rename_i h4
      rw [same_eq h4]
    rfl
theorem insN_mem {n z : S61} : ∀ {l : List S61},z ∈ insN n l → (z = n ∧ infB n.f2 = false) ∨ z ∈ l
  | [],h => by
    unfold insN at h
    split at h
    · cases h
    rename_i hi
    exact .inl ⟨List.mem_singleton.1 h,by simpa using hi⟩
  | y :: r,h => by
    unfold insN at h
    split at h
    · rcases List.mem_cons.1 h with rfl | h
      · exact .inr List.mem_cons_self
      rcases insN_mem h with h | h
      · exact .inl h
      exact .inr (List.mem_cons_of_mem _ h)
    split at h
    · split at h
      · exact .inr h
      rename_i hi
      rcases List.mem_cons.1 h with rfl | h
      · exact .inl ⟨rfl,by simpa using hi⟩
      exact .inr h
    split at h
    · exact .inr (List.mem_cons_of_mem _ h)
    rename_i hi
    rcases List.mem_cons.1 h with rfl | h
    · exact .inl ⟨rfl,by simpa using hi⟩
    exact .inr (List.mem_cons_of_mem _ h)
theorem insN_asc {n : S61} : ∀ {l : List S61},AscN l → AscN (insN n l)
  | [],_ => by
    unfold insN
    split
    · exact List.Pairwise.nil
    exact List.pairwise_singleton _ _
  | y :: r,h => by
    have p := List.pairwise_cons.1 h;unfold insN
    by_cases h1 : aheadB y n = true
    · rw [if_pos h1]
      refine List.pairwise_cons.2 ⟨fun z hz => ?_,insN_asc p.2⟩
      rcases insN_mem hz with ⟨rfl,_⟩ | hz
      · exact h1
      exact p.1 z hz
    rw [if_neg h1]
    by_cases h2 : aheadB n y = true
    · rw [if_pos h2]
      split
      · exact h
      refine List.pairwise_cons.2 ⟨fun z hz => ?_,h⟩
      rcases List.mem_cons.1 hz with rfl | hz
      · exact h2
      exact ahead_trans h2 (p.1 z hz)
    rw [if_neg h2]
    split
    · exact p.2
    refine List.pairwise_cons.2 ⟨fun z hz => ?_,p.2⟩;have hk := not_ahead_key (by simpa using h1) (by simpa using h2);rw [← key_ahead hk];exact p.1 z hz
def mg : List S61 → List S61 → List S61
  | [],ns => ns.filter fun n => !infB n.f2
  | y :: r,[] => y :: mg r []
  | y :: r,n :: ns => if aheadB n y = true then (if infB n.f2 = true then mg (y :: r) ns else n :: mg (y :: r) ns) else if aheadB y n = true then y :: mg r (n :: ns) else mg r (n :: ns)
termination_by l ns => l.length + ns.length
def foldN (l ns : List S61) : List S61 := ns.foldl (fun out n => insN n out) l
theorem fold_head {x : S61} : ∀ (ns l : List S61),(∀ n ∈ ns,aheadB x n = true) → foldN (x :: l) ns = x :: foldN l ns
  | [],l,_ => rfl
  | n :: ns,l,h => by
    show foldN (insN n (x :: l)) ns = x :: foldN (insN n l) ns
    have h1 : insN n (x :: l) = x :: insN n l := by
      rw [insN,if_pos (h n List.mem_cons_self)]
    rw [h1];exact fold_head ns _ fun m hm => h m (List.mem_cons_of_mem _ hm)
theorem ins_front {n : S61} : ∀ {r : List S61},(∀ z ∈ r,aheadB n z = true) → insN n r = if infB n.f2 = true then r else n :: r
  | [],_ => by
    unfold insN
    split <;> rfl
  | y :: r,h => by
    have h1 := h y List.mem_cons_self;unfold insN;rw [if_neg (by rw [ahead_asym h1];decide),if_pos h1]
theorem mg_fold : ∀ (N : Nat) (l ns : List S61),l.length + ns.length ≤ N → AscN l → AscN ns → mg l ns = foldN l ns
  | _,[],[],_,_,_ => by rw [mg];rfl
  | 0,[],_ :: _,h,_,_ => by simp at h
  | 0,_ :: _,_,h,_,_ => by simp at h
  | N + 1,[],n :: ns,h,hl,hn => by
    have p := List.pairwise_cons.1 hn;have ih := mg_fold N [] ns (by simp at h ⊢;omega) hl p.2;rw [mg] at ih ⊢
    show _ = foldN (insN n []) ns
    rw [insN]
    by_cases hi : infB n.f2 = true
    · rw [if_pos hi,List.filter_cons_of_neg (by simp [hi]),ih]
    rw [if_neg hi,List.filter_cons_of_pos (by simp [hi]),fold_head ns [] p.1,ih]
  | N + 1,y :: r,[],h,hl,hn => by
    have p := List.pairwise_cons.1 hl;have ih := mg_fold N r [] (by simp at h ⊢;omega) p.2 hn;rw [mg,ih];rfl
  | N + 1,y :: r,n :: ns,h,hl,hn => by
    have pl := List.pairwise_cons.1 hl;have pn := List.pairwise_cons.1 hn;rw [mg]
    show _ = foldN (insN n (y :: r)) ns
    rw [insN]
    by_cases h1 : aheadB n y = true
    · have ih := mg_fold N (y :: r) ns (by simp at h ⊢;omega) hl pn.2
      have h2 := ahead_asym h1;simp only [h1,h2,if_true,Bool.false_eq_true,if_false]
      by_cases hi : infB n.f2 = true
      · simp only [hi,if_true]
        exact ih
      simp only [hi,Bool.false_eq_true,if_false];rw [fold_head ns _ pn.1,ih]
    rw [if_neg h1];have ih := mg_fold N r (n :: ns) (by simp at h ⊢;omega) pl.2 hn
    by_cases h2 : aheadB y n = true
    · rw [if_pos h2,if_pos h2,ih]
      have : foldN (y :: insN n r) ns = y :: foldN (insN n r) ns := fold_head ns _ fun m hm => ahead_trans h2 (pn.1 m hm)
      rw [this];rfl
    rw [if_neg h2,if_neg h2,if_neg h1,ih]
    show foldN (insN n r) ns = _
    have hk := not_ahead_key (by simpa using h2) (by simpa using h1);rw [ins_front (fun z hz => by rw [← key_ahead hk];exact pl.1 z hz)]
theorem out_fold (l ns : List S61) (j : Nat) : outAt l ns j = foldN l (ns.take j) := by
  unfold outAt foldN
  congr 1
  funext out n
  exact step_ins out n
theorem foldN_asc : ∀ (ns : List S61) {l : List S61},AscN l → AscN (foldN l ns)
  | [],l,h => h
  | n :: ns,l,h => foldN_asc ns (l := insN n l) (insN_asc h)
theorem foldN_mem : ∀ (ns : List S61) {l : List S61} {z : S61},z ∈ foldN l ns → (z ∈ ns ∧ infB z.f2 = false) ∨ z ∈ l
  | [],l,z,h => .inr h
  | n :: ns,l,z,h => by
    rcases foldN_mem ns (l := insN n l) h with ⟨h1,h2⟩ | h1
    · exact .inl ⟨List.mem_cons_of_mem _ h1,h2⟩
    rcases insN_mem h1 with ⟨rfl,h2⟩ | h1
    · exact .inl ⟨List.mem_cons_self,h2⟩
    exact .inr h1
theorem mono_asc {l : List S61} (h : AscN l) (x : S61) : Mono x l := by
  intro i j hij hj hx
  rcases Nat.lt_or_ge i j with h1 | h1
  · have := List.pairwise_iff_getElem.1 h i j (by omega) hj h1
    have e1 : l.getD i z61 = l[i] := by simp [List.getD_eq_getElem?_getD,show i < l.length by omega]
    have e2 : l.getD j z61 = l[j] := by simp [List.getD_eq_getElem?_getD,hj]
    rw [e1];rw [e2] at hx;exact ahead_trans this hx
  have : i = j := by omega
  rw [this];exact hx
def NewsOk (l : List S61) : Prop := AscN l ∧ ∀ n ∈ l,mayB n = true
theorem may_key {n : S61} (h : mayB n = true) : 1 ≤ n.f0 ∧ n.f0 ≤ 2147483647 ∧ (n.f1 = 1 ∨ n.f1 = 2) := by
  simp only [mayB,Bool.and_eq_true,Bool.or_eq_true,beq_iff_eq,okId,decide_eq_true_eq] at h;exact ⟨h.1.1,h.1.2,h.2.1⟩
theorem NewsOk.len {l : List S61} (h : NewsOk l) : l.length ≤ 4294967294 := by
  have hp := pigeon 4294967294 (l.map fun n => (n.f1 - 1) * 2147483647 + n.f0) (List.pairwise_map.2 (h.1.imp_of_mem fun {a b} ha hb hab he => by
    have h1 := may_key (h.2 a ha);have h2 := may_key (h.2 b hb);rw [ahead_iff] at hab
    rcases h1.2.2 with e1 | e1 <;> rcases h2.2.2 with e2 | e2 <;> rw [e1,e2] at he hab <;> omega)) (fun x hx => by
    obtain ⟨n,hn,rfl⟩ := List.mem_map.1 hx;have h1 := may_key (h.2 n hn)
    rcases h1.2.2 with e1 | e1 <;> rw [e1] <;> omega)
  simpa using hp
theorem NewsOk.fold {l ns : List S61} (hl : NewsOk l) (hn : NewsOk ns) (j : Nat) : NewsOk (foldN l (ns.take j)) :=
  ⟨foldN_asc _ hl.1,fun z hz => by
    rcases foldN_mem _ hz with ⟨h,_⟩ | h
    · exact hn.2 z (List.mem_of_mem_take h)
    exact hl.2 z h⟩
end Go.Proofs.YtblemmagkehanaaGreat.PA
