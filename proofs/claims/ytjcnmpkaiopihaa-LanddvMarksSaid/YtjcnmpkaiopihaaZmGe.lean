/- What is kept of landmarks, destination by destination: what the document's Marks reckons. Conditions: what is heard may be. -/
import Derived.Test.YtjcnmpkaiopihaaZmHs
import Derived.Test.YtjcnmpkaiopihaaZmGd
namespace Go.Proofs.Ytjcnmpkaiopihaa.PA
open Go.RowKit Go.Proofs.YtjcnmpkaiopihaaW.PrintWords Go.Proofs.YtjcnmpkaiopihaaW.PrintLast Go.Proofs.YtjcnmpkaiopihaaW.PrintMore
set_option linter.unusedVariables false
set_option linter.unusedSimpArgs false
def defX (d : Int) : S58 := ⟨d,1,9218868437227405312,0,0,0⟩
def stepD (d : Int) (max : Nat) (frm : Int) (w : Nat) (acc : Option S58) (n : S56) : Option S58 := if n.f1 = 1 ∧ n.f0 = d then some (markN frm w n max (acc.getD (defX d))) else acc
theorem enGet_put {x : S58} {d : Int} : ∀ {M : List S58},enGet d (enPut x M) = if d = x.f0 then some x else enGet d M
  | [] => by simp [enPut,enGet]
  | b :: r => by
    rw [enPut]
    by_cases h : x.f0 = b.f0
    · rw [if_pos h,enGet,enGet]
      by_cases e : d = x.f0
      · rw [if_pos e,if_pos e]
      rw [if_neg e,if_neg e,if_neg (by rw [← h];exact e)]
    rw [if_neg h,enGet,enGet,enGet_put]
    by_cases e : d = b.f0
    · rw [if_pos e,if_pos e,if_neg (fun e2 => h (by rw [← e2,e]))]
    rw [if_neg e,if_neg e]
theorem get_markS {self d : Int} {max : Nat} {frm : Int} {w : Nat} {M : List S58} {n : S56} (hd : d ≠ self) : enGet d (markS self max frm w M n) = stepD d max frm w (enGet d M) n := by
  unfold markS stepD
  by_cases h : n.f1 = 1 ∧ n.f0 ≠ self
  · rw [if_pos h,enGet_put,markN_dest,markX_dest]
    by_cases e : d = n.f0
    · subst e
      rw [if_pos rfl,if_pos ⟨h.1,rfl⟩]
      rfl
    rw [if_neg e,if_neg (fun h2 => e h2.2.symm)]
  rw [if_neg h,if_neg (fun h2 => h ⟨h2.1,by rw [h2.2];exact hd⟩)]
theorem get_self {self : Int} {max : Nat} {frm : Int} {w : Nat} {M : List S58} {n : S56} (h0 : enGet self M = none) : enGet self (markS self max frm w M n) = none := by
  unfold markS
  by_cases h : n.f1 = 1 ∧ n.f0 ≠ self
  · rw [if_pos h,enGet_put,markN_dest,markX_dest,if_neg (Ne.symm h.2)]
    exact h0
  rw [if_neg h]
  exact h0
theorem get_fold {self d : Int} {max : Nat} {frm : Int} {w : Nat} (hd : d ≠ self) : ∀ (ns : List S56) (M : List S58),enGet d (ns.foldl (markS self max frm w) M) = ns.foldl (stepD d max frm w) (enGet d M)
  | [],M => rfl
  | n :: r,M => by rw [List.foldl_cons,List.foldl_cons,get_fold hd r,get_markS hd]
theorem get_fold_self {self : Int} {max : Nat} {frm : Int} {w : Nat} : ∀ (ns : List S56) (M : List S58),enGet self M = none → enGet self (ns.foldl (markS self max frm w) M) = none
  | [],M,h => h
  | n :: r,M,h => get_fold_self r _ (get_self h)
def allD (d : Int) (max : Nat) (acc : Option S58) (l : List S54) : Option S58 := l.foldl (fun a h => h.f2.foldl (stepD d max h.f0 h.f1) a) acc
theorem get_all' {self d : Int} {max : Nat} (hd : d ≠ self) : ∀ (l : List S54) (M : List S58),enGet d (l.foldl (markH self max) M) = allD d max (enGet d M) l
  | [],M => rfl
  | h :: r,M => by
    rw [List.foldl_cons,get_all' hd r,markH,get_fold hd]
    rfl
theorem get_all {self d : Int} {max : Nat} (hd : d ≠ self) (l : List S54) : enGet d (markA self max l) = allD d max none l := get_all' hd l []
theorem get_all_self' {self : Int} {max : Nat} : ∀ (l : List S54) (M : List S58),enGet self M = none → enGet self (l.foldl (markH self max) M) = none
  | [],M,h => h
  | a :: r,M,h => get_all_self' r _ (get_fold_self a.f2 M h)
theorem get_all_self {self : Int} {max : Nat} (l : List S54) : enGet self (markA self max l) = none := get_all_self' l [] rfl
theorem aheadB_trans {a b c : S56} (h1 : aheadB a b = true) (h2 : aheadB b c = true) : aheadB a c = true := by
  unfold aheadB at *
  simp only [Bool.or_eq_true,Bool.and_eq_true,decide_eq_true_eq,beq_iff_eq] at *
  omega
theorem list_pairwise {ns : List S56} (h : listB ns = true) : ns.Pairwise fun a b => aheadB a b = true := by
  unfold listB at h
  rw [Bool.and_eq_true] at h
  have step : ∀ j,j + 1 < ns.length → aheadB (ns.getD j z56) (ns.getD (j + 1) z56) = true := by
    intro j hj
    have := ris_at h.2 (j + 1) (by omega) (by omega)
    unfold okAt at this
    rw [Bool.and_eq_true,Bool.or_eq_true] at this
    rcases this.2 with e | e
    · simp at e
    exact e
  have far : ∀ d i,i + d + 1 < ns.length → aheadB (ns.getD i z56) (ns.getD (i + d + 1) z56) = true := by
    intro d
    induction d with
    | zero => intro i hi;exact step i hi
    | succ d ih => intro i hi;exact aheadB_trans (ih i (by omega)) (step (i + d + 1) (by omega))
  rw [List.pairwise_iff_getElem]
  intro i j hi hj hij
  have := far (j - i - 1) i (by omega)
  rw [show i + (j - i - 1) + 1 = j by omega] at this
  simpa [List.getD_eq_getElem?_getD,hi,hj] using this
theorem fold_none {d : Int} {max : Nat} {frm : Int} {w : Nat} : ∀ (ns : List S56) (acc : Option S58),(∀ n ∈ ns,¬ (n.f1 = 1 ∧ n.f0 = d)) → ns.foldl (stepD d max frm w) acc = acc
  | [],acc,_ => rfl
  | n :: r,acc,h => by
    rw [List.foldl_cons]
    have e : stepD d max frm w acc n = acc := by unfold stepD;rw [if_neg (h n List.mem_cons_self)]
    rw [e]
    exact fold_none r acc fun x hx => h x (List.mem_cons_of_mem _ hx)
theorem fold_uniq {d : Int} {max : Nat} {frm : Int} {w : Nat} : ∀ (ns : List S56) (acc : Option S58),ns.Pairwise (fun a b => aheadB a b = true) →
    ns.foldl (stepD d max frm w) acc = match findV 1 d ns with | some n => some (markN frm w n max (acc.getD (defX d))) | none => acc
  | [],acc,_ => rfl
  | n :: r,acc,h => by
    have p := List.pairwise_cons.1 h
    rw [List.foldl_cons]
    unfold findV
    rw [List.find?_cons]
    by_cases hn : n.f1 = 1 ∧ n.f0 = d
    · have hb : (n.f1 == 1 && n.f0 == d) = true := by simp [hn]
      have e : stepD d max frm w acc n = some (markN frm w n max (acc.getD (defX d))) := by unfold stepD;rw [if_pos hn]
      rw [hb,e,fold_none r _ (fun x hx h2 => by
        have := p.1 x hx
        unfold aheadB at this
        simp only [Bool.or_eq_true,Bool.and_eq_true,decide_eq_true_eq,beq_iff_eq] at this
        omega)]
    have hb : (n.f1 == 1 && n.f0 == d) = false := by
      rw [Bool.eq_false_iff]
      intro h2
      simp only [Bool.and_eq_true,beq_iff_eq] at h2
      exact hn h2
    have e : stepD d max frm w acc n = acc := by unfold stepD;rw [if_neg hn]
    rw [hb,e,fold_uniq r acc p.2]
    rfl
def offStep (max : Nat) (x : S58) (o : S54) : S58 := markN o.f0 o.f1 (o.f2.getD 0 z56) max x
theorem val_all {d : Int} {max : Nat} : ∀ (l : List S54) (acc : Option S58),(∀ h ∈ l,listB h.f2 = true) → (allD d max acc l).getD (defX d) = (offA 1 d l).foldl (offStep max) (acc.getD (defX d))
  | [],acc,_ => rfl
  | h :: r,acc,hl => by
    have hu := fold_uniq (d := d) (max := max) (frm := h.f0) (w := h.f1) h.f2 acc (list_pairwise (hl h List.mem_cons_self))
    have ih := fun a => val_all (d := d) (max := max) r a fun x hx => hl x (List.mem_cons_of_mem _ hx)
    show (allD d max (h.f2.foldl (stepD d max h.f0 h.f1) acc) r).getD (defX d) = _
    rw [ih,hu]
    unfold offA
    rw [List.filterMap_cons]
    cases hx : findV 1 d h.f2 with
    | none =>
      have hoff : offH 1 d h = none := by unfold offH;rw [hx];rfl
      rw [hoff]
    | some n =>
      have hoff : offH 1 d h = some ⟨h.f0,h.f1,[n]⟩ := by unfold offH;rw [hx];rfl
      rw [hoff,List.foldl_cons]
      rfl
def Offered (d : Int) (l : List S54) : Prop := ∃ h ∈ l,∃ n ∈ h.f2,n.f1 = 1 ∧ n.f0 = d
theorem fold_some {d : Int} {max : Nat} {frm : Int} {w : Nat} : ∀ (ns : List S56) (acc : Option S58),(ns.foldl (stepD d max frm w) acc).isSome = true ↔ acc.isSome = true ∨ ∃ n ∈ ns,n.f1 = 1 ∧ n.f0 = d
  | [],acc => by simp
  | n :: r,acc => by
    rw [List.foldl_cons,fold_some r]
    unfold stepD
    by_cases hn : n.f1 = 1 ∧ n.f0 = d
    · rw [if_pos hn]
      simp [hn]
    rw [if_neg hn]
    constructor
    · rintro (h | ⟨x,hx,h⟩)
      · exact .inl h
      exact .inr ⟨x,List.mem_cons_of_mem _ hx,h⟩
    rintro (h | ⟨x,hx,h⟩)
    · exact .inl h
    rcases List.mem_cons.1 hx with rfl | hx
    · exact absurd h hn
    exact .inr ⟨x,hx,h⟩
theorem allD_some {d : Int} {max : Nat} : ∀ (l : List S54) (acc : Option S58),(allD d max acc l).isSome = true ↔ acc.isSome = true ∨ Offered d l
  | [],acc => by simp [allD,Offered]
  | h :: r,acc => by
    show (allD d max (h.f2.foldl (stepD d max h.f0 h.f1) acc) r).isSome = true ↔ _
    rw [allD_some r,fold_some]
    unfold Offered
    constructor
    · rintro ((h1 | ⟨n,hn,h1⟩) | ⟨x,hx,h1⟩)
      · exact .inl h1
      · exact .inr ⟨h,List.mem_cons_self,n,hn,h1⟩
      exact .inr ⟨x,List.mem_cons_of_mem _ hx,h1⟩
    rintro (h1 | ⟨x,hx,n,hn,h1⟩)
    · exact .inl (.inl h1)
    rcases List.mem_cons.1 hx with rfl | hx
    · exact .inl (.inr ⟨n,hn,h1⟩)
    exact .inr ⟨x,hx,n,hn,h1⟩
theorem dstF_mem {x : Int} : ∀ (ns : List S56) (D : List Int),x ∈ ns.foldl (dstN 1) D ↔ x ∈ D ∨ ∃ n ∈ ns,n.f1 = 1 ∧ n.f0 = x
  | [],D => by simp
  | n :: r,D => by
    rw [List.foldl_cons,dstF_mem r]
    unfold dstN
    by_cases hn : n.f1 = 1
    · rw [if_pos hn,insV_mem]
      constructor
      · rintro ((h | h) | ⟨y,hy,h⟩)
        · exact .inr ⟨n,List.mem_cons_self,hn,h.symm⟩
        · exact .inl h
        exact .inr ⟨y,List.mem_cons_of_mem _ hy,h⟩
      rintro (h | ⟨y,hy,h⟩)
      · exact .inl (.inr h)
      rcases List.mem_cons.1 hy with rfl | hy
      · exact .inl (.inl h.2.symm)
      exact .inr ⟨y,hy,h⟩
    rw [if_neg hn]
    constructor
    · rintro (h | ⟨y,hy,h⟩)
      · exact .inl h
      exact .inr ⟨y,List.mem_cons_of_mem _ hy,h⟩
    rintro (h | ⟨y,hy,h⟩)
    · exact .inl h
    rcases List.mem_cons.1 hy with rfl | hy
    · exact absurd h.1 hn
    exact .inr ⟨y,hy,h⟩
theorem dstA_mem' {x : Int} : ∀ (l : List S54) (D : List Int),x ∈ l.foldl (dstH 1) D ↔ x ∈ D ∨ Offered x l
  | [],D => by simp [Offered]
  | h :: r,D => by
    rw [List.foldl_cons,dstA_mem' r,dstH,dstF_mem]
    unfold Offered
    constructor
    · rintro ((h1 | ⟨n,hn,h1⟩) | ⟨y,hy,h1⟩)
      · exact .inl h1
      · exact .inr ⟨h,List.mem_cons_self,n,hn,h1⟩
      exact .inr ⟨y,List.mem_cons_of_mem _ hy,h1⟩
    rintro (h1 | ⟨y,hy,n,hn,h1⟩)
    · exact .inl (.inl h1)
    rcases List.mem_cons.1 hy with rfl | hy
    · exact .inl (.inr ⟨n,hn,h1⟩)
    exact .inr ⟨y,hy,n,hn,h1⟩
theorem dstA_mem {x : Int} (l : List S54) : x ∈ dstA 1 l ↔ Offered x l := by
  unfold dstA
  rw [dstA_mem']
  simp
theorem enGet_some_iff {d : Int} : ∀ {M : List S58},(enGet d M).isSome = true ↔ d ∈ M.map (·.f0)
  | [] => by simp [enGet]
  | b :: r => by
    rw [enGet]
    by_cases e : d = b.f0
    · rw [if_pos e];simp [e]
    rw [if_neg e,enGet_some_iff];simp [e]
theorem rise_eq {l1 l2 : List Int} (h1 : l1.Pairwise (· < ·)) (h2 : l2.Pairwise (· < ·)) (hm : ∀ x,x ∈ l1 ↔ x ∈ l2) : l1 = l2 :=
  List.Perm.eq_of_pairwise (le := fun a b : Int => a < b) (fun a b _ _ h3 h4 => by omega) h1 h2 ((List.perm_ext_iff_of_nodup (rise_nodup h1) (rise_nodup h2)).2 hm)
theorem keysV_rise {M : List S58} (h : (M.map (·.f0)).Nodup) : (keysV M).Pairwise (· < ·) := by
  have h1 := List.pairwise_mergeSort (le := leI) (fun a b c h1 h2 => by simp only [leI,decide_eq_true_eq] at *;exact Int.le_trans h1 h2) (fun a b => by simp only [leI,Bool.or_eq_true,decide_eq_true_eq];exact Int.le_total a b) (M.map (·.f0))
  have h2 : (keysV M).Nodup := (List.mergeSort_perm _ _).nodup_iff.2 h
  refine (h1.and h2).imp fun {a b} hab => ?_
  have := hab.1
  simp only [leI,decide_eq_true_eq] at this
  have := hab.2
  omega
theorem keys_are {self : Int} {max : Nat} {l : List S54} (ho : ∀ h ∈ l,OkH h) (hk : KeptOk (markA self max l)) : keysV (markA self max l) = (dstA 1 l).filter fun d => decide (d ≠ self) := by
  have hd := dstA_ok' (kind := 1) l [] risOk_nil ho
  refine rise_eq (keysV_rise hk.1) (hd.1.filter _) fun x => ?_
  have e1 : x ∈ keysV (markA self max l) ↔ x ∈ (markA self max l).map (·.f0) := (List.mergeSort_perm _ _).mem_iff
  rw [e1,← enGet_some_iff,List.mem_filter,decide_eq_true_eq]
  by_cases hs : x = self
  · subst hs
    rw [get_all_self]
    simp
  rw [get_all hs,allD_some,dstA_mem]
  simp [hs]
def entD (max : Nat) (l : List S54) (d : Int) : S58 := (offA 1 d l).foldl (offStep max) (defX d)
theorem marksL_is {self : Int} {max : Nat} {l : List S54} (ho : ∀ h ∈ l,OkH h) (hl : ∀ h ∈ l,listB h.f2 = true) (hk : KeptOk (markA self max l)) :
    marksL (markA self max l) = ((dstA 1 l).filter fun d => decide (d ≠ self)).map (entD max l) := by
  unfold marksL
  rw [keys_are ho hk]
  refine List.map_congr_left fun d hd => ?_
  rw [List.mem_filter,decide_eq_true_eq,dstA_mem] at hd
  have hsome : (allD d max none l).isSome = true := (allD_some l none).2 (.inr hd.1)
  have hv := val_all (d := d) (max := max) l none hl
  rw [get_all hd.2]
  unfold entD
  have hv2 : (allD d max none l).getD (defX d) = (offA 1 d l).foldl (offStep max) (defX d) := hv
  rw [← hv2]
  cases hx : allD d max none l with
  | none => rw [hx] at hsome;cases hsome
  | some y => rfl
theorem markA_ok' {self : Int} {max : Nat} : ∀ (l : List S54) (M : List S58),KeptOk M → (∀ h ∈ l,OkH h) → KeptOk (l.foldl (markH self max) M)
  | [],M,h,_ => h
  | a :: r,M,h,ho => by
    refine markA_ok' r _ ?_ fun x hx => ho x (List.mem_cons_of_mem _ hx)
    have : ∀ (ns : List S56) (M : List S58),KeptOk M → (∀ n ∈ ns,okId n.f0 = true) → KeptOk (ns.foldl (markS self max a.f0 a.f1) M) := by
      intro ns
      induction ns with
      | nil => intro M h _;exact h
      | cons n r ih => intro M h hn;exact ih _ (markS_ok h (hn n List.mem_cons_self)) fun x hx => hn x (List.mem_cons_of_mem _ hx)
    exact this a.f2 M h fun n hn => ((ho a List.mem_cons_self).2.1 n hn).2
theorem markA_ok {self : Int} {max : Nat} {l : List S54} (ho : ∀ h ∈ l,OkH h) : KeptOk (markA self max l) := markA_ok' l [] keptOk_nil ho
theorem lists_of {self : Int} {l : List S54} (hc : ckE self l = 0) : ∀ h ∈ l,listB h.f2 = true := by
  intro h hm
  obtain ⟨i,hi,rfl⟩ := List.mem_iff_getElem.1 hm
  unfold ckE at hc
  have hh : heardFrom self l l.length 0 = true := by
    cases h1 : okId self
    · rw [h1] at hc;cases hc
    rw [h1] at hc
    cases h2 : heardFrom self l l.length 0
    · rw [h2] at hc;cases hc
    rfl
  have hk := heard_at hh i (by omega) (by omega)
  have hat : l.getD i z54 = l[i] := by simp [List.getD_eq_getElem?_getD,hi]
  unfold okHeard at hk
  rw [hat] at hk
  simp only [Bool.and_eq_true] at hk
  exact hk.2.2.2.2
end Go.Proofs.Ytjcnmpkaiopihaa.PA
