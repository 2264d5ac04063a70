/- A range over a map in memory, a deletion, a clearing and its length, over the list of its keys and values. No condition but those that each theorem names. -/
import Derived.Test.YtjcnmpkaiopihaaZoMp
import Derived.Maps.RangeWalk
namespace Go.Proofs.YtjcnmpkaiopihaaW.PrintWords
open Go.RowKit Go.MapKept
set_option linter.unusedVariables false
set_option linter.unusedSimpArgs false
set_option linter.unusedSectionVars false
section
variable {κ : Type} [DecidableEq κ] {P : Program} {kt : TypeId} {d : TypeDesc} {enc : κ → Value}
def Ranging (w : World) (r b : Nat) (enc : κ → Value) (m left : List (κ × Value)) : Prop :=
  ∃ es clock since seen c0,w.heap[b]? = some (.map es clock) ∧ Tells enc es.toList m ∧ (es.toList.map (·.born)).Nodup ∧ (∀ e ∈ es.toList,e.born < since) ∧ since ≤ c0 ∧ since ≤ clock ∧
    w.heap[r]? = some (.mapIter (some b) since seen c0) ∧ Tells enc (es.toList.filter fun e => !seen.contains e.born) left
variable {w : World} {b r t et : Nat} {m left : List (κ × Value)}
theorem run_range_is (ht : P.underlying t = some (.map kt et)) (h : IsMap w b enc m) :
    ∃ o,(Instr.range t (.map (some b))).run P w = .ok (.pointer (some ⟨w.heap.size,0,none⟩)) (w.alloc o) ∧ Ranging (w.alloc o) w.heap.size b enc m m := by
  obtain ⟨es,clock,hb,hT,hnd,hlt,hbn⟩ := h
  refine ⟨.mapIter (some b) clock #[] clock,run_range_map w t kt et b es clock ht hb,es,clock,clock,#[],clock,?_,hT,hbn,hlt,Nat.le_refl _,Nat.le_refl _,al_new _ _,?_⟩
  · rw [al_old w _ (Array.getElem?_eq_some_iff.1 hb).1]
    exact hb
  rw [List.filter_eq_self.2 (fun _ _ => by simp)]
  exact hT
theorem filter_one : ∀ (L : List MapEntry) (j : Nat) (hj : j < L.length),(L.map (·.born)).Nodup → L.filter (fun x => !(x.born == (L[j]).born)) = L.take j ++ L.drop (j + 1)
  | x :: L,0,_,hn => by
    have hn' := List.nodup_cons.1 hn
    simp only [List.getElem_cons_zero,List.take_zero,List.nil_append,List.drop_succ_cons,List.drop_zero]
    rw [List.filter_cons,if_neg (by simp)]
    refine List.filter_eq_self.2 (fun y hy => ?_)
    simp only [Bool.not_eq_true',beq_eq_false_iff_ne]
    intro e
    exact hn'.1 (by show x.born ∈ _;rw [← e];exact List.mem_map.2 ⟨y,hy,rfl⟩)
  | x :: L,j + 1,hj,hn => by
    have hn' := List.nodup_cons.1 hn
    have hj' : j < L.length := by simpa using hj
    simp only [List.getElem_cons_succ,List.take_succ_cons,List.drop_succ_cons,List.cons_append]
    rw [List.filter_cons,if_pos,filter_one L j hj' hn'.2]
    simp only [Bool.not_eq_true',beq_eq_false_iff_ne]
    intro e
    exact hn'.1 (by show x.born ∈ _;rw [e];exact List.mem_map.2 ⟨_,List.getElem_mem hj',rfl⟩)
theorem run_next_is (h : Ranging w r b enc m left) (ty : TypeId) :
    (left = [] ∧ (Instr.next (.pointer (some ⟨r,0,none⟩)) false ty).run P w = .ok (.tuple #[.bool false]) w) ∨
    ∃ k v l1 l2 w',left = l1 ++ (k,v) :: l2 ∧ (Instr.next (.pointer (some ⟨r,0,none⟩)) false ty).run P w = .ok (.tuple #[.bool true,enc k,v]) w' ∧ Ranging w' r b enc m (l1 ++ l2) ∧ w.grownBy w' (some r) ∧ w'.heap.size = w.heap.size ∧
      (Instr.entry (.pointer (some ⟨r,0,none⟩))).run P w' = .ok (.tuple #[enc k,v]) w' := by
  obtain ⟨es,clock,since,seen,c0,hb,hT,hbn,hold,hsc,hsk,hr,hL⟩ := h
  have hrb : r ≠ b := by
    rintro rfl
    rw [hb] at hr
    cases hr
  have hrun0 : (Instr.next (.pointer (some ⟨r,0,none⟩)) false ty) = (Instr.next (.pointer (some ⟨r,0,none⟩)) false ty) := rfl
  simp only [Instr.next,getObj,Sem.run_bind,Sem.run,hr,hb,Result.andThen,next_test_false seen es since c0 hold hsc,Bool.false_eq_true,if_false]
  have hLl : (Array.filter (fun e => !seen.contains e.born) es).toList = es.toList.filter (fun e => !seen.contains e.born) := by simp
  have hmem : ∀ x ∈ (Array.filter (fun e => !seen.contains e.born) es).toList,x.born < since := fun x hx => hold x (by simp at hx ⊢;exact hx.1)
  have hLn : ((Array.filter (fun e => !seen.contains e.born) es).toList.map (·.born)).Nodup := by
    rw [hLl]
    exact hbn.sublist ((List.filter_sublist).map _)
  have hLs : ∀ x ∈ (Array.filter (fun e => !seen.contains e.born) es).toList,x ∈ es.toList := fun x hx => by
    rw [hLl] at hx
    exact (List.mem_filter.1 hx).1
  rw [← hLl] at hL
  have hnext : ∀ c : Nat,es.toList.filter (fun e => !(seen.push c).contains e.born) = (Array.filter (fun e => !seen.contains e.born) es).toList.filter (fun x => !(x.born == c)) := by
    intro c
    rw [hLl,List.filter_filter]
    refine List.filter_congr (fun x _ => ?_)
    simp [Bool.and_comm]
    rfl
  generalize Array.filter (fun e => !seen.contains e.born) es = L at hmem hLn hLs hL hnext ⊢
  have e1 : L.filter (fun x => decide (x.born < since)) = L := Array.filter_eq_self.2 (fun x hx => by simpa using hmem x (by simpa using hx))
  have e2 : L.filter (fun x => decide (x.born ≥ since)) = #[] := by
    rw [Array.filter_eq_empty_iff]
    intro x hx
    have := hmem x (by simpa using hx)
    simp
    omega
  simp only [e1,e2,Array.append_empty]
  have hlen := Tells.length hL
  by_cases h0 : L.size = 0
  · left
    have : L = #[] := Array.eq_empty_of_size_eq_zero h0
    subst this
    refine ⟨List.eq_nil_of_length_eq_zero (by simpa using hlen.symm),?_⟩
    simp [choose,Sem.run,Question.forced]
  right
  have hne : L.isEmpty = false := by simp [Array.isEmpty,h0]
  simp only [hne,Bool.false_eq_true,if_false,Array.empty_append,Array.size_map]
  have hch : ∃ (j : Nat) (w1 : World),j < L.size ∧ w1.heap = w.heap ∧ w.grownBy w1 none ∧ (choose (Question.mapNext L.size)).run P w = .ok j w1 := by
    by_cases hf : L.size ≤ 1
    · exact ⟨0,w,by omega,rfl,⟨rfl,rfl,rfl,Nat.le_refl _,fun _ _ _ => rfl⟩,by simp [choose,Sem.run,Question.forced,hf]⟩
    exact ⟨_,w.drew,Nat.mod_lt _ (by omega),rfl,⟨rfl,rfl,rfl,Nat.le_refl _,fun _ _ _ => rfl⟩,by
      simp only [choose,Sem.run,Question.forced,decide_eq_true_eq,hf,if_false,Question.cut]
      rfl⟩
  obtain ⟨j,w1,hj,hal,hg1,hrun⟩ := hch
  have hjl : j < L.toList.length := by simpa using hj
  have hjl2 : j < left.length := by rw [← hlen];exact hjl
  have hkv : (L[j]).key = enc (left[j]).1 ∧ (L[j]).val = (left[j]).2 := by
    have h3 := congrArg (fun l => l[j]?) hL
    simp only [List.getElem?_map,List.getElem?_eq_getElem hjl,List.getElem?_eq_getElem hjl2,Option.map_some,Option.some.injEq,Prod.mk.injEq] at h3
    simpa using h3
  have hr1 : w1.heap[r]? = some (.mapIter (some b) since seen c0) := by rw [hal];exact hr
  have hset : (setObj r (.mapIter (some b) since (seen.push (L[j]).born) clock)).run P w1 = .ok () { w1 with heap := w1.heap.setIfInBounds r (.mapIter (some b) since (seen.push (L[j]).born) clock) } := by
    simp [setObj,Sem.run,hr1]
  have hb2 : ({ w1 with heap := w1.heap.setIfInBounds r (.mapIter (some b) since (seen.push (L[j]).born) clock) } : World).heap[b]? = some (.map es clock) := by
    show (w1.heap.setIfInBounds r _)[b]? = _
    rw [Array.getElem?_setIfInBounds,if_neg hrb,hal]
    exact hb
  have hr2 : ({ w1 with heap := w1.heap.setIfInBounds r (.mapIter (some b) since (seen.push (L[j]).born) clock) } : World).heap[r]? = some (.mapIter (some b) since (seen.push (L[j]).born) clock) := by
    show (w1.heap.setIfInBounds r _)[r]? = _
    rw [Array.getElem?_setIfInBounds,if_pos rfl,if_pos (Array.getElem?_eq_some_iff.1 hr1).1]
  refine ⟨(left[j]).1,(left[j]).2,left.take j,left.drop (j + 1),{ w1 with heap := w1.heap.setIfInBounds r (.mapIter (some b) since (seen.push (L[j]).born) clock) },?_,?_,⟨es,clock,since,seen.push (L[j]).born,clock,hb2,hT,hbn,hold,hsk,hsk,hr2,?_⟩,?_,by simp [hal],?_⟩
  · show left = left.take j ++ left[j] :: left.drop (j + 1)
    simp
  · simp only [hrun,Array.getElem?_map,Array.getElem?_eq_getElem hj,Option.map_some,Sem.run_bind,hset,Result.andThen,hkv.1,hkv.2]
    rfl
  · rw [hnext]
    have h5 := filter_one L.toList j hjl hLn
    rw [show (L.toList[j]) = L[j] from by simp] at h5
    rw [h5]
    unfold Tells
    rw [List.map_append,List.map_append,List.map_take,List.map_drop,List.map_take,List.map_drop]
    rw [show List.map (fun e => (e.key,e.val)) L.toList = _ from hL]
  · refine ⟨hg1.os,hg1.tape,hg1.output,by simp [hal],fun i hi hne => ?_⟩
    show (w1.heap.setIfInBounds r _)[i]? = _
    rw [Array.getElem?_setIfInBounds,if_neg (fun e => hne (by rw [e])),hal]
  have hf : es.find? (·.born == (L[j]).born) = some L[j] := by
    rw [← Array.find?_toList]
    exact find_born L[j] es.toList hbn (hLs _ (by simp))
  simp only [Instr.entry,getObj,Sem.run_bind,Sem.run,hr2,hb2,Result.andThen,Array.back?_push,bne_self_eq_false,Bool.false_eq_true,if_false,hf,hkv.1,hkv.2]
  rfl
theorem Ranging.grown {w' : World} {row : Option Nat} (h : Ranging w r b enc m left) (hg : w.grownBy w' row) (h1 : some b ≠ row) (h2 : some r ≠ row) : Ranging w' r b enc m left := by
  obtain ⟨es,clock,since,seen,c0,hb,hT,hbn,hold,hsc,hsk,hr,hL⟩ := h
  exact ⟨es,clock,since,seen,c0,(hg.block b (Array.getElem?_eq_some_iff.1 hb).1 h1).trans hb,hT,hbn,hold,hsc,hsk,(hg.block r (Array.getElem?_eq_some_iff.1 hr).1 h2).trans hr,hL⟩
theorem Ranging.below {w' : World} (h : Ranging w r b enc m left) (hb : Below w.heap.size w w') : Ranging w' r b enc m left := h.grown (grown_of_below hb none) (by simp) (by simp)
theorem Ranging.lt (h : Ranging w r b enc m left) : r < w.heap.size := by
  obtain ⟨es,clock,since,seen,c0,hb,hT,hbn,hold,hsc,hsk,hr,hL⟩ := h
  exact (Array.getElem?_eq_some_iff.1 hr).1
end
section
variable {κ : Type} [DecidableEq κ] {P : Program} {kt : TypeId} {d : TypeDesc} {enc : κ → Value} {ops : Array Oper} {rest : List Oper} {o : Oper} {a : Act} {Q : Exit → Act → World → Prop} {W : World} {b r t et : Nat} {mm left : List (κ × Value)}
theorem wp_range (hg : o.guard = none) (m : Operand) (t kt et : Nat) (ho : o.op = .range t m) (ht : P.underlying t = some (.map kt et)) (hm : a.eval m = .map (some b)) (h : IsMap W b enc mm)
    (hK : ∀ w',Ranging w' W.heap.size b enc mm mm → Below W.heap.size W w' → W.heap.size < w'.heap.size → wpList P ops Q rest (a.put o.dst (.pointer (some ⟨W.heap.size,0,none⟩))) w') : wpList P ops Q (o :: rest) a W := by
  obtain ⟨ob,hr,hR⟩ := run_range_is ht h
  refine wpList_plain hg fun K' hK' => ?_
  unfold Oper.wp
  simp [execOp,ho,hm,hr,Result.andThen]
  exact hK' _ _ (hK _ hR (below_alloc (Below.refl _ _) _) (by simp))
theorem wp_next (hg : o.guard = none) (it : Operand) (ho : o.op = .next it false) (hit : a.eval it = .pointer (some ⟨r,0,none⟩)) (h : Ranging W r b enc mm left)
    (hDone : left = [] → wpList P ops Q rest (a.put o.dst (.tuple #[.bool false])) W)
    (hMore : ∀ k v l1 l2 w',left = l1 ++ (k,v) :: l2 → Ranging w' r b enc mm (l1 ++ l2) → W.grownBy w' (some r) → w'.heap.size = W.heap.size → (Instr.entry (.pointer (some ⟨r,0,none⟩))).run P w' = .ok (.tuple #[enc k,v]) w' → wpList P ops Q rest (a.put o.dst (.tuple #[.bool true,enc k,v])) w') :
    wpList P ops Q (o :: rest) a W := by
  refine wpList_plain hg fun K' hK' => ?_
  unfold Oper.wp
  rcases run_next_is (P := P) h o.type with ⟨h0,hr⟩ | ⟨k,v,l1,l2,w',h1,hr,h2,h3,h4,h5⟩
  · simp [execOp,ho,hit,hr,Result.andThen]
    exact hK' _ _ (hDone h0)
  simp [execOp,ho,hit,hr,Result.andThen]
  exact hK' _ _ (hMore k v l1 l2 w' h1 h2 h3 h4 h5)
end
end Go.Proofs.YtjcnmpkaiopihaaW.PrintWords
