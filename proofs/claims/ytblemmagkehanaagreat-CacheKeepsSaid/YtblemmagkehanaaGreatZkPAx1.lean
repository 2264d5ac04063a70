/- A range over a map in memory, a deletion, a clearing and its length, over the list of its keys and values. No condition but those that each theorem names. -/
import Derived.Test.YtblemmagkehanaaGreatZkMp
import Derived.Maps.RangeWalk
import Derived.Test.YtblemmagkehanaaGreatZkPAx0
namespace Go.Proofs.YtblemmagkehanaaGreatW.PrintWords
open Go.RowKit Go.MapKept
set_option linter.unusedVariables false
set_option linter.unusedSimpArgs false
set_option linter.unusedSectionVars false
section
variable {κ : Type} [DecidableEq κ] {P : Program} {kt : TypeId} {d : TypeDesc} {enc : κ → Value}
def Ranging (w : World) (r b : Nat) (enc : κ → Value) (m left : List (κ × Value)) : Prop :=
  ∃ es clock since seen c0,w.heap[b]? = some (.map es clock) ∧ Tells enc es.toList m ∧ (es.toList.map (·.born)).Nodup ∧ (∀ e ∈ es.toList,e.born < since) ∧ since ≤ c0 ∧ since ≤ clock ∧
    w.heap[r]? = some (.mapIter (some b) since seen c0) ∧ Tells enc (es.toList.filter fun e => !seen.contains e.born) left
variable {w : World} {b r t et : Nat} {m left : List (κ × Value)}
theorem Ranging.grown {w' : World} {row : Option Nat} (h : Ranging w r b enc m left) (hg : w.grownBy w' row) (h1 : some b ≠ row) (h2 : some r ≠ row) : Ranging w' r b enc m left := by
  obtain ⟨es,clock,since,seen,c0,hb,hT,hbn,hold,hsc,hsk,hr,hL⟩ := h;exact ⟨es,clock,since,seen,c0,(hg.block b (Array.getElem?_eq_some_iff.1 hb).1 h1).trans hb,hT,hbn,hold,hsc,hsk,(hg.block r (Array.getElem?_eq_some_iff.1 hr).1 h2).trans hr,hL⟩
theorem Ranging.below {w' : World} (h : Ranging w r b enc m left) (hb : Below w.heap.size w w') : Ranging w' r b enc m left := h.grown (grown_of_below hb none) (by simp) (by simp)
theorem Ranging.lt (h : Ranging w r b enc m left) : r < w.heap.size := by
  obtain ⟨es,clock,since,seen,c0,hb,hT,hbn,hold,hsc,hsk,hr,hL⟩ := h;exact (Array.getElem?_eq_some_iff.1 hr).1
theorem run_len_is (ht : P.underlying t = some (.map kt et)) (h : IsMap w b enc m) (ty : TypeId) : (Builtin.len_ #[t] ty #[.map (some b)]).run P w = .ok (goInt m.length) w := by
  obtain ⟨es,clock,hb,hT,hnd,hlt,hbn⟩ := h;have hl := Tells.length hT
  simp [Builtin.len_,run_underlying ht,getObj,Sem.run,hb,Result.andThen]
  rw [← hl]
  simp
theorem map_erase {α β : Type} (f : α → β) : ∀ (l : List α) (i : Nat),(l.eraseIdx i).map f = (l.map f).eraseIdx i
  | [],_ => by simp
  | x :: l,0 => by simp
  | x :: l,i + 1 => by simp [map_erase f l i]
theorem run_del (K : KeyEnc P kt d enc) (ht : P.underlying t = some (.map kt et)) (h : IsMap w b enc m) (k : κ) (ty : TypeId) :
    ∃ w',(Builtin.delete_ #[t,kt] ty #[.map (some b),enc k]).run P w = .ok (.tuple #[]) w' ∧ IsMap w' b enc (mdel m k) ∧ w.grownBy w' (some b) ∧ w'.heap.size = w.heap.size := by
  obtain ⟨es,clock,hb,hT,hnd,hlt,hbn⟩ := h;have hg : (getObj b).run P w = .ok (.map es clock) w := by simp [getObj,Sem.run,hb]
  have hs : ∀ o,(setObj b o).run P w = .ok () { w with heap := w.heap.setIfInBounds b o } := fun o => by simp [setObj,Sem.run,hb]
  unfold Builtin.delete_;simp only [List.getElem?_toArray,List.getElem?_cons_zero,List.getElem?_cons_succ,Sem.run_bind,run_underlying ht,Result.andThen,hg,Sem.run_pure,run_checkKey K.under (K.key k),run_findKey K.under (findNow_tells K k 0 hT)];have hl := hT.length
  cases e : mfind k m 0 with
  | none =>
    refine ⟨{ w with heap := w.heap.setIfInBounds b (.map es clock) },by simp [hs],⟨es,clock,(heap_set hb).1,?_,mdel_keys_nodup hnd k,hlt,hbn⟩,set_grown hb _,by simp⟩;unfold mdel;rw [e];exact hT
  | some x =>
    obtain ⟨i,u⟩ := x;refine ⟨{ w with heap := w.heap.setIfInBounds b (.map (es.eraseIdxIfInBounds i) clock) },by simp [hs],⟨es.eraseIdxIfInBounds i,clock,(heap_set hb).1,?_,mdel_keys_nodup hnd k,?_,?_⟩,set_grown hb _,by simp⟩
    · unfold mdel Tells
      rw [e]
      show List.map _ (es.eraseIdxIfInBounds i).toList = List.map _ (m.eraseIdx i)
      rw [Array.toList_eraseIdxIfInBounds]
      show List.map _ (es.toList.eraseIdx i) = _
      rw [map_erase,map_erase];rw [show List.map (fun e => (e.key,e.val)) es.toList = _ from hT]
    · intro x hx
      rw [Array.toList_eraseIdxIfInBounds] at hx;exact hlt x (List.mem_of_mem_eraseIdx hx)
    rw [Array.toList_eraseIdxIfInBounds];exact hbn.sublist ((List.eraseIdx_sublist _ _).map _)
end
section
variable {κ : Type} [DecidableEq κ] {P : Program} {kt : TypeId} {d : TypeDesc} {enc : κ → Value} {ops : Array Oper} {rest : List Oper} {o : Oper} {a : Act} {Q : Exit → Act → World → Prop} {W : World} {b r t et : Nat} {mm left : List (κ × Value)}
theorem wp_del (hg : o.guard = none) (m x : Operand) (t kt et : Nat) (ho : o.op = .call { callee := .builtin .delete,args := #[m,x],argTypes := #[t,kt] }) (K : KeyEnc P kt d enc) (ht : P.underlying t = some (.map kt et)) (hm : a.eval m = .map (some b)) (k : κ) (hx : a.eval x = enc k) (h : IsMap W b enc mm)
    (hK : ∀ w',IsMap w' b enc (mdel mm k) → W.grownBy w' (some b) → w'.heap.size = W.heap.size → wpList P ops Q rest (a.put o.dst (.tuple #[])) w') : wpList P ops Q (o :: rest) a W := by
  obtain ⟨w',hr,h1,h2,h3⟩ := run_del K ht h k o.type;refine wpList_plain hg fun K' hK' => ?_
  unfold Oper.wp
  simp [execOp,ho,resolve,invoke,builtin,hm,hx,hr,Result.andThen]
  exact hK' _ _ (hK w' h1 h2 h3)
theorem wp_lenW (hw : Region.wanted o (yielded ops a.tmps) = true) (m : Operand) (t kt et : Nat) (ho : o.op = .call { callee := .builtin .len,args := #[m],argTypes := #[t] }) (ht : P.underlying t = some (.map kt et)) (hm : a.eval m = .map (some b)) (h : IsMap W b enc mm)
    (hK : wpList P ops Q rest (a.put o.dst (.int .i64 (mm.length : Int))) W) : wpList P ops Q (o :: rest) a W := by
  have hr := run_len_is (P := P) ht h o.type;refine wpList_step fun K' hK' => ?_
  simp only [hw,if_true];unfold Oper.wp
  simp [execOp,ho,resolve,invoke,builtin,hm,hr,Result.andThen]
  exact hK' _ _ hK
end
end Go.Proofs.YtblemmagkehanaaGreatW.PrintWords
namespace Go.Proofs.YtblemmagkehanaaGreat.PA
open Go.RowKit Go.Proofs.YtblemmagkehanaaGreatW.PrintWords Go.Proofs.YtblemmagkehanaaGreatW.PrintLast Go.Proofs.YtblemmagkehanaaGreatW.PrintMore
attribute [local go_sem] max2_int min2_int max_two min_two max_three min_three max_four min_four
set_option linter.unusedVariables false
set_option linter.unusedSimpArgs false
theorem eqA103 (d:Nat) (w:World) (x0 y0:Int) (x1 y1:Int) (x2 y2:Int) (x3 y3:Int) (x4 y4:Int) (x5 y5:Int) (x6 y6:Int) (x7 y7:Int) (x8 y8:ByteArray) (x9 y9:Int) (x10 y10:Int) (x11 y11:ByteArray) :
  (Op.equalIn (d + 2) 103 (.agg #[.int .i64 x0,.int .i64 x1,.int .i64 x2,.int .i64 x3,.int .i64 x4,.int .i64 x5,.int .u64 x6,.int .i64 x7,.string x8,.int .i64 x9,.int .i64 x10,.string x11]) (.agg #[.int .i64 y0,.int .i64 y1,.int .i64 y2,.int .i64 y3,.int .i64 y4,.int .i64 y5,.int .u64 y6,.int .i64 y7,.string y8,.int .i64 y9,.int .i64 y10,.string y11])).run Tryz.prog w = .ok (x0 == y0 && (x1 == y1 && (x2 == y2 && (x3 == y3 && (x4 == y4 && (x5 == y5 && (x6 == y6 && (x7 == y7 && (x8.toList == y8.toList && (x9 == y9 && (x10 == y10 && (x11.toList == y11.toList)))))))))))) w:=by
 refine eqA_of Tryz.underlying103 (by kernel_rfl) ?_;refine eqf_cons (by rfl) (by go_simp;rfl) (by go_simp;rfl) (by go_simp) ?_;refine eqf_cons (by rfl) (by go_simp;rfl) (by go_simp;rfl) (by go_simp) ?_;refine eqf_cons (by rfl) (by go_simp;rfl) (by go_simp;rfl) (by go_simp) ?_;refine eqf_cons (by rfl) (by go_simp;rfl) (by go_simp;rfl) (by go_simp) ?_;refine eqf_cons (by rfl) (by go_simp;rfl) (by go_simp;rfl) (by go_simp) ?_;refine eqf_cons (by rfl) (by go_simp;rfl) (by go_simp;rfl) (by go_simp) ?_;refine eqf_cons (by rfl) (by go_simp;rfl) (by go_simp;rfl) (by go_simp) ?_;refine eqf_cons (by rfl) (by go_simp;rfl) (by go_simp;rfl) (by go_simp) ?_;refine eqf_cons (by rfl) (by go_simp;rfl) (by go_simp;rfl) (by go_simp) ?_;refine eqf_cons (by rfl) (by go_simp;rfl) (by go_simp;rfl) (by go_simp) ?_;refine eqf_cons (by rfl) (by go_simp;rfl) (by go_simp;rfl) (by go_simp) ?_;exact eqf_last (by rfl) (by go_simp;rfl) (by go_simp;rfl) (by go_simp)
end Go.Proofs.YtblemmagkehanaaGreat.PA
