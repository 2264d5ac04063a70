/- Printed out of the program's form. Conditions: those that each theorem names. -/
import Derived.Test.YtblemmagkehanaaGreatZxPAx0
import Derived.Test.YtblemmagkehanaaGreatZxPAx2
import Derived.Test.YtblemmagkehanaaGreatZxPAx14
import Derived.Test.YtblemmagkehanaaGreatZxPAx19
import Derived.Test.YtblemmagkehanaaGreatZxMp
import Derived.Maps.RangeWalk
namespace Go.Proofs.YtblemmagkehanaaGreat.PA
open Go.RowKit Go.Proofs.YtblemmagkehanaaGreatW.PrintWords Go.Proofs.YtblemmagkehanaaGreatW.PrintLast Go.Proofs.YtblemmagkehanaaGreatW.PrintMore
attribute [local go_sem] max2_int min2_int max_two min_two max_three min_three max_four min_four
set_option linter.unusedVariables false
set_option linter.unusedSimpArgs false
def metric_quarter.f (a0:Nat):Option (Bool):=(floatBits .mul .f64 a0 4616189618054758400).bind fun t411 => ((math_Trunc.f t411).bind fun t412 => (some (FloatKind.f64.format.order t411 t412 == some .eq)))
set_option maxHeartbeats 8000000 in
set_option maxRecDepth 100000 in
theorem metric_quarter.calls (a0:Nat) (r:Bool) (w:World) (h:metric_quarter.f a0 = some r) :
  Calls Tryz.prog 90 #[.float .f64 a0] w fun e w' => e = .returned (.bool r) ∧ Drawn0 w w':=by
 have H:((floatBits .mul .f64 a0 4616189618054758400).bind fun t411 => ((math_Trunc.f t411).bind fun t412 => (some (FloatKind.f64.format.order t411 t412 == some .eq)))) = some r:=h;clear h;replace H:=Option.bind_eq_some_iff.mp H;obtain ⟨t411,A20,H⟩:=H;replace H:((math_Trunc.f t411).bind fun t412 => (some (FloatKind.f64.format.order t411 t412 == some .eq))) = some r:=H;have A2f:∀ W_:World,(binOp .mul 28 (.float .f64 a0) (.float .f64 4616189618054758400)).run Tryz.prog W_ = .ok (.float .f64 t411) W_:=fun W_ => run_float_arith W_ .mul 28 .f64 _ _ _ A20
 have A2:=Aside0.mk A20;clear A20;replace H:=Option.bind_eq_some_iff.mp H;obtain ⟨t412,A30,H⟩:=H;replace H:(some (FloatKind.f64.format.order t411 t412 == some .eq)) = some r:=H;have A3:=Aside0.mk A30;clear A30;obtain rfl:=Option.some.inj H;go_enter Tryz.func90,Tryz.ntmps90
 go_wp2_with (first | ((with_reducible refine gate_callee (f:=101) rfl ?_);refine goesL_ (some 8) rfl rfl Tryz.func101 (by kernel_rfl) rfl #[.float .f64 t411] rfl (by (try simp only [List.map_toArray,List.map_cons,List.map_nil]);first | done | rfl | (simp only [List.length_drop,List.length_take];rfl)) ?_;(with_reducible refine (math_Trunc.calls t411 t412 _ A3.out).mono ?_);rintro e w' ⟨rfl,⟨nd,rfl⟩⟩;refine ⟨_,rfl,?_⟩))
 go_ret;exact ⟨by first | rfl | (simp;done) | (simp [*];done),by repeat (first | exact Drawn0.refl _ | apply Drawn0.step)⟩
end Go.Proofs.YtblemmagkehanaaGreat.PA
namespace Go.Proofs.YtblemmagkehanaaGreatW.PrintWords
open Go.RowKit Go.MapKept
set_option linter.unusedVariables false
set_option linter.unusedSimpArgs false
set_option linter.unusedSectionVars false
section
variable {κ : Type} [DecidableEq κ] {P : Program} {kt : TypeId} {d : TypeDesc} {enc : κ → Value}
def Ranging (w : World) (r b : Nat) (enc : κ → Value) (m left : List (κ × Value)) : Prop :=
  ∃ es clock since seen c0,w.heap[b]? = some (.map es clock) ∧ Tells enc es.toList m ∧ (es.toList.map (·.born)).Nodup ∧ (∀ e ∈ es.toList,e.born < since) ∧ since ≤ c0 ∧ since ≤ clock ∧
    w.heap[r]? = some (.mapIter (some b) since seen c0) ∧ Tells enc (es.toList.filter fun e => !seen.contains e.born) left
variable {w : World} {b r t et : Nat} {m left : List (κ × Value)}
theorem Ranging.grown {w' : World} {row : Option Nat} (h : Ranging w r b enc m left) (hg : w.grownBy w' row) (h1 : some b ≠ row) (h2 : some r ≠ row) : Ranging w' r b enc m left := by
  obtain ⟨es,clock,since,seen,c0,hb,hT,hbn,hold,hsc,hsk,hr,hL⟩ := h;exact ⟨es,clock,since,seen,c0,(hg.block b (Array.getElem?_eq_some_iff.1 hb).1 h1).trans hb,hT,hbn,hold,hsc,hsk,(hg.block r (Array.getElem?_eq_some_iff.1 hr).1 h2).trans hr,hL⟩
theorem Ranging.below {w' : World} (h : Ranging w r b enc m left) (hb : Below w.heap.size w w') : Ranging w' r b enc m left := h.grown (grown_of_below hb none) (by simp) (by simp)
theorem Ranging.lt (h : Ranging w r b enc m left) : r < w.heap.size := by
  obtain ⟨es,clock,since,seen,c0,hb,hT,hbn,hold,hsc,hsk,hr,hL⟩ := h;exact (Array.getElem?_eq_some_iff.1 hr).1
theorem run_len_is (ht : P.underlying t = some (.map kt et)) (h : IsMap w b enc m) (ty : TypeId) : (Builtin.len_ #[t] ty #[.map (some b)]).run P w = .ok (goInt m.length) w := by
  obtain ⟨es,clock,hb,hT,hnd,hlt,hbn⟩ := h;have hl := Tells.length hT
  simp [Builtin.len_,run_underlying ht,getObj,Sem.run,hb,Result.andThen]
  rw [← hl]
  simp
theorem map_erase {α β : Type} (f : α → β) : ∀ (l : List α) (i : Nat),(l.eraseIdx i).map f = (l.map f).eraseIdx i
  | [],_ => by simp
  | x :: l,0 => by simp
  | x :: l,i + 1 => by simp [map_erase f l i]
theorem run_del (K : KeyEnc P kt d enc) (ht : P.underlying t = some (.map kt et)) (h : IsMap w b enc m) (k : κ) (ty : TypeId) :
    ∃ w',(Builtin.delete_ #[t,kt] ty #[.map (some b),enc k]).run P w = .ok (.tuple #[]) w' ∧ IsMap w' b enc (mdel m k) ∧ w.grownBy w' (some b) ∧ w'.heap.size = w.heap.size := by
  obtain ⟨es,clock,hb,hT,hnd,hlt,hbn⟩ := h;have hg : (getObj b).run P w = .ok (.map es clock) w := by simp [getObj,Sem.run,hb]
  have hs : ∀ o,(setObj b o).run P w = .ok () { w with heap := w.heap.setIfInBounds b o } := fun o => by simp [setObj,Sem.run,hb]
  unfold Builtin.delete_;simp only [List.getElem?_toArray,List.getElem?_cons_zero,List.getElem?_cons_succ,Sem.run_bind,run_underlying ht,Result.andThen,hg,Sem.run_pure,run_checkKey K.under (K.key k),run_findKey K.under (findNow_tells K k 0 hT)];have hl := hT.length
  cases e : mfind k m 0 with
  | none =>
    refine ⟨{ w with heap := w.heap.setIfInBounds b (.map es clock) },by simp [hs],⟨es,clock,(heap_set hb).1,?_,mdel_keys_nodup hnd k,hlt,hbn⟩,set_grown hb _,by simp⟩;unfold mdel;rw [e];exact hT
  | some x =>
    obtain ⟨i,u⟩ := x;refine ⟨{ w with heap := w.heap.setIfInBounds b (.map (es.eraseIdxIfInBounds i) clock) },by simp [hs],⟨es.eraseIdxIfInBounds i,clock,(heap_set hb).1,?_,mdel_keys_nodup hnd k,?_,?_⟩,set_grown hb _,by simp⟩
    · unfold mdel Tells
      rw [e]
      show List.map _ (es.eraseIdxIfInBounds i).toList = List.map _ (m.eraseIdx i)
      rw [Array.toList_eraseIdxIfInBounds]
      show List.map _ (es.toList.eraseIdx i) = _
      rw [map_erase,map_erase];rw [show List.map (fun e => (e.key,e.val)) es.toList = _ from hT]
    · intro x hx
      rw [Array.toList_eraseIdxIfInBounds] at hx;exact hlt x (List.mem_of_mem_eraseIdx hx)
    rw [Array.toList_eraseIdxIfInBounds];exact hbn.sublist ((List.eraseIdx_sublist _ _).map _)
end
section
variable {κ : Type} [DecidableEq κ] {P : Program} {kt : TypeId} {d : TypeDesc} {enc : κ → Value} {ops : Array Oper} {rest : List Oper} {o : Oper} {a : Act} {Q : Exit → Act → World → Prop} {W : World} {b r t et : Nat} {mm left : List (κ × Value)}
theorem wp_del (hg : o.guard = none) (m x : Operand) (t kt et : Nat) (ho : o.op = .call { callee := .builtin .delete,args := #[m,x],argTypes := #[t,kt] }) (K : KeyEnc P kt d enc) (ht : P.underlying t = some (.map kt et)) (hm : a.eval m = .map (some b)) (k : κ) (hx : a.eval x = enc k) (h : IsMap W b enc mm)
    (hK : ∀ w',IsMap w' b enc (mdel mm k) → W.grownBy w' (some b) → w'.heap.size = W.heap.size → wpList P ops Q rest (a.put o.dst (.tuple #[])) w') : wpList P ops Q (o :: rest) a W := by
  obtain ⟨w',hr,h1,h2,h3⟩ := run_del K ht h k o.type;refine wpList_plain hg fun K' hK' => ?_
  unfold Oper.wp
  simp [execOp,ho,resolve,invoke,builtin,hm,hx,hr,Result.andThen]
  exact hK' _ _ (hK w' h1 h2 h3)
theorem wp_lenW (hw : Region.wanted o (yielded ops a.tmps) = true) (m : Operand) (t kt et : Nat) (ho : o.op = .call { callee := .builtin .len,args := #[m],argTypes := #[t] }) (ht : P.underlying t = some (.map kt et)) (hm : a.eval m = .map (some b)) (h : IsMap W b enc mm)
    (hK : wpList P ops Q rest (a.put o.dst (.int .i64 (mm.length : Int))) W) : wpList P ops Q (o :: rest) a W := by
  have hr := run_len_is (P := P) ht h o.type;refine wpList_step fun K' hK' => ?_
  simp only [hw,if_true];unfold Oper.wp
  simp [execOp,ho,resolve,invoke,builtin,hm,hr,Result.andThen]
  exact hK' _ _ hK
end
end Go.Proofs.YtblemmagkehanaaGreatW.PrintWords
