/- A map in memory, told as the list of its keys and values in the order in which they came: what a look, a store, a deletion, a clearing, its length and one step of a range do. Keys: whole numbers of 64 bits, or strings. No other condition but those that each theorem names. -/
import Derived.Test.YtblemmagkehanaaGreatZkW
import Derived.MapKept
import Derived.Carry
import Derived.Maps.OwnOps
namespace Go.Proofs.YtblemmagkehanaaGreatW.PrintWords
open Go.RowKit Go.MapKept
set_option linter.unusedVariables false
set_option linter.unusedSimpArgs false
set_option linter.unusedSectionVars false
section
variable {κ : Type} [DecidableEq κ]
def mfind (k : κ) : List (κ × Value) → Nat → Option (Nat × Value)
  | [],_ => none
  | p :: r,i => if k = p.1 then some (i,p.2) else mfind k r (i + 1)
def mget (m : List (κ × Value)) (k : κ) : Option Value := (mfind k m 0).map (·.2)
def mput (m : List (κ × Value)) (k : κ) (v : Value) : List (κ × Value) :=
  match mfind k m 0 with
  | some (i,_) => m.set i (k,v)
  | none => m ++ [(k,v)]
def mdel (m : List (κ × Value)) (k : κ) : List (κ × Value) :=
  match mfind k m 0 with
  | some (i,_) => m.eraseIdx i
  | none => m
structure KeyEnc (P : Program) (kt : TypeId) (d : TypeDesc) (enc : κ → Value) : Prop where
  under : P.underlying kt = some d
  key : ∀ k,IsKey d (enc k)
  same : ∀ a b,Instr.sameNow d (enc a) (enc b) = some (decide (a = b))
  bits : ∀ a,Instr.sameBits 10000 (enc a) (enc a) = true
def Tells (enc : κ → Value) (es : List MapEntry) (m : List (κ × Value)) : Prop := es.map (fun e => (e.key,e.val)) = m.map (fun p => (enc p.1,p.2))
def IsMap (w : World) (b : Nat) (enc : κ → Value) (m : List (κ × Value)) : Prop :=
  ∃ es clock,w.heap[b]? = some (.map es clock) ∧ Tells enc es.toList m ∧ (m.map (·.1)).Nodup ∧ (∀ e ∈ es.toList,e.born < clock) ∧ (es.toList.map (·.born)).Nodup
variable {P : Program} {kt : TypeId} {d : TypeDesc} {enc : κ → Value}
theorem mfind_get {k : κ} : ∀ {m : List (κ × Value)} {i j : Nat} {v : Value},mfind k m i = some (j,v) → i ≤ j ∧ m[j - i]? = some (k,v)
  | p :: r,i,j,v,h => by
    unfold mfind at h
    split at h
    · rename_i e
      obtain ⟨rfl,rfl⟩ := Prod.mk.inj (Option.some.inj h);subst e
      simp
    obtain ⟨h1,h2⟩ := mfind_get h;refine ⟨by omega,?_⟩;rw [show j - i = (j - (i + 1)) + 1 by omega]
    simpa using h2
  | [],_,_,_,h => by simp [mfind] at h
theorem mfind_none {k : κ} : ∀ {m : List (κ × Value)} {i : Nat},mfind k m i = none ↔ k ∉ m.map (·.1)
  | [],i => by simp [mfind]
  | p :: r,i => by
    unfold mfind
    split
    · rename_i e
      simp [e]
    rename_i e
    rw [mfind_none]
    simp [e]
theorem findNow_tells (K : KeyEnc P kt d enc) (k : κ) : ∀ {es : List MapEntry} {m : List (κ × Value)} (i : Nat),Tells enc es m → Instr.findNow d (enc k) es i = some (mfind k m i)
  | [],[],i,_ => rfl
  | e :: es,p :: m,i,h => by
    simp only [Tells,List.map_cons,List.cons.injEq,Prod.mk.injEq] at h;obtain ⟨⟨hk,hv⟩,hr⟩ := h;unfold Instr.findNow mfind;rw [hk,K.same]
    by_cases e1 : k = p.1
    · simp [e1,hv]
    simp only [e1,decide_false];exact findNow_tells K k (i + 1) hr
  | [],p :: m,i,h => by simp [Tells] at h
  | e :: es,[],i,h => by simp [Tells] at h
theorem Tells.length {es : List MapEntry} {m : List (κ × Value)} (h : Tells enc es m) : es.length = m.length := by
  have := congrArg List.length h
  simpa using this
theorem nodup_set_same {k : κ} {v : Value} : ∀ {m : List (κ × Value)} {i j : Nat} {u : Value},mfind k m i = some (j,u) → (m.set (j - i) (k,v)).map (·.1) = m.map (·.1) := by
  intro m i j u h;obtain ⟨h1,h2⟩ := mfind_get h;rw [List.map_set]
  apply List.ext_getElem?
  intro n;rw [List.getElem?_set]
  split
  · rename_i e
    subst e
    split
    · rw [List.getElem?_map,h2]
      rfl
    rename_i hl
    rw [List.getElem?_eq_none (by omega)]
  rfl
theorem mput_keys_nodup {m : List (κ × Value)} (h : (m.map (·.1)).Nodup) (k : κ) (v : Value) : ((mput m k v).map (·.1)).Nodup := by
  unfold mput
  split
  · rename_i i u e
    have := nodup_set_same (v := v) e;rw [Nat.sub_zero] at this;rw [this];exact h
  rename_i e
  have e2 := mfind_none.1 e;rw [List.map_append,List.nodup_append];refine ⟨h,by simp,?_⟩;intro a ha b hb
  simp at hb
  subst hb;rintro rfl;exact e2 ha
theorem mdel_keys_nodup {m : List (κ × Value)} (h : (m.map (·.1)).Nodup) (k : κ) : ((mdel m k).map (·.1)).Nodup := by
  unfold mdel
  split
  · exact List.Nodup.sublist ((List.eraseIdx_sublist _ _).map _) h
  exact h
section
variable {w : World} {b t et : Nat} {m : List (κ × Value)}
theorem isMap_get (h : IsMap w b enc m) : ∃ es clock,w.heap[b]? = some (.map es clock) ∧ Tells enc es.toList m := ⟨_,_,h.choose_spec.choose_spec.1,h.choose_spec.choose_spec.2.1⟩
theorem run_look (K : KeyEnc P kt d enc) (ht : P.underlying t = some (.map kt et)) (h : IsMap w b enc m) (k : κ) (z : Value) (hz : (zeroValue et).run P w = .ok z w) :
    (Instr.lookup t (.map (some b)) (enc k) true).run P w = .ok (.tuple #[(mget m k).getD z,.bool (mget m k).isSome]) w := by
  obtain ⟨es,clock,hb,hT⟩ := isMap_get h;have hg : (getObj b).run P w = .ok (.map es clock) w := by simp [getObj,Sem.run,hb]
  unfold Instr.lookup;simp only [Sem.run_bind,run_underlying ht,Result.andThen,hg,Sem.run_pure,run_checkKey K.under (K.key k),run_findKey K.under (findNow_tells K k 0 hT)];unfold mget
  cases mfind k m 0 with
  | none => simp [hz,Result.andThen]
  | some x => simp [Result.andThen]
theorem run_look1 (K : KeyEnc P kt d enc) (ht : P.underlying t = some (.map kt et)) (h : IsMap w b enc m) (k : κ) (z : Value) (hz : (zeroValue et).run P w = .ok z w) :
    (Instr.lookup t (.map (some b)) (enc k) false).run P w = .ok ((mget m k).getD z) w := by
  obtain ⟨es,clock,hb,hT⟩ := isMap_get h;have hg : (getObj b).run P w = .ok (.map es clock) w := by simp [getObj,Sem.run,hb]
  unfold Instr.lookup;simp only [Sem.run_bind,run_underlying ht,Result.andThen,hg,Sem.run_pure,run_checkKey K.under (K.key k),run_findKey K.under (findNow_tells K k 0 hT)];unfold mget
  cases mfind k m 0 with
  | none => simp [hz,Result.andThen]
  | some x => simp [Result.andThen]
theorem set_grown {o1 : Obj} (hb : w.heap[b]? = some o1) (o2 : Obj) : w.grownBy { w with heap := w.heap.setIfInBounds b o2 } (some b) :=
  ⟨rfl,rfl,rfl,by simp,fun i hi hne => by
    simp only [Array.getElem?_setIfInBounds]
    split
    · rename_i e
      subst e;exact absurd rfl hne
    rfl⟩
theorem run_put (K : KeyEnc P kt d enc) (ht : P.underlying t = some (.map kt et)) (h : IsMap w b enc m) (k : κ) (v : Value) :
    ∃ w',(Instr.mapUpdate t (.map (some b)) (enc k) v).run P w = .ok () w' ∧ IsMap w' b enc (mput m k v) ∧ w.grownBy w' (some b) ∧ w'.heap.size = w.heap.size := by
  obtain ⟨es,clock,hb,hT,hnd,hlt,hbn⟩ := h;have hg : (getObj b).run P w = .ok (.map es clock) w := by simp [getObj,Sem.run,hb]
  have hs : ∀ o,(setObj b o).run P w = .ok () { w with heap := w.heap.setIfInBounds b o } := fun o => by simp [setObj,Sem.run,hb]
  unfold Instr.mapUpdate;simp only [Sem.run_bind,run_underlying ht,Result.andThen,hg,Sem.run_pure,run_checkKey K.under (K.key k),run_findKey K.under (findNow_tells K k 0 hT)]
  cases e : mfind k m 0 with
  | none =>
    refine ⟨{ w with heap := w.heap.setIfInBounds b (.map (es.push ⟨enc k,v,clock⟩) (clock + 1)) },by simp [hs],⟨es.push ⟨enc k,v,clock⟩,clock + 1,(heap_set hb).1,?_,mput_keys_nodup hnd k v,?_,?_⟩,set_grown hb _,by simp⟩
    · unfold Tells mput
      rw [e];simp only [Array.toList_push,List.map_append,List.map_cons,List.map_nil];rw [show List.map (fun e => (e.key,e.val)) es.toList = _ from hT]
    · intro x hx
      rw [Array.toList_push,List.mem_append] at hx
      rcases hx with hx | hx
      · exact Nat.lt_succ_of_lt (hlt x hx)
      simp at hx
      subst hx;exact Nat.lt_succ_self _
    rw [Array.toList_push,List.map_append,List.nodup_append];refine ⟨hbn,by simp,?_⟩;intro a ha c hc
    simp at hc
    subst hc;obtain ⟨x,hx,rfl⟩ := List.mem_map.1 ha;exact Nat.ne_of_lt (hlt x hx)
  | some x =>
    obtain ⟨i,u⟩ := x;obtain ⟨_,h2⟩ := mfind_get e;rw [Nat.sub_zero] at h2;have hl := hT.length;have hi : i < es.toList.length := by
      rw [hl];exact (List.getElem?_eq_some_iff.1 h2).1
    have hi' : i < es.size := by simpa using hi
    have hkey : (es[i]).key = enc k := by
      have h3 := congrArg (fun l => l[i]?) hT;simp only [List.getElem?_map,h2,Option.map_some,List.getElem?_eq_getElem hi,Option.some.injEq,Prod.mk.injEq] at h3
      simpa using h3.1
    refine ⟨{ w with heap := w.heap.setIfInBounds b (.map (es.modify i fun e => { e with key := enc k,val := v }) clock) },?_,⟨es.modify i fun e => { e with key := enc k,val := v },clock,(heap_set hb).1,?_,mput_keys_nodup hnd k v,?_,?_⟩,set_grown hb _,by simp⟩
    · have hst : (Instr.keyThatStays (enc k) (enc k)).run P w = .ok (enc k) w := by
        unfold Instr.keyThatStays;rw [if_pos (K.bits k)];rfl
      simp [Array.getElem?_eq_getElem hi',hkey,hst,hs]
    · unfold Tells mput
      rw [e];simp only [Array.toList_modify]
      apply List.ext_getElem?
      intro n;have h3 := congrArg (fun l => l[n]?) hT;simp only [List.getElem?_map] at h3;simp only [List.getElem?_map,List.getElem?_modify,List.getElem?_set]
      by_cases hn : i = n
      · subst hn
        have hi2 : i < m.length := by omega
        simp [List.getElem?_eq_getElem hi,hi2]
      simp [hn]
      simpa using h3
    · intro x hx
      rw [Array.toList_modify] at hx;obtain ⟨n,hn,rfl⟩ := List.getElem_of_mem hx;rw [List.length_modify] at hn;rw [List.getElem_modify]
      split
      · exact hlt (es.toList[n]'hn) (List.getElem_mem hn)
      exact hlt _ (List.getElem_mem _)
    have : (es.modify i fun e => { e with key := enc k,val := v }).toList.map (·.born) = es.toList.map (·.born) := by
      rw [Array.toList_modify]
      apply List.ext_getElem?
      intro n;simp only [List.getElem?_map,List.getElem?_modify]
      split
      · cases es.toList[n]? <;> rfl
      simp
    rw [this];exact hbn
end
end
section
variable {κ : Type} [DecidableEq κ] {P : Program} {kt : TypeId} {d : TypeDesc} {enc : κ → Value} {ops : Array Oper} {rest : List Oper} {o : Oper} {a : Act} {Q : Exit → Act → World → Prop} {W : World} {b t et : Nat} {mm : List (κ × Value)}
theorem wp_look (hg : o.guard = none) (m x : Operand) (t kt et : Nat) (ho : o.op = .lookup t m x true) (K : KeyEnc P kt d enc) (ht : P.underlying t = some (.map kt et)) (hm : a.eval m = .map (some b)) (k : κ) (hx : a.eval x = enc k) (h : IsMap W b enc mm)
    (z : Value) (hz : (zeroValue et).run P W = .ok z W) (hK : wpList P ops Q rest (a.put o.dst (.tuple #[(mget mm k).getD z,.bool (mget mm k).isSome])) W) : wpList P ops Q (o :: rest) a W := by
  refine Kd.event_run hg ?_ hK;unfold execOp
  simp [ho,hm,hx,run_look K ht h k z hz,Result.andThen]
theorem wp_look1 (hg : o.guard = none) (m x : Operand) (t kt et : Nat) (ho : o.op = .lookup t m x false) (K : KeyEnc P kt d enc) (ht : P.underlying t = some (.map kt et)) (hm : a.eval m = .map (some b)) (k : κ) (hx : a.eval x = enc k) (h : IsMap W b enc mm)
    (z : Value) (hz : (zeroValue et).run P W = .ok z W) (hK : wpList P ops Q rest (a.put o.dst ((mget mm k).getD z)) W) : wpList P ops Q (o :: rest) a W := by
  refine Kd.event_run hg ?_ hK;unfold execOp
  simp [ho,hm,hx,run_look1 K ht h k z hz,Result.andThen]
theorem wp_put (hg : o.guard = none) (m x v : Operand) (t kt et : Nat) (ho : o.op = .mapUpdate t m x v) (K : KeyEnc P kt d enc) (ht : P.underlying t = some (.map kt et)) (hm : a.eval m = .map (some b)) (k : κ) (hx : a.eval x = enc k) (u : Value) (hv : a.eval v = u) (h : IsMap W b enc mm)
    (hK : ∀ w',IsMap w' b enc (mput mm k u) → W.grownBy w' (some b) → w'.heap.size = W.heap.size → wpList P ops Q rest (a.put o.dst undef) w') : wpList P ops Q (o :: rest) a W := by
  obtain ⟨w',hr,h1,h2,h3⟩ := run_put K ht h k u;refine wpList_plain hg fun K' hK' => ?_
  unfold Oper.wp
  simp [execOp,ho,hm,hx,hv,hr,Result.andThen]
  exact hK' _ _ (hK w' h1 h2 h3)
theorem IsMap.grown {w' : World} {row : Option Nat} (h : IsMap W b enc mm) (hg : W.grownBy w' row) (hne : some b ≠ row) : IsMap w' b enc mm := by
  obtain ⟨es,clock,hb,r⟩ := h;exact ⟨es,clock,(hg.block b (Array.getElem?_eq_some_iff.1 hb).1 hne).trans hb,r⟩
theorem IsMap.below {w' : World} (h : IsMap W b enc mm) (hb : Below W.heap.size W w') : IsMap w' b enc mm := h.grown (grown_of_below hb none) (by simp)
theorem IsMap.lt (h : IsMap W b enc mm) : b < W.heap.size := by
  obtain ⟨es,clock,hb,r⟩ := h;exact (Array.getElem?_eq_some_iff.1 hb).1
theorem IsMap.alloc (h : IsMap W b enc mm) (o : Obj) : IsMap (W.alloc o) b enc mm := h.below (below_alloc (Below.refl _ _) o)
theorem IsMap.setCell (h : IsMap W b enc mm) {p : Addr} (hp : p.block ≠ b) (v : Value) : IsMap (W.setCell p v) b enc mm := by
  obtain ⟨es,clock,hb,r⟩ := h;exact ⟨es,clock,(Below.heap_setCell W p v b (Ne.symm hp)).trans hb,r⟩
end
theorem al_new (w : World) (o : Obj) : (w.alloc o).heap[w.heap.size]? = some o := by
  show (w.heap.push o)[w.heap.size]? = some o
  simp
theorem al_old (w : World) (o : Obj) {i : Nat} (h : i < w.heap.size) : (w.alloc o).heap[i]? = w.heap[i]? := by
  show (w.heap.push o)[i]? = _
  rw [Array.getElem?_push];rw [if_neg (Nat.ne_of_lt h)]
theorem isMap_made {κ : Type} {enc : κ → Value} (w : World) : IsMap (w.alloc (.map #[] 0)) w.heap.size enc ([] : List (κ × Value)) := ⟨#[],0,al_new _ _,rfl,by simp,by simp,by simp⟩
theorem key_int {P : Program} {kt : TypeId} (h : P.underlying kt = some (.int .i64)) : KeyEnc P kt (.int .i64) (Value.int .i64) :=
  ⟨h,fun k => by simp [IsKey],fun a b => by simp only [Instr.sameNow,if_true];exact congrArg some (by rw [Bool.eq_iff_iff];simp),fun a => by simp [Instr.sameBits]⟩
end Go.Proofs.YtblemmagkehanaaGreatW.PrintWords
