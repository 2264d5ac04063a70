/- The keys of a map of entries, sorted: slices.Sorted(maps.Keys(m)) by the shelf. Conditions: the keys are small, the map fits in memory. -/
import Derived.Shelf.SlIterI.Nil
import Derived.Shelf.SortM.Plain
import Derived.Shelf.SortM.SortNone
import Derived.Test.YtjcnmpkaiopihaaZmSi
import Derived.Test.YtjcnmpkaiopihaaZmGu
import Derived.Test.YtjcnmpkaiopihaaZmMp
namespace Go.Proofs.Ytjcnmpkaiopihaa.PA
open Go.RowKit Go.Shelf Go.Proofs.YtjcnmpkaiopihaaW.PrintWords Go.Proofs.YtjcnmpkaiopihaaW.PrintLast Go.Proofs.YtjcnmpkaiopihaaW.PrintMore
set_option linter.unusedVariables false
set_option linter.unusedSimpArgs false
def keysV (M : List S58) : List Int := (M.map (·.f0)).mergeSort leI
def RT : Value → Option (DataW Unit × List MemPlace) := fun _ => some (.lit (.bool true),[])
theorem key3 {x : Int} (h : okId x = true) : keyOf Try.prog 3 (.int .i64 x) = some (.int .i64 x) := by
  have hb := okId_bounds h
  have hw : (Lit.int .i64 x).wf = true := by
    have e1 : IntKind.i64.min = -9223372036854775808 := by decide
    have e2 : IntKind.i64.max = 9223372036854775807 := by decide
    simp only [Lit.wf,e1,e2,Bool.and_eq_true,decide_eq_true_eq]
    omega
  simp [keyOf,Try.underlying3,mapKey,hw]
theorem own_en {w : World} {b : Nat} {M : List S58} (h : IsMap w b (Value.int .i64) (enM M)) (hk : ∀ x ∈ M,okId x.f0 = true) (hl : M.length ≤ maxLen) : ∃ D : DataW Unit,w.ownsMap Try.prog 3 RT b M.length D ∧ (intKeys D).Perm (M.map (·.f0)) ∧ Go.Maps.size D = M.length := by
  obtain ⟨es,clock,hb,hT,hnd,hlt,hbn⟩ := h
  have hT' : es.toList.map (fun e => (e.key,e.val)) = M.map (fun a => (Value.int .i64 a.f0,enV a)) := by
    have := hT
    unfold Tells enM at this
    rw [List.map_map] at this
    exact this
  have hlen : es.toList.length = M.length := by have := congrArg List.length hT';simpa using this
  have hkeys : es.toList.map (·.key) = M.map (fun a => Value.int .i64 a.f0) := by
    have := congrArg (List.map Prod.fst) hT'
    rw [List.map_map,List.map_map] at this
    exact this
  have hmem : ∀ e ∈ es.toList,∃ a ∈ M,e.key = .int .i64 a.f0 := by
    intro e he
    have : e.key ∈ es.toList.map (·.key) := List.mem_map.2 ⟨e,he,rfl⟩
    rw [hkeys] at this
    obtain ⟨a,ha,h2⟩ := List.mem_map.1 this
    exact ⟨a,ha,h2.symm⟩
  have hrd : ∀ e ∈ es.toList,Go.WideElems.rd Try.prog 3 RT e = (some (match e.key with | .int _ x => Lit.int .i64 x | _ => .bool false,DataW.lit (.bool true)) : Option (Lit × DataW Unit)) := by
    intro e he
    obtain ⟨a,ha,h2⟩ := hmem e he
    unfold Go.WideElems.rd RT
    rw [h2,key3 (hk a ha)]
    rfl
  have hrg : es.toList.map (fun e => Go.intOf (Go.WideElems.rg Try.prog 3 RT e).1) = M.map (·.f0) := by
    have e1 : es.toList.map (fun e => Go.intOf (Go.WideElems.rg Try.prog 3 RT e).1) = (es.toList.map (·.key)).map (fun v => match v with | .int _ x => x | _ => 0) := by
      rw [List.map_map]
      refine List.map_congr_left fun e he => ?_
      obtain ⟨a,ha,h2⟩ := hmem e he
      unfold Go.WideElems.rg
      rw [hrd e he]
      simp only [Function.comp,h2]
      rfl
    rw [e1,hkeys,List.map_map]
    rfl
  have hrg2 : (es.toList.map (Go.WideElems.rg Try.prog 3 RT)).map (fun p => Go.intOf p.1) = M.map (·.f0) := by
    simp only [List.map_map,Function.comp_def]
    exact hrg
  have hsz : es.size = M.length := by simpa using hlen
  refine ⟨.map ((es.toList.map (Go.WideElems.rg Try.prog 3 RT)).foldr DataW.insert []),⟨es,clock,hb,⟨by omega,⟨hlt,hbn,?_⟩,fun e he => ⟨_,hrd e he⟩⟩,by omega,rfl⟩,?_,?_⟩
  · rw [hkeys]
    have hd : (M.map (·.f0)).Nodup := by
      have := hnd
      unfold enM at this
      rwa [List.map_map] at this
    have e2 : M.map (fun a => Value.int .i64 a.f0) = (M.map (·.f0)).map (Value.int .i64) := by rw [List.map_map];rfl
    rw [e2]
    exact List.pairwise_map.2 (hd.imp fun hne e => hne (by simpa using e))
  · generalize es.toList.map (Go.WideElems.rg Try.prog 3 RT) = E at *
    have h1 : (((E.foldr DataW.insert []).map fun p => Go.intOf p.1)).Perm (E.map fun p => Go.intOf p.1) := (Go.WideShapes.sorted_perm E).map _
    rw [hrg2] at h1
    exact h1
  show ((es.toList.map (Go.WideElems.rg Try.prog 3 RT)).foldr DataW.insert []).length = _
  rw [Go.length_sorted]
  simpa using hlen
theorem sorts42 (m : Nat) : AnyZI.SortsIn Try.prog Try.sortedA_ren Fence.wide m :=
  ⟨fun blk off cap ss W hH hblk hsz => callsIn_wide.2 (AnyM.slices_Sort_int Try.sortM blk off cap ss W hH hblk hsz),
   fun p cap W => callsIn_wide.2 (AnyM.slices_Sort_int_none Try.sortM p cap W)⟩
theorem keys43 (mb : Option Nat) (W : World) : Calls Try.prog 43 #[.map mb] W fun e w' => e = .returned (.func (.func 76) #[] #[.pointer (some ⟨W.heap.size,0,none⟩)]) ∧ w' = W.alloc (.cells #[.map mb] 52) :=
  (callsIn_wide (n := 5)).1 (AnyZI.keys_in Try.keysA Fence.wide 5 trivial rfl mb W)
theorem sorted_keys {w : World} {b Bm : Nat} {M : List S58} (h : IsMap w b (Value.int .i64) (enM M)) (hk : ∀ x ∈ M,okId x.f0 = true) (hl : M.length ≤ 2147483647) (hm : w.heap[Bm]? = some (.cells #[.map (some b)] 52 (0,0))) :
    Calls Try.prog 42 #[.func (.func 76) #[] #[.pointer (some ⟨Bm,0,none⟩)]] w fun e w' => ∃ v,e = .returned v ∧ Kd.R (Kd.int .i64) 3 w' w.heap.size (fun _ => True) v (keysV M) ∧ Below w.heap.size w w' := by
  obtain ⟨D,hown,hp,hs⟩ := own_en h hk (by unfold maxLen;omega)
  have hBm : Bm < w.heap.size := blk_lt hm
  have hseq : SeqGives Fence.wide 2 Try.prog 76 #[.pointer (some ⟨Bm,0,none⟩)] encZ (fun ss => ss.Perm (intKeys D)) (Go.Maps.size D) w :=
    AnyZI.keys_gives (ρ := Try.keysA_ren) { Try.keysA with } Fence.wide _ trivial rfl (by omega) Bm b M.length D w hBm ((blk_cell hm 0).trans rfl) hown
  have cS := AnyZI.sorted_in Try.sortedA Fence.wide 5 trivial trivial trivial trivial rfl (by omega) (sorts42 _) (enters_of Try.func75 (by kernel_rfl) rfl) 76 #[.pointer (some ⟨Bm,0,none⟩)] trivial (enters_of Try.func76 (by kernel_rfl) rfl) _ _ (by rw [hs];unfold maxLen;omega) (by rw [hs];omega) w hseq
  change CallsIn _ _ Try.prog 42 _ _ _ at cS
  refine ((callsIn_wide (n := 5)).1 cS).mono ?_
  rintro e w' ⟨v,ss,rfl,hS,hrow,_,hb⟩
  have hv : ss.mergeSort (fun x y => decide (x ≤ y)) = keysV M := mergeSort_of_perm_i (hS.trans hp)
  have hln : ss.length = (keysV M).length := by rw [← hv];simp
  rw [hv,hln] at hrow
  exact ⟨v,rfl,Kd.R_of_own hrow (fun _ _ => trivial),hb⟩
end Go.Proofs.Ytjcnmpkaiopihaa.PA
