/- A cache that was made: Learn. Conditions: those that each theorem names. -/
import Derived.Test.YtblemmagkehanaaGreatZkCl
import Derived.Shelf.SlIterI.Nil
import Derived.Shelf.SortM.Plain
import Derived.Shelf.SortM.SortNone
import Derived.Test.YtblemmagkehanaaGreatZkPAx20
import Derived.Test.YtblemmagkehanaaGreatZkMp
namespace Go.Proofs.YtblemmagkehanaaGreat.PA
open Go.RowKit Go.Proofs.YtblemmagkehanaaGreatW.PrintWords Go.Proofs.YtblemmagkehanaaGreatW.PrintLast Go.Proofs.YtblemmagkehanaaGreatW.PrintMore
set_option linter.unusedVariables false
set_option linter.unusedSimpArgs false
theorem R_nilc {w : World} {base : Nat} {ok : Nat → Prop} {A : Option Addr} {n c : Nat} {l : List S61} (h : Kd.R k61 61 w base ok (.slice A n c) l) : A = none → c = 0 := by
  rintro rfl;obtain ⟨_,hown⟩ := R_flat.1 h
  rcases hown.2 with ⟨h2,_⟩ | ⟨g',cap',cur,he,_⟩
  · injection h2
  injection he with ea _ _
  cases ea
theorem learn_none {w : World} {g b : Nat} {L : List Nb} (h : CacheAt w g b L) {id : Int} (he : nbGet id L = none) (B : Option Addr) (m cB : Nat) :
    Calls Tryz.prog 11 #[.pointer (some ⟨g,0,none⟩),.int .i64 id,.slice B m cB] w fun e_ w' => e_ = .returned (.tuple #[.int .i64 0,.int .i64 4]) ∧ w = w' := by
  have HF := Aside0.mk (find_none h he);clear h he;go_enter Tryz.func11,Tryz.ntmps11
  go_wp2_with (go_at_call 33;refine HF.out.mono ?_;rintro e w3 ⟨rfl,rfl⟩)
  go_ret2;exact ⟨rfl,rfl⟩
set_option maxRecDepth 100000 in
theorem learn_bad {w : World} {g b : Nat} {L : List Nb} (h : CacheAt w g b L) {id : Int} {e : Nb} (he : nbGet id L = some e) {B : Option Addr} {cB : Nat} {news : List S61} (hN : Kd.C k61 w B news.length news) (hc : news.length ≤ cB) (hw : WordsN news) (hl : news.length ≤ 4611686018427387903) (hr : risFrom news news.length 0 = false) :
    Calls Tryz.prog 11 #[.pointer (some ⟨g,0,none⟩),.int .i64 id,.slice B news.length cB] w fun e_ w' => e_ = .returned (.tuple #[.int .i64 0,.int .i64 1]) ∧ Below w.heap.size w w' := by
  have HF := Aside0.mk (find_some h he);have HM := Aside0.mk (may_any hN hc hw hl);rw [hr] at HM;clear h he hN hc hw hl hr;go_enter Tryz.func11,Tryz.ntmps11
  go_wp2_with (first | (go_at_call 33;refine HF.out.mono ?_;rintro e w3 ⟨rfl,rfl⟩) | (go_at_call 34;refine HM.out.mono ?_;rintro e w4 ⟨rfl,hb⟩;have HB := Aside0.mk hb;clear hb))
  go_ret2;exact ⟨rfl,HB.out⟩
def nbLearn (A : Option Addr) (c : Nat) (l : List S61) (e : Nb) : Nb := { e with A := A,c := c,news := l }
set_option maxHeartbeats 1000000 in
set_option maxRecDepth 100000 in
theorem learn_ok {w : World} {g b : Nat} {L : List Nb} (h : CacheAt w g b L) {id : Int} {e : Nb} (he : nbGet id L = some e) {B : Option Addr} {cB : Nat} {news : List S61} (hN : Kd.C k61 w B news.length news) (hc : news.length ≤ cB) (hw : WordsN news) (hl : news.length ≤ 4611686018427387903) (hr : risFrom news news.length 0 = true)
    (hall : ∀ j,j < news.length → Mono (news.getD j z61) (outAt e.news news j) ∧ (outAt e.news news j).length < 3518437208883) (hlen : (outAt e.news news news.length).length ≤ 4294967296) :
    Calls Tryz.prog 11 #[.pointer (some ⟨g,0,none⟩),.int .i64 id,.slice B news.length cB] w fun e_ w' => ∃ A c,e_ = .returned (.tuple #[.int .i64 (cntAt e.news news news.length : Nat),.int .i64 0]) ∧ OpOut w g b L (nbTurn id (nbLearn A c (outAt e.news news news.length)) L) w' ∧ ∀ ad,A = some ad → w.heap.size ≤ ad.block := by
  have HD := Aside0.mk h;have HF := Aside0.mk (find_some h he);have HG := Aside0.mk he;have HN := Aside0.mk (h.nb e (nbGet_mem he).1);have HM := Aside0.mk (may_any hN hc hw hl);rw [hr] at HM;have ME := Aside0.mk (fun (W : World) (hb : Below w.heap.size w W) => merge_any (cB := cB) (Kd.C_below HN.out.2.1 hb) HN.out.2.2.2.1 (Nat.le_trans HN.out.2.2.2.2 (by decide)) (Kd.C_below hN hb) hl hall);have LE := Aside0.mk hlen;clear h he hN hc hw hl hr hall hlen;go_enter Tryz.func11,Tryz.ntmps11
  go_wp2_with (first | (go_at_call 33;refine HF.out.mono ?_;rintro e w3 ⟨rfl,rfl⟩) | (go_at_call 34;refine HM.out.mono ?_;rintro e w4 ⟨rfl,hb⟩;have HB := Aside0.mk hb;clear hb;have N4 := Aside0.mk (HN.out.below HB.out);have c1 : w4.cell? ⟨e.p,1,none⟩ = some (.slice e.A e.news.length e.c) := (blk_cell N4.out.1 1).trans rfl) | (go_at_call 35;refine (ME.out _ HB.out).mono ?_;rintro e w5 ⟨v,rfl,hR,hb⟩;obtain ⟨Av,cv,ev⟩ := Kd.R_slice hR;subst ev;have HR := Aside0.mk hR;have HB5 := Aside0.mk hb;clear hb hR c1;have N5 := Aside0.mk (N4.out.below HB5.out);have d1 : w5.cell? ⟨e.p,1,none⟩ = some (.slice e.A e.news.length e.c) := (blk_cell N5.out.1 1).trans rfl;have f1 := blk_frozen N5.out.1 1))
  go_ret2;refine ⟨Av,cv,rfl,HD.out.store (below_then HB.out HB.out.size HB5.out) HG.out (nbLearn Av cv _) (fun _ => rfl) (fun _ => rfl) rfl (Kd.R_reads' HR.out).2.2 ⟨(Kd.R_reads' HR.out).2.1,R_nilc HR.out,LE.out⟩,?_⟩;intro ad ha;subst ha;exact Nat.le_trans HB.out.size (Kd.R_base HR.out ad.block rfl)
end Go.Proofs.YtblemmagkehanaaGreat.PA
namespace Go.Proofs.YtblemmagkehanaaGreat.PA
open Go.RowKit Go.Shelf Go.Proofs.YtblemmagkehanaaGreatW.PrintWords Go.Proofs.YtblemmagkehanaaGreatW.PrintLast Go.Proofs.YtblemmagkehanaaGreatW.PrintMore
set_option linter.unusedVariables false
set_option linter.unusedSimpArgs false
def leI (x y : Int) : Bool := decide (x ≤ y)
def keysV (m : List (Int × Value)) : List Int := (m.map (·.1)).mergeSort leI
theorem okId_bounds {x : Int} (h : okId x = true) : 1 ≤ x ∧ x ≤ 2147483647 := by simpa [okId] using h
def RT : Value → Option (DataW Unit × List MemPlace) := fun _ => some (.lit (.bool true),[])
theorem key3 {x : Int} (h : okId x = true) : keyOf Tryz.prog 3 (.int .i64 x) = some (.int .i64 x) := by
  have hb := okId_bounds h;have hw : (Lit.int .i64 x).wf = true := by
    have e1 : IntKind.i64.min = -9223372036854775808 := by decide
    have e2 : IntKind.i64.max = 9223372036854775807 := by decide
    simp only [Lit.wf,e1,e2,Bool.and_eq_true,decide_eq_true_eq];omega
  simp [keyOf,Tryz.underlying3,mapKey,hw]
theorem own_en {w : World} {b : Nat} {M : List (Int × Value)} (h : IsMap w b (Value.int .i64) M) (hk : ∀ x ∈ M,okId x.1 = true) (hl : M.length ≤ maxLen) : ∃ D : DataW Unit,w.ownsMap Tryz.prog 3 RT b M.length D ∧ (intKeys D).Perm (M.map (·.1)) ∧ Go.Maps.size D = M.length := by
  obtain ⟨es,clock,hb,hT,hnd,hlt,hbn⟩ := h;have hT' : es.toList.map (fun e => (e.key,e.val)) = M.map (fun a => (Value.int .i64 a.1,a.2)) := by
    have := hT;unfold Tells at this;exact this
  have hlen : es.toList.length = M.length := by have := congrArg List.length hT';simpa using this
  have hkeys : es.toList.map (·.key) = M.map (fun a => Value.int .i64 a.1) := by
    have := congrArg (List.map Prod.fst) hT';rw [List.map_map,List.map_map] at this;exact this
  have hmem : ∀ e ∈ es.toList,∃ a ∈ M,e.key = .int .i64 a.1 := by
    intro e he;have : e.key ∈ es.toList.map (·.key) := List.mem_map.2 ⟨e,he,rfl⟩;rw [hkeys] at this;obtain ⟨a,ha,h2⟩ := List.mem_map.1 this;exact ⟨a,ha,h2.symm⟩
  have hrd : ∀ e ∈ es.toList,Go.WideElems.rd Tryz.prog 3 RT e = (some (match e.key with | .int _ x => Lit.int .i64 x | _ => .bool false,DataW.lit (.bool true)) : Option (Lit × DataW Unit)) := by
    intro e he;obtain ⟨a,ha,h2⟩ := hmem e he;unfold Go.WideElems.rd RT;rw [h2,key3 (hk a ha)];rfl
  have hrg : es.toList.map (fun e => Go.intOf (Go.WideElems.rg Tryz.prog 3 RT e).1) = M.map (·.1) := by
    have e1 : es.toList.map (fun e => Go.intOf (Go.WideElems.rg Tryz.prog 3 RT e).1) = (es.toList.map (·.key)).map (fun v => match v with | .int _ x => x | _ => 0) := by
      rw [List.map_map];refine List.map_congr_left fun e he => ?_
      obtain ⟨a,ha,h2⟩ := hmem e he;unfold Go.WideElems.rg;rw [hrd e he];simp only [Function.comp,h2];rfl
    rw [e1,hkeys,List.map_map];rfl
  have hrg2 : (es.toList.map (Go.WideElems.rg Tryz.prog 3 RT)).map (fun p => Go.intOf p.1) = M.map (·.1) := by
    simp only [List.map_map,Function.comp_def];exact hrg
  have hsz : es.size = M.length := by simpa using hlen
  refine ⟨.map ((es.toList.map (Go.WideElems.rg Tryz.prog 3 RT)).foldr DataW.insert []),⟨es,clock,hb,⟨by omega,⟨hlt,hbn,?_⟩,fun e he => ⟨_,hrd e he⟩⟩,by omega,rfl⟩,?_,?_⟩
  · rw [hkeys]
    have hd : (M.map (·.1)).Nodup := by
      have := hnd;exact this
    have e2 : M.map (fun a => Value.int .i64 a.1) = (M.map (·.1)).map (Value.int .i64) := by rw [List.map_map];rfl
    rw [e2];exact List.pairwise_map.2 (hd.imp fun hne e => hne (by simpa using e))
  · generalize es.toList.map (Go.WideElems.rg Tryz.prog 3 RT) = E at *
    have h1 : (((E.foldr DataW.insert []).map fun p => Go.intOf p.1)).Perm (E.map fun p => Go.intOf p.1) := (Go.WideShapes.sorted_perm E).map _;rw [hrg2] at h1;exact h1
  show ((es.toList.map (Go.WideElems.rg Tryz.prog 3 RT)).foldr DataW.insert []).length = _
  rw [Go.length_sorted]
  simpa using hlen
theorem sorts48 (m : Nat) : AnyZI.SortsIn Tryz.prog Tryz.sortedA_ren Fence.wide m :=
  ⟨fun blk off cap ss W hH hblk hsz => callsIn_wide.2 (AnyM.slices_Sort_int Tryz.sortM blk off cap ss W hH hblk hsz),
   fun p cap W => callsIn_wide.2 (AnyM.slices_Sort_int_none Tryz.sortM p cap W)⟩
theorem keysA (mb : Option Nat) (W : World) : Calls Tryz.prog 66 #[.map mb] W fun e w' => e = .returned (.func (.func 84) #[] #[.pointer (some ⟨W.heap.size,0,none⟩)]) ∧ w' = W.alloc (.cells #[.map mb] 63) :=
  (callsIn_wide (n := 5)).1 (AnyZI.keys_in Tryz.keysA Fence.wide 5 trivial rfl mb W)
theorem sorted_A {w : World} {b Bm : Nat} {M : List (Int × Value)} (h : IsMap w b (Value.int .i64) M) (hk : ∀ x ∈ M,okId x.1 = true) (hl : M.length ≤ 2147483647) (hm : w.heap[Bm]? = some (.cells #[.map (some b)] 63 (0,0))) :
    Calls Tryz.prog 48 #[.func (.func 84) #[] #[.pointer (some ⟨Bm,0,none⟩)]] w fun e w' => ∃ v,e = .returned v ∧ Kd.R (Kd.int .i64) 3 w' w.heap.size (fun _ => True) v (keysV M) ∧ Below w.heap.size w w' := by
  obtain ⟨D,hown,hp,hs⟩ := own_en h hk (by unfold maxLen;omega);have hBm : Bm < w.heap.size := blk_lt hm;have hseq : SeqGives Fence.wide 2 Tryz.prog 84 #[.pointer (some ⟨Bm,0,none⟩)] encZ (fun ss => ss.Perm (intKeys D)) (Go.Maps.size D) w :=
    AnyZI.keys_gives (ρ := Tryz.keysA_ren) { Tryz.keysA with } Fence.wide _ trivial rfl (by omega) Bm b M.length D w hBm ((blk_cell hm 0).trans rfl) hown
  have cS := AnyZI.sorted_in Tryz.sortedA Fence.wide 5 trivial trivial trivial trivial rfl (by omega) (sorts48 _) (enters_of Tryz.func68 (by kernel_rfl) rfl) 84 #[.pointer (some ⟨Bm,0,none⟩)] trivial (enters_of Tryz.func84 (by kernel_rfl) rfl) _ _ (by rw [hs];unfold maxLen;omega) (by rw [hs];omega) w hseq
  change CallsIn _ _ Tryz.prog 48 _ _ _ at cS
  refine ((callsIn_wide (n := 5)).1 cS).mono ?_;rintro e w' ⟨v,ss,rfl,hS,hrow,_,hb⟩;have hv : ss.mergeSort (fun x y => decide (x ≤ y)) = keysV M := mergeSort_of_perm_i (hS.trans hp);have hln : ss.length = (keysV M).length := by rw [← hv];simp
  rw [hv,hln] at hrow;exact ⟨v,rfl,Kd.R_of_own hrow (fun _ _ => trivial),hb⟩
theorem keysB (mb : Option Nat) (W : World) : Calls Tryz.prog 49 #[.map mb] W fun e w' => e = .returned (.func (.func 69) #[] #[.pointer (some ⟨W.heap.size,0,none⟩)]) ∧ w' = W.alloc (.cells #[.map mb] 93) :=
  (callsIn_wide (n := 5)).1 (AnyZI.keys_in Tryz.keysB Fence.wide 5 trivial rfl mb W)
theorem sorted_B {w : World} {b Bm : Nat} {M : List (Int × Value)} (h : IsMap w b (Value.int .i64) M) (hk : ∀ x ∈ M,okId x.1 = true) (hl : M.length ≤ 2147483647) (hm : w.heap[Bm]? = some (.cells #[.map (some b)] 93 (0,0))) :
    Calls Tryz.prog 48 #[.func (.func 69) #[] #[.pointer (some ⟨Bm,0,none⟩)]] w fun e w' => ∃ v,e = .returned v ∧ Kd.R (Kd.int .i64) 3 w' w.heap.size (fun _ => True) v (keysV M) ∧ Below w.heap.size w w' := by
  obtain ⟨D,hown,hp,hs⟩ := own_en h hk (by unfold maxLen;omega);have hBm : Bm < w.heap.size := blk_lt hm;have hseq : SeqGives Fence.wide 2 Tryz.prog 69 #[.pointer (some ⟨Bm,0,none⟩)] encZ (fun ss => ss.Perm (intKeys D)) (Go.Maps.size D) w :=
    AnyZI.keys_gives (ρ := Tryz.keysB_ren) { Tryz.keysB with } Fence.wide _ trivial rfl (by omega) Bm b M.length D w hBm ((blk_cell hm 0).trans rfl) hown
  have cS := AnyZI.sorted_in Tryz.sortedA Fence.wide 5 trivial trivial trivial trivial rfl (by omega) (sorts48 _) (enters_of Tryz.func68 (by kernel_rfl) rfl) 69 #[.pointer (some ⟨Bm,0,none⟩)] trivial (enters_of Tryz.func69 (by kernel_rfl) rfl) _ _ (by rw [hs];unfold maxLen;omega) (by rw [hs];omega) w hseq
  change CallsIn _ _ Tryz.prog 48 _ _ _ at cS
  refine ((callsIn_wide (n := 5)).1 cS).mono ?_;rintro e w' ⟨v,ss,rfl,hS,hrow,_,hb⟩;have hv : ss.mergeSort (fun x y => decide (x ≤ y)) = keysV M := mergeSort_of_perm_i (hS.trans hp);have hln : ss.length = (keysV M).length := by rw [← hv];simp
  rw [hv,hln] at hrow;exact ⟨v,rfl,Kd.R_of_own hrow (fun _ _ => trivial),hb⟩
end Go.Proofs.YtblemmagkehanaaGreat.PA
