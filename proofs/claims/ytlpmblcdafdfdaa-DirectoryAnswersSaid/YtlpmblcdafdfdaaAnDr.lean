/- ident.Draw: which of some routers keeps a name. No condition but that the routers lie in memory. -/
import Derived.Test.YtlpmblcdafdfdaaAnGn
import Derived.Test.YtlpmblcdafdfdaaAnSh
import Derived.Test.YtlpmblcdafdfdaaAnMq
import Derived.WalkLawsBesides
import Derived.WalkSpells
import Derived.Outline
namespace Go.Proofs.Ytlpmblcdafdfdaa.PA
open Go.Shelf Go.RowKit Go.Lib Go.Sort Go.Proofs.YtlpmblcdafdfdaaW.PrintWords Go.Proofs.YtlpmblcdafdfdaaW.PrintLast Go.Proofs.YtlpmblcdafdfdaaW.PrintMore
set_option linter.unusedVariables false
set_option linter.unusedSimpArgs false
theorem checked1_any (x : Int) (W : World) : Calls Try.prog 89 #[.int .i64 x] W fun e w' => e = .returned (.bool (badId x)) ∧ ∃ q,w' = W.drewN q := by
  have hc := fun W => ident_CheckId.calls x (idV x) W (id_f x)
  by_cases hb : badId x = true
  · rw [show idV x = 20 by simp [idV,hb]] at hc
    rw [hb]
    have HC := Aside0.mk hc
    clear hc hb
    go_enter Try.func89,Try.ntmps89
    go_wp2_with (go_at_call 54;refine (HC.out _).mono ?_;rintro e w' ⟨rfl,q,rfl⟩)
    go_ret
    exact ⟨rfl,_,rfl⟩
  · rw [show idV x = 0 by simp [idV,hb]] at hc
    rw [Bool.not_eq_true] at hb
    rw [hb]
    have HC := Aside0.mk hc
    clear hc hb
    go_enter Try.func89,Try.ntmps89
    go_wp2_with (go_at_call 54;refine (HC.out _).mono ?_;rintro e w' ⟨rfl,q,rfl⟩)
    go_ret
    exact ⟨rfl,_,rfl⟩
theorem pred89 (w : World) : PredAt Try.prog 89 #[] (Value.int .i64) badId w := fun W x _ => checked1_any x W
def cmpV (x y : Int) : Int := if x < y then -1 else if x > y then 1 else 0
def cfD (s x y : Int) : Int := if cmpV (scV y s) (scV x s) ≠ 0 then cmpV (scV y s) (scV x s) else cmpV x y
theorem cmp_u (x y : Int) : cmp_Compare_uint64.f x y = some (cmpV x y) := by
  unfold cmp_Compare_uint64.f cmp_isNaN_uint64.f cmpV
  by_cases h1 : x < y <;> by_cases h2 : x > y <;> simp [h1,h2]
theorem cmp_i (x y : Int) : cmp_Compare_int.f x y = some (cmpV x y) := by
  unfold cmp_Compare_int.f cmp_isNaN_int.f cmpV
  by_cases h1 : x < y <;> by_cases h2 : x > y <;> simp [h1,h2]
theorem score_any (x s : Int) (W : World) : Calls Try.prog 70 #[.int .i64 x,.int .u64 s] W fun e w' => e = .returned (.int .u64 (scV x s)) ∧ ∃ q,w' = W.drewN q :=
  (ident_score.calls x s (scV x s) W (score_f x s)).mono fun e w' h => ⟨h.1,h.2.out⟩
theorem cmpu_any (x y : Int) (W : World) : Calls Try.prog 69 #[.int .u64 x,.int .u64 y] W fun e w' => e = .returned (.int .i64 (cmpV x y)) ∧ ∃ q,w' = W.drewN q :=
  (cmp_Compare_uint64.calls x y (cmpV x y) W (cmp_u x y)).mono fun e w' h => ⟨h.1,h.2.out⟩
theorem cmpi_any (x y : Int) (W : World) : Calls Try.prog 71 #[.int .i64 x,.int .i64 y] W fun e w' => e = .returned (.int .i64 (cmpV x y)) ∧ ∃ q,w' = W.drewN q :=
  (cmp_Compare_int.calls x y (cmpV x y) W (cmp_i x y)).mono fun e w' h => ⟨h.1,h.2.out⟩
set_option maxHeartbeats 1000000 in
theorem order1_any (x y s : Int) (B : Nat) (W : World) (hs : W.cell? ⟨B,0,none⟩ = some (.int .u64 s)) :
    Calls Try.prog 68 #[.int .i64 x,.int .i64 y,.pointer (some ⟨B,0,none⟩)] W fun e w' => e = .returned (.int .i64 (cfD s x y)) ∧ ∃ q,w' = W.drewN q := by
  unfold cfD
  obtain ⟨c,hcc⟩ : ∃ c,c = cmpV (scV y s) (scV x s) := ⟨_,rfl⟩
  have CU : Aside0 (∀ W,Calls Try.prog 69 #[.int .u64 (scV y s),.int .u64 (scV x s)] W fun e w' => e = .returned (.int .i64 c) ∧ ∃ q,w' = W.drewN q) := ⟨fun W => by rw [hcc];exact cmpu_any _ _ W⟩
  rw [← hcc]
  clear hcc
  by_cases hc : c ≠ 0
  · rw [if_pos hc]
    have hb : (c != 0) = true := by simpa using hc
    clear hc
    go_enter Try.func68,Try.ntmps68
    go_wp2
    go_quiet ((first | (go_at_call 70;exact Calls.quiet_of (score_any _ _ _)) | (go_at_call 69;exact Calls.quiet_of (CU.out _))))
    go_wp2
    go_ret
    exact ⟨rfl,_,rfl⟩
  · rw [if_neg hc]
    have hb : (c != 0) = false := by simpa using hc
    clear hc
    go_enter Try.func68,Try.ntmps68
    go_wp2
    go_quiet ((first | (go_at_call 70;exact Calls.quiet_of (score_any _ _ _)) | (go_at_call 69;exact Calls.quiet_of (CU.out _))))
    go_wp2_with (go_at_call 71;refine (cmpi_any x y _).mono ?_;rintro e w' ⟨rfl,q,rfl⟩)
    go_ret
    exact ⟨rfl,_,rfl⟩
theorem ints_open {w : World} {A : Option Addr} {n : Nat} {l : List Int} (h : Kd.C (Kd.int .i64) w A n l) (hn : 0 < n) :
    ∃ b off,A = some ⟨b,off,none⟩ ∧ b < w.heap.size ∧ ∀ j,j < l.length → w.cell? ⟨b,off + j,none⟩ = some (.int .i64 (l.getD j 0)) := by
  obtain ⟨ad,e,hc⟩ := Kd.at_int h 0 (Int.le_refl 0) (by omega)
  obtain ⟨b,off,sp⟩ := ad
  have hsp : sp = none := by
    cases sp with
    | none => rfl
    | some x =>
      simp only [Addr.add,World.cell?] at hc
      split at hc <;> simp at hc
  subst hsp
  refine ⟨b,off,e,World.block_lt_of_cell? w _ hc,fun j hj => ?_⟩
  have hl := Kd.C_len h
  obtain ⟨ad,e2,hc2⟩ := Kd.at_int h (j : Int) (by omega) (by omega)
  rw [e] at e2
  cases e2
  have e3 : (⟨b,off,none⟩ : Addr).add j = ⟨b,off + j,none⟩ := by
    unfold Addr.add
    by_cases hj0 : j = 0 <;> simp [hj0]
  rw [Int.toNat_natCast,e3] at hc2
  exact hc2.trans rfl
def seenOf (l : List Int) : List (Int × Value) := l.map fun x => (x,Value.bool true)
theorem mfind_seen (x : Int) : ∀ (l : List Int) (i : Nat),x ∈ l → ∃ j,mfind x (seenOf l) i = some (j,.bool true)
  | y :: l,i,h => by
    unfold seenOf mfind
    by_cases e : x = y
    · exact ⟨i,by simp [e]⟩
    · obtain ⟨j,hj⟩ := mfind_seen x l (i + 1) (by simpa [e] using h)
      exact ⟨j,by simp only [List.map_cons,e,if_false];exact hj⟩
theorem mget_seen (x : Int) (l : List Int) : (mget (seenOf l) x).getD (.bool false) = .bool (decide (x ∈ l)) := by
  unfold mget
  by_cases h : x ∈ l
  · obtain ⟨j,hj⟩ := mfind_seen x l 0 h
    simp [hj,h]
  · have : mfind x (seenOf l) 0 = none := mfind_none.2 (by simpa [seenOf] using h)
    simp [this,h]
theorem mput_seen (x : Int) (l : List Int) (h : x ∉ l) : mput (seenOf l) x (.bool true) = seenOf (l ++ [x]) := by
  have : mfind x (seenOf l) 0 = none := mfind_none.2 (by simpa [seenOf] using h)
  unfold mput
  rw [this]
  simp [seenOf]
theorem idsV_bad {l : List Int} (h : l.any badId = true) : idsV l = 20 := by simp only [idsV,h,if_true]
theorem idsV_two {l : List Int} (h : l.any badId = false) (h2 : ¬ l.Nodup) : idsV l = 72 := by simp only [idsV,h,Bool.false_eq_true,if_false,h2]
theorem idsV_ok {l : List Int} (h : l.any badId = false) (h2 : l.Nodup) : idsV l = 0 := by simp only [idsV,h,Bool.false_eq_true,if_false,h2,if_true]
theorem contains_any {w : World} {A : Option Addr} {c : Nat} {l : List Int} (h : Kd.C (Kd.int .i64) w A l.length l) :
    Calls Try.prog 88 #[.slice A l.length c,.func (.func 89) #[] #[]] w fun e w' => e = .returned (.bool (l.any badId)) ∧ ∃ q,w' = w.drewN q := by
  have hmax := Kd.C_max h
  by_cases hn : 0 < l.length
  · obtain ⟨b,off,rfl,hb,hc⟩ := ints_open h hn
    have eg : ∀ args w,(callFunc 89 args).run Try.prog w = .ok (.enter 89 args) w := enters_of Try.func89 (by kernel_rfl) rfl
    have hcon := AnyE.slices_ContainsFunc Try.contI (Value.int .i64) badId 89 #[] eg b off l.length c l w (pred89 w) (Nat.le_refl _) hmax (fun j hj => by rw [hc j hj];simp [List.getD_eq_getElem?_getD,hj,getElem!_def])
    rw [List.take_length] at hcon
    exact hcon
  · have h0 : l = [] := List.eq_nil_of_length_eq_zero (by omega)
    subst h0
    have hcon := AnyE.slices_ContainsFunc_empty Try.contI A c (.func (.func 89) #[] #[]) w
    exact hcon.mono fun e w' h => ⟨h.1,0,h.2⟩
set_option maxHeartbeats 1000000 in
set_option maxRecDepth 100000 in
theorem checked_any (A : Option Addr) (c : Nat) (l : List Int) (w : World) (h : Kd.C (Kd.int .i64) w A l.length l) :
    Calls Try.prog 64 #[.slice A l.length c] w fun e w' => e = .returned (.int .i64 (idsV l)) ∧ Below w.heap.size w w' := by
  have hmax := Kd.C_max h
  have HR := Aside0.mk h
  have hC := contains_any (c := c) h
  have hmm := @run_makeMap Try.prog
  clear h
  by_cases hb : l.any badId = true
  · rw [hb] at hC
    rw [idsV_bad hb]
    have HC := Aside0.mk hC
    clear hC hb
    go_enter Try.func64,Try.ntmps64
    go_wp2_with (go_at_call 88;refine HC.out.mono ?_;rintro e w' ⟨rfl,q,rfl⟩)
    go_ret
    exact ⟨rfl,pw_below_drewN (Below.refl _ _) _⟩
  · rw [Bool.not_eq_true] at hb
    rw [hb] at hC
    have HC := Aside0.mk hC
    have HBAD := Aside0.mk hb
    clear hC hb
    go_enter Try.func64,Try.ntmps64
    go_wp2_with (go_at_call 88;refine HC.out.mono ?_;rintro e w' ⟨rfl,q,rfl⟩)
    have M0 : Aside0 (IsMap ((w.drewN q).alloc (.map #[] 0)) w.heap.size (Value.int .i64) (seenOf (l.take 0)) ∧ Below w.heap.size w ((w.drewN q).alloc (.map #[] 0)) ∧ (l.take 0).Nodup) := ⟨isMap_made _,(pw_below_drewN (Below.refl _ _) _).alloc (Nat.le_refl _) _,by simp⟩
    clear hmm
    go_loopg [11] l.length (fun kq vi wr => ∃ j : Nat,vi = .int .i64 (j : Int) ∧ j + kq = l.length ∧ Aside0 (IsMap wr w.heap.size (Value.int .i64) (seenOf (l.take j)) ∧ Below w.heap.size w wr ∧ (l.take j).Nodup))
    case atStart => exact ⟨0,rfl,by simp,M0⟩
    case round =>
      obtain ⟨j,rfl,hj,HJ⟩ := hrel
      by_cases hjl : j < l.length
      · have hjz : (j : Int) < (l.length : Int) := by omega
        obtain ⟨x,hx⟩ : ∃ x,l.getD j 0 = x := ⟨_,rfl⟩
        obtain ⟨ad,e0,hx0⟩ := Kd.at_int HR.out (j : Int) (by omega) hjz
        subst e0
        have x0 : wr.cell? (ad.add j) = some (.int .i64 x) := (HJ.out.2.1.cell (World.block_lt_of_cell? w _ hx0)).trans (hx0.trans (by rw [← hx];rfl))
        have hts : l.take (j + 1) = l.take j ++ [x] := by
          rw [List.take_succ_eq_append_getElem hjl,← hx]
          simp [List.getD_eq_getElem?_getD,hjl]
        have TS := Aside0.mk hts
        have HX := Aside0.mk hx
        clear hx0 hx hts
        by_cases hin : x ∈ l.take j
        · have hget : (mget (seenOf (l.take j)) x).getD (.bool false) = .bool true := by rw [mget_seen];simp [hin]
          have HGET := Aside0.mk hget
          have HIN := Aside0.mk hin
          clear hget hin
          go_wp2_with (at_lookup;refine wp_look1 rfl _ _ 128 3 4 rfl (key_int Try.underlying3) Try.underlying128 rfl x rfl HJ.out.1 (.bool false) (by kernel_rfl) ?_;rw [HGET.out])
          go_ret
          have h72 : idsV l = 72 := idsV_two HBAD.out (fun hnd => by
            have h1 := TS.out
            have h2 := hnd.sublist (List.take_sublist (j + 1) l)
            rw [h1,List.nodup_append] at h2
            exact h2.2.2 x HIN.out x (by simp) rfl)
          exact ⟨by rw [h72];rfl,HJ.out.2.1⟩
        · have hget : (mget (seenOf (l.take j)) x).getD (.bool false) = .bool false := by rw [mget_seen];simp [hin]
          have HGET := Aside0.mk hget
          have HIN := Aside0.mk hin
          clear hget hin
          go_wp2_with (first | (at_lookup;refine wp_look1 rfl _ _ 128 3 4 rfl (key_int Try.underlying3) Try.underlying128 rfl x rfl HJ.out.1 (.bool false) (by kernel_rfl) ?_;rw [HGET.out]) | (at_mapUpdate;refine wp_put rfl _ _ _ 128 3 4 rfl (key_int Try.underlying3) Try.underlying128 rfl x rfl (.bool true) rfl HJ.out.1 ?_;intro w7 hm7 hg7 hs7))
          go_roundg (gk - 1)
          case measure => omega
          case rel => exact ⟨j + 1,by go_num,by omega,⟨by rw [TS.out,← mput_seen x (l.take j) HIN.out];exact hm7,pw_below_grown HJ.out.2.1 _ HJ.out.2.1.size hg7 (fun k e => by cases e;exact Nat.le_refl _),by rw [TS.out,List.nodup_append];exact ⟨HJ.out.2.2,by simp,fun a ha b hb e => by simp at hb;subst hb;subst e;exact HIN.out ha⟩⟩⟩
      · have hjn : j = l.length := by omega
        subst hjn
        have hnd := HJ.out.2.2
        rw [List.take_length] at hnd
        have HND := Aside0.mk hnd
        clear hnd
        go_wp2_with fail
        go_ret
        exact ⟨by rw [idsV_ok HBAD.out HND.out];rfl,HJ.out.2.1⟩
theorem cmpV_lt (x y : Int) : cmpV x y < 0 ↔ x < y := by
  unfold cmpV
  split
  · simp [*]
  · split <;> simp [*]
theorem cmpV_eq (x y : Int) : cmpV x y = 0 ↔ x = y := by
  unfold cmpV
  split
  · simp;omega
  · split
    · simp;omega
    · simp;omega
def aheadV (s x y : Int) : Bool := decide (scV y s < scV x s) || (decide (scV y s = scV x s) && decide (x < y))
theorem ltD (s x y : Int) : ltOf (cfD s) x y = aheadV s x y := by
  unfold ltOf cfD aheadV
  rw [Bool.eq_iff_iff]
  simp only [decide_eq_true_eq,Bool.or_eq_true,Bool.and_eq_true]
  by_cases h : scV y s = scV x s
  · rw [if_neg (by simp [cmpV_eq,h]),cmpV_lt]
    simp [h]
  · rw [if_pos (by simp [cmpV_eq,h]),cmpV_lt]
    simp [h]
theorem aheadV_iff (s x y : Int) : aheadV s x y = true ↔ (scV y s < scV x s ∨ (scV y s = scV x s ∧ x < y)) := by simp [aheadV]
theorem aheadV_no (s x y : Int) : aheadV s x y = false ↔ ¬ (scV y s < scV x s ∨ (scV y s = scV x s ∧ x < y)) := by rw [← Bool.not_eq_true,aheadV_iff]
theorem swoD (s : Int) : SWO (ltOf (cfD s)) where
  irrefl x := by rw [ltD,aheadV_no];omega
  trans x y z h1 h2 := by rw [ltD,aheadV_iff] at *;omega
  ntrans x y z h1 h2 := by rw [ltD,aheadV_no] at *;omega
theorem totD (s x y : Int) (h1 : ltOf (cfD s) x y = false) (h2 : ltOf (cfD s) y x = false) : x = y := by rw [ltD,aheadV_no] at *;omega
def ordOf (s : Int) (l : List Int) : List Int := l.mergeSort fun x y => !(aheadV s y x)
theorem ordOf_len (s : Int) (l : List Int) : (ordOf s l).length = l.length := by simp [ordOf]
theorem few : ∀ (N : Nat) (l : List Int),l.Nodup → (∀ x ∈ l,1 ≤ x ∧ x ≤ (N : Int)) → l.length ≤ N
  | 0,l,_,h => by
    cases l with
    | nil => simp
    | cons x l =>
      have := h x (by simp)
      omega
  | N + 1,l,hn,h => by
    have h1 := few N (l.erase ((N : Int) + 1)) (hn.erase _) (fun x hx => by
      have h2 := (hn.mem_erase_iff).1 hx
      have h3 := h x h2.2
      have := h2.1
      omega)
    have h4 : l.length ≤ (l.erase ((N : Int) + 1)).length + 1 := by
      rw [List.length_erase]
      split <;> omega
    omega
theorem ids_few {l : List Int} (h : idsV l = 0) : l.length ≤ 2147483647 := by
  unfold idsV at h
  split at h
  · exact absurd h (by decide)
  · split at h
    · rename_i h1 h2
      exact few 2147483647 l h2 (fun x hx => by
        have h3 : ¬ badId x = true := fun e => h1 (List.any_eq_true.2 ⟨x,hx,e⟩)
        simp [badId] at h3
        omega)
    · exact absurd h (by decide)
theorem below_rowPut {α : Type} [Inhabited α] {enc : α → Value} {B : Nat} {w0 w : World} {g q o : Nat} {d : Array α} (h : Below B w0 w) (hg : B ≤ g) : Below B w0 (putRow enc (Sort.ahead w q) g o d) :=
  ⟨h.os,h.tape,h.output,by simpa [putRow,mapBlock,Sort.ahead] using h.size,fun k hk => by
    rw [← h.block k hk]
    simp [putRow,mapBlock,Sort.ahead,Array.getElem?_modify,show g ≠ k by omega]⟩
theorem below_more (w : World) (os : Array Obj) : Below w.heap.size w (grow w os) :=
  ⟨rfl,rfl,rfl,by show w.heap.size ≤ (w.heap ++ os).size;rw [Array.size_append];omega,fun j hj => heap_grow_old w os hj⟩
def HeldAt (w : World) (base : Nat) (A : Option Addr) (l : List Int) : Prop := 0 < l.length → ∃ g,A = some ⟨g,0,none⟩ ∧ base ≤ g ∧ g < w.heap.size ∧ Holds (Value.int .i64) w g 0 l.toArray
theorem clone_any (A : Option Addr) (c : Nat) (l : List Int) (w : World) (h : Kd.C (Kd.int .i64) w A l.length l) (hs : l.length ≤ 2147483647) :
    Calls Try.prog 65 #[.slice A l.length c] w fun e w' => ∃ A' c',e = .returned (.slice A' l.length c') ∧ Below w.heap.size w w' ∧ HeldAt w' w.heap.size A' l := by
  by_cases hn : 0 < l.length
  · obtain ⟨b,off,rfl,hb,hc⟩ := ints_open h hn
    have hcon := Any.slices_Clone_int Try.cloneI b off l.length c l w (Nat.le_refl _) (by omega) hc
    refine hcon.mono ?_
    rintro e w' ⟨v',rfl,ho,hne,hbl⟩
    obtain ⟨h1,h2⟩ := ho
    rcases h2 with ⟨h2,h3⟩ | ⟨g,cap,cur,rfl,hg,hh,hcap,hmx,hsz,hcs⟩
    · omega
    · refine ⟨_,_,rfl,hbl,fun _ => ⟨g,rfl,hg,blk_lt hh,fun j hj => ?_⟩⟩
      rw [List.take_length] at hcs
      have hj' : j < l.length := by simpa using hj
      rw [blk_cell hh,blk_frozen hh]
      refine ⟨?_,rfl⟩
      have h5 : cur.toList[0 + j]? = (l.map (Value.int .i64))[j]? := by
        rw [← hcs,List.getElem?_take,if_pos (by omega),Nat.zero_add]
      rw [← Array.getElem?_toList,h5]
      simp [hj']
  · have h0 : l = [] := List.eq_nil_of_length_eq_zero (by omega)
    subst h0
    cases A with
    | none => exact (Any.slices_Clone_int_nil Try.cloneI 0 c w).mono fun e w' h => ⟨none,0,h.1,by rw [h.2];exact Below.refl _ _,fun h => absurd h (by simp)⟩
    | some a =>
      refine (Any.slices_Clone_int_zero Try.cloneI a c w).mono ?_
      rintro e w' ⟨v',rfl,ho,hne,hbl⟩
      rcases ho.2 with ⟨h2,h3⟩ | ⟨g,cap,cur,rfl,hg,hh,hcap,hmx,hsz,hcs⟩
      · exact absurd h2 hne
      · exact ⟨_,_,rfl,hbl,fun h => absurd h (by simp)⟩
theorem sort_any (A : Option Addr) (c B : Nat) (s : Int) (l : List Int) (w : World) (base : Nat) (hbase : base ≤ w.heap.size) (h : HeldAt w base A l) (hs : l.length ≤ 2147483647) (hB : w.cell? ⟨B,0,none⟩ = some (.int .u64 s)) (hne : ∀ g,A = some ⟨g,0,none⟩ → 0 < l.length → B ≠ g) :
    Calls Try.prog 67 #[.slice A l.length c,.func (.func 68) #[] #[.pointer (some ⟨B,0,none⟩)]] w fun e w' => e = .returned (.tuple #[]) ∧ Below base w w' ∧ HeldAt w' base A (ordOf s l) := by
  have hBlt := World.block_lt_of_cell? w _ hB
  by_cases hn : 0 < l.length
  · obtain ⟨g,rfl,hg,hlt,hH⟩ := h hn
    have eg : ∀ args w,(callFunc 68 args).run Try.prog w = .ok (.enter 68 args) w := enters_of Try.func68 (by kernel_rfl) rfl
    have hcmp : CmpReads Try.prog 68 #[.pointer (some ⟨B,0,none⟩)] (Value.int .i64) (cfD s) g 0 l.toArray.size w := fun m os dk hd x y => order1_any x y s B _ (by
      unfold sortWorld
      rw [cell?_grow _ _ _ (by rw [size_putRow];exact hBlt),cell?_putRow_other _ _ g 0 dk _ (Or.inl (hne g rfl hn))]
      exact hB)
    have hcon := Any.slices_SortFunc_total Try.sortI (Value.int .i64) (fun _ => rfl) (cfD s) (swoD s) 68 #[.pointer (some ⟨B,0,none⟩)] g 0 c l.toArray w eg hcmp.lays hH hlt (by simp;omega) (totD s)
    rw [show (l.toArray).size = l.length by simp] at hcon
    refine hcon.mono ?_
    rintro e w' ⟨rfl,n,os,rfl⟩
    have e1 : (l.mergeSort fun x y => !(ltOf (cfD s)) y x) = ordOf s l := by
      unfold ordOf
      congr 1
      funext x y
      rw [ltD]
    rw [show (l.toArray).toList = l by simp,e1]
    refine ⟨rfl,?_,fun _ => ⟨g,rfl,hg,?_,?_⟩⟩
    · unfold sortWorld
      exact below_then (below_rowPut (Below.refl base w) hg) (by rw [size_putRow];exact hbase) (below_more _ os)
    · unfold sortWorld
      have := (below_more (putRow (Value.int .i64) (Sort.ahead w n) g 0 (ordOf s l).toArray) os).size
      rw [size_putRow] at this
      exact Nat.lt_of_lt_of_le hlt this
    · exact holds_sortWorld _ w g 0 n l.toArray _ os hlt hH (by simp [ordOf_len])
  · have h0 : l = [] := List.eq_nil_of_length_eq_zero (by omega)
    subst h0
    have hcon := AnyF.slices_SortFunc_none (P := Try.prog) (ρ := Try.sortI_ren) { Try.sortI with } A c (.func (.func 68) #[] #[.pointer (some ⟨B,0,none⟩)]) w
    exact hcon.mono fun e w' h => ⟨h.1,by rw [h.2];exact Below.refl _ _,fun h => absurd h (by simp [ordOf])⟩
theorem HeldAt.lower {w : World} {base b : Nat} {A : Option Addr} {l : List Int} (h : HeldAt w base A l) (hb : b ≤ base) : HeldAt w b A l := fun hn => by
  obtain ⟨g,e,h1,h2,h3⟩ := h hn
  exact ⟨g,e,by omega,h2,h3⟩
theorem HeldAt.below {w w1 : World} {base : Nat} {A : Option Addr} {l : List Int} (h : HeldAt w base A l) (hb : Below w.heap.size w w1) : HeldAt w1 base A l := fun hn => by
  obtain ⟨g,e,h1,h2,h3⟩ := h hn
  refine ⟨g,e,h1,Nat.lt_of_lt_of_le h2 hb.size,fun j hj => ?_⟩
  obtain ⟨h4,h5⟩ := h3 j hj
  exact ⟨(hb.cell (p := ⟨g,0 + j,none⟩) h2).trans h4,(hb.frozen (p := ⟨g,0 + j,none⟩) h2).trans h5⟩
theorem HeldAt.lt {w : World} {base : Nat} {A : Option Addr} {l : List Int} (h : HeldAt w base A l) (hn : 0 < l.length) : ∀ g,A = some ⟨g,0,none⟩ → g < w.heap.size := fun g e => by
  obtain ⟨g',e',h1,h2,h3⟩ := h hn
  rw [e] at e'
  cases e'
  exact h2
theorem HeldAt.C {w : World} {base : Nat} {A : Option Addr} {l : List Int} (h : HeldAt w base A l) (hn : 0 < l.length) : ∃ g,A = some ⟨g,0,none⟩ ∧ w.cell? ⟨g,0,none⟩ = some (.int .i64 (l.getD 0 0)) := by
  obtain ⟨g,e,h1,h2,h3⟩ := h hn
  refine ⟨g,e,?_⟩
  have := (h3 0 (by simpa using hn)).1
  rw [this]
  simp [getElem!_def,List.getD_eq_getElem?_getD,hn]
theorem name_any (s : ByteArray) (W : World) : Calls Try.prog 39 #[.string s] W fun e w' => e = .returned (.int .i64 (nameV s)) ∧ ∃ q,w' = W.drewN q :=
  (ident_CheckName.calls 40 s (nameV s) W (name_tells s 40 (by omega))).mono fun e w' h => ⟨h.1,h.2.out⟩
theorem sum_any (s : ByteArray) (W : World) (h : nameV s = 0) : Calls Try.prog 66 #[.string s] W fun e w' => e = .returned (.int .u64 (sumV s)) ∧ ∃ q,w' = W.drewN q :=
  (ident_Sum.calls 40 s (sumV s) W (sum_tells s (nameOk_size (nameV_ok h)).2 40 (by omega))).mono fun e w' h => ⟨h.1,h.2.out⟩
def drawE (l : List Int) (s : ByteArray) : Int := if nameV s = 0 then idsV l else nameV s
def OrdOut (w : World) (l : List Int) (s : ByteArray) (e : Ending) (w' : World) : Prop :=
  ∃ A c,e = .returned (.tuple #[.slice A (if drawE l s = 0 then l.length else 0) c,.int .i64 (drawE l s)]) ∧ Below w.heap.size w w' ∧ (drawE l s = 0 → HeldAt w' w.heap.size A (ordOf (sumV s) l))
set_option maxHeartbeats 1000000 in
set_option maxRecDepth 100000 in
theorem order_any (A : Option Addr) (c : Nat) (l : List Int) (s : ByteArray) (w : World) (h : Kd.C (Kd.int .i64) w A l.length l) :
    Calls Try.prog 48 #[.slice A l.length c,.string s] w fun e w' => OrdOut w l s e w' := by
  have HR := Aside0.mk h
  have NM := Aside0.mk (fun W => name_any s W)
  clear h
  obtain ⟨n,hn⟩ : ∃ n,nameV s = n := ⟨_,rfl⟩
  rw [hn] at NM
  by_cases h0 : n = 0
  · subst h0
    have CK : Aside0 (∀ w1,Below w.heap.size w w1 → Calls Try.prog 64 #[.slice A l.length c] w1 fun e w' => e = .returned (.int .i64 (idsV l)) ∧ Below w1.heap.size w1 w') := ⟨fun w1 hb => checked_any A c l w1 (Kd.C_below HR.out hb)⟩
    obtain ⟨v,hv⟩ : ∃ v,idsV l = v := ⟨_,rfl⟩
    have hd : drawE l s = v := by unfold drawE;rw [if_pos hn,hv]
    rw [hv] at CK
    by_cases h1 : v = 0
    · subst h1
      have hf := ids_few hv
      have SM := Aside0.mk (fun W => sum_any s W hn)
      have HD := Aside0.mk hd
      clear hd hv hn
      go_enter Try.func48,Try.ntmps48
      go_wp2_with (first | (go_at_call 39;refine (NM.out _).mono ?_;rintro e w' ⟨rfl,q,rfl⟩;have HB1 := Aside0.mk (pw_below_drewN (Below.refl w.heap.size w) q)) | (go_at_call 64;refine (CK.out _ HB1.out).mono ?_;rintro e w2 ⟨rfl,hb2⟩;have HB2 := Aside0.mk (below_then HB1.out (Nat.le_refl _) hb2);clear hb2) | (go_at_call 65;refine (clone_any A c l w2 (Kd.C_below HR.out HB2.out) hf).mono ?_;rintro e w3 ⟨A',c',rfl,hb3,hh3⟩;have HB3 := Aside0.mk (below_then HB2.out HB2.out.size hb3);have HH3 := Aside0.mk hh3;have HS3 := Aside0.mk hb3.size;clear hb3 hh3) | (go_at_call 66;refine (SM.out _).mono ?_;rintro e w4 ⟨rfl,q3,hq3⟩;have HB4 := Aside0.mk (show Below w3.heap.size w3 w4 by rw [hq3];exact pw_below_drewN (Below.refl _ _) q3);clear hq3))
      obtain ⟨w5,hw5⟩ : ∃ w5,w5 = w4.alloc (Obj.cells #[Value.int IntKind.u64 (sumV s)] 22) := ⟨_,rfl⟩
      have hb5 : Below w4.heap.size w4 w5 := by rw [hw5];exact below_alloc (Below.refl _ _) _
      have hc5 : w5.cell? ⟨w4.heap.size,0,none⟩ = some (.int .u64 (sumV s)) := by rw [hw5];exact (blk_cell (heap_alloc_new w4 _) 0).trans rfl
      have h5 : HeldAt w5 w.heap.size A' l := ((HH3.out.lower HB2.out.size).below HB4.out).below hb5
      have hB5 : Below w.heap.size w w5 := below_then (below_then HB3.out HB3.out.size HB4.out) (Nat.le_trans HB3.out.size HB4.out.size) hb5
      rw [← hw5]
      have C5 := Aside0.mk hc5
      have H5 := Aside0.mk h5
      have B5 := Aside0.mk hB5
      have hlt4 : ∀ g,A' = some ⟨g,0,none⟩ → 0 < l.length → g < w4.heap.size := fun g e hn => Nat.lt_of_lt_of_le (HH3.out.lt hn g e) HB4.out.size
      have L4 := Aside0.mk hlt4
      clear hw5 hb5 hc5 h5 hB5 hlt4
      obtain ⟨B,hBe⟩ : ∃ B,B = w4.heap.size := ⟨_,rfl⟩
      rw [← hBe] at C5 L4 ⊢
      clear hBe
      refine (sort_any A' c' B (sumV s) l w5 w.heap.size B5.out.size H5.out hf C5.out (fun g e hn => Nat.ne_of_gt (L4.out g e hn))).mono ?_
      rintro e w6 ⟨rfl,hb6,hh6⟩
      have HB6 := Aside0.mk hb6
      have HH6 := Aside0.mk hh6
      clear hb6 hh6
      go_wp2_with fail
      go_ret2
      exact ⟨A',c',by rw [HD.out];rfl,B5.out.trans HB6.out,fun _ => HH6.out⟩
    · have hb : (v != 0) = true := by simpa using h1
      have HD := Aside0.mk hd
      have H1 := Aside0.mk h1
      clear hd hv hn h1
      go_enter Try.func48,Try.ntmps48
      go_wp2_with (first | (go_at_call 39;refine (NM.out _).mono ?_;rintro e w' ⟨rfl,q,rfl⟩;have HB1 := Aside0.mk (pw_below_drewN (Below.refl w.heap.size w) q)) | (go_at_call 64;refine (CK.out _ HB1.out).mono ?_;rintro e w2 ⟨rfl,hb2⟩;have HB2 := Aside0.mk (below_then HB1.out (Nat.le_refl _) hb2);clear hb2))
      go_ret2
      exact ⟨none,0,by rw [HD.out,if_neg H1.out];rfl,HB2.out,fun h => absurd (HD.out.symm.trans h) H1.out⟩
  · have hb : (n != 0) = true := by simpa using h0
    have hd : drawE l s = n := by unfold drawE;rw [if_neg (by rw [hn];exact h0),hn]
    have HD := Aside0.mk hd
    have H1 := Aside0.mk h0
    clear hd hn h0
    go_enter Try.func48,Try.ntmps48
    go_wp2_with (go_at_call 39;refine (NM.out _).mono ?_;rintro e w' ⟨rfl,q,rfl⟩;have HB1 := Aside0.mk (pw_below_drewN (Below.refl w.heap.size w) q))
    go_ret2
    exact ⟨none,0,by rw [HD.out,if_neg H1.out];rfl,HB1.out,fun h => absurd (HD.out.symm.trans h) H1.out⟩
def drawV (l : List Int) (s : ByteArray) : Int × Int := if drawE l s = 0 then (if l.length = 0 then (0,4) else ((ordOf (sumV s) l).getD 0 0,0)) else (0,drawE l s)
def ident_Draw.f (l : List Int) (s : ByteArray) : Option (Int × Int) := some (drawV l s)
set_option maxHeartbeats 1000000 in
set_option maxRecDepth 100000 in
theorem ident_Draw.calls (A0 : Option Addr) (c0 : Nat) (l0 : List Int) (a1 : ByteArray) (r1 : Int) (r2 : Int) (w : World) (hr0 : Kd.C (Kd.int .i64) w A0 l0.length l0) (hc0 : l0.length ≤ c0) (h : ident_Draw.f l0 a1 = some (r1,r2)) :
    Calls Try.prog 30 #[.slice A0 l0.length c0,.string a1] w fun e w' => e = .returned (.tuple #[.int .i64 r1,.int .i64 r2]) ∧ Below w.heap.size w w' := by
  have OR := Aside0.mk (order_any A0 c0 l0 a1 w hr0)
  have hv : drawV l0 a1 = (r1,r2) := Option.some.inj h
  clear h
  have hmax := Kd.C_max hr0
  clear hr0
  by_cases h0 : drawE l0 a1 = 0
  · by_cases hl : l0.length = 0
    · have hv2 : drawV l0 a1 = (0,4) := by unfold drawV;rw [if_pos h0,if_pos hl]
      obtain ⟨rfl,rfl⟩ := Prod.mk.inj (hv.symm.trans hv2)
      have H0 := Aside0.mk h0
      have HL := Aside0.mk hl
      clear hv hv2 h0 hl
      go_enter Try.func30,Try.ntmps30
      go_wp2_with (go_at_call 48;refine OR.out.mono ?_;rintro e w1 ⟨A,c,rfl,hb,hh⟩;rw [H0.out,if_pos rfl,HL.out];have HB := Aside0.mk hb;clear hb hh)
      go_ret2
      exact ⟨rfl,HB.out⟩
    · have hv2 : drawV l0 a1 = ((ordOf (sumV a1) l0).getD 0 0,0) := by unfold drawV;rw [if_pos h0,if_neg hl]
      obtain ⟨rfl,rfl⟩ := Prod.mk.inj (hv.symm.trans hv2)
      obtain ⟨r,hr⟩ : ∃ r,(ordOf (sumV a1) l0).getD 0 0 = r := ⟨_,rfl⟩
      rw [hr]
      have H0 := Aside0.mk h0
      have HR := Aside0.mk hr
      have HL : Aside0 (0 < (ordOf (sumV a1) l0).length) := ⟨by rw [ordOf_len];omega⟩
      have hlb : ((l0.length : Int) == 0) = false := by simpa using hl
      have hl2 : (0 : Int) < (l0.length : Int) := by omega
      clear hv hv2 h0 hr hl
      go_enter Try.func30,Try.ntmps30
      go_wp2_with (go_at_call 48;refine OR.out.mono ?_;rintro e w1 ⟨A,c,rfl,hb,hh⟩;obtain ⟨g,rfl,hcell⟩ := (hh H0.out).C HL.out;rw [HR.out] at hcell;rw [H0.out,if_pos rfl];have HB := Aside0.mk hb;clear hb hh)
      go_ret2
      exact ⟨rfl,HB.out⟩
  · obtain ⟨v,hvv⟩ : ∃ v,drawE l0 a1 = v := ⟨_,rfl⟩
    have hv2 : drawV l0 a1 = (0,v) := by unfold drawV;rw [if_neg h0,hvv]
    obtain ⟨rfl,rfl⟩ := Prod.mk.inj (hv.symm.trans hv2)
    have hb : (r2 != 0) = true := by rw [← hvv];simpa using h0
    have HV := Aside0.mk hvv
    have HN : Aside0 (¬ r2 = 0) := ⟨by rw [← hvv];exact h0⟩
    clear hv hv2 h0 hvv
    go_enter Try.func30,Try.ntmps30
    go_wp2_with (go_at_call 48;refine OR.out.mono ?_;rintro e w1 ⟨A,c,rfl,hb,hh⟩;rw [HV.out,if_neg HN.out];have HB := Aside0.mk hb;clear hb hh)
    go_ret2
    exact ⟨rfl,HB.out⟩
end Go.Proofs.Ytlpmblcdafdfdaa.PA
