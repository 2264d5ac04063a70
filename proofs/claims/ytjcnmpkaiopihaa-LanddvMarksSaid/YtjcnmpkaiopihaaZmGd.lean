/- The document's Dests, Offers and Copy in plain terms. Conditions: what is heard may be, the lists fit in memory. -/
import Derived.Test.YtjcnmpkaiopihaaZmGu
import Derived.Test.YtjcnmpkaiopihaaZmPAx6
import Derived.Test.YtjcnmpkaiopihaaZmPAx7
import Derived.Test.YtjcnmpkaiopihaaZmPAx13
namespace Go.Proofs.Ytjcnmpkaiopihaa.PA
open Go.RowKit Go.Proofs.YtjcnmpkaiopihaaW.PrintWords Go.Proofs.YtjcnmpkaiopihaaW.PrintLast Go.Proofs.YtjcnmpkaiopihaaW.PrintMore
set_option linter.unusedVariables false
set_option linter.unusedSimpArgs false
theorem beaconref13_insert_l0_eq (k : Nat) (x0 : List Int) (x1 : Int) (x5 : List Int) (x6 : Bool) (x7 : Int) : beaconref13_insert.l0 (k + 1) x0 x1 x5 x6 x7 = if x7 < (x0.length : Int) then (if x6 = true then (beaconref13_insert.j1 k x0 x1 x5 x6 x7 false) else (if 0 ≤ x7 then (beaconref13_insert.j1 k x0 x1 x5 x6 x7 (decide ((rd x0 x7) ≥ x1))) else (none))) else (if x6 = true then (some x5) else (if x5.length < 17592186044416 then (some (x5 ++ [x1])) else (none))) := by rw [beaconref13_insert.l0]
theorem beaconref13_insert_j1_eq (k : Nat) (x0 : List Int) (x1 : Int) (x5 : List Int) (x6 : Bool) (x7 : Int) (x24 : Bool) : beaconref13_insert.j1 (k + 1) x0 x1 x5 x6 x7 x24 = if x24 = true then (if 0 ≤ x7 then (if x7 < (x0.length : Int) then (if (rd x0 x7) > x1 then (if x5.length < 17592186044416 then ((some (x5 ++ [x1] : List Int)).bind fun y151 => (if y151.length < 17592186044416 then (beaconref13_insert.l0 k x0 x1 (y151 ++ [rd x0 x7]) true (wrap64 (x7 + 1))) else (none))) else (none)) else (if x5.length < 17592186044416 then (beaconref13_insert.l0 k x0 x1 (x5 ++ [rd x0 x7]) true (wrap64 (x7 + 1))) else (none))) else (none)) else (none)) else (if 0 ≤ x7 then (if x7 < (x0.length : Int) then (if x5.length < 17592186044416 then (beaconref13_insert.l0 k x0 x1 (x5 ++ [rd x0 x7]) x6 (wrap64 (x7 + 1))) else (none)) else (none)) else (none)) := by rw [beaconref13_insert.j1]
theorem beaconref13_Dests_l0_eq (k : Nat) (x0 : List (S54)) (x1 : Int) (x5 : List Int) (x6 : Int) : beaconref13_Dests.l0 (k + 1) x0 x1 x5 x6 = if x6 < (x0.length : Int) then (beaconref13_Dests.l1 k x0 x1 x5 x6 0) else (some x5) := by rw [beaconref13_Dests.l0]
theorem beaconref13_Dests_l1_eq (k : Nat) (x0 : List (S54)) (x1 : Int) (x5 : List Int) (x6 : Int) (x7 : Int) : beaconref13_Dests.l1 (k + 1) x0 x1 x5 x6 x7 = if 0 ≤ x6 then (if x6 < (x0.length : Int) then (if x7 < (((rd_T54 x0 x6).f2).length : Int) then (if 0 ≤ x7 then (if ((rd_T56 ((rd_T54 x0 x6).f2) x7).f1) = x1 then ((beaconref13_insert.f k x5 ((rd_T56 ((rd_T54 x0 x6).f2) x7).f0)).bind fun t177 => (beaconref13_Dests.l1 k x0 x1 t177 x6 (wrap64 (x7 + 1)))) else (beaconref13_Dests.l1 k x0 x1 x5 x6 (wrap64 (x7 + 1)))) else (none)) else (beaconref13_Dests.l0 k x0 x1 x5 (wrap64 (x6 + 1)))) else (none)) else (none) := by rw [beaconref13_Dests.l1]
theorem beaconref13_find_l0_eq (k : Nat) (x0 : List (S56)) (x1 : Int) (x2 : Int) (x8 : Int) : beaconref13_find.l0 (k + 1) x0 x1 x2 x8 = if x8 < (x0.length : Int) then (if 0 ≤ x8 then (if ((rd_T56 x0 x8).f1) = x1 then (if ((rd_T56 x0 x8).f0) = x2 then (some ((rd_T56 x0 x8).f0,(rd_T56 x0 x8).f1,(rd_T56 x0 x8).f2,(rd_T56 x0 x8).f3,(rd_T56 x0 x8).f4,true)) else (beaconref13_find.l0 k x0 x1 x2 (wrap64 (x8 + 1)))) else (beaconref13_find.l0 k x0 x1 x2 (wrap64 (x8 + 1)))) else (none)) else (some (0,0,0,0,0,false)) := by rw [beaconref13_find.l0]
theorem beaconref13_Offers_l0_eq (k : Nat) (x0 : List (S54)) (x1 : Int) (x2 : Int) (x7 : List (S54)) (x8 : Int) : beaconref13_Offers.l0 (k + 1) x0 x1 x2 x7 x8 = if x8 < (x0.length : Int) then (if 0 ≤ x8 then ((beaconref13_find.f k ((rd_T54 x0 x8).f2) x1 x2).bind fun bt188 => (if bt188.2.2.2.2.2 = true then (if x7.length < 3518437208883 then (beaconref13_Offers.l0 k x0 x1 x2 (x7 ++ [(⟨(rd_T54 x0 x8).f0,(rd_T54 x0 x8).f1,(([(⟨bt188.1,bt188.2.1,bt188.2.2.1,bt188.2.2.2.1,bt188.2.2.2.2.1⟩ : S56)] : List (S56)))⟩ : S54)]) (wrap64 (x8 + 1))) else (none)) else (beaconref13_Offers.l0 k x0 x1 x2 x7 (wrap64 (x8 + 1))))) else (none)) else (some x7) := by rw [beaconref13_Offers.l0]
theorem beaconref13_News_l0_eq (k : Nat) (x0 : List (S56)) (x3 : List (S56)) (x4 : Int) : beaconref13_News.l0 (k + 1) x0 x3 x4 = if x4 < (x0.length : Int) then (if 0 ≤ x4 then (if x3.length < 3518437208883 then (beaconref13_News.l0 k x0 (x3 ++ [(⟨(rd_T56 x0 x4).f0,(rd_T56 x0 x4).f1,(rd_T56 x0 x4).f2,(rd_T56 x0 x4).f3,(rd_T56 x0 x4).f4⟩ : S56)]) (wrap64 (x4 + 1))) else (none)) else (none)) else (some x3) := by rw [beaconref13_News.l0]
theorem beaconref13_Copy_l0_eq (k : Nat) (x0 : List (S54)) (x3 : List (S54)) (x4 : Int) : beaconref13_Copy.l0 (k + 1) x0 x3 x4 = if x4 < (x0.length : Int) then (if 0 ≤ x4 then ((beaconref13_News.f k ((rd_T54 x0 x4).f2)).bind fun t288 => (if x3.length < 3518437208883 then (beaconref13_Copy.l0 k x0 (x3 ++ [(⟨(rd_T54 x0 x4).f0,(rd_T54 x0 x4).f1,t288⟩ : S54)]) (wrap64 (x4 + 1))) else (none))) else (none)) else (some x3) := by rw [beaconref13_Copy.l0]
theorem Ev.nextBind {α β : Type} {F : Nat → Option β} {G : Nat → Option α} {H : α → Nat → Option β} {a : α} {r : β} (hG : Ev G a) (hH : Ev (H a) r) (e : ∀ k,F (k + 1) = (G k).bind fun x => H x k) : Ev F r := by
  obtain ⟨K1,h1⟩ := hG
  obtain ⟨K2,h2⟩ := hH
  refine ⟨max K1 K2 + 1,fun k hk => ?_⟩
  obtain ⟨j,rfl⟩ : ∃ j,k = j + 1 := ⟨k - 1,by omega⟩
  rw [e,h1 j (by omega),Option.bind_some]
  exact h2 j (by omega)
theorem Ev.now {α : Type} {F : Nat → Option α} {r : α} (e : ∀ k,F (k + 1) = some r) : Ev F r := ⟨1,fun k hk => by
  obtain ⟨j,rfl⟩ : ∃ j,k = j + 1 := ⟨k - 1,by omega⟩
  exact e j⟩
theorem rdi (l : List Int) (i : Nat) (h : i < l.length) : rd l (i : Int) = l[i] := by
  unfold rd
  rw [Int.toNat_natCast]
  simp [List.getD_eq_getElem?_getD,h]
def insV (n : Int) : List Int → List Int
  | [] => [n]
  | a :: r => if n ≤ a then (if n < a then n :: a :: r else a :: r) else a :: insV n r
theorem insV_mem {n x : Int} : ∀ {l : List Int},x ∈ insV n l ↔ x = n ∨ x ∈ l
  | [] => by simp [insV]
  | a :: r => by
    rw [insV]
    by_cases h1 : n ≤ a
    · rw [if_pos h1]
      by_cases h2 : n < a
      · rw [if_pos h2,List.mem_cons]
      rw [if_neg h2]
      have : n = a := by omega
      rw [this]
      simp
    rw [if_neg h1,List.mem_cons,insV_mem,List.mem_cons]
    constructor
    · rintro (h | h | h)
      · exact .inr (.inl h)
      · exact .inl h
      exact .inr (.inr h)
    rintro (h | h | h)
    · exact .inr (.inl h)
    · exact .inl h
    exact .inr (.inr h)
theorem insV_rise {n : Int} : ∀ {l : List Int},l.Pairwise (· < ·) → (insV n l).Pairwise (· < ·)
  | [],_ => by simp [insV]
  | a :: r,h => by
    have p := List.pairwise_cons.1 h
    rw [insV]
    by_cases h1 : n ≤ a
    · rw [if_pos h1]
      by_cases h2 : n < a
      · rw [if_pos h2]
        refine List.pairwise_cons.2 ⟨fun x hx => ?_,h⟩
        rcases List.mem_cons.1 hx with rfl | hx
        · exact h2
        exact Int.lt_trans h2 (p.1 x hx)
      rw [if_neg h2]
      exact h
    rw [if_neg h1]
    refine List.pairwise_cons.2 ⟨fun x hx => ?_,insV_rise p.2⟩
    rcases insV_mem.1 hx with rfl | hx
    · omega
    exact p.1 x hx
theorem rise_nodup {l : List Int} (h : l.Pairwise (· < ·)) : l.Nodup := h.imp (fun h e => by omega)
theorem ins_put (x0 : List Int) (n : Int) (hl : x0.length ≤ 4294967296) : ∀ (m i : Nat) (out : List Int),i + m = x0.length → out.length ≤ 4294967297 + i → Ev (fun k => beaconref13_insert.l0 k x0 n out true (i : Int)) (out ++ x0.drop i)
  | 0,i,out,e,ho => by
    rw [List.drop_eq_nil_of_le (by omega),List.append_nil]
    exact Ev.now fun k => by rw [beaconref13_insert_l0_eq,if_neg (by omega),if_pos rfl]
  | m + 1,i,out,e,ho => by
    have hi : i < x0.length := by omega
    have ih := ins_put x0 n hl m (i + 1) (out ++ [x0[i]]) (by omega) (by simp;omega)
    rw [List.drop_eq_getElem_cons hi]
    rw [List.append_assoc] at ih
    refine Ev.next (G := fun k => beaconref13_insert.j1 k x0 n out true (i : Int) false) ?_ (fun k => by rw [beaconref13_insert_l0_eq,if_pos (by omega),if_pos rfl])
    refine Ev.next ih fun k => ?_
    rw [beaconref13_insert_j1_eq,if_neg (by decide),if_pos (by omega),if_pos (by omega),if_pos (by omega),rdi _ _ hi,next64 _ (by omega)]
theorem ins_go (x0 : List Int) (n : Int) (hl : x0.length ≤ 4294967296) : ∀ (m i : Nat) (out : List Int),i + m = x0.length → out.length ≤ 4294967296 + i → Ev (fun k => beaconref13_insert.l0 k x0 n out false (i : Int)) (out ++ insV n (x0.drop i))
  | 0,i,out,e,ho => by
    rw [List.drop_eq_nil_of_le (by omega),insV]
    exact Ev.now fun k => by rw [beaconref13_insert_l0_eq,if_neg (by omega),if_neg (by decide),if_pos (by omega)]
  | m + 1,i,out,e,ho => by
    have hi : i < x0.length := by omega
    rw [List.drop_eq_getElem_cons hi,insV]
    refine Ev.next (G := fun k => beaconref13_insert.j1 k x0 n out false (i : Int) (decide (x0[i] ≥ n))) ?_ (fun k => by rw [beaconref13_insert_l0_eq,if_pos (by omega),if_neg (by decide),if_pos (by omega),rdi _ _ hi])
    by_cases h1 : n ≤ x0[i]
    · rw [if_pos h1]
      by_cases h2 : n < x0[i]
      · rw [if_pos h2]
        have ih := ins_put x0 n hl m (i + 1) (out ++ [n] ++ [x0[i]]) (by omega) (by simp;omega)
        rw [List.append_assoc,List.append_assoc] at ih
        refine Ev.next ih fun k => ?_
        rw [beaconref13_insert_j1_eq,if_pos (decide_eq_true h1),if_pos (by omega),if_pos (by omega),rdi _ _ hi,if_pos h2,if_pos (by omega),Option.bind_some,if_pos (by simp;omega),next64 _ (by omega)]
        simp
      rw [if_neg h2]
      have ih := ins_put x0 n hl m (i + 1) (out ++ [x0[i]]) (by omega) (by simp;omega)
      rw [List.append_assoc] at ih
      refine Ev.next ih fun k => ?_
      rw [beaconref13_insert_j1_eq,if_pos (decide_eq_true h1),if_pos (by omega),if_pos (by omega),rdi _ _ hi,if_neg (by omega),if_pos (by omega),next64 _ (by omega)]
    rw [if_neg h1]
    have ih := ins_go x0 n hl m (i + 1) (out ++ [x0[i]]) (by omega) (by simp;omega)
    rw [List.append_assoc] at ih
    refine Ev.next ih fun k => ?_
    rw [beaconref13_insert_j1_eq,if_neg (by simp;omega),if_pos (by omega),if_pos (by omega),if_pos (by omega),rdi _ _ hi,next64 _ (by omega)]
theorem ins_all (x0 : List Int) (n : Int) (hl : x0.length ≤ 4294967296) : Ev (fun k => beaconref13_insert.f k x0 n) (insV n x0) := by
  have := ins_go x0 n hl x0.length 0 [] (by omega) (by simp)
  exact this
def dstN (kind : Int) (D : List Int) (n : S56) : List Int := if n.f1 = kind then insV n.f0 D else D
def dstH (kind : Int) (D : List Int) (h : S54) : List Int := h.f2.foldl (dstN kind) D
def dstA (kind : Int) (l : List S54) : List Int := l.foldl (dstH kind) []
def RisOk (D : List Int) : Prop := D.Pairwise (· < ·) ∧ ∀ x ∈ D,okId x = true
theorem RisOk.len {D : List Int} (h : RisOk D) : D.length ≤ 2147483647 := pigeon 2147483647 D (rise_nodup h.1) fun x hx => okId_bounds (h.2 x hx)
theorem dstN_ok {kind : Int} {D : List Int} {n : S56} (h : RisOk D) (hn : okId n.f0 = true) : RisOk (dstN kind D n) := by
  unfold dstN
  split
  · exact ⟨insV_rise h.1,fun x hx => by rcases insV_mem.1 hx with rfl | hx;exact hn;exact h.2 x hx⟩
  exact h
theorem dstF_ok {kind : Int} : ∀ (ns : List S56) (D : List Int),RisOk D → (∀ n ∈ ns,okId n.f0 = true) → RisOk (ns.foldl (dstN kind) D)
  | [],D,h,_ => h
  | n :: r,D,h,hn => dstF_ok r _ (dstN_ok h (hn n List.mem_cons_self)) fun x hx => hn x (List.mem_cons_of_mem _ hx)
theorem dstH_ok {kind : Int} {D : List Int} {h : S54} (hD : RisOk D) (ho : OkH h) : RisOk (dstH kind D h) := dstF_ok _ _ hD fun n hn => (ho.2.1 n hn).2
theorem dstA_ok' {kind : Int} : ∀ (l : List S54) (D : List Int),RisOk D → (∀ h ∈ l,OkH h) → RisOk (l.foldl (dstH kind) D)
  | [],D,h,_ => h
  | a :: r,D,h,ho => dstA_ok' r _ (dstH_ok h (ho a List.mem_cons_self)) fun x hx => ho x (List.mem_cons_of_mem _ hx)
theorem risOk_nil : RisOk [] := ⟨List.Pairwise.nil,by simp⟩
theorem dst_l1 (l : List S54) (kind : Int) (i : Nat) (hi : i < l.length) (ho : OkH l[i]) (r : List Int) : ∀ (m j : Nat) (D : List Int),j + m = l[i].f2.length → RisOk D →
    Ev (fun k => beaconref13_Dests.l0 k l kind ((l[i].f2.drop j).foldl (dstN kind) D) (wrap64 ((i : Int) + 1))) r → Ev (fun k => beaconref13_Dests.l1 k l kind D (i : Int) (j : Int)) r
  | 0,j,D,e,hD,h => by
    rw [List.drop_eq_nil_of_le (by omega)] at h
    have hat : l.getD i z54 = l[i] := by simp [List.getD_eq_getElem?_getD,hi]
    refine Ev.next h fun k => ?_
    rw [beaconref13_Dests_l1_eq,if_pos (by omega),if_pos (by omega),rdh,hat,if_neg (by omega)]
    rfl
  | m + 1,j,D,e,hD,h => by
    have hj : j < l[i].f2.length := by omega
    have hat : l.getD i z54 = l[i] := by simp [List.getD_eq_getElem?_getD,hi]
    have hjt : l[i].f2.getD j z56 = l[i].f2[j] := by simp [List.getD_eq_getElem?_getD,hj]
    rw [List.drop_eq_getElem_cons hj,List.foldl_cons] at h
    have hm := ho.2.1 l[i].f2[j] (List.getElem_mem hj)
    have hbd := ho.2.2
    have hlen := hD.len
    have ih := dst_l1 l kind i hi ho r m (j + 1) (dstN kind D l[i].f2[j]) (by omega) (dstN_ok hD hm.2) h
    by_cases hk : l[i].f2[j].f1 = kind
    · have hs : dstN kind D l[i].f2[j] = insV l[i].f2[j].f0 D := by unfold dstN;rw [if_pos hk]
      rw [hs] at ih
      refine Ev.nextBind (ins_all D l[i].f2[j].f0 (by omega)) (H := fun t k => beaconref13_Dests.l1 k l kind t (i : Int) ((j + 1 : Nat) : Int)) ih fun k => ?_
      rw [beaconref13_Dests_l1_eq,if_pos (by omega),if_pos (by omega),rdh,hat,if_pos (by omega),if_pos (by omega),rdn,hjt,if_pos hk,next64 _ (by omega)]
    have hs : dstN kind D l[i].f2[j] = D := by unfold dstN;rw [if_neg hk]
    rw [hs] at ih
    refine Ev.next ih fun k => ?_
    rw [beaconref13_Dests_l1_eq,if_pos (by omega),if_pos (by omega),rdh,hat,if_pos (by omega),if_pos (by omega),rdn,hjt,if_neg hk,next64 _ (by omega)]
theorem dst_l0 (l : List S54) (kind : Int) (hl : l.length < 4611686018427387904) (ho : ∀ h ∈ l,OkH h) : ∀ (m i : Nat) (D : List Int),i + m = l.length → RisOk D → Ev (fun k => beaconref13_Dests.l0 k l kind D (i : Int)) ((l.drop i).foldl (dstH kind) D)
  | 0,i,D,e,hD => by
    rw [List.drop_eq_nil_of_le (by omega)]
    exact Ev.now fun k => by rw [beaconref13_Dests_l0_eq,if_neg (by omega)];rfl
  | m + 1,i,D,e,hD => by
    have hi : i < l.length := by omega
    have hm := ho _ (List.getElem_mem hi)
    rw [List.drop_eq_getElem_cons hi,List.foldl_cons]
    have ih := dst_l0 l kind hl ho m (i + 1) (dstH kind D l[i]) (by omega) (dstH_ok hD hm)
    have h1 := dst_l1 l kind i hi hm _ l[i].f2.length 0 D (by omega) hD (by rw [next64 _ (by omega)];exact ih)
    exact Ev.next h1 fun k => by rw [beaconref13_Dests_l0_eq,if_pos (by omega)];rfl
theorem dst_all (l : List S54) (kind : Int) (hl : l.length < 4611686018427387904) (ho : ∀ h ∈ l,OkH h) : Ev (fun k => beaconref13_Dests.f k l kind) (dstA kind l) := dst_l0 l kind hl ho l.length 0 [] (by omega) risOk_nil
def findV (kind d : Int) (ns : List S56) : Option S56 := ns.find? fun n => n.f1 == kind && n.f0 == d
theorem find_l0 (ns : List S56) (kind d : Int) (hl : ns.length < 4611686018427387904) : ∀ (m i k : Nat),i + m = ns.length → m + 1 ≤ k →
    beaconref13_find.l0 k ns kind d (i : Int) = some (match findV kind d (ns.drop i) with | some n => (n.f0,n.f1,n.f2,n.f3,n.f4,true) | none => (0,0,0,0,0,false))
  | 0,i,k + 1,e,hk => by
    rw [beaconref13_find_l0_eq,if_neg (by omega),List.drop_eq_nil_of_le (by omega)]
    rfl
  | m + 1,i,k + 1,e,hk => by
    have hi : i < ns.length := by omega
    have ih := find_l0 ns kind d hl m (i + 1) k (by omega) (by omega)
    have hat : ns.getD i z56 = ns[i] := by simp [List.getD_eq_getElem?_getD,hi]
    rw [beaconref13_find_l0_eq,if_pos (by omega),if_pos (by omega),rdn,hat,List.drop_eq_getElem_cons hi,next64 _ (by omega),ih]
    unfold findV
    rw [List.find?_cons]
    by_cases h1 : ns[i].f1 = kind
    · by_cases h2 : ns[i].f0 = d
      · have hb : (ns[i].f1 == kind && ns[i].f0 == d) = true := by simp [h1,h2]
        rw [if_pos h1,if_pos h2,hb]
      have hb : (ns[i].f1 == kind && ns[i].f0 == d) = false := by simp [h2]
      rw [if_pos h1,if_neg h2,hb]
    have hb : (ns[i].f1 == kind && ns[i].f0 == d) = false := by simp [h1]
    rw [if_neg h1,hb]
theorem find_all (ns : List S56) (kind d : Int) (hl : ns.length < 4611686018427387904) (k : Nat) (hk : ns.length + 1 ≤ k) : beaconref13_find.f k ns kind d = some (match findV kind d ns with | some n => (n.f0,n.f1,n.f2,n.f3,n.f4,true) | none => (0,0,0,0,0,false)) := find_l0 ns kind d hl ns.length 0 k (by omega) hk
def offH (kind d : Int) (h : S54) : Option S54 := (findV kind d h.f2).map fun n => ⟨h.f0,h.f1,[n]⟩
def offA (kind d : Int) (l : List S54) : List S54 := l.filterMap (offH kind d)
theorem off_l0 (l : List S54) (kind d : Int) (hl : l.length < 3518437208883) (ho : ∀ h ∈ l,OkH h) : ∀ (m i : Nat) (out : List S54),i + m = l.length → out.length ≤ i → Ev (fun k => beaconref13_Offers.l0 k l kind d out (i : Int)) (out ++ offA kind d (l.drop i))
  | 0,i,out,e,hn => by
    rw [List.drop_eq_nil_of_le (by omega)]
    exact Ev.now fun k => by rw [beaconref13_Offers_l0_eq,if_neg (by omega)];simp [offA]
  | m + 1,i,out,e,hn => by
    have hi : i < l.length := by omega
    have hbd := (ho _ (List.getElem_mem hi)).2.2
    have hat : l.getD i z54 = l[i] := by simp [List.getD_eq_getElem?_getD,hi]
    have hf : Ev (fun k => beaconref13_find.f k l[i].f2 kind d) _ := ⟨l[i].f2.length + 1,fun k hk => find_all l[i].f2 kind d hbd k hk⟩
    rw [List.drop_eq_getElem_cons hi]
    unfold offA
    rw [List.filterMap_cons]
    cases hx : findV kind d l[i].f2 with
    | none =>
      rw [hx] at hf
      have hoff : offH kind d l[i] = none := by unfold offH;rw [hx];rfl
      rw [hoff]
      have ih := off_l0 l kind d hl ho m (i + 1) out (by omega) (by omega)
      refine Ev.nextBind hf (H := fun bt k => if bt.2.2.2.2.2 = true then (if out.length < 3518437208883 then beaconref13_Offers.l0 k l kind d (out ++ [⟨l[i].f0,l[i].f1,[⟨bt.1,bt.2.1,bt.2.2.1,bt.2.2.2.1,bt.2.2.2.2.1⟩]⟩]) ((i + 1 : Nat) : Int) else none) else beaconref13_Offers.l0 k l kind d out ((i + 1 : Nat) : Int)) ?_ fun k => ?_
      · simpa [offA] using ih
      rw [beaconref13_Offers_l0_eq,if_pos (by omega),if_pos (by omega),rdh,hat,next64 _ (by omega)]
    | some n =>
      rw [hx] at hf
      have hoff : offH kind d l[i] = some ⟨l[i].f0,l[i].f1,[n]⟩ := by unfold offH;rw [hx];rfl
      rw [hoff]
      have ih := off_l0 l kind d hl ho m (i + 1) (out ++ [⟨l[i].f0,l[i].f1,[n]⟩]) (by omega) (by simp;omega)
      rw [List.append_assoc] at ih
      refine Ev.nextBind hf (H := fun bt k => if bt.2.2.2.2.2 = true then (if out.length < 3518437208883 then beaconref13_Offers.l0 k l kind d (out ++ [⟨l[i].f0,l[i].f1,[⟨bt.1,bt.2.1,bt.2.2.1,bt.2.2.2.1,bt.2.2.2.2.1⟩]⟩]) ((i + 1 : Nat) : Int) else none) else beaconref13_Offers.l0 k l kind d out ((i + 1 : Nat) : Int)) ?_ fun k => ?_
      · have : out.length < 3518437208883 := by omega
        have ih2 : Ev (fun k => if out.length < 3518437208883 then beaconref13_Offers.l0 k l kind d (out ++ [⟨l[i].f0,l[i].f1,[n]⟩]) ((i + 1 : Nat) : Int) else none) (out ++ ⟨l[i].f0,l[i].f1,[n]⟩ :: offA kind d (l.drop (i + 1))) := by
          simp only [if_pos this]
          exact ih
        exact ih2
      rw [beaconref13_Offers_l0_eq,if_pos (by omega),if_pos (by omega),rdh,hat,next64 _ (by omega)]
theorem off_all (l : List S54) (kind d : Int) (hl : l.length < 3518437208883) (ho : ∀ h ∈ l,OkH h) : Ev (fun k => beaconref13_Offers.f k l kind d) (offA kind d l) := by
  have := off_l0 l kind d hl ho l.length 0 [] (by omega) (by simp)
  exact this
theorem news_l0 (l : List S56) (hl : l.length < 3518437208883) : ∀ (m i : Nat),i + m = l.length → Ev (fun k => beaconref13_News.l0 k l (l.take i) (i : Int)) l
  | 0,i,e => by
    rw [List.take_of_length_le (by omega)]
    exact Ev.now fun k => by rw [beaconref13_News_l0_eq,if_neg (by omega)]
  | m + 1,i,e => by
    have hi : i < l.length := by omega
    have hat : l.getD i z56 = l[i] := by simp [List.getD_eq_getElem?_getD,hi]
    have ih := news_l0 l hl m (i + 1) (by omega)
    rw [List.take_succ_eq_append_getElem hi] at ih
    refine Ev.next ih fun k => ?_
    rw [beaconref13_News_l0_eq,if_pos (by omega),if_pos (by omega),if_pos (by rw [List.length_take];omega),rdn,hat,next64 _ (by omega)]
theorem news_copy (l : List S56) (hl : l.length < 3518437208883) : Ev (fun k => beaconref13_News.f k l) l := by
  have := news_l0 l hl l.length 0 (by omega)
  exact this
theorem copy_l0 (l : List S54) (hl : l.length < 3518437208883) (hn : ∀ h ∈ l,h.f2.length < 3518437208883) : ∀ (m i : Nat),i + m = l.length → Ev (fun k => beaconref13_Copy.l0 k l (l.take i) (i : Int)) l
  | 0,i,e => by
    rw [List.take_of_length_le (by omega)]
    exact Ev.now fun k => by rw [beaconref13_Copy_l0_eq,if_neg (by omega)]
  | m + 1,i,e => by
    have hi : i < l.length := by omega
    have hat : l.getD i z54 = l[i] := by simp [List.getD_eq_getElem?_getD,hi]
    have ih := copy_l0 l hl hn m (i + 1) (by omega)
    rw [List.take_succ_eq_append_getElem hi] at ih
    refine Ev.nextBind (news_copy l[i].f2 (hn _ (List.getElem_mem hi))) (H := fun t k => if (l.take i).length < 3518437208883 then beaconref13_Copy.l0 k l (l.take i ++ [⟨l[i].f0,l[i].f1,t⟩]) ((i + 1 : Nat) : Int) else none) ?_ fun k => ?_
    · have : (l.take i).length < 3518437208883 := by rw [List.length_take];omega
      simp only [if_pos this]
      exact ih
    rw [beaconref13_Copy_l0_eq,if_pos (by omega),if_pos (by omega),rdh,hat,next64 _ (by omega)]
theorem copy_all (l : List S54) (hl : l.length < 3518437208883) (hn : ∀ h ∈ l,h.f2.length < 3518437208883) : Ev (fun k => beaconref13_Copy.f k l) l := by
  have := copy_l0 l hl hn l.length 0 (by omega)
  exact this
end Go.Proofs.Ytjcnmpkaiopihaa.PA
