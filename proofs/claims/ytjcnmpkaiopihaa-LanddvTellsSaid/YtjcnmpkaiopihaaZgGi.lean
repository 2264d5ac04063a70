/- What is advertised of landmarks, in plain terms: the document's list is the sorted one. Conditions: the floats are words, the list fits in memory. -/
import Derived.Test.YtjcnmpkaiopihaaZgGh
import Derived.Test.YtjcnmpkaiopihaaZgHi
namespace Go.Proofs.Ytjcnmpkaiopihaa.PA
open Go.RowKit Go.Proofs.YtjcnmpkaiopihaaW.PrintWords Go.Proofs.YtjcnmpkaiopihaaW.PrintLast Go.Proofs.YtjcnmpkaiopihaaW.PrintMore
set_option linter.unusedVariables false
set_option linter.unusedSimpArgs false
theorem beaconref15_Tell_l0_eq (k : Nat) (x0 : Int) (x2 : List (S58)) (x10 : List (S56)) (x11 : Bool) (x12 : Int) (x251000 : Int) (x251001 : Int) (x251002 : Nat) (x251003 : Nat) (x251004 : Int) : beaconref15_Tell.l0 (k + 1) x0 x2 x10 x11 x12 x251000 x251001 x251002 x251003 x251004 = if x12 < (x2.length : Int) then (if x11 = true then (beaconref15_Tell.j1 k x0 x2 x10 x11 x12 false x251000 x251001 x251002 x251003 x251004) else (if 0 ≤ x12 then (beaconref15_Tell.j1 k x0 x2 x10 x11 x12 (decide (((rd_T58 x2 x12).f0) > x0)) x251000 x251001 x251002 x251003 x251004) else (none))) else (if x11 = true then (some (x10,0)) else (if x10.length < 3518437208883 then (some ((x10 ++ [(⟨x251000,x251001,x251002,x251003,x251004⟩ : S56)]),0)) else (none))) := by rw [beaconref15_Tell.l0]
theorem beaconref15_Tell_j1_eq (k : Nat) (x0 : Int) (x2 : List (S58)) (x10 : List (S56)) (x11 : Bool) (x12 : Int) (x40 : Bool) (x251000 : Int) (x251001 : Int) (x251002 : Nat) (x251003 : Nat) (x251004 : Int) : beaconref15_Tell.j1 (k + 1) x0 x2 x10 x11 x12 x40 x251000 x251001 x251002 x251003 x251004 = if x40 = true then (if x10.length < 3518437208883 then (beaconref15_Tell.j2 k x0 x2 (x10 ++ [(⟨x251000,x251001,x251002,x251003,x251004⟩ : S56)]) true x12 x251000 x251001 x251002 x251003 x251004) else (none)) else (beaconref15_Tell.j2 k x0 x2 x10 x11 x12 x251000 x251001 x251002 x251003 x251004) := by rw [beaconref15_Tell.j1]
theorem beaconref15_Tell_j2_eq (k : Nat) (x0 : Int) (x2 : List (S58)) (x10 : List (S56)) (x11 : Bool) (x12 : Int) (x251000 : Int) (x251001 : Int) (x251002 : Nat) (x251003 : Nat) (x251004 : Int) : beaconref15_Tell.j2 (k + 1) x0 x2 x10 x11 x12 x251000 x251001 x251002 x251003 x251004 = if 0 ≤ x12 then (if x12 < (x2.length : Int) then ((beaconref15_Far.f ((rd_T58 x2 x12).f2)).bind fun t259 => (if t259 = true then (beaconref15_Tell.l0 k x0 x2 x10 x11 (wrap64 (x12 + 1)) x251000 x251001 x251002 x251003 x251004) else (if x10.length < 3518437208883 then (beaconref15_Tell.l0 k x0 x2 (x10 ++ [(⟨(rd_T58 x2 x12).f0,1,(rd_T58 x2 x12).f2,0,0⟩ : S56)]) x11 (wrap64 (x12 + 1)) x251000 x251001 x251002 x251003 x251004) else (none)))) else (none)) else (none) := by rw [beaconref15_Tell.j2]
def ownT (self : Int) : S56 := ⟨self,1,0,0,0⟩
def farN (x : S58) : Option S56 := if infB x.f2 = true then none else some ⟨x.f0,1,x.f2,0,0⟩
theorem farN_dest {x : S58} {n : S56} (h : farN x = some n) : n.f0 = x.f0 := by
  unfold farN at h
  split at h
  · cases h
  rw [← Option.some.inj h]
def tellTo (self : Int) (mark : Bool) (l : List S58) (i : Nat) : List S56 := (if mark = true then [ownT self] else []) ++ (l.take i).filterMap farN
theorem tellTo_next (self : Int) (mark : Bool) (l : List S58) (i : Nat) (hi : i < l.length) : tellTo self mark l (i + 1) = tellTo self mark l i ++ (farN (l.getD i z58)).toList := by
  unfold tellTo
  rw [List.take_succ_eq_append_getElem hi,List.filterMap_append,List.append_assoc]
  have e : l.getD i z58 = l[i] := by simp [List.getD_eq_getElem?_getD,hi]
  rw [e]
  congr 1
theorem tellTo_len (self : Int) (mark : Bool) (l : List S58) (i : Nat) : (tellTo self mark l i).length ≤ l.length + 1 := by
  unfold tellTo
  have h1 := List.length_filterMap_le farN (l.take i)
  have h2 : (l.take i).length ≤ l.length := by rw [List.length_take];omega
  rw [List.length_append]
  split <;> simp <;> omega
theorem marks_at {self : Int} {l : List S58} : ∀ {n i : Nat},marksFrom self l n i = true → ∀ j,i ≤ j → j < i + n → markOk self l j = true
  | 0,i,h,j,h1,h2 => by omega
  | n + 1,i,h,j,h1,h2 => by
    unfold marksFrom at h
    rw [Bool.and_eq_true] at h
    by_cases e : j = i
    · rw [e];exact h.1
    exact marks_at h.2 j (by omega) (by omega)
theorem ask_zero {self : Int} {l : List S58} (h : askM self l = 0) : okId self = true ∧ marksFrom self l l.length 0 = true := by
  unfold askM at h
  split at h
  · rename_i h1
    split at h
    · rename_i h2
      exact ⟨h1,h2⟩
    cases h
  cases h
theorem marks_rise {self : Int} {l : List S58} (h : marksFrom self l l.length 0 = true) : l.Pairwise (fun a b => a.f0 < b.f0) := by
  have step : ∀ j,j + 1 < l.length → (l.getD j z58).f0 < (l.getD (j + 1) z58).f0 := by
    intro j hj
    have := marks_at h (j + 1) (by omega) (by omega)
    unfold markOk at this
    simp only [Bool.and_eq_true,Bool.or_eq_true,decide_eq_true_eq,beq_iff_eq] at this
    rcases this.2.2.2.2.2 with e | e
    · omega
    exact e
  have far : ∀ d i,i + d + 1 < l.length → (l.getD i z58).f0 < (l.getD (i + d + 1) z58).f0 := by
    intro d
    induction d with
    | zero => intro i hi;exact step i hi
    | succ d ih => intro i hi;exact Int.lt_trans (ih i (by omega)) (step (i + d + 1) (by omega))
  rw [List.pairwise_iff_getElem]
  intro i j hi hj hij
  have := far (j - i - 1) i (by omega)
  rw [show i + (j - i - 1) + 1 = j by omega] at this
  simpa [List.getD_eq_getElem?_getD,hi,hj] using this
theorem marks_mem {self : Int} {l : List S58} (h : marksFrom self l l.length 0 = true) : ∀ x ∈ l,okId x.f0 = true ∧ x.f0 ≠ self := by
  intro x hx
  obtain ⟨i,hi,rfl⟩ := List.mem_iff_getElem.1 hx
  have := marks_at h i (by omega) (by omega)
  have e : l.getD i z58 = l[i] := by simp [List.getD_eq_getElem?_getD,hi]
  unfold markOk at this
  rw [e] at this
  simp only [Bool.and_eq_true,Bool.not_eq_true',beq_eq_false_iff_ne] at this
  exact ⟨this.2.2.2.2.1,this.2.2.2.1⟩
theorem fm_mem {l : List S58} {n : S56} (h : n ∈ l.filterMap farN) : ∃ x ∈ l,n.f0 = x.f0 := by
  obtain ⟨y,hy,hyn⟩ := List.mem_filterMap.1 h
  exact ⟨y,hy,farN_dest hyn⟩
theorem fm_rise : ∀ {l : List S58},l.Pairwise (fun a b => a.f0 < b.f0) → ByDst (l.filterMap farN)
  | [],_ => List.Pairwise.nil
  | a :: r,h => by
    have p := List.pairwise_cons.1 h
    have ih := fm_rise p.2
    rw [List.filterMap_cons]
    cases hn : farN a with
    | none => exact ih
    | some n =>
      refine List.pairwise_cons.2 ⟨?_,ih⟩
      intro m hm
      obtain ⟨y,hy,e⟩ := fm_mem hm
      unfold ltN
      rw [e,farN_dest hn]
      exact decide_eq_true (p.1 y hy)
theorem ownT_ltN {self : Int} {x : S56} (h : self < x.f0) : ltN (ownT self) x = true := by unfold ltN ownT;exact decide_eq_true h
def docT (self : Int) : Bool → List S58 → List S56
  | put,[] => if put = true then [] else [ownT self]
  | put,x :: r => (if put = false ∧ x.f0 > self then [ownT self] else []) ++ ((farN x).toList ++ docT self (put || decide (x.f0 > self)) r)
theorem docT_put (self : Int) : ∀ l : List S58,docT self true l = l.filterMap farN
  | [] => rfl
  | x :: r => by
    rw [docT,if_neg (by simp),Bool.true_or,docT_put self r,List.filterMap_cons]
    cases farN x <;> rfl
theorem docT_first {self : Int} {x : S58} (r : List S58) (h : x.f0 > self) : docT self false (x :: r) = ownT self :: (x :: r).filterMap farN := by
  rw [docT,if_pos ⟨rfl,h⟩,decide_eq_true h,Bool.false_or,docT_put,List.filterMap_cons]
  cases farN x <;> rfl
theorem docT_later {self : Int} {x : S58} (r : List S58) (h : ¬ x.f0 > self) : docT self false (x :: r) = (farN x).toList ++ docT self false r := by
  rw [docT,if_neg (by simp [h]),decide_eq_false h,Bool.or_false]
  rfl
theorem docT_perm (self : Int) : ∀ l : List S58,(docT self false l).Perm (ownT self :: l.filterMap farN)
  | [] => List.Perm.refl _
  | x :: r => by
    by_cases h : x.f0 > self
    · rw [docT_first r h]
    rw [docT_later r h,List.filterMap_cons]
    cases hn : farN x with
    | none => exact docT_perm self r
    | some n => exact ((docT_perm self r).cons n).trans (List.Perm.swap _ _ _)
theorem docT_rise {self : Int} : ∀ {l : List S58},l.Pairwise (fun a b => a.f0 < b.f0) → (∀ x ∈ l,x.f0 ≠ self) → ByDst (docT self false l)
  | [],_,_ => List.pairwise_singleton _ _
  | x :: r,h,hs => by
    have p := List.pairwise_cons.1 h
    by_cases hx : x.f0 > self
    · rw [docT_first r hx]
      refine List.pairwise_cons.2 ⟨?_,fm_rise h⟩
      intro m hm
      obtain ⟨y,hy,e⟩ := fm_mem hm
      apply ownT_ltN
      rw [e]
      rcases List.mem_cons.1 hy with rfl | hy
      · exact hx
      have := p.1 y hy
      omega
    have ih := docT_rise p.2 (fun y hy => hs y (List.mem_cons_of_mem _ hy))
    rw [docT_later r hx]
    cases hn : farN x with
    | none => exact ih
    | some n =>
      refine List.pairwise_cons.2 ⟨?_,ih⟩
      intro m hm
      have hm2 := (docT_perm self r).mem_iff.1 hm
      unfold ltN
      rw [farN_dest hn]
      apply decide_eq_true
      have hne := hs x List.mem_cons_self
      rcases List.mem_cons.1 hm2 with rfl | hm2
      · show x.f0 < self
        omega
      obtain ⟨y,hy,e⟩ := fm_mem hm2
      rw [e]
      exact p.1 y hy
theorem tell_dests {self : Int} {mark : Bool} {l : List S58} (h : marksFrom self l l.length 0 = true) : ((tellTo self mark l l.length).map (·.f0)).Nodup := by
  have hr := fm_rise (marks_rise h)
  have h1 : ((l.filterMap farN).map (·.f0)).Nodup := by
    unfold List.Nodup
    rw [List.pairwise_map]
    exact hr.imp fun {a b} hlt e => by have := ltN_lt hlt;omega
  unfold tellTo
  rw [List.take_length]
  cases mark
  · simpa using h1
  rw [if_pos rfl,List.singleton_append,List.map_cons,List.nodup_cons]
  refine ⟨fun hm => ?_,h1⟩
  obtain ⟨m,hm1,hm2⟩ := List.mem_map.1 hm
  obtain ⟨y,hy,e⟩ := fm_mem hm1
  exact (marks_mem h y hy).2 (by rw [← e,hm2];rfl)
theorem tell_small {self : Int} {mark : Bool} {l : List S58} (hs : okId self = true) (h : marksFrom self l l.length 0 = true) (i : Nat) : ∀ n ∈ tellTo self mark l i,SmallN n := by
  intro n hn
  unfold tellTo at hn
  rcases List.mem_append.1 hn with hn | hn
  · cases mark
    · simp at hn
    rw [if_pos rfl] at hn
    rw [List.mem_singleton.1 hn]
    have := okId_bounds hs
    unfold SmallN
    show 0 ≤ self ∧ self ≤ _
    omega
  obtain ⟨y,hy,e⟩ := fm_mem hn
  have := okId_bounds (marks_mem h y (List.mem_of_mem_take hy)).1
  unfold SmallN
  rw [e]
  omega
def tellM (self : Int) (mark : Bool) (l : List S58) : List S56 × Int := if askM self l = 0 then (sortN (tellTo self mark l l.length),0) else ([],askM self l)
theorem doc_sorted {self : Int} {mark : Bool} {l : List S58} (h : marksFrom self l l.length 0 = true) : docT self (!mark) l = sortN (tellTo self mark l l.length) := by
  cases mark
  · rw [show (!false) = true from rfl,docT_put]
    refine sortN_of ?_ (tell_dests h) (fm_rise (marks_rise h))
    unfold tellTo
    rw [List.take_length]
    exact List.Perm.refl _
  refine sortN_of ?_ (tell_dests h) (docT_rise (marks_rise h) fun x hx => (marks_mem h x hx).2)
  unfold tellTo
  rw [List.take_length]
  exact docT_perm self l
theorem rt_l0 (self : Int) (l : List S58) (hl : l.length < 2932031007402) : ∀ (n i k : Nat) (out : List S56) (put : Bool),i + n = l.length → 3 * n + 1 ≤ k → out.length ≤ i + put.toNat → beaconref15_Tell.l0 k self l out put (i : Int) self 1 0 0 0 = some (out ++ docT self put (l.drop i),0)
  | 0,i,k + 1,out,put,e,hk,ho => by
    have hpt := Bool.toNat_le put
    have hlt : out.length < 3518437208883 := by omega
    rw [beaconref15_Tell_l0_eq,if_neg (by omega),List.drop_eq_nil_of_le (by omega),docT]
    cases put
    · rw [if_neg (by decide),if_pos hlt]
      rfl
    rw [if_pos rfl,if_pos rfl,List.append_nil]
  | n + 1,i,k + 3,out,put,e,hk,ho => by
    have hi : i < l.length := by omega
    obtain ⟨x,hx⟩ : ∃ x,l.getD i z58 = x := ⟨_,rfl⟩
    have j2 : ∀ (o : List S56) (p : Bool),o.length ≤ i + p.toNat → beaconref15_Tell.j2 (k + 1) self l o p (i : Int) self 1 0 0 0 = some (o ++ ((farN x).toList ++ docT self p (l.drop (i + 1))),0) := by
      intro o p hop
      have hpt := Bool.toNat_le p
      have hlt : o.length < 3518437208883 := by omega
      have hf : beaconref15_Far.f x.f2 = some (infB x.f2) := rfl
      rw [beaconref15_Tell_j2_eq,if_pos (by omega),if_pos (by omega),rde,hx,hf,Option.bind_some,next64 _ (by omega)]
      unfold farN
      cases hI : infB x.f2
      · rw [if_neg (by decide),if_pos hlt,rt_l0 self l hl n (i + 1) k _ p (by omega) (by omega) (by simp;omega),if_neg (by decide),List.append_assoc]
        rfl
      rw [if_pos rfl,rt_l0 self l hl n (i + 1) k _ p (by omega) (by omega) (by omega),if_pos rfl]
      rfl
    have j1 : ∀ (b : Bool),(b = true → put = false) → beaconref15_Tell.j1 (k + 2) self l out put (i : Int) b self 1 0 0 0 = if b = true then some (out ++ [ownT self] ++ ((farN x).toList ++ docT self true (l.drop (i + 1))),0) else some (out ++ ((farN x).toList ++ docT self put (l.drop (i + 1))),0) := by
      intro b hb
      have hpt := Bool.toNat_le put
      have hlt : out.length < 3518437208883 := by omega
      rw [beaconref15_Tell_j1_eq,if_pos hlt,j2 out put ho]
      cases b
      · rfl
      rw [if_pos rfl,if_pos rfl]
      have h0 := hb rfl
      subst h0
      have ho2 : out.length ≤ i := ho
      exact j2 (out ++ [ownT self]) true (by rw [List.length_append];show out.length + 1 ≤ i + 1;omega)
    rw [beaconref15_Tell_l0_eq,if_pos (by omega),drop_at hi,hx,docT]
    cases put
    · rw [if_neg (by decide),if_pos (by omega),rde,hx,j1 _ (fun _ => rfl)]
      by_cases h : x.f0 > self
      · rw [decide_eq_true h,if_pos rfl,if_pos ⟨rfl,h⟩,Bool.or_true,List.append_assoc]
      rw [decide_eq_false h,if_neg (by decide),if_neg (by simp [h]),Bool.or_false]
      rfl
    rw [if_pos rfl,j1 _ (fun h => absurd h (by decide)),if_neg (by decide),if_neg (by simp),Bool.true_or]
    rfl
theorem rtell_all (self : Int) (mark : Bool) (l : List S58) (hl : l.length < 2932031007402) (k : Nat) (hk : 3 * l.length + 3 ≤ k) : beaconref15_Tell.f k self mark l = some (tellM self mark l) := by
  unfold beaconref15_Tell.f tellM
  rw [rmay_all self l (by omega) k hk,Option.bind_some]
  by_cases h0 : askM self l = 0
  · have h1 := rt_l0 self l hl l.length 0 k [] (!mark) (by omega) (by omega) (by simp)
    rw [if_pos h0,if_pos h0,← doc_sorted (ask_zero h0).2]
    exact h1
  rw [if_neg h0,if_neg h0]
end Go.Proofs.Ytjcnmpkaiopihaa.PA
