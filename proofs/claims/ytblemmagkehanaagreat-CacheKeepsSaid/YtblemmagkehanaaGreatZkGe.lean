/- The document's place, Add, Weigh, Remove, Forget in plain terms. Conditions: the neighbours rise, the lists fit in memory. -/
import Derived.Test.YtblemmagkehanaaGreatZkCr
import Derived.Test.YtblemmagkehanaaGreatZkPAx10
namespace Go.Proofs.YtblemmagkehanaaGreat.PA
open Go.RowKit Go.Proofs.YtblemmagkehanaaGreatW.PrintWords
set_option linter.unusedVariables false
set_option linter.unusedSimpArgs false
theorem Ev.lift {α β : Type} {G : Nat → Option α} {a : α} {F : Nat → Option β} {r : β} (hG : Ev G a) {H : α → Nat → Option β} (hH : Ev (H a) r) (e : ∀ k,F k = (G k).bind fun x => H x k) : Ev F r := by
  obtain ⟨K1,h1⟩ := hG;obtain ⟨K2,h2⟩ := hH;refine ⟨max K1 K2,fun k hk => ?_⟩;rw [e,h1 k (by omega),Option.bind_some];exact h2 k (by omega)
theorem Ev.same {α : Type} {F : Nat → Option α} {r : α} (e : ∀ k,F k = some r) : Ev F r := ⟨0,fun k _ => e k⟩
theorem getDh {l : List S43} {i : Nat} (h : i < l.length) : l.getD i z43 = l[i] := by simp [List.getD_eq_getElem?_getD,h]
def idxH (id : Int) (m : List S43) : Option Nat := m.findIdx? fun h => h.f0 == id
theorem place_l0 (m : List S43) (id : Int) (hl : m.length < 4611686018427387904) : ∀ (n i k : Nat),i + n = m.length → n + 1 ≤ k → beaconref13_place.l0 k m id (i : Int) = some (match idxH id (m.drop i) with | some j => ((i + j : Nat) : Int) | none => -1)
  | 0,i,k + 1,e,_ => by
    rw [beaconref13_place_l0_eq,if_neg (by omega),List.drop_eq_nil_of_le (by omega)];rfl
  | n + 1,i,k + 1,e,hk => by
    have hi : i < m.length := by omega
    rw [beaconref13_place_l0_eq,if_pos (by omega),if_pos (by omega),rdh,getDh hi,List.drop_eq_getElem_cons hi];unfold idxH;rw [List.findIdx?_cons]
    by_cases h1 : m[i].f0 = id
    · rw [if_pos h1,if_pos (by simpa using h1)]
      rfl
    rw [if_neg h1,if_neg (by simpa using h1),next64 _ (by omega),place_l0 m id hl n (i + 1) k (by omega) (by omega)];unfold idxH
    cases (m.drop (i + 1)).findIdx? fun h => h.f0 == id with
    | none => rfl
    | some j =>
      show some (((i + 1 + j : Nat)) : Int) = some ((i + (j + 1) : Nat) : Int)
      rw [show i + 1 + j = i + (j + 1) by omega]
theorem place_none {m : List S43} {id : Int} (hl : m.length < 4611686018427387904) (h : idxH id m = none) (k : Nat) (hk : m.length + 1 ≤ k) : beaconref13_place.f k m id = some (-1) := by
  have := place_l0 m id hl m.length 0 k (by omega) hk;rw [List.drop_zero,h] at this;exact this
theorem place_some {m : List S43} {id : Int} {j : Nat} (hl : m.length < 4611686018427387904) (h : idxH id m = some j) (k : Nat) (hk : m.length + 1 ≤ k) : beaconref13_place.f k m id = some ((j : Nat) : Int) := by
  have := place_l0 m id hl m.length 0 k (by omega) hk;rw [List.drop_zero,h] at this;simp only [Nat.zero_add] at this;exact this
theorem idx_at {m : List S43} {id : Int} {j : Nat} (h : idxH id m = some j) : ∃ hj : j < m.length,m[j].f0 = id := by
  unfold idxH at h;obtain ⟨h1,h2,_⟩ := List.findIdx?_eq_some_iff_getElem.1 h;exact ⟨h1,by simpa using h2⟩
theorem idx_none {m : List S43} {id : Int} : idxH id m = none ↔ id ∉ m.map (·.f0) := by
  unfold idxH;rw [List.findIdx?_eq_none_iff]
  simp
def AscH (m : List S43) : Prop := m.Pairwise fun a b => a.f0 < b.f0
theorem AscH.nodup {m : List S43} (h : AscH m) : (m.map (·.f0)).Nodup := List.pairwise_map.2 (h.imp fun h1 h2 => by omega)
def hdTurn (id : Int) (f : S43 → S43) (m : List S43) : List S43 := m.map fun h => if h.f0 = id then f h else h
theorem set_turn (f : S43 → S43) : ∀ {m : List S43} {j : Nat} (hj : j < m.length),(m.map (·.f0)).Nodup → m.set j (f m[j]) = hdTurn m[j].f0 f m
  | a :: r,0,hj,h => by
    rw [List.map_cons,List.nodup_cons] at h;simp only [List.set_cons_zero,List.getElem_cons_zero,hdTurn,List.map_cons,if_true]
    congr 1
    refine ((List.map_congr_left fun x hx => ?_).trans (List.map_id r)).symm;have : x.f0 ≠ a.f0 := fun e => h.1 (by rw [← e];exact List.mem_map_of_mem hx)
    rw [if_neg this];rfl
  | a :: r,j + 1,hj,h => by
    rw [List.map_cons,List.nodup_cons] at h;have hj' : j < r.length := by simpa using hj
    simp only [List.set_cons_succ,List.getElem_cons_succ,hdTurn,List.map_cons];have : a.f0 ≠ r[j].f0 := fun e => h.1 (by rw [e];exact List.mem_map_of_mem (List.getElem_mem hj'))
    rw [if_neg this,set_turn f hj' h.2];rfl
theorem turn_asc {id : Int} {f : S43 → S43} (hf : ∀ h,(f h).f0 = h.f0) {m : List S43} (h : AscH m) : AscH (hdTurn id f m) := by
  have e : ∀ x,(if x.f0 = id then f x else x).f0 = x.f0 := fun x => by split <;> simp [hf]
  refine List.pairwise_map.2 (h.imp fun {a b} hab => ?_);rw [e,e];exact hab
def FitH (m : List S43) : Prop := m.length < 3518437208883 ∧ ∀ h ∈ m,h.f2.length < 3518437208883
theorem FitH.copy {m : List S43} (h : FitH m) : Ev (fun k => beaconref13_Copy.f k m) m := copy_all m h.1 h.2
theorem weigh_ref {m : List S43} (hf : FitH m) (ha : AscH m) {id : Int} {j : Nat} (hj : idxH id m = some j) {wt : Nat} (hw : wt < 18446744073709551616) (h0 : wE wt = 0) :
    Ev (fun k => beaconref13_Weigh.f k m id wt) (hdTurn id (fun h => ⟨h.f0,wt,h.f2⟩) m,0) := by
  obtain ⟨hjl,hjid⟩ := idx_at hj;have hp : Ev (fun k => beaconref13_place.f k m id) (j : Int) := ⟨m.length + 1,fun k hk => place_some (by have := hf.1;omega) hj k hk⟩
  refine Ev.lift hp (H := fun t k => if t < 0 then none else (beaconref13_Copy.f k m).bind fun t161 => if 0 ≤ t then (if t < (t161.length : Int) then some (t161.set t.toNat ⟨(rd_T43 t161 t).f0,wt,(rd_T43 t161 t).f2⟩,0) else none) else none) ?_ (fun k => by unfold beaconref13_Weigh.f;rw [(weight_all wt hw).1,h0,Option.bind_some,if_pos rfl]);refine Ev.lift hf.copy (H := fun t161 k => if (0 : Int) ≤ (j : Int) then (if (j : Int) < (t161.length : Int) then some (t161.set (j : Int).toNat ⟨(rd_T43 t161 (j : Int)).f0,wt,(rd_T43 t161 (j : Int)).f2⟩,0) else none) else none) ?_ (fun k => by rw [if_neg (by omega)]);refine Ev.same fun k => ?_
  rw [if_pos (by omega),if_pos (by omega),rdh,getDh hjl,Int.toNat_natCast,set_turn (fun h => ⟨h.f0,wt,h.f2⟩) hjl ha.nodup,hjid]
theorem forget_ref {m : List S43} (hf : FitH m) (ha : AscH m) {id : Int} {j : Nat} (hj : idxH id m = some j) (hjl : j < m.length) :
    Ev (fun k => beaconref13_Forget.f k m id) (hdTurn id (fun h => ⟨h.f0,h.f1,[]⟩) m,((m[j].f2.length : Nat) : Int),0) := by
  obtain ⟨_,hjid⟩ := idx_at hj;have hp : Ev (fun k => beaconref13_place.f k m id) (j : Int) := ⟨m.length + 1,fun k hk => place_some (by have := hf.1;omega) hj k hk⟩
  refine Ev.lift hp (H := fun t k => if t < 0 then none else (beaconref13_Copy.f k m).bind fun t276 => if 0 ≤ t then (if t < (t276.length : Int) then (if t < (m.length : Int) then some (t276.set t.toNat ⟨(rd_T43 t276 t).f0,(rd_T43 t276 t).f1,[]⟩,((rd_T43 m t).f2.length : Int),0) else none) else none) else none) ?_ (fun k => rfl);refine Ev.lift hf.copy (H := fun t276 k => if (0 : Int) ≤ (j : Int) then (if (j : Int) < (t276.length : Int) then (if (j : Int) < (m.length : Int) then some (t276.set (j : Int).toNat ⟨(rd_T43 t276 (j : Int)).f0,(rd_T43 t276 (j : Int)).f1,[]⟩,((rd_T43 m (j : Int)).f2.length : Int),0) else none) else none) else none) ?_ (fun k => by rw [if_neg (by omega)]);refine Ev.same fun k => ?_
  rw [if_pos (by omega),if_pos (by omega),if_pos (by omega),rdh,getDh hjl,Int.toNat_natCast,set_turn (fun h => ⟨h.f0,h.f1,[]⟩) hjl ha.nodup,hjid]
theorem rem_l0 (m : List S43) (id : Int) (hl : m.length < 3518437208883) : ∀ (n i : Nat) (out : List S43),i + n = m.length → out.length ≤ i → Ev (fun k => beaconref13_Remove.l0 k id out m (i : Int)) (out ++ (m.drop i).filter (fun h => decide (h.f0 ≠ id)),0)
  | 0,i,out,e,ho => by
    rw [List.drop_eq_nil_of_le (by omega)];exact Ev.now fun k => by rw [beaconref13_Remove_l0_eq,if_neg (by omega)];simp
  | n + 1,i,out,e,ho => by
    have hi : i < m.length := by omega
    rw [List.drop_eq_getElem_cons hi]
    by_cases h1 : m[i].f0 = id
    · rw [List.filter_cons_of_neg (by simp [h1])]
      have ih := rem_l0 m id hl n (i + 1) out (by omega) (by omega);exact Ev.next ih fun k => by rw [beaconref13_Remove_l0_eq,if_pos (by omega),if_pos (by omega),rdh,getDh hi,if_pos h1,next64 _ (by omega)]
    rw [List.filter_cons_of_pos (by simp [h1])];have ih := rem_l0 m id hl n (i + 1) (out ++ [m[i]]) (by omega) (by simp;omega);rw [List.append_assoc] at ih;exact Ev.next ih fun k => by rw [beaconref13_Remove_l0_eq,if_pos (by omega),if_pos (by omega),rdh,getDh hi,if_neg h1,if_pos (by omega),next64 _ (by omega)]
theorem remove_ref {m : List S43} (hf : FitH m) {id : Int} {j : Nat} (hj : idxH id m = some j) : Ev (fun k => beaconref13_Remove.f k m id) (m.filter (fun h => decide (h.f0 ≠ id)),0) := by
  have hp : Ev (fun k => beaconref13_place.f k m id) (j : Int) := ⟨m.length + 1,fun k hk => place_some (by have := hf.1;omega) hj k hk⟩
  refine Ev.lift hp (H := fun t k => if t < 0 then none else (beaconref13_Copy.f k m).bind fun t169 => beaconref13_Remove.l0 k id [] t169 0) ?_ (fun k => rfl);refine Ev.lift hf.copy (H := fun t169 k => beaconref13_Remove.l0 k id [] t169 0) ?_ (fun k => by rw [if_neg (by omega)]);have := rem_l0 m id hf.1 m.length 0 [] (by omega) (by simp);exact this
def insH (x : S43) : List S43 → List S43
  | [] => [x]
  | h :: r => if h.f0 > x.f0 then x :: h :: r else h :: insH x r
theorem add_put (m : List S43) (id : Int) (wt : Nat) (hl : m.length ≤ 4294967296) : ∀ (n i : Nat) (out : List S43),i + n = m.length → out.length ≤ i + 1 → Ev (fun k => beaconref13_Add.l0 k id wt out true m (i : Int)) (out ++ m.drop i,0)
  | 0,i,out,e,ho => by
    rw [List.drop_eq_nil_of_le (by omega),List.append_nil];exact Ev.now fun k => by rw [beaconref13_Add_l0_eq,if_neg (by omega),if_pos rfl]
  | n + 1,i,out,e,ho => by
    have hi : i < m.length := by omega
    rw [List.drop_eq_getElem_cons hi];have ih := add_put m id wt hl n (i + 1) (out ++ [m[i]]) (by omega) (by simp;omega);rw [List.append_assoc] at ih;exact Ev.next ih fun k => by rw [beaconref13_Add_l0_eq,if_pos (by omega),if_pos rfl,if_pos (by omega),if_pos (by omega),rdh,getDh hi,next64 _ (by omega)]
theorem add_go (m : List S43) (id : Int) (wt : Nat) (hl : m.length ≤ 4294967296) : ∀ (n i : Nat) (out : List S43),i + n = m.length → out.length ≤ i → Ev (fun k => beaconref13_Add.l0 k id wt out false m (i : Int)) (out ++ insH ⟨id,wt,[]⟩ (m.drop i),0)
  | 0,i,out,e,ho => by
    rw [List.drop_eq_nil_of_le (by omega)];exact Ev.now fun k => by rw [beaconref13_Add_l0_eq,if_neg (by omega),if_neg (by decide),if_pos (by omega)];rfl
  | n + 1,i,out,e,ho => by
    have hi : i < m.length := by omega
    rw [List.drop_eq_getElem_cons hi,insH]
    by_cases h1 : m[i].f0 > id
    · rw [if_pos h1]
      have ih := add_put m id wt hl n (i + 1) (out ++ [⟨id,wt,[]⟩] ++ [m[i]]) (by omega) (by simp;omega);rw [List.append_assoc,List.append_assoc] at ih;exact Ev.next ih fun k => by rw [beaconref13_Add_l0_eq,if_pos (by omega),if_neg (by decide),if_pos (by omega),rdh,getDh hi,if_pos h1,if_pos (by omega),Option.bind_some,if_pos (by simp;omega),next64 _ (by omega)];simp
    rw [if_neg h1];have ih := add_go m id wt hl n (i + 1) (out ++ [m[i]]) (by omega) (by simp;omega);rw [List.append_assoc] at ih;exact Ev.next ih fun k => by rw [beaconref13_Add_l0_eq,if_pos (by omega),if_neg (by decide),if_pos (by omega),rdh,getDh hi,if_neg h1,if_pos (by omega),next64 _ (by omega)]
theorem add_ref {m : List S43} (hf : FitH m) {id : Int} (hok : okId id = true) {wt : Nat} (hw : wt < 18446744073709551616) (h0 : wE wt = 0) (hj : idxH id m = none) (hl : m.length < 256) : Ev (fun k => beaconref13_Add.f k m id wt) (insH ⟨id,wt,[]⟩ m,0) := by
  have hp : Ev (fun k => beaconref13_place.f k m id) (-1) := ⟨m.length + 1,fun k hk => place_none (by have := hf.1;omega) hj k hk⟩
  refine Ev.lift hp (H := fun t k => if t ≥ 0 then none else (if (m.length : Int) ≥ 256 then none else ((beaconref13_Copy.f k m).bind fun t137 => (beaconref13_Add.l0 k id wt [] false t137 0)))) ?_ (fun k => by unfold beaconref13_Add.f;rw [check_ref,hok,if_pos rfl,Option.bind_some,if_pos rfl,(weight_all wt hw).1,h0,Option.bind_some,if_pos rfl]);refine Ev.lift hf.copy (H := fun t137 k => beaconref13_Add.l0 k id wt [] false t137 0) ?_ (fun k => by rw [if_neg (by omega),if_neg (by omega)]);have := add_go m id wt (by omega) m.length 0 [] (by omega) (by simp);exact this
theorem insH_perm (x : S43) : ∀ m : List S43,(insH x m).Perm (x :: m)
  | [] => List.Perm.refl _
  | h :: r => by
    unfold insH
    split
    · exact List.Perm.refl _
    exact ((insH_perm x r).cons h).trans (List.Perm.swap x h r)
theorem insH_asc {x : S43} : ∀ {m : List S43},AscH m → x.f0 ∉ m.map (·.f0) → AscH (insH x m)
  | [],_,_ => List.pairwise_singleton _ _
  | h :: r,ha,hx => by
    have p := List.pairwise_cons.1 ha;rw [List.map_cons,List.mem_cons,not_or] at hx;unfold insH
    by_cases h1 : h.f0 > x.f0
    · rw [if_pos h1]
      refine List.pairwise_cons.2 ⟨fun y hy => ?_,ha⟩
      rcases List.mem_cons.1 hy with rfl | hy
      · exact h1
      have := p.1 y hy;omega
    rw [if_neg h1];refine List.pairwise_cons.2 ⟨fun y hy => ?_,insH_asc p.2 hx.2⟩
    rcases List.mem_cons.1 ((insH_perm x r).mem_iff.1 hy) with rfl | hy
    · have := hx.1
      omega
    exact p.1 y hy
end Go.Proofs.YtblemmagkehanaaGreat.PA
