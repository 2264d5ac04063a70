/- Rows of news as rows of cells; slices.Clone of news. Conditions: the row fits in memory. -/
import Derived.Test.YtblemmagkehanaaGreatZkCc
import Derived.Laws.AppendOwn
import Derived.Lib.SliceRun
import Derived.Laws.CopyRow
import Derived.Laws.OwnMore
namespace Go.Proofs.YtblemmagkehanaaGreat.PA
open Go.RowKit Go.Proofs.YtblemmagkehanaaGreatW.PrintWords Go.Proofs.YtblemmagkehanaaGreatW.PrintLast Go.Proofs.YtblemmagkehanaaGreatW.PrintMore
set_option linter.unusedVariables false
set_option linter.unusedSimpArgs false
def enc5 (x : S61) : List Value := [.int .i64 x.f0,.int .i64 x.f1,.float .f64 x.f2,.float .f64 x.f3,.int .i64 x.f4]
def fl (l : List S61) : List Value := l.flatMap enc5
theorem fl_cons (x : S61) (l : List S61) : fl (x :: l) = enc5 x ++ fl l := by simp [fl]
theorem fl_append (a b : List S61) : fl (a ++ b) = fl a ++ fl b := by simp [fl]
theorem fl_length : ∀ l : List S61,(fl l).length = l.length * 5
  | [] => rfl
  | x :: l => by
    rw [fl_cons,List.length_append,fl_length l,List.length_cons];simp only [enc5,List.length_cons,List.length_nil];omega
theorem fl_one : ∀ (l : List S61),∀ u ∈ fl l,u.oneCell' = true
  | [],u,h => by cases h
  | x :: l,u,h => by
    rw [fl_cons] at h
    rcases List.mem_append.1 h with h | h
    · simp only [enc5,List.mem_cons,List.mem_nil_iff,or_false] at h
      rcases h with rfl | rfl | rfl | rfl | rfl <;> rfl
    exact fl_one l u h
theorem fl_at : ∀ (l : List S61) (j : Nat) (p : S61),l[j]? = some p → ((fl l).drop (j * 5)).take 5 = enc5 p
  | x :: l,0,p,h => by
    simp only [List.getElem?_cons_zero,Option.some.injEq] at h;subst h;rw [fl_cons];rfl
  | x :: l,j + 1,p,h => by
    rw [fl_cons,show (j + 1) * 5 = 5 + j * 5 by omega,← List.drop_drop];exact fl_at l j p (by simpa using h)
theorem fl_of : ∀ (l : List S61) (cs : List Value),cs.length = l.length * 5 → (∀ j p,l[j]? = some p → (cs.drop (j * 5)).take 5 = enc5 p) → cs = fl l
  | [],cs,h1,_ => List.eq_nil_of_length_eq_zero (by simpa using h1)
  | x :: l,cs,h1,h2 => by
    have h3 := h2 0 x rfl;have h4 := fl_of l (cs.drop 5) (by rw [List.length_drop,h1,List.length_cons];omega) (fun j p hj => by
      rw [List.drop_drop,show 5 + j * 5 = (j + 1) * 5 by omega];exact h2 (j + 1) p (by simpa using hj))
    rw [fl_cons,← h4,← h3]
    simp
theorem R_flat {w : World} {base : Nat} {ok : Nat → Prop} {v : Value} {l : List S61} : Kd.R k61 61 w base ok v l ↔ (∀ k,v.ownBlock = some k → ok k) ∧ w.ownsRow base 61 5 v l.length (fl l) := by
  constructor
  · rintro ⟨h0,inner,hown,hr1,hr2⟩
    have : inner = fl l := fl_of l inner hr1 (fun j p hj => k61_openM (hr2 j p hj));subst this;exact ⟨h0,hown⟩
  rintro ⟨h0,hown⟩;exact ⟨h0,fl l,hown,fl_length l,fun j p hj => by rw [show k61.sz = 5 from rfl,fl_at l j p hj];exact k61_mkM _ _ _ p⟩
theorem C_flat {w : World} {A : Option Addr} {n : Nat} {l : List S61} (h : Kd.C k61 w A n l) (hn : 0 < n) : ∃ ad,A = some ad ∧ ∀ j u,(fl l)[j]? = some u → w.cell? (ad.add j) = some u := by
  obtain ⟨h1,h2,h3⟩ := h;obtain ⟨ad,e,h4⟩ := h3 hn;refine ⟨ad,e,fun j u hu => ?_⟩;have hj : j < l.length * 5 := by
    have := (List.getElem?_eq_some_iff.1 hu).1
    rwa [fl_length] at this
  have hlt : j / 5 < l.length := by omega
  obtain ⟨c,hc,hK,h5⟩ := h4 (j / 5) _ (List.getElem?_eq_getElem hlt);obtain rfl := k61_open hK;have h6 := fl_at l (j / 5) _ (List.getElem?_eq_getElem hlt);have h7 : (enc5 l[j / 5])[j % 5]? = some u := by
    rw [← h6,List.getElem?_take,if_pos (by omega),List.getElem?_drop,show j / 5 * 5 + j % 5 = j by omega];exact hu
  have h8 := h5 (j % 5) u h7
  rwa [show k61.sz = 5 from rfl,show j / 5 * 5 + j % 5 = j by omega] at h8
theorem nil_eq61 (w : World) (A : Option Addr) (n c : Nat) : (binOp .eql 29 (.slice A n c) (.slice none 0 0)).run Tryz.prog w = .ok (.bool A.isNone) w := Lib.run_eql_slice_nil w 29 61 A n c 0 0 Tryz.underlying29
set_option maxHeartbeats 2000000 in
set_option maxRecDepth 100000 in
theorem clone_any {w : World} {A : Option Addr} {c : Nat} {l : List S61} (h : Kd.C k61 w A l.length l) (hb : l.length ≤ 3518437208883) (h0 : A = none → c = 0) :
    Calls Tryz.prog 41 #[.slice A l.length c] w fun e w' => ∃ v,e = .returned v ∧ Kd.R k61 61 w' w.heap.size (fun _ => True) v l ∧ Below w.heap.size w w' := by
  obtain ⟨i0,hi,hz0,hz1,hz2⟩ := info_parts info61
  cases A with
  | none =>
    have hl : l = [] := by
      rcases Nat.eq_zero_or_pos l.length with h1 | h1
      · exact List.eq_nil_of_length_eq_zero h1
      obtain ⟨ad,e,_⟩ := h.2.2 h1
      cases e
    subst hl;obtain rfl := h0 rfl;clear h h0;have hq := fun w n c => nil_eq61 w none n c
    go_enter Tryz.func41,Tryz.ntmps41;go_wp2;go_ret;exact ⟨_,rfl,Kd.R_nil _ _ _ _ _,Below.refl _ _⟩
  | some ad =>
    clear h0;have A0 : Aside0 (∀ j u,(fl l)[j]? = some u → w.cell? (ad.add j) = some u) := ⟨fun j u hu => by
      rcases Nat.eq_zero_or_pos l.length with h1 | h1
      · rw [List.eq_nil_of_length_eq_zero h1] at hu
        cases hu
      obtain ⟨ad',e,h2⟩ := C_flat h h1
      cases e
      exact h2 j u hu⟩
    clear h;have hq := fun w n c => nil_eq61 w (some ad) n c
    go_enter Tryz.func41,Tryz.ntmps41
    go_wp2_with (at_builtin;refine wpList_append_own _ rfl _ _ 29 rfl w.heap.size 61 i0 _ 5 40 Tryz.underlying29 hi hz0 hz1 hz2 (by rfl) (by decide) _ _ _ rfl (World.ownsRow_made w #[] 0 (Nat.le_refl _) (Nat.zero_le _) (by simp)) ad l.length c (fl l) rfl ?qc1 ?qc2 ?qc3 ?qc4 ?qc5 ?qc6 ?_)
    case qc1 => exact fl_length l
    case qc2 =>
      intro j u hj;exact pw_cell_below (below_alloc (Below.refl _ _) _) (A0.out j u hj)
    case qc3 => exact fl_one l
    case qc4 => rw [Nat.zero_add];unfold maxLen;omega
    case qc5 => rw [Nat.zero_add];omega
    case qc6 => simp
    intro v' w1 hown hgrow hnil;go_wp2;go_ret;refine ⟨v',rfl,R_flat.2 ⟨fun _ _ => trivial,by simpa using hown⟩,?_⟩;exact ((Below.refl _ w).alloc (Nat.le_refl _) _).grown hgrow (by simp) (by intro k hk;simp [Value.ownBlock] at hk;omega)
set_option maxHeartbeats 1000000 in
set_option maxRecDepth 100000 in
theorem list_some {w : World} {g b : Nat} {L : List Nb} (h : CacheAt w g b L) {id : Int} {e : Nb} (he : nbGet id L = some e) :
    Calls Tryz.prog 13 #[.pointer (some ⟨g,0,none⟩),.int .i64 id] w fun e_ w' => ∃ v,e_ = .returned (.tuple #[v,.int .i64 0]) ∧ Kd.R k61 61 w' w.heap.size (fun _ => True) v e.news ∧ Below w.heap.size w w' := by
  have HF := Aside0.mk (find_some h he);have HN := Aside0.mk (h.nb e (nbGet_mem he).1);have c1 : w.cell? ⟨e.p,1,none⟩ = some (.slice e.A e.news.length e.c) := (blk_cell HN.out.1 1).trans rfl;have HC := Aside0.mk (clone_any HN.out.2.1 (Nat.le_trans HN.out.2.2.2.2 (by decide)) HN.out.2.2.2.1);clear h he;go_enter Tryz.func13,Tryz.ntmps13
  go_wp2_with (first | (go_at_call 33;refine HF.out.mono ?_;rintro e w3 ⟨rfl,rfl⟩) | (go_at_call 41;refine HC.out.mono ?_;rintro e w3 ⟨v,rfl,hR,hb⟩;have HR := Aside0.mk hR;have HB := Aside0.mk hb;clear hR hb))
  go_ret2;exact ⟨v,rfl,HR.out,HB.out⟩
end Go.Proofs.YtblemmagkehanaaGreat.PA
namespace Go.Proofs.YtblemmagkehanaaGreat.PA
open Go.RowKit Go.Proofs.YtblemmagkehanaaGreatW.PrintWords Go.Proofs.YtblemmagkehanaaGreatW.PrintLast Go.Proofs.YtblemmagkehanaaGreatW.PrintMore
set_option linter.unusedVariables false
set_option linter.unusedSimpArgs false
section
variable {P : Program}
theorem run_copy_rowN (w : World) (dT sT ty elem : TypeId) (size g o dLen dCap : Nat) (a : Addr) (sLen sCap : Nat) (cur : Array Value) (t : TypeId) (cs : List Value) (n : Nat)
    (hu : P.underlying dT = some (.slice elem)) (hs : (P.info? elem).map (·.size) = some size)
    (hg : w.heap[g]? = some (.cells cur t (0,0))) (hn : n = Nat.min sLen dLen) (hl : cs.length = n * size)
    (hsrc : ∀ j v,cs[j]? = some v → w.cell? (a.add j) = some v) (hfit : o + cs.length ≤ cur.size) (h1 : ∀ v ∈ cs,v.oneCell' = true) :
    (Builtin.copy_ #[dT,sT] ty #[.slice (some ⟨g,o,none⟩) dLen dCap,.slice (some a) sLen sCap]).run P w =
      .ok (goInt n) (w.setRow g (cur.toList.take o ++ cs ++ cur.toList.drop (o + cs.length)).toArray) := by
  have hl2 := run_loadCells_list (P := P) w a cs hsrc;rw [hl] at hl2;have hst := run_storeCells_at P g o t cs 0 cur w hg (by simpa using hfit) h1
  cases hq : P.info? elem with
  | none => simp [hq] at hs
  | some i =>
    have hi : i.size = size := by simpa [hq] using hs
    simp [Builtin.copy_,run_underlying hu,Builtin.lenOf,Builtin.firstCells,sizeOf,typeInfo,hq,hi,← hn,hl2,hst]
theorem run_clear_rowN (w : World) (t e ty : TypeId) (z : Value) (ht : P.underlying t = some (.slice e)) (hv : (zeroValue e).run P w = .ok z w) (g o n c : Nat) (cur : Array Value) (tt : TypeId) (hg : w.heap[g]? = some (.cells cur tt (0,0)))
    (h1 : ∀ u ∈ (Builtin.zeroCells z.cells (n + 1)).toList,u.oneCell' = true) (hfit : o + (Builtin.zeroCells z.cells (n + 1)).size ≤ cur.size) :
    (Builtin.clear_ #[t] ty #[.slice (some ⟨g,o,none⟩) (n + 1) c]).run P w = .ok (.tuple #[]) (w.setRow g (cur.toList.take o ++ (Builtin.zeroCells z.cells (n + 1)).toList ++ cur.toList.drop (o + (Builtin.zeroCells z.cells (n + 1)).toList.length)).toArray) := by
  have hst := run_storeCells_at P g o tt (Builtin.zeroCells z.cells (n + 1)).toList 0 cur w hg (by simpa using hfit) h1;simp only [Nat.add_zero] at hst
  simp [Builtin.clear_,run_underlying ht,hv,hst]
end
theorem own_take {w : World} {base e size n cap g : Nat} {xs : List Value} (h : w.ownsRow base e size (.slice (some ⟨g,0,none⟩) n cap) n xs) (m : Nat) (hm : m ≤ n) : w.ownsRow base e size (.slice (some ⟨g,0,none⟩) m cap) m (xs.take (m * size)) := by
  obtain ⟨h1,h2⟩ := h;have hms : m * size ≤ n * size := Nat.mul_le_mul_right _ hm
  rcases h2 with ⟨h2,_⟩ | ⟨g',cap',cur,he,hb,hg,hnc,hcm,hcs,ht⟩
  · cases h2
  simp only [Value.slice.injEq,Option.some.injEq,Addr.mk.injEq,and_true,true_and] at he;obtain ⟨rfl,rfl⟩ := he;refine ⟨by rw [List.length_take,h1];omega,.inr ⟨g,cap,cur,rfl,hb,hg,by omega,hcm,hcs,?_⟩⟩;rw [← ht,List.take_take]
  congr 1
  omega
theorem own_cells {w : World} {base e size n cap g : Nat} {xs : List Value} (h : w.ownsRow base e size (.slice (some ⟨g,0,none⟩) n cap) n xs) : ∃ cur,base ≤ g ∧ w.heap[g]? = some (.cells cur e (0,0)) ∧ n ≤ cap ∧ cap ≤ maxLen ∧ cur.size = cap * size ∧ cur.toList.take (n * size) = xs := by
  rcases h.2 with ⟨h2,_⟩ | ⟨g',cap',cur,he,hb,hg,hnc,hcm,hcs,ht⟩
  · cases h2
  simp only [Value.slice.injEq,Option.some.injEq,Addr.mk.injEq,and_true,true_and] at he;obtain ⟨rfl,rfl⟩ := he;exact ⟨cur,hb,hg,hnc,hcm,hcs,ht⟩
theorem own_of {w : World} {base e size n cap g : Nat} {xs : List Value} {cur : Array Value} (hb : base ≤ g) (hg : w.heap[g]? = some (.cells cur e (0,0))) (hnc : n ≤ cap) (hcm : cap ≤ maxLen) (hcs : cur.size = cap * size) (ht : cur.toList.take (n * size) = xs) : w.ownsRow base e size (.slice (some ⟨g,0,none⟩) n cap) n xs := by
  refine ⟨?_,.inr ⟨g,cap,cur,rfl,hb,hg,hnc,hcm,hcs,ht⟩⟩;have := Nat.mul_le_mul_right size hnc;rw [← ht,List.length_take,Array.length_toList,hcs];omega
theorem own_cell_at {w : World} {base e size n cap g : Nat} {xs : List Value} (h : w.ownsRow base e size (.slice (some ⟨g,0,none⟩) n cap) n xs) (o j : Nat) (u : Value) (hu : (xs.drop o)[j]? = some u) : w.cell? ((⟨g,o,none⟩ : Addr).add j) = some u := by
  obtain ⟨cur,hb,hg,hnc,hcm,hcs,ht⟩ := own_cells h;have e1 : (⟨g,o,none⟩ : Addr).add j = ⟨g,o + j,none⟩ := by unfold Addr.add;split <;> simp_all
  rw [e1,blk_cell hg];rw [List.getElem?_drop,← ht,List.getElem?_take] at hu
  split at hu
  · rw [← Array.getElem?_toList]
    exact hu
  cases hu
theorem row_grown (w : World) (g : Nat) (row : Array Value) : w.grownBy (w.setRow g row) (some g) := ⟨rfl,rfl,rfl,by simp,fun k _ hk => setRow_other w g k _ (fun e => hk (by simp [e]))⟩
theorem own_written {w : World} {base e size n cap g : Nat} {xs : List Value} (h : w.ownsRow base e size (.slice (some ⟨g,0,none⟩) n cap) n xs) (o : Nat) (cs : List Value) (m : Nat) (ys : List Value) (hm : m ≤ cap) {cur : Array Value} (hg : w.heap[g]? = some (.cells cur e (0,0))) (hfit : o + cs.length ≤ cap * size)
    (hy : (cur.toList.take o ++ cs ++ cur.toList.drop (o + cs.length)).take (m * size) = ys) :
    (w.setRow g (cur.toList.take o ++ cs ++ cur.toList.drop (o + cs.length)).toArray).ownsRow base e size (.slice (some ⟨g,0,none⟩) m cap) m ys := by
  obtain ⟨cur',hb,hg',hnc,hcm,hcs,ht⟩ := own_cells h;rw [hg] at hg'
  cases hg'
  refine own_of hb (setRow_heap w g cur _ e _ hg) hm hcm ?_ hy;simp only [List.size_toArray,List.length_append,List.length_take,List.length_drop,Array.length_toList];omega
end Go.Proofs.YtblemmagkehanaaGreat.PA
