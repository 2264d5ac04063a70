/- The document's merge, count of changes and Learn in plain terms. Conditions: what is told may be, the lists rise and fit in memory. -/
import Derived.Test.YtblemmagkehanaaGreatZkGg
namespace Go.Proofs.YtblemmagkehanaaGreat.PA
open Go.RowKit Go.Proofs.YtblemmagkehanaaGreatW.PrintWords
set_option linter.unusedVariables false
set_option linter.unusedSimpArgs false
theorem max_num : (Ieee.double.read 9218868437227405311).isNaN = false := by decide
theorem order_num (a : Nat) (h : (Ieee.double.read a).isNaN = false) : ∃ o,FloatKind.f64.format.order a 9218868437227405311 = some o := by
  rw [order_read];have h2 := max_num
  cases h1 : Ieee.double.read a with
  | nan s f => rw [h1] at h;cases h
  | number s m p =>
    cases h3 : Ieee.double.read 9218868437227405311 with
    | nan s f => rw [h3] at h2;cases h2
    | number s m p => exact ⟨_,rfl⟩
    | infinity s => cases s <;> exact ⟨_,rfl⟩
  | infinity s =>
    cases h3 : Ieee.double.read 9218868437227405311 with
    | nan s f => rw [h3] at h2;cases h2
    | number s2 m p => cases s <;> exact ⟨_,rfl⟩
    | infinity s2 => cases s <;> cases s2 <;> exact ⟨_,rfl⟩
theorem far_num (a : Nat) (h : farB a = true) (hi : infB a = false) : (Ieee.double.read a).isNaN = false := by
  have hr := far_ref a;rw [h] at hr;unfold beaconref06_Far.f at hr;rw [inf_f,hi] at hr;simp only [Option.bind_some,Bool.false_eq_true,if_false] at hr
  by_cases h0 : (a : Int) = 0
  · have : a = 0 := by omega
    subst this
    decide
  rw [if_neg h0] at hr
  by_cases h3 : (FloatKind.f64.format.order a 0 == some .gt) = true
  · rw [order_read] at h3
    cases h1 : Ieee.double.read a with
    | nan s f =>
      rw [h1] at h3
      simp [Ieee.Datum.order] at h3
    | number s m p => rfl
    | infinity s => rfl
  rw [if_neg h3] at hr
  cases hr
theorem far_near (a : Nat) (h : farB a = true) (hi : infB a = false) : (FloatKind.f64.format.order a 9218868437227405311 == some .lt) = true ∨ (FloatKind.f64.format.order a 9218868437227405311 == some .eq) = true := by
  obtain ⟨o,ho⟩ := order_num a (far_num a h hi);unfold infB at hi;rw [ho] at hi ⊢
  cases o
  · exact .inl rfl
  · exact .inr rfl
  simp at hi
theorem inf_far (a : Nat) (hi : infB a = true) : (FloatKind.f64.format.order a 9218868437227405311 == some .lt) = false ∧ (FloatKind.f64.format.order a 9218868437227405311 == some .eq) = false := by
  unfold infB at hi;rw [beq_iff_eq] at hi;rw [hi];exact ⟨rfl,rfl⟩
theorem may_far {n : S61} (h : mayB n = true) : farB n.f2 = true := by
  simp only [mayB,Bool.and_eq_true] at h;exact h.2.2.1
theorem getDn {l : List S61} {i : Nat} (h : i < l.length) : l.getD i z61 = l[i] := by simp [List.getD_eq_getElem?_getD,h]
theorem mg_l2 (ns : List S61) (hn : ∀ n ∈ ns,mayB n = true) (hl : ns.length ≤ 4294967296) : ∀ (m j : Nat) (out : List S61),j + m = ns.length → out.length ≤ 4294967296 + j → Ev (fun k => beaconref13_merge.l2 k ns out (j : Int)) (out ++ (ns.drop j).filter fun n => !infB n.f2)
  | 0,j,out,e,ho => by
    rw [List.drop_eq_nil_of_le (by omega)];exact Ev.now fun k => by rw [beaconref13_merge_l2_eq,if_neg (by omega)];simp
  | m + 1,j,out,e,ho => by
    have hj : j < ns.length := by omega
    have hm := hn _ (List.getElem_mem hj);rw [List.drop_eq_getElem_cons hj]
    by_cases hi : infB ns[j].f2 = true
    · rw [List.filter_cons_of_neg (by simp [hi])]
      have ih := mg_l2 ns hn hl m (j + 1) out (by omega) (by omega);obtain ⟨h1,h2⟩ := inf_far _ hi;exact Ev.next ih fun k => by rw [beaconref13_merge_l2_eq,if_pos (by omega),if_pos (by omega),rdn,getDn hj,h1,h2,if_neg (by decide),if_neg (by decide),next64 _ (by omega)]
    rw [List.filter_cons_of_pos (by simp [hi])];have ih := mg_l2 ns hn hl m (j + 1) (out ++ [ns[j]]) (by omega) (by simp;omega);rw [List.append_assoc] at ih
    rcases far_near _ (may_far hm) (by simpa using hi) with h1 | h1
    · exact Ev.next ih fun k => by rw [beaconref13_merge_l2_eq,if_pos (by omega),if_pos (by omega),rdn,getDn hj,if_pos h1,if_pos (by omega),next64 _ (by omega)]
    refine Ev.next ih fun k => ?_
    rw [beaconref13_merge_l2_eq,if_pos (by omega),if_pos (by omega),rdn,getDn hj,if_pos h1]
    split
    · rw [if_pos (by omega),next64 _ (by omega)]
    rw [if_pos (by omega),next64 _ (by omega)]
theorem mg_go (l ns : List S61) (hn : ∀ n ∈ ns,mayB n = true) (hll : l.length ≤ 4294967296) (hnl : ns.length ≤ 4294967296) : ∀ (N i j : Nat) (out : List S61),i ≤ l.length → j ≤ ns.length → (l.length - i) + (ns.length - j) ≤ N → out.length ≤ i + j →
    Ev (fun k => beaconref13_merge.l0 k l ns out (j : Int) (i : Int)) (out ++ mg (l.drop i) (ns.drop j)) ∧ (i < l.length → Ev (fun k => beaconref13_merge.l1 k l ns out (j : Int) (i : Int)) (out ++ mg (l.drop i) (ns.drop j)))
  | N,i,j,out,hi,hj,hN,ho => by
    have hend : ¬ i < l.length → Ev (fun k => beaconref13_merge.l0 k l ns out (j : Int) (i : Int)) (out ++ mg (l.drop i) (ns.drop j)) := fun h1 => by
      rw [List.drop_eq_nil_of_le (by omega),mg];exact Ev.next (mg_l2 ns hn hnl (ns.length - j) j out (by omega) (by omega)) fun k => by rw [beaconref13_merge_l0_eq,if_neg (by omega)]
    have hl1 : i < l.length → Ev (fun k => beaconref13_merge.l1 k l ns out (j : Int) (i : Int)) (out ++ mg (l.drop i) (ns.drop j)) := fun h1 => by
      cases N with
      | zero => omega
      | succ N =>
        rw [List.drop_eq_getElem_cons h1]
        by_cases h2 : j < ns.length
        rotate_left
        · rw [show ns.drop j = [] from List.drop_eq_nil_of_le (by omega),mg]
          have ih := (mg_go l ns hn hll hnl N (i + 1) j (out ++ [l[i]]) (by omega) hj (by omega) (by simp;omega)).1;rw [List.append_assoc,show ns.drop j = [] from List.drop_eq_nil_of_le (by omega)] at ih;refine Ev.next (G := fun k => beaconref13_merge.j2 k l ns out (j : Int) (i : Int) false) ?_ (fun k => by rw [beaconref13_merge_l1_eq,if_neg (by omega)])
          exact Ev.next ih fun k => by rw [beaconref13_merge_j2_eq,if_neg (by decide),if_neg (by omega),if_pos (by omega),if_pos (by omega),if_pos (by omega),rdn,getDn h1,next64 _ (by omega)]
        have hm := hn _ (List.getElem_mem h2);rw [List.drop_eq_getElem_cons h2,mg];refine Ev.next (G := fun k => beaconref13_merge.j2 k l ns out (j : Int) (i : Int) (aheadB ns[j] l[i])) ?_ (fun k => by rw [beaconref13_merge_l1_eq,if_pos (by omega),if_pos (by omega),if_pos (by omega),if_pos (by omega),rdn,rdn,getDn h1,getDn h2,ahead_ref,Option.bind_some])
        by_cases h3 : aheadB ns[j] l[i] = true
        · rw [if_pos h3,h3]
          by_cases hi2 : infB ns[j].f2 = true
          · rw [if_pos hi2]
            have ih := (mg_go l ns hn hll hnl N i (j + 1) out hi (by omega) (by omega) (by omega)).2 h1;rw [List.drop_eq_getElem_cons h1] at ih;obtain ⟨g1,g2⟩ := inf_far _ hi2;exact Ev.next ih fun k => by rw [beaconref13_merge_j2_eq,if_pos rfl,if_pos (by omega),if_pos (by omega),rdn,getDn h2,g1,g2,if_neg (by decide),if_neg (by decide),next64 _ (by omega)]
          rw [if_neg hi2];have ih := (mg_go l ns hn hll hnl N i (j + 1) (out ++ [ns[j]]) hi (by omega) (by omega) (by simp;omega)).2 h1;rw [List.append_assoc,List.drop_eq_getElem_cons h1] at ih
          rcases far_near _ (may_far hm) (by simpa using hi2) with g1 | g1
          · exact Ev.next ih fun k => by rw [beaconref13_merge_j2_eq,if_pos rfl,if_pos (by omega),if_pos (by omega),rdn,getDn h2,if_pos g1,if_pos (by omega),next64 _ (by omega)]
          refine Ev.next ih fun k => ?_
          rw [beaconref13_merge_j2_eq,if_pos rfl,if_pos (by omega),if_pos (by omega),rdn,getDn h2,if_pos g1]
          split
          · rw [if_pos (by omega),next64 _ (by omega)]
          rw [if_pos (by omega),next64 _ (by omega)]
        have h3' : aheadB ns[j] l[i] = false := by simpa using h3
        rw [if_neg h3,h3']
        by_cases h4 : aheadB l[i] ns[j] = true
        · rw [if_pos h4]
          have ih := (mg_go l ns hn hll hnl N (i + 1) j (out ++ [l[i]]) (by omega) hj (by omega) (by simp;omega)).1;rw [List.append_assoc,List.drop_eq_getElem_cons h2] at ih;exact Ev.next ih fun k => by rw [beaconref13_merge_j2_eq,if_neg (by decide),if_pos (by omega),if_pos (by omega),if_pos (by omega),if_pos (by omega),rdn,rdn,getDn h1,getDn h2,ahead_ref,Option.bind_some,if_pos h4,if_pos (by omega),next64 _ (by omega)]
        rw [if_neg h4];have ih := (mg_go l ns hn hll hnl N (i + 1) j out (by omega) hj (by omega) (by omega)).1;rw [List.drop_eq_getElem_cons h2] at ih;exact Ev.next ih fun k => by rw [beaconref13_merge_j2_eq,if_neg (by decide),if_pos (by omega),if_pos (by omega),if_pos (by omega),if_pos (by omega),rdn,rdn,getDn h1,getDn h2,ahead_ref,Option.bind_some,if_neg h4,next64 _ (by omega)]
    refine ⟨?_,hl1⟩
    by_cases h1 : i < l.length
    · exact Ev.next (hl1 h1) fun k => by rw [beaconref13_merge_l0_eq,if_pos (by omega)]
    exact hend h1
theorem merge_ref (l ns : List S61) (hn : ∀ n ∈ ns,mayB n = true) (hll : l.length ≤ 4294967296) (hnl : ns.length ≤ 4294967296) : Ev (fun k => beaconref13_merge.f k l ns) (mg l ns) := by
  have := (mg_go l ns hn hll hnl _ 0 0 [] (by omega) (by omega) (Nat.le_refl _) (by simp)).1;exact this
theorem same_one (a b : S61) : Ev (fun k => beaconref06_SameNews.f k [a] [b]) (sameB a b) := by
  refine ⟨4,fun k hk => ?_⟩;obtain ⟨k,rfl⟩ : ∃ q,k = q + 4 := ⟨k - 4,by omega⟩
  unfold beaconref06_SameNews.f sameB;dsimp only;rw [if_pos (by simp),beaconref06_SameNews_l0_eq];have e0 : rd_T61 [a] 0 = a := rfl;have e1 : rd_T61 [b] 0 = b := rfl;simp only [e0,e1];have z : ((0 : Int) < (([a] : List S61).length : Int)) := by simp
  have z2 : ((0 : Int) < (([b] : List S61).length : Int)) := by simp
  rw [if_pos z,if_pos (by omega),if_pos z2];have fin : beaconref06_SameNews.l0 (k + 2) [a] [b] (wrap64 (0 + 1)) = some true := by
    rw [beaconref06_SameNews_l0_eq,if_neg (by simp [wrap64])]
  by_cases h0 : a.f0 = b.f0
  · by_cases h1 : a.f1 = b.f1
    · by_cases h4 : a.f4 = b.f4
      · by_cases h2 : a.f2 = b.f2
        · rw [if_pos h0,if_pos h1,if_pos h4,if_pos (by rw [h2]),beaconref06_SameNews_j1_eq]
          by_cases h3 : a.f3 = b.f3
          · rw [if_neg (by simp [h3]),fin]
            simp [h0,h1,h2,h3,h4]
          have : ((a.f3 : Int) != (b.f3 : Int)) = true := by simp;omega
          rw [if_pos this]
          simp [h3]
        rw [if_pos h0,if_pos h1,if_pos h4,if_neg (by omega),beaconref06_SameNews_j1_eq,if_pos rfl]
        simp [h2]
      rw [if_pos h0,if_pos h1,if_neg h4,beaconref06_SameNews_j1_eq,if_pos rfl]
      simp [h4]
    rw [if_pos h0,if_neg h1,beaconref06_SameNews_j1_eq,if_pos rfl]
    simp [h1]
  rw [if_neg h0,beaconref06_SameNews_j1_eq,if_pos rfl]
  simp [h0]
theorem findV_fnd (x : S61) (b : List S61) : findV x.f1 x.f0 b = fnd x b := by
  unfold findV fnd
  congr 1
theorem chg_l0 (a b : List S61) (same : Bool) (hb : b.length < 4611686018427387904) (hal : a.length < 4611686018427387904) : ∀ (m i n : Nat),i + m = a.length → n ≤ i → Ev (fun k => beaconref13_changed.l0 k a b same (n : Int) (i : Int)) ((n + ((a.drop i).countP (otherB b same)) : Nat) : Int)
  | 0,i,n,e,hn => by
    rw [List.drop_eq_nil_of_le (by omega)];exact Ev.now fun k => by rw [beaconref13_changed_l0_eq,if_neg (by omega)];simp
  | m + 1,i,n,e,hn => by
    have hi : i < a.length := by omega
    rw [List.drop_eq_getElem_cons hi,List.countP_cons];have hf : Ev (fun k => beaconref13_find.f k b a[i].f1 a[i].f0) _ := ⟨b.length + 1,fun k hk => find_all b a[i].f1 a[i].f0 hb k hk⟩
    have tail : ∀ t : Bool,otherB b same a[i] = t → Ev (fun k => beaconref13_changed.j1 k a b same (n : Int) (i : Int) t) ((n + (((a.drop (i + 1)).countP (otherB b same)) + if t = true then 1 else 0) : Nat) : Int) := fun t ht => by
      cases t with
      | true =>
        have ih := chg_l0 a b same hb hal m (i + 1) (n + 1) (by omega) (by omega);rw [show n + 1 + (a.drop (i + 1)).countP (otherB b same) = n + ((a.drop (i + 1)).countP (otherB b same) + if true = true then 1 else 0) by simp;omega] at ih;exact Ev.next ih fun k => by rw [beaconref13_changed_j1_eq,if_pos rfl,next64 _ (by omega),next64 _ (by omega)]
      | false =>
        have ih := chg_l0 a b same hb hal m (i + 1) n (by omega) (by omega);have ih2 : Ev (fun k => beaconref13_changed.l0 k a b same (n : Int) ((i + 1 : Nat) : Int)) ((n + (((a.drop (i + 1)).countP (otherB b same)) + if false = true then 1 else 0) : Nat) : Int) := by rw [if_neg (by decide),Nat.add_zero];exact ih
        exact Ev.next ih2 fun k => by rw [beaconref13_changed_j1_eq,if_neg (by decide),next64 _ (by omega)]
    rw [findV_fnd] at hf;have ho : otherB b same a[i] = match fnd a[i] b with | none => true | some y => same && !sameB y a[i] := rfl
    cases hx : fnd a[i] b with
    | none =>
      rw [hx] at hf ho;have t1 := tail true ho;rw [ho];refine Ev.nextBind hf (H := fun bt k => if bt.2.2.2.2.2 = true then (if same = true then (beaconref06_SameNews.f k [⟨bt.1,bt.2.1,bt.2.2.1,bt.2.2.2.1,bt.2.2.2.2.1⟩] [⟨a[i].f0,a[i].f1,a[i].f2,a[i].f3,a[i].f4⟩]).bind fun t257 => beaconref13_changed.j1 k a b same (n : Int) (i : Int) (!t257) else beaconref13_changed.j1 k a b same (n : Int) (i : Int) false) else beaconref13_changed.j1 k a b same (n : Int) (i : Int) true) ?_ fun k => ?_
      · exact t1
      rw [beaconref13_changed_l0_eq,if_pos (by omega),if_pos (by omega),rdn,getDn hi]
    | some y =>
      rw [hx] at hf ho;have t1 := tail _ ho;rw [ho];refine Ev.nextBind hf (H := fun bt k => if bt.2.2.2.2.2 = true then (if same = true then (beaconref06_SameNews.f k [⟨bt.1,bt.2.1,bt.2.2.1,bt.2.2.2.1,bt.2.2.2.2.1⟩] [⟨a[i].f0,a[i].f1,a[i].f2,a[i].f3,a[i].f4⟩]).bind fun t257 => beaconref13_changed.j1 k a b same (n : Int) (i : Int) (!t257) else beaconref13_changed.j1 k a b same (n : Int) (i : Int) false) else beaconref13_changed.j1 k a b same (n : Int) (i : Int) true) ?_ fun k => ?_
      · cases same with
        | true => exact Ev.lift (same_one y a[i]) (H := fun t k => beaconref13_changed.j1 k a b true (n : Int) (i : Int) (!t)) t1 (fun k => rfl)
        | false => exact t1
      rw [beaconref13_changed_l0_eq,if_pos (by omega),if_pos (by omega),rdn,getDn hi]
theorem changed_ref (a b : List S61) (same : Bool) (hb : b.length < 4611686018427387904) (hal : a.length < 4611686018427387904) : Ev (fun k => beaconref13_changed.f k a b same) ((chg a b same : Nat) : Int) := by
  have := chg_l0 a b same hb hal a.length 0 0 (by omega) (by omega);simp only [List.drop_zero,Nat.zero_add] at this;exact this
theorem told_ref (l : List S61) (hl : l.length < 4611686018427387904) : Ev (fun k => beaconref13_told.f k l) (risFrom l l.length 0) := ⟨2 * l.length + 3,fun k hk => ris_l0 l hl l.length 0 k (by omega) hk⟩
theorem ris_ok : ∀ (n i : Nat) (l : List S61),i + n = l.length → risFrom l n i = true → ∀ j,i ≤ j → j < l.length → okAt l j = true
  | 0,i,l,e,h,j,h1,h2 => by omega
  | n + 1,i,l,e,h,j,h1,h2 => by
    simp only [risFrom,Bool.and_eq_true] at h
    rcases Nat.lt_or_ge i j with h3 | h3
    · exact ris_ok n (i + 1) l (by omega) h.2 j h3 h2
    obtain rfl : i = j := by omega
    exact h.1
theorem ris_news {l : List S61} (h : risFrom l l.length 0 = true) : NewsOk l := by
  have h1 := ris_ok l.length 0 l (by omega) h
  constructor
  · rw [AscN,List.pairwise_iff_getElem]
    intro i j hi hj hij;have step : ∀ d,i + d + 1 < l.length → aheadB (l.getD i z61) (l.getD (i + d + 1) z61) = true := by
      intro d
      induction d with
      | zero =>
        intro hd;have := h1 (i + 1) (by omega) (by omega);simp only [okAt,Bool.and_eq_true,Bool.or_eq_true] at this
        rcases this.2 with h2 | h2
        · simp at h2
        simpa using h2
      | succ d ih =>
        intro hd;have := h1 (i + d + 1 + 1) (by omega) (by omega);simp only [okAt,Bool.and_eq_true,Bool.or_eq_true] at this
        rcases this.2 with h2 | h2
        · simp at h2
        rw [show i + (d + 1) + 1 = i + d + 1 + 1 by omega];exact ahead_trans (ih (by omega)) (by rw [show i + d + 1 + 1 - 1 = i + d + 1 by omega] at h2;exact h2)
    have := step (j - i - 1) (by omega);rw [show i + (j - i - 1) + 1 = j by omega,getDn hi,getDn hj] at this;exact this
  intro n hn;obtain ⟨i,hi,rfl⟩ := List.getElem_of_mem hn;have := h1 i (by omega) hi;simp only [okAt,Bool.and_eq_true] at this;rw [getDn hi] at this;exact this.1
theorem learn_ref {m : List S43} (hf : FitH m) (ha : AscH m) {id : Int} {j : Nat} (hj : idxH id m = some j) (hjl : j < m.length) {ns : List S61} (hns : risFrom ns ns.length 0 = true) (hl : ns.length < 4611686018427387904) (hok : NewsOk m[j].f2) :
    Ev (fun k => beaconref13_Learn.f k m id ns) (hdTurn id (fun h => ⟨h.f0,h.f1,foldN m[j].f2 ns⟩) m,((cntAt m[j].f2 ns ns.length : Nat) : Int),0) := by
  obtain ⟨_,hjid⟩ := idx_at hj;have hno := ris_news hns;have hnl := hno.len;have hll := hok.len;have hp : Ev (fun k => beaconref13_place.f k m id) (j : Int) := ⟨m.length + 1,fun k hk => place_some (by have := hf.1;omega) hj k hk⟩
  have hmg := mg_fold _ m[j].f2 ns (Nat.le_refl _) hok.1 hno.1;have hout : NewsOk (foldN m[j].f2 ns) := by have := NewsOk.fold hok hno ns.length;rwa [List.take_length] at this
  have hol := hout.len;have hc : cntAt m[j].f2 ns ns.length = chg (foldN m[j].f2 ns) m[j].f2 true + chg m[j].f2 (foldN m[j].f2 ns) false := by
    rw [cntAt_is,cntN_dif ns _ hok.1 hno.1];rfl
  have hcl := cntAt_le m[j].f2 ns ns.length;obtain ⟨o,ho⟩ : ∃ o,foldN m[j].f2 ns = o := ⟨_,rfl⟩
  rw [ho] at hmg hout hol hc ⊢;refine Ev.lift hp (H := fun t k => if t < 0 then none else (beaconref13_told.f k ns).bind fun t259 => if t259 = true then (if 0 ≤ t then (if t < (m.length : Int) then (beaconref13_merge.f k (rd_T43 m t).f2 ns).bind fun t261 => (beaconref13_Copy.f k m).bind fun t264 => (beaconref13_News.f k t261).bind fun t267 => if t < (t264.length : Int) then (beaconref13_changed.f k t261 (rd_T43 m t).f2 true).bind fun t272 => (beaconref13_changed.f k (rd_T43 m t).f2 t261 false).bind fun t274 => some (t264.set t.toNat ⟨(rd_T43 t264 t).f0,(rd_T43 t264 t).f1,t267⟩,wrap64 (t272 + t274),0) else none else none) else none) else none) ?_ (fun k => rfl);refine Ev.lift (told_ref ns hl) (H := fun t259 k => if t259 = true then (if 0 ≤ (j : Int) then (if (j : Int) < (m.length : Int) then (beaconref13_merge.f k (rd_T43 m (j : Int)).f2 ns).bind fun t261 => (beaconref13_Copy.f k m).bind fun t264 => (beaconref13_News.f k t261).bind fun t267 => if (j : Int) < (t264.length : Int) then (beaconref13_changed.f k t261 (rd_T43 m (j : Int)).f2 true).bind fun t272 => (beaconref13_changed.f k (rd_T43 m (j : Int)).f2 t261 false).bind fun t274 => some (t264.set (j : Int).toNat ⟨(rd_T43 t264 (j : Int)).f0,(rd_T43 t264 (j : Int)).f1,t267⟩,wrap64 (t272 + t274),0) else none else none) else none) else none) ?_ (fun k => by rw [if_neg (by omega)]);rw [hns];refine Ev.lift (merge_ref m[j].f2 ns hno.2 (by omega) (by omega)) (H := fun t261 k => (beaconref13_Copy.f k m).bind fun t264 => (beaconref13_News.f k t261).bind fun t267 => if (j : Int) < (t264.length : Int) then (beaconref13_changed.f k t261 m[j].f2 true).bind fun t272 => (beaconref13_changed.f k m[j].f2 t261 false).bind fun t274 => some (t264.set j ⟨(rd_T43 t264 (j : Int)).f0,(rd_T43 t264 (j : Int)).f1,t267⟩,wrap64 (t272 + t274),0) else none) ?_ (fun k => by rw [if_pos rfl,if_pos (by omega),if_pos (by omega),rdh,getDh hjl,Int.toNat_natCast]);rw [hmg];refine Ev.lift hf.copy (H := fun t264 k => (beaconref13_News.f k o).bind fun t267 => if (j : Int) < (t264.length : Int) then (beaconref13_changed.f k o m[j].f2 true).bind fun t272 => (beaconref13_changed.f k m[j].f2 o false).bind fun t274 => some (t264.set j ⟨(rd_T43 t264 (j : Int)).f0,(rd_T43 t264 (j : Int)).f1,t267⟩,wrap64 (t272 + t274),0) else none) ?_ (fun k => rfl);refine Ev.lift (news_copy o (by omega)) (H := fun t267 k => (beaconref13_changed.f k o m[j].f2 true).bind fun t272 => (beaconref13_changed.f k m[j].f2 o false).bind fun t274 => some (m.set j ⟨m[j].f0,m[j].f1,t267⟩,wrap64 (t272 + t274),0)) ?_ (fun k => by simp only [if_pos (show (j : Int) < (m.length : Int) by omega),rdh,getDh hjl]);refine Ev.lift (changed_ref o m[j].f2 true (by omega) (by omega)) (H := fun t272 k => (beaconref13_changed.f k m[j].f2 o false).bind fun t274 => some (m.set j ⟨m[j].f0,m[j].f1,o⟩,wrap64 (t272 + t274),0)) ?_ (fun k => rfl);refine Ev.lift (changed_ref m[j].f2 o false (by omega) (by omega)) (H := fun t274 k => some (m.set j ⟨m[j].f0,m[j].f1,o⟩,wrap64 (((chg o m[j].f2 true : Nat) : Int) + t274),0)) ?_ (fun k => rfl);refine Ev.same fun k => ?_
  rw [set_turn (fun h => ⟨h.f0,h.f1,o⟩) hjl ha.nodup,hjid,w64n (by omega) (by omega),hc];rfl
end Go.Proofs.YtblemmagkehanaaGreat.PA
