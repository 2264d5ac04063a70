/- How many destinations changed: cache.merge's count is the document's. Conditions: both lists rise. -/
import Derived.Test.YtblemmagkehanaaGreatZkGf
namespace Go.Proofs.YtblemmagkehanaaGreat.PA
open Go.RowKit Go.Proofs.YtblemmagkehanaaGreatW.PrintWords
set_option linter.unusedVariables false
set_option linter.unusedSimpArgs false
def fnd (x : S61) (l : List S61) : Option S61 := l.find? fun n => keyB n x
theorem key_refl (a : S61) : keyB a a = true := by simp [keyB]
theorem key_symm {a b : S61} (h : keyB a b = true) : keyB b a = true := by rw [key_iff] at *;omega
theorem key_trans {a b c : S61} (h : keyB a b = true) (h2 : keyB b c = true) : keyB a c = true := by rw [key_iff] at *;omega
theorem key_false {a b c : S61} (h : keyB a b = true) (h2 : keyB a c = false) : keyB b c = false := by
  rw [Bool.eq_false_iff] at *;exact fun h3 => h2 (key_trans h h3)
theorem fnd_key {x z : S61} (h : keyB x z = true) (l : List S61) : fnd x l = fnd z l := by
  unfold fnd
  congr 1
  funext n
  rw [key_iff] at h;unfold keyB;rw [h.1,h.2]
def upd (n : S61) : Option S61 := if infB n.f2 = true then none else some n
theorem fnd_none {x : S61} {l : List S61} (h : ∀ z ∈ l,aheadB x z = true) : fnd x l = none := by
  unfold fnd;rw [List.find?_eq_none];intro z hz h2;have := ahead_key (h z hz);rw [key_symm h2] at this
  cases this
theorem fnd_ins_same (n : S61) : ∀ {l : List S61},AscN l → fnd n (insN n l) = upd n
  | [],_ => by
    unfold insN upd fnd
    by_cases hi : infB n.f2 = true <;> simp [hi,key_refl]
  | y :: r,h => by
    have p := List.pairwise_cons.1 h;unfold insN
    by_cases h1 : aheadB y n = true
    · rw [if_pos h1]
      have ih := fnd_ins_same n p.2;unfold fnd at ih ⊢;rw [List.find?_cons,ahead_key h1];exact ih
    rw [if_neg h1]
    by_cases h2 : aheadB n y = true
    · rw [if_pos h2]
      unfold upd
      by_cases hi : infB n.f2 = true
      · rw [if_pos hi,if_pos hi]
        exact fnd_none fun z hz => by
          rcases List.mem_cons.1 hz with rfl | hz
          · exact h2
          exact ahead_trans h2 (p.1 z hz)
      rw [if_neg hi,if_neg hi];unfold fnd;rw [List.find?_cons,key_refl]
    rw [if_neg h2];have hk := not_ahead_key (by simpa using h1) (by simpa using h2);unfold upd
    by_cases hi : infB n.f2 = true
    · rw [if_pos hi,if_pos hi]
      exact fnd_none fun z hz => by rw [← key_ahead hk];exact p.1 z hz
    rw [if_neg hi,if_neg hi];unfold fnd;rw [List.find?_cons,key_refl]
theorem fnd_ins_other {n x : S61} (hx : keyB n x = false) : ∀ (l : List S61),fnd x (insN n l) = fnd x l
  | [] => by
    unfold insN fnd
    by_cases hi : infB n.f2 = true
    · simp [hi]
    simp [hi,hx]
  | y :: r => by
    have ih := fnd_ins_other hx r;unfold insN
    by_cases h1 : aheadB y n = true
    · rw [if_pos h1]
      unfold fnd at ih ⊢;rw [List.find?_cons,List.find?_cons,ih]
    rw [if_neg h1]
    by_cases h2 : aheadB n y = true
    · rw [if_pos h2]
      by_cases hi : infB n.f2 = true
      · rw [if_pos hi]
      rw [if_neg hi];unfold fnd;rw [List.find?_cons,hx]
    rw [if_neg h2];have hk := not_ahead_key (by simpa using h1) (by simpa using h2);have hy : keyB y x = false := key_false (key_symm hk) hx
    by_cases hi : infB n.f2 = true
    · rw [if_pos hi]
      unfold fnd;rw [List.find?_cons,hy]
    rw [if_neg hi];unfold fnd;rw [List.find?_cons,hx,List.find?_cons,hy]
theorem fnd_fold {n : S61} : ∀ (ns l : List S61),(∀ z ∈ ns,aheadB n z = true) → fnd n (foldN l ns) = fnd n l
  | [],l,_ => rfl
  | z :: ns,l,h => by
    have h1 := h z List.mem_cons_self;have hk : keyB z n = false := by
      rw [Bool.eq_false_iff];intro h2;have := ahead_key h1;rw [key_symm h2] at this
      cases this
    show fnd n (foldN (insN z l) ns) = _
    rw [fnd_fold ns _ (fun m hm => h m (List.mem_cons_of_mem _ hm)),fnd_ins_other hk]
theorem has_fnd (n : S61) : ∀ (l : List S61),AscN l → hasN n l = (fnd n l).isSome
  | [],_ => by simp [hasN,fnd,posN]
  | y :: r,h => by
    have p := List.pairwise_cons.1 h;rw [hasN_cons]
    by_cases h1 : aheadB y n = true
    · rw [if_pos h1,has_fnd n r p.2]
      unfold fnd;rw [List.find?_cons,ahead_key h1]
    rw [if_neg h1]
    by_cases h2 : aheadB n y = true
    · have h3 : ¬ ordV y n = 0 := by rw [ord_zero];rw [ahead_iff] at h2;omega
      have h4 : fnd n (y :: r) = none := fnd_none fun z hz => by
        rcases List.mem_cons.1 hz with rfl | hz
        · exact h2
        exact ahead_trans h2 (p.1 z hz)
      rw [h4]
      simpa using h3
    have hk := not_ahead_key (by simpa using h1) (by simpa using h2);have h3 : ordV y n = 0 := by rw [ord_zero];rw [key_iff] at hk;exact hk
    unfold fnd;rw [List.find?_cons,hk]
    simpa using h3
theorem at_fnd (n : S61) : ∀ {l : List S61} {y : S61},AscN l → fnd n l = some y → l.getD (posN n l) z61 = y
  | [],y,_,h => by simp [fnd] at h
  | a :: r,y,ha,h => by
    have p := List.pairwise_cons.1 ha
    by_cases h1 : aheadB a n = true
    · unfold fnd at h
      rw [List.find?_cons,ahead_key h1] at h;simp only [posN,if_pos h1,List.getD_cons_succ];exact at_fnd n p.2 h
    have hp : posN n (a :: r) = 0 := by simp [posN,h1]
    rw [hp]
    by_cases h2 : aheadB n a = true
    · have h4 : fnd n (a :: r) = none := fnd_none fun z hz => by
        rcases List.mem_cons.1 hz with rfl | hz
        · exact h2
        exact ahead_trans h2 (p.1 z hz)
      rw [h4] at h
      cases h
    have hk := not_ahead_key (by simpa using h1) (by simpa using h2);unfold fnd at h;rw [List.find?_cons,hk] at h;exact Option.some.inj h
theorem stepC_is (n : S61) (l : List S61) (ha : AscN l) : stepC l n = match upd n with | none => (if (fnd n l).isSome = true then 1 else 0) | some m => (match fnd n l with | none => 1 | some y => if sameB y m = true then 0 else 1) := by
  unfold stepC upd;rw [has_fnd n l ha]
  cases hf : fnd n l with
  | none => by_cases hi : infB n.f2 = true <;> simp [hi]
  | some y =>
    rw [at_fnd n ha hf]
    by_cases hi : infB n.f2 = true <;> simp [hi]
def otherB (b : List S61) (same : Bool) (x : S61) : Bool := match fnd x b with | none => true | some y => same && !sameB y x
def chg (a b : List S61) (same : Bool) : Nat := a.countP (otherB b same)
def dif (a b : List S61) : Nat := chg b a true + chg a b false
theorem countP_congr' {α : Type} {p q : α → Bool} : ∀ {l : List α},(∀ x ∈ l,p x = q x) → l.countP p = l.countP q
  | [],_ => rfl
  | x :: l,h => by
    rw [List.countP_cons,List.countP_cons,countP_congr' fun y hy => h y (List.mem_cons_of_mem _ hy),h x List.mem_cons_self]
theorem count_one {p q : S61 → Bool} (n : S61) : ∀ {l : List S61},AscN l → (∀ x ∈ l,keyB n x = false → p x = q x) → l.countP p + (match fnd n l with | none => 0 | some y => if q y = true then 1 else 0) = l.countP q + (match fnd n l with | none => 0 | some y => if p y = true then 1 else 0)
  | [],_,_ => rfl
  | y :: r,h,he => by
    have pp := List.pairwise_cons.1 h;rw [List.countP_cons,List.countP_cons]
    by_cases hk : keyB y n = true
    · have hr : r.countP p = r.countP q := countP_congr' fun x hx => he x (List.mem_cons_of_mem _ hx) (by
        have := ahead_key (pp.1 x hx);exact key_false hk this)
      unfold fnd;rw [List.find?_cons,hk,hr];simp only;omega
    have hk' : keyB y n = false := by simpa using hk
    have hkn : keyB n y = false := by
      rw [Bool.eq_false_iff];exact fun h2 => hk (key_symm h2)
    have ih := count_one n pp.2 (fun x hx => he x (List.mem_cons_of_mem _ hx));have e1 := he y List.mem_cons_self hkn;unfold fnd at ih ⊢;rw [List.find?_cons,hk',e1];simp only;omega
theorem count_ins {q : S61 → Bool} (hq : ∀ x y,keyB x y = true → q x = q y) (n : S61) : ∀ {l : List S61},AscN l → (insN n l).countP q + (if (fnd n l).isSome = true ∧ q n = true then 1 else 0) = l.countP q + (if (upd n).isSome = true ∧ q n = true then 1 else 0)
  | [],_ => by
    unfold insN upd fnd
    by_cases hi : infB n.f2 = true <;> by_cases h2 : q n = true <;> simp [hi,h2]
  | y :: r,h => by
    have p := List.pairwise_cons.1 h;unfold insN
    by_cases h1 : aheadB y n = true
    · rw [if_pos h1]
      have ih := count_ins hq n p.2;have e : fnd n (y :: r) = fnd n r := by
        unfold fnd;rw [List.find?_cons,ahead_key h1]
      rw [e,List.countP_cons,List.countP_cons];omega
    rw [if_neg h1]
    by_cases h2 : aheadB n y = true
    · have h4 : fnd n (y :: r) = none := fnd_none fun z hz => by
        rcases List.mem_cons.1 hz with rfl | hz
        · exact h2
        exact ahead_trans h2 (p.1 z hz)
      rw [if_pos h2,h4];unfold upd
      by_cases hi : infB n.f2 = true
      · simp [hi]
      by_cases h5 : q n = true <;> simp [hi,h5]
    have hk := not_ahead_key (by simpa using h1) (by simpa using h2);have h4 : fnd n (y :: r) = some y := by
      unfold fnd;rw [List.find?_cons,hk]
    rw [if_neg h2,h4];have e := hq y n hk;unfold upd
    by_cases hi : infB n.f2 = true
    · by_cases h5 : q n = true <;> simp [hi,h5,e]
    by_cases h5 : q n = true <;> simp [hi,h5,e]
theorem dif_step {n : S61} {ns a : List S61} (ha : AscN a) (hn : AscN (n :: ns)) : dif a (foldN (insN n a) ns) = dif (insN n a) (foldN (insN n a) ns) + stepC a n := by
  have pn := List.pairwise_cons.1 hn;have ha' := insN_asc (n := n) ha;obtain ⟨b,hb⟩ : ∃ b,foldN (insN n a) ns = b := ⟨_,rfl⟩
  have hba : AscN b := by rw [← hb];exact foldN_asc ns ha'
  have hbn : fnd n b = upd n := by rw [← hb,fnd_fold ns _ pn.1];exact fnd_ins_same n ha
  rw [hb];unfold dif chg;have c1 := count_one (p := otherB a true) (q := otherB (insN n a) true) n hba (fun x hx hk => by
    unfold otherB;rw [fnd_ins_other hk])
  have c2 := count_ins (q := otherB b false) (fun x y hxy => by
    unfold otherB;rw [fnd_key hxy]
    cases fnd y b <;> rfl) n ha
  have qn : otherB b false n = (upd n).isNone := by
    unfold otherB;rw [hbn]
    cases upd n <;> rfl
  rw [qn] at c2;rw [hbn] at c1;rw [stepC_is n a ha];unfold upd at c1 c2 ⊢
  by_cases hi : infB n.f2 = true
  · simp only [hi,if_true,Option.isSome_none,Option.isNone_none,Bool.false_eq_true,false_and,if_false,and_true,Nat.add_zero] at c1 c2 ⊢
    omega
  simp only [hi,Bool.false_eq_true,if_false,Option.isSome_some,Option.isNone_some,and_false,Nat.add_zero] at c1 c2 ⊢;have e1 : otherB (insN n a) true n = false := by
    unfold otherB;rw [fnd_ins_same n ha];unfold upd;rw [if_neg hi]
    simp [same_refl]
  have e2 : otherB a true n = (match fnd n a with | none => true | some y => !sameB y n) := by
    unfold otherB
    cases fnd n a <;> rfl
  rw [e1,e2] at c1
  cases hf : fnd n a with
  | none =>
    rw [hf] at c1;simp only [Bool.false_eq_true,if_false,if_true,Nat.add_zero] at c1 ⊢;omega
  | some y =>
    rw [hf] at c1
    by_cases hs : sameB y n = true
    · simp only [hs,Bool.not_true,Bool.false_eq_true,if_false,if_true,Nat.add_zero] at c1 ⊢
      omega
    simp only [Bool.not_eq_true] at hs;simp only [hs,Bool.not_false,Bool.false_eq_true,if_false,if_true,Nat.add_zero] at c1 ⊢;omega
theorem dif_self (a : List S61) (ha : AscN a) : dif a a = 0 := by
  have h1 : ∀ x ∈ a,fnd x a = some x := by
    intro x hx;obtain ⟨i,hi,rfl⟩ := List.getElem_of_mem hx;unfold fnd;rw [List.find?_eq_some_iff_getElem];refine ⟨key_refl _,i,hi,rfl,fun j hj => ?_⟩;have := ahead_key (List.pairwise_iff_getElem.1 ha j i (by omega) hi hj)
    simp [this]
  unfold dif chg;rw [List.countP_eq_zero.2 (fun x hx => by unfold otherB;rw [h1 x hx];simp [same_refl]),List.countP_eq_zero.2 (fun x hx => by unfold otherB;rw [h1 x hx];simp)]
def cntN : List S61 → List S61 → Nat
  | _,[] => 0
  | l,n :: ns => stepC l n + cntN (insN n l) ns
theorem cntN_dif : ∀ (ns l : List S61),AscN l → AscN ns → cntN l ns = dif l (foldN l ns)
  | [],l,hl,_ => (dif_self l hl).symm
  | n :: ns,l,hl,hn => by
    have ih := cntN_dif ns (insN n l) (insN_asc hl) (List.pairwise_cons.1 hn).2
    show stepC l n + cntN (insN n l) ns = dif l (foldN (insN n l) ns)
    rw [dif_step hl hn,ih];omega
theorem cntAt_cons (l : List S61) (n : S61) (ns : List S61) : ∀ j,cntAt l (n :: ns) (j + 1) = stepC l n + cntAt (insN n l) ns j
  | 0 => by simp [cntAt,outAt]
  | j + 1 => by
    have ih := cntAt_cons l n ns j
    show cntAt l (n :: ns) (j + 1) + stepC (outAt l (n :: ns) (j + 1)) ((n :: ns).getD (j + 1) z61) = stepC l n + (cntAt (insN n l) ns j + stepC (outAt (insN n l) ns j) (ns.getD j z61))
    have e : outAt l (n :: ns) (j + 1) = outAt (insN n l) ns j := by
      unfold outAt;rw [List.take_succ_cons,List.foldl_cons,step_ins]
    rw [ih,e,List.getD_cons_succ];omega
theorem cntAt_is : ∀ (ns l : List S61),cntAt l ns ns.length = cntN l ns
  | [],l => rfl
  | n :: ns,l => by
    rw [List.length_cons,cntAt_cons,cntAt_is ns];rfl
end Go.Proofs.YtblemmagkehanaaGreat.PA
