/- What comes in and can be read as data is told by the print's kinds: whole numbers, floats, bools, strings, slices and structs of such, in one another. No condition but those that each theorem names. -/
import Derived.Test.YtblemmagkehanaaGreatZkW
import Derived.Test.YtblemmagkehanaaGreatZkMn
import Derived.SizedLaws
import Derived.OpenShut
import Derived.ChangeSlices
namespace Go.Proofs.YtblemmagkehanaaGreatW.PrintWords
open Go.RowKit Go.ChangeShapes Go.WideShapes
set_option linter.unusedVariables false
structure Opens (P : Program) (t : TypeId) {α : Type} (d : Kd α) (ok : α → Prop) : Prop where
  sz : P.cellsOf t = d.sz
  op : ∀ {H : Type} {enc : TypeId × Value → H} {w : World} {base : Nat} {spare : Nat → Bool} {held : Bool} {fuel : Nat} {cs : List Value} {y : DataW H × List MemPlace},
    DataW.trod enc P w base spare held fuel t cs = some y → (∀ n ∈ y.1.weights P t,n ≤ 140737488351232) → ∃ x,d.K w x cs ∧ ok x
section
variable {P : Program} {t e : TypeId}
theorem opens_int {k : IntKind} (hc : P.cellsOf t = 1) (ht : P.underlying t = some (.int k)) : Opens P t (Kd.int k) (fun n => (Lit.int k n).wf = true) :=
  ⟨hc,fun h _ => by
    obtain ⟨n,rfl,_,hw⟩ := DataW.trod_int ht h;exact ⟨n,rfl,hw⟩⟩
theorem opens_float (hc : P.cellsOf t = 1) (ht : P.underlying t = some (.float .f64)) : Opens P t Kd.float (fun n => n < 18446744073709551616) :=
  ⟨hc,fun {H enc w base spare held fuel cs y} h _ => by
    have key : ∃ b,cs = [.float .f64 b] ∧ (Lit.float .f64 b).wf = true := by
      cases fuel with
      | zero => simp [DataW.trod] at h
      | succ n =>
        unfold DataW.trod at h;rw [ht] at h
        split at h <;> simp_all
    obtain ⟨b,rfl,hw⟩ := key;exact ⟨b,rfl,by simpa [Lit.wf] using hw⟩⟩
theorem addr_add_add (a : Addr) (m n : Nat) : (a.add m).add n = a.add (m + n) := by
  unfold Addr.add
  by_cases hm : m = 0
  · subst hm
    simp
  by_cases hn : n = 0
  · subst hn
    simp [hm]
  simp [hm,hn,Nat.add_assoc]
theorem cells_get {w : World} {base : Nat} {a : Addr} {n : Nat} {cs : List Value} (h : w.cells? base a n = some cs) : cs.length = n ∧ ∀ i u,cs[i]? = some u → w.cell? (a.add i) = some u := by
  unfold World.cells? at h
  split at h
  · have hl := mapM_some_length h
    rw [List.length_range] at hl;refine ⟨hl,fun i u hu => ?_⟩;have hi : i < n := by
      have := (List.getElem?_eq_some_iff.1 hu).1;omega
    exact (mapM_some_get h i i (by simp [List.getElem?_range hi])).trans hu
  cases h
theorem list_of_each {α : Type} {Q : Nat → α → Prop} : ∀ n,(∀ i,i < n → ∃ x,Q i x) → ∃ xs : List α,xs.length = n ∧ ∀ i x,xs[i]? = some x → Q i x
  | 0,_ => ⟨[],rfl,fun i x h => by simp at h⟩
  | n + 1,h => by
    obtain ⟨xs,hl,hx⟩ := list_of_each n (fun i hi => h i (by omega));obtain ⟨x,hq⟩ := h n (by omega);refine ⟨xs ++ [x],by simp [hl],fun i y hy => ?_⟩
    by_cases hi : i < n
    · rw [List.getElem?_append_left (by omega)] at hy
      exact hx i y hy
    rw [List.getElem?_append_right (by omega)] at hy;have : i - xs.length = 0 := by
      have := (List.getElem?_eq_some_iff.1 hy).1
      simpa using this
    rw [this] at hy;have h2 : i = n := by omega
    subst h2
    simp at hy
    subst hy;exact hq
theorem weightsAll_mem {H : Type} {P : Program} {e : TypeId} : ∀ {l : List (DataW H)} {i : Nat} {d : DataW H},l[i]? = some d → ∀ n ∈ d.weights P e,n ∈ DataW.weightsAll P e l
  | d0 :: l,0,d,h,n,hn => by
    simp only [List.getElem?_cons_zero,Option.some.injEq] at h;subst h
    simp [DataW.weightsAll,hn]
  | d0 :: l,i + 1,d,h,n,hn => by
    simp only [List.getElem?_cons_succ] at h
    simp [DataW.weightsAll,weightsAll_mem h n hn]
  | [],_,_,h,_,_ => by simp at h
theorem opens_slice {α : Type} {d : Kd α} {ok : α → Prop} (B : Nat) (hB : P.bytesOf e = B) (hc : P.cellsOf t = 1) (ht : P.underlying t = some (.slice e)) (he : Opens P e d ok) :
    Opens P t (Kd.slice e d) (fun l => l.length * B ≤ 140737488351232 ∧ ∀ x ∈ l,ok x) := by
  subst hB;refine ⟨hc,fun {H enc w base spare held fuel cs y} h hn => ?_⟩
  rcases DataW.trod_slice ht h with ⟨rfl,rfl⟩ | ⟨a,len,cap,elems,rest,n,_,rfl,rfl,hb,hl,hm,hlen,hel,_,_⟩
  · exact ⟨[],⟨none,0,rfl,Nat.le_refl _,Kd.C_nil _ _⟩,by simp,by simp⟩
  have hw : ∀ i,i < len → ∃ x,(∃ c,c.length = d.sz ∧ d.K w x c ∧ ∀ j u,c[j]? = some u → w.cell? (a.add (i * d.sz + j)) = some u) ∧ ok x := by
    intro i hi;have h1 := hel i hi;have hi2 : i < elems.length := by omega
    rw [List.getElem?_eq_getElem hi2] at h1;obtain ⟨c,hcs,htr⟩ := Option.bind_eq_some_iff.1 h1;obtain ⟨hl2,hcell⟩ := cells_get hcs;obtain ⟨x,hk,hox⟩ := he.op htr (fun m hm2 => hn m (by
      simp only [DataW.weights,ht,List.mem_cons,List.mem_append];refine .inr (.inl (weightsAll_mem (i := i) (d := elems[i].1) ?_ m hm2));rw [List.getElem?_map,List.getElem?_eq_getElem hi2];rfl))
    refine ⟨x,⟨c,hl2.trans he.sz,hk,fun j u hu => ?_⟩,hox⟩;have := hcell j u hu
    rwa [addr_add_add,he.sz] at this
  obtain ⟨xs,hxl,hx⟩ := list_of_each len hw;refine ⟨xs,⟨some a,cap,by rw [hxl],by omega,?_⟩,?_,?_⟩
  · refine ⟨rfl,?_,fun _ => ⟨a,rfl,fun j p hj => ?_⟩⟩
    · simp only [maxLen] at hm
      omega
    exact (hx j p hj).1
  · have := hn ((elems.length + rest.length) * P.bytesOf e) (by simp [DataW.weights,ht])
    refine Nat.le_trans (Nat.mul_le_mul_right _ ?_) this;omega
  intro x hxm;obtain ⟨i,hi,rfl⟩ := List.getElem_of_mem hxm;exact (hx i _ (List.getElem?_eq_getElem hi)).2
def OpensAt (P : Program) (fs : List Field) (o : Nat) {α : Type} (d : Kd α) (ok : α → Prop) : Prop :=
  ∀ {H : Type} {enc : TypeId × Value → H} {w : World} {base : Nat} {spare : Nat → Bool} {held : Bool} {fuel : Nat} {cs : List Value} {xs : List (DataW H × List MemPlace)},xs.length = fs.length →
    (∀ (i : Nat) (f : Field),fs[i]? = some f → DataW.trod enc P w base spare held fuel f.type ((cs.drop f.offset).take (P.cellsOf f.type)) = xs[i]?) →
    (∀ n ∈ DataW.weightsEach P (fs.map (·.type)) (xs.map (·.1)),n ≤ 140737488351232) → ∃ x,d.K w x ((cs.drop o).take d.sz) ∧ ok x
theorem opens_last {f : Field} {o : Nat} {α : Type} {d : Kd α} {ok : α → Prop} (ho : f.offset = o) (hf : Opens P f.type d ok) : OpensAt P [f] o d ok := by
  intro H enc w base spare held fuel cs xs hl h hn;obtain ⟨y,rfl⟩ : ∃ y,xs = [y] := by
    match xs,hl with
    | [y],_ => exact ⟨y,rfl⟩
  have h0 := h 0 f rfl;simp only [List.getElem?_cons_zero] at h0;obtain ⟨x,hk,hx⟩ := hf.op h0 (fun n hm => hn n (by simp [DataW.weightsEach,hm]));rw [ho,hf.sz] at hk;exact ⟨x,hk,hx⟩
theorem opens_next {f : Field} {fs : List Field} {o : Nat} {α β : Type} {d : Kd α} {ok : α → Prop} {d' : Kd β} {ok' : β → Prop} (ho : f.offset = o) (hf : Opens P f.type d ok) (hr : OpensAt P fs (o + d.sz) d' ok') :
    OpensAt P (f :: fs) o (Kd.pair d d') (fun x => ok x.1 ∧ ok' x.2) := by
  intro H enc w base spare held fuel cs xs hl h hn;obtain ⟨y,ys,rfl⟩ : ∃ y ys,xs = y :: ys := by
    match xs,hl with
    | y :: ys,_ => exact ⟨y,ys,rfl⟩
  have h0 := h 0 f rfl;simp only [List.getElem?_cons_zero] at h0;obtain ⟨x,hk,hx⟩ := hf.op h0 (fun n hm => hn n (by simp [DataW.weightsEach,hm]));obtain ⟨x',hk',hx'⟩ := hr (enc := enc) (w := w) (base := base) (spare := spare) (held := held) (fuel := fuel) (cs := cs) (xs := ys) (by simpa using hl) (fun i g hg => by
    have := h (i + 1) g (by simpa using hg)
    simpa using this) (fun n hm => hn n (by simp [DataW.weightsEach,hm]))
  rw [ho,hf.sz] at hk;refine ⟨(x,x'),⟨_,_,?_,hk,hk'⟩,hx,hx'⟩
  show (cs.drop o).take (d.sz + d'.sz) = _
  rw [List.take_add,List.drop_drop]
theorem opens_struct {fs : Array Field} {α β : Type} {d : Kd α} {ok : α → Prop} (f : β → α) (mk : α → β) (hmk : ∀ a,f (mk a) = a) (hc : P.cellsOf t = d.sz) (ht : P.underlying t = some (.struct fs)) (h : OpensAt P fs.toList 0 d ok) :
    Opens P t (Kd.iso d f) (fun x => ok (f x)) := by
  refine ⟨hc,fun {H enc w base spare held fuel cs y} ht2 hn => ?_⟩;obtain ⟨xs,n,_,rfl,hcl,hxl,hx⟩ := DataW.trod_struct ht ht2;obtain ⟨x,hk,hok⟩ := h (enc := enc) (w := w) (base := base) (spare := spare) (held := held) (fuel := n) (cs := cs) (xs := xs) (by simpa using hxl) (fun i g hg => hx i g (by simpa using hg)) (fun m hm => hn m (by simpa [DataW.weights,ht] using hm));refine ⟨mk x,?_,by simpa [hmk] using hok⟩
  show d.K w (f (mk x)) cs
  rw [hmk];rw [List.drop_zero,← hc,← hcl,List.take_length] at hk;exact hk
theorem opens_arg {α : Type} {d : Kd α} {ok : α → Prop} (h : Opens P t d ok) {H : Type} {enc : TypeId × Value → H} {w : World} {base : Nat} {spare : Nat → Bool} {held : Bool} {v : Value} {y : DataW H} {ps : List MemPlace} (hd : DataW.Trod enc P w base spare held t v y ps)
    (hn : ∀ n ∈ y.weights P t,n ≤ 140737488351232) : ∃ x,d.K w x v.cells.toList ∧ ok x := by
  obtain ⟨fuel,hf⟩ := hd;exact h.op hf hn
theorem weights_of {H : Type} {ts : List TypeId} {ds : List (DataW H)} (h : (DataW.weightsEach P ts ds).all (· ≤ reachBytes) = true) {j : Nat} {t : TypeId} {d : DataW H} (ht : ts[j]? = some t) (hd : ds[j]? = some d) : ∀ n ∈ d.weights P t,n ≤ 140737488351232 := by
  intro n hn;have := List.all_eq_true.1 h n (DataW.weights_mem_each ht hd n hn);exact of_decide_eq_true this
end
end Go.Proofs.YtblemmagkehanaaGreatW.PrintWords
