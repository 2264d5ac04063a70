/- The cache in memory: a map of pointers to neighbours; what is read elsewhere stays as it was where one of these blocks is written. No condition but those that each theorem names. -/
import Derived.Test.YtblemmagkehanaaGreatZkPAx10
import Derived.Test.YtblemmagkehanaaGreatZkMp
import Derived.Test.YtblemmagkehanaaGreatZkPAx1
import Derived.WalkLawsBesides
import Derived.WalkSpells
import Derived.Outline
import Derived.StillTailTactics
namespace Go.Proofs.YtblemmagkehanaaGreat.PA
open Go.RowKit Go.Proofs.YtblemmagkehanaaGreatW.PrintWords Go.Proofs.YtblemmagkehanaaGreatW.PrintLast Go.Proofs.YtblemmagkehanaaGreatW.PrintMore
set_option linter.unusedVariables false
set_option linter.unusedSimpArgs false
def Odd (w : World) (x : Nat) : Prop := ∀ a : Addr,a.block = x → ∀ i,w.cell? a ≠ some (.int .i64 i)
theorem odd_map {κ : Type} {enc : κ → Value} {w : World} {b : Nat} {m : List (κ × Value)} (h : IsMap w b enc m) : Odd w b := by
  rintro a rfl i hc;obtain ⟨es,clock,hb,_⟩ := h
  simp [World.cell?,hb] at hc
theorem odd_nb {w : World} {p : Nat} {q : Nat} {A : Option Addr} {n c : Nat} {t : TypeId} (h : w.heap[p]? = some (.cells #[.float .f64 q,.slice A n c] t (0,0))) : Odd w p := by
  rintro a rfl i hc;simp only [World.cell?,h] at hc
  split at hc
  · cases hc
  rcases ho : a.off with _ | _ | k
  · rw [ho] at hc;simp at hc
  · rw [ho] at hc;simp at hc
  rw [ho] at hc;simp at hc
theorem add_block (ad : Addr) (i : Nat) : (ad.add i).block = ad.block := by
  unfold Addr.add
  split <;> rfl
theorem C61_kept {w w1 : World} {x : Nat} {A : Option Addr} {n : Nat} {l : List S61} (h : Kd.C k61 w A n l) (ho : Odd w x) (hg : w.grownBy w1 (some x)) : Kd.C k61 w1 A n l := by
  obtain ⟨h1,h2,h3⟩ := h;refine ⟨h1,h2,fun hn => ?_⟩;obtain ⟨ad,e,h4⟩ := h3 hn;refine ⟨ad,e,fun j p hj => ?_⟩;obtain ⟨c,hc,hK,h5⟩ := h4 j p hj;obtain rfl := k61_open hK;have hne : ad.block ≠ x := fun e2 => ho _ ((add_block ad _).trans e2) _ (h5 0 _ rfl)
  refine ⟨_,hc,k61_mk w1 p,fun i u hu => ?_⟩;refine hg.cell (h5 i u hu) ?_;rw [add_block];exact fun e2 => hne (Option.some.inj e2)
theorem C43_kept {w w1 : World} {x : Nat} {A : Option Addr} {n : Nat} {l : List S43} (h : Kd.C k43 w A n l) (ho : Odd w x) (hg : w.grownBy w1 (some x)) : Kd.C k43 w1 A n l := by
  obtain ⟨h1,h2,h3⟩ := h;refine ⟨h1,h2,fun hn => ?_⟩;obtain ⟨ad,e,h4⟩ := h3 hn;refine ⟨ad,e,fun j p hj => ?_⟩;obtain ⟨c,hc,hK,h5⟩ := h4 j p hj;obtain ⟨A2,c2,rfl,hl,hC⟩ := k43_open hK;have hne : ad.block ≠ x := fun e2 => ho _ ((add_block ad _).trans e2) _ (h5 0 _ rfl)
  refine ⟨_,hc,k43_mk w1 p hl (C61_kept hC ho hg),fun i u hu => ?_⟩;refine hg.cell (h5 i u hu) ?_;rw [add_block];exact fun e2 => hne (Option.some.inj e2)
structure Nb where
  id : Int
  p : Nat
  wt : Nat
  A : Option Addr
  c : Nat
  news : List S61
def Nb.val (e : Nb) : Value := .pointer (some ⟨e.p,0,none⟩)
def Nb.hd (e : Nb) : S43 := ⟨e.id,e.wt,e.news⟩
def nbM (L : List Nb) : List (Int × Value) := L.map fun e => (e.id,e.val)
def NbAt (w : World) (e : Nb) : Prop := w.heap[e.p]? = some (.cells #[.float .f64 e.wt,.slice e.A e.news.length e.c] 81 (0,0)) ∧ Kd.C k61 w e.A e.news.length e.news ∧ e.news.length ≤ e.c ∧ (e.A = none → e.c = 0) ∧ e.news.length ≤ 4294967296
theorem NbAt.below {w w1 : World} {e : Nb} (h : NbAt w e) (hb : Below w.heap.size w w1) : NbAt w1 e := ⟨blk_below h.1 hb,Kd.C_below h.2.1 hb,h.2.2⟩
theorem NbAt.kept {w w1 : World} {e : Nb} {x : Nat} (h : NbAt w e) (ho : Odd w x) (hg : w.grownBy w1 (some x)) (hne : e.p ≠ x) : NbAt w1 e := ⟨blk_grown h.1 hg (fun e2 => hne (Option.some.inj e2)),C61_kept h.2.1 ho hg,h.2.2⟩
structure CacheAt (w : World) (g b : Nat) (L : List Nb) : Prop where
  box : w.heap[g]? = some (.cells #[.map (some b)] 65 (0,0))
  map : IsMap w b (Value.int .i64) (nbM L)
  apart : (L.map (·.p)).Nodup
  nb : ∀ e ∈ L,NbAt w e
theorem CacheAt.below {w w1 : World} {g b : Nat} {L : List Nb} (h : CacheAt w g b L) (hb : Below w.heap.size w w1) : CacheAt w1 g b L := ⟨blk_below h.box hb,h.map.below hb,h.apart,fun e he => (h.nb e he).below hb⟩
theorem CacheAt.ids {w : World} {g b : Nat} {L : List Nb} (h : CacheAt w g b L) : (L.map (·.id)).Nodup := by
  obtain ⟨es,clock,_,_,hn,_⟩ := h.map;have : (nbM L).map (·.1) = L.map (·.id) := by simp [nbM]
  rwa [this] at hn
theorem CacheAt.ne_map {w : World} {g b : Nat} {L : List Nb} (h : CacheAt w g b L) : g ≠ b := by
  rintro rfl;obtain ⟨es,clock,h1,_⟩ := h.map;rw [h.box] at h1
  cases h1
theorem CacheAt.nb_ne {w : World} {g b : Nat} {L : List Nb} (h : CacheAt w g b L) {e : Nb} (he : e ∈ L) : e.p ≠ b ∧ e.p ≠ g := by
  constructor
  · rintro rfl
    obtain ⟨es,clock,h1,_⟩ := h.map;rw [(h.nb e he).1] at h1
    cases h1
  rintro rfl;have h1 := h.box;rw [(h.nb e he).1] at h1
  cases h1
theorem CacheAt.lt {w : World} {g b : Nat} {L : List Nb} (h : CacheAt w g b L) : g < w.heap.size ∧ b < w.heap.size ∧ ∀ e ∈ L,e.p < w.heap.size := ⟨blk_lt h.box,h.map.lt,fun e he => blk_lt (h.nb e he).1⟩
theorem nodup_map_inj {α β : Type} {f : α → β} : ∀ {l : List α},(l.map f).Nodup → ∀ {x y : α},x ∈ l → y ∈ l → f x = f y → x = y
  | z :: r,h,x,y,hx,hy,he => by
    rw [List.map_cons,List.nodup_cons] at h
    rcases List.mem_cons.1 hx with h1 | h1 <;> rcases List.mem_cons.1 hy with h2 | h2
    · rw [h1,h2]
    · subst h1
      exact absurd (he ▸ List.mem_map_of_mem (f := f) h2) h.1
    · subst h2
      exact absurd (he ▸ List.mem_map_of_mem (f := f) h1) h.1
    exact nodup_map_inj h.2 h1 h2 he
def nbGet (id : Int) : List Nb → Option Nb
  | [] => none
  | e :: r => if id = e.id then some e else nbGet id r
theorem nbGet_mem {id : Int} : ∀ {L : List Nb} {e : Nb},nbGet id L = some e → e ∈ L ∧ e.id = id
  | x :: r,e,h => by
    unfold nbGet at h
    split at h
    · rename_i h1
      obtain rfl := Option.some.inj h;exact ⟨by simp,h1.symm⟩
    obtain ⟨h2,h3⟩ := nbGet_mem h;exact ⟨List.mem_cons_of_mem _ h2,h3⟩
theorem nbGet_none {id : Int} : ∀ {L : List Nb},nbGet id L = none ↔ id ∉ L.map (·.id)
  | [] => by simp [nbGet]
  | x :: r => by
    unfold nbGet
    split
    · rename_i h1
      simp [h1]
    rename_i h1
    rw [nbGet_none]
    simp [h1]
theorem mfind_shift (k : Int) : ∀ (m : List (Int × Value)) (i : Nat),mfind k m (i + 1) = (mfind k m i).map fun x => (x.1 + 1,x.2)
  | [],i => rfl
  | p :: r,i => by
    unfold mfind
    by_cases e : k = p.1
    · simp [e]
    simp only [e,if_false];exact mfind_shift k r (i + 1)
theorem mget_cons (k : Int) (p : Int × Value) (r : List (Int × Value)) : mget (p :: r) k = if k = p.1 then some p.2 else mget r k := by
  unfold mget;rw [mfind]
  by_cases e : k = p.1
  · simp [e]
  simp only [e,if_false];rw [mfind_shift,Option.map_map];rfl
theorem mput_new {k : Int} {v : Value} {m : List (Int × Value)} (h : k ∉ m.map (·.1)) : mput m k v = m ++ [(k,v)] := by
  unfold mput;rw [mfind_none.2 h]
theorem mget_nb (id : Int) : ∀ L : List Nb,mget (nbM L) id = (nbGet id L).map Nb.val
  | [] => rfl
  | e :: r => by
    show mget ((e.id,e.val) :: nbM r) id = _
    rw [mget_cons,mget_nb id r,nbGet]
    by_cases h : id = e.id <;> simp [h]
theorem mdel_cons (k : Int) (p : Int × Value) (r : List (Int × Value)) : mdel (p :: r) k = if k = p.1 then r else p :: mdel r k := by
  unfold mdel;rw [mfind]
  by_cases e : k = p.1
  · simp [e]
  simp only [e,if_false];rw [mfind_shift]
  cases mfind k r 0 with
  | none => rfl
  | some x => rfl
theorem mdel_nb (id : Int) : ∀ {L : List Nb},(L.map (·.id)).Nodup → mdel (nbM L) id = nbM (L.filter fun e => decide (e.id ≠ id))
  | [],_ => rfl
  | e :: r,h => by
    rw [List.map_cons,List.nodup_cons] at h
    show mdel ((e.id,e.val) :: nbM r) id = _
    rw [mdel_cons,mdel_nb id h.2]
    by_cases h1 : id = e.id
    · subst h1
      rw [if_pos rfl,List.filter_cons_of_neg (by simp)]
      congr 1
      symm
      refine List.filter_eq_self.2 fun x hx => ?_
      have : x.id ≠ e.id := fun e2 => h.1 (by rw [← e2];exact List.mem_map_of_mem hx)
      simp [this]
    rw [if_neg h1,List.filter_cons_of_pos (by simp [Ne.symm h1])];rfl
def nbTurn (id : Int) (f : Nb → Nb) (L : List Nb) : List Nb := L.map fun e => if e.id = id then f e else e
theorem nbTurn_ps (id : Int) (f : Nb → Nb) (hf : ∀ e,(f e).p = e.p) (L : List Nb) : (nbTurn id f L).map (·.p) = L.map (·.p) := by
  unfold nbTurn;rw [List.map_map];refine List.map_congr_left fun e _ => ?_
  simp only [Function.comp]
  split
  · exact hf e
  rfl
theorem nbTurn_nbM (id : Int) (f : Nb → Nb) (hf : ∀ e,(f e).p = e.p) (hi : ∀ e,(f e).id = e.id) (L : List Nb) : nbM (nbTurn id f L) = nbM L := by
  unfold nbM nbTurn;rw [List.map_map];refine List.map_congr_left fun e _ => ?_
  simp only [Function.comp]
  split
  · simp [Nb.val,hf,hi]
  rfl
theorem CacheAt.turn {w w1 : World} {g b : Nat} {L : List Nb} (h : CacheAt w g b L) {e : Nb} (he : e ∈ L) (hg : w.grownBy w1 (some e.p)) (f : Nb → Nb) (hf : ∀ x,(f x).p = x.p) (hi : ∀ x,(f x).id = x.id) (hn : NbAt w1 (f e)) : CacheAt w1 g b (nbTurn e.id f L) := by
  have hod : Odd w e.p := odd_nb (h.nb e he).1;have hne := h.nb_ne he;refine ⟨blk_grown h.box hg (fun e2 => hne.2 (Option.some.inj e2).symm),?_,by rw [nbTurn_ps _ _ hf];exact h.apart,fun x hx => ?_⟩
  · rw [nbTurn_nbM _ _ hf hi]
    exact h.map.grown hg (fun e2 => hne.1 (Option.some.inj e2).symm)
  obtain ⟨y,hy,rfl⟩ := List.mem_map.1 hx
  by_cases h1 : y.id = e.id
  · rw [if_pos h1]
    have : y = e := nodup_map_inj h.ids hy he h1;rw [this];exact hn
  rw [if_neg h1];refine (h.nb y hy).kept hod hg ?_;intro e2;exact h1 (congrArg Nb.id (nodup_map_inj h.apart hy he e2))
theorem CacheAt.del {w w1 : World} {g b : Nat} {L : List Nb} (h : CacheAt w g b L) (id : Int) (hm : IsMap w1 b (Value.int .i64) (mdel (nbM L) id)) (hg : w.grownBy w1 (some b)) : CacheAt w1 g b (L.filter fun e => decide (e.id ≠ id)) := by
  refine ⟨blk_grown h.box hg (fun e2 => h.ne_map (Option.some.inj e2)),by rw [← mdel_nb id h.ids];exact hm,List.Nodup.sublist (List.filter_sublist.map _) h.apart,fun e he => ?_⟩;have he1 := (List.mem_filter.1 he).1;exact (h.nb e he1).kept (odd_map h.map) hg (h.nb_ne he1).1
theorem CacheAt.add {w w1 w2 : World} {g b : Nat} {L : List Nb} (h : CacheAt w g b L) (e : Nb) (hb : Below w.heap.size w w1) (hp : w.heap.size ≤ e.p) (hn : NbAt w1 e) (hid : e.id ∉ L.map (·.id)) (hm : IsMap w2 b (Value.int .i64) (mput (nbM L) e.id e.val)) (hg : w1.grownBy w2 (some b)) : CacheAt w2 g b (L ++ [e]) := by
  have h1 := h.below hb;have hps : e.p ∉ L.map (·.p) := fun hm => by
    obtain ⟨x,hx,he⟩ := List.mem_map.1 hm;have := h.lt.2.2 x hx;omega
  refine ⟨blk_grown h1.box hg (fun e2 => h.ne_map (Option.some.inj e2)),?_,?_,fun x hx => ?_⟩
  · have : mput (nbM L) e.id e.val = nbM (L ++ [e]) := by
      rw [mput_new (by simpa [nbM] using hid)]
      simp [nbM]
    rwa [← this]
  · rw [List.map_append,List.nodup_append]
    exact ⟨h.apart,by simp,fun a ha c hc => by simp at hc;subst hc;rintro rfl;exact hps ha⟩
  rcases List.mem_append.1 hx with hx | hx
  · exact (h1.nb x hx).kept (odd_map h1.map) hg (h1.nb_ne hx).1
  rw [List.mem_singleton.1 hx];have hlt := h.lt.2.1;exact hn.kept (odd_map h1.map) hg (by omega)
end Go.Proofs.YtblemmagkehanaaGreat.PA
