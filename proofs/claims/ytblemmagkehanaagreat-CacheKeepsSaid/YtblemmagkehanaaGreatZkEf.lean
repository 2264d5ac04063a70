/- A cache alone, behind calls; Learn and Forget where they are granted. Conditions: those that each theorem names. -/
import Derived.Test.YtblemmagkehanaaGreatZkGi
import Derived.Test.YtblemmagkehanaaGreatZkEd
namespace Go.Proofs.YtblemmagkehanaaGreat.PA
open Go.RowKit Go.Proofs.YtblemmagkehanaaGreatW.PrintWords Go.Proofs.YtblemmagkehanaaGreatW.PrintLast Go.Proofs.YtblemmagkehanaaGreatW.PrintMore
set_option linter.unusedVariables false
set_option linter.unusedSimpArgs false
structure KeepAt (w0 wr : World) (g b : Nat) (L : List Nb) : Prop where
  cache : CacheAt wr g b L
  ok : ∃ m,StOk L m
  old : Below w0.heap.size w0 wr
  far : w0.heap.size ≤ b ∧ ∀ e ∈ L,w0.heap.size ≤ e.p
theorem PlayAt.keep {w0 wr : World} {g b : Nat} {L : List Nb} {A : Option Addr} {c : Nat} {m : List S43} (h : PlayAt w0 wr g b L A c m) : KeepAt w0 wr g b L := ⟨h.st.cache,⟨m,h.st.ok⟩,h.old,h.far⟩
theorem KeepAt.below {w0 w w1 : World} {g b : Nat} {L : List Nb} (h : KeepAt w0 w g b L) (hb : Below w.heap.size w w1) : KeepAt w0 w1 g b L := ⟨h.cache.below hb,h.ok,below_then h.old h.old.size hb,h.far⟩
theorem OpOut.doc {w w' : World} {g b : Nat} {L L' : List Nb} {A : Option Addr} {n : Nat} {l : List S43} (h : CacheAt w g b L) (ho : OpOut w g b L L' w') (hd : Kd.C k43 w A n l) : Kd.C k43 w' A n l := by
  obtain ⟨x,hx,hg⟩ := ho.row;exact C43_kept hd (h.odd hx) hg
theorem KeepAt.does {w0 w w' : World} {g b : Nat} {L L' : List Nb} (h : KeepAt w0 w g b L) (ho : OpOut w g b L L' w') (hs : ∃ m,StOk L' m) : KeepAt w0 w' g b L' := by
  obtain ⟨h1,h2,h3⟩ := ho.old h.old h.far;exact ⟨ho.at_,hs,h1,h2,h3⟩
theorem learn_no {w0 w : World} {g b : Nat} {L : List Nb} (h : KeepAt w0 w g b L) (id : Int) {B : Option Addr} {cB : Nat} {ns : List S61} (hN : Kd.C k61 w0 B ns.length ns) (hc : ns.length ≤ cB) (hw : WordsN ns) (hl : ns.length ≤ 4611686018427387903) :
    Calls Tryz.prog 11 #[.pointer (some ⟨g,0,none⟩),.int .i64 id,.slice B ns.length cB] w fun e w' => e = .returned (.tuple #[.int .i64 (learnN L id ns),.int .i64 (learnE L id ns)]) ∧ Below w0.heap.size w0 w' ∧ ∀ A n (l : List S43),Kd.C k43 w A n l → Kd.C k43 w' A n l := by
  obtain ⟨m,hs⟩ := h.ok;refine (learn_any h.cache hs id (Kd.C_below hN h.old) hc hw hl).mono ?_;rintro e w' ⟨L',rfl,hO,_⟩;exact ⟨rfl,(hO.old h.old h.far).1,fun A n l hC => hO.doc h.cache hC⟩
theorem learn_good {w0 w : World} {g b : Nat} {L : List Nb} (h : KeepAt w0 w g b L) (id : Int) {B : Option Addr} {cB : Nat} {ns : List S61} (hN : Kd.C k61 w0 B ns.length ns) (hc : ns.length ≤ cB) (hw : WordsN ns) (hl : ns.length ≤ 4611686018427387903) {x : Nb} (hg : nbGet id L = some x) (hr : risFrom ns ns.length 0 = true) :
    Calls Tryz.prog 11 #[.pointer (some ⟨g,0,none⟩),.int .i64 id,.slice B ns.length cB] w fun e w' => ∃ L',e = .returned (.tuple #[.int .i64 (cntAt x.news ns ns.length : Nat),.int .i64 0]) ∧ KeepAt w0 w' g b L' ∧ (∃ y,nbGet id L' = some y ∧ y.news = foldN x.news ns) ∧ (∀ i y,i ≠ id → nbGet i L = some y → nbGet i L' = some y) ∧ ∀ A n (l : List S43),Kd.C k43 w A n l → Kd.C k43 w' A n l := by
  obtain ⟨m,hs⟩ := h.ok;refine (learn_any h.cache hs id (Kd.C_below hN h.old) hc hw hl).mono ?_;rintro e w' ⟨L',rfl,hO,hL⟩;have h1 : learnN L id ns = ((cntAt x.news ns ns.length : Nat) : Int) := by unfold learnN;rw [hg];simp only [hr,if_true]
  have h2 : learnE L id ns = 0 := by unfold learnE;rw [hg];simp only [hr,if_true]
  obtain ⟨A',c',hl',hg',_⟩ := learn_to hg hr hL;refine ⟨L',by rw [h1,h2],h.does hO ⟨_,hs.learn hL⟩,⟨_,hg',rfl⟩,fun i y hi hy => ?_,fun A n l hC => hO.doc h.cache hC⟩;rw [hl',nbGet_turn (f := nbLearn A' c' (foldN x.news ns)) (fun _ => rfl),hy]
  simp [hi]
theorem forget_good {w0 w : World} {g b : Nat} {L : List Nb} (h : KeepAt w0 w g b L) (id : Int) {x : Nb} (hg : nbGet id L = some x) :
    Calls Tryz.prog 15 #[.pointer (some ⟨g,0,none⟩),.int .i64 id] w fun e w' => ∃ L' v,e = .returned v ∧ KeepAt w0 w' g b L' ∧ ∃ y,nbGet id L' = some y ∧ y.news = [] := by
  obtain ⟨m,hs⟩ := h.ok;refine (forget_live h.cache id).mono ?_;rintro e w' ⟨rfl,hO⟩;refine ⟨_,_,rfl,h.does hO ⟨_,hs.forget id⟩,?_⟩;unfold forgetL;rw [nbGet_turn (f := fun e => { e with A := none,c := 0,news := [] }) (fun _ => rfl),hg]
  simp
theorem ris_len {ns : List S61} (hr : risFrom ns ns.length 0 = true) : ns.length ≤ 4294967294 := (ris_news hr).len
theorem doc_one {w0 w : World} {A : Option Addr} {c : Nat} (id : Int) (h : Kd.C k43 w A 1 [⟨id,0,[]⟩]) (hc : 1 ≤ c) {B : Option Addr} {cB : Nat} {ns : List S61} (hN : Kd.C k61 w B ns.length ns) (hcB : ns.length ≤ cB) (hr : risFrom ns ns.length 0 = true) :
    Calls Tryz.prog 12 #[.slice A 1 c,.int .i64 id,.slice B ns.length cB] w fun e w' => ∃ A' c' k,e = .returned (.tuple #[.slice A' 1 c',.int .i64 k,.int .i64 0]) ∧ Kd.C k43 w' A' 1 [⟨id,0,foldN [] ns⟩] ∧ Below w.heap.size w w' := by
  have hl := ris_len hr;have hj : idxH id [(⟨id,0,[]⟩ : S43)] = some 0 := by simp [idxH]
  refine (doc_learn_ok (m := [⟨id,0,[]⟩]) h hc ⟨by show 1 < 3518437208883;decide,fun x hx => by rw [List.mem_singleton.1 hx];show 0 < 3518437208883;decide⟩ (List.pairwise_singleton _ _) hj (by show 0 < 1;decide) hN hcB (by omega) hr ⟨List.Pairwise.nil,fun n hn => by cases hn⟩).mono ?_;rintro e w' ⟨A',c',rfl,hD⟩;have e1 : hdTurn id (fun h => ⟨h.f0,h.f1,foldN ([(⟨id,0,[]⟩ : S43)][0]).f2 ns⟩) [⟨id,0,[]⟩] = [⟨id,0,foldN [] ns⟩] := by simp [hdTurn]
  have hC := hD.1;rw [e1] at hC;exact ⟨A',c',_,by rw [e1];rfl,hC,hD.2.2⟩
theorem one_C {w : World} {q : Nat} {id : Int} (h : w.heap[q]? = some (.cells #[.int .i64 id,.float .f64 0,.slice none 0 0] 43 (0,0))) : Kd.C k43 w (some ⟨q,0,none⟩) 1 [⟨id,0,[]⟩] := by
  refine ⟨rfl,by decide,fun _ => ⟨⟨q,0,none⟩,rfl,fun j p hj => ?_⟩⟩
  cases j with
  | succ j => simp at hj
  | zero =>
    obtain rfl := Option.some.inj hj;refine ⟨[.int .i64 id,.float .f64 0,.slice none 0 0],rfl,k43_mk w ⟨id,0,[]⟩ (Nat.le_refl _) (show Kd.C k61 w none 0 [] from ⟨rfl,by decide,fun h => absurd h (by decide)⟩),fun i u hu => ?_⟩;have : (⟨q,0,none⟩ : Addr).add (0 * 3 + i) = ⟨q,i,none⟩ := by simp [Addr.add];exact fun h => h.symm
    show w.cell? ((⟨q,0,none⟩ : Addr).add (0 * 3 + i)) = some u
    rw [this,blk_cell h i]
    simpa using hu
end Go.Proofs.YtblemmagkehanaaGreat.PA
