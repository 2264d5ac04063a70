/- The methods of a directory: of one that nobody made they tell nothing; of one that was made, what stands in its map. -/
import Derived.Test.YtlpmblcdafdfdaaYpPAx0
import Derived.Test.YtlpmblcdafdfdaaYyMp
import Derived.WalkLawsBesides
import Derived.WalkSpells
import Derived.Outline
import Derived.LoopN
namespace Go.Proofs.Ytlpmblcdafdfdaa.PA
open Go.RowKit Go.Proofs.YtlpmblcdafdfdaaW.PrintWords Go.Proofs.YtlpmblcdafdfdaaW.PrintLast Go.Proofs.YtlpmblcdafdfdaaW.PrintMore
set_option linter.unusedVariables false
set_option linter.unusedSimpArgs false
def Nobody (w : World) (p : Option Addr) : Prop := p = none ∨ ∃ g life,p = some ⟨g,0,none⟩ ∧ w.heap[g]? = some (.cells #[.int .i64 life,.map none] 70 (0,0))
def IsDir (w : World) (g b : Nat) (life : Int) (m : List (ByteArray × Value)) : Prop := w.heap[g]? = some (.cells #[.int .i64 life,.map (some b)] 70 (0,0)) ∧ IsMap w b Value.string m
theorem Nobody.below {w w1 : World} {p : Option Addr} (h : Nobody w p) (hb : Below w.heap.size w w1) : Nobody w1 p := by
  rcases h with h | ⟨g,life,h,hc⟩
  · exact .inl h
  · exact .inr ⟨g,life,h,(hb.block g (Array.getElem?_eq_some_iff.1 hc).1).trans hc⟩
set_option maxRecDepth 100000 in
theorem is_live {w : World} {g b : Nat} {life : Int} (hc : w.heap[g]? = some (.cells #[.int .i64 life,.map (some b)] 70 (0,0))) : Calls Try.prog 38 #[.pointer (some ⟨g,0,none⟩)] w fun e w' => e = .returned (.bool true) ∧ w = w' := by
  have h1 : w.cell? ⟨g,1,none⟩ = some (.map (some b)) := (blk_cell hc 1).trans rfl
  clear hc
  have hq := fun r (W_ : World) => run_neq_map_nil (P := Try.prog) W_ 68 9 57 r Try.underlying68
  go_enter Try.func38,Try.ntmps38
  go_wp2
  go_ret
  exact ⟨rfl,rfl⟩
set_option maxRecDepth 100000 in
theorem new_yes (n : Int) (w : World) (h1 : 1 ≤ n) (h2 : n ≤ 1048576) : Calls Try.prog 16 #[.int .i64 n] w fun e w' => ∃ g b,e = .returned (.tuple #[.pointer (some ⟨g,0,none⟩),.int .i64 0]) ∧ w.heap.size ≤ g ∧ w.heap.size ≤ b ∧ IsDir w' g b n [] ∧ Below w.heap.size w w' := by
  have hmm := @run_makeMap Try.prog
  have hu70 := Try.underlying70
  go_enter Try.func16,Try.ntmps16
  go_wp2
  go_ret2
  have e1 := al_new (w.alloc (Obj.map #[] 0)) (Obj.cells #[Value.int IntKind.i64 n,Value.map (some w.heap.size)] 70)
  rw [World.size_alloc] at e1
  exact ⟨_,_,rfl,Nat.le_succ _,Nat.le_refl _,⟨e1,(isMap_made w).alloc _⟩,((Below.refl _ _).alloc (Nat.le_refl _) _).alloc (by simp) _⟩
set_option maxRecDepth 100000 in
theorem new_no (n : Int) (w : World) (h1 : n < 1 ∨ 1048576 < n) : Calls Try.prog 16 #[.int .i64 n] w fun e w' => e = .returned (.tuple #[.pointer none,.int .i64 1]) ∧ w = w' := by
  rcases h1 with h1 | h1
  · go_enter Try.func16,Try.ntmps16
    go_wp2
    go_ret2
    exact ⟨rfl,rfl⟩
  · have h2 : ¬ n < 1 := by omega
    go_enter Try.func16,Try.ntmps16
    go_wp2
    go_ret2
    exact ⟨rfl,rfl⟩
def noAddr : Value := .agg #[.string ⟨#[]⟩,.int .i64 0,.int .i64 0,.int .i64 0]
def told (m : List (ByteArray × Value)) (s : ByteArray) : Value := (mget m s).getD noAddr
set_option maxRecDepth 100000 in
theorem get_live {w : World} {g b : Nat} {life : Int} {m : List (ByteArray × Value)} (h : IsDir w g b life m) (s : ByteArray) (x : ByteArray) (a1 a2 a3 : Int) (ht : told m s = .agg #[.string x,.int .i64 a1,.int .i64 a2,.int .i64 a3]) :
    Calls Try.prog 25 #[.pointer (some ⟨g,0,none⟩),.string s] w fun e w' => e = .returned (.tuple #[told m s,.bool (mget m s).isSome]) ∧ Below w.heap.size w w' := by
  have hu57 := Try.underlying57
  have hu69 := Try.underlying70
  have hlt : g < w.heap.size := (Array.getElem?_eq_some_iff.1 h.1).1
  have hc0 := (al_old w (.cells #[.string ⟨#[]⟩,.int .i64 0,.int .i64 0,.int .i64 0] 57) hlt).trans h.1
  have h1 : w.cell? ⟨g,1,none⟩ = some (.map (some b)) := (blk_cell h.1 1).trans rfl
  have HM := Aside0.mk h.2
  have HC := Aside0.mk hc0
  have HT := Aside0.mk ht
  clear ht h hc0
  go_enter Try.func25,Try.ntmps25
  go_wp2_with (first | (go_at_call 38;refine (is_live HC.out).mono ?_;rintro e w' ⟨rfl,rfl⟩) | (at_lookup;refine wp_look rfl _ _ 68 9 57 rfl (key_string Try.underlying9) Try.underlying68 rfl s rfl (HM.out.alloc _) noAddr (by kernel_rfl) ?_;rw [show (mget m s).getD noAddr = told m s from rfl,HT.out]))
  exact bodyPost_ret (v := .tuple #[.agg #[.string x,.int .i64 a1,.int .i64 a2,.int .i64 a3],.bool (mget m s).isSome]) (by simp [results,Try.results25,go_sem]) rfl ⟨by rw [HT.out],by repeat (first | exact Below.refl _ _ | apply below_alloc | refine Below.setCell ?_ (by simp) _)⟩
end Go.Proofs.Ytlpmblcdafdfdaa.PA
