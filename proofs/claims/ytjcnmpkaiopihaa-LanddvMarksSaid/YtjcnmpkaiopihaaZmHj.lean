/- scopedv.Balls where the check and the limit hold: what is kept of all that was heard, sorted. -/
import Derived.Test.YtjcnmpkaiopihaaZmHn
namespace Go.Proofs.Ytjcnmpkaiopihaa.PA
open Go.RowKit Go.Proofs.YtjcnmpkaiopihaaW.PrintWords Go.Proofs.YtjcnmpkaiopihaaW.PrintLast Go.Proofs.YtjcnmpkaiopihaaW.PrintMore
set_option linter.unusedVariables false
set_option linter.unusedSimpArgs false
def EnInv (w wr : World) (r b : Nat) (L P rest : List S58) (vl : Value) : Prop :=
  Kd.R k58 58 wr w.heap.size (fun k => k ≠ r ∧ k ≠ b) vl P ∧ Ranging wr r b (Value.int .i64) (enM L) (enM rest) ∧ Below w.heap.size w wr ∧ (P ++ rest).Perm L ∧ w.heap.size ≤ r
theorem EnInv.len {w wr : World} {r b : Nat} {L P rest : List S58} {vl : Value} (h : EnInv w wr r b L P rest vl) : P.length + rest.length = L.length := by
  have := h.2.2.2.1.length_eq
  simpa using this
def nilE : Value := .agg #[.int .i64 0,.int .i64 0,.float .f64 0,.int .i64 0,.float .f64 0,.int .i64 0]
theorem EnInv.row {w wr w2 W : World} {r b : Nat} {L P rest : List S58} {vl : Value} (h : EnInv w wr r b L P rest vl) (hg : wr.grownBy w2 (some r)) (hW : Below w2.heap.size w2 W) : Kd.R k58 58 W w.heap.size (fun k => k ≠ r ∧ k ≠ b) vl P ∧ Below w.heap.size w W := by
  have h1 := Kd.R_grown h.1 hg (fun k hk e => hk.1 (Option.some.inj e))
  have h2 := pw_below_grown h.2.2.1 _ h.2.2.1.size hg (fun k e => by cases e;exact h.2.2.2.2)
  exact ⟨Kd.R_grown h1 (grown_of_below hW none) (fun k hk e => by cases e),pw_below_grown h2 _ h2.size (grown_of_below hW none) (fun k e => by cases e)⟩
theorem EnInv.step {w wr w2 w3 W : World} {r b : Nat} {L P rest r1 r2 : List S58} {a : S58} {vl v3 : Value} (h : EnInv w wr r b L P rest vl) (hs : rest = r1 ++ a :: r2) (hg : wr.grownBy w2 (some r)) (hW : Below w2.heap.size w2 W) (hr : Ranging w2 r b (Value.int .i64) (enM L) (enM r1 ++ enM r2))
    (h3 : Kd.R k58 58 w3 w.heap.size (fun k => k ≠ r ∧ k ≠ b) v3 (P ++ [a])) (hb3 : Below w.heap.size w w3) (hg3 : W.grownBy w3 vl.ownBlock) : EnInv w w3 r b L (P ++ [a]) (r1 ++ r2) v3 := by
  refine ⟨h3,?_,hb3,?_,h.2.2.2.2⟩
  · rw [show enM (r1 ++ r2) = enM r1 ++ enM r2 from List.map_append]
    exact (hr.below hW).grown hg3 (fun e => (h.1.1 b e.symm).2 rfl) (fun e => (h.1.1 r e.symm).1 rfl)
  refine List.Perm.trans ?_ h.2.2.2.1
  rw [hs,List.append_assoc]
  show (P ++ (a :: (r1 ++ r2))).Perm _
  exact List.Perm.append_left P List.perm_middle.symm
theorem HeldB.below {w W W' : World} {b : Nat} {M : List S58} (h : HeldB w W b M) (hb : Below W.heap.size W W') : HeldB w W' b M :=
  ⟨h.1.below hb,h.2.1,below_then h.2.2.1 h.2.2.1.size hb,h.2.2.2⟩
theorem HeldB.put {w W W' : World} {b : Nat} {M : List S58} {x : S58} {d : Int} (h : HeldB w W b M) (hd : x.f0 = d) (hm : IsMap W' b (Value.int .i64) (mput (enM M) d (.agg #[.int .i64 x.f0,.int .i64 x.f1,.float .f64 x.f2,.int .i64 x.f3,.float .f64 x.f4,.int .i64 x.f5]))) (hg : W.grownBy W' (some b)) (hk : KeptOk (enPut x M)) : HeldB w W' b (enPut x M) := by
  refine ⟨?_,hk,pw_below_grown h.2.2.1 _ h.2.2.1.size hg (fun k e => by cases e;exact h.2.2.2),h.2.2.2⟩
  subst hd
  rw [← mput_en]
  exact hm
theorem look_en (M : List S58) (d : Int) : ∃ (y : S58) (th : Bool),(mget (enM M) d).getD nilE = .agg #[.int .i64 y.f0,.int .i64 y.f1,.float .f64 y.f2,.int .i64 y.f3,.float .f64 y.f4,.int .i64 y.f5] ∧ (mget (enM M) d).isSome = th ∧ enGet d M = if th = true then some y else none := by
  rw [mget_en]
  cases h : enGet d M with
  | none => exact ⟨⟨0,0,0,0,0,0⟩,false,rfl,rfl,rfl⟩
  | some y => exact ⟨y,true,rfl,rfl,rfl⟩
end Go.Proofs.Ytjcnmpkaiopihaa.PA
