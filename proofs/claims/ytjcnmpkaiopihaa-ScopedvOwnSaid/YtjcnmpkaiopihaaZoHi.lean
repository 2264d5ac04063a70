/- scopedv.Balls: an error, or what is kept of all that was heard, sorted. Conditions: the floats are words, the lists fit in memory. -/
import Derived.Test.YtjcnmpkaiopihaaZoGv
import Derived.Test.YtjcnmpkaiopihaaZoMq
namespace Go.Proofs.Ytjcnmpkaiopihaa.PA
open Go.RowKit Go.Proofs.YtjcnmpkaiopihaaW.PrintWords Go.Proofs.YtjcnmpkaiopihaaW.PrintLast Go.Proofs.YtjcnmpkaiopihaaW.PrintMore
set_option linter.unusedVariables false
set_option linter.unusedSimpArgs false
def HeldB (w wr : World) (b : Nat) (M : List S58) : Prop := IsMap wr b (Value.int .i64) (enM M) ∧ KeptOk M ∧ Below w.heap.size w wr ∧ w.heap.size ≤ b
theorem heldB_made (w w1 : World) (hb : Below w.heap.size w w1) : HeldB w (w1.alloc (.map #[] 0)) w1.heap.size [] :=
  ⟨isMap_made w1,keptOk_nil,below_alloc hb _,hb.size⟩
def upTo (self : Int) (max : Nat) (l : List S54) (i : Nat) : List S58 := (l.take i).foldl (oneB self max) []
theorem upTo_all (self : Int) (max : Nat) (l : List S54) : upTo self max l l.length = allB self max l := by unfold upTo allB;rw [List.take_length]
theorem upTo_next (self : Int) (max : Nat) (l : List S54) (i : Nat) (hi : i < l.length) : upTo self max l (i + 1) = oneB self max (upTo self max l i) l[i] := by
  unfold upTo
  rw [List.take_succ_eq_append_getElem hi,List.foldl_append]
  rfl
def upToN (self : Int) (max : Nat) (h : S54) (M : List S58) (j : Nat) : List S58 := (h.f2.take j).foldl (stepB self max h.f0 h.f1) M
theorem upToN_all (self : Int) (max : Nat) (h : S54) (M : List S58) : upToN self max h M h.f2.length = oneB self max M h := by unfold upToN oneB;rw [List.take_length]
theorem upToN_next (self : Int) (max : Nat) (h : S54) (M : List S58) (j : Nat) (hj : j < h.f2.length) : upToN self max h M (j + 1) = stepB self max h.f0 h.f1 (upToN self max h M j) h.f2[j] := by
  unfold upToN
  rw [List.take_succ_eq_append_getElem hj,List.foldl_append]
  rfl
set_option maxHeartbeats 4000000 in
set_option maxRecDepth 100000 in
theorem balls_bad (self : Int) (A : Option Addr) (c : Nat) (l : List S54) (max : Nat) (w : World) (hr : Kd.C k54 w A l.length l) (hc : l.length ≤ c) (hw : HeardW l) (hl : l.length < 2305843009213693952) (hx : max < 18446744073709551616) (h0 : ckE self l ≠ 0) :
    Calls Try.prog 9 #[.int .i64 self,.slice A l.length c,.float .f64 max] w fun e w' => e = .returned (.tuple #[.slice none 0 0,.int .i64 (ckE self l)]) ∧ Below w.heap.size w w' := by
  have HR := Aside0.mk hr
  have HC := Aside0.mk hc
  have HCK := Aside0.mk (prog_ck self l hw hl (2 * l.length + 3) (Nat.le_refl _))
  have c4b1 : (ckE self l != 0) = true := bne_iff_ne.mpr h0
  clear hr hc hw
  generalize ckE self l = ck at *
  go_enter Try.func9,Try.ntmps9
  go_wp2_with (first | (go_at_call 17;refine (landdv_Check.calls _ self A c l ck _ HR.out HC.out HCK.out).mono ?_;rintro e w2 ⟨rfl,hb⟩;have HB := Aside0.mk hb;clear hb))
  refine bodyPost_ret (v := .tuple #[.slice none 0 0,.int .i64 ck]) (by simp [results,Try.results9,go_sem]) rfl ⟨rfl,HB.out⟩
set_option maxHeartbeats 4000000 in
set_option maxRecDepth 100000 in
theorem balls_lim (self : Int) (A : Option Addr) (c : Nat) (l : List S54) (max : Nat) (w : World) (hr : Kd.C k54 w A l.length l) (hc : l.length ≤ c) (hw : HeardW l) (hl : l.length < 2305843009213693952) (hx : max < 18446744073709551616) (h0 : ckE self l = 0) (h1 : lE max ≠ 0) :
    Calls Try.prog 9 #[.int .i64 self,.slice A l.length c,.float .f64 max] w fun e w' => e = .returned (.tuple #[.slice none 0 0,.int .i64 (lE max)]) ∧ Below w.heap.size w w' := by
  have HR := Aside0.mk hr
  have HC := Aside0.mk hc
  have hck := prog_ck self l hw hl (2 * l.length + 3) (Nat.le_refl _)
  rw [h0] at hck
  have HCK := Aside0.mk hck
  have HL := Aside0.mk (limit_all max hx).2.1
  have c4b1 : (lE max != 0) = true := bne_iff_ne.mpr h1
  clear hr hc hw hck h0
  generalize lE max = ck at *
  go_enter Try.func9,Try.ntmps9
  go_wp2_with (first | (go_at_call 17;refine (landdv_Check.calls _ self A c l 0 _ HR.out HC.out HCK.out).mono ?_;rintro e w2 ⟨rfl,hb⟩;have HB := Aside0.mk hb;clear hb) | (go_at_call 32;refine (metric_Limit.calls max ck _ HL.out).mono ?_;rintro e w3 ⟨rfl,hb3⟩;have HB3 := Aside0.mk hb3;clear hb3))
  refine bodyPost_ret (v := .tuple #[.slice none 0 0,.int .i64 ck]) (by simp [results,Try.results9,go_sem]) rfl ⟨rfl,?_⟩
  obtain ⟨q,rfl⟩ := HB3.out
  exact pw_below_drewN HB.out _
end Go.Proofs.Ytjcnmpkaiopihaa.PA
