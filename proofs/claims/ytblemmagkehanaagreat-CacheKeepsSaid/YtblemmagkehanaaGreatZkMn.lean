/- The kind 'float64' among the kinds of a print: a float is told by its bits. And what the body-less functions of package math give: no condition. -/
import Derived.Test.YtblemmagkehanaaGreatZkW
import Derived.Laws.FloatArith
import Derived.Laws.Externs
namespace Go.Proofs.YtblemmagkehanaaGreatW.PrintWords
open Go.RowKit
namespace Kd
def float : Kd Nat := Kd.scalar (Value.float .f64) (fun _ => rfl)
end Kd
@[go_sem] theorem unary_float_neg (k : FloatKind) (a : Nat) : Op.unary .neg (.float k a) = pure (.float k (Op.negFloat k a)) := rfl
@[go_sem] theorem run_store_float {P : Program} {w : World} {a : Addr} {m : Mode} (k : FloatKind) (b : Nat) : (store a (.float k b) m).run P w = stored P w a (.float k b) m := run_store P w a _ m rfl
def archTruncBits (x : Nat) : Option Nat :=
  match FloatKind.f64.decode x with
  | .nan _ _ => none
  | d => some (FloatKind.f64.encode (d.integral .zero))
section
variable {P : Program} {f : FuncId} {fn : Func}
theorem run_extern_value {e : Array Value → Sem Value} (hf : P.funcs[f]? = some fn) (h1 : (fn.name == "runtime.NumGoroutine") = false) (h2 : fn.body.isNone = true) (h3 : Extern.findNext fn = none) (h4 : Extern.find fn = some e)
    {args : Array Value} {v : Value} {w : World} (he : (e args).run P w = .ok v w) : (callFunc f args).run P w = .ok (.value v) w := by
  rw [run_callFunc_extern hf h1 h2 h3 h4, he];rfl
theorem run_Float64bits (hf : P.funcs[f]? = some fn) (h1 : (fn.name == "runtime.NumGoroutine") = false) (h2 : fn.body.isNone = true) (h3 : Extern.findNext fn = none) (h4 : Extern.find fn = some Extern.MathFloatBits.float64bits) :
    ∀ (x : Nat) (w : World), (callFunc f #[.float .f64 x]).run P w = .ok (.value (.int .u64 (x : Int))) w :=
  fun _ _ => run_extern_value hf h1 h2 h3 h4 rfl
theorem run_Float64frombits (hf : P.funcs[f]? = some fn) (h1 : (fn.name == "runtime.NumGoroutine") = false) (h2 : fn.body.isNone = true) (h3 : Extern.findNext fn = none) (h4 : Extern.find fn = some Extern.MathFloatBits.float64frombits) :
    ∀ (x : Int) (w : World), (callFunc f #[.int .u64 x]).run P w = .ok (.value (.float .f64 x.toNat)) w :=
  fun _ _ => run_extern_value hf h1 h2 h3 h4 rfl
theorem run_archTruncBits (hf : P.funcs[f]? = some fn) (h1 : (fn.name == "runtime.NumGoroutine") = false) (h2 : fn.body.isNone = true) (h3 : Extern.findNext fn = none) (h4 : Extern.find fn = some (Extern.MathFloor.toIntegral "math.archTrunc" .zero)) :
    ∀ (x t : Nat), archTruncBits x = some t → ∀ w : World, (callFunc f #[.float .f64 x]).run P w = .ok (.value (.float .f64 t)) w := by
  intro x t h w;refine run_extern_value hf h1 h2 h3 h4 ?_;unfold archTruncBits at h
  cases hd : FloatKind.f64.decode x with
  | nan s t' => simp [hd] at h
  | infinity s =>
    simp only [hd] at h;rw [← Option.some.inj h];unfold Extern.MathFloor.toIntegral
    conv => lhs; arg 2; whnf
    rw [hd];rfl
  | number s m e =>
    simp only [hd] at h;rw [← Option.some.inj h];unfold Extern.MathFloor.toIntegral
    conv => lhs; arg 2; whnf
    rw [hd];rfl
end
end Go.Proofs.YtblemmagkehanaaGreatW.PrintWords
namespace Go.Proofs.YtblemmagkehanaaGreatW.PrintLast
open Go.Proofs.YtblemmagkehanaaGreatW.PrintWords (Aside0)
section
variable {P : Program} {md : Region.Mode} {ops : Array Oper} {Q : Exit → Act → World → Prop} {S : World → Prop} {ds : List Nat} {T : Bool × List (List Nat × List Nat)} {B : List Nat}
def getL {α : Type} : List α → Nat → Option α
  | [],_ => none
  | x :: _,0 => some x
  | _ :: r,n + 1 => getL r n
theorem getL_eq {α : Type} : ∀ (l : List α) (i : Nat),getL l i = l[i]?
  | [],i => by simp [getL]
  | x :: r,0 => by simp [getL]
  | x :: r,n + 1 => by simp [getL,getL_eq r n]
theorem getL_ops {i : Nat} {oi : Oper} (h : getL ops.toList i = some oi) : ops[i]? = some oi := by rw [getL_eq,Array.getElem?_toList] at h;exact h
inductive Chain (P : Program) (ops : Array Oper) (S : World → Prop) : List (Nat × Nat) → Act → Act → Prop
  | nil (a : Act) : Chain P ops S [] a a
  | on {i : Nat} {oi : Oper} {v : Value} {a a2 : Act} {L : List (Nat × Nat)} {a' : Act} (hi : getL ops.toList i = some oi) (hw : Region.wanted oi (yielded ops a.tmps) = true) (hr : ∀ w,(execOp a.eval oi).run P w = .ok (.value v) w) (ha : a.put oi.dst v = a') (h : Chain P ops S L a' a2) : Chain P ops S ((i,0) :: L) a a2
  | off {i : Nat} {oi : Oper} {a a2 : Act} {L : List (Nat × Nat)} {a' : Act} (hi : getL ops.toList i = some oi) (hw : Region.wanted oi (yielded ops a.tmps) = false) (ha : a.put oi.dst undef = a') (h : Chain P ops S L a' a2) : Chain P ops S ((i,1) :: L) a a2
  | take {i : Nat} {oi : Oper} {v : Value} {a a2 : Act} {L : List (Nat × Nat)} {a' : Act} (hi : getL ops.toList i = some oi) (hw : Region.wanted oi (yielded ops a.tmps) = true) (hr : ∀ w,S w → (execOp a.eval oi).run P w = .ok (.value v) w) (ha : a.put oi.dst v = a') (h : Chain P ops S L a' a2) : Chain P ops S ((i,2) :: L) a a2
def manyG (A K : List Bool → List Bool → Nat → Bool) : List (Nat × Nat) → List Bool → List Bool → Bool
  | [],l,l' => l == l'
  | (i,2) :: L,l,l' => K l (l.set i true) i && manyG A K L (l.set i true) l'
  | (i,_) :: L,l,l' => A l (l.set i true) i && manyG A K L (l.set i true) l'
theorem put_any (hQ : ∀ c (N : Tmp) v a w,Q (.panic c) (Act.put a (some N) v) w → Q (.panic c) a w) {N : Option Tmp} {v : Value} : ∀ c a w,Q (.panic c) (Act.put a N v) w → Q (.panic c) a w := fun c a w h => by
  cases N with
  | none => exact h
  | some N => exact hQ c N v a w h
theorem many_G {A K : List Bool → List Bool → Nat → Bool} (hA : ∀ (l l' : Array Bool) (i : Nat),A l.toList l'.toList i = true → anyB md ops l l' i = true) (hK : ∀ (l l' : Array Bool) (i : Nat),K l.toList l'.toList i = true → takeB md ops ds l l' i = true)
    (hQ : ∀ c (N : Tmp) v a w,Q (.panic c) (Act.put a (some N) v) w → Q (.panic c) a w) {fuel : Nat} {w : World} {l' : Array Bool} {L : List (Nat × Nat)} {a a' : Act} (hy : Chain P ops S L a a') :
    ∀ l : Array Bool,manyG A K L l.toList l'.toList = true → ((L.any fun p => p.2 == 2) = true → S w) → wpAnyLast P md ops Q S ds fuel l' a' w → wpAnyLast P md ops Q S ds (fuel + L.length) l a w := by
  induction hy with
  | nil a =>
    intro l hc _ h;have e : l = l' := Array.ext' (by simpa [manyG] using hc);rw [e];exact h
  | @on i oi v a a2 L a' hi hw hr ha _ ih =>
    intro l hc hS h;simp only [manyG,Bool.and_eq_true] at hc;have e : l.toList.set i true = (l.setIfInBounds i true).toList := by rw [Array.toList_setIfInBounds]
    rw [e] at hc;exact pure_ (l.setIfInBounds i true) (getL_ops hi) rfl (hA _ _ _ hc.1) (put_any hQ) (Or.inl ⟨hw,hr⟩) ha (ih _ hc.2 (fun hx => hS (by simpa using hx)) h)
  | @off i oi a a2 L a' hi hw ha _ ih =>
    intro l hc hS h;simp only [manyG,Bool.and_eq_true] at hc;have e : l.toList.set i true = (l.setIfInBounds i true).toList := by rw [Array.toList_setIfInBounds]
    rw [e] at hc;exact pure_ (l.setIfInBounds i true) (getL_ops hi) rfl (hA _ _ _ hc.1) (put_any hQ) (Or.inr ⟨hw,rfl⟩) ha (ih _ hc.2 (fun hx => hS (by simpa using hx)) h)
  | @take i oi v a a2 L a' hi hw hr ha _ ih =>
    intro l hc hS h;simp only [manyG,Bool.and_eq_true] at hc;have e : l.toList.set i true = (l.setIfInBounds i true).toList := by rw [Array.toList_setIfInBounds]
    rw [e] at hc;exact take_ (l.setIfInBounds i true) (getL_ops hi) rfl (hK _ _ _ hc.1) (put_any hQ) (Or.inl ⟨hw,hr⟩) (hS (by simp)) ha (ih _ hc.2 (fun hx => hS (by simp)) h)
variable {fuel n : Nat} {w : World} {l : Array Bool} {a a' : Act}
theorem manyW_ (L : List (Nat × Nat)) (l' : Array Bool) (hf : n = fuel + L.length) (hT : Aside0 (rtab md ops = T)) (hB : Aside0 (waitsOk T.2 B = true)) (hc : manyG (anyT T) (takeW T B ds) L l.toList l'.toList = true)
    (hQ : ∀ c (N : Tmp) v a w,Q (.panic c) (Act.put a (some N) v) w → Q (.panic c) a w) (hS : (L.any fun p => p.2 == 2) = true → S w) (hy : Chain P ops S L a a') (h : wpAnyLast P md ops Q S ds fuel l' a' w) : wpAnyLast P md ops Q S ds n l a w := by
  rw [hf];exact many_G (fun _ _ _ => any_of hT.out) (fun _ _ _ => take_ofW hT.out hB.out) hQ hy l hc hS h
theorem manyT_ (L : List (Nat × Nat)) (l' : Array Bool) (hf : n = fuel + L.length) (hT : Aside0 (rtab md ops = T)) (hc : manyG (anyT T) (takeT T ds) L l.toList l'.toList = true)
    (hQ : ∀ c (N : Tmp) v a w,Q (.panic c) (Act.put a (some N) v) w → Q (.panic c) a w) (hS : (L.any fun p => p.2 == 2) = true → S w) (hy : Chain P ops S L a a') (h : wpAnyLast P md ops Q S ds fuel l' a' w) : wpAnyLast P md ops Q S ds n l a w := by
  rw [hf];exact many_G (fun _ _ _ => any_of hT.out) (fun _ _ _ => take_of hT.out) hQ hy l hc hS h
theorem manyD_ (L : List (Nat × Nat)) (l' : Array Bool) (hf : n = fuel + L.length) (hc : manyG (fun l l' i => anyB md ops l.toArray l'.toArray i) (fun l l' i => takeB md ops ds l.toArray l'.toArray i) L l.toList l'.toList = true)
    (hQ : ∀ c (N : Tmp) v a w,Q (.panic c) (Act.put a (some N) v) w → Q (.panic c) a w) (hS : (L.any fun p => p.2 == 2) = true → S w) (hy : Chain P ops S L a a') (h : wpAnyLast P md ops Q S ds fuel l' a' w) : wpAnyLast P md ops Q S ds n l a w := by
  rw [hf];exact many_G (fun _ _ _ hx => by simpa using hx) (fun _ _ _ hx => by simpa using hx) hQ hy l hc hS h
end
end Go.Proofs.YtblemmagkehanaaGreatW.PrintLast
