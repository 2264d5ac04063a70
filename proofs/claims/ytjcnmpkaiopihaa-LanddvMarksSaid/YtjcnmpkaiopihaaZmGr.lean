/- Entries in a map, by destination; what is known of an offer: the program and the document tell the same. Conditions: the weight may be, the distance is one. -/
import Derived.Test.YtjcnmpkaiopihaaZmMp
import Derived.Test.YtjcnmpkaiopihaaZmMn
import Derived.Test.YtjcnmpkaiopihaaZmHf
import Derived.Test.YtjcnmpkaiopihaaZmGq
namespace Go.Proofs.Ytjcnmpkaiopihaa.PA
open Go.RowKit Go.Proofs.YtjcnmpkaiopihaaW.PrintWords Go.Proofs.YtjcnmpkaiopihaaW.PrintLast Go.Proofs.YtjcnmpkaiopihaaW.PrintMore
set_option linter.unusedVariables false
set_option linter.unusedSimpArgs false
section
variable {κ : Type} [DecidableEq κ]
theorem mfind_shift (k : κ) : ∀ (m : List (κ × Value)) (i : Nat),mfind k m (i + 1) = (mfind k m i).map fun x => (x.1 + 1,x.2)
  | [],i => rfl
  | p :: r,i => by
    unfold mfind
    by_cases e : k = p.1
    · simp [e]
    simp only [e,if_false]
    exact mfind_shift k r (i + 1)
theorem mget_cons (k : κ) (p : κ × Value) (r : List (κ × Value)) : mget (p :: r) k = if k = p.1 then some p.2 else mget r k := by
  unfold mget
  rw [mfind]
  by_cases e : k = p.1
  · simp [e]
  simp only [e,if_false]
  rw [mfind_shift,Option.map_map]
  rfl
theorem mput_cons (k : κ) (v : Value) (p : κ × Value) (r : List (κ × Value)) : mput (p :: r) k v = if k = p.1 then (k,v) :: r else p :: mput r k v := by
  unfold mput
  rw [mfind]
  by_cases e : k = p.1
  · simp [e]
  simp only [e,if_false]
  rw [mfind_shift]
  cases mfind k r 0 with
  | none => rfl
  | some x => rfl
end
def enV (a : S58) : Value := .agg #[.int .i64 a.f0,.int .i64 a.f1,.float .f64 a.f2,.int .i64 a.f3,.float .f64 a.f4,.int .i64 a.f5]
def enM (L : List S58) : List (Int × Value) := L.map fun a => (a.f0,enV a)
def enGet (s : Int) : List S58 → Option S58
  | [] => none
  | a :: r => if s = a.f0 then some a else enGet s r
def enPut (a : S58) : List S58 → List S58
  | [] => [a]
  | b :: r => if a.f0 = b.f0 then a :: r else b :: enPut a r
theorem mget_en (s : Int) : ∀ L : List S58,mget (enM L) s = (enGet s L).map enV
  | [] => rfl
  | a :: r => by
    show mget ((a.f0,enV a) :: enM r) s = _
    rw [mget_cons,mget_en s r,enGet]
    by_cases e : s = a.f0 <;> simp [e]
theorem mput_en (a : S58) : ∀ L : List S58,mput (enM L) a.f0 (enV a) = enM (enPut a L)
  | [] => rfl
  | b :: r => by
    show mput ((b.f0,enV b) :: enM r) a.f0 (enV a) = _
    rw [mput_cons,mput_en a r,enPut]
    by_cases e : a.f0 = b.f0
    · simp [e,enM]
    simp [e,enM]
theorem enGet_dest {s : Int} : ∀ {L : List S58} {a : S58},enGet s L = some a → a.f0 = s
  | b :: r,a,h => by
    unfold enGet at h
    split at h
    · rename_i e
      rw [← Option.some.inj h]
      exact e.symm
    exact enGet_dest h
theorem enPut_mem {x : S58} : ∀ {L : List S58} {y : S58},y ∈ enPut x L → y = x ∨ y ∈ L
  | [],y,h => by simpa [enPut] using h
  | b :: r,y,h => by
    rw [enPut] at h
    split at h
    · rcases List.mem_cons.1 h with h | h
      · exact .inl h
      exact .inr (List.mem_cons_of_mem _ h)
    rcases List.mem_cons.1 h with h | h
    · exact .inr (by rw [h];exact List.mem_cons_self)
    rcases enPut_mem h with h | h
    · exact .inl h
    exact .inr (List.mem_cons_of_mem _ h)
theorem enPut_dests {x : S58} : ∀ {L : List S58},(L.map (·.f0)).Nodup → ((enPut x L).map (·.f0)).Nodup
  | [],_ => by simp [enPut]
  | b :: r,h => by
    rw [List.map_cons,List.nodup_cons] at h
    rw [enPut]
    split
    · rename_i e
      rw [List.map_cons,List.nodup_cons,e]
      exact h
    rename_i e
    rw [List.map_cons,List.nodup_cons]
    refine ⟨fun hm => ?_,enPut_dests h.2⟩
    obtain ⟨y,hy,hye⟩ := List.mem_map.1 hm
    rcases enPut_mem hy with rfl | hy
    · exact e hye
    exact h.1 (List.mem_map.2 ⟨y,hy,hye⟩)
theorem add_same (a b c : Nat) : metric_Add.f a b c = beaconref01_Add.f a b c := by
  unfold metric_Add.f beaconref01_Add.f
  congr 1
theorem add_told (a b : Nat) (ha : ∃ m i,Ieee.double.read a = .number false m i) (hb : (Ieee.double.read b).isNaN = false) : ∃ s,floatBits .add .f64 a b = some s := by
  obtain ⟨m,i,hm⟩ := ha
  show ∃ s,((Ieee.double.read a).sum (Ieee.double.read b)).map Ieee.double.write = some s
  rw [hm]
  cases hr : Ieee.double.read b with
  | number s n j => exact ⟨_,rfl⟩
  | infinity s => exact ⟨_,rfl⟩
  | nan s f => rw [hr] at hb;cases hb
theorem add_all (a b c : Nat) (ha : ∃ m i,Ieee.double.read a = .number false m i) (hb : (Ieee.double.read b).isNaN = false) : ∃ s,metric_Add.f a b c = some s := by
  obtain ⟨s,hs⟩ := add_told a b ha hb
  unfold metric_Add.f
  rw [hs,Option.bind_some,nan_read,Option.bind_some]
  cases (Ieee.double.read s).isNaN
  · rw [if_neg (by decide)]
    split
    · split <;> exact ⟨_,rfl⟩
    exact ⟨_,rfl⟩
  exact ⟨_,rfl⟩
theorem far_num (a : Nat) (h : farB a = true) : (Ieee.double.read a).isNaN = false := by
  cases hn : (Ieee.double.read a).isNaN
  · rfl
  exfalso
  have hf := far_ref a
  rw [h] at hf
  unfold beaconref06_Far.f at hf
  have h0 : a ≠ 0 := by
    rintro rfl
    rw [read_zero] at hn
    cases hn
  rw [isInf1,nan_order a _ hn,Option.bind_some,if_neg (by decide),if_neg (by omega),nan_order a _ hn,if_neg (by decide)] at hf
  cases hf
theorem weight_num (a : Nat) (h : a < 18446744073709551616) (h0 : wE a = 0) : ∃ m i,Ieee.double.read a = .number false m i := by
  obtain ⟨q,h4,hq,rfl⟩ := (weight_all a h).2.2 h0
  obtain ⟨m,i,hr,_⟩ := read_bq q (by omega)
  exact ⟨m,i,hr⟩
def addV (a b c : Nat) : Nat := (metric_Add.f a b c).getD 0
theorem add_is (a b c : Nat) (ha : ∃ m i,Ieee.double.read a = .number false m i) (hb : (Ieee.double.read b).isNaN = false) : metric_Add.f a b c = some (addV a b c) ∧ beaconref01_Add.f a b c = some (addV a b c) := by
  obtain ⟨s,hs⟩ := add_all a b c ha hb
  have : addV a b c = s := by unfold addV;rw [hs];rfl
  rw [this,← add_same]
  exact ⟨hs,hs⟩
end Go.Proofs.Ytjcnmpkaiopihaa.PA
