/- cmp.Compare at strings; All: what is kept, by names. Condition: no more names than a directory holds. -/
import Derived.Test.YtlpmblcdafdfdaaYyDb
import Derived.WalkLawsBesides
namespace Go.Proofs.Ytlpmblcdafdfdaa.PA
open Go.Shelf Go.RowKit Go.Lib Go.Sort Go.Proofs.YtlpmblcdafdfdaaW.PrintWords Go.Proofs.YtlpmblcdafdfdaaW.PrintLast Go.Proofs.YtlpmblcdafdfdaaW.PrintMore
set_option linter.unusedVariables false
set_option linter.unusedSimpArgs false
theorem bl_irrefl : ∀ l : List UInt8,Op.bytesLess l l = false
  | [] => rfl
  | a :: l => by
    rw [Op.bytesLess,bl_irrefl l]
    simp
theorem bl_trans : ∀ x y z : List UInt8,Op.bytesLess x y = true → Op.bytesLess y z = true → Op.bytesLess x z = true
  | [],[],_,h,_ => by simp [Op.bytesLess] at h
  | [],_ :: _,[],_,h => by simp [Op.bytesLess] at h
  | [],_ :: _,_ :: _,_,_ => rfl
  | _ :: _,[],_,h,_ => by simp [Op.bytesLess] at h
  | _ :: _,_ :: _,[],_,h => by simp [Op.bytesLess] at h
  | a :: x,b :: y,c :: z,h1,h2 => by
    rw [Op.bytesLess] at *
    simp only [Bool.or_eq_true,Bool.and_eq_true,decide_eq_true_eq,beq_iff_eq] at *
    rcases h1 with h1 | ⟨rfl,h1⟩
    · rcases h2 with h2 | ⟨rfl,h2⟩
      · exact .inl (UInt8.lt_trans h1 h2)
      · exact .inl h1
    · rcases h2 with h2 | ⟨rfl,h2⟩
      · exact .inl h2
      · exact .inr ⟨rfl,bl_trans x y z h1 h2⟩
theorem bl_tot : ∀ x y : List UInt8,Op.bytesLess x y = false → Op.bytesLess y x = false → x = y
  | [],[],_,_ => rfl
  | [],_ :: _,h,_ => by simp [Op.bytesLess] at h
  | _ :: _,[],_,h => by simp [Op.bytesLess] at h
  | a :: x,b :: y,h1,h2 => by
    rw [Op.bytesLess] at *
    simp only [Bool.or_eq_false_iff,Bool.and_eq_false_iff,decide_eq_false_iff_not,beq_eq_false_iff_ne] at *
    have e : a = b := by
      have := h1.1
      have := h2.1
      exact UInt8.le_antisymm (UInt8.not_lt.1 h2.1) (UInt8.not_lt.1 h1.1)
    subst e
    rw [bl_tot x y (h1.2.resolve_left (fun h => h rfl)) (h2.2.resolve_left (fun h => h rfl))]
def nmLt (x y : ByteArray) : Bool := Op.bytesLess x.toList y.toList
theorem toList_inj {x y : ByteArray} (h : x.toList = y.toList) : x = y := by
  rw [Lib.toList_data,Lib.toList_data] at h
  cases x
  cases y
  simp only [ByteArray.mk.injEq]
  exact Array.toList_inj.1 h
theorem nmLt_irrefl (x : ByteArray) : nmLt x x = false := bl_irrefl _
theorem nmLt_trans {x y z : ByteArray} (h1 : nmLt x y = true) (h2 : nmLt y z = true) : nmLt x z = true := bl_trans _ _ _ h1 h2
theorem nmLt_tot {x y : ByteArray} (h1 : nmLt x y = false) (h2 : nmLt y x = false) : x = y := toList_inj (bl_tot _ _ h1 h2)
theorem nmLt_asym {x y : ByteArray} (h1 : nmLt x y = true) : nmLt y x = false := by
  cases h : nmLt y x
  · rfl
  · have := nmLt_trans h1 h
    rw [nmLt_irrefl] at this
    cases this
theorem nmLt_ntrans {x y z : ByteArray} (h1 : nmLt x y = false) (h2 : nmLt y z = false) : nmLt x z = false := by
  cases h : nmLt x z
  · rfl
  · cases h3 : nmLt y x
    · have := nmLt_tot h1 h3
      subst this
      rw [h2] at h
      cases h
    · have := nmLt_trans h3 h
      rw [h2] at this
      cases this
def cmpS (x y : ByteArray) : Int := if nmLt x y = true then -1 else if x.toList = y.toList then 0 else 1
theorem isNaN_str (s : ByteArray) (W : World) : Calls Try.prog 63 #[.string s] W fun e w' => e = .returned (.bool false) ∧ W = w' := by
  go_enter Try.func63,Try.ntmps63
  go_wp2
  go_ret
  exact ⟨by simp,rfl⟩
theorem cmp_str (x y : ByteArray) (W : World) : Calls Try.prog 47 #[.string x,.string y] W fun e w' => e = .returned (.int .i64 (cmpS x y)) ∧ W = w' := by
  unfold cmpS nmLt
  cases h1 : Op.bytesLess x.toList y.toList
  · by_cases h2 : x.toList = y.toList
    · have h3 : (!x.toList == y.toList) = false := by simp [h2]
      rw [if_neg (by simp),if_pos h2]
      have H2 := Aside0.mk h2
      clear h2
      go_enter Try.func47,Try.ntmps47
      go_wp2_with (go_at_call 63;refine (isNaN_str _ _).mono ?_;rintro e w' ⟨rfl,rfl⟩)
      go_ret
      exact ⟨rfl,rfl⟩
    · have h3 : (!x.toList == y.toList) = true := by simp [h2]
      rw [if_neg (by simp),if_neg h2]
      have H2 := Aside0.mk h2
      clear h2
      go_enter Try.func47,Try.ntmps47
      go_wp2_with (go_at_call 63;refine (isNaN_str _ _).mono ?_;rintro e w' ⟨rfl,rfl⟩)
      go_ret
      exact ⟨rfl,rfl⟩
  · rw [if_pos rfl]
    go_enter Try.func47,Try.ntmps47
    go_wp2_with (go_at_call 63;refine (isNaN_str _ _).mono ?_;rintro e w' ⟨rfl,rfl⟩)
    go_ret
    exact ⟨rfl,rfl⟩
def encA (a : S57) : List Value := [.string a.f0,.int .i64 a.f1,.int .i64 a.f2,.int .i64 a.f3]
set_option maxHeartbeats 1000000 in
theorem all1_any (x y : S57) (W : World) : Calls Try.prog 46 #[.agg (encA x).toArray,.agg (encA y).toArray] W fun e w' => e = .returned (.int .i64 (cmpS x.f0 y.f0)) ∧ ∃ q os',w' = grow (W.drewN q) os' := by
  have hcon := fun W' => cmp_str x.f0 y.f0 W'
  have hu57 := Try.underlying57
  generalize cmpS x.f0 y.f0 = r at hcon ⊢
  show Calls Try.prog 46 #[.agg #[.string x.f0,.int .i64 x.f1,.int .i64 x.f2,.int .i64 x.f3],.agg #[.string y.f0,.int .i64 y.f1,.int .i64 y.f2,.int .i64 y.f3]] W _
  have HC := Aside0.mk hcon
  clear hcon
  go_enter Try.func46,Try.ntmps46
  go_wp2_with (go_at_call 47;refine (HC.out _).mono ?_;rintro e w' ⟨rfl,rfl⟩)
  go_ret
  exact ⟨rfl,0,_,by rw [alloc_eq_grow,alloc_eq_grow,grow_grow];rfl⟩
end Go.Proofs.Ytlpmblcdafdfdaa.PA
