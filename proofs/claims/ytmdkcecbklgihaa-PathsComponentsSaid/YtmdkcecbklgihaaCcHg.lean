/- far: so many distances that are too far: the row that slices.Repeat makes of one. Condition: 1 to 2^20 of them. -/
import Derived.Test.YtmdkcecbklgihaaCcPAx3
import Derived.Test.YtmdkcecbklgihaaCcFl
import Derived.WalkLawsBesides
import Derived.WalkSpells
import Derived.Outline
import Derived.Deep.QuietTactic
import Derived.BigQuiet
import Derived.BigRegion
import Derived.Deep.CutRange
import Derived.Deep.RegionLaw
import Derived.Laws.CopyOwn
import Derived.Deep.OwnRows
namespace Go.Proofs.Ytmdkcecbklgihaa.PA
open Go.RowKit Go.Proofs.YtmdkcecbklgihaaW.PrintWords Go.Proofs.YtmdkcecbklgihaaW.PrintLast Go.Proofs.YtmdkcecbklgihaaW.PrintMore
set_option linter.unusedVariables false
set_option linter.unusedSimpArgs false
theorem and_mask (n : Nat) (h : n < 4294967296) : Go.bits .and .u64 (n : Int) 4294967295 = (n : Int) := by
  have h1 := bits_and_u64_nat n 4294967295 (by omega) (by omega)
  refine h1.trans ?_
  have : n &&& 4294967295 = n % 2 ^ 32 := Nat.and_two_pow_sub_one_eq_mod n 32
  rw [this]
  omega
theorem mul_one_tells (n : Nat) (h : n < 4294967296) : bits_Mul.f 1 (n : Int) = some (0,(n : Int)) := by
  unfold bits_Mul.f bits_Mul64.f
  have h1 : Go.bits .and .u64 1 4294967295 = 1 := and_mask 1 (by omega)
  have h2 : (n : Int) / 4294967296 = 0 := by omega
  have h3 : IntKind.u64.wrap (n : Int) = (n : Int) := by
    rw [IntKind.wrap_u64]
    omega
  have h4 : (1 : Int) / 4294967296 = 0 := by decide
  have h5 : IntKind.u64.wrap (0 : Int) = 0 := by decide
  have h6 : Go.bits .and .u64 (0 : Int) 4294967295 = 0 := and_mask 0 (by omega)
  simp only [and_mask n h,h1,h2,h4,Int.one_mul,Int.zero_mul,Int.mul_zero,h3,h5,h6,Int.zero_add,Int.add_zero,Option.bind_some,Int.zero_ediv]
def filled (v : Nat) (c n : Nat) : List Value := List.replicate c (.float .f64 v) ++ List.replicate (n - c) (.float .f64 0)
theorem filled_len (v c n : Nat) (h : c ≤ n) : (filled v c n).length = n := by simp [filled];omega
theorem filled_splice (v c m n : Nat) (h : c + m ≤ n) : splice (filled v c n) c (List.replicate m (.float .f64 v)) = filled v (c + m) n := by
  unfold splice filled
  have h1 : n - c - m = n - (c + m) := by omega
  rw [List.take_append_of_le_length (by simp),List.drop_append]
  simp [h1,← List.append_assoc,List.replicate_append_replicate]
theorem filled_at (v c n j : Nat) (h : j < c) : (filled v c n)[j]? = some (.float .f64 v) := by
  unfold filled
  rw [List.getElem?_append_left (by simpa using h)]
  simp [h]
theorem src_ok (wr : World) (b v c n m : Nat) (h : wr.heap[b]? = some (.cells (filled v c n).toArray 26 (0,0))) (hm : m ≤ c) (hcn : c ≤ n) :
    0 < (List.replicate m (Value.float .f64 v)).length → (some ⟨b,c,none⟩ : Option Addr) = some ⟨b,c,none⟩ ∧ ∃ ad1 : Addr,some ⟨b,0,none⟩ = some ad1 ∧ ∀ j u,(List.replicate m (Value.float .f64 v))[j]? = some u → wr.drew.cell? (ad1.add j) = some u := by
  refine fun _ => ⟨rfl,_,rfl,fun j u hu => ?_⟩
  have hj : j < m := by
    have := (List.getElem?_eq_some_iff.1 hu).1
    simpa using this
  have hcell : wr.cell? ⟨b,j,none⟩ = (filled v c n).toArray[j]? := blk_cell h j
  have e0 : (⟨b,0,none⟩ : Addr).add j = ⟨b,j,none⟩ := by
    simp [Addr.add]
    try exact fun h => h.symm
  rw [e0]
  refine hcell.trans ?_
  rw [List.getElem?_toArray,filled_at v c n j (by omega)]
  rw [List.getElem?_replicate,if_pos hj] at hu
  exact hu
set_option maxRecDepth 100000 in
theorem repeat_calls (ad : Addr) (c v n : Nat) (w : World) (hx : w.cell? ad = some (.float .f64 v)) (h1 : 1 ≤ n) (h2 : n ≤ 1048576) :
    Calls Try.prog 61 #[.slice (some ad) 1 c,.int .i64 (n : Int)] w fun e w' => ∃ b,e = .returned (.slice (some ⟨b,0,none⟩) n n) ∧ w.heap.size ≤ b ∧ w'.heap[b]? = some (.cells (filled v n n).toArray 26 (0,0)) ∧ Below w.heap.size w w' := by
  have A := Aside0.mk (mul_one_tells n (by omega))
  have hmk := run_make_row' (P := Try.prog) 34 26 (.float .f64 0) 8 Try.underlying34 info26 rfl .i64 .i64 n (by omega) (by omega)
  have ht : decide ((n : Int) < 0) = false := decide_eq_false (by omega)
  have q0 : IntKind.u64.wrap (n : Int) = (n : Int) := by
    rw [IntKind.wrap_u64]
    omega
  have q1 : IntKind.i64.wrap (n : Int) = (n : Int) := by
    rw [IntKind.wrap_i64]
    omega
  have ht2 : decide ((n : Int) > 9223372036854775807) = false := decide_eq_false (by omega)
  have HX := Aside0.mk hx
  go_enter Try.func61,Try.ntmps61
  go_wp2_with fail
  refine (bits_Mul.calls 1 (n : Int) 0 (n : Int) _ A.out).mono ?_
  rintro e w1 ⟨rfl,hd⟩
  have HB1 := Aside0.mk hd.below
  clear hd
  have HG : Aside0 ((w1.alloc (.cells (madeCells #[.float .f64 0] n) 26)).heap[w1.heap.size]? = some (.cells (filled v 0 n).toArray 26 (0,0))) := ⟨by
    rw [heap_alloc_new]
    congr 2
    apply Array.ext'
    apply List.ext_getElem?
    intro j
    simp [filled,madeCells,Nat.mod_one,List.getElem?_replicate,List.getElem?_range]
    by_cases hj : j < n <;> simp [hj]⟩
  have hsz : (Try.prog.info? 26).map (·.size) = some 1 := by kernel_rfl
  have HCX : Aside0 ((w1.alloc (.cells (madeCells #[.float .f64 0] n) 26)).cell? ad = some (.float .f64 v)) := ⟨((below_alloc HB1.out _).cell (World.block_lt_of_cell? w _ HX.out)).trans HX.out⟩
  have HN : Aside0 (([.float .f64 v] : List Value).length = Nat.min 1 n) := ⟨(Nat.min_eq_left h1).symm⟩
  have HPOS : Aside0 (0 < ([.float .f64 v] : List Value).length → ∃ ad1,some ad = some ad1 ∧ ∀ j u,([.float .f64 v] : List Value)[j]? = some u → (w1.alloc (.cells (madeCells #[.float .f64 0] n) 26)).cell? (ad1.add j) = some u) := ⟨fun _ => ⟨ad,rfl,fun j u hu => by
    cases j with
    | zero =>
      cases hu
      have e0 : ad.add 0 = ad := by (cases ad;rfl)
      rw [e0]
      exact HCX.out
    | succ j => simp at hu⟩⟩
  have HF : Aside0 (0 + ([.float .f64 v] : List Value).length ≤ (filled v 0 n).length) := ⟨by rw [filled_len _ _ _ (Nat.zero_le _)];simpa using h1⟩
  have HO : Aside0 (∀ u ∈ ([.float .f64 v] : List Value),u.oneCell' = true) := ⟨by simp [Value.oneCell']⟩
  have SZ := Aside0.mk hsz
  have BB : Aside0 (Below w.heap.size w (w1.alloc (.cells (madeCells #[.float .f64 0] n) 26))) := ⟨below_alloc HB1.out _⟩
  have GE := Aside0.mk HB1.out.size
  clear hsz
  go_wp2_with (refine wpList_copy_splice rfl (.tmp 31) (.tmp 32) 34 34 rfl 26 Try.underlying34 SZ.out (some ⟨w1.heap.size,0,none⟩) (some ad) n n 1 c rfl rfl w1.heap.size 0 (filled v 0 n) 26 HG.out [.float .f64 v] HN.out (fun h0 => ⟨rfl,HPOS.out h0⟩) HF.out HO.out w.heap.size w BB.out GE.out ?_;intro w2 hw2 hb2)
  have hmin : ∀ c m : Nat,c < n → m = min c (n - c) → splice (filled v c n) c (List.replicate m (.float .f64 v)) = filled v (c + m) n := fun c m h1 h2 => filled_splice v c m n (by omega)
  have HMIN := Aside0.mk hmin
  have HS1 : Aside0 (w2.heap[w1.heap.size]? = some (.cells (filled v 1 n).toArray 26 (0,0))) := ⟨by
    have h3 := filled_splice v 0 1 n (by omega)
    rw [show filled v 1 n = splice (filled v 0 n) 0 [.float .f64 v] from h3.symm]
    exact hw2⟩
  obtain ⟨b,hb⟩ : ∃ b,b = w1.heap.size := ⟨_,rfl⟩
  rw [← hb] at HS1
  have GE2 : Aside0 (w.heap.size ≤ b) := ⟨by rw [hb];exact GE.out⟩
  have B2 := Aside0.mk hb2
  clear hmin HN HPOS HF HO BB GE HG HCX hw2 hb2
  simp only [← hb]
  clear hb
  go_loopw [8] (fun vi wr => ∃ c : Nat,vi = .int .i64 (c : Int) ∧ 1 ≤ c ∧ c ≤ n ∧ Aside0 (wr.heap[b]? = some (.cells (filled v c n).toArray 26 (0,0)) ∧ Below w.heap.size w wr)) (fun vi _ => n - (intOf vi).toNat)
  case atStart => exact ⟨1,rfl,Nat.le_refl _,h1,⟨HS1.out,B2.out⟩⟩
  case round =>
    obtain ⟨c,rfl,hc1,hcn,HH⟩ := hrel
    by_cases hlt : c < n
    rotate_left
    · have hcn2 : c = n := by omega
      subst hcn2
      go_wp2_with fail
      go_ret
      exact ⟨b,rfl,GE2.out,HH.out.1,HH.out.2⟩
    have hltz : (c : Int) < (n : Int) := by omega
    obtain ⟨m,hm⟩ : ∃ m,m = min c (n - c) := ⟨_,rfl⟩
    have HN : Aside0 ((List.replicate m (Value.float .f64 v)).length = Nat.min c (n - c)) := ⟨by rw [List.length_replicate,hm]⟩
    have hnc : ¬ n = c := by omega
    have hmc : m ≤ c := by omega
    have HF : Aside0 (c + (List.replicate m (Value.float .f64 v)).length ≤ (filled v c n).length) := ⟨by rw [filled_len _ _ _ hcn,List.length_replicate];omega⟩
    have HO : Aside0 (∀ u ∈ List.replicate m (Value.float .f64 v),u.oneCell' = true) := ⟨by
      intro u hu
      obtain rfl := (List.mem_replicate.1 hu).2
      rfl⟩
    have BG := Aside0.mk (show wr.drew.heap[b]? = some (.cells (filled v c n).toArray 26 (0,0)) from HH.out.1)
    have BW := Aside0.mk (below_drew HH.out.2)
    have q2 : IntKind.i64.wrap ((c : Int) + (m : Int)) = ((c + m : Nat) : Int) := by
      rw [IntKind.wrap_i64]
      omega
    have HM := Aside0.mk hm
    clear hm
    go_wp2_with fail
    go_region_law (refine step_copy_splice rfl (.tmp 41) (.tmp 44) 34 34 rfl 26 Try.underlying34 SZ.out (some ⟨b,c,none⟩) (some ⟨b,0,none⟩) (n - c) (n - c) c n (by simp [Act.eval,Act.put,hnc]) (by simp [Act.eval,Act.put]) b c (filled v c n) 26 BG.out (List.replicate m (.float .f64 v)) HN.out (src_ok wr b v c n m HH.out.1 hmc hcn) HF.out HO.out w.heap.size w BW.out GE2.out ?_;intro w4 hg4 hb4)
    have hs4 : w4.heap[b]? = some (.cells (filled v (c + m) n).toArray 26 (0,0)) := by
      rw [← HMIN.out c m hlt HM.out]
      exact hg4
    simp only [List.getElem_toArray,List.getElem_cons_succ,List.getElem_cons_zero,Act.put,List.setIfInBounds_toArray,List.set_cons_zero,List.set_cons_succ]
    go_wp2_with fail
    go_roundw
    case rel =>
      exact ⟨c + m,by rw [Int.natCast_add],by omega,by have := HM.out;omega,⟨hs4,hb4⟩⟩
    case measure => have := HM.out;simp [intOf];omega
set_option maxRecDepth 100000 in
theorem far_calls (n : Nat) (w : World) (h1 : 1 ≤ n) (h2 : n ≤ 1048576) :
    Calls Try.prog 50 #[.int .i64 (n : Int)] w fun e w' => ∃ b,e = .returned (.slice (some ⟨b,0,none⟩) n n) ∧ w.heap.size ≤ b ∧ w'.heap[b]? = some (.cells (filled 9218868437227405312 n n).toArray 26 (0,0)) ∧ Below w.heap.size w w' := by
  have hu34 := Try.underlying34
  go_enter Try.func50,Try.ntmps50
  go_wp2_with fail
  refine (math_Inf.calls 1 9218868437227405312 _ rfl).mono ?_
  rintro e w1 ⟨rfl,hd⟩
  have HB1 := Aside0.mk hd.below
  clear hd
  go_wp2_with fail
  refine (repeat_calls ⟨w1.heap.size,0,none⟩ 1 9218868437227405312 n _ (by simp) h1 h2).mono ?_
  rintro e w2 ⟨b,rfl,hb1,hb2,hb3⟩
  have H2 := Aside0.mk (And.intro hb1 (And.intro hb2 hb3))
  clear hb1 hb2 hb3
  go_wp2_with fail
  go_ret
  refine ⟨b,rfl,?_,H2.out.2.1,below_then (below_alloc HB1.out _) ?_ H2.out.2.2⟩
  · have := H2.out.1
    have := HB1.out.size
    simp at *
    omega
  have := HB1.out.size
  simp
  omega
end Go.Proofs.Ytmdkcecbklgihaa.PA
