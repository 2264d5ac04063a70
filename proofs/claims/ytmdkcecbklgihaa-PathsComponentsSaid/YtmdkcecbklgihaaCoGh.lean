/- The law's own small question, and how it compares lists. No condition but those each theorem names. -/
import Derived.Test.YtmdkcecbklgihaaCoGg
namespace Go.Proofs.Ytmdkcecbklgihaa.PA
open Go.RowKit Go.Proofs.YtmdkcecbklgihaaW.PrintWords
open Classical
set_option linter.unusedVariables false
set_option linter.unusedSimpArgs false
theorem ints_go (l : List Int) (hl : l.length ≤ 4611686018427387903) : ∀ (m i : Nat),l.length - i = m → i ≤ l.length → Ev (fun k => beaconlaw08_ints.l0 k l l (i : Int)) true := by
  intro m
  induction m with
  | zero =>
    intro i hm hi
    refine Ev.now 1 (fun k hk => ?_)
    obtain ⟨k,rfl⟩ : ∃ m,k = m + 1 := ⟨k - 1,by omega⟩
    show beaconlaw08_ints.l0 (k + 1) _ _ _ = _
    rw [beaconlaw08_ints.l0,if_neg (by omega)]
  | succ m ihm =>
    intro i hm hi
    refine Ev.step 0 (fun k hk => ?_) (ihm (i + 1) (by omega) (by omega))
    show beaconlaw08_ints.l0 (k + 1) _ _ _ = _
    rw [beaconlaw08_ints.l0,if_pos (by omega),if_pos (by omega),if_pos (by omega),if_pos rfl,wrap_succ i (by omega)]
theorem ints_same (l : List Int) (hl : l.length ≤ 4611686018427387903) : Ev (fun k => beaconlaw08_ints.f k l l) true := by
  refine Ev.mono 0 (fun k hk => ?_) (ints_go l hl l.length 0 (by omega) (Nat.zero_le _))
  show beaconlaw08_ints.f k l l = _
  unfold beaconlaw08_ints.f
  rw [if_pos rfl]
  rfl
theorem Ev.unique {α : Type} {f : Nat → Option α} {a b : α} (h : Ev f a) (h' : Ev f b) : a = b := by
  obtain ⟨K,hK⟩ := h
  obtain ⟨L,hL⟩ := h'
  exact Option.some.inj ((hK (max K L) (by omega)).symm.trans (hL (max K L) (by omega)))
theorem Ev.of_mono {α : Type} {f : Nat → Option α} {a : α} (N : Nat) (hm : ∀ k,LeO (f k) (f (k + 1))) (h : f N = some a) : Ev f a := by
  refine ⟨N,fun k hk => ?_⟩
  obtain ⟨d,rfl⟩ : ∃ d,k = N + d := ⟨k - N,by omega⟩
  clear hk
  induction d with
  | zero => exact h
  | succ d ih => exact hm (N + d) a ih
def smallN : List S40 := [(⟨1,true,false⟩ : S40),(⟨2,true,false⟩ : S40),(⟨3,true,false⟩ : S40)]
def smallL : List S74 := [(⟨1,2,4611686018427387904,true⟩ : S74),(⟨1,3,4613937818241073152,true⟩ : S74),(⟨2,3,4607182418800017408,true⟩ : S74)]
theorem small_fits : Fits smallL := by
  intro l hl
  simp only [smallL,List.mem_cons,List.not_mem_nil,or_false] at hl
  rcases hl with rfl | rfl | rfl <;> decide
set_option maxRecDepth 100000 in
theorem small_ref : beaconref08_Nexts.f 300 smallN smallL 4621819117588971520 1 = some ([0,2,2],0) := by
  kernel_rfl
theorem small_nexts : nextsSpec smallN smallL 4621819117588971520 1 = ([0,2,2],0) :=
  Ev.unique (Nexts_tells small_fits (by decide) 1) (Ev.of_mono 300 (fun k => beaconref08_Nexts.mono _ _ _ _ k) small_ref)
theorem awake_true : beaconlaw08_awake.f = some true := by
  unfold beaconlaw08_awake.f beaconlaw08_small.f
  rw [Option.bind_some]
  show (paths_Nexts.f smallN smallL 4621819117588971520 1).bind _ = _
  unfold paths_Nexts.f
  rw [if_pos ⟨small_fits,by decide⟩,small_nexts,Option.bind_some]
  rfl
end Go.Proofs.Ytmdkcecbklgihaa.PA
