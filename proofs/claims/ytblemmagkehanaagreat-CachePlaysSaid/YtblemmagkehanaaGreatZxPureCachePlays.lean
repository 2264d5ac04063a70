/- CachePlays walked. Condition: the calls are words, and fit in memory. -/
import Derived.Test.YtblemmagkehanaaGreatZxEd
import Derived.Test.YtblemmagkehanaaGreatZxKd
import Derived.Test.YtblemmagkehanaaGreatZxPAx0
import Derived.Test.YtblemmagkehanaaGreatZxOp
import Derived.KernelRfl
namespace Go.Proofs.YtblemmagkehanaaGreat.PA
open Go.RowKit Go.Proofs.YtblemmagkehanaaGreatW.PrintWords Go.Proofs.YtblemmagkehanaaGreatW.PrintLast Go.Proofs.YtblemmagkehanaaGreatW.PrintMore
set_option linter.unusedVariables false
set_option linter.unusedSimpArgs false
open Classical
def ActsW (l : List S31) : Prop := ∀ a ∈ l,ActW a
noncomputable def beaconlaw13_CachePlays.f (l : List S31) : Option Bool := if ActsW l then some true else none
theorem rd31 (l : List S31) (i : Nat) (h : i < l.length) : rd_T31 l (i : Int) = l[i] := by
  unfold rd_T31;rw [Int.toNat_natCast]
  simp [List.getD_eq_getElem?_getD,h]
theorem play_start {w w1 w2 : World} {g b : Nat} {A : Option Addr} {c : Nat} (hb : w.heap.size ≤ b) (hC : CacheAt w1 g b []) (h1 : Below w.heap.size w w1) (h2 : Below w1.heap.size w1 w2) (hA : Kd.C k43 w2 A 0 []) : PlayAt w w2 g b [] A c [] :=
  ⟨⟨hC.below h2,hA,Nat.zero_le _,⟨List.Perm.refl _,List.Pairwise.nil,fun e he => (by cases he),fun e he => (by cases he),by decide⟩⟩,below_then h1 h1.size h2,hb,fun e he => by cases he⟩
set_option maxHeartbeats 8000000 in
set_option maxRecDepth 1000000 in
theorem beaconlaw13_CachePlays.calls (A : Option Addr) (c0 : Nat) (l : List S31) (r : Bool) (w : World) (hr : Kd.C k31 w A l.length l) (hc : l.length ≤ c0) (h : beaconlaw13_CachePlays.f l = some r) :
    Calls Tryz.prog 3 #[.slice A l.length c0] w fun e w' => e = .returned (.bool r) ∧ Below w.heap.size w w' := by
  have HW : ActsW l ∧ r = true := by
    unfold beaconlaw13_CachePlays.f at h
    split at h
    · rename_i h1
      exact ⟨h1,(Option.some.inj h).symm⟩
    cases h
  obtain ⟨hw,rfl⟩ := HW;have AW := Aside0.mk hw;have HR := Aside0.mk hr;have hu31 := Tryz.underlying31;have hmax := Kd.C_max hr;clear h hr hw;go_enter Tryz.func3,Tryz.ntmps3
  go_wp2_with (first | (go_at_call 7;refine (cache_new _).mono ?_;rintro e w1 ⟨g,b,rfl,hg,hb,hC,hB⟩;have HG := Aside0.mk hb;have C1 := Aside0.mk hC;have HB1 := Aside0.mk hB;clear hg hb hC hB))
  have P0 : Aside0 (PlayAt w (w1.alloc (Obj.cells #[] 43)) g b [] (some ⟨w1.heap.size,0,none⟩) 0 []) := ⟨play_start HG.out C1.out HB1.out (below_alloc (Below.refl _ _) _) ⟨rfl,by decide,fun h => absurd h (by decide)⟩⟩
  go_loopg [4,5,6] l.length (fun kx s4 s5 s6 wr => ∃ (i : Nat) (L : List Nb) (A2 : Option Addr) (c2 : Nat) (m : List S43),s4 = .slice A2 m.length c2 ∧ s5 = .bool true ∧ s6 = .int .i64 (i : Int) ∧ i ≤ l.length ∧ l.length - i ≤ kx ∧ Aside0 (PlayAt w wr g b L A2 c2 m))
  case atStart => exact ⟨0,[],_,0,[],rfl,rfl,rfl,Nat.zero_le _,by omega,P0⟩
  case round =>
    obtain ⟨i,L,A2,c2,m,rfl,rfl,rfl,hin,hg,PR⟩ := hrel
    by_cases hlt : i < l.length
    · obtain ⟨ad,A3,c3,ea,x0,x1,x2,x3,hl3,hi3⟩ := at_T31 (Kd.C_below HR.out PR.out.old) (i : Int) (by omega) (by omega)
      rw [rd31 l i hlt] at x0 x1 x2 x3 hl3 hi3;simp only [Int.toNat_natCast] at x0 x1 x2 x3;obtain ⟨a,ha⟩ : ∃ a,l[i] = a := ⟨_,rfl⟩
      have WA : Aside0 (ActW a) := ⟨by rw [← ha];exact AW.out _ (List.getElem_mem hlt)⟩
      rw [ha] at x0 x1 x2 x3 hl3 hi3;have HI := Aside0.mk hi3;have HL3 := Aside0.mk hl3;clear ha hi3 hl3;rw [ea]
      go_wp2_with (first | (go_at_call 8;refine (does_any PR.out.st a WA.out HI.out HL3.out).mono ?_;intro e w4 hd;obtain ⟨A5,c5,L5,m5,rfl,hp⟩ := PR.out.does hd;have P5 := Aside0.mk hp;clear hd hp x0 x1 x2 x3) | (go_at_call 9;refine (is_any P5.out.st).mono ?_;rintro e w5 ⟨rfl,hb⟩;have P6 := Aside0.mk (P5.out.below hb);clear hb))
      rw [← ea]
      go_roundg (l.length - (i + 1))
      case measure => omega
      case rel => exact ⟨i + 1,L5,A5,c5,m5,rfl,rfl,by go_num,by omega,Nat.le_refl _,P6⟩
    obtain rfl : i = l.length := by omega
    go_wp2_with (go_at_call 10;refine (awake_any _).mono ?_;rintro e w5 ⟨rfl,hb⟩;have HB5 := Aside0.mk (below_then PR.out.old PR.out.old.size hb);clear hb)
    go_ret;exact ⟨rfl,HB5.out⟩
end Go.Proofs.YtblemmagkehanaaGreat.PA
namespace Go.Proofs.YtblemmagkehanaaGreat.PA
open Go.RowKit Go.Proofs.YtblemmagkehanaaGreatW.PrintWords
set_option linter.unusedVariables false
theorem o3 : Opens Tryz.prog 3 (Kd.int .i64) (fun n => (Lit.int .i64 n).wf = true) := opens_int (by kernel_rfl) Tryz.underlying3
theorem o28 : Opens Tryz.prog 28 Kd.float (fun n => n < 18446744073709551616) := opens_float (by kernel_rfl) Tryz.underlying28
def ok61 (x : S61) : Prop := ((Lit.int .i64 x.f0).wf = true) ∧ ((Lit.int .i64 x.f1).wf = true) ∧ (x.f2 < 18446744073709551616) ∧ (x.f3 < 18446744073709551616) ∧ ((Lit.int .i64 x.f4).wf = true)
theorem o61 : Opens Tryz.prog 61 k61 ok61 := by
  have h := opens_struct (P := Tryz.prog) (t := 61) (f := (fun x : S61 => (x.f0,x.f1,x.f2,x.f3,x.f4))) (mk := fun p => (⟨p.1,p.2.1,p.2.2.1,p.2.2.2.1,p.2.2.2.2⟩ : S61)) (fun _ => rfl) (by kernel_rfl) Tryz.underlying61 (opens_next rfl o3 (opens_next rfl o3 (opens_next rfl o28 (opens_next rfl o28 (opens_last rfl o3)))));exact h
theorem o29 : Opens Tryz.prog 29 (Kd.slice 61 k61) (fun l => l.length * 40 ≤ 140737488351232 ∧ ∀ y ∈ l,ok61 y) := opens_slice 40 (by kernel_rfl) (by kernel_rfl) Tryz.underlying29 o61
def ok31 (x : S31) : Prop := ((Lit.int .i64 x.f0).wf = true) ∧ ((Lit.int .i64 x.f1).wf = true) ∧ (x.f2 < 18446744073709551616) ∧ (x.f3.length * 40 ≤ 140737488351232 ∧ ∀ y ∈ x.f3,ok61 y)
theorem o31 : Opens Tryz.prog 31 k31 ok31 := by
  have h := opens_struct (P := Tryz.prog) (t := 31) (f := (fun x : S31 => (x.f0,x.f1,x.f2,x.f3))) (mk := fun p => (⟨p.1,p.2.1,p.2.2.1,p.2.2.2⟩ : S31)) (fun _ => rfl) (by kernel_rfl) Tryz.underlying31 (opens_next rfl o3 (opens_next rfl o3 (opens_next rfl o28 (opens_last rfl o29))));exact h
theorem o22 : Opens Tryz.prog 22 (Kd.slice 31 k31) (fun l => l.length * 48 ≤ 140737488351232 ∧ ∀ y ∈ l,ok31 y) := opens_slice 48 (by kernel_rfl) (by kernel_rfl) Tryz.underlying22 o31
end Go.Proofs.YtblemmagkehanaaGreat.PA
namespace Go.Proofs.YtblemmagkehanaaGreat.PA
open Go.RowKit Go.Proofs.YtblemmagkehanaaGreatW.PrintWords
set_option linter.unusedVariables false
def beaconlaw13_CachePlays.Pure : Prop := ∀ (l0 : List S31),(l0.length * 48 ≤ 140737488351232 ∧ ∀ y ∈ l0,ok31 y) → beaconlaw13_CachePlays.f l0 = some true
end Go.Proofs.YtblemmagkehanaaGreat.PA
namespace Go.Proofs.YtblemmagkehanaaGreat.PA
open Go.RowKit Go.Proofs.YtblemmagkehanaaGreatW.PrintWords
set_option linter.unusedVariables false
open Classical
theorem acts_ok {l : List S31} (h : l.length * 48 ≤ 140737488351232 ∧ ∀ y ∈ l,ok31 y) : ActsW l := by
  intro a ha;obtain ⟨_,_,h2,h3,h4⟩ := h.2 a ha;exact ⟨h2,fun n hn => ⟨(h4 n hn).2.2.1,(h4 n hn).2.2.2.1⟩,by omega⟩
theorem CachePlays_pure : beaconlaw13_CachePlays.Pure := by
  intro l h;unfold beaconlaw13_CachePlays.f;rw [if_pos (acts_ok h)]
end Go.Proofs.YtblemmagkehanaaGreat.PA
