/- ScopedvOwn, of numbers and lists alone. No condition. -/
import Derived.Test.YtjcnmpkaiopihaaZoGz
import Derived.Test.YtjcnmpkaiopihaaZoStScopedvOwn
namespace Go.Proofs.Ytjcnmpkaiopihaa.PA
open Go.RowKit Go.Proofs.YtjcnmpkaiopihaaW.PrintWords
set_option linter.unusedVariables false
theorem own_l : lE 4647714815446351872 = 0 := by decide
theorem ScopedvOwn_pure : beaconlaw16_ScopedvOwn.Pure := by
  intro self l id home r hs hl hi hh hr
  have hW := heardW_of hl.2
  have hll : l.length < 2305843009213693952 := by have := hl.1;omega
  obtain ⟨L,e,hV⟩ : ∃ L e,ballsV self l 4647714815446351872 = (L,e) := ⟨_,_,rfl⟩
  have hlen := ballsV_len self l 4647714815446351872 hW
  rw [hV] at hlen
  have hlen : L.length ≤ 2147483647 := hlen
  refine ⟨5 * L.length + 30,?_⟩
  unfold beaconlaw16_ScopedvOwn.f
  rw [scopedv_Balls.is self l _ hW hll (by decide),Option.bind_some,hV]
  have yes : ∀ (k : Nat) (M : List S58),beaconlaw16_ScopedvOwn.j0 (k + 1) self M true id home r = some true := fun k M => by
    rw [beaconlaw16_ScopedvOwn.j0,if_pos rfl,awake16,Option.bind_some]
  show (if e = 0 then _ else _) = _
  by_cases he : e = 0
  rotate_left
  · rw [if_neg he]
    exact yes _ _
  rw [if_pos he,mayHome_all,Option.bind_some]
  cases ho : okHome self id home r
  · exact yes _ _
  have hck : ckE self l = 0 := by
    unfold ballsV at hV
    by_cases h7 : ckE self l = 0
    · exact h7
    rw [if_neg h7] at hV
    exact ((Prod.mk.inj hV).2.trans he)
  have hL : sortE (allB self 4647714815446351872 l) = L := by
    unfold ballsV at hV
    rw [if_pos hck,if_pos own_l] at hV
    exact (Prod.mk.inj hV).1
  obtain ⟨hb,hE⟩ := balls_told hW hck
  rw [hL] at hb hE
  have hid := (fullH_of hW hck).1
  have hT : scopedv_Tell.f self id home r L = some (sortN (newsTo self home r L L.length),0) := by
    rw [scopedv_Tell.is self id home r L hE (by omega) hr]
    unfold tellV
    rw [if_pos hid,if_pos ⟨ho,hb⟩]
  have hN : (sortN (newsTo self home r L L.length)).length ≤ L.length + 1 := by
    rw [sortN_len]
    exact newsTo_len _ _ _ _ _
  show beaconlaw16_ScopedvOwn.j0 (5 * L.length + 29 + 1) self L false id home r = _
  rw [beaconlaw16_ScopedvOwn.j0,if_neg (by decide),mayBalls_all self L (by omega) _ (by omega),Option.bind_some,hb,if_pos rfl,hT,Option.bind_some]
  show (if (0 : Int) = 0 then _ else _) = _
  have hR : beaconref14_List.f (5 * L.length + 29) (sortN (newsTo self home r L L.length)) = some (listB (sortN (newsTo self home r L L.length))) := ref_list _ (by omega) _ (by omega)
  rw [if_pos rfl,hR,Option.bind_some,tell_list hid ho hb,if_pos rfl,awake16,Option.bind_some]
end Go.Proofs.Ytjcnmpkaiopihaa.PA
