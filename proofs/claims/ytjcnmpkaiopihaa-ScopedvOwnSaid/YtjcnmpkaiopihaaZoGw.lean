/- What a router may tell: its home and its entries: the program checks them as the document does. Conditions: the floats are words. -/
import Derived.Test.YtjcnmpkaiopihaaZoGu
import Derived.Test.YtjcnmpkaiopihaaZoPAx29
import Derived.Test.YtjcnmpkaiopihaaZoPAx30
import Derived.Test.YtjcnmpkaiopihaaZoPAx32
import Derived.Test.YtjcnmpkaiopihaaZoPAx33
namespace Go.Proofs.Ytjcnmpkaiopihaa.PA
open Go.RowKit Go.Proofs.YtjcnmpkaiopihaaW.PrintWords Go.Proofs.YtjcnmpkaiopihaaW.PrintLast Go.Proofs.YtjcnmpkaiopihaaW.PrintMore
set_option linter.unusedVariables false
set_option linter.unusedSimpArgs false
theorem beaconref16_MayBalls_l0_eq (k : Nat) (x0 : Int) (x1 : List (S58)) (x5 : Int) : beaconref16_MayBalls.l0 (k + 1) x0 x1 x5 = if x5 < (x1.length : Int) then (if 0 ≤ x5 then (if ((rd_T58 x1 x5).f1) = 2 then (beaconref16_MayBalls.j1 k x0 x1 x5 false ((rd_T58 x1 x5).f0) ((rd_T58 x1 x5).f1) ((rd_T58 x1 x5).f2) ((rd_T58 x1 x5).f3) ((rd_T58 x1 x5).f4) ((rd_T58 x1 x5).f5)) else (beaconref16_MayBalls.j1 k x0 x1 x5 (((rd_T58 x1 x5).f1) != 3) ((rd_T58 x1 x5).f0) ((rd_T58 x1 x5).f1) ((rd_T58 x1 x5).f2) ((rd_T58 x1 x5).f3) ((rd_T58 x1 x5).f4) ((rd_T58 x1 x5).f5))) else (none)) else (some true) := by rw [beaconref16_MayBalls.l0]
theorem beaconref16_MayBalls_j1_eq (k : Nat) (x0 : Int) (x1 : List (S58)) (x5 : Int) (x24 : Bool) (x436000 : Int) (x436001 : Int) (x436002 : Nat) (x436003 : Int) (x436004 : Nat) (x436005 : Int) : beaconref16_MayBalls.j1 (k + 1) x0 x1 x5 x24 x436000 x436001 x436002 x436003 x436004 x436005 = if x24 = true then (some false) else (if x5 > 0 then (if 0 ≤ (wrap64 (x5 - 1)) then (if (wrap64 (x5 - 1)) < (x1.length : Int) then ((beaconref16_ahead.f ((rd_T58 x1 (wrap64 (x5 - 1))).f0) ((rd_T58 x1 (wrap64 (x5 - 1))).f1) ((rd_T58 x1 (wrap64 (x5 - 1))).f2) ((rd_T58 x1 (wrap64 (x5 - 1))).f3) ((rd_T58 x1 (wrap64 (x5 - 1))).f4) ((rd_T58 x1 (wrap64 (x5 - 1))).f5) x436000 x436001 x436002 x436003 x436004 x436005).bind fun t437 => (if t437 = true then ((beaconref16_number.f x436000).bind fun t438 => (if t438 = true then (if x436000 = x0 then (beaconref16_MayBalls.j2 k x0 x1 x5 true x436000 x436001 x436002 x436003 x436004 x436005) else ((beaconref16_number.f x436003).bind fun t439 => (beaconref16_MayBalls.j2 k x0 x1 x5 (!t439) x436000 x436001 x436002 x436003 x436004 x436005))) else (beaconref16_MayBalls.j2 k x0 x1 x5 true x436000 x436001 x436002 x436003 x436004 x436005))) else (beaconref16_MayBalls.j2 k x0 x1 x5 true x436000 x436001 x436002 x436003 x436004 x436005))) else (none)) else (none)) else ((beaconref16_number.f x436000).bind fun t440 => (if t440 = true then (if x436000 = x0 then (beaconref16_MayBalls.j2 k x0 x1 x5 true x436000 x436001 x436002 x436003 x436004 x436005) else ((beaconref16_number.f x436003).bind fun t441 => (beaconref16_MayBalls.j2 k x0 x1 x5 (!t441) x436000 x436001 x436002 x436003 x436004 x436005))) else (beaconref16_MayBalls.j2 k x0 x1 x5 true x436000 x436001 x436002 x436003 x436004 x436005)))) := by rw [beaconref16_MayBalls.j1]
theorem beaconref16_MayBalls_j2_eq (k : Nat) (x0 : Int) (x1 : List (S58)) (x5 : Int) (x54 : Bool) (x436000 : Int) (x436001 : Int) (x436002 : Nat) (x436003 : Int) (x436004 : Nat) (x436005 : Int) : beaconref16_MayBalls.j2 (k + 1) x0 x1 x5 x54 x436000 x436001 x436002 x436003 x436004 x436005 = if x54 = true then (some false) else ((beaconref06_Far.f x436002).bind fun t442 => (if t442 = true then ((beaconref16_far.f x436002).bind fun t443 => (if t443 = true then (beaconref16_MayBalls.j3 k x0 x1 x5 true x436000 x436001 x436002 x436003 x436004 x436005) else (if (FloatKind.f64.format.order x436002 0 == some .eq) = true then (beaconref16_MayBalls.j3 k x0 x1 x5 true x436000 x436001 x436002 x436003 x436004 x436005) else ((beaconref06_Far.f x436004).bind fun t444 => (if t444 = true then (beaconref16_MayBalls.j3 k x0 x1 x5 (FloatKind.f64.format.order x436004 x436002 == some .lt) x436000 x436001 x436002 x436003 x436004 x436005) else (beaconref16_MayBalls.j3 k x0 x1 x5 true x436000 x436001 x436002 x436003 x436004 x436005)))))) else (beaconref16_MayBalls.j3 k x0 x1 x5 true x436000 x436001 x436002 x436003 x436004 x436005))) := by rw [beaconref16_MayBalls.j2]
theorem beaconref16_MayBalls_j3_eq (k : Nat) (x0 : Int) (x1 : List (S58)) (x5 : Int) (x81 : Bool) (x436000 : Int) (x436001 : Int) (x436002 : Nat) (x436003 : Int) (x436004 : Nat) (x436005 : Int) : beaconref16_MayBalls.j3 (k + 1) x0 x1 x5 x81 x436000 x436001 x436002 x436003 x436004 x436005 = if x81 = true then (some false) else ((beaconref16_number.f x436005).bind fun t445 => (if t445 = true then (beaconref16_MayBalls.j4 k x0 x1 x5 false x436000 x436001 x436002 x436003 x436004 x436005) else (if x436005 = 0 then ((beaconref16_far.f x436004).bind fun t446 => (beaconref16_MayBalls.j4 k x0 x1 x5 (!t446) x436000 x436001 x436002 x436003 x436004 x436005)) else (beaconref16_MayBalls.j4 k x0 x1 x5 (!false) x436000 x436001 x436002 x436003 x436004 x436005)))) := by rw [beaconref16_MayBalls.j3]
theorem beaconref16_MayBalls_j4_eq (k : Nat) (x0 : Int) (x1 : List (S58)) (x5 : Int) (x96 : Bool) (x436000 : Int) (x436001 : Int) (x436002 : Nat) (x436003 : Int) (x436004 : Nat) (x436005 : Int) : beaconref16_MayBalls.j4 (k + 1) x0 x1 x5 x96 x436000 x436001 x436002 x436003 x436004 x436005 = if x96 = true then (some false) else (if x436005 = 0 then (beaconref16_MayBalls.l0 k x0 x1 (wrap64 (x5 + 1))) else ((beaconref16_far.f x436004).bind fun t447 => (if t447 = true then (some false) else (beaconref16_MayBalls.l0 k x0 x1 (wrap64 (x5 + 1)))))) := by rw [beaconref16_MayBalls.j4]
theorem scopedv_homed_j0_eq (k : Nat) (x0 : Int) (x14 : Bool) (x475000 : Int) (x475001 : Int) (x475002 : Nat) : scopedv_homed.j0 (k + 1) x0 x14 x475000 x475001 x475002 = if x14 = true then (some false) else ((math_IsInf.f x475002 1).bind fun t476 => (if t476 = true then (some (x475001 == 0)) else ((scopedv_number.f x475001).bind fun t477 => (if t477 = true then (some ((FloatKind.f64.format.order x475002 0 == some .eq) == (x475001 == x0))) else (some false))))) := by rw [scopedv_homed.j0]
theorem scopedv_ball_j0_eq (k : Nat) (x30 : Bool) (x479000 : Int) (x479001 : Int) (x479002 : Nat) (x479003 : Int) (x479004 : Nat) (x479005 : Int) : scopedv_ball.j0 (k + 1) x30 x479000 x479001 x479002 x479003 x479004 x479005 = if x30 = true then (some false) else ((scopedv_distance.f k x479002).bind fun t483 => (if t483 = true then (if (FloatKind.f64.format.order x479002 0 == some .eq) = true then (scopedv_ball.j1 k true x479000 x479001 x479002 x479003 x479004 x479005) else ((math_IsInf.f x479002 1).bind fun t484 => (if t484 = true then (scopedv_ball.j1 k true x479000 x479001 x479002 x479003 x479004 x479005) else ((scopedv_distance.f k x479004).bind fun t485 => (if t485 = true then (scopedv_ball.j1 k (FloatKind.f64.format.order x479004 x479002 == some .lt) x479000 x479001 x479002 x479003 x479004 x479005) else (scopedv_ball.j1 k true x479000 x479001 x479002 x479003 x479004 x479005)))))) else (scopedv_ball.j1 k true x479000 x479001 x479002 x479003 x479004 x479005))) := by rw [scopedv_ball.j0]
theorem scopedv_ball_j1_eq (k : Nat) (x57 : Bool) (x479000 : Int) (x479001 : Int) (x479002 : Nat) (x479003 : Int) (x479004 : Nat) (x479005 : Int) : scopedv_ball.j1 (k + 1) x57 x479000 x479001 x479002 x479003 x479004 x479005 = if x57 = true then (some false) else ((math_IsInf.f x479004 1).bind fun t486 => (if t486 = true then (some (x479005 == 0)) else ((scopedv_number.f x479005).bind fun t487 => (some t487)))) := by rw [scopedv_ball.j1]
theorem inf_far {a : Nat} (h : infB a = true) : farB a = true := by
  unfold farB beaconref06_Far.f
  rw [isInf1]
  show ((if infB a = true then _ else _ : Option Bool)).getD false = true
  rw [if_pos h]
  rfl
theorem distance_all (d k : Nat) (h : d < 18446744073709551616) (hk : 9 ≤ k) : scopedv_distance.f k d = some (farB d) := by
  unfold scopedv_distance.f
  rw [chk_all [⟨1,1,d,0,0⟩] (by intro n hn;rw [List.mem_singleton.1 hn];exact ⟨h,by show (0 : Nat) < _;decide⟩) (by simp) k (by simpa using hk),Option.bind_some]
  have e : risFrom [⟨1,1,d,0,0⟩] ([(⟨1,1,d,0,0⟩ : S56)]).length 0 = farB d := by simp [risFrom,okAt,mayB,restB,okId]
  rw [e]
  cases farB d <;> rfl
theorem num16 (i : Int) : beaconref16_number.f i = some (okId i) := by
  unfold beaconref16_number.f
  rw [check_ref,Option.bind_some]
  cases okId i <;> rfl
theorem numS (i : Int) : scopedv_number.f i = some (okId i) := by
  unfold scopedv_number.f
  rw [check_prog,Option.bind_some]
  cases okId i <;> rfl
theorem inf16 (a : Nat) : beaconref16_far.f a = some (infB a) := far_same a
theorem infP (a : Nat) : math_IsInf.f a 1 = some (infB a) := isInf1 a
def zeroB (a : Nat) : Bool := FloatKind.f64.format.order a 0 == some .eq
def lessB (a b : Nat) : Bool := FloatKind.f64.format.order a b == some .lt
def okHome (self id home : Int) (r : Nat) : Bool := (id == self) && (if infB r = true then home == 0 else okId home && (farB r && (zeroB r == (home == self))))
theorem homed_all (self id home : Int) (r k : Nat) (h : r < 18446744073709551616) (hk : 9 ≤ k) : scopedv_homed.f k self id home r = some (okHome self id home r) := by
  obtain ⟨k,rfl⟩ : ∃ q,k = q + 1 := ⟨k - 1,by omega⟩
  unfold scopedv_homed.f okHome
  by_cases hi : id = self
  · rw [if_pos hi,distance_all r _ h hk,Option.bind_some,scopedv_homed_j0_eq,infP,Option.bind_some,numS]
    simp only [hi,beq_self_eq_true,Bool.true_and,Option.bind_some]
    cases hf : infB r
    · cases hr : farB r
      · simp
      cases okId home
      · simp
      simp [zeroB]
    simp [inf_far hf]
  rw [if_neg hi,scopedv_homed_j0_eq,if_pos rfl]
  simp [hi]
theorem mayHome_all (self id home : Int) (r : Nat) : beaconref16_MayHome.f self id home r = some (okHome self id home r) := by
  unfold beaconref16_MayHome.f okHome
  by_cases hi : id = self
  · rw [if_pos hi,inf16,num16,far_ref]
    simp only [Option.bind_some,hi,beq_self_eq_true,Bool.true_and]
    by_cases h0 : home = 0
    · subst h0
      rw [if_pos rfl]
      cases hf : infB r <;> simp [okId]
    rw [if_neg h0]
    have e0 : (home == 0) = false := by simpa using h0
    cases okId home
    · cases infB r <;> simp [e0]
    cases hf : infB r
    · cases farB r <;> simp [zeroB]
    simp [inf_far hf,e0]
  rw [if_neg hi]
  simp [hi]
def okBall (self : Int) (x : S58) : Bool := (x.f1 == 2 || x.f1 == 3) && (okId x.f0 && (!(x.f0 == self) && (okId x.f3 && (farB x.f2 && (!(zeroB x.f2) && (!(infB x.f2) && (farB x.f4 && (!(lessB x.f4 x.f2) && (if infB x.f4 = true then x.f5 == 0 else okId x.f5)))))))))
theorem ball_j1 (k : Nat) (b : Bool) (x : S58) : scopedv_ball.j1 (k + 1) b x.f0 x.f1 x.f2 x.f3 x.f4 x.f5 = some (!b && (if infB x.f4 = true then x.f5 == 0 else okId x.f5)) := by
  rw [scopedv_ball_j1_eq,infP,numS]
  simp only [Option.bind_some]
  cases b
  · cases infB x.f4 <;> simp
  simp
theorem ball_j0 (k : Nat) (b : Bool) (x : S58) (h2 : x.f2 < 18446744073709551616) (h4 : x.f4 < 18446744073709551616) (hk : 10 ≤ k) : scopedv_ball.j0 (k + 1) b x.f0 x.f1 x.f2 x.f3 x.f4 x.f5 = some (!b && (farB x.f2 && (!(zeroB x.f2) && (!(infB x.f2) && (farB x.f4 && (!(lessB x.f4 x.f2) && (if infB x.f4 = true then x.f5 == 0 else okId x.f5))))))) := by
  obtain ⟨k,rfl⟩ : ∃ q,k = q + 1 := ⟨k - 1,by omega⟩
  rw [scopedv_ball_j0_eq,distance_all _ _ h2 (by omega),distance_all _ _ h4 (by omega),infP]
  simp only [Option.bind_some,ball_j1]
  show (if b = true then some false else if farB x.f2 = true then if zeroB x.f2 = true then _ else if infB x.f2 = true then _ else if farB x.f4 = true then some (!(lessB x.f4 x.f2) && _) else _ else _) = _
  cases b
  · cases farB x.f2
    · simp
    cases zeroB x.f2
    · cases infB x.f2
      · cases farB x.f4 <;> simp
      simp
    simp
  simp
theorem ball_all (self : Int) (x : S58) (k : Nat) (h2 : x.f2 < 18446744073709551616) (h4 : x.f4 < 18446744073709551616) (hk : 11 ≤ k) : scopedv_ball.f k self x.f0 x.f1 x.f2 x.f3 x.f4 x.f5 = some (okBall self x) := by
  obtain ⟨k,rfl⟩ : ∃ q,k = q + 1 := ⟨k - 1,by omega⟩
  unfold scopedv_ball.f okBall
  rw [numS,numS]
  simp only [Option.bind_some,ball_j0 _ _ _ h2 h4 (show 10 ≤ k by omega)]
  by_cases h5 : x.f1 = 2
  · rw [if_pos h5]
    cases okId x.f0
    · simp
    by_cases h6 : x.f0 = self
    · simp [h6]
    cases okId x.f3 <;> simp [h5,h6]
  rw [if_neg h5]
  by_cases h7 : x.f1 = 3
  · rw [if_pos h7]
    cases okId x.f0
    · simp
    by_cases h6 : x.f0 = self
    · simp [h6]
    cases okId x.f3 <;> simp [h7,h6]
  rw [if_neg h7]
  simp [h5,h7]
def ballAt (self : Int) (l : List S58) (j : Nat) : Bool := okBall self (l.getD j z58) && (j == 0 || ltE (l.getD (j - 1) z58) (l.getD j z58))
def ballsFrom (self : Int) (l : List S58) : Nat → Nat → Bool
  | 0,_ => true
  | n + 1,i => ballAt self l i && ballsFrom self l n (i + 1)
theorem mb_j4 (k : Nat) (self : Int) (l : List S58) (i : Nat) (b : Bool) (x : S58) (hi : i < 4611686018427387904) : beaconref16_MayBalls.j4 (k + 1) self l (i : Int) b x.f0 x.f1 x.f2 x.f3 x.f4 x.f5 = if (b || (!(x.f5 == 0) && infB x.f4)) = true then some false else beaconref16_MayBalls.l0 k self l ((i + 1 : Nat) : Int) := by
  rw [beaconref16_MayBalls_j4_eq,inf16,next64 _ hi]
  simp only [Option.bind_some]
  cases b
  · by_cases h : x.f5 = 0
    · simp [h]
    cases infB x.f4 <;> simp [h]
  simp
theorem mb_j3 (k : Nat) (self : Int) (l : List S58) (i : Nat) (b : Bool) (x : S58) (hi : i < 4611686018427387904) : beaconref16_MayBalls.j3 (k + 2) self l (i : Int) b x.f0 x.f1 x.f2 x.f3 x.f4 x.f5 = if (b || !(if infB x.f4 = true then x.f5 == 0 else okId x.f5)) = true then some false else beaconref16_MayBalls.l0 k self l ((i + 1 : Nat) : Int) := by
  rw [beaconref16_MayBalls_j3_eq,inf16,num16]
  simp only [Option.bind_some,mb_j4 _ _ _ _ _ _ hi]
  cases b
  · by_cases h : x.f5 = 0
    · cases infB x.f4 <;> simp [h,okId]
    have h0 : (x.f5 == 0) = false := by simpa using h
    cases hok : okId x.f5
    · cases infB x.f4 <;> simp [h,h0]
    cases infB x.f4 <;> simp [h,h0]
  simp
theorem mb_j2 (k : Nat) (self : Int) (l : List S58) (i : Nat) (b : Bool) (x : S58) (hi : i < 4611686018427387904) : beaconref16_MayBalls.j2 (k + 3) self l (i : Int) b x.f0 x.f1 x.f2 x.f3 x.f4 x.f5 = if (b || !(farB x.f2 && (!(zeroB x.f2) && (!(infB x.f2) && (farB x.f4 && (!(lessB x.f4 x.f2) && (if infB x.f4 = true then x.f5 == 0 else okId x.f5))))))) = true then some false else beaconref16_MayBalls.l0 k self l ((i + 1 : Nat) : Int) := by
  rw [beaconref16_MayBalls_j2_eq,inf16,far_ref,far_ref]
  simp only [Option.bind_some,mb_j3 _ _ _ _ _ _ hi]
  show (if b = true then some false else if farB x.f2 = true then if infB x.f2 = true then _ else if zeroB x.f2 = true then _ else if farB x.f4 = true then (if (lessB x.f4 x.f2 || _) = true then _ else _) else _ else _) = _
  cases b
  · cases farB x.f2
    · simp
    cases infB x.f2
    · cases zeroB x.f2
      · cases farB x.f4 <;> simp
      simp
    cases zeroB x.f2 <;> simp
  simp
theorem mb_j1 (k : Nat) (self : Int) (l : List S58) (i : Nat) (b : Bool) (x : S58) (hi : i < 4611686018427387904) (hl : i < l.length) (hx : l.getD i z58 = x) (hb : b = !(x.f1 == 2 || x.f1 == 3)) : beaconref16_MayBalls.j1 (k + 4) self l (i : Int) b x.f0 x.f1 x.f2 x.f3 x.f4 x.f5 = if ballAt self l i = true then beaconref16_MayBalls.l0 k self l ((i + 1 : Nat) : Int) else some false := by
  unfold ballAt okBall
  rw [hx,beaconref16_MayBalls_j1_eq,num16,num16]
  simp only [Option.bind_some,mb_j2 _ _ _ _ _ _ hi]
  have hb2 : (x.f1 == 2 || x.f1 == 3) = !b := by rw [hb,Bool.not_not]
  rw [hb2]
  generalize (farB x.f2 && (!(zeroB x.f2) && (!(infB x.f2) && (farB x.f4 && (!(lessB x.f4 x.f2) && (if infB x.f4 = true then x.f5 == 0 else okId x.f5)))))) = T
  generalize beaconref16_MayBalls.l0 k self l ((i + 1 : Nat) : Int) = R
  cases b
  · by_cases h0 : i = 0
    · subst h0
      rw [if_neg (by decide),if_neg (by simp)]
      cases okId x.f0
      · simp
      by_cases h6 : x.f0 = self
      · simp [h6]
      cases okId x.f3 <;> cases T <;> simp [h6]
    have hb0 : (i == 0) = false := by simpa using h0
    rw [if_neg (by decide),if_pos (by omega),prev64 _ (by omega) hi,if_pos (by omega),if_pos (by omega),rde,ahead16_is,Option.bind_some,hb0]
    cases ltE (l.getD (i - 1) z58) x
    · simp
    cases okId x.f0
    · simp
    by_cases h6 : x.f0 = self
    · simp [h6]
    cases okId x.f3 <;> cases T <;> simp [h6]
  simp
theorem mb_l0 (self : Int) (l : List S58) (hl : l.length < 4611686018427387904) : ∀ (n i k : Nat),i + n = l.length → 5 * n + 1 ≤ k → beaconref16_MayBalls.l0 k self l (i : Int) = some (ballsFrom self l n i)
  | 0,i,k + 1,e,hk => by
    rw [beaconref16_MayBalls_l0_eq,if_neg (by omega)]
    rfl
  | n + 1,i,k + 5,e,hk => by
    have ih := mb_l0 self l hl n (i + 1) k (by omega) (by omega)
    obtain ⟨x,hx⟩ : ∃ x,l.getD i z58 = x := ⟨_,rfl⟩
    rw [beaconref16_MayBalls_l0_eq,if_pos (by omega),if_pos (by omega),rde,hx]
    by_cases h2 : x.f1 = 2
    · rw [if_pos h2,mb_j1 k self l i false x (by omega) (by omega) hx (by simp [h2]),ih]
      simp only [ballsFrom]
      cases ballAt self l i <;> rfl
    rw [if_neg h2,mb_j1 k self l i (x.f1 != 3) x (by omega) (by omega) hx (by simp [h2,bne]),ih]
    simp only [ballsFrom]
    cases ballAt self l i <;> rfl
theorem mayBalls_all (self : Int) (l : List S58) (hl : l.length < 4611686018427387904) (k : Nat) (hk : 5 * l.length + 1 ≤ k) : beaconref16_MayBalls.f k self l = some (ballsFrom self l l.length 0) := mb_l0 self l hl l.length 0 k (by omega) hk
end Go.Proofs.Ytjcnmpkaiopihaa.PA
