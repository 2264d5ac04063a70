/- Printed by a program of this session (wip/tools/patch_print.py and pr.py, over the kit's print): each Go function as a plain Lean function, and that the Go code comes to just its answers. Conditions: those that each theorem names. -/
import Derived.Test.YtlpmblcdafdfdaaYpPAx0
import Derived.Test.YtlpmblcdafdfdaaYyPAx7
import Derived.Test.YtlpmblcdafdfdaaYpPAx8
namespace Go.Proofs.Ytlpmblcdafdfdaa.PA
open Go.RowKit Go.Proofs.YtlpmblcdafdfdaaW.PrintWords Go.Proofs.YtlpmblcdafdfdaaW.PrintLast Go.Proofs.YtlpmblcdafdfdaaW.PrintMore
attribute [local go_sem] max2_int min2_int max_two min_two max_three min_three max_four min_four
set_option linter.unusedVariables false
set_option linter.unusedSimpArgs false
mutual
def beaconref06_MayPacket.j0:Nat → Bool → Int → Int → Int → Int → Int → Int → Int → Int → ByteArray → Int → Int → ByteArray → Option (Bool)
 | 0,_,_,_,_,_,_,_,_,_,_,_,_,_ => none
 | k + 1,x46,x157000,x157001,x157002,x157003,x157004,x157005,x157006,x157007,x157008,x157009,x157010,x157011 => if x46 = true then (some false) else ((beaconref06_number.f x157009).bind fun t162 => (if t162 = true then (if x157010 = 0 then (beaconref06_MayPacket.j1 k true x157000 x157001 x157002 x157003 x157004 x157005 x157006 x157007 x157008 x157009 x157010 x157011) else ((beaconref06_number.f x157010).bind fun t163 => (beaconref06_MayPacket.j1 k t163 x157000 x157001 x157002 x157003 x157004 x157005 x157006 x157007 x157008 x157009 x157010 x157011))) else (beaconref06_MayPacket.j1 k false x157000 x157001 x157002 x157003 x157004 x157005 x157006 x157007 x157008 x157009 x157010 x157011)))
def beaconref06_MayPacket.j1:Nat → Bool → Int → Int → Int → Int → Int → Int → Int → Int → ByteArray → Int → Int → ByteArray → Option (Bool)
 | 0,_,_,_,_,_,_,_,_,_,_,_,_,_ => none
 | k + 1,x3,x157000,x157001,x157002,x157003,x157004,x157005,x157006,x157007,x157008,x157009,x157010,x157011 => if x157009 = 0 then (beaconref06_MayPacket.j2 k x3 (x157010 == 0) x157000 x157001 x157002 x157003 x157004 x157005 x157006 x157007 x157008 x157009 x157010 x157011) else (beaconref06_MayPacket.j2 k x3 false x157000 x157001 x157002 x157003 x157004 x157005 x157006 x157007 x157008 x157009 x157010 x157011)
def beaconref06_MayPacket.j2:Nat → Bool → Bool → Int → Int → Int → Int → Int → Int → Int → Int → ByteArray → Int → Int → ByteArray → Option (Bool)
 | 0,_,_,_,_,_,_,_,_,_,_,_,_,_,_ => none
 | k + 1,x3,x4,x157000,x157001,x157002,x157003,x157004,x157005,x157006,x157007,x157008,x157009,x157010,x157011 => if x157000 = 1 then (if x157007 = 0 then (if x157008.toList = ([]:List UInt8) then (if x4 = true then (some (decide ((x157011.size:Int) ≤ 1024))) else (some false)) else (some false)) else (some false)) else (if x157000 = 2 then (if x157007 = 0 then ((beaconref06_name.f k x157008).bind fun t164 => (if t164 = true then (if x3 = true then (some (x157011.toList == ([]:List UInt8))) else (some false)) else (some false))) else (some false)) else (if x157000 = 3 then (if x157007 = 0 then ((beaconref06_name.f k x157008).bind fun t165 => (if t165 = true then (if x4 = true then (some (x157011.toList == ([]:List UInt8))) else (some false)) else (some false))) else (some false)) else (if x157000 = 4 then ((beaconref06_name.f k x157008).bind fun t166 => (if t166 = true then (if x157011.toList = ([]:List UInt8) then (if x157007 = 0 then (if x3 = true then (some true) else (if x157007 = 1 then (some x4) else (some false))) else (if x157007 = 1 then (some x4) else (some false))) else (some false)) else (some false))) else (some false))))
end
def beaconref06_MayPacket.f (k:Nat) (a0_0:Int) (a0_1:Int) (a0_2:Int) (a0_3:Int) (a0_4:Int) (a0_5:Int) (a0_6:Int) (a0_7:Int) (a0_8:ByteArray) (a0_9:Int) (a0_10:Int) (a0_11:ByteArray):Option (Bool):=(beaconref06_number.f a0_1).bind fun t157 => (if t157 = true then ((beaconref06_number.f a0_3).bind fun t158 => (if t158 = true then (if a0_2 = 0 then (if a0_4 = 0 then (if a0_5 < 0 then (beaconref06_MayPacket.j0 k true a0_0 a0_1 a0_2 a0_3 a0_4 a0_5 a0_6 a0_7 a0_8 a0_9 a0_10 a0_11) else (beaconref06_MayPacket.j0 k (decide (a0_5 > 65536)) a0_0 a0_1 a0_2 a0_3 a0_4 a0_5 a0_6 a0_7 a0_8 a0_9 a0_10 a0_11)) else ((beaconref06_number.f a0_4).bind fun t159 => (if t159 = true then (if a0_5 < 0 then (beaconref06_MayPacket.j0 k true a0_0 a0_1 a0_2 a0_3 a0_4 a0_5 a0_6 a0_7 a0_8 a0_9 a0_10 a0_11) else (beaconref06_MayPacket.j0 k (decide (a0_5 > 65536)) a0_0 a0_1 a0_2 a0_3 a0_4 a0_5 a0_6 a0_7 a0_8 a0_9 a0_10 a0_11)) else (beaconref06_MayPacket.j0 k true a0_0 a0_1 a0_2 a0_3 a0_4 a0_5 a0_6 a0_7 a0_8 a0_9 a0_10 a0_11)))) else ((beaconref06_number.f a0_2).bind fun t160 => (if t160 = true then (if a0_4 = 0 then (if a0_5 < 0 then (beaconref06_MayPacket.j0 k true a0_0 a0_1 a0_2 a0_3 a0_4 a0_5 a0_6 a0_7 a0_8 a0_9 a0_10 a0_11) else (beaconref06_MayPacket.j0 k (decide (a0_5 > 65536)) a0_0 a0_1 a0_2 a0_3 a0_4 a0_5 a0_6 a0_7 a0_8 a0_9 a0_10 a0_11)) else ((beaconref06_number.f a0_4).bind fun t161 => (if t161 = true then (if a0_5 < 0 then (beaconref06_MayPacket.j0 k true a0_0 a0_1 a0_2 a0_3 a0_4 a0_5 a0_6 a0_7 a0_8 a0_9 a0_10 a0_11) else (beaconref06_MayPacket.j0 k (decide (a0_5 > 65536)) a0_0 a0_1 a0_2 a0_3 a0_4 a0_5 a0_6 a0_7 a0_8 a0_9 a0_10 a0_11)) else (beaconref06_MayPacket.j0 k true a0_0 a0_1 a0_2 a0_3 a0_4 a0_5 a0_6 a0_7 a0_8 a0_9 a0_10 a0_11)))) else (beaconref06_MayPacket.j0 k true a0_0 a0_1 a0_2 a0_3 a0_4 a0_5 a0_6 a0_7 a0_8 a0_9 a0_10 a0_11)))) else (beaconref06_MayPacket.j0 k true a0_0 a0_1 a0_2 a0_3 a0_4 a0_5 a0_6 a0_7 a0_8 a0_9 a0_10 a0_11))) else (beaconref06_MayPacket.j0 k true a0_0 a0_1 a0_2 a0_3 a0_4 a0_5 a0_6 a0_7 a0_8 a0_9 a0_10 a0_11))
set_option maxHeartbeats 8000000 in
set_option maxRecDepth 100000 in
theorem beaconref06_MayPacket.calls (k:Nat) (a0_0:Int) (a0_1:Int) (a0_2:Int) (a0_3:Int) (a0_4:Int) (a0_5:Int) (a0_6:Int) (a0_7:Int) (a0_8:ByteArray) (a0_9:Int) (a0_10:Int) (a0_11:ByteArray) (r:Bool) (w:World) (h:beaconref06_MayPacket.f k a0_0 a0_1 a0_2 a0_3 a0_4 a0_5 a0_6 a0_7 a0_8 a0_9 a0_10 a0_11 = some r) :
  Calls Try.prog 44 #[.agg #[.int .i64 a0_0,.int .i64 a0_1,.int .i64 a0_2,.int .i64 a0_3,.int .i64 a0_4,.int .i64 a0_5,.int .u64 a0_6,.int .i64 a0_7,.string a0_8,.int .i64 a0_9,.int .i64 a0_10,.string a0_11]] w fun e w' => e = .returned (.bool r) ∧ Below w.heap.size w w':=by
 have hu30:=Try.underlying30
 have HB:=Aside0.mk (Below.refl w.heap.size w)
 have H:((beaconref06_number.f a0_1).bind fun t157 => (if t157 = true then ((beaconref06_number.f a0_3).bind fun t158 => (if t158 = true then (if a0_2 = 0 then (if a0_4 = 0 then (if a0_5 < 0 then (beaconref06_MayPacket.j0 k true a0_0 a0_1 a0_2 a0_3 a0_4 a0_5 a0_6 a0_7 a0_8 a0_9 a0_10 a0_11) else (beaconref06_MayPacket.j0 k (decide (a0_5 > 65536)) a0_0 a0_1 a0_2 a0_3 a0_4 a0_5 a0_6 a0_7 a0_8 a0_9 a0_10 a0_11)) else ((beaconref06_number.f a0_4).bind fun t159 => (if t159 = true then (if a0_5 < 0 then (beaconref06_MayPacket.j0 k true a0_0 a0_1 a0_2 a0_3 a0_4 a0_5 a0_6 a0_7 a0_8 a0_9 a0_10 a0_11) else (beaconref06_MayPacket.j0 k (decide (a0_5 > 65536)) a0_0 a0_1 a0_2 a0_3 a0_4 a0_5 a0_6 a0_7 a0_8 a0_9 a0_10 a0_11)) else (beaconref06_MayPacket.j0 k true a0_0 a0_1 a0_2 a0_3 a0_4 a0_5 a0_6 a0_7 a0_8 a0_9 a0_10 a0_11)))) else ((beaconref06_number.f a0_2).bind fun t160 => (if t160 = true then (if a0_4 = 0 then (if a0_5 < 0 then (beaconref06_MayPacket.j0 k true a0_0 a0_1 a0_2 a0_3 a0_4 a0_5 a0_6 a0_7 a0_8 a0_9 a0_10 a0_11) else (beaconref06_MayPacket.j0 k (decide (a0_5 > 65536)) a0_0 a0_1 a0_2 a0_3 a0_4 a0_5 a0_6 a0_7 a0_8 a0_9 a0_10 a0_11)) else ((beaconref06_number.f a0_4).bind fun t161 => (if t161 = true then (if a0_5 < 0 then (beaconref06_MayPacket.j0 k true a0_0 a0_1 a0_2 a0_3 a0_4 a0_5 a0_6 a0_7 a0_8 a0_9 a0_10 a0_11) else (beaconref06_MayPacket.j0 k (decide (a0_5 > 65536)) a0_0 a0_1 a0_2 a0_3 a0_4 a0_5 a0_6 a0_7 a0_8 a0_9 a0_10 a0_11)) else (beaconref06_MayPacket.j0 k true a0_0 a0_1 a0_2 a0_3 a0_4 a0_5 a0_6 a0_7 a0_8 a0_9 a0_10 a0_11)))) else (beaconref06_MayPacket.j0 k true a0_0 a0_1 a0_2 a0_3 a0_4 a0_5 a0_6 a0_7 a0_8 a0_9 a0_10 a0_11)))) else (beaconref06_MayPacket.j0 k true a0_0 a0_1 a0_2 a0_3 a0_4 a0_5 a0_6 a0_7 a0_8 a0_9 a0_10 a0_11))) else (beaconref06_MayPacket.j0 k true a0_0 a0_1 a0_2 a0_3 a0_4 a0_5 a0_6 a0_7 a0_8 a0_9 a0_10 a0_11))) = some r:=h
 clear h
 have HC2:=Aside0.mk H
 clear H
 go_enter Try.func44,Try.ntmps44
 go_upto_region 1 with (first | ((with_reducible refine gate_dst (N:=1) rfl ?_);(try (refine gate_guard (by rfl) ?_;dsimp only));refine box_event ?hg (N:=1) ?hd (cs:=#[.int .i64 a0_0,.int .i64 a0_1,.int .i64 a0_2,.int .i64 a0_3,.int .i64 a0_4,.int .i64 a0_5,.int .u64 a0_6,.int .i64 a0_7,.string a0_8,.int .i64 a0_9,.int .i64 a0_10,.string a0_11]) (t:=30) ?hr ?_;(case hd => rfl);(case hg => rfl);(case hr => first | (go_simp;done) | (go_simp;rfl));intro gb156 hg w3 hbox hb;have n0_:=Aside0.mk (below_step (by repeat (first | (with_reducible first | exact HB.out | apply below_alloc | apply pw_below_drewN | apply below_drew1) | exact HB.out)) hb);have n1_:=Aside0.mk (hbox);have n2_:=Aside0.mk ((by rw [hg];exact (below_size (by repeat (first | (with_reducible first | exact HB.out | apply below_alloc | apply pw_below_drewN | apply below_drew1) | exact HB.out))):w.heap.size ≤ gb156));have n3_:=Aside0.mk ((by rw [hg];exact (below_size (by repeat (first | (with_reducible first | exact HB.out | apply below_alloc | apply pw_below_drewN | apply below_drew1) | exact HB.out))):w.heap.size ≤ gb156));clear HB;have HB:=n0_;have BK156:=n1_;have GW156:=n2_;have GE156:=n3_;clear n0_ n1_ n2_ n3_;clear hb hbox hg))
 (try simp only [Act.put,List.setIfInBounds_toArray,List.set_cons_zero,List.set_cons_succ])
 go_cut [46] (fun v46 wc => ∃ (kq:Nat) (x46_1:Bool),v46 = .bool x46_1 ∧ Aside0 (beaconref06_MayPacket.j0 kq x46_1 a0_0 a0_1 a0_2 a0_3 a0_4 a0_5 a0_6 a0_7 a0_8 a0_9 a0_10 a0_11 = some r) ∧ Aside0 (kq ≤ k) ∧ Aside0 (wc.heap[gb156]? = some (.cells #[.int .i64 a0_0,.int .i64 a0_1,.int .i64 a0_2,.int .i64 a0_3,.int .i64 a0_4,.int .i64 a0_5,.int .u64 a0_6,.int .i64 a0_7,.string a0_8,.int .i64 a0_9,.int .i64 a0_10,.string a0_11] 30 (0,0))) ∧ Aside0 (Below w.heap.size w wc))
 case first =>
  have H:=HC2.out
  clear HC2
  replace H:=Option.bind_eq_some_iff.mp H
  obtain ⟨t157,A40,H⟩:=H
  replace H:(if t157 = true then ((beaconref06_number.f a0_3).bind fun t158 => (if t158 = true then (if a0_2 = 0 then (if a0_4 = 0 then (if a0_5 < 0 then (beaconref06_MayPacket.j0 k true a0_0 a0_1 a0_2 a0_3 a0_4 a0_5 a0_6 a0_7 a0_8 a0_9 a0_10 a0_11) else (beaconref06_MayPacket.j0 k (decide (a0_5 > 65536)) a0_0 a0_1 a0_2 a0_3 a0_4 a0_5 a0_6 a0_7 a0_8 a0_9 a0_10 a0_11)) else ((beaconref06_number.f a0_4).bind fun t159 => (if t159 = true then (if a0_5 < 0 then (beaconref06_MayPacket.j0 k true a0_0 a0_1 a0_2 a0_3 a0_4 a0_5 a0_6 a0_7 a0_8 a0_9 a0_10 a0_11) else (beaconref06_MayPacket.j0 k (decide (a0_5 > 65536)) a0_0 a0_1 a0_2 a0_3 a0_4 a0_5 a0_6 a0_7 a0_8 a0_9 a0_10 a0_11)) else (beaconref06_MayPacket.j0 k true a0_0 a0_1 a0_2 a0_3 a0_4 a0_5 a0_6 a0_7 a0_8 a0_9 a0_10 a0_11)))) else ((beaconref06_number.f a0_2).bind fun t160 => (if t160 = true then (if a0_4 = 0 then (if a0_5 < 0 then (beaconref06_MayPacket.j0 k true a0_0 a0_1 a0_2 a0_3 a0_4 a0_5 a0_6 a0_7 a0_8 a0_9 a0_10 a0_11) else (beaconref06_MayPacket.j0 k (decide (a0_5 > 65536)) a0_0 a0_1 a0_2 a0_3 a0_4 a0_5 a0_6 a0_7 a0_8 a0_9 a0_10 a0_11)) else ((beaconref06_number.f a0_4).bind fun t161 => (if t161 = true then (if a0_5 < 0 then (beaconref06_MayPacket.j0 k true a0_0 a0_1 a0_2 a0_3 a0_4 a0_5 a0_6 a0_7 a0_8 a0_9 a0_10 a0_11) else (beaconref06_MayPacket.j0 k (decide (a0_5 > 65536)) a0_0 a0_1 a0_2 a0_3 a0_4 a0_5 a0_6 a0_7 a0_8 a0_9 a0_10 a0_11)) else (beaconref06_MayPacket.j0 k true a0_0 a0_1 a0_2 a0_3 a0_4 a0_5 a0_6 a0_7 a0_8 a0_9 a0_10 a0_11)))) else (beaconref06_MayPacket.j0 k true a0_0 a0_1 a0_2 a0_3 a0_4 a0_5 a0_6 a0_7 a0_8 a0_9 a0_10 a0_11)))) else (beaconref06_MayPacket.j0 k true a0_0 a0_1 a0_2 a0_3 a0_4 a0_5 a0_6 a0_7 a0_8 a0_9 a0_10 a0_11))) else (beaconref06_MayPacket.j0 k true a0_0 a0_1 a0_2 a0_3 a0_4 a0_5 a0_6 a0_7 a0_8 a0_9 a0_10 a0_11)) = some r:=H
  have A4:=Aside0.mk A40
  clear A40
  by_cases c5:t157 = true
  ·subst c5
   have H1:((beaconref06_number.f a0_3).bind fun t158 => (if t158 = true then (if a0_2 = 0 then (if a0_4 = 0 then (if a0_5 < 0 then (beaconref06_MayPacket.j0 k true a0_0 a0_1 a0_2 a0_3 a0_4 a0_5 a0_6 a0_7 a0_8 a0_9 a0_10 a0_11) else (beaconref06_MayPacket.j0 k (decide (a0_5 > 65536)) a0_0 a0_1 a0_2 a0_3 a0_4 a0_5 a0_6 a0_7 a0_8 a0_9 a0_10 a0_11)) else ((beaconref06_number.f a0_4).bind fun t159 => (if t159 = true then (if a0_5 < 0 then (beaconref06_MayPacket.j0 k true a0_0 a0_1 a0_2 a0_3 a0_4 a0_5 a0_6 a0_7 a0_8 a0_9 a0_10 a0_11) else (beaconref06_MayPacket.j0 k (decide (a0_5 > 65536)) a0_0 a0_1 a0_2 a0_3 a0_4 a0_5 a0_6 a0_7 a0_8 a0_9 a0_10 a0_11)) else (beaconref06_MayPacket.j0 k true a0_0 a0_1 a0_2 a0_3 a0_4 a0_5 a0_6 a0_7 a0_8 a0_9 a0_10 a0_11)))) else ((beaconref06_number.f a0_2).bind fun t160 => (if t160 = true then (if a0_4 = 0 then (if a0_5 < 0 then (beaconref06_MayPacket.j0 k true a0_0 a0_1 a0_2 a0_3 a0_4 a0_5 a0_6 a0_7 a0_8 a0_9 a0_10 a0_11) else (beaconref06_MayPacket.j0 k (decide (a0_5 > 65536)) a0_0 a0_1 a0_2 a0_3 a0_4 a0_5 a0_6 a0_7 a0_8 a0_9 a0_10 a0_11)) else ((beaconref06_number.f a0_4).bind fun t161 => (if t161 = true then (if a0_5 < 0 then (beaconref06_MayPacket.j0 k true a0_0 a0_1 a0_2 a0_3 a0_4 a0_5 a0_6 a0_7 a0_8 a0_9 a0_10 a0_11) else (beaconref06_MayPacket.j0 k (decide (a0_5 > 65536)) a0_0 a0_1 a0_2 a0_3 a0_4 a0_5 a0_6 a0_7 a0_8 a0_9 a0_10 a0_11)) else (beaconref06_MayPacket.j0 k true a0_0 a0_1 a0_2 a0_3 a0_4 a0_5 a0_6 a0_7 a0_8 a0_9 a0_10 a0_11)))) else (beaconref06_MayPacket.j0 k true a0_0 a0_1 a0_2 a0_3 a0_4 a0_5 a0_6 a0_7 a0_8 a0_9 a0_10 a0_11)))) else (beaconref06_MayPacket.j0 k true a0_0 a0_1 a0_2 a0_3 a0_4 a0_5 a0_6 a0_7 a0_8 a0_9 a0_10 a0_11))) = some r:=by rw [if_pos rfl] at H;exact H
   clear H
   have H:=H1
   clear H1
   replace H:=Option.bind_eq_some_iff.mp H
   obtain ⟨t158,A60,H⟩:=H
   replace H:(if t158 = true then (if a0_2 = 0 then (if a0_4 = 0 then (if a0_5 < 0 then (beaconref06_MayPacket.j0 k true a0_0 a0_1 a0_2 a0_3 a0_4 a0_5 a0_6 a0_7 a0_8 a0_9 a0_10 a0_11) else (beaconref06_MayPacket.j0 k (decide (a0_5 > 65536)) a0_0 a0_1 a0_2 a0_3 a0_4 a0_5 a0_6 a0_7 a0_8 a0_9 a0_10 a0_11)) else ((beaconref06_number.f a0_4).bind fun t159 => (if t159 = true then (if a0_5 < 0 then (beaconref06_MayPacket.j0 k true a0_0 a0_1 a0_2 a0_3 a0_4 a0_5 a0_6 a0_7 a0_8 a0_9 a0_10 a0_11) else (beaconref06_MayPacket.j0 k (decide (a0_5 > 65536)) a0_0 a0_1 a0_2 a0_3 a0_4 a0_5 a0_6 a0_7 a0_8 a0_9 a0_10 a0_11)) else (beaconref06_MayPacket.j0 k true a0_0 a0_1 a0_2 a0_3 a0_4 a0_5 a0_6 a0_7 a0_8 a0_9 a0_10 a0_11)))) else ((beaconref06_number.f a0_2).bind fun t160 => (if t160 = true then (if a0_4 = 0 then (if a0_5 < 0 then (beaconref06_MayPacket.j0 k true a0_0 a0_1 a0_2 a0_3 a0_4 a0_5 a0_6 a0_7 a0_8 a0_9 a0_10 a0_11) else (beaconref06_MayPacket.j0 k (decide (a0_5 > 65536)) a0_0 a0_1 a0_2 a0_3 a0_4 a0_5 a0_6 a0_7 a0_8 a0_9 a0_10 a0_11)) else ((beaconref06_number.f a0_4).bind fun t161 => (if t161 = true then (if a0_5 < 0 then (beaconref06_MayPacket.j0 k true a0_0 a0_1 a0_2 a0_3 a0_4 a0_5 a0_6 a0_7 a0_8 a0_9 a0_10 a0_11) else (beaconref06_MayPacket.j0 k (decide (a0_5 > 65536)) a0_0 a0_1 a0_2 a0_3 a0_4 a0_5 a0_6 a0_7 a0_8 a0_9 a0_10 a0_11)) else (beaconref06_MayPacket.j0 k true a0_0 a0_1 a0_2 a0_3 a0_4 a0_5 a0_6 a0_7 a0_8 a0_9 a0_10 a0_11)))) else (beaconref06_MayPacket.j0 k true a0_0 a0_1 a0_2 a0_3 a0_4 a0_5 a0_6 a0_7 a0_8 a0_9 a0_10 a0_11)))) else (beaconref06_MayPacket.j0 k true a0_0 a0_1 a0_2 a0_3 a0_4 a0_5 a0_6 a0_7 a0_8 a0_9 a0_10 a0_11)) = some r:=H
   have A6:=Aside0.mk A60
   clear A60
   by_cases c7:t158 = true
   ·subst c7
    have H1:(if a0_2 = 0 then (if a0_4 = 0 then (if a0_5 < 0 then (beaconref06_MayPacket.j0 k true a0_0 a0_1 a0_2 a0_3 a0_4 a0_5 a0_6 a0_7 a0_8 a0_9 a0_10 a0_11) else (beaconref06_MayPacket.j0 k (decide (a0_5 > 65536)) a0_0 a0_1 a0_2 a0_3 a0_4 a0_5 a0_6 a0_7 a0_8 a0_9 a0_10 a0_11)) else ((beaconref06_number.f a0_4).bind fun t159 => (if t159 = true then (if a0_5 < 0 then (beaconref06_MayPacket.j0 k true a0_0 a0_1 a0_2 a0_3 a0_4 a0_5 a0_6 a0_7 a0_8 a0_9 a0_10 a0_11) else (beaconref06_MayPacket.j0 k (decide (a0_5 > 65536)) a0_0 a0_1 a0_2 a0_3 a0_4 a0_5 a0_6 a0_7 a0_8 a0_9 a0_10 a0_11)) else (beaconref06_MayPacket.j0 k true a0_0 a0_1 a0_2 a0_3 a0_4 a0_5 a0_6 a0_7 a0_8 a0_9 a0_10 a0_11)))) else ((beaconref06_number.f a0_2).bind fun t160 => (if t160 = true then (if a0_4 = 0 then (if a0_5 < 0 then (beaconref06_MayPacket.j0 k true a0_0 a0_1 a0_2 a0_3 a0_4 a0_5 a0_6 a0_7 a0_8 a0_9 a0_10 a0_11) else (beaconref06_MayPacket.j0 k (decide (a0_5 > 65536)) a0_0 a0_1 a0_2 a0_3 a0_4 a0_5 a0_6 a0_7 a0_8 a0_9 a0_10 a0_11)) else ((beaconref06_number.f a0_4).bind fun t161 => (if t161 = true then (if a0_5 < 0 then (beaconref06_MayPacket.j0 k true a0_0 a0_1 a0_2 a0_3 a0_4 a0_5 a0_6 a0_7 a0_8 a0_9 a0_10 a0_11) else (beaconref06_MayPacket.j0 k (decide (a0_5 > 65536)) a0_0 a0_1 a0_2 a0_3 a0_4 a0_5 a0_6 a0_7 a0_8 a0_9 a0_10 a0_11)) else (beaconref06_MayPacket.j0 k true a0_0 a0_1 a0_2 a0_3 a0_4 a0_5 a0_6 a0_7 a0_8 a0_9 a0_10 a0_11)))) else (beaconref06_MayPacket.j0 k true a0_0 a0_1 a0_2 a0_3 a0_4 a0_5 a0_6 a0_7 a0_8 a0_9 a0_10 a0_11)))) = some r:=by rw [if_pos rfl] at H;exact H
    clear H
    have H:=H1
    clear H1
    by_cases c8:a0_2 = 0
    ·rw [if_pos c8] at H
     have c8b0:(a0_2 == 0) = true:=beq_iff_eq.mpr c8
     have c8b1:(a0_2 != 0) = false:=bne_eq_false_iff_eq.mpr c8
     clear c8
     (first | rw [c8b0] | (simp only [i64_w,i32_w];rw [c8b0]) | skip)
     by_cases c9:a0_4 = 0
     ·rw [if_pos c9] at H
      have c9b0:(a0_4 == 0) = true:=beq_iff_eq.mpr c9
      have c9b1:(a0_4 != 0) = false:=bne_eq_false_iff_eq.mpr c9
      clear c9
      by_cases c10:a0_5 < 0
      ·rw [if_pos c10] at H
       have c10b0:decide (a0_5 < 0) = true:=decide_eq_true c10
       clear c10
       have H':=Aside0.mk H
       clear H
       have hcz11_0:w3.cell? ⟨gb156,0,none⟩ = some (.int .i64 a0_0):=(blk_cell BK156.out 0).trans rfl
       have hcz11_1:w3.cell? ⟨gb156,1,none⟩ = some (.int .i64 a0_1):=(blk_cell BK156.out 1).trans rfl
       have hcz11_2:w3.cell? ⟨gb156,2,none⟩ = some (.int .i64 a0_2):=(blk_cell BK156.out 2).trans rfl
       have hcz11_3:w3.cell? ⟨gb156,3,none⟩ = some (.int .i64 a0_3):=(blk_cell BK156.out 3).trans rfl
       have hcz11_4:w3.cell? ⟨gb156,4,none⟩ = some (.int .i64 a0_4):=(blk_cell BK156.out 4).trans rfl
       have hcz11_5:w3.cell? ⟨gb156,5,none⟩ = some (.int .i64 a0_5):=(blk_cell BK156.out 5).trans rfl
       have hcz11_6:w3.cell? ⟨gb156,6,none⟩ = some (.int .u64 a0_6):=(blk_cell BK156.out 6).trans rfl
       have hcz11_7:w3.cell? ⟨gb156,7,none⟩ = some (.int .i64 a0_7):=(blk_cell BK156.out 7).trans rfl
       have hcz11_8:w3.cell? ⟨gb156,8,none⟩ = some (.string a0_8):=(blk_cell BK156.out 8).trans rfl
       have hcz11_9:w3.cell? ⟨gb156,9,none⟩ = some (.int .i64 a0_9):=(blk_cell BK156.out 9).trans rfl
       have hcz11_10:w3.cell? ⟨gb156,10,none⟩ = some (.int .i64 a0_10):=(blk_cell BK156.out 10).trans rfl
       have hcz11_11:w3.cell? ⟨gb156,11,none⟩ = some (.string a0_11):=(blk_cell BK156.out 11).trans rfl
       have hfz11_0:=blk_frozen BK156.out 0
       have hfz11_1:=blk_frozen BK156.out 1
       have hfz11_2:=blk_frozen BK156.out 2
       have hfz11_3:=blk_frozen BK156.out 3
       have hfz11_4:=blk_frozen BK156.out 4
       have hfz11_5:=blk_frozen BK156.out 5
       have hfz11_6:=blk_frozen BK156.out 6
       have hfz11_7:=blk_frozen BK156.out 7
       have hfz11_8:=blk_frozen BK156.out 8
       have hfz11_9:=blk_frozen BK156.out 9
       have hfz11_10:=blk_frozen BK156.out 10
       have hfz11_11:=blk_frozen BK156.out 11
       go_wp2_with (first | ((with_reducible refine gate_callee (f:=59) rfl ?_);refine goesL_ (some 7) rfl rfl Try.func59 (by kernel_rfl) rfl #[.int .i64 a0_1] rfl (by (try simp only [List.map_toArray,List.map_cons,List.map_nil]);first | done | rfl | (simp only [List.length_drop,List.length_take];rfl)) ?_;(with_reducible refine (beaconref06_number.calls a0_1 true _ A4.out).mono ?_);rintro e w' ⟨rfl,⟨nd,rfl⟩⟩;refine ⟨_,rfl,?_⟩) | (go_at_call 59;(with_reducible refine (beaconref06_number.calls a0_3 true _ A6.out).mono ?_);rintro e w' ⟨rfl,⟨nd,rfl⟩⟩))
       go_meet
       case rel => exact ⟨_,(true),(by first | rfl | (simp;done) | (simp [*];done)),H',⟨by first | omega | exact Nat.le_refl _⟩,⟨by (with_reducible repeat (first | refine blk_drewN ?_ _ | refine blk_drew ?_ | refine blk_alloc ?_ _));exact BK156.out⟩,⟨by repeat (first | (with_reducible first | exact HB.out | apply below_alloc | apply pw_below_drewN | apply below_drew1 | refine below_set ?_ GE156.out) | exact HB.out)⟩⟩
      ·rw [if_neg c10] at H
       have c10b0:decide (a0_5 < 0) = false:=decide_eq_false c10
       clear c10
       have H':=Aside0.mk H
       clear H
       have hcz12_0:w3.cell? ⟨gb156,0,none⟩ = some (.int .i64 a0_0):=(blk_cell BK156.out 0).trans rfl
       have hcz12_1:w3.cell? ⟨gb156,1,none⟩ = some (.int .i64 a0_1):=(blk_cell BK156.out 1).trans rfl
       have hcz12_2:w3.cell? ⟨gb156,2,none⟩ = some (.int .i64 a0_2):=(blk_cell BK156.out 2).trans rfl
       have hcz12_3:w3.cell? ⟨gb156,3,none⟩ = some (.int .i64 a0_3):=(blk_cell BK156.out 3).trans rfl
       have hcz12_4:w3.cell? ⟨gb156,4,none⟩ = some (.int .i64 a0_4):=(blk_cell BK156.out 4).trans rfl
       have hcz12_5:w3.cell? ⟨gb156,5,none⟩ = some (.int .i64 a0_5):=(blk_cell BK156.out 5).trans rfl
       have hcz12_6:w3.cell? ⟨gb156,6,none⟩ = some (.int .u64 a0_6):=(blk_cell BK156.out 6).trans rfl
       have hcz12_7:w3.cell? ⟨gb156,7,none⟩ = some (.int .i64 a0_7):=(blk_cell BK156.out 7).trans rfl
       have hcz12_8:w3.cell? ⟨gb156,8,none⟩ = some (.string a0_8):=(blk_cell BK156.out 8).trans rfl
       have hcz12_9:w3.cell? ⟨gb156,9,none⟩ = some (.int .i64 a0_9):=(blk_cell BK156.out 9).trans rfl
       have hcz12_10:w3.cell? ⟨gb156,10,none⟩ = some (.int .i64 a0_10):=(blk_cell BK156.out 10).trans rfl
       have hcz12_11:w3.cell? ⟨gb156,11,none⟩ = some (.string a0_11):=(blk_cell BK156.out 11).trans rfl
       have hfz12_0:=blk_frozen BK156.out 0
       have hfz12_1:=blk_frozen BK156.out 1
       have hfz12_2:=blk_frozen BK156.out 2
       have hfz12_3:=blk_frozen BK156.out 3
       have hfz12_4:=blk_frozen BK156.out 4
       have hfz12_5:=blk_frozen BK156.out 5
       have hfz12_6:=blk_frozen BK156.out 6
       have hfz12_7:=blk_frozen BK156.out 7
       have hfz12_8:=blk_frozen BK156.out 8
       have hfz12_9:=blk_frozen BK156.out 9
       have hfz12_10:=blk_frozen BK156.out 10
       have hfz12_11:=blk_frozen BK156.out 11
       go_wp2_with (first | ((with_reducible refine gate_callee (f:=59) rfl ?_);refine goesL_ (some 7) rfl rfl Try.func59 (by kernel_rfl) rfl #[.int .i64 a0_1] rfl (by (try simp only [List.map_toArray,List.map_cons,List.map_nil]);first | done | rfl | (simp only [List.length_drop,List.length_take];rfl)) ?_;(with_reducible refine (beaconref06_number.calls a0_1 true _ A4.out).mono ?_);rintro e w' ⟨rfl,⟨nd,rfl⟩⟩;refine ⟨_,rfl,?_⟩) | (go_at_call 59;(with_reducible refine (beaconref06_number.calls a0_3 true _ A6.out).mono ?_);rintro e w' ⟨rfl,⟨nd,rfl⟩⟩))
       go_meet
       case rel => exact ⟨_,(decide (a0_5 > 65536)),(by first | rfl | (simp;done) | (simp [*];done)),H',⟨by first | omega | exact Nat.le_refl _⟩,⟨by (with_reducible repeat (first | refine blk_drewN ?_ _ | refine blk_drew ?_ | refine blk_alloc ?_ _));exact BK156.out⟩,⟨by repeat (first | (with_reducible first | exact HB.out | apply below_alloc | apply pw_below_drewN | apply below_drew1 | refine below_set ?_ GE156.out) | exact HB.out)⟩⟩
     ·rw [if_neg c9] at H
      have c9b0:(a0_4 == 0) = false:=beq_eq_false_iff_ne.mpr c9
      have c9b1:(a0_4 != 0) = true:=bne_iff_ne.mpr c9
      replace H:=Option.bind_eq_some_iff.mp H
      obtain ⟨t159,A130,H⟩:=H
      replace H:(if t159 = true then (if a0_5 < 0 then (beaconref06_MayPacket.j0 k true a0_0 a0_1 a0_2 a0_3 a0_4 a0_5 a0_6 a0_7 a0_8 a0_9 a0_10 a0_11) else (beaconref06_MayPacket.j0 k (decide (a0_5 > 65536)) a0_0 a0_1 a0_2 a0_3 a0_4 a0_5 a0_6 a0_7 a0_8 a0_9 a0_10 a0_11)) else (beaconref06_MayPacket.j0 k true a0_0 a0_1 a0_2 a0_3 a0_4 a0_5 a0_6 a0_7 a0_8 a0_9 a0_10 a0_11)) = some r:=H
      have A13:=Aside0.mk A130
      clear A130
      by_cases c14:t159 = true
      ·subst c14
       have H1:(if a0_5 < 0 then (beaconref06_MayPacket.j0 k true a0_0 a0_1 a0_2 a0_3 a0_4 a0_5 a0_6 a0_7 a0_8 a0_9 a0_10 a0_11) else (beaconref06_MayPacket.j0 k (decide (a0_5 > 65536)) a0_0 a0_1 a0_2 a0_3 a0_4 a0_5 a0_6 a0_7 a0_8 a0_9 a0_10 a0_11)) = some r:=by rw [if_pos rfl] at H;exact H
       clear H
       have H:=H1
       clear H1
       by_cases c15:a0_5 < 0
       ·rw [if_pos c15] at H
        have c15b0:decide (a0_5 < 0) = true:=decide_eq_true c15
        clear c15
        have H':=Aside0.mk H
        clear H
        have hcz16_0:w3.cell? ⟨gb156,0,none⟩ = some (.int .i64 a0_0):=(blk_cell BK156.out 0).trans rfl
        have hcz16_1:w3.cell? ⟨gb156,1,none⟩ = some (.int .i64 a0_1):=(blk_cell BK156.out 1).trans rfl
        have hcz16_2:w3.cell? ⟨gb156,2,none⟩ = some (.int .i64 a0_2):=(blk_cell BK156.out 2).trans rfl
        have hcz16_3:w3.cell? ⟨gb156,3,none⟩ = some (.int .i64 a0_3):=(blk_cell BK156.out 3).trans rfl
        have hcz16_4:w3.cell? ⟨gb156,4,none⟩ = some (.int .i64 a0_4):=(blk_cell BK156.out 4).trans rfl
        have hcz16_5:w3.cell? ⟨gb156,5,none⟩ = some (.int .i64 a0_5):=(blk_cell BK156.out 5).trans rfl
        have hcz16_6:w3.cell? ⟨gb156,6,none⟩ = some (.int .u64 a0_6):=(blk_cell BK156.out 6).trans rfl
        have hcz16_7:w3.cell? ⟨gb156,7,none⟩ = some (.int .i64 a0_7):=(blk_cell BK156.out 7).trans rfl
        have hcz16_8:w3.cell? ⟨gb156,8,none⟩ = some (.string a0_8):=(blk_cell BK156.out 8).trans rfl
        have hcz16_9:w3.cell? ⟨gb156,9,none⟩ = some (.int .i64 a0_9):=(blk_cell BK156.out 9).trans rfl
        have hcz16_10:w3.cell? ⟨gb156,10,none⟩ = some (.int .i64 a0_10):=(blk_cell BK156.out 10).trans rfl
        have hcz16_11:w3.cell? ⟨gb156,11,none⟩ = some (.string a0_11):=(blk_cell BK156.out 11).trans rfl
        have hfz16_0:=blk_frozen BK156.out 0
        have hfz16_1:=blk_frozen BK156.out 1
        have hfz16_2:=blk_frozen BK156.out 2
        have hfz16_3:=blk_frozen BK156.out 3
        have hfz16_4:=blk_frozen BK156.out 4
        have hfz16_5:=blk_frozen BK156.out 5
        have hfz16_6:=blk_frozen BK156.out 6
        have hfz16_7:=blk_frozen BK156.out 7
        have hfz16_8:=blk_frozen BK156.out 8
        have hfz16_9:=blk_frozen BK156.out 9
        have hfz16_10:=blk_frozen BK156.out 10
        have hfz16_11:=blk_frozen BK156.out 11
        go_wp2_with (first | ((with_reducible refine gate_callee (f:=59) rfl ?_);refine goesL_ (some 7) rfl rfl Try.func59 (by kernel_rfl) rfl #[.int .i64 a0_1] rfl (by (try simp only [List.map_toArray,List.map_cons,List.map_nil]);first | done | rfl | (simp only [List.length_drop,List.length_take];rfl)) ?_;(with_reducible refine (beaconref06_number.calls a0_1 true _ A4.out).mono ?_);rintro e w' ⟨rfl,⟨nd,rfl⟩⟩;refine ⟨_,rfl,?_⟩) | (go_at_call 59;(with_reducible refine (beaconref06_number.calls a0_3 true _ A6.out).mono ?_);rintro e w' ⟨rfl,⟨nd,rfl⟩⟩) | (go_at_call 59;(with_reducible refine (beaconref06_number.calls a0_4 true _ A13.out).mono ?_);rintro e w' ⟨rfl,⟨nd,rfl⟩⟩))
        go_meet
        case rel => exact ⟨_,(true),(by first | rfl | (simp;done) | (simp [*];done)),H',⟨by first | omega | exact Nat.le_refl _⟩,⟨by (with_reducible repeat (first | refine blk_drewN ?_ _ | refine blk_drew ?_ | refine blk_alloc ?_ _));exact BK156.out⟩,⟨by repeat (first | (with_reducible first | exact HB.out | apply below_alloc | apply pw_below_drewN | apply below_drew1 | refine below_set ?_ GE156.out) | exact HB.out)⟩⟩
       ·rw [if_neg c15] at H
        have c15b0:decide (a0_5 < 0) = false:=decide_eq_false c15
        clear c15
        have H':=Aside0.mk H
        clear H
        have hcz17_0:w3.cell? ⟨gb156,0,none⟩ = some (.int .i64 a0_0):=(blk_cell BK156.out 0).trans rfl
        have hcz17_1:w3.cell? ⟨gb156,1,none⟩ = some (.int .i64 a0_1):=(blk_cell BK156.out 1).trans rfl
        have hcz17_2:w3.cell? ⟨gb156,2,none⟩ = some (.int .i64 a0_2):=(blk_cell BK156.out 2).trans rfl
        have hcz17_3:w3.cell? ⟨gb156,3,none⟩ = some (.int .i64 a0_3):=(blk_cell BK156.out 3).trans rfl
        have hcz17_4:w3.cell? ⟨gb156,4,none⟩ = some (.int .i64 a0_4):=(blk_cell BK156.out 4).trans rfl
        have hcz17_5:w3.cell? ⟨gb156,5,none⟩ = some (.int .i64 a0_5):=(blk_cell BK156.out 5).trans rfl
        have hcz17_6:w3.cell? ⟨gb156,6,none⟩ = some (.int .u64 a0_6):=(blk_cell BK156.out 6).trans rfl
        have hcz17_7:w3.cell? ⟨gb156,7,none⟩ = some (.int .i64 a0_7):=(blk_cell BK156.out 7).trans rfl
        have hcz17_8:w3.cell? ⟨gb156,8,none⟩ = some (.string a0_8):=(blk_cell BK156.out 8).trans rfl
        have hcz17_9:w3.cell? ⟨gb156,9,none⟩ = some (.int .i64 a0_9):=(blk_cell BK156.out 9).trans rfl
        have hcz17_10:w3.cell? ⟨gb156,10,none⟩ = some (.int .i64 a0_10):=(blk_cell BK156.out 10).trans rfl
        have hcz17_11:w3.cell? ⟨gb156,11,none⟩ = some (.string a0_11):=(blk_cell BK156.out 11).trans rfl
        have hfz17_0:=blk_frozen BK156.out 0
        have hfz17_1:=blk_frozen BK156.out 1
        have hfz17_2:=blk_frozen BK156.out 2
        have hfz17_3:=blk_frozen BK156.out 3
        have hfz17_4:=blk_frozen BK156.out 4
        have hfz17_5:=blk_frozen BK156.out 5
        have hfz17_6:=blk_frozen BK156.out 6
        have hfz17_7:=blk_frozen BK156.out 7
        have hfz17_8:=blk_frozen BK156.out 8
        have hfz17_9:=blk_frozen BK156.out 9
        have hfz17_10:=blk_frozen BK156.out 10
        have hfz17_11:=blk_frozen BK156.out 11
        go_wp2_with (first | ((with_reducible refine gate_callee (f:=59) rfl ?_);refine goesL_ (some 7) rfl rfl Try.func59 (by kernel_rfl) rfl #[.int .i64 a0_1] rfl (by (try simp only [List.map_toArray,List.map_cons,List.map_nil]);first | done | rfl | (simp only [List.length_drop,List.length_take];rfl)) ?_;(with_reducible refine (beaconref06_number.calls a0_1 true _ A4.out).mono ?_);rintro e w' ⟨rfl,⟨nd,rfl⟩⟩;refine ⟨_,rfl,?_⟩) | (go_at_call 59;(with_reducible refine (beaconref06_number.calls a0_3 true _ A6.out).mono ?_);rintro e w' ⟨rfl,⟨nd,rfl⟩⟩) | (go_at_call 59;(with_reducible refine (beaconref06_number.calls a0_4 true _ A13.out).mono ?_);rintro e w' ⟨rfl,⟨nd,rfl⟩⟩))
        go_meet
        case rel => exact ⟨_,(decide (a0_5 > 65536)),(by first | rfl | (simp;done) | (simp [*];done)),H',⟨by first | omega | exact Nat.le_refl _⟩,⟨by (with_reducible repeat (first | refine blk_drewN ?_ _ | refine blk_drew ?_ | refine blk_alloc ?_ _));exact BK156.out⟩,⟨by repeat (first | (with_reducible first | exact HB.out | apply below_alloc | apply pw_below_drewN | apply below_drew1 | refine below_set ?_ GE156.out) | exact HB.out)⟩⟩
      ·replace c14:=Bool.eq_false_iff.mpr c14
       subst c14
       have H1:(beaconref06_MayPacket.j0 k true a0_0 a0_1 a0_2 a0_3 a0_4 a0_5 a0_6 a0_7 a0_8 a0_9 a0_10 a0_11) = some r:=by rw [if_neg (show ¬ (false = true) by decide)] at H;exact H
       clear H
       have H:=H1
       clear H1
       have H':=Aside0.mk H
       clear H
       have hcz18_0:w3.cell? ⟨gb156,0,none⟩ = some (.int .i64 a0_0):=(blk_cell BK156.out 0).trans rfl
       have hcz18_1:w3.cell? ⟨gb156,1,none⟩ = some (.int .i64 a0_1):=(blk_cell BK156.out 1).trans rfl
       have hcz18_2:w3.cell? ⟨gb156,2,none⟩ = some (.int .i64 a0_2):=(blk_cell BK156.out 2).trans rfl
       have hcz18_3:w3.cell? ⟨gb156,3,none⟩ = some (.int .i64 a0_3):=(blk_cell BK156.out 3).trans rfl
       have hcz18_4:w3.cell? ⟨gb156,4,none⟩ = some (.int .i64 a0_4):=(blk_cell BK156.out 4).trans rfl
       have hcz18_5:w3.cell? ⟨gb156,5,none⟩ = some (.int .i64 a0_5):=(blk_cell BK156.out 5).trans rfl
       have hcz18_6:w3.cell? ⟨gb156,6,none⟩ = some (.int .u64 a0_6):=(blk_cell BK156.out 6).trans rfl
       have hcz18_7:w3.cell? ⟨gb156,7,none⟩ = some (.int .i64 a0_7):=(blk_cell BK156.out 7).trans rfl
       have hcz18_8:w3.cell? ⟨gb156,8,none⟩ = some (.string a0_8):=(blk_cell BK156.out 8).trans rfl
       have hcz18_9:w3.cell? ⟨gb156,9,none⟩ = some (.int .i64 a0_9):=(blk_cell BK156.out 9).trans rfl
       have hcz18_10:w3.cell? ⟨gb156,10,none⟩ = some (.int .i64 a0_10):=(blk_cell BK156.out 10).trans rfl
       have hcz18_11:w3.cell? ⟨gb156,11,none⟩ = some (.string a0_11):=(blk_cell BK156.out 11).trans rfl
       have hfz18_0:=blk_frozen BK156.out 0
       have hfz18_1:=blk_frozen BK156.out 1
       have hfz18_2:=blk_frozen BK156.out 2
       have hfz18_3:=blk_frozen BK156.out 3
       have hfz18_4:=blk_frozen BK156.out 4
       have hfz18_5:=blk_frozen BK156.out 5
       have hfz18_6:=blk_frozen BK156.out 6
       have hfz18_7:=blk_frozen BK156.out 7
       have hfz18_8:=blk_frozen BK156.out 8
       have hfz18_9:=blk_frozen BK156.out 9
       have hfz18_10:=blk_frozen BK156.out 10
       have hfz18_11:=blk_frozen BK156.out 11
       go_wp2_with (first | ((with_reducible refine gate_callee (f:=59) rfl ?_);refine goesL_ (some 7) rfl rfl Try.func59 (by kernel_rfl) rfl #[.int .i64 a0_1] rfl (by (try simp only [List.map_toArray,List.map_cons,List.map_nil]);first | done | rfl | (simp only [List.length_drop,List.length_take];rfl)) ?_;(with_reducible refine (beaconref06_number.calls a0_1 true _ A4.out).mono ?_);rintro e w' ⟨rfl,⟨nd,rfl⟩⟩;refine ⟨_,rfl,?_⟩) | (go_at_call 59;(with_reducible refine (beaconref06_number.calls a0_3 true _ A6.out).mono ?_);rintro e w' ⟨rfl,⟨nd,rfl⟩⟩) | (go_at_call 59;(with_reducible refine (beaconref06_number.calls a0_4 false _ A13.out).mono ?_);rintro e w' ⟨rfl,⟨nd,rfl⟩⟩))
       go_meet
       case rel => exact ⟨_,(true),(by first | rfl | (simp;done) | (simp [*];done)),H',⟨by first | omega | exact Nat.le_refl _⟩,⟨by (with_reducible repeat (first | refine blk_drewN ?_ _ | refine blk_drew ?_ | refine blk_alloc ?_ _));exact BK156.out⟩,⟨by repeat (first | (with_reducible first | exact HB.out | apply below_alloc | apply pw_below_drewN | apply below_drew1 | refine below_set ?_ GE156.out) | exact HB.out)⟩⟩
    ·rw [if_neg c8] at H
     have c8b0:(a0_2 == 0) = false:=beq_eq_false_iff_ne.mpr c8
     have c8b1:(a0_2 != 0) = true:=bne_iff_ne.mpr c8
     (first | rw [c8b0] | (simp only [i64_w,i32_w];rw [c8b0]) | skip)
     replace H:=Option.bind_eq_some_iff.mp H
     obtain ⟨t160,A190,H⟩:=H
     replace H:(if t160 = true then (if a0_4 = 0 then (if a0_5 < 0 then (beaconref06_MayPacket.j0 k true a0_0 a0_1 a0_2 a0_3 a0_4 a0_5 a0_6 a0_7 a0_8 a0_9 a0_10 a0_11) else (beaconref06_MayPacket.j0 k (decide (a0_5 > 65536)) a0_0 a0_1 a0_2 a0_3 a0_4 a0_5 a0_6 a0_7 a0_8 a0_9 a0_10 a0_11)) else ((beaconref06_number.f a0_4).bind fun t161 => (if t161 = true then (if a0_5 < 0 then (beaconref06_MayPacket.j0 k true a0_0 a0_1 a0_2 a0_3 a0_4 a0_5 a0_6 a0_7 a0_8 a0_9 a0_10 a0_11) else (beaconref06_MayPacket.j0 k (decide (a0_5 > 65536)) a0_0 a0_1 a0_2 a0_3 a0_4 a0_5 a0_6 a0_7 a0_8 a0_9 a0_10 a0_11)) else (beaconref06_MayPacket.j0 k true a0_0 a0_1 a0_2 a0_3 a0_4 a0_5 a0_6 a0_7 a0_8 a0_9 a0_10 a0_11)))) else (beaconref06_MayPacket.j0 k true a0_0 a0_1 a0_2 a0_3 a0_4 a0_5 a0_6 a0_7 a0_8 a0_9 a0_10 a0_11)) = some r:=H
     have A19:=Aside0.mk A190
     clear A190
     by_cases c20:t160 = true
     ·subst c20
      have H1:(if a0_4 = 0 then (if a0_5 < 0 then (beaconref06_MayPacket.j0 k true a0_0 a0_1 a0_2 a0_3 a0_4 a0_5 a0_6 a0_7 a0_8 a0_9 a0_10 a0_11) else (beaconref06_MayPacket.j0 k (decide (a0_5 > 65536)) a0_0 a0_1 a0_2 a0_3 a0_4 a0_5 a0_6 a0_7 a0_8 a0_9 a0_10 a0_11)) else ((beaconref06_number.f a0_4).bind fun t161 => (if t161 = true then (if a0_5 < 0 then (beaconref06_MayPacket.j0 k true a0_0 a0_1 a0_2 a0_3 a0_4 a0_5 a0_6 a0_7 a0_8 a0_9 a0_10 a0_11) else (beaconref06_MayPacket.j0 k (decide (a0_5 > 65536)) a0_0 a0_1 a0_2 a0_3 a0_4 a0_5 a0_6 a0_7 a0_8 a0_9 a0_10 a0_11)) else (beaconref06_MayPacket.j0 k true a0_0 a0_1 a0_2 a0_3 a0_4 a0_5 a0_6 a0_7 a0_8 a0_9 a0_10 a0_11)))) = some r:=by rw [if_pos rfl] at H;exact H
      clear H
      have H:=H1
      clear H1
      by_cases c21:a0_4 = 0
      ·rw [if_pos c21] at H
       have c21b0:(a0_4 == 0) = true:=beq_iff_eq.mpr c21
       have c21b1:(a0_4 != 0) = false:=bne_eq_false_iff_eq.mpr c21
       clear c21
       by_cases c22:a0_5 < 0
       ·rw [if_pos c22] at H
        have c22b0:decide (a0_5 < 0) = true:=decide_eq_true c22
        clear c22
        have H':=Aside0.mk H
        clear H
        have hcz23_0:w3.cell? ⟨gb156,0,none⟩ = some (.int .i64 a0_0):=(blk_cell BK156.out 0).trans rfl
        have hcz23_1:w3.cell? ⟨gb156,1,none⟩ = some (.int .i64 a0_1):=(blk_cell BK156.out 1).trans rfl
        have hcz23_2:w3.cell? ⟨gb156,2,none⟩ = some (.int .i64 a0_2):=(blk_cell BK156.out 2).trans rfl
        have hcz23_3:w3.cell? ⟨gb156,3,none⟩ = some (.int .i64 a0_3):=(blk_cell BK156.out 3).trans rfl
        have hcz23_4:w3.cell? ⟨gb156,4,none⟩ = some (.int .i64 a0_4):=(blk_cell BK156.out 4).trans rfl
        have hcz23_5:w3.cell? ⟨gb156,5,none⟩ = some (.int .i64 a0_5):=(blk_cell BK156.out 5).trans rfl
        have hcz23_6:w3.cell? ⟨gb156,6,none⟩ = some (.int .u64 a0_6):=(blk_cell BK156.out 6).trans rfl
        have hcz23_7:w3.cell? ⟨gb156,7,none⟩ = some (.int .i64 a0_7):=(blk_cell BK156.out 7).trans rfl
        have hcz23_8:w3.cell? ⟨gb156,8,none⟩ = some (.string a0_8):=(blk_cell BK156.out 8).trans rfl
        have hcz23_9:w3.cell? ⟨gb156,9,none⟩ = some (.int .i64 a0_9):=(blk_cell BK156.out 9).trans rfl
        have hcz23_10:w3.cell? ⟨gb156,10,none⟩ = some (.int .i64 a0_10):=(blk_cell BK156.out 10).trans rfl
        have hcz23_11:w3.cell? ⟨gb156,11,none⟩ = some (.string a0_11):=(blk_cell BK156.out 11).trans rfl
        have hfz23_0:=blk_frozen BK156.out 0
        have hfz23_1:=blk_frozen BK156.out 1
        have hfz23_2:=blk_frozen BK156.out 2
        have hfz23_3:=blk_frozen BK156.out 3
        have hfz23_4:=blk_frozen BK156.out 4
        have hfz23_5:=blk_frozen BK156.out 5
        have hfz23_6:=blk_frozen BK156.out 6
        have hfz23_7:=blk_frozen BK156.out 7
        have hfz23_8:=blk_frozen BK156.out 8
        have hfz23_9:=blk_frozen BK156.out 9
        have hfz23_10:=blk_frozen BK156.out 10
        have hfz23_11:=blk_frozen BK156.out 11
        go_wp2_with (first | ((with_reducible refine gate_callee (f:=59) rfl ?_);refine goesL_ (some 7) rfl rfl Try.func59 (by kernel_rfl) rfl #[.int .i64 a0_1] rfl (by (try simp only [List.map_toArray,List.map_cons,List.map_nil]);first | done | rfl | (simp only [List.length_drop,List.length_take];rfl)) ?_;(with_reducible refine (beaconref06_number.calls a0_1 true _ A4.out).mono ?_);rintro e w' ⟨rfl,⟨nd,rfl⟩⟩;refine ⟨_,rfl,?_⟩) | (go_at_call 59;(with_reducible refine (beaconref06_number.calls a0_3 true _ A6.out).mono ?_);rintro e w' ⟨rfl,⟨nd,rfl⟩⟩) | (go_at_call 59;(with_reducible refine (beaconref06_number.calls a0_2 true _ A19.out).mono ?_);rintro e w' ⟨rfl,⟨nd,rfl⟩⟩))
        go_meet
        case rel => exact ⟨_,(true),(by first | rfl | (simp;done) | (simp [*];done)),H',⟨by first | omega | exact Nat.le_refl _⟩,⟨by (with_reducible repeat (first | refine blk_drewN ?_ _ | refine blk_drew ?_ | refine blk_alloc ?_ _));exact BK156.out⟩,⟨by repeat (first | (with_reducible first | exact HB.out | apply below_alloc | apply pw_below_drewN | apply below_drew1 | refine below_set ?_ GE156.out) | exact HB.out)⟩⟩
       ·rw [if_neg c22] at H
        have c22b0:decide (a0_5 < 0) = false:=decide_eq_false c22
        clear c22
        have H':=Aside0.mk H
        clear H
        have hcz24_0:w3.cell? ⟨gb156,0,none⟩ = some (.int .i64 a0_0):=(blk_cell BK156.out 0).trans rfl
        have hcz24_1:w3.cell? ⟨gb156,1,none⟩ = some (.int .i64 a0_1):=(blk_cell BK156.out 1).trans rfl
        have hcz24_2:w3.cell? ⟨gb156,2,none⟩ = some (.int .i64 a0_2):=(blk_cell BK156.out 2).trans rfl
        have hcz24_3:w3.cell? ⟨gb156,3,none⟩ = some (.int .i64 a0_3):=(blk_cell BK156.out 3).trans rfl
        have hcz24_4:w3.cell? ⟨gb156,4,none⟩ = some (.int .i64 a0_4):=(blk_cell BK156.out 4).trans rfl
        have hcz24_5:w3.cell? ⟨gb156,5,none⟩ = some (.int .i64 a0_5):=(blk_cell BK156.out 5).trans rfl
        have hcz24_6:w3.cell? ⟨gb156,6,none⟩ = some (.int .u64 a0_6):=(blk_cell BK156.out 6).trans rfl
        have hcz24_7:w3.cell? ⟨gb156,7,none⟩ = some (.int .i64 a0_7):=(blk_cell BK156.out 7).trans rfl
        have hcz24_8:w3.cell? ⟨gb156,8,none⟩ = some (.string a0_8):=(blk_cell BK156.out 8).trans rfl
        have hcz24_9:w3.cell? ⟨gb156,9,none⟩ = some (.int .i64 a0_9):=(blk_cell BK156.out 9).trans rfl
        have hcz24_10:w3.cell? ⟨gb156,10,none⟩ = some (.int .i64 a0_10):=(blk_cell BK156.out 10).trans rfl
        have hcz24_11:w3.cell? ⟨gb156,11,none⟩ = some (.string a0_11):=(blk_cell BK156.out 11).trans rfl
        have hfz24_0:=blk_frozen BK156.out 0
        have hfz24_1:=blk_frozen BK156.out 1
        have hfz24_2:=blk_frozen BK156.out 2
        have hfz24_3:=blk_frozen BK156.out 3
        have hfz24_4:=blk_frozen BK156.out 4
        have hfz24_5:=blk_frozen BK156.out 5
        have hfz24_6:=blk_frozen BK156.out 6
        have hfz24_7:=blk_frozen BK156.out 7
        have hfz24_8:=blk_frozen BK156.out 8
        have hfz24_9:=blk_frozen BK156.out 9
        have hfz24_10:=blk_frozen BK156.out 10
        have hfz24_11:=blk_frozen BK156.out 11
        go_wp2_with (first | ((with_reducible refine gate_callee (f:=59) rfl ?_);refine goesL_ (some 7) rfl rfl Try.func59 (by kernel_rfl) rfl #[.int .i64 a0_1] rfl (by (try simp only [List.map_toArray,List.map_cons,List.map_nil]);first | done | rfl | (simp only [List.length_drop,List.length_take];rfl)) ?_;(with_reducible refine (beaconref06_number.calls a0_1 true _ A4.out).mono ?_);rintro e w' ⟨rfl,⟨nd,rfl⟩⟩;refine ⟨_,rfl,?_⟩) | (go_at_call 59;(with_reducible refine (beaconref06_number.calls a0_3 true _ A6.out).mono ?_);rintro e w' ⟨rfl,⟨nd,rfl⟩⟩) | (go_at_call 59;(with_reducible refine (beaconref06_number.calls a0_2 true _ A19.out).mono ?_);rintro e w' ⟨rfl,⟨nd,rfl⟩⟩))
        go_meet
        case rel => exact ⟨_,(decide (a0_5 > 65536)),(by first | rfl | (simp;done) | (simp [*];done)),H',⟨by first | omega | exact Nat.le_refl _⟩,⟨by (with_reducible repeat (first | refine blk_drewN ?_ _ | refine blk_drew ?_ | refine blk_alloc ?_ _));exact BK156.out⟩,⟨by repeat (first | (with_reducible first | exact HB.out | apply below_alloc | apply pw_below_drewN | apply below_drew1 | refine below_set ?_ GE156.out) | exact HB.out)⟩⟩
      ·rw [if_neg c21] at H
       have c21b0:(a0_4 == 0) = false:=beq_eq_false_iff_ne.mpr c21
       have c21b1:(a0_4 != 0) = true:=bne_iff_ne.mpr c21
       replace H:=Option.bind_eq_some_iff.mp H
       obtain ⟨t161,A250,H⟩:=H
       replace H:(if t161 = true then (if a0_5 < 0 then (beaconref06_MayPacket.j0 k true a0_0 a0_1 a0_2 a0_3 a0_4 a0_5 a0_6 a0_7 a0_8 a0_9 a0_10 a0_11) else (beaconref06_MayPacket.j0 k (decide (a0_5 > 65536)) a0_0 a0_1 a0_2 a0_3 a0_4 a0_5 a0_6 a0_7 a0_8 a0_9 a0_10 a0_11)) else (beaconref06_MayPacket.j0 k true a0_0 a0_1 a0_2 a0_3 a0_4 a0_5 a0_6 a0_7 a0_8 a0_9 a0_10 a0_11)) = some r:=H
       have A25:=Aside0.mk A250
       clear A250
       by_cases c26:t161 = true
       ·subst c26
        have H1:(if a0_5 < 0 then (beaconref06_MayPacket.j0 k true a0_0 a0_1 a0_2 a0_3 a0_4 a0_5 a0_6 a0_7 a0_8 a0_9 a0_10 a0_11) else (beaconref06_MayPacket.j0 k (decide (a0_5 > 65536)) a0_0 a0_1 a0_2 a0_3 a0_4 a0_5 a0_6 a0_7 a0_8 a0_9 a0_10 a0_11)) = some r:=by rw [if_pos rfl] at H;exact H
        clear H
        have H:=H1
        clear H1
        by_cases c27:a0_5 < 0
        ·rw [if_pos c27] at H
         have c27b0:decide (a0_5 < 0) = true:=decide_eq_true c27
         clear c27
         have H':=Aside0.mk H
         clear H
         have hcz28_0:w3.cell? ⟨gb156,0,none⟩ = some (.int .i64 a0_0):=(blk_cell BK156.out 0).trans rfl
         have hcz28_1:w3.cell? ⟨gb156,1,none⟩ = some (.int .i64 a0_1):=(blk_cell BK156.out 1).trans rfl
         have hcz28_2:w3.cell? ⟨gb156,2,none⟩ = some (.int .i64 a0_2):=(blk_cell BK156.out 2).trans rfl
         have hcz28_3:w3.cell? ⟨gb156,3,none⟩ = some (.int .i64 a0_3):=(blk_cell BK156.out 3).trans rfl
         have hcz28_4:w3.cell? ⟨gb156,4,none⟩ = some (.int .i64 a0_4):=(blk_cell BK156.out 4).trans rfl
         have hcz28_5:w3.cell? ⟨gb156,5,none⟩ = some (.int .i64 a0_5):=(blk_cell BK156.out 5).trans rfl
         have hcz28_6:w3.cell? ⟨gb156,6,none⟩ = some (.int .u64 a0_6):=(blk_cell BK156.out 6).trans rfl
         have hcz28_7:w3.cell? ⟨gb156,7,none⟩ = some (.int .i64 a0_7):=(blk_cell BK156.out 7).trans rfl
         have hcz28_8:w3.cell? ⟨gb156,8,none⟩ = some (.string a0_8):=(blk_cell BK156.out 8).trans rfl
         have hcz28_9:w3.cell? ⟨gb156,9,none⟩ = some (.int .i64 a0_9):=(blk_cell BK156.out 9).trans rfl
         have hcz28_10:w3.cell? ⟨gb156,10,none⟩ = some (.int .i64 a0_10):=(blk_cell BK156.out 10).trans rfl
         have hcz28_11:w3.cell? ⟨gb156,11,none⟩ = some (.string a0_11):=(blk_cell BK156.out 11).trans rfl
         have hfz28_0:=blk_frozen BK156.out 0
         have hfz28_1:=blk_frozen BK156.out 1
         have hfz28_2:=blk_frozen BK156.out 2
         have hfz28_3:=blk_frozen BK156.out 3
         have hfz28_4:=blk_frozen BK156.out 4
         have hfz28_5:=blk_frozen BK156.out 5
         have hfz28_6:=blk_frozen BK156.out 6
         have hfz28_7:=blk_frozen BK156.out 7
         have hfz28_8:=blk_frozen BK156.out 8
         have hfz28_9:=blk_frozen BK156.out 9
         have hfz28_10:=blk_frozen BK156.out 10
         have hfz28_11:=blk_frozen BK156.out 11
         go_wp2_with (first | ((with_reducible refine gate_callee (f:=59) rfl ?_);refine goesL_ (some 7) rfl rfl Try.func59 (by kernel_rfl) rfl #[.int .i64 a0_1] rfl (by (try simp only [List.map_toArray,List.map_cons,List.map_nil]);first | done | rfl | (simp only [List.length_drop,List.length_take];rfl)) ?_;(with_reducible refine (beaconref06_number.calls a0_1 true _ A4.out).mono ?_);rintro e w' ⟨rfl,⟨nd,rfl⟩⟩;refine ⟨_,rfl,?_⟩) | (go_at_call 59;(with_reducible refine (beaconref06_number.calls a0_3 true _ A6.out).mono ?_);rintro e w' ⟨rfl,⟨nd,rfl⟩⟩) | (go_at_call 59;(with_reducible refine (beaconref06_number.calls a0_2 true _ A19.out).mono ?_);rintro e w' ⟨rfl,⟨nd,rfl⟩⟩) | (go_at_call 59;(with_reducible refine (beaconref06_number.calls a0_4 true _ A25.out).mono ?_);rintro e w' ⟨rfl,⟨nd,rfl⟩⟩))
         go_meet
         case rel => exact ⟨_,(true),(by first | rfl | (simp;done) | (simp [*];done)),H',⟨by first | omega | exact Nat.le_refl _⟩,⟨by (with_reducible repeat (first | refine blk_drewN ?_ _ | refine blk_drew ?_ | refine blk_alloc ?_ _));exact BK156.out⟩,⟨by repeat (first | (with_reducible first | exact HB.out | apply below_alloc | apply pw_below_drewN | apply below_drew1 | refine below_set ?_ GE156.out) | exact HB.out)⟩⟩
        ·rw [if_neg c27] at H
         have c27b0:decide (a0_5 < 0) = false:=decide_eq_false c27
         clear c27
         have H':=Aside0.mk H
         clear H
         have hcz29_0:w3.cell? ⟨gb156,0,none⟩ = some (.int .i64 a0_0):=(blk_cell BK156.out 0).trans rfl
         have hcz29_1:w3.cell? ⟨gb156,1,none⟩ = some (.int .i64 a0_1):=(blk_cell BK156.out 1).trans rfl
         have hcz29_2:w3.cell? ⟨gb156,2,none⟩ = some (.int .i64 a0_2):=(blk_cell BK156.out 2).trans rfl
         have hcz29_3:w3.cell? ⟨gb156,3,none⟩ = some (.int .i64 a0_3):=(blk_cell BK156.out 3).trans rfl
         have hcz29_4:w3.cell? ⟨gb156,4,none⟩ = some (.int .i64 a0_4):=(blk_cell BK156.out 4).trans rfl
         have hcz29_5:w3.cell? ⟨gb156,5,none⟩ = some (.int .i64 a0_5):=(blk_cell BK156.out 5).trans rfl
         have hcz29_6:w3.cell? ⟨gb156,6,none⟩ = some (.int .u64 a0_6):=(blk_cell BK156.out 6).trans rfl
         have hcz29_7:w3.cell? ⟨gb156,7,none⟩ = some (.int .i64 a0_7):=(blk_cell BK156.out 7).trans rfl
         have hcz29_8:w3.cell? ⟨gb156,8,none⟩ = some (.string a0_8):=(blk_cell BK156.out 8).trans rfl
         have hcz29_9:w3.cell? ⟨gb156,9,none⟩ = some (.int .i64 a0_9):=(blk_cell BK156.out 9).trans rfl
         have hcz29_10:w3.cell? ⟨gb156,10,none⟩ = some (.int .i64 a0_10):=(blk_cell BK156.out 10).trans rfl
         have hcz29_11:w3.cell? ⟨gb156,11,none⟩ = some (.string a0_11):=(blk_cell BK156.out 11).trans rfl
         have hfz29_0:=blk_frozen BK156.out 0
         have hfz29_1:=blk_frozen BK156.out 1
         have hfz29_2:=blk_frozen BK156.out 2
         have hfz29_3:=blk_frozen BK156.out 3
         have hfz29_4:=blk_frozen BK156.out 4
         have hfz29_5:=blk_frozen BK156.out 5
         have hfz29_6:=blk_frozen BK156.out 6
         have hfz29_7:=blk_frozen BK156.out 7
         have hfz29_8:=blk_frozen BK156.out 8
         have hfz29_9:=blk_frozen BK156.out 9
         have hfz29_10:=blk_frozen BK156.out 10
         have hfz29_11:=blk_frozen BK156.out 11
         go_wp2_with (first | ((with_reducible refine gate_callee (f:=59) rfl ?_);refine goesL_ (some 7) rfl rfl Try.func59 (by kernel_rfl) rfl #[.int .i64 a0_1] rfl (by (try simp only [List.map_toArray,List.map_cons,List.map_nil]);first | done | rfl | (simp only [List.length_drop,List.length_take];rfl)) ?_;(with_reducible refine (beaconref06_number.calls a0_1 true _ A4.out).mono ?_);rintro e w' ⟨rfl,⟨nd,rfl⟩⟩;refine ⟨_,rfl,?_⟩) | (go_at_call 59;(with_reducible refine (beaconref06_number.calls a0_3 true _ A6.out).mono ?_);rintro e w' ⟨rfl,⟨nd,rfl⟩⟩) | (go_at_call 59;(with_reducible refine (beaconref06_number.calls a0_2 true _ A19.out).mono ?_);rintro e w' ⟨rfl,⟨nd,rfl⟩⟩) | (go_at_call 59;(with_reducible refine (beaconref06_number.calls a0_4 true _ A25.out).mono ?_);rintro e w' ⟨rfl,⟨nd,rfl⟩⟩))
         go_meet
         case rel => exact ⟨_,(decide (a0_5 > 65536)),(by first | rfl | (simp;done) | (simp [*];done)),H',⟨by first | omega | exact Nat.le_refl _⟩,⟨by (with_reducible repeat (first | refine blk_drewN ?_ _ | refine blk_drew ?_ | refine blk_alloc ?_ _));exact BK156.out⟩,⟨by repeat (first | (with_reducible first | exact HB.out | apply below_alloc | apply pw_below_drewN | apply below_drew1 | refine below_set ?_ GE156.out) | exact HB.out)⟩⟩
       ·replace c26:=Bool.eq_false_iff.mpr c26
        subst c26
        have H1:(beaconref06_MayPacket.j0 k true a0_0 a0_1 a0_2 a0_3 a0_4 a0_5 a0_6 a0_7 a0_8 a0_9 a0_10 a0_11) = some r:=by rw [if_neg (show ¬ (false = true) by decide)] at H;exact H
        clear H
        have H:=H1
        clear H1
        have H':=Aside0.mk H
        clear H
        have hcz30_0:w3.cell? ⟨gb156,0,none⟩ = some (.int .i64 a0_0):=(blk_cell BK156.out 0).trans rfl
        have hcz30_1:w3.cell? ⟨gb156,1,none⟩ = some (.int .i64 a0_1):=(blk_cell BK156.out 1).trans rfl
        have hcz30_2:w3.cell? ⟨gb156,2,none⟩ = some (.int .i64 a0_2):=(blk_cell BK156.out 2).trans rfl
        have hcz30_3:w3.cell? ⟨gb156,3,none⟩ = some (.int .i64 a0_3):=(blk_cell BK156.out 3).trans rfl
        have hcz30_4:w3.cell? ⟨gb156,4,none⟩ = some (.int .i64 a0_4):=(blk_cell BK156.out 4).trans rfl
        have hcz30_5:w3.cell? ⟨gb156,5,none⟩ = some (.int .i64 a0_5):=(blk_cell BK156.out 5).trans rfl
        have hcz30_6:w3.cell? ⟨gb156,6,none⟩ = some (.int .u64 a0_6):=(blk_cell BK156.out 6).trans rfl
        have hcz30_7:w3.cell? ⟨gb156,7,none⟩ = some (.int .i64 a0_7):=(blk_cell BK156.out 7).trans rfl
        have hcz30_8:w3.cell? ⟨gb156,8,none⟩ = some (.string a0_8):=(blk_cell BK156.out 8).trans rfl
        have hcz30_9:w3.cell? ⟨gb156,9,none⟩ = some (.int .i64 a0_9):=(blk_cell BK156.out 9).trans rfl
        have hcz30_10:w3.cell? ⟨gb156,10,none⟩ = some (.int .i64 a0_10):=(blk_cell BK156.out 10).trans rfl
        have hcz30_11:w3.cell? ⟨gb156,11,none⟩ = some (.string a0_11):=(blk_cell BK156.out 11).trans rfl
        have hfz30_0:=blk_frozen BK156.out 0
        have hfz30_1:=blk_frozen BK156.out 1
        have hfz30_2:=blk_frozen BK156.out 2
        have hfz30_3:=blk_frozen BK156.out 3
        have hfz30_4:=blk_frozen BK156.out 4
        have hfz30_5:=blk_frozen BK156.out 5
        have hfz30_6:=blk_frozen BK156.out 6
        have hfz30_7:=blk_frozen BK156.out 7
        have hfz30_8:=blk_frozen BK156.out 8
        have hfz30_9:=blk_frozen BK156.out 9
        have hfz30_10:=blk_frozen BK156.out 10
        have hfz30_11:=blk_frozen BK156.out 11
        go_wp2_with (first | ((with_reducible refine gate_callee (f:=59) rfl ?_);refine goesL_ (some 7) rfl rfl Try.func59 (by kernel_rfl) rfl #[.int .i64 a0_1] rfl (by (try simp only [List.map_toArray,List.map_cons,List.map_nil]);first | done | rfl | (simp only [List.length_drop,List.length_take];rfl)) ?_;(with_reducible refine (beaconref06_number.calls a0_1 true _ A4.out).mono ?_);rintro e w' ⟨rfl,⟨nd,rfl⟩⟩;refine ⟨_,rfl,?_⟩) | (go_at_call 59;(with_reducible refine (beaconref06_number.calls a0_3 true _ A6.out).mono ?_);rintro e w' ⟨rfl,⟨nd,rfl⟩⟩) | (go_at_call 59;(with_reducible refine (beaconref06_number.calls a0_2 true _ A19.out).mono ?_);rintro e w' ⟨rfl,⟨nd,rfl⟩⟩) | (go_at_call 59;(with_reducible refine (beaconref06_number.calls a0_4 false _ A25.out).mono ?_);rintro e w' ⟨rfl,⟨nd,rfl⟩⟩))
        go_meet
        case rel => exact ⟨_,(true),(by first | rfl | (simp;done) | (simp [*];done)),H',⟨by first | omega | exact Nat.le_refl _⟩,⟨by (with_reducible repeat (first | refine blk_drewN ?_ _ | refine blk_drew ?_ | refine blk_alloc ?_ _));exact BK156.out⟩,⟨by repeat (first | (with_reducible first | exact HB.out | apply below_alloc | apply pw_below_drewN | apply below_drew1 | refine below_set ?_ GE156.out) | exact HB.out)⟩⟩
     ·replace c20:=Bool.eq_false_iff.mpr c20
      subst c20
      have H1:(beaconref06_MayPacket.j0 k true a0_0 a0_1 a0_2 a0_3 a0_4 a0_5 a0_6 a0_7 a0_8 a0_9 a0_10 a0_11) = some r:=by rw [if_neg (show ¬ (false = true) by decide)] at H;exact H
      clear H
      have H:=H1
      clear H1
      have H':=Aside0.mk H
      clear H
      have hcz31_0:w3.cell? ⟨gb156,0,none⟩ = some (.int .i64 a0_0):=(blk_cell BK156.out 0).trans rfl
      have hcz31_1:w3.cell? ⟨gb156,1,none⟩ = some (.int .i64 a0_1):=(blk_cell BK156.out 1).trans rfl
      have hcz31_2:w3.cell? ⟨gb156,2,none⟩ = some (.int .i64 a0_2):=(blk_cell BK156.out 2).trans rfl
      have hcz31_3:w3.cell? ⟨gb156,3,none⟩ = some (.int .i64 a0_3):=(blk_cell BK156.out 3).trans rfl
      have hcz31_4:w3.cell? ⟨gb156,4,none⟩ = some (.int .i64 a0_4):=(blk_cell BK156.out 4).trans rfl
      have hcz31_5:w3.cell? ⟨gb156,5,none⟩ = some (.int .i64 a0_5):=(blk_cell BK156.out 5).trans rfl
      have hcz31_6:w3.cell? ⟨gb156,6,none⟩ = some (.int .u64 a0_6):=(blk_cell BK156.out 6).trans rfl
      have hcz31_7:w3.cell? ⟨gb156,7,none⟩ = some (.int .i64 a0_7):=(blk_cell BK156.out 7).trans rfl
      have hcz31_8:w3.cell? ⟨gb156,8,none⟩ = some (.string a0_8):=(blk_cell BK156.out 8).trans rfl
      have hcz31_9:w3.cell? ⟨gb156,9,none⟩ = some (.int .i64 a0_9):=(blk_cell BK156.out 9).trans rfl
      have hcz31_10:w3.cell? ⟨gb156,10,none⟩ = some (.int .i64 a0_10):=(blk_cell BK156.out 10).trans rfl
      have hcz31_11:w3.cell? ⟨gb156,11,none⟩ = some (.string a0_11):=(blk_cell BK156.out 11).trans rfl
      have hfz31_0:=blk_frozen BK156.out 0
      have hfz31_1:=blk_frozen BK156.out 1
      have hfz31_2:=blk_frozen BK156.out 2
      have hfz31_3:=blk_frozen BK156.out 3
      have hfz31_4:=blk_frozen BK156.out 4
      have hfz31_5:=blk_frozen BK156.out 5
      have hfz31_6:=blk_frozen BK156.out 6
      have hfz31_7:=blk_frozen BK156.out 7
      have hfz31_8:=blk_frozen BK156.out 8
      have hfz31_9:=blk_frozen BK156.out 9
      have hfz31_10:=blk_frozen BK156.out 10
      have hfz31_11:=blk_frozen BK156.out 11
      go_wp2_with (first | ((with_reducible refine gate_callee (f:=59) rfl ?_);refine goesL_ (some 7) rfl rfl Try.func59 (by kernel_rfl) rfl #[.int .i64 a0_1] rfl (by (try simp only [List.map_toArray,List.map_cons,List.map_nil]);first | done | rfl | (simp only [List.length_drop,List.length_take];rfl)) ?_;(with_reducible refine (beaconref06_number.calls a0_1 true _ A4.out).mono ?_);rintro e w' ⟨rfl,⟨nd,rfl⟩⟩;refine ⟨_,rfl,?_⟩) | (go_at_call 59;(with_reducible refine (beaconref06_number.calls a0_3 true _ A6.out).mono ?_);rintro e w' ⟨rfl,⟨nd,rfl⟩⟩) | (go_at_call 59;(with_reducible refine (beaconref06_number.calls a0_2 false _ A19.out).mono ?_);rintro e w' ⟨rfl,⟨nd,rfl⟩⟩))
      go_meet
      case rel => exact ⟨_,(true),(by first | rfl | (simp;done) | (simp [*];done)),H',⟨by first | omega | exact Nat.le_refl _⟩,⟨by (with_reducible repeat (first | refine blk_drewN ?_ _ | refine blk_drew ?_ | refine blk_alloc ?_ _));exact BK156.out⟩,⟨by repeat (first | (with_reducible first | exact HB.out | apply below_alloc | apply pw_below_drewN | apply below_drew1 | refine below_set ?_ GE156.out) | exact HB.out)⟩⟩
   ·replace c7:=Bool.eq_false_iff.mpr c7
    subst c7
    have H1:(beaconref06_MayPacket.j0 k true a0_0 a0_1 a0_2 a0_3 a0_4 a0_5 a0_6 a0_7 a0_8 a0_9 a0_10 a0_11) = some r:=by rw [if_neg (show ¬ (false = true) by decide)] at H;exact H
    clear H
    have H:=H1
    clear H1
    have H':=Aside0.mk H
    clear H
    have hcz32_0:w3.cell? ⟨gb156,0,none⟩ = some (.int .i64 a0_0):=(blk_cell BK156.out 0).trans rfl
    have hcz32_1:w3.cell? ⟨gb156,1,none⟩ = some (.int .i64 a0_1):=(blk_cell BK156.out 1).trans rfl
    have hcz32_2:w3.cell? ⟨gb156,2,none⟩ = some (.int .i64 a0_2):=(blk_cell BK156.out 2).trans rfl
    have hcz32_3:w3.cell? ⟨gb156,3,none⟩ = some (.int .i64 a0_3):=(blk_cell BK156.out 3).trans rfl
    have hcz32_4:w3.cell? ⟨gb156,4,none⟩ = some (.int .i64 a0_4):=(blk_cell BK156.out 4).trans rfl
    have hcz32_5:w3.cell? ⟨gb156,5,none⟩ = some (.int .i64 a0_5):=(blk_cell BK156.out 5).trans rfl
    have hcz32_6:w3.cell? ⟨gb156,6,none⟩ = some (.int .u64 a0_6):=(blk_cell BK156.out 6).trans rfl
    have hcz32_7:w3.cell? ⟨gb156,7,none⟩ = some (.int .i64 a0_7):=(blk_cell BK156.out 7).trans rfl
    have hcz32_8:w3.cell? ⟨gb156,8,none⟩ = some (.string a0_8):=(blk_cell BK156.out 8).trans rfl
    have hcz32_9:w3.cell? ⟨gb156,9,none⟩ = some (.int .i64 a0_9):=(blk_cell BK156.out 9).trans rfl
    have hcz32_10:w3.cell? ⟨gb156,10,none⟩ = some (.int .i64 a0_10):=(blk_cell BK156.out 10).trans rfl
    have hcz32_11:w3.cell? ⟨gb156,11,none⟩ = some (.string a0_11):=(blk_cell BK156.out 11).trans rfl
    have hfz32_0:=blk_frozen BK156.out 0
    have hfz32_1:=blk_frozen BK156.out 1
    have hfz32_2:=blk_frozen BK156.out 2
    have hfz32_3:=blk_frozen BK156.out 3
    have hfz32_4:=blk_frozen BK156.out 4
    have hfz32_5:=blk_frozen BK156.out 5
    have hfz32_6:=blk_frozen BK156.out 6
    have hfz32_7:=blk_frozen BK156.out 7
    have hfz32_8:=blk_frozen BK156.out 8
    have hfz32_9:=blk_frozen BK156.out 9
    have hfz32_10:=blk_frozen BK156.out 10
    have hfz32_11:=blk_frozen BK156.out 11
    go_wp2_with (first | ((with_reducible refine gate_callee (f:=59) rfl ?_);refine goesL_ (some 7) rfl rfl Try.func59 (by kernel_rfl) rfl #[.int .i64 a0_1] rfl (by (try simp only [List.map_toArray,List.map_cons,List.map_nil]);first | done | rfl | (simp only [List.length_drop,List.length_take];rfl)) ?_;(with_reducible refine (beaconref06_number.calls a0_1 true _ A4.out).mono ?_);rintro e w' ⟨rfl,⟨nd,rfl⟩⟩;refine ⟨_,rfl,?_⟩) | (go_at_call 59;(with_reducible refine (beaconref06_number.calls a0_3 false _ A6.out).mono ?_);rintro e w' ⟨rfl,⟨nd,rfl⟩⟩))
    go_meet
    case rel => exact ⟨_,(true),(by first | rfl | (simp;done) | (simp [*];done)),H',⟨by first | omega | exact Nat.le_refl _⟩,⟨by (with_reducible repeat (first | refine blk_drewN ?_ _ | refine blk_drew ?_ | refine blk_alloc ?_ _));exact BK156.out⟩,⟨by repeat (first | (with_reducible first | exact HB.out | apply below_alloc | apply pw_below_drewN | apply below_drew1 | refine below_set ?_ GE156.out) | exact HB.out)⟩⟩
  ·replace c5:=Bool.eq_false_iff.mpr c5
   subst c5
   have H1:(beaconref06_MayPacket.j0 k true a0_0 a0_1 a0_2 a0_3 a0_4 a0_5 a0_6 a0_7 a0_8 a0_9 a0_10 a0_11) = some r:=by rw [if_neg (show ¬ (false = true) by decide)] at H;exact H
   clear H
   have H:=H1
   clear H1
   have H':=Aside0.mk H
   clear H
   have hcz33_0:w3.cell? ⟨gb156,0,none⟩ = some (.int .i64 a0_0):=(blk_cell BK156.out 0).trans rfl
   have hcz33_1:w3.cell? ⟨gb156,1,none⟩ = some (.int .i64 a0_1):=(blk_cell BK156.out 1).trans rfl
   have hcz33_2:w3.cell? ⟨gb156,2,none⟩ = some (.int .i64 a0_2):=(blk_cell BK156.out 2).trans rfl
   have hcz33_3:w3.cell? ⟨gb156,3,none⟩ = some (.int .i64 a0_3):=(blk_cell BK156.out 3).trans rfl
   have hcz33_4:w3.cell? ⟨gb156,4,none⟩ = some (.int .i64 a0_4):=(blk_cell BK156.out 4).trans rfl
   have hcz33_5:w3.cell? ⟨gb156,5,none⟩ = some (.int .i64 a0_5):=(blk_cell BK156.out 5).trans rfl
   have hcz33_6:w3.cell? ⟨gb156,6,none⟩ = some (.int .u64 a0_6):=(blk_cell BK156.out 6).trans rfl
   have hcz33_7:w3.cell? ⟨gb156,7,none⟩ = some (.int .i64 a0_7):=(blk_cell BK156.out 7).trans rfl
   have hcz33_8:w3.cell? ⟨gb156,8,none⟩ = some (.string a0_8):=(blk_cell BK156.out 8).trans rfl
   have hcz33_9:w3.cell? ⟨gb156,9,none⟩ = some (.int .i64 a0_9):=(blk_cell BK156.out 9).trans rfl
   have hcz33_10:w3.cell? ⟨gb156,10,none⟩ = some (.int .i64 a0_10):=(blk_cell BK156.out 10).trans rfl
   have hcz33_11:w3.cell? ⟨gb156,11,none⟩ = some (.string a0_11):=(blk_cell BK156.out 11).trans rfl
   have hfz33_0:=blk_frozen BK156.out 0
   have hfz33_1:=blk_frozen BK156.out 1
   have hfz33_2:=blk_frozen BK156.out 2
   have hfz33_3:=blk_frozen BK156.out 3
   have hfz33_4:=blk_frozen BK156.out 4
   have hfz33_5:=blk_frozen BK156.out 5
   have hfz33_6:=blk_frozen BK156.out 6
   have hfz33_7:=blk_frozen BK156.out 7
   have hfz33_8:=blk_frozen BK156.out 8
   have hfz33_9:=blk_frozen BK156.out 9
   have hfz33_10:=blk_frozen BK156.out 10
   have hfz33_11:=blk_frozen BK156.out 11
   go_wp2_with (first | ((with_reducible refine gate_callee (f:=59) rfl ?_);refine goesL_ (some 7) rfl rfl Try.func59 (by kernel_rfl) rfl #[.int .i64 a0_1] rfl (by (try simp only [List.map_toArray,List.map_cons,List.map_nil]);first | done | rfl | (simp only [List.length_drop,List.length_take];rfl)) ?_;(with_reducible refine (beaconref06_number.calls a0_1 false _ A4.out).mono ?_);rintro e w' ⟨rfl,⟨nd,rfl⟩⟩;refine ⟨_,rfl,?_⟩))
   go_meet
   case rel => exact ⟨_,(true),(by first | rfl | (simp;done) | (simp [*];done)),H',⟨by first | omega | exact Nat.le_refl _⟩,⟨by (with_reducible repeat (first | refine blk_drewN ?_ _ | refine blk_drew ?_ | refine blk_alloc ?_ _));exact BK156.out⟩,⟨by repeat (first | (with_reducible first | exact HB.out | apply below_alloc | apply pw_below_drewN | apply below_drew1 | refine below_set ?_ GE156.out) | exact HB.out)⟩⟩
 case rest =>
  clear HC2
  try clear c1
  try clear c2
  try clear p2
  try clear c4
  try clear c5
  try clear c7
  try clear c8
  try clear c8b0
  try clear c8b1
  try clear c9
  try clear c9b0
  try clear c9b1
  try clear c10
  try clear c10b0
  try clear c14
  try clear c15
  try clear c15b0
  try clear c20
  try clear c21
  try clear c21b0
  try clear c21b1
  try clear c22
  try clear c22b0
  try clear c26
  try clear c27
  try clear c27b0
  try clear hcz11_0
  try clear hcz11_1
  try clear hcz11_10
  try clear hcz11_11
  try clear hcz11_2
  try clear hcz11_3
  try clear hcz11_4
  try clear hcz11_5
  try clear hcz11_6
  try clear hcz11_7
  try clear hcz11_8
  try clear hcz11_9
  try clear hcz12_0
  try clear hcz12_1
  try clear hcz12_10
  try clear hcz12_11
  try clear hcz12_2
  try clear hcz12_3
  try clear hcz12_4
  try clear hcz12_5
  try clear hcz12_6
  try clear hcz12_7
  try clear hcz12_8
  try clear hcz12_9
  try clear hcz16_0
  try clear hcz16_1
  try clear hcz16_10
  try clear hcz16_11
  try clear hcz16_2
  try clear hcz16_3
  try clear hcz16_4
  try clear hcz16_5
  try clear hcz16_6
  try clear hcz16_7
  try clear hcz16_8
  try clear hcz16_9
  try clear hcz17_0
  try clear hcz17_1
  try clear hcz17_10
  try clear hcz17_11
  try clear hcz17_2
  try clear hcz17_3
  try clear hcz17_4
  try clear hcz17_5
  try clear hcz17_6
  try clear hcz17_7
  try clear hcz17_8
  try clear hcz17_9
  try clear hcz18_0
  try clear hcz18_1
  try clear hcz18_10
  try clear hcz18_11
  try clear hcz18_2
  try clear hcz18_3
  try clear hcz18_4
  try clear hcz18_5
  try clear hcz18_6
  try clear hcz18_7
  try clear hcz18_8
  try clear hcz18_9
  try clear hcz23_0
  try clear hcz23_1
  try clear hcz23_10
  try clear hcz23_11
  try clear hcz23_2
  try clear hcz23_3
  try clear hcz23_4
  try clear hcz23_5
  try clear hcz23_6
  try clear hcz23_7
  try clear hcz23_8
  try clear hcz23_9
  try clear hcz24_0
  try clear hcz24_1
  try clear hcz24_10
  try clear hcz24_11
  try clear hcz24_2
  try clear hcz24_3
  try clear hcz24_4
  try clear hcz24_5
  try clear hcz24_6
  try clear hcz24_7
  try clear hcz24_8
  try clear hcz24_9
  try clear hcz28_0
  try clear hcz28_1
  try clear hcz28_10
  try clear hcz28_11
  try clear hcz28_2
  try clear hcz28_3
  try clear hcz28_4
  try clear hcz28_5
  try clear hcz28_6
  try clear hcz28_7
  try clear hcz28_8
  try clear hcz28_9
  try clear hcz29_0
  try clear hcz29_1
  try clear hcz29_10
  try clear hcz29_11
  try clear hcz29_2
  try clear hcz29_3
  try clear hcz29_4
  try clear hcz29_5
  try clear hcz29_6
  try clear hcz29_7
  try clear hcz29_8
  try clear hcz29_9
  try clear hcz30_0
  try clear hcz30_1
  try clear hcz30_10
  try clear hcz30_11
  try clear hcz30_2
  try clear hcz30_3
  try clear hcz30_4
  try clear hcz30_5
  try clear hcz30_6
  try clear hcz30_7
  try clear hcz30_8
  try clear hcz30_9
  try clear hcz31_0
  try clear hcz31_1
  try clear hcz31_10
  try clear hcz31_11
  try clear hcz31_2
  try clear hcz31_3
  try clear hcz31_4
  try clear hcz31_5
  try clear hcz31_6
  try clear hcz31_7
  try clear hcz31_8
  try clear hcz31_9
  try clear hcz32_0
  try clear hcz32_1
  try clear hcz32_10
  try clear hcz32_11
  try clear hcz32_2
  try clear hcz32_3
  try clear hcz32_4
  try clear hcz32_5
  try clear hcz32_6
  try clear hcz32_7
  try clear hcz32_8
  try clear hcz32_9
  try clear hcz33_0
  try clear hcz33_1
  try clear hcz33_10
  try clear hcz33_11
  try clear hcz33_2
  try clear hcz33_3
  try clear hcz33_4
  try clear hcz33_5
  try clear hcz33_6
  try clear hcz33_7
  try clear hcz33_8
  try clear hcz33_9
  try clear hfz11_0
  try clear hfz11_1
  try clear hfz11_10
  try clear hfz11_11
  try clear hfz11_2
  try clear hfz11_3
  try clear hfz11_4
  try clear hfz11_5
  try clear hfz11_6
  try clear hfz11_7
  try clear hfz11_8
  try clear hfz11_9
  try clear hfz12_0
  try clear hfz12_1
  try clear hfz12_10
  try clear hfz12_11
  try clear hfz12_2
  try clear hfz12_3
  try clear hfz12_4
  try clear hfz12_5
  try clear hfz12_6
  try clear hfz12_7
  try clear hfz12_8
  try clear hfz12_9
  try clear hfz16_0
  try clear hfz16_1
  try clear hfz16_10
  try clear hfz16_11
  try clear hfz16_2
  try clear hfz16_3
  try clear hfz16_4
  try clear hfz16_5
  try clear hfz16_6
  try clear hfz16_7
  try clear hfz16_8
  try clear hfz16_9
  try clear hfz17_0
  try clear hfz17_1
  try clear hfz17_10
  try clear hfz17_11
  try clear hfz17_2
  try clear hfz17_3
  try clear hfz17_4
  try clear hfz17_5
  try clear hfz17_6
  try clear hfz17_7
  try clear hfz17_8
  try clear hfz17_9
  try clear hfz18_0
  try clear hfz18_1
  try clear hfz18_10
  try clear hfz18_11
  try clear hfz18_2
  try clear hfz18_3
  try clear hfz18_4
  try clear hfz18_5
  try clear hfz18_6
  try clear hfz18_7
  try clear hfz18_8
  try clear hfz18_9
  try clear hfz23_0
  try clear hfz23_1
  try clear hfz23_10
  try clear hfz23_11
  try clear hfz23_2
  try clear hfz23_3
  try clear hfz23_4
  try clear hfz23_5
  try clear hfz23_6
  try clear hfz23_7
  try clear hfz23_8
  try clear hfz23_9
  try clear hfz24_0
  try clear hfz24_1
  try clear hfz24_10
  try clear hfz24_11
  try clear hfz24_2
  try clear hfz24_3
  try clear hfz24_4
  try clear hfz24_5
  try clear hfz24_6
  try clear hfz24_7
  try clear hfz24_8
  try clear hfz24_9
  try clear hfz28_0
  try clear hfz28_1
  try clear hfz28_10
  try clear hfz28_11
  try clear hfz28_2
  try clear hfz28_3
  try clear hfz28_4
  try clear hfz28_5
  try clear hfz28_6
  try clear hfz28_7
  try clear hfz28_8
  try clear hfz28_9
  try clear hfz29_0
  try clear hfz29_1
  try clear hfz29_10
  try clear hfz29_11
  try clear hfz29_2
  try clear hfz29_3
  try clear hfz29_4
  try clear hfz29_5
  try clear hfz29_6
  try clear hfz29_7
  try clear hfz29_8
  try clear hfz29_9
  try clear hfz30_0
  try clear hfz30_1
  try clear hfz30_10
  try clear hfz30_11
  try clear hfz30_2
  try clear hfz30_3
  try clear hfz30_4
  try clear hfz30_5
  try clear hfz30_6
  try clear hfz30_7
  try clear hfz30_8
  try clear hfz30_9
  try clear hfz31_0
  try clear hfz31_1
  try clear hfz31_10
  try clear hfz31_11
  try clear hfz31_2
  try clear hfz31_3
  try clear hfz31_4
  try clear hfz31_5
  try clear hfz31_6
  try clear hfz31_7
  try clear hfz31_8
  try clear hfz31_9
  try clear hfz32_0
  try clear hfz32_1
  try clear hfz32_10
  try clear hfz32_11
  try clear hfz32_2
  try clear hfz32_3
  try clear hfz32_4
  try clear hfz32_5
  try clear hfz32_6
  try clear hfz32_7
  try clear hfz32_8
  try clear hfz32_9
  try clear hfz33_0
  try clear hfz33_1
  try clear hfz33_10
  try clear hfz33_11
  try clear hfz33_2
  try clear hfz33_3
  try clear hfz33_4
  try clear hfz33_5
  try clear hfz33_6
  try clear hfz33_7
  try clear hfz33_8
  try clear hfz33_9
  obtain ⟨kq,x46_1,rfl,HA,HJ1,BK156,HB⟩:=hcut
  cases kq with
  | zero => exact absurd HA.out (by simp [beaconref06_MayPacket.j0])
  | succ kj1 =>
   have H:=HA.out
   clear HA
   simp only [beaconref06_MayPacket.j0] at H
   by_cases c34:x46_1 = true
   ·subst c34
    have H1:(some false) = some r:=by rw [if_pos rfl] at H;exact H
    clear H
    have H:=H1
    clear H1
    obtain rfl:=Option.some.inj H
    go_wp2
    go_ret
    exact ⟨by first | rfl | (simp [errW_none,errW_some] <;> rfl) | (simp [*,errW_none,errW_some] <;> rfl),by repeat (first | (with_reducible first | exact HB.out | apply below_alloc | apply pw_below_drewN | apply below_drew1 | refine below_set ?_ GE156.out) | exact HB.out)⟩
   ·replace c34:=Bool.eq_false_iff.mpr c34
    subst c34
    have H1:((beaconref06_number.f a0_9).bind fun t162 => (if t162 = true then (if a0_10 = 0 then (beaconref06_MayPacket.j1 kj1 true a0_0 a0_1 a0_2 a0_3 a0_4 a0_5 a0_6 a0_7 a0_8 a0_9 a0_10 a0_11) else ((beaconref06_number.f a0_10).bind fun t163 => (beaconref06_MayPacket.j1 kj1 t163 a0_0 a0_1 a0_2 a0_3 a0_4 a0_5 a0_6 a0_7 a0_8 a0_9 a0_10 a0_11))) else (beaconref06_MayPacket.j1 kj1 false a0_0 a0_1 a0_2 a0_3 a0_4 a0_5 a0_6 a0_7 a0_8 a0_9 a0_10 a0_11))) = some r:=by rw [if_neg (show ¬ (false = true) by decide)] at H;exact H
    clear H
    have H:=H1
    clear H1
    have HC35:=Aside0.mk H
    clear H
    go_upto_region 3 with (fail)
    go_cut [3] (fun v3 wc => ∃ (kq:Nat) (x3_34:Bool),v3 = .bool x3_34 ∧ Aside0 (beaconref06_MayPacket.j1 kq x3_34 a0_0 a0_1 a0_2 a0_3 a0_4 a0_5 a0_6 a0_7 a0_8 a0_9 a0_10 a0_11 = some r) ∧ Aside0 (kq ≤ kj1) ∧ Aside0 (wc.heap[gb156]? = some (.cells #[.int .i64 a0_0,.int .i64 a0_1,.int .i64 a0_2,.int .i64 a0_3,.int .i64 a0_4,.int .i64 a0_5,.int .u64 a0_6,.int .i64 a0_7,.string a0_8,.int .i64 a0_9,.int .i64 a0_10,.string a0_11] 30 (0,0))) ∧ Aside0 (Below w.heap.size w wc))
    case first =>
     have H:=HC35.out
     clear HC35
     replace H:=Option.bind_eq_some_iff.mp H
     obtain ⟨t162,A360,H⟩:=H
     replace H:(if t162 = true then (if a0_10 = 0 then (beaconref06_MayPacket.j1 kj1 true a0_0 a0_1 a0_2 a0_3 a0_4 a0_5 a0_6 a0_7 a0_8 a0_9 a0_10 a0_11) else ((beaconref06_number.f a0_10).bind fun t163 => (beaconref06_MayPacket.j1 kj1 t163 a0_0 a0_1 a0_2 a0_3 a0_4 a0_5 a0_6 a0_7 a0_8 a0_9 a0_10 a0_11))) else (beaconref06_MayPacket.j1 kj1 false a0_0 a0_1 a0_2 a0_3 a0_4 a0_5 a0_6 a0_7 a0_8 a0_9 a0_10 a0_11)) = some r:=H
     have A36:=Aside0.mk A360
     clear A360
     by_cases c37:t162 = true
     ·subst c37
      have H1:(if a0_10 = 0 then (beaconref06_MayPacket.j1 kj1 true a0_0 a0_1 a0_2 a0_3 a0_4 a0_5 a0_6 a0_7 a0_8 a0_9 a0_10 a0_11) else ((beaconref06_number.f a0_10).bind fun t163 => (beaconref06_MayPacket.j1 kj1 t163 a0_0 a0_1 a0_2 a0_3 a0_4 a0_5 a0_6 a0_7 a0_8 a0_9 a0_10 a0_11))) = some r:=by rw [if_pos rfl] at H;exact H
      clear H
      have H:=H1
      clear H1
      by_cases c38:a0_10 = 0
      ·rw [if_pos c38] at H
       have c38b0:(a0_10 == 0) = true:=beq_iff_eq.mpr c38
       have c38b1:(a0_10 != 0) = false:=bne_eq_false_iff_eq.mpr c38
       clear c38
       (first | rw [c38b0] | (simp only [i64_w,i32_w];rw [c38b0]) | skip)
       have H':=Aside0.mk H
       clear H
       have hcz39_0:wc.cell? ⟨gb156,0,none⟩ = some (.int .i64 a0_0):=(blk_cell BK156.out 0).trans rfl
       have hcz39_1:wc.cell? ⟨gb156,1,none⟩ = some (.int .i64 a0_1):=(blk_cell BK156.out 1).trans rfl
       have hcz39_2:wc.cell? ⟨gb156,2,none⟩ = some (.int .i64 a0_2):=(blk_cell BK156.out 2).trans rfl
       have hcz39_3:wc.cell? ⟨gb156,3,none⟩ = some (.int .i64 a0_3):=(blk_cell BK156.out 3).trans rfl
       have hcz39_4:wc.cell? ⟨gb156,4,none⟩ = some (.int .i64 a0_4):=(blk_cell BK156.out 4).trans rfl
       have hcz39_5:wc.cell? ⟨gb156,5,none⟩ = some (.int .i64 a0_5):=(blk_cell BK156.out 5).trans rfl
       have hcz39_6:wc.cell? ⟨gb156,6,none⟩ = some (.int .u64 a0_6):=(blk_cell BK156.out 6).trans rfl
       have hcz39_7:wc.cell? ⟨gb156,7,none⟩ = some (.int .i64 a0_7):=(blk_cell BK156.out 7).trans rfl
       have hcz39_8:wc.cell? ⟨gb156,8,none⟩ = some (.string a0_8):=(blk_cell BK156.out 8).trans rfl
       have hcz39_9:wc.cell? ⟨gb156,9,none⟩ = some (.int .i64 a0_9):=(blk_cell BK156.out 9).trans rfl
       have hcz39_10:wc.cell? ⟨gb156,10,none⟩ = some (.int .i64 a0_10):=(blk_cell BK156.out 10).trans rfl
       have hcz39_11:wc.cell? ⟨gb156,11,none⟩ = some (.string a0_11):=(blk_cell BK156.out 11).trans rfl
       have hfz39_0:=blk_frozen BK156.out 0
       have hfz39_1:=blk_frozen BK156.out 1
       have hfz39_2:=blk_frozen BK156.out 2
       have hfz39_3:=blk_frozen BK156.out 3
       have hfz39_4:=blk_frozen BK156.out 4
       have hfz39_5:=blk_frozen BK156.out 5
       have hfz39_6:=blk_frozen BK156.out 6
       have hfz39_7:=blk_frozen BK156.out 7
       have hfz39_8:=blk_frozen BK156.out 8
       have hfz39_9:=blk_frozen BK156.out 9
       have hfz39_10:=blk_frozen BK156.out 10
       have hfz39_11:=blk_frozen BK156.out 11
       go_wp2_with (first | ((with_reducible refine gate_callee (f:=59) rfl ?_);refine goesL_ (some 49) rfl rfl Try.func59 (by kernel_rfl) rfl #[.int .i64 a0_9] rfl (by (try simp only [List.map_toArray,List.map_cons,List.map_nil]);first | done | rfl | (simp only [List.length_drop,List.length_take];rfl)) ?_;(with_reducible refine (beaconref06_number.calls a0_9 true _ A36.out).mono ?_);rintro e w' ⟨rfl,⟨nd,rfl⟩⟩;refine ⟨_,rfl,?_⟩))
       go_meet
       case rel => exact ⟨_,(true),(by first | rfl | (simp;done) | (simp [*];done)),H',⟨by have:=HJ1.out;first | omega | exact Nat.le_refl _⟩,⟨by (with_reducible repeat (first | refine blk_drewN ?_ _ | refine blk_drew ?_ | refine blk_alloc ?_ _));exact BK156.out⟩,⟨by repeat (first | (with_reducible first | exact HB.out | apply below_alloc | apply pw_below_drewN | apply below_drew1 | refine below_set ?_ GE156.out) | exact HB.out)⟩⟩
      ·rw [if_neg c38] at H
       have c38b0:(a0_10 == 0) = false:=beq_eq_false_iff_ne.mpr c38
       have c38b1:(a0_10 != 0) = true:=bne_iff_ne.mpr c38
       (first | rw [c38b0] | (simp only [i64_w,i32_w];rw [c38b0]) | skip)
       replace H:=Option.bind_eq_some_iff.mp H
       obtain ⟨t163,A400,H⟩:=H
       replace H:(beaconref06_MayPacket.j1 kj1 t163 a0_0 a0_1 a0_2 a0_3 a0_4 a0_5 a0_6 a0_7 a0_8 a0_9 a0_10 a0_11) = some r:=H
       have A40:=Aside0.mk A400
       clear A400
       have H':=Aside0.mk H
       clear H
       have hcz41_0:wc.cell? ⟨gb156,0,none⟩ = some (.int .i64 a0_0):=(blk_cell BK156.out 0).trans rfl
       have hcz41_1:wc.cell? ⟨gb156,1,none⟩ = some (.int .i64 a0_1):=(blk_cell BK156.out 1).trans rfl
       have hcz41_2:wc.cell? ⟨gb156,2,none⟩ = some (.int .i64 a0_2):=(blk_cell BK156.out 2).trans rfl
       have hcz41_3:wc.cell? ⟨gb156,3,none⟩ = some (.int .i64 a0_3):=(blk_cell BK156.out 3).trans rfl
       have hcz41_4:wc.cell? ⟨gb156,4,none⟩ = some (.int .i64 a0_4):=(blk_cell BK156.out 4).trans rfl
       have hcz41_5:wc.cell? ⟨gb156,5,none⟩ = some (.int .i64 a0_5):=(blk_cell BK156.out 5).trans rfl
       have hcz41_6:wc.cell? ⟨gb156,6,none⟩ = some (.int .u64 a0_6):=(blk_cell BK156.out 6).trans rfl
       have hcz41_7:wc.cell? ⟨gb156,7,none⟩ = some (.int .i64 a0_7):=(blk_cell BK156.out 7).trans rfl
       have hcz41_8:wc.cell? ⟨gb156,8,none⟩ = some (.string a0_8):=(blk_cell BK156.out 8).trans rfl
       have hcz41_9:wc.cell? ⟨gb156,9,none⟩ = some (.int .i64 a0_9):=(blk_cell BK156.out 9).trans rfl
       have hcz41_10:wc.cell? ⟨gb156,10,none⟩ = some (.int .i64 a0_10):=(blk_cell BK156.out 10).trans rfl
       have hcz41_11:wc.cell? ⟨gb156,11,none⟩ = some (.string a0_11):=(blk_cell BK156.out 11).trans rfl
       have hfz41_0:=blk_frozen BK156.out 0
       have hfz41_1:=blk_frozen BK156.out 1
       have hfz41_2:=blk_frozen BK156.out 2
       have hfz41_3:=blk_frozen BK156.out 3
       have hfz41_4:=blk_frozen BK156.out 4
       have hfz41_5:=blk_frozen BK156.out 5
       have hfz41_6:=blk_frozen BK156.out 6
       have hfz41_7:=blk_frozen BK156.out 7
       have hfz41_8:=blk_frozen BK156.out 8
       have hfz41_9:=blk_frozen BK156.out 9
       have hfz41_10:=blk_frozen BK156.out 10
       have hfz41_11:=blk_frozen BK156.out 11
       go_wp2_with (first | ((with_reducible refine gate_callee (f:=59) rfl ?_);refine goesL_ (some 49) rfl rfl Try.func59 (by kernel_rfl) rfl #[.int .i64 a0_9] rfl (by (try simp only [List.map_toArray,List.map_cons,List.map_nil]);first | done | rfl | (simp only [List.length_drop,List.length_take];rfl)) ?_;(with_reducible refine (beaconref06_number.calls a0_9 true _ A36.out).mono ?_);rintro e w' ⟨rfl,⟨nd,rfl⟩⟩;refine ⟨_,rfl,?_⟩) | (go_at_call 59;(with_reducible refine (beaconref06_number.calls a0_10 t163 _ A40.out).mono ?_);rintro e w' ⟨rfl,⟨nd,rfl⟩⟩))
       go_meet
       case rel => exact ⟨_,(t163),(by first | rfl | (simp;done) | (simp [*];done)),H',⟨by have:=HJ1.out;first | omega | exact Nat.le_refl _⟩,⟨by (with_reducible repeat (first | refine blk_drewN ?_ _ | refine blk_drew ?_ | refine blk_alloc ?_ _));exact BK156.out⟩,⟨by repeat (first | (with_reducible first | exact HB.out | apply below_alloc | apply pw_below_drewN | apply below_drew1 | refine below_set ?_ GE156.out) | exact HB.out)⟩⟩
     ·replace c37:=Bool.eq_false_iff.mpr c37
      subst c37
      have H1:(beaconref06_MayPacket.j1 kj1 false a0_0 a0_1 a0_2 a0_3 a0_4 a0_5 a0_6 a0_7 a0_8 a0_9 a0_10 a0_11) = some r:=by rw [if_neg (show ¬ (false = true) by decide)] at H;exact H
      clear H
      have H:=H1
      clear H1
      have H':=Aside0.mk H
      clear H
      have hcz42_0:wc.cell? ⟨gb156,0,none⟩ = some (.int .i64 a0_0):=(blk_cell BK156.out 0).trans rfl
      have hcz42_1:wc.cell? ⟨gb156,1,none⟩ = some (.int .i64 a0_1):=(blk_cell BK156.out 1).trans rfl
      have hcz42_2:wc.cell? ⟨gb156,2,none⟩ = some (.int .i64 a0_2):=(blk_cell BK156.out 2).trans rfl
      have hcz42_3:wc.cell? ⟨gb156,3,none⟩ = some (.int .i64 a0_3):=(blk_cell BK156.out 3).trans rfl
      have hcz42_4:wc.cell? ⟨gb156,4,none⟩ = some (.int .i64 a0_4):=(blk_cell BK156.out 4).trans rfl
      have hcz42_5:wc.cell? ⟨gb156,5,none⟩ = some (.int .i64 a0_5):=(blk_cell BK156.out 5).trans rfl
      have hcz42_6:wc.cell? ⟨gb156,6,none⟩ = some (.int .u64 a0_6):=(blk_cell BK156.out 6).trans rfl
      have hcz42_7:wc.cell? ⟨gb156,7,none⟩ = some (.int .i64 a0_7):=(blk_cell BK156.out 7).trans rfl
      have hcz42_8:wc.cell? ⟨gb156,8,none⟩ = some (.string a0_8):=(blk_cell BK156.out 8).trans rfl
      have hcz42_9:wc.cell? ⟨gb156,9,none⟩ = some (.int .i64 a0_9):=(blk_cell BK156.out 9).trans rfl
      have hcz42_10:wc.cell? ⟨gb156,10,none⟩ = some (.int .i64 a0_10):=(blk_cell BK156.out 10).trans rfl
      have hcz42_11:wc.cell? ⟨gb156,11,none⟩ = some (.string a0_11):=(blk_cell BK156.out 11).trans rfl
      have hfz42_0:=blk_frozen BK156.out 0
      have hfz42_1:=blk_frozen BK156.out 1
      have hfz42_2:=blk_frozen BK156.out 2
      have hfz42_3:=blk_frozen BK156.out 3
      have hfz42_4:=blk_frozen BK156.out 4
      have hfz42_5:=blk_frozen BK156.out 5
      have hfz42_6:=blk_frozen BK156.out 6
      have hfz42_7:=blk_frozen BK156.out 7
      have hfz42_8:=blk_frozen BK156.out 8
      have hfz42_9:=blk_frozen BK156.out 9
      have hfz42_10:=blk_frozen BK156.out 10
      have hfz42_11:=blk_frozen BK156.out 11
      go_wp2_with (first | ((with_reducible refine gate_callee (f:=59) rfl ?_);refine goesL_ (some 49) rfl rfl Try.func59 (by kernel_rfl) rfl #[.int .i64 a0_9] rfl (by (try simp only [List.map_toArray,List.map_cons,List.map_nil]);first | done | rfl | (simp only [List.length_drop,List.length_take];rfl)) ?_;(with_reducible refine (beaconref06_number.calls a0_9 false _ A36.out).mono ?_);rintro e w' ⟨rfl,⟨nd,rfl⟩⟩;refine ⟨_,rfl,?_⟩))
      go_meet
      case rel => exact ⟨_,(false),(by first | rfl | (simp;done) | (simp [*];done)),H',⟨by have:=HJ1.out;first | omega | exact Nat.le_refl _⟩,⟨by (with_reducible repeat (first | refine blk_drewN ?_ _ | refine blk_drew ?_ | refine blk_alloc ?_ _));exact BK156.out⟩,⟨by repeat (first | (with_reducible first | exact HB.out | apply below_alloc | apply pw_below_drewN | apply below_drew1 | refine below_set ?_ GE156.out) | exact HB.out)⟩⟩
    case rest =>
     clear HC35
     try clear c1
     try clear c2
     try clear p2
     try clear c3
     try clear c4
     try clear c5
     try clear c7
     try clear c8
     try clear c8b0
     try clear c8b1
     try clear c9
     try clear c9b0
     try clear c9b1
     try clear c10
     try clear c10b0
     try clear c14
     try clear c15
     try clear c15b0
     try clear c20
     try clear c21
     try clear c21b0
     try clear c21b1
     try clear c22
     try clear c22b0
     try clear c26
     try clear c27
     try clear c27b0
     try clear c34
     try clear c37
     try clear c38
     try clear c38b0
     try clear c38b1
     try clear hcz11_0
     try clear hcz11_1
     try clear hcz11_10
     try clear hcz11_11
     try clear hcz11_2
     try clear hcz11_3
     try clear hcz11_4
     try clear hcz11_5
     try clear hcz11_6
     try clear hcz11_7
     try clear hcz11_8
     try clear hcz11_9
     try clear hcz12_0
     try clear hcz12_1
     try clear hcz12_10
     try clear hcz12_11
     try clear hcz12_2
     try clear hcz12_3
     try clear hcz12_4
     try clear hcz12_5
     try clear hcz12_6
     try clear hcz12_7
     try clear hcz12_8
     try clear hcz12_9
     try clear hcz16_0
     try clear hcz16_1
     try clear hcz16_10
     try clear hcz16_11
     try clear hcz16_2
     try clear hcz16_3
     try clear hcz16_4
     try clear hcz16_5
     try clear hcz16_6
     try clear hcz16_7
     try clear hcz16_8
     try clear hcz16_9
     try clear hcz17_0
     try clear hcz17_1
     try clear hcz17_10
     try clear hcz17_11
     try clear hcz17_2
     try clear hcz17_3
     try clear hcz17_4
     try clear hcz17_5
     try clear hcz17_6
     try clear hcz17_7
     try clear hcz17_8
     try clear hcz17_9
     try clear hcz18_0
     try clear hcz18_1
     try clear hcz18_10
     try clear hcz18_11
     try clear hcz18_2
     try clear hcz18_3
     try clear hcz18_4
     try clear hcz18_5
     try clear hcz18_6
     try clear hcz18_7
     try clear hcz18_8
     try clear hcz18_9
     try clear hcz23_0
     try clear hcz23_1
     try clear hcz23_10
     try clear hcz23_11
     try clear hcz23_2
     try clear hcz23_3
     try clear hcz23_4
     try clear hcz23_5
     try clear hcz23_6
     try clear hcz23_7
     try clear hcz23_8
     try clear hcz23_9
     try clear hcz24_0
     try clear hcz24_1
     try clear hcz24_10
     try clear hcz24_11
     try clear hcz24_2
     try clear hcz24_3
     try clear hcz24_4
     try clear hcz24_5
     try clear hcz24_6
     try clear hcz24_7
     try clear hcz24_8
     try clear hcz24_9
     try clear hcz28_0
     try clear hcz28_1
     try clear hcz28_10
     try clear hcz28_11
     try clear hcz28_2
     try clear hcz28_3
     try clear hcz28_4
     try clear hcz28_5
     try clear hcz28_6
     try clear hcz28_7
     try clear hcz28_8
     try clear hcz28_9
     try clear hcz29_0
     try clear hcz29_1
     try clear hcz29_10
     try clear hcz29_11
     try clear hcz29_2
     try clear hcz29_3
     try clear hcz29_4
     try clear hcz29_5
     try clear hcz29_6
     try clear hcz29_7
     try clear hcz29_8
     try clear hcz29_9
     try clear hcz30_0
     try clear hcz30_1
     try clear hcz30_10
     try clear hcz30_11
     try clear hcz30_2
     try clear hcz30_3
     try clear hcz30_4
     try clear hcz30_5
     try clear hcz30_6
     try clear hcz30_7
     try clear hcz30_8
     try clear hcz30_9
     try clear hcz31_0
     try clear hcz31_1
     try clear hcz31_10
     try clear hcz31_11
     try clear hcz31_2
     try clear hcz31_3
     try clear hcz31_4
     try clear hcz31_5
     try clear hcz31_6
     try clear hcz31_7
     try clear hcz31_8
     try clear hcz31_9
     try clear hcz32_0
     try clear hcz32_1
     try clear hcz32_10
     try clear hcz32_11
     try clear hcz32_2
     try clear hcz32_3
     try clear hcz32_4
     try clear hcz32_5
     try clear hcz32_6
     try clear hcz32_7
     try clear hcz32_8
     try clear hcz32_9
     try clear hcz33_0
     try clear hcz33_1
     try clear hcz33_10
     try clear hcz33_11
     try clear hcz33_2
     try clear hcz33_3
     try clear hcz33_4
     try clear hcz33_5
     try clear hcz33_6
     try clear hcz33_7
     try clear hcz33_8
     try clear hcz33_9
     try clear hcz39_0
     try clear hcz39_1
     try clear hcz39_10
     try clear hcz39_11
     try clear hcz39_2
     try clear hcz39_3
     try clear hcz39_4
     try clear hcz39_5
     try clear hcz39_6
     try clear hcz39_7
     try clear hcz39_8
     try clear hcz39_9
     try clear hcz41_0
     try clear hcz41_1
     try clear hcz41_10
     try clear hcz41_11
     try clear hcz41_2
     try clear hcz41_3
     try clear hcz41_4
     try clear hcz41_5
     try clear hcz41_6
     try clear hcz41_7
     try clear hcz41_8
     try clear hcz41_9
     try clear hcz42_0
     try clear hcz42_1
     try clear hcz42_10
     try clear hcz42_11
     try clear hcz42_2
     try clear hcz42_3
     try clear hcz42_4
     try clear hcz42_5
     try clear hcz42_6
     try clear hcz42_7
     try clear hcz42_8
     try clear hcz42_9
     try clear hfz11_0
     try clear hfz11_1
     try clear hfz11_10
     try clear hfz11_11
     try clear hfz11_2
     try clear hfz11_3
     try clear hfz11_4
     try clear hfz11_5
     try clear hfz11_6
     try clear hfz11_7
     try clear hfz11_8
     try clear hfz11_9
     try clear hfz12_0
     try clear hfz12_1
     try clear hfz12_10
     try clear hfz12_11
     try clear hfz12_2
     try clear hfz12_3
     try clear hfz12_4
     try clear hfz12_5
     try clear hfz12_6
     try clear hfz12_7
     try clear hfz12_8
     try clear hfz12_9
     try clear hfz16_0
     try clear hfz16_1
     try clear hfz16_10
     try clear hfz16_11
     try clear hfz16_2
     try clear hfz16_3
     try clear hfz16_4
     try clear hfz16_5
     try clear hfz16_6
     try clear hfz16_7
     try clear hfz16_8
     try clear hfz16_9
     try clear hfz17_0
     try clear hfz17_1
     try clear hfz17_10
     try clear hfz17_11
     try clear hfz17_2
     try clear hfz17_3
     try clear hfz17_4
     try clear hfz17_5
     try clear hfz17_6
     try clear hfz17_7
     try clear hfz17_8
     try clear hfz17_9
     try clear hfz18_0
     try clear hfz18_1
     try clear hfz18_10
     try clear hfz18_11
     try clear hfz18_2
     try clear hfz18_3
     try clear hfz18_4
     try clear hfz18_5
     try clear hfz18_6
     try clear hfz18_7
     try clear hfz18_8
     try clear hfz18_9
     try clear hfz23_0
     try clear hfz23_1
     try clear hfz23_10
     try clear hfz23_11
     try clear hfz23_2
     try clear hfz23_3
     try clear hfz23_4
     try clear hfz23_5
     try clear hfz23_6
     try clear hfz23_7
     try clear hfz23_8
     try clear hfz23_9
     try clear hfz24_0
     try clear hfz24_1
     try clear hfz24_10
     try clear hfz24_11
     try clear hfz24_2
     try clear hfz24_3
     try clear hfz24_4
     try clear hfz24_5
     try clear hfz24_6
     try clear hfz24_7
     try clear hfz24_8
     try clear hfz24_9
     try clear hfz28_0
     try clear hfz28_1
     try clear hfz28_10
     try clear hfz28_11
     try clear hfz28_2
     try clear hfz28_3
     try clear hfz28_4
     try clear hfz28_5
     try clear hfz28_6
     try clear hfz28_7
     try clear hfz28_8
     try clear hfz28_9
     try clear hfz29_0
     try clear hfz29_1
     try clear hfz29_10
     try clear hfz29_11
     try clear hfz29_2
     try clear hfz29_3
     try clear hfz29_4
     try clear hfz29_5
     try clear hfz29_6
     try clear hfz29_7
     try clear hfz29_8
     try clear hfz29_9
     try clear hfz30_0
     try clear hfz30_1
     try clear hfz30_10
     try clear hfz30_11
     try clear hfz30_2
     try clear hfz30_3
     try clear hfz30_4
     try clear hfz30_5
     try clear hfz30_6
     try clear hfz30_7
     try clear hfz30_8
     try clear hfz30_9
     try clear hfz31_0
     try clear hfz31_1
     try clear hfz31_10
     try clear hfz31_11
     try clear hfz31_2
     try clear hfz31_3
     try clear hfz31_4
     try clear hfz31_5
     try clear hfz31_6
     try clear hfz31_7
     try clear hfz31_8
     try clear hfz31_9
     try clear hfz32_0
     try clear hfz32_1
     try clear hfz32_10
     try clear hfz32_11
     try clear hfz32_2
     try clear hfz32_3
     try clear hfz32_4
     try clear hfz32_5
     try clear hfz32_6
     try clear hfz32_7
     try clear hfz32_8
     try clear hfz32_9
     try clear hfz33_0
     try clear hfz33_1
     try clear hfz33_10
     try clear hfz33_11
     try clear hfz33_2
     try clear hfz33_3
     try clear hfz33_4
     try clear hfz33_5
     try clear hfz33_6
     try clear hfz33_7
     try clear hfz33_8
     try clear hfz33_9
     try clear hfz39_0
     try clear hfz39_1
     try clear hfz39_10
     try clear hfz39_11
     try clear hfz39_2
     try clear hfz39_3
     try clear hfz39_4
     try clear hfz39_5
     try clear hfz39_6
     try clear hfz39_7
     try clear hfz39_8
     try clear hfz39_9
     try clear hfz41_0
     try clear hfz41_1
     try clear hfz41_10
     try clear hfz41_11
     try clear hfz41_2
     try clear hfz41_3
     try clear hfz41_4
     try clear hfz41_5
     try clear hfz41_6
     try clear hfz41_7
     try clear hfz41_8
     try clear hfz41_9
     try clear hfz42_0
     try clear hfz42_1
     try clear hfz42_10
     try clear hfz42_11
     try clear hfz42_2
     try clear hfz42_3
     try clear hfz42_4
     try clear hfz42_5
     try clear hfz42_6
     try clear hfz42_7
     try clear hfz42_8
     try clear hfz42_9
     try clear p2
     obtain ⟨kq,x3_34,rfl,HA,HJ34,BK156,HB⟩:=hcut
     cases kq with
     | zero => exact absurd HA.out (by simp [beaconref06_MayPacket.j1])
     | succ kj34 =>
      have H:=HA.out
      clear HA
      simp only [beaconref06_MayPacket.j1] at H
      have HC43:=Aside0.mk H
      clear H
      go_upto_region 4 with (fail)
      go_cut [4] (fun v4 wc => ∃ (kq:Nat) (x4_42:Bool),v4 = .bool x4_42 ∧ Aside0 (beaconref06_MayPacket.j2 kq x3_34 x4_42 a0_0 a0_1 a0_2 a0_3 a0_4 a0_5 a0_6 a0_7 a0_8 a0_9 a0_10 a0_11 = some r) ∧ Aside0 (kq ≤ kj34) ∧ Aside0 (wc.heap[gb156]? = some (.cells #[.int .i64 a0_0,.int .i64 a0_1,.int .i64 a0_2,.int .i64 a0_3,.int .i64 a0_4,.int .i64 a0_5,.int .u64 a0_6,.int .i64 a0_7,.string a0_8,.int .i64 a0_9,.int .i64 a0_10,.string a0_11] 30 (0,0))) ∧ Aside0 (Below w.heap.size w wc))
      case first =>
       have H:=HC43.out
       clear HC43
       by_cases c44:a0_9 = 0
       ·rw [if_pos c44] at H
        have c44b0:(a0_9 == 0) = true:=beq_iff_eq.mpr c44
        have c44b1:(a0_9 != 0) = false:=bne_eq_false_iff_eq.mpr c44
        clear c44
        (first | rw [c44b0] | (simp only [i64_w,i32_w];rw [c44b0]) | skip)
        have H':=Aside0.mk H
        clear H
        have hcz45_0:wc.cell? ⟨gb156,0,none⟩ = some (.int .i64 a0_0):=(blk_cell BK156.out 0).trans rfl
        have hcz45_1:wc.cell? ⟨gb156,1,none⟩ = some (.int .i64 a0_1):=(blk_cell BK156.out 1).trans rfl
        have hcz45_2:wc.cell? ⟨gb156,2,none⟩ = some (.int .i64 a0_2):=(blk_cell BK156.out 2).trans rfl
        have hcz45_3:wc.cell? ⟨gb156,3,none⟩ = some (.int .i64 a0_3):=(blk_cell BK156.out 3).trans rfl
        have hcz45_4:wc.cell? ⟨gb156,4,none⟩ = some (.int .i64 a0_4):=(blk_cell BK156.out 4).trans rfl
        have hcz45_5:wc.cell? ⟨gb156,5,none⟩ = some (.int .i64 a0_5):=(blk_cell BK156.out 5).trans rfl
        have hcz45_6:wc.cell? ⟨gb156,6,none⟩ = some (.int .u64 a0_6):=(blk_cell BK156.out 6).trans rfl
        have hcz45_7:wc.cell? ⟨gb156,7,none⟩ = some (.int .i64 a0_7):=(blk_cell BK156.out 7).trans rfl
        have hcz45_8:wc.cell? ⟨gb156,8,none⟩ = some (.string a0_8):=(blk_cell BK156.out 8).trans rfl
        have hcz45_9:wc.cell? ⟨gb156,9,none⟩ = some (.int .i64 a0_9):=(blk_cell BK156.out 9).trans rfl
        have hcz45_10:wc.cell? ⟨gb156,10,none⟩ = some (.int .i64 a0_10):=(blk_cell BK156.out 10).trans rfl
        have hcz45_11:wc.cell? ⟨gb156,11,none⟩ = some (.string a0_11):=(blk_cell BK156.out 11).trans rfl
        have hfz45_0:=blk_frozen BK156.out 0
        have hfz45_1:=blk_frozen BK156.out 1
        have hfz45_2:=blk_frozen BK156.out 2
        have hfz45_3:=blk_frozen BK156.out 3
        have hfz45_4:=blk_frozen BK156.out 4
        have hfz45_5:=blk_frozen BK156.out 5
        have hfz45_6:=blk_frozen BK156.out 6
        have hfz45_7:=blk_frozen BK156.out 7
        have hfz45_8:=blk_frozen BK156.out 8
        have hfz45_9:=blk_frozen BK156.out 9
        have hfz45_10:=blk_frozen BK156.out 10
        have hfz45_11:=blk_frozen BK156.out 11
        go_wp2
        go_meet
        case rel => exact ⟨_,((a0_10 == 0)),(by first | rfl | (simp;done) | (simp [*];done)),H',⟨by have:=HJ1.out;have:=HJ34.out;first | omega | exact Nat.le_refl _⟩,⟨by (with_reducible repeat (first | refine blk_drewN ?_ _ | refine blk_drew ?_ | refine blk_alloc ?_ _));exact BK156.out⟩,⟨by repeat (first | (with_reducible first | exact HB.out | apply below_alloc | apply pw_below_drewN | apply below_drew1 | refine below_set ?_ GE156.out) | exact HB.out)⟩⟩
       ·rw [if_neg c44] at H
        have c44b0:(a0_9 == 0) = false:=beq_eq_false_iff_ne.mpr c44
        have c44b1:(a0_9 != 0) = true:=bne_iff_ne.mpr c44
        (first | rw [c44b0] | (simp only [i64_w,i32_w];rw [c44b0]) | skip)
        have H':=Aside0.mk H
        clear H
        have hcz46_0:wc.cell? ⟨gb156,0,none⟩ = some (.int .i64 a0_0):=(blk_cell BK156.out 0).trans rfl
        have hcz46_1:wc.cell? ⟨gb156,1,none⟩ = some (.int .i64 a0_1):=(blk_cell BK156.out 1).trans rfl
        have hcz46_2:wc.cell? ⟨gb156,2,none⟩ = some (.int .i64 a0_2):=(blk_cell BK156.out 2).trans rfl
        have hcz46_3:wc.cell? ⟨gb156,3,none⟩ = some (.int .i64 a0_3):=(blk_cell BK156.out 3).trans rfl
        have hcz46_4:wc.cell? ⟨gb156,4,none⟩ = some (.int .i64 a0_4):=(blk_cell BK156.out 4).trans rfl
        have hcz46_5:wc.cell? ⟨gb156,5,none⟩ = some (.int .i64 a0_5):=(blk_cell BK156.out 5).trans rfl
        have hcz46_6:wc.cell? ⟨gb156,6,none⟩ = some (.int .u64 a0_6):=(blk_cell BK156.out 6).trans rfl
        have hcz46_7:wc.cell? ⟨gb156,7,none⟩ = some (.int .i64 a0_7):=(blk_cell BK156.out 7).trans rfl
        have hcz46_8:wc.cell? ⟨gb156,8,none⟩ = some (.string a0_8):=(blk_cell BK156.out 8).trans rfl
        have hcz46_9:wc.cell? ⟨gb156,9,none⟩ = some (.int .i64 a0_9):=(blk_cell BK156.out 9).trans rfl
        have hcz46_10:wc.cell? ⟨gb156,10,none⟩ = some (.int .i64 a0_10):=(blk_cell BK156.out 10).trans rfl
        have hcz46_11:wc.cell? ⟨gb156,11,none⟩ = some (.string a0_11):=(blk_cell BK156.out 11).trans rfl
        have hfz46_0:=blk_frozen BK156.out 0
        have hfz46_1:=blk_frozen BK156.out 1
        have hfz46_2:=blk_frozen BK156.out 2
        have hfz46_3:=blk_frozen BK156.out 3
        have hfz46_4:=blk_frozen BK156.out 4
        have hfz46_5:=blk_frozen BK156.out 5
        have hfz46_6:=blk_frozen BK156.out 6
        have hfz46_7:=blk_frozen BK156.out 7
        have hfz46_8:=blk_frozen BK156.out 8
        have hfz46_9:=blk_frozen BK156.out 9
        have hfz46_10:=blk_frozen BK156.out 10
        have hfz46_11:=blk_frozen BK156.out 11
        go_wp2
        go_meet
        case rel => exact ⟨_,(false),(by first | rfl | (simp;done) | (simp [*];done)),H',⟨by have:=HJ1.out;have:=HJ34.out;first | omega | exact Nat.le_refl _⟩,⟨by (with_reducible repeat (first | refine blk_drewN ?_ _ | refine blk_drew ?_ | refine blk_alloc ?_ _));exact BK156.out⟩,⟨by repeat (first | (with_reducible first | exact HB.out | apply below_alloc | apply pw_below_drewN | apply below_drew1 | refine below_set ?_ GE156.out) | exact HB.out)⟩⟩
      case rest =>
       clear HC43
       try clear c1
       try clear c2
       try clear p2
       try clear c3
       try clear c4
       try clear c5
       try clear c7
       try clear c8
       try clear c8b0
       try clear c8b1
       try clear c9
       try clear c9b0
       try clear c9b1
       try clear c10
       try clear c10b0
       try clear c14
       try clear c15
       try clear c15b0
       try clear c20
       try clear c21
       try clear c21b0
       try clear c21b1
       try clear c22
       try clear c22b0
       try clear c26
       try clear c27
       try clear c27b0
       try clear c34
       try clear c37
       try clear c38
       try clear c38b0
       try clear c38b1
       try clear c44
       try clear c44b0
       try clear c44b1
       try clear hcz11_0
       try clear hcz11_1
       try clear hcz11_10
       try clear hcz11_11
       try clear hcz11_2
       try clear hcz11_3
       try clear hcz11_4
       try clear hcz11_5
       try clear hcz11_6
       try clear hcz11_7
       try clear hcz11_8
       try clear hcz11_9
       try clear hcz12_0
       try clear hcz12_1
       try clear hcz12_10
       try clear hcz12_11
       try clear hcz12_2
       try clear hcz12_3
       try clear hcz12_4
       try clear hcz12_5
       try clear hcz12_6
       try clear hcz12_7
       try clear hcz12_8
       try clear hcz12_9
       try clear hcz16_0
       try clear hcz16_1
       try clear hcz16_10
       try clear hcz16_11
       try clear hcz16_2
       try clear hcz16_3
       try clear hcz16_4
       try clear hcz16_5
       try clear hcz16_6
       try clear hcz16_7
       try clear hcz16_8
       try clear hcz16_9
       try clear hcz17_0
       try clear hcz17_1
       try clear hcz17_10
       try clear hcz17_11
       try clear hcz17_2
       try clear hcz17_3
       try clear hcz17_4
       try clear hcz17_5
       try clear hcz17_6
       try clear hcz17_7
       try clear hcz17_8
       try clear hcz17_9
       try clear hcz18_0
       try clear hcz18_1
       try clear hcz18_10
       try clear hcz18_11
       try clear hcz18_2
       try clear hcz18_3
       try clear hcz18_4
       try clear hcz18_5
       try clear hcz18_6
       try clear hcz18_7
       try clear hcz18_8
       try clear hcz18_9
       try clear hcz23_0
       try clear hcz23_1
       try clear hcz23_10
       try clear hcz23_11
       try clear hcz23_2
       try clear hcz23_3
       try clear hcz23_4
       try clear hcz23_5
       try clear hcz23_6
       try clear hcz23_7
       try clear hcz23_8
       try clear hcz23_9
       try clear hcz24_0
       try clear hcz24_1
       try clear hcz24_10
       try clear hcz24_11
       try clear hcz24_2
       try clear hcz24_3
       try clear hcz24_4
       try clear hcz24_5
       try clear hcz24_6
       try clear hcz24_7
       try clear hcz24_8
       try clear hcz24_9
       try clear hcz28_0
       try clear hcz28_1
       try clear hcz28_10
       try clear hcz28_11
       try clear hcz28_2
       try clear hcz28_3
       try clear hcz28_4
       try clear hcz28_5
       try clear hcz28_6
       try clear hcz28_7
       try clear hcz28_8
       try clear hcz28_9
       try clear hcz29_0
       try clear hcz29_1
       try clear hcz29_10
       try clear hcz29_11
       try clear hcz29_2
       try clear hcz29_3
       try clear hcz29_4
       try clear hcz29_5
       try clear hcz29_6
       try clear hcz29_7
       try clear hcz29_8
       try clear hcz29_9
       try clear hcz30_0
       try clear hcz30_1
       try clear hcz30_10
       try clear hcz30_11
       try clear hcz30_2
       try clear hcz30_3
       try clear hcz30_4
       try clear hcz30_5
       try clear hcz30_6
       try clear hcz30_7
       try clear hcz30_8
       try clear hcz30_9
       try clear hcz31_0
       try clear hcz31_1
       try clear hcz31_10
       try clear hcz31_11
       try clear hcz31_2
       try clear hcz31_3
       try clear hcz31_4
       try clear hcz31_5
       try clear hcz31_6
       try clear hcz31_7
       try clear hcz31_8
       try clear hcz31_9
       try clear hcz32_0
       try clear hcz32_1
       try clear hcz32_10
       try clear hcz32_11
       try clear hcz32_2
       try clear hcz32_3
       try clear hcz32_4
       try clear hcz32_5
       try clear hcz32_6
       try clear hcz32_7
       try clear hcz32_8
       try clear hcz32_9
       try clear hcz33_0
       try clear hcz33_1
       try clear hcz33_10
       try clear hcz33_11
       try clear hcz33_2
       try clear hcz33_3
       try clear hcz33_4
       try clear hcz33_5
       try clear hcz33_6
       try clear hcz33_7
       try clear hcz33_8
       try clear hcz33_9
       try clear hcz39_0
       try clear hcz39_1
       try clear hcz39_10
       try clear hcz39_11
       try clear hcz39_2
       try clear hcz39_3
       try clear hcz39_4
       try clear hcz39_5
       try clear hcz39_6
       try clear hcz39_7
       try clear hcz39_8
       try clear hcz39_9
       try clear hcz41_0
       try clear hcz41_1
       try clear hcz41_10
       try clear hcz41_11
       try clear hcz41_2
       try clear hcz41_3
       try clear hcz41_4
       try clear hcz41_5
       try clear hcz41_6
       try clear hcz41_7
       try clear hcz41_8
       try clear hcz41_9
       try clear hcz42_0
       try clear hcz42_1
       try clear hcz42_10
       try clear hcz42_11
       try clear hcz42_2
       try clear hcz42_3
       try clear hcz42_4
       try clear hcz42_5
       try clear hcz42_6
       try clear hcz42_7
       try clear hcz42_8
       try clear hcz42_9
       try clear hcz45_0
       try clear hcz45_1
       try clear hcz45_10
       try clear hcz45_11
       try clear hcz45_2
       try clear hcz45_3
       try clear hcz45_4
       try clear hcz45_5
       try clear hcz45_6
       try clear hcz45_7
       try clear hcz45_8
       try clear hcz45_9
       try clear hcz46_0
       try clear hcz46_1
       try clear hcz46_10
       try clear hcz46_11
       try clear hcz46_2
       try clear hcz46_3
       try clear hcz46_4
       try clear hcz46_5
       try clear hcz46_6
       try clear hcz46_7
       try clear hcz46_8
       try clear hcz46_9
       try clear hfz11_0
       try clear hfz11_1
       try clear hfz11_10
       try clear hfz11_11
       try clear hfz11_2
       try clear hfz11_3
       try clear hfz11_4
       try clear hfz11_5
       try clear hfz11_6
       try clear hfz11_7
       try clear hfz11_8
       try clear hfz11_9
       try clear hfz12_0
       try clear hfz12_1
       try clear hfz12_10
       try clear hfz12_11
       try clear hfz12_2
       try clear hfz12_3
       try clear hfz12_4
       try clear hfz12_5
       try clear hfz12_6
       try clear hfz12_7
       try clear hfz12_8
       try clear hfz12_9
       try clear hfz16_0
       try clear hfz16_1
       try clear hfz16_10
       try clear hfz16_11
       try clear hfz16_2
       try clear hfz16_3
       try clear hfz16_4
       try clear hfz16_5
       try clear hfz16_6
       try clear hfz16_7
       try clear hfz16_8
       try clear hfz16_9
       try clear hfz17_0
       try clear hfz17_1
       try clear hfz17_10
       try clear hfz17_11
       try clear hfz17_2
       try clear hfz17_3
       try clear hfz17_4
       try clear hfz17_5
       try clear hfz17_6
       try clear hfz17_7
       try clear hfz17_8
       try clear hfz17_9
       try clear hfz18_0
       try clear hfz18_1
       try clear hfz18_10
       try clear hfz18_11
       try clear hfz18_2
       try clear hfz18_3
       try clear hfz18_4
       try clear hfz18_5
       try clear hfz18_6
       try clear hfz18_7
       try clear hfz18_8
       try clear hfz18_9
       try clear hfz23_0
       try clear hfz23_1
       try clear hfz23_10
       try clear hfz23_11
       try clear hfz23_2
       try clear hfz23_3
       try clear hfz23_4
       try clear hfz23_5
       try clear hfz23_6
       try clear hfz23_7
       try clear hfz23_8
       try clear hfz23_9
       try clear hfz24_0
       try clear hfz24_1
       try clear hfz24_10
       try clear hfz24_11
       try clear hfz24_2
       try clear hfz24_3
       try clear hfz24_4
       try clear hfz24_5
       try clear hfz24_6
       try clear hfz24_7
       try clear hfz24_8
       try clear hfz24_9
       try clear hfz28_0
       try clear hfz28_1
       try clear hfz28_10
       try clear hfz28_11
       try clear hfz28_2
       try clear hfz28_3
       try clear hfz28_4
       try clear hfz28_5
       try clear hfz28_6
       try clear hfz28_7
       try clear hfz28_8
       try clear hfz28_9
       try clear hfz29_0
       try clear hfz29_1
       try clear hfz29_10
       try clear hfz29_11
       try clear hfz29_2
       try clear hfz29_3
       try clear hfz29_4
       try clear hfz29_5
       try clear hfz29_6
       try clear hfz29_7
       try clear hfz29_8
       try clear hfz29_9
       try clear hfz30_0
       try clear hfz30_1
       try clear hfz30_10
       try clear hfz30_11
       try clear hfz30_2
       try clear hfz30_3
       try clear hfz30_4
       try clear hfz30_5
       try clear hfz30_6
       try clear hfz30_7
       try clear hfz30_8
       try clear hfz30_9
       try clear hfz31_0
       try clear hfz31_1
       try clear hfz31_10
       try clear hfz31_11
       try clear hfz31_2
       try clear hfz31_3
       try clear hfz31_4
       try clear hfz31_5
       try clear hfz31_6
       try clear hfz31_7
       try clear hfz31_8
       try clear hfz31_9
       try clear hfz32_0
       try clear hfz32_1
       try clear hfz32_10
       try clear hfz32_11
       try clear hfz32_2
       try clear hfz32_3
       try clear hfz32_4
       try clear hfz32_5
       try clear hfz32_6
       try clear hfz32_7
       try clear hfz32_8
       try clear hfz32_9
       try clear hfz33_0
       try clear hfz33_1
       try clear hfz33_10
       try clear hfz33_11
       try clear hfz33_2
       try clear hfz33_3
       try clear hfz33_4
       try clear hfz33_5
       try clear hfz33_6
       try clear hfz33_7
       try clear hfz33_8
       try clear hfz33_9
       try clear hfz39_0
       try clear hfz39_1
       try clear hfz39_10
       try clear hfz39_11
       try clear hfz39_2
       try clear hfz39_3
       try clear hfz39_4
       try clear hfz39_5
       try clear hfz39_6
       try clear hfz39_7
       try clear hfz39_8
       try clear hfz39_9
       try clear hfz41_0
       try clear hfz41_1
       try clear hfz41_10
       try clear hfz41_11
       try clear hfz41_2
       try clear hfz41_3
       try clear hfz41_4
       try clear hfz41_5
       try clear hfz41_6
       try clear hfz41_7
       try clear hfz41_8
       try clear hfz41_9
       try clear hfz42_0
       try clear hfz42_1
       try clear hfz42_10
       try clear hfz42_11
       try clear hfz42_2
       try clear hfz42_3
       try clear hfz42_4
       try clear hfz42_5
       try clear hfz42_6
       try clear hfz42_7
       try clear hfz42_8
       try clear hfz42_9
       try clear hfz45_0
       try clear hfz45_1
       try clear hfz45_10
       try clear hfz45_11
       try clear hfz45_2
       try clear hfz45_3
       try clear hfz45_4
       try clear hfz45_5
       try clear hfz45_6
       try clear hfz45_7
       try clear hfz45_8
       try clear hfz45_9
       try clear hfz46_0
       try clear hfz46_1
       try clear hfz46_10
       try clear hfz46_11
       try clear hfz46_2
       try clear hfz46_3
       try clear hfz46_4
       try clear hfz46_5
       try clear hfz46_6
       try clear hfz46_7
       try clear hfz46_8
       try clear hfz46_9
       try clear p2
       obtain ⟨kq,x4_42,rfl,HA,HJ42,BK156,HB⟩:=hcut
       cases kq with
       | zero => exact absurd HA.out (by simp [beaconref06_MayPacket.j2])
       | succ kj42 =>
        have H:=HA.out
        clear HA
        simp only [beaconref06_MayPacket.j2] at H
        by_cases c47:a0_0 = 1
        ·rw [if_pos c47] at H
         have c47b0:(a0_0 == 1) = true:=beq_iff_eq.mpr c47
         have c47b1:(a0_0 != 1) = false:=bne_eq_false_iff_eq.mpr c47
         clear c47
         by_cases c48:a0_7 = 0
         ·rw [if_pos c48] at H
          have c48b0:(a0_7 == 0) = true:=beq_iff_eq.mpr c48
          have c48b1:(a0_7 != 0) = false:=bne_eq_false_iff_eq.mpr c48
          clear c48
          by_cases c49:a0_8.toList = ([]:List UInt8)
          ·rw [if_pos c49] at H
           have c49b0:(a0_8.toList == ([]:List UInt8)) = true:=beq_iff_eq.mpr c49
           have c49b1:(a0_8.toList != ([]:List UInt8)) = false:=bne_eq_false_iff_eq.mpr c49
           clear c49
           by_cases c50:x4_42 = true
           ·subst c50
            have H1:(some (decide ((a0_11.size:Int) ≤ 1024))) = some r:=by rw [if_pos rfl] at H;exact H
            clear H
            have H:=H1
            clear H1
            obtain rfl:=Option.some.inj H
            have hcz51_0:wc.cell? ⟨gb156,0,none⟩ = some (.int .i64 a0_0):=(blk_cell BK156.out 0).trans rfl
            have hcz51_1:wc.cell? ⟨gb156,1,none⟩ = some (.int .i64 a0_1):=(blk_cell BK156.out 1).trans rfl
            have hcz51_2:wc.cell? ⟨gb156,2,none⟩ = some (.int .i64 a0_2):=(blk_cell BK156.out 2).trans rfl
            have hcz51_3:wc.cell? ⟨gb156,3,none⟩ = some (.int .i64 a0_3):=(blk_cell BK156.out 3).trans rfl
            have hcz51_4:wc.cell? ⟨gb156,4,none⟩ = some (.int .i64 a0_4):=(blk_cell BK156.out 4).trans rfl
            have hcz51_5:wc.cell? ⟨gb156,5,none⟩ = some (.int .i64 a0_5):=(blk_cell BK156.out 5).trans rfl
            have hcz51_6:wc.cell? ⟨gb156,6,none⟩ = some (.int .u64 a0_6):=(blk_cell BK156.out 6).trans rfl
            have hcz51_7:wc.cell? ⟨gb156,7,none⟩ = some (.int .i64 a0_7):=(blk_cell BK156.out 7).trans rfl
            have hcz51_8:wc.cell? ⟨gb156,8,none⟩ = some (.string a0_8):=(blk_cell BK156.out 8).trans rfl
            have hcz51_9:wc.cell? ⟨gb156,9,none⟩ = some (.int .i64 a0_9):=(blk_cell BK156.out 9).trans rfl
            have hcz51_10:wc.cell? ⟨gb156,10,none⟩ = some (.int .i64 a0_10):=(blk_cell BK156.out 10).trans rfl
            have hcz51_11:wc.cell? ⟨gb156,11,none⟩ = some (.string a0_11):=(blk_cell BK156.out 11).trans rfl
            have hfz51_0:=blk_frozen BK156.out 0
            have hfz51_1:=blk_frozen BK156.out 1
            have hfz51_2:=blk_frozen BK156.out 2
            have hfz51_3:=blk_frozen BK156.out 3
            have hfz51_4:=blk_frozen BK156.out 4
            have hfz51_5:=blk_frozen BK156.out 5
            have hfz51_6:=blk_frozen BK156.out 6
            have hfz51_7:=blk_frozen BK156.out 7
            have hfz51_8:=blk_frozen BK156.out 8
            have hfz51_9:=blk_frozen BK156.out 9
            have hfz51_10:=blk_frozen BK156.out 10
            have hfz51_11:=blk_frozen BK156.out 11
            go_wp2
            go_ret
            exact ⟨by first | rfl | (simp [errW_none,errW_some] <;> rfl) | (simp [*,errW_none,errW_some] <;> rfl),by repeat (first | (with_reducible first | exact HB.out | apply below_alloc | apply pw_below_drewN | apply below_drew1 | refine below_set ?_ GE156.out) | exact HB.out)⟩
           ·replace c50:=Bool.eq_false_iff.mpr c50
            subst c50
            have H1:(some false) = some r:=by rw [if_neg (show ¬ (false = true) by decide)] at H;exact H
            clear H
            have H:=H1
            clear H1
            obtain rfl:=Option.some.inj H
            have hcz52_0:wc.cell? ⟨gb156,0,none⟩ = some (.int .i64 a0_0):=(blk_cell BK156.out 0).trans rfl
            have hcz52_1:wc.cell? ⟨gb156,1,none⟩ = some (.int .i64 a0_1):=(blk_cell BK156.out 1).trans rfl
            have hcz52_2:wc.cell? ⟨gb156,2,none⟩ = some (.int .i64 a0_2):=(blk_cell BK156.out 2).trans rfl
            have hcz52_3:wc.cell? ⟨gb156,3,none⟩ = some (.int .i64 a0_3):=(blk_cell BK156.out 3).trans rfl
            have hcz52_4:wc.cell? ⟨gb156,4,none⟩ = some (.int .i64 a0_4):=(blk_cell BK156.out 4).trans rfl
            have hcz52_5:wc.cell? ⟨gb156,5,none⟩ = some (.int .i64 a0_5):=(blk_cell BK156.out 5).trans rfl
            have hcz52_6:wc.cell? ⟨gb156,6,none⟩ = some (.int .u64 a0_6):=(blk_cell BK156.out 6).trans rfl
            have hcz52_7:wc.cell? ⟨gb156,7,none⟩ = some (.int .i64 a0_7):=(blk_cell BK156.out 7).trans rfl
            have hcz52_8:wc.cell? ⟨gb156,8,none⟩ = some (.string a0_8):=(blk_cell BK156.out 8).trans rfl
            have hcz52_9:wc.cell? ⟨gb156,9,none⟩ = some (.int .i64 a0_9):=(blk_cell BK156.out 9).trans rfl
            have hcz52_10:wc.cell? ⟨gb156,10,none⟩ = some (.int .i64 a0_10):=(blk_cell BK156.out 10).trans rfl
            have hcz52_11:wc.cell? ⟨gb156,11,none⟩ = some (.string a0_11):=(blk_cell BK156.out 11).trans rfl
            have hfz52_0:=blk_frozen BK156.out 0
            have hfz52_1:=blk_frozen BK156.out 1
            have hfz52_2:=blk_frozen BK156.out 2
            have hfz52_3:=blk_frozen BK156.out 3
            have hfz52_4:=blk_frozen BK156.out 4
            have hfz52_5:=blk_frozen BK156.out 5
            have hfz52_6:=blk_frozen BK156.out 6
            have hfz52_7:=blk_frozen BK156.out 7
            have hfz52_8:=blk_frozen BK156.out 8
            have hfz52_9:=blk_frozen BK156.out 9
            have hfz52_10:=blk_frozen BK156.out 10
            have hfz52_11:=blk_frozen BK156.out 11
            go_wp2
            go_ret
            exact ⟨by first | rfl | (simp [errW_none,errW_some] <;> rfl) | (simp [*,errW_none,errW_some] <;> rfl),by repeat (first | (with_reducible first | exact HB.out | apply below_alloc | apply pw_below_drewN | apply below_drew1 | refine below_set ?_ GE156.out) | exact HB.out)⟩
          ·rw [if_neg c49] at H
           have c49b0:(a0_8.toList == ([]:List UInt8)) = false:=beq_eq_false_iff_ne.mpr c49
           have c49b1:(a0_8.toList != ([]:List UInt8)) = true:=bne_iff_ne.mpr c49
           obtain rfl:=Option.some.inj H
           have hcz53_0:wc.cell? ⟨gb156,0,none⟩ = some (.int .i64 a0_0):=(blk_cell BK156.out 0).trans rfl
           have hcz53_1:wc.cell? ⟨gb156,1,none⟩ = some (.int .i64 a0_1):=(blk_cell BK156.out 1).trans rfl
           have hcz53_2:wc.cell? ⟨gb156,2,none⟩ = some (.int .i64 a0_2):=(blk_cell BK156.out 2).trans rfl
           have hcz53_3:wc.cell? ⟨gb156,3,none⟩ = some (.int .i64 a0_3):=(blk_cell BK156.out 3).trans rfl
           have hcz53_4:wc.cell? ⟨gb156,4,none⟩ = some (.int .i64 a0_4):=(blk_cell BK156.out 4).trans rfl
           have hcz53_5:wc.cell? ⟨gb156,5,none⟩ = some (.int .i64 a0_5):=(blk_cell BK156.out 5).trans rfl
           have hcz53_6:wc.cell? ⟨gb156,6,none⟩ = some (.int .u64 a0_6):=(blk_cell BK156.out 6).trans rfl
           have hcz53_7:wc.cell? ⟨gb156,7,none⟩ = some (.int .i64 a0_7):=(blk_cell BK156.out 7).trans rfl
           have hcz53_8:wc.cell? ⟨gb156,8,none⟩ = some (.string a0_8):=(blk_cell BK156.out 8).trans rfl
           have hcz53_9:wc.cell? ⟨gb156,9,none⟩ = some (.int .i64 a0_9):=(blk_cell BK156.out 9).trans rfl
           have hcz53_10:wc.cell? ⟨gb156,10,none⟩ = some (.int .i64 a0_10):=(blk_cell BK156.out 10).trans rfl
           have hcz53_11:wc.cell? ⟨gb156,11,none⟩ = some (.string a0_11):=(blk_cell BK156.out 11).trans rfl
           have hfz53_0:=blk_frozen BK156.out 0
           have hfz53_1:=blk_frozen BK156.out 1
           have hfz53_2:=blk_frozen BK156.out 2
           have hfz53_3:=blk_frozen BK156.out 3
           have hfz53_4:=blk_frozen BK156.out 4
           have hfz53_5:=blk_frozen BK156.out 5
           have hfz53_6:=blk_frozen BK156.out 6
           have hfz53_7:=blk_frozen BK156.out 7
           have hfz53_8:=blk_frozen BK156.out 8
           have hfz53_9:=blk_frozen BK156.out 9
           have hfz53_10:=blk_frozen BK156.out 10
           have hfz53_11:=blk_frozen BK156.out 11
           go_wp2
           go_ret
           exact ⟨by first | rfl | (simp [errW_none,errW_some] <;> rfl) | (simp [*,errW_none,errW_some] <;> rfl),by repeat (first | (with_reducible first | exact HB.out | apply below_alloc | apply pw_below_drewN | apply below_drew1 | refine below_set ?_ GE156.out) | exact HB.out)⟩
         ·rw [if_neg c48] at H
          have c48b0:(a0_7 == 0) = false:=beq_eq_false_iff_ne.mpr c48
          have c48b1:(a0_7 != 0) = true:=bne_iff_ne.mpr c48
          obtain rfl:=Option.some.inj H
          have hcz54_0:wc.cell? ⟨gb156,0,none⟩ = some (.int .i64 a0_0):=(blk_cell BK156.out 0).trans rfl
          have hcz54_1:wc.cell? ⟨gb156,1,none⟩ = some (.int .i64 a0_1):=(blk_cell BK156.out 1).trans rfl
          have hcz54_2:wc.cell? ⟨gb156,2,none⟩ = some (.int .i64 a0_2):=(blk_cell BK156.out 2).trans rfl
          have hcz54_3:wc.cell? ⟨gb156,3,none⟩ = some (.int .i64 a0_3):=(blk_cell BK156.out 3).trans rfl
          have hcz54_4:wc.cell? ⟨gb156,4,none⟩ = some (.int .i64 a0_4):=(blk_cell BK156.out 4).trans rfl
          have hcz54_5:wc.cell? ⟨gb156,5,none⟩ = some (.int .i64 a0_5):=(blk_cell BK156.out 5).trans rfl
          have hcz54_6:wc.cell? ⟨gb156,6,none⟩ = some (.int .u64 a0_6):=(blk_cell BK156.out 6).trans rfl
          have hcz54_7:wc.cell? ⟨gb156,7,none⟩ = some (.int .i64 a0_7):=(blk_cell BK156.out 7).trans rfl
          have hcz54_8:wc.cell? ⟨gb156,8,none⟩ = some (.string a0_8):=(blk_cell BK156.out 8).trans rfl
          have hcz54_9:wc.cell? ⟨gb156,9,none⟩ = some (.int .i64 a0_9):=(blk_cell BK156.out 9).trans rfl
          have hcz54_10:wc.cell? ⟨gb156,10,none⟩ = some (.int .i64 a0_10):=(blk_cell BK156.out 10).trans rfl
          have hcz54_11:wc.cell? ⟨gb156,11,none⟩ = some (.string a0_11):=(blk_cell BK156.out 11).trans rfl
          have hfz54_0:=blk_frozen BK156.out 0
          have hfz54_1:=blk_frozen BK156.out 1
          have hfz54_2:=blk_frozen BK156.out 2
          have hfz54_3:=blk_frozen BK156.out 3
          have hfz54_4:=blk_frozen BK156.out 4
          have hfz54_5:=blk_frozen BK156.out 5
          have hfz54_6:=blk_frozen BK156.out 6
          have hfz54_7:=blk_frozen BK156.out 7
          have hfz54_8:=blk_frozen BK156.out 8
          have hfz54_9:=blk_frozen BK156.out 9
          have hfz54_10:=blk_frozen BK156.out 10
          have hfz54_11:=blk_frozen BK156.out 11
          go_wp2
          go_ret
          exact ⟨by first | rfl | (simp [errW_none,errW_some] <;> rfl) | (simp [*,errW_none,errW_some] <;> rfl),by repeat (first | (with_reducible first | exact HB.out | apply below_alloc | apply pw_below_drewN | apply below_drew1 | refine below_set ?_ GE156.out) | exact HB.out)⟩
        ·rw [if_neg c47] at H
         have c47b0:(a0_0 == 1) = false:=beq_eq_false_iff_ne.mpr c47
         have c47b1:(a0_0 != 1) = true:=bne_iff_ne.mpr c47
         by_cases c55:a0_0 = 2
         ·rw [if_pos c55] at H
          have c55b0:(a0_0 == 2) = true:=beq_iff_eq.mpr c55
          have c55b1:(a0_0 != 2) = false:=bne_eq_false_iff_eq.mpr c55
          clear c55
          by_cases c56:a0_7 = 0
          ·rw [if_pos c56] at H
           have c56b0:(a0_7 == 0) = true:=beq_iff_eq.mpr c56
           have c56b1:(a0_7 != 0) = false:=bne_eq_false_iff_eq.mpr c56
           clear c56
           replace H:=Option.bind_eq_some_iff.mp H
           obtain ⟨t164,A570,H⟩:=H
           replace H:(if t164 = true then (if x3_34 = true then (some (a0_11.toList == ([]:List UInt8))) else (some false)) else (some false)) = some r:=H
           have A57:=Aside0.mk A570
           clear A570
           by_cases c58:t164 = true
           ·subst c58
            have H1:(if x3_34 = true then (some (a0_11.toList == ([]:List UInt8))) else (some false)) = some r:=by rw [if_pos rfl] at H;exact H
            clear H
            have H:=H1
            clear H1
            by_cases c59:x3_34 = true
            ·subst c59
             have H1:(some (a0_11.toList == ([]:List UInt8))) = some r:=by rw [if_pos rfl] at H;exact H
             clear H
             have H:=H1
             clear H1
             obtain rfl:=Option.some.inj H
             have hcz60_0:wc.cell? ⟨gb156,0,none⟩ = some (.int .i64 a0_0):=(blk_cell BK156.out 0).trans rfl
             have hcz60_1:wc.cell? ⟨gb156,1,none⟩ = some (.int .i64 a0_1):=(blk_cell BK156.out 1).trans rfl
             have hcz60_2:wc.cell? ⟨gb156,2,none⟩ = some (.int .i64 a0_2):=(blk_cell BK156.out 2).trans rfl
             have hcz60_3:wc.cell? ⟨gb156,3,none⟩ = some (.int .i64 a0_3):=(blk_cell BK156.out 3).trans rfl
             have hcz60_4:wc.cell? ⟨gb156,4,none⟩ = some (.int .i64 a0_4):=(blk_cell BK156.out 4).trans rfl
             have hcz60_5:wc.cell? ⟨gb156,5,none⟩ = some (.int .i64 a0_5):=(blk_cell BK156.out 5).trans rfl
             have hcz60_6:wc.cell? ⟨gb156,6,none⟩ = some (.int .u64 a0_6):=(blk_cell BK156.out 6).trans rfl
             have hcz60_7:wc.cell? ⟨gb156,7,none⟩ = some (.int .i64 a0_7):=(blk_cell BK156.out 7).trans rfl
             have hcz60_8:wc.cell? ⟨gb156,8,none⟩ = some (.string a0_8):=(blk_cell BK156.out 8).trans rfl
             have hcz60_9:wc.cell? ⟨gb156,9,none⟩ = some (.int .i64 a0_9):=(blk_cell BK156.out 9).trans rfl
             have hcz60_10:wc.cell? ⟨gb156,10,none⟩ = some (.int .i64 a0_10):=(blk_cell BK156.out 10).trans rfl
             have hcz60_11:wc.cell? ⟨gb156,11,none⟩ = some (.string a0_11):=(blk_cell BK156.out 11).trans rfl
             have hfz60_0:=blk_frozen BK156.out 0
             have hfz60_1:=blk_frozen BK156.out 1
             have hfz60_2:=blk_frozen BK156.out 2
             have hfz60_3:=blk_frozen BK156.out 3
             have hfz60_4:=blk_frozen BK156.out 4
             have hfz60_5:=blk_frozen BK156.out 5
             have hfz60_6:=blk_frozen BK156.out 6
             have hfz60_7:=blk_frozen BK156.out 7
             have hfz60_8:=blk_frozen BK156.out 8
             have hfz60_9:=blk_frozen BK156.out 9
             have hfz60_10:=blk_frozen BK156.out 10
             have hfz60_11:=blk_frozen BK156.out 11
             go_wp2_with (first | (go_at_call 60;(with_reducible refine (beaconref06_name.calls kj42 a0_8 true _ A57.out).mono ?_);rintro e w' ⟨rfl,⟨nd,rfl⟩⟩))
             go_ret
             exact ⟨by first | rfl | (simp [errW_none,errW_some] <;> rfl) | (simp [*,errW_none,errW_some] <;> rfl),by repeat (first | (with_reducible first | exact HB.out | apply below_alloc | apply pw_below_drewN | apply below_drew1 | refine below_set ?_ GE156.out) | exact HB.out)⟩
            ·replace c59:=Bool.eq_false_iff.mpr c59
             subst c59
             have H1:(some false) = some r:=by rw [if_neg (show ¬ (false = true) by decide)] at H;exact H
             clear H
             have H:=H1
             clear H1
             obtain rfl:=Option.some.inj H
             have hcz61_0:wc.cell? ⟨gb156,0,none⟩ = some (.int .i64 a0_0):=(blk_cell BK156.out 0).trans rfl
             have hcz61_1:wc.cell? ⟨gb156,1,none⟩ = some (.int .i64 a0_1):=(blk_cell BK156.out 1).trans rfl
             have hcz61_2:wc.cell? ⟨gb156,2,none⟩ = some (.int .i64 a0_2):=(blk_cell BK156.out 2).trans rfl
             have hcz61_3:wc.cell? ⟨gb156,3,none⟩ = some (.int .i64 a0_3):=(blk_cell BK156.out 3).trans rfl
             have hcz61_4:wc.cell? ⟨gb156,4,none⟩ = some (.int .i64 a0_4):=(blk_cell BK156.out 4).trans rfl
             have hcz61_5:wc.cell? ⟨gb156,5,none⟩ = some (.int .i64 a0_5):=(blk_cell BK156.out 5).trans rfl
             have hcz61_6:wc.cell? ⟨gb156,6,none⟩ = some (.int .u64 a0_6):=(blk_cell BK156.out 6).trans rfl
             have hcz61_7:wc.cell? ⟨gb156,7,none⟩ = some (.int .i64 a0_7):=(blk_cell BK156.out 7).trans rfl
             have hcz61_8:wc.cell? ⟨gb156,8,none⟩ = some (.string a0_8):=(blk_cell BK156.out 8).trans rfl
             have hcz61_9:wc.cell? ⟨gb156,9,none⟩ = some (.int .i64 a0_9):=(blk_cell BK156.out 9).trans rfl
             have hcz61_10:wc.cell? ⟨gb156,10,none⟩ = some (.int .i64 a0_10):=(blk_cell BK156.out 10).trans rfl
             have hcz61_11:wc.cell? ⟨gb156,11,none⟩ = some (.string a0_11):=(blk_cell BK156.out 11).trans rfl
             have hfz61_0:=blk_frozen BK156.out 0
             have hfz61_1:=blk_frozen BK156.out 1
             have hfz61_2:=blk_frozen BK156.out 2
             have hfz61_3:=blk_frozen BK156.out 3
             have hfz61_4:=blk_frozen BK156.out 4
             have hfz61_5:=blk_frozen BK156.out 5
             have hfz61_6:=blk_frozen BK156.out 6
             have hfz61_7:=blk_frozen BK156.out 7
             have hfz61_8:=blk_frozen BK156.out 8
             have hfz61_9:=blk_frozen BK156.out 9
             have hfz61_10:=blk_frozen BK156.out 10
             have hfz61_11:=blk_frozen BK156.out 11
             go_wp2_with (first | (go_at_call 60;(with_reducible refine (beaconref06_name.calls kj42 a0_8 true _ A57.out).mono ?_);rintro e w' ⟨rfl,⟨nd,rfl⟩⟩))
             go_ret
             exact ⟨by first | rfl | (simp [errW_none,errW_some] <;> rfl) | (simp [*,errW_none,errW_some] <;> rfl),by repeat (first | (with_reducible first | exact HB.out | apply below_alloc | apply pw_below_drewN | apply below_drew1 | refine below_set ?_ GE156.out) | exact HB.out)⟩
           ·replace c58:=Bool.eq_false_iff.mpr c58
            subst c58
            have H1:(some false) = some r:=by rw [if_neg (show ¬ (false = true) by decide)] at H;exact H
            clear H
            have H:=H1
            clear H1
            obtain rfl:=Option.some.inj H
            have hcz62_0:wc.cell? ⟨gb156,0,none⟩ = some (.int .i64 a0_0):=(blk_cell BK156.out 0).trans rfl
            have hcz62_1:wc.cell? ⟨gb156,1,none⟩ = some (.int .i64 a0_1):=(blk_cell BK156.out 1).trans rfl
            have hcz62_2:wc.cell? ⟨gb156,2,none⟩ = some (.int .i64 a0_2):=(blk_cell BK156.out 2).trans rfl
            have hcz62_3:wc.cell? ⟨gb156,3,none⟩ = some (.int .i64 a0_3):=(blk_cell BK156.out 3).trans rfl
            have hcz62_4:wc.cell? ⟨gb156,4,none⟩ = some (.int .i64 a0_4):=(blk_cell BK156.out 4).trans rfl
            have hcz62_5:wc.cell? ⟨gb156,5,none⟩ = some (.int .i64 a0_5):=(blk_cell BK156.out 5).trans rfl
            have hcz62_6:wc.cell? ⟨gb156,6,none⟩ = some (.int .u64 a0_6):=(blk_cell BK156.out 6).trans rfl
            have hcz62_7:wc.cell? ⟨gb156,7,none⟩ = some (.int .i64 a0_7):=(blk_cell BK156.out 7).trans rfl
            have hcz62_8:wc.cell? ⟨gb156,8,none⟩ = some (.string a0_8):=(blk_cell BK156.out 8).trans rfl
            have hcz62_9:wc.cell? ⟨gb156,9,none⟩ = some (.int .i64 a0_9):=(blk_cell BK156.out 9).trans rfl
            have hcz62_10:wc.cell? ⟨gb156,10,none⟩ = some (.int .i64 a0_10):=(blk_cell BK156.out 10).trans rfl
            have hcz62_11:wc.cell? ⟨gb156,11,none⟩ = some (.string a0_11):=(blk_cell BK156.out 11).trans rfl
            have hfz62_0:=blk_frozen BK156.out 0
            have hfz62_1:=blk_frozen BK156.out 1
            have hfz62_2:=blk_frozen BK156.out 2
            have hfz62_3:=blk_frozen BK156.out 3
            have hfz62_4:=blk_frozen BK156.out 4
            have hfz62_5:=blk_frozen BK156.out 5
            have hfz62_6:=blk_frozen BK156.out 6
            have hfz62_7:=blk_frozen BK156.out 7
            have hfz62_8:=blk_frozen BK156.out 8
            have hfz62_9:=blk_frozen BK156.out 9
            have hfz62_10:=blk_frozen BK156.out 10
            have hfz62_11:=blk_frozen BK156.out 11
            go_wp2_with (first | (go_at_call 60;(with_reducible refine (beaconref06_name.calls kj42 a0_8 false _ A57.out).mono ?_);rintro e w' ⟨rfl,⟨nd,rfl⟩⟩))
            go_ret
            exact ⟨by first | rfl | (simp [errW_none,errW_some] <;> rfl) | (simp [*,errW_none,errW_some] <;> rfl),by repeat (first | (with_reducible first | exact HB.out | apply below_alloc | apply pw_below_drewN | apply below_drew1 | refine below_set ?_ GE156.out) | exact HB.out)⟩
          ·rw [if_neg c56] at H
           have c56b0:(a0_7 == 0) = false:=beq_eq_false_iff_ne.mpr c56
           have c56b1:(a0_7 != 0) = true:=bne_iff_ne.mpr c56
           obtain rfl:=Option.some.inj H
           have hcz63_0:wc.cell? ⟨gb156,0,none⟩ = some (.int .i64 a0_0):=(blk_cell BK156.out 0).trans rfl
           have hcz63_1:wc.cell? ⟨gb156,1,none⟩ = some (.int .i64 a0_1):=(blk_cell BK156.out 1).trans rfl
           have hcz63_2:wc.cell? ⟨gb156,2,none⟩ = some (.int .i64 a0_2):=(blk_cell BK156.out 2).trans rfl
           have hcz63_3:wc.cell? ⟨gb156,3,none⟩ = some (.int .i64 a0_3):=(blk_cell BK156.out 3).trans rfl
           have hcz63_4:wc.cell? ⟨gb156,4,none⟩ = some (.int .i64 a0_4):=(blk_cell BK156.out 4).trans rfl
           have hcz63_5:wc.cell? ⟨gb156,5,none⟩ = some (.int .i64 a0_5):=(blk_cell BK156.out 5).trans rfl
           have hcz63_6:wc.cell? ⟨gb156,6,none⟩ = some (.int .u64 a0_6):=(blk_cell BK156.out 6).trans rfl
           have hcz63_7:wc.cell? ⟨gb156,7,none⟩ = some (.int .i64 a0_7):=(blk_cell BK156.out 7).trans rfl
           have hcz63_8:wc.cell? ⟨gb156,8,none⟩ = some (.string a0_8):=(blk_cell BK156.out 8).trans rfl
           have hcz63_9:wc.cell? ⟨gb156,9,none⟩ = some (.int .i64 a0_9):=(blk_cell BK156.out 9).trans rfl
           have hcz63_10:wc.cell? ⟨gb156,10,none⟩ = some (.int .i64 a0_10):=(blk_cell BK156.out 10).trans rfl
           have hcz63_11:wc.cell? ⟨gb156,11,none⟩ = some (.string a0_11):=(blk_cell BK156.out 11).trans rfl
           have hfz63_0:=blk_frozen BK156.out 0
           have hfz63_1:=blk_frozen BK156.out 1
           have hfz63_2:=blk_frozen BK156.out 2
           have hfz63_3:=blk_frozen BK156.out 3
           have hfz63_4:=blk_frozen BK156.out 4
           have hfz63_5:=blk_frozen BK156.out 5
           have hfz63_6:=blk_frozen BK156.out 6
           have hfz63_7:=blk_frozen BK156.out 7
           have hfz63_8:=blk_frozen BK156.out 8
           have hfz63_9:=blk_frozen BK156.out 9
           have hfz63_10:=blk_frozen BK156.out 10
           have hfz63_11:=blk_frozen BK156.out 11
           go_wp2
           go_ret
           exact ⟨by first | rfl | (simp [errW_none,errW_some] <;> rfl) | (simp [*,errW_none,errW_some] <;> rfl),by repeat (first | (with_reducible first | exact HB.out | apply below_alloc | apply pw_below_drewN | apply below_drew1 | refine below_set ?_ GE156.out) | exact HB.out)⟩
         ·rw [if_neg c55] at H
          have c55b0:(a0_0 == 2) = false:=beq_eq_false_iff_ne.mpr c55
          have c55b1:(a0_0 != 2) = true:=bne_iff_ne.mpr c55
          by_cases c64:a0_0 = 3
          ·rw [if_pos c64] at H
           have c64b0:(a0_0 == 3) = true:=beq_iff_eq.mpr c64
           have c64b1:(a0_0 != 3) = false:=bne_eq_false_iff_eq.mpr c64
           clear c64
           by_cases c65:a0_7 = 0
           ·rw [if_pos c65] at H
            have c65b0:(a0_7 == 0) = true:=beq_iff_eq.mpr c65
            have c65b1:(a0_7 != 0) = false:=bne_eq_false_iff_eq.mpr c65
            clear c65
            replace H:=Option.bind_eq_some_iff.mp H
            obtain ⟨t165,A660,H⟩:=H
            replace H:(if t165 = true then (if x4_42 = true then (some (a0_11.toList == ([]:List UInt8))) else (some false)) else (some false)) = some r:=H
            have A66:=Aside0.mk A660
            clear A660
            by_cases c67:t165 = true
            ·subst c67
             have H1:(if x4_42 = true then (some (a0_11.toList == ([]:List UInt8))) else (some false)) = some r:=by rw [if_pos rfl] at H;exact H
             clear H
             have H:=H1
             clear H1
             by_cases c68:x4_42 = true
             ·subst c68
              have H1:(some (a0_11.toList == ([]:List UInt8))) = some r:=by rw [if_pos rfl] at H;exact H
              clear H
              have H:=H1
              clear H1
              obtain rfl:=Option.some.inj H
              have hcz69_0:wc.cell? ⟨gb156,0,none⟩ = some (.int .i64 a0_0):=(blk_cell BK156.out 0).trans rfl
              have hcz69_1:wc.cell? ⟨gb156,1,none⟩ = some (.int .i64 a0_1):=(blk_cell BK156.out 1).trans rfl
              have hcz69_2:wc.cell? ⟨gb156,2,none⟩ = some (.int .i64 a0_2):=(blk_cell BK156.out 2).trans rfl
              have hcz69_3:wc.cell? ⟨gb156,3,none⟩ = some (.int .i64 a0_3):=(blk_cell BK156.out 3).trans rfl
              have hcz69_4:wc.cell? ⟨gb156,4,none⟩ = some (.int .i64 a0_4):=(blk_cell BK156.out 4).trans rfl
              have hcz69_5:wc.cell? ⟨gb156,5,none⟩ = some (.int .i64 a0_5):=(blk_cell BK156.out 5).trans rfl
              have hcz69_6:wc.cell? ⟨gb156,6,none⟩ = some (.int .u64 a0_6):=(blk_cell BK156.out 6).trans rfl
              have hcz69_7:wc.cell? ⟨gb156,7,none⟩ = some (.int .i64 a0_7):=(blk_cell BK156.out 7).trans rfl
              have hcz69_8:wc.cell? ⟨gb156,8,none⟩ = some (.string a0_8):=(blk_cell BK156.out 8).trans rfl
              have hcz69_9:wc.cell? ⟨gb156,9,none⟩ = some (.int .i64 a0_9):=(blk_cell BK156.out 9).trans rfl
              have hcz69_10:wc.cell? ⟨gb156,10,none⟩ = some (.int .i64 a0_10):=(blk_cell BK156.out 10).trans rfl
              have hcz69_11:wc.cell? ⟨gb156,11,none⟩ = some (.string a0_11):=(blk_cell BK156.out 11).trans rfl
              have hfz69_0:=blk_frozen BK156.out 0
              have hfz69_1:=blk_frozen BK156.out 1
              have hfz69_2:=blk_frozen BK156.out 2
              have hfz69_3:=blk_frozen BK156.out 3
              have hfz69_4:=blk_frozen BK156.out 4
              have hfz69_5:=blk_frozen BK156.out 5
              have hfz69_6:=blk_frozen BK156.out 6
              have hfz69_7:=blk_frozen BK156.out 7
              have hfz69_8:=blk_frozen BK156.out 8
              have hfz69_9:=blk_frozen BK156.out 9
              have hfz69_10:=blk_frozen BK156.out 10
              have hfz69_11:=blk_frozen BK156.out 11
              go_wp2_with (first | (go_at_call 60;(with_reducible refine (beaconref06_name.calls kj42 a0_8 true _ A66.out).mono ?_);rintro e w' ⟨rfl,⟨nd,rfl⟩⟩))
              go_ret
              exact ⟨by first | rfl | (simp [errW_none,errW_some] <;> rfl) | (simp [*,errW_none,errW_some] <;> rfl),by repeat (first | (with_reducible first | exact HB.out | apply below_alloc | apply pw_below_drewN | apply below_drew1 | refine below_set ?_ GE156.out) | exact HB.out)⟩
             ·replace c68:=Bool.eq_false_iff.mpr c68
              subst c68
              have H1:(some false) = some r:=by rw [if_neg (show ¬ (false = true) by decide)] at H;exact H
              clear H
              have H:=H1
              clear H1
              obtain rfl:=Option.some.inj H
              have hcz70_0:wc.cell? ⟨gb156,0,none⟩ = some (.int .i64 a0_0):=(blk_cell BK156.out 0).trans rfl
              have hcz70_1:wc.cell? ⟨gb156,1,none⟩ = some (.int .i64 a0_1):=(blk_cell BK156.out 1).trans rfl
              have hcz70_2:wc.cell? ⟨gb156,2,none⟩ = some (.int .i64 a0_2):=(blk_cell BK156.out 2).trans rfl
              have hcz70_3:wc.cell? ⟨gb156,3,none⟩ = some (.int .i64 a0_3):=(blk_cell BK156.out 3).trans rfl
              have hcz70_4:wc.cell? ⟨gb156,4,none⟩ = some (.int .i64 a0_4):=(blk_cell BK156.out 4).trans rfl
              have hcz70_5:wc.cell? ⟨gb156,5,none⟩ = some (.int .i64 a0_5):=(blk_cell BK156.out 5).trans rfl
              have hcz70_6:wc.cell? ⟨gb156,6,none⟩ = some (.int .u64 a0_6):=(blk_cell BK156.out 6).trans rfl
              have hcz70_7:wc.cell? ⟨gb156,7,none⟩ = some (.int .i64 a0_7):=(blk_cell BK156.out 7).trans rfl
              have hcz70_8:wc.cell? ⟨gb156,8,none⟩ = some (.string a0_8):=(blk_cell BK156.out 8).trans rfl
              have hcz70_9:wc.cell? ⟨gb156,9,none⟩ = some (.int .i64 a0_9):=(blk_cell BK156.out 9).trans rfl
              have hcz70_10:wc.cell? ⟨gb156,10,none⟩ = some (.int .i64 a0_10):=(blk_cell BK156.out 10).trans rfl
              have hcz70_11:wc.cell? ⟨gb156,11,none⟩ = some (.string a0_11):=(blk_cell BK156.out 11).trans rfl
              have hfz70_0:=blk_frozen BK156.out 0
              have hfz70_1:=blk_frozen BK156.out 1
              have hfz70_2:=blk_frozen BK156.out 2
              have hfz70_3:=blk_frozen BK156.out 3
              have hfz70_4:=blk_frozen BK156.out 4
              have hfz70_5:=blk_frozen BK156.out 5
              have hfz70_6:=blk_frozen BK156.out 6
              have hfz70_7:=blk_frozen BK156.out 7
              have hfz70_8:=blk_frozen BK156.out 8
              have hfz70_9:=blk_frozen BK156.out 9
              have hfz70_10:=blk_frozen BK156.out 10
              have hfz70_11:=blk_frozen BK156.out 11
              go_wp2_with (first | (go_at_call 60;(with_reducible refine (beaconref06_name.calls kj42 a0_8 true _ A66.out).mono ?_);rintro e w' ⟨rfl,⟨nd,rfl⟩⟩))
              go_ret
              exact ⟨by first | rfl | (simp [errW_none,errW_some] <;> rfl) | (simp [*,errW_none,errW_some] <;> rfl),by repeat (first | (with_reducible first | exact HB.out | apply below_alloc | apply pw_below_drewN | apply below_drew1 | refine below_set ?_ GE156.out) | exact HB.out)⟩
            ·replace c67:=Bool.eq_false_iff.mpr c67
             subst c67
             have H1:(some false) = some r:=by rw [if_neg (show ¬ (false = true) by decide)] at H;exact H
             clear H
             have H:=H1
             clear H1
             obtain rfl:=Option.some.inj H
             have hcz71_0:wc.cell? ⟨gb156,0,none⟩ = some (.int .i64 a0_0):=(blk_cell BK156.out 0).trans rfl
             have hcz71_1:wc.cell? ⟨gb156,1,none⟩ = some (.int .i64 a0_1):=(blk_cell BK156.out 1).trans rfl
             have hcz71_2:wc.cell? ⟨gb156,2,none⟩ = some (.int .i64 a0_2):=(blk_cell BK156.out 2).trans rfl
             have hcz71_3:wc.cell? ⟨gb156,3,none⟩ = some (.int .i64 a0_3):=(blk_cell BK156.out 3).trans rfl
             have hcz71_4:wc.cell? ⟨gb156,4,none⟩ = some (.int .i64 a0_4):=(blk_cell BK156.out 4).trans rfl
             have hcz71_5:wc.cell? ⟨gb156,5,none⟩ = some (.int .i64 a0_5):=(blk_cell BK156.out 5).trans rfl
             have hcz71_6:wc.cell? ⟨gb156,6,none⟩ = some (.int .u64 a0_6):=(blk_cell BK156.out 6).trans rfl
             have hcz71_7:wc.cell? ⟨gb156,7,none⟩ = some (.int .i64 a0_7):=(blk_cell BK156.out 7).trans rfl
             have hcz71_8:wc.cell? ⟨gb156,8,none⟩ = some (.string a0_8):=(blk_cell BK156.out 8).trans rfl
             have hcz71_9:wc.cell? ⟨gb156,9,none⟩ = some (.int .i64 a0_9):=(blk_cell BK156.out 9).trans rfl
             have hcz71_10:wc.cell? ⟨gb156,10,none⟩ = some (.int .i64 a0_10):=(blk_cell BK156.out 10).trans rfl
             have hcz71_11:wc.cell? ⟨gb156,11,none⟩ = some (.string a0_11):=(blk_cell BK156.out 11).trans rfl
             have hfz71_0:=blk_frozen BK156.out 0
             have hfz71_1:=blk_frozen BK156.out 1
             have hfz71_2:=blk_frozen BK156.out 2
             have hfz71_3:=blk_frozen BK156.out 3
             have hfz71_4:=blk_frozen BK156.out 4
             have hfz71_5:=blk_frozen BK156.out 5
             have hfz71_6:=blk_frozen BK156.out 6
             have hfz71_7:=blk_frozen BK156.out 7
             have hfz71_8:=blk_frozen BK156.out 8
             have hfz71_9:=blk_frozen BK156.out 9
             have hfz71_10:=blk_frozen BK156.out 10
             have hfz71_11:=blk_frozen BK156.out 11
             go_wp2_with (first | (go_at_call 60;(with_reducible refine (beaconref06_name.calls kj42 a0_8 false _ A66.out).mono ?_);rintro e w' ⟨rfl,⟨nd,rfl⟩⟩))
             go_ret
             exact ⟨by first | rfl | (simp [errW_none,errW_some] <;> rfl) | (simp [*,errW_none,errW_some] <;> rfl),by repeat (first | (with_reducible first | exact HB.out | apply below_alloc | apply pw_below_drewN | apply below_drew1 | refine below_set ?_ GE156.out) | exact HB.out)⟩
           ·rw [if_neg c65] at H
            have c65b0:(a0_7 == 0) = false:=beq_eq_false_iff_ne.mpr c65
            have c65b1:(a0_7 != 0) = true:=bne_iff_ne.mpr c65
            obtain rfl:=Option.some.inj H
            have hcz72_0:wc.cell? ⟨gb156,0,none⟩ = some (.int .i64 a0_0):=(blk_cell BK156.out 0).trans rfl
            have hcz72_1:wc.cell? ⟨gb156,1,none⟩ = some (.int .i64 a0_1):=(blk_cell BK156.out 1).trans rfl
            have hcz72_2:wc.cell? ⟨gb156,2,none⟩ = some (.int .i64 a0_2):=(blk_cell BK156.out 2).trans rfl
            have hcz72_3:wc.cell? ⟨gb156,3,none⟩ = some (.int .i64 a0_3):=(blk_cell BK156.out 3).trans rfl
            have hcz72_4:wc.cell? ⟨gb156,4,none⟩ = some (.int .i64 a0_4):=(blk_cell BK156.out 4).trans rfl
            have hcz72_5:wc.cell? ⟨gb156,5,none⟩ = some (.int .i64 a0_5):=(blk_cell BK156.out 5).trans rfl
            have hcz72_6:wc.cell? ⟨gb156,6,none⟩ = some (.int .u64 a0_6):=(blk_cell BK156.out 6).trans rfl
            have hcz72_7:wc.cell? ⟨gb156,7,none⟩ = some (.int .i64 a0_7):=(blk_cell BK156.out 7).trans rfl
            have hcz72_8:wc.cell? ⟨gb156,8,none⟩ = some (.string a0_8):=(blk_cell BK156.out 8).trans rfl
            have hcz72_9:wc.cell? ⟨gb156,9,none⟩ = some (.int .i64 a0_9):=(blk_cell BK156.out 9).trans rfl
            have hcz72_10:wc.cell? ⟨gb156,10,none⟩ = some (.int .i64 a0_10):=(blk_cell BK156.out 10).trans rfl
            have hcz72_11:wc.cell? ⟨gb156,11,none⟩ = some (.string a0_11):=(blk_cell BK156.out 11).trans rfl
            have hfz72_0:=blk_frozen BK156.out 0
            have hfz72_1:=blk_frozen BK156.out 1
            have hfz72_2:=blk_frozen BK156.out 2
            have hfz72_3:=blk_frozen BK156.out 3
            have hfz72_4:=blk_frozen BK156.out 4
            have hfz72_5:=blk_frozen BK156.out 5
            have hfz72_6:=blk_frozen BK156.out 6
            have hfz72_7:=blk_frozen BK156.out 7
            have hfz72_8:=blk_frozen BK156.out 8
            have hfz72_9:=blk_frozen BK156.out 9
            have hfz72_10:=blk_frozen BK156.out 10
            have hfz72_11:=blk_frozen BK156.out 11
            go_wp2
            go_ret
            exact ⟨by first | rfl | (simp [errW_none,errW_some] <;> rfl) | (simp [*,errW_none,errW_some] <;> rfl),by repeat (first | (with_reducible first | exact HB.out | apply below_alloc | apply pw_below_drewN | apply below_drew1 | refine below_set ?_ GE156.out) | exact HB.out)⟩
          ·rw [if_neg c64] at H
           have c64b0:(a0_0 == 3) = false:=beq_eq_false_iff_ne.mpr c64
           have c64b1:(a0_0 != 3) = true:=bne_iff_ne.mpr c64
           by_cases c73:a0_0 = 4
           ·rw [if_pos c73] at H
            have c73b0:(a0_0 == 4) = true:=beq_iff_eq.mpr c73
            have c73b1:(a0_0 != 4) = false:=bne_eq_false_iff_eq.mpr c73
            clear c73
            replace H:=Option.bind_eq_some_iff.mp H
            obtain ⟨t166,A740,H⟩:=H
            replace H:(if t166 = true then (if a0_11.toList = ([]:List UInt8) then (if a0_7 = 0 then (if x3_34 = true then (some true) else (if a0_7 = 1 then (some x4_42) else (some false))) else (if a0_7 = 1 then (some x4_42) else (some false))) else (some false)) else (some false)) = some r:=H
            have A74:=Aside0.mk A740
            clear A740
            by_cases c75:t166 = true
            ·subst c75
             have H1:(if a0_11.toList = ([]:List UInt8) then (if a0_7 = 0 then (if x3_34 = true then (some true) else (if a0_7 = 1 then (some x4_42) else (some false))) else (if a0_7 = 1 then (some x4_42) else (some false))) else (some false)) = some r:=by rw [if_pos rfl] at H;exact H
             clear H
             have H:=H1
             clear H1
             by_cases c76:a0_11.toList = ([]:List UInt8)
             ·rw [if_pos c76] at H
              have c76b0:(a0_11.toList == ([]:List UInt8)) = true:=beq_iff_eq.mpr c76
              have c76b1:(a0_11.toList != ([]:List UInt8)) = false:=bne_eq_false_iff_eq.mpr c76
              clear c76
              by_cases c77:a0_7 = 0
              ·rw [if_pos c77] at H
               have c77b0:(a0_7 == 0) = true:=beq_iff_eq.mpr c77
               have c77b1:(a0_7 != 0) = false:=bne_eq_false_iff_eq.mpr c77
               clear c77
               by_cases c78:x3_34 = true
               ·subst c78
                have H1:(some true) = some r:=by rw [if_pos rfl] at H;exact H
                clear H
                have H:=H1
                clear H1
                obtain rfl:=Option.some.inj H
                have hcz79_0:wc.cell? ⟨gb156,0,none⟩ = some (.int .i64 a0_0):=(blk_cell BK156.out 0).trans rfl
                have hcz79_1:wc.cell? ⟨gb156,1,none⟩ = some (.int .i64 a0_1):=(blk_cell BK156.out 1).trans rfl
                have hcz79_2:wc.cell? ⟨gb156,2,none⟩ = some (.int .i64 a0_2):=(blk_cell BK156.out 2).trans rfl
                have hcz79_3:wc.cell? ⟨gb156,3,none⟩ = some (.int .i64 a0_3):=(blk_cell BK156.out 3).trans rfl
                have hcz79_4:wc.cell? ⟨gb156,4,none⟩ = some (.int .i64 a0_4):=(blk_cell BK156.out 4).trans rfl
                have hcz79_5:wc.cell? ⟨gb156,5,none⟩ = some (.int .i64 a0_5):=(blk_cell BK156.out 5).trans rfl
                have hcz79_6:wc.cell? ⟨gb156,6,none⟩ = some (.int .u64 a0_6):=(blk_cell BK156.out 6).trans rfl
                have hcz79_7:wc.cell? ⟨gb156,7,none⟩ = some (.int .i64 a0_7):=(blk_cell BK156.out 7).trans rfl
                have hcz79_8:wc.cell? ⟨gb156,8,none⟩ = some (.string a0_8):=(blk_cell BK156.out 8).trans rfl
                have hcz79_9:wc.cell? ⟨gb156,9,none⟩ = some (.int .i64 a0_9):=(blk_cell BK156.out 9).trans rfl
                have hcz79_10:wc.cell? ⟨gb156,10,none⟩ = some (.int .i64 a0_10):=(blk_cell BK156.out 10).trans rfl
                have hcz79_11:wc.cell? ⟨gb156,11,none⟩ = some (.string a0_11):=(blk_cell BK156.out 11).trans rfl
                have hfz79_0:=blk_frozen BK156.out 0
                have hfz79_1:=blk_frozen BK156.out 1
                have hfz79_2:=blk_frozen BK156.out 2
                have hfz79_3:=blk_frozen BK156.out 3
                have hfz79_4:=blk_frozen BK156.out 4
                have hfz79_5:=blk_frozen BK156.out 5
                have hfz79_6:=blk_frozen BK156.out 6
                have hfz79_7:=blk_frozen BK156.out 7
                have hfz79_8:=blk_frozen BK156.out 8
                have hfz79_9:=blk_frozen BK156.out 9
                have hfz79_10:=blk_frozen BK156.out 10
                have hfz79_11:=blk_frozen BK156.out 11
                go_wp2_with (first | ((with_reducible refine gate_callee (f:=60) rfl ?_);refine goesL_ (some 129) rfl rfl Try.func60 (by kernel_rfl) rfl #[.string a0_8] rfl (by (try simp only [List.map_toArray,List.map_cons,List.map_nil]);first | done | rfl | (simp only [List.length_drop,List.length_take];rfl)) ?_;(with_reducible refine (beaconref06_name.calls kj42 a0_8 true _ A74.out).mono ?_);rintro e w' ⟨rfl,⟨nd,rfl⟩⟩;refine ⟨_,rfl,?_⟩))
                go_ret
                exact ⟨by first | rfl | (simp [errW_none,errW_some] <;> rfl) | (simp [*,errW_none,errW_some] <;> rfl),by repeat (first | (with_reducible first | exact HB.out | apply below_alloc | apply pw_below_drewN | apply below_drew1 | refine below_set ?_ GE156.out) | exact HB.out)⟩
               ·replace c78:=Bool.eq_false_iff.mpr c78
                subst c78
                have H1:(if a0_7 = 1 then (some x4_42) else (some false)) = some r:=by rw [if_neg (show ¬ (false = true) by decide)] at H;exact H
                clear H
                have H:=H1
                clear H1
                by_cases c80:a0_7 = 1
                ·rw [if_pos c80] at H
                 have c80b0:(a0_7 == 1) = true:=beq_iff_eq.mpr c80
                 have c80b1:(a0_7 != 1) = false:=bne_eq_false_iff_eq.mpr c80
                 clear c80
                 obtain rfl:=Option.some.inj H
                 have hcz81_0:wc.cell? ⟨gb156,0,none⟩ = some (.int .i64 a0_0):=(blk_cell BK156.out 0).trans rfl
                 have hcz81_1:wc.cell? ⟨gb156,1,none⟩ = some (.int .i64 a0_1):=(blk_cell BK156.out 1).trans rfl
                 have hcz81_2:wc.cell? ⟨gb156,2,none⟩ = some (.int .i64 a0_2):=(blk_cell BK156.out 2).trans rfl
                 have hcz81_3:wc.cell? ⟨gb156,3,none⟩ = some (.int .i64 a0_3):=(blk_cell BK156.out 3).trans rfl
                 have hcz81_4:wc.cell? ⟨gb156,4,none⟩ = some (.int .i64 a0_4):=(blk_cell BK156.out 4).trans rfl
                 have hcz81_5:wc.cell? ⟨gb156,5,none⟩ = some (.int .i64 a0_5):=(blk_cell BK156.out 5).trans rfl
                 have hcz81_6:wc.cell? ⟨gb156,6,none⟩ = some (.int .u64 a0_6):=(blk_cell BK156.out 6).trans rfl
                 have hcz81_7:wc.cell? ⟨gb156,7,none⟩ = some (.int .i64 a0_7):=(blk_cell BK156.out 7).trans rfl
                 have hcz81_8:wc.cell? ⟨gb156,8,none⟩ = some (.string a0_8):=(blk_cell BK156.out 8).trans rfl
                 have hcz81_9:wc.cell? ⟨gb156,9,none⟩ = some (.int .i64 a0_9):=(blk_cell BK156.out 9).trans rfl
                 have hcz81_10:wc.cell? ⟨gb156,10,none⟩ = some (.int .i64 a0_10):=(blk_cell BK156.out 10).trans rfl
                 have hcz81_11:wc.cell? ⟨gb156,11,none⟩ = some (.string a0_11):=(blk_cell BK156.out 11).trans rfl
                 have hfz81_0:=blk_frozen BK156.out 0
                 have hfz81_1:=blk_frozen BK156.out 1
                 have hfz81_2:=blk_frozen BK156.out 2
                 have hfz81_3:=blk_frozen BK156.out 3
                 have hfz81_4:=blk_frozen BK156.out 4
                 have hfz81_5:=blk_frozen BK156.out 5
                 have hfz81_6:=blk_frozen BK156.out 6
                 have hfz81_7:=blk_frozen BK156.out 7
                 have hfz81_8:=blk_frozen BK156.out 8
                 have hfz81_9:=blk_frozen BK156.out 9
                 have hfz81_10:=blk_frozen BK156.out 10
                 have hfz81_11:=blk_frozen BK156.out 11
                 go_wp2_with (first | ((with_reducible refine gate_callee (f:=60) rfl ?_);refine goesL_ (some 129) rfl rfl Try.func60 (by kernel_rfl) rfl #[.string a0_8] rfl (by (try simp only [List.map_toArray,List.map_cons,List.map_nil]);first | done | rfl | (simp only [List.length_drop,List.length_take];rfl)) ?_;(with_reducible refine (beaconref06_name.calls kj42 a0_8 true _ A74.out).mono ?_);rintro e w' ⟨rfl,⟨nd,rfl⟩⟩;refine ⟨_,rfl,?_⟩))
                 go_ret
                 exact ⟨by first | rfl | (simp [errW_none,errW_some] <;> rfl) | (simp [*,errW_none,errW_some] <;> rfl),by repeat (first | (with_reducible first | exact HB.out | apply below_alloc | apply pw_below_drewN | apply below_drew1 | refine below_set ?_ GE156.out) | exact HB.out)⟩
                ·rw [if_neg c80] at H
                 have c80b0:(a0_7 == 1) = false:=beq_eq_false_iff_ne.mpr c80
                 have c80b1:(a0_7 != 1) = true:=bne_iff_ne.mpr c80
                 obtain rfl:=Option.some.inj H
                 have hcz82_0:wc.cell? ⟨gb156,0,none⟩ = some (.int .i64 a0_0):=(blk_cell BK156.out 0).trans rfl
                 have hcz82_1:wc.cell? ⟨gb156,1,none⟩ = some (.int .i64 a0_1):=(blk_cell BK156.out 1).trans rfl
                 have hcz82_2:wc.cell? ⟨gb156,2,none⟩ = some (.int .i64 a0_2):=(blk_cell BK156.out 2).trans rfl
                 have hcz82_3:wc.cell? ⟨gb156,3,none⟩ = some (.int .i64 a0_3):=(blk_cell BK156.out 3).trans rfl
                 have hcz82_4:wc.cell? ⟨gb156,4,none⟩ = some (.int .i64 a0_4):=(blk_cell BK156.out 4).trans rfl
                 have hcz82_5:wc.cell? ⟨gb156,5,none⟩ = some (.int .i64 a0_5):=(blk_cell BK156.out 5).trans rfl
                 have hcz82_6:wc.cell? ⟨gb156,6,none⟩ = some (.int .u64 a0_6):=(blk_cell BK156.out 6).trans rfl
                 have hcz82_7:wc.cell? ⟨gb156,7,none⟩ = some (.int .i64 a0_7):=(blk_cell BK156.out 7).trans rfl
                 have hcz82_8:wc.cell? ⟨gb156,8,none⟩ = some (.string a0_8):=(blk_cell BK156.out 8).trans rfl
                 have hcz82_9:wc.cell? ⟨gb156,9,none⟩ = some (.int .i64 a0_9):=(blk_cell BK156.out 9).trans rfl
                 have hcz82_10:wc.cell? ⟨gb156,10,none⟩ = some (.int .i64 a0_10):=(blk_cell BK156.out 10).trans rfl
                 have hcz82_11:wc.cell? ⟨gb156,11,none⟩ = some (.string a0_11):=(blk_cell BK156.out 11).trans rfl
                 have hfz82_0:=blk_frozen BK156.out 0
                 have hfz82_1:=blk_frozen BK156.out 1
                 have hfz82_2:=blk_frozen BK156.out 2
                 have hfz82_3:=blk_frozen BK156.out 3
                 have hfz82_4:=blk_frozen BK156.out 4
                 have hfz82_5:=blk_frozen BK156.out 5
                 have hfz82_6:=blk_frozen BK156.out 6
                 have hfz82_7:=blk_frozen BK156.out 7
                 have hfz82_8:=blk_frozen BK156.out 8
                 have hfz82_9:=blk_frozen BK156.out 9
                 have hfz82_10:=blk_frozen BK156.out 10
                 have hfz82_11:=blk_frozen BK156.out 11
                 go_wp2_with (first | ((with_reducible refine gate_callee (f:=60) rfl ?_);refine goesL_ (some 129) rfl rfl Try.func60 (by kernel_rfl) rfl #[.string a0_8] rfl (by (try simp only [List.map_toArray,List.map_cons,List.map_nil]);first | done | rfl | (simp only [List.length_drop,List.length_take];rfl)) ?_;(with_reducible refine (beaconref06_name.calls kj42 a0_8 true _ A74.out).mono ?_);rintro e w' ⟨rfl,⟨nd,rfl⟩⟩;refine ⟨_,rfl,?_⟩))
                 go_ret
                 exact ⟨by first | rfl | (simp [errW_none,errW_some] <;> rfl) | (simp [*,errW_none,errW_some] <;> rfl),by repeat (first | (with_reducible first | exact HB.out | apply below_alloc | apply pw_below_drewN | apply below_drew1 | refine below_set ?_ GE156.out) | exact HB.out)⟩
              ·rw [if_neg c77] at H
               have c77b0:(a0_7 == 0) = false:=beq_eq_false_iff_ne.mpr c77
               have c77b1:(a0_7 != 0) = true:=bne_iff_ne.mpr c77
               by_cases c83:a0_7 = 1
               ·rw [if_pos c83] at H
                have c83b0:(a0_7 == 1) = true:=beq_iff_eq.mpr c83
                have c83b1:(a0_7 != 1) = false:=bne_eq_false_iff_eq.mpr c83
                clear c83
                obtain rfl:=Option.some.inj H
                have hcz84_0:wc.cell? ⟨gb156,0,none⟩ = some (.int .i64 a0_0):=(blk_cell BK156.out 0).trans rfl
                have hcz84_1:wc.cell? ⟨gb156,1,none⟩ = some (.int .i64 a0_1):=(blk_cell BK156.out 1).trans rfl
                have hcz84_2:wc.cell? ⟨gb156,2,none⟩ = some (.int .i64 a0_2):=(blk_cell BK156.out 2).trans rfl
                have hcz84_3:wc.cell? ⟨gb156,3,none⟩ = some (.int .i64 a0_3):=(blk_cell BK156.out 3).trans rfl
                have hcz84_4:wc.cell? ⟨gb156,4,none⟩ = some (.int .i64 a0_4):=(blk_cell BK156.out 4).trans rfl
                have hcz84_5:wc.cell? ⟨gb156,5,none⟩ = some (.int .i64 a0_5):=(blk_cell BK156.out 5).trans rfl
                have hcz84_6:wc.cell? ⟨gb156,6,none⟩ = some (.int .u64 a0_6):=(blk_cell BK156.out 6).trans rfl
                have hcz84_7:wc.cell? ⟨gb156,7,none⟩ = some (.int .i64 a0_7):=(blk_cell BK156.out 7).trans rfl
                have hcz84_8:wc.cell? ⟨gb156,8,none⟩ = some (.string a0_8):=(blk_cell BK156.out 8).trans rfl
                have hcz84_9:wc.cell? ⟨gb156,9,none⟩ = some (.int .i64 a0_9):=(blk_cell BK156.out 9).trans rfl
                have hcz84_10:wc.cell? ⟨gb156,10,none⟩ = some (.int .i64 a0_10):=(blk_cell BK156.out 10).trans rfl
                have hcz84_11:wc.cell? ⟨gb156,11,none⟩ = some (.string a0_11):=(blk_cell BK156.out 11).trans rfl
                have hfz84_0:=blk_frozen BK156.out 0
                have hfz84_1:=blk_frozen BK156.out 1
                have hfz84_2:=blk_frozen BK156.out 2
                have hfz84_3:=blk_frozen BK156.out 3
                have hfz84_4:=blk_frozen BK156.out 4
                have hfz84_5:=blk_frozen BK156.out 5
                have hfz84_6:=blk_frozen BK156.out 6
                have hfz84_7:=blk_frozen BK156.out 7
                have hfz84_8:=blk_frozen BK156.out 8
                have hfz84_9:=blk_frozen BK156.out 9
                have hfz84_10:=blk_frozen BK156.out 10
                have hfz84_11:=blk_frozen BK156.out 11
                go_wp2_with (first | ((with_reducible refine gate_callee (f:=60) rfl ?_);refine goesL_ (some 129) rfl rfl Try.func60 (by kernel_rfl) rfl #[.string a0_8] rfl (by (try simp only [List.map_toArray,List.map_cons,List.map_nil]);first | done | rfl | (simp only [List.length_drop,List.length_take];rfl)) ?_;(with_reducible refine (beaconref06_name.calls kj42 a0_8 true _ A74.out).mono ?_);rintro e w' ⟨rfl,⟨nd,rfl⟩⟩;refine ⟨_,rfl,?_⟩))
                go_ret
                exact ⟨by first | rfl | (simp [errW_none,errW_some] <;> rfl) | (simp [*,errW_none,errW_some] <;> rfl),by repeat (first | (with_reducible first | exact HB.out | apply below_alloc | apply pw_below_drewN | apply below_drew1 | refine below_set ?_ GE156.out) | exact HB.out)⟩
               ·rw [if_neg c83] at H
                have c83b0:(a0_7 == 1) = false:=beq_eq_false_iff_ne.mpr c83
                have c83b1:(a0_7 != 1) = true:=bne_iff_ne.mpr c83
                obtain rfl:=Option.some.inj H
                have hcz85_0:wc.cell? ⟨gb156,0,none⟩ = some (.int .i64 a0_0):=(blk_cell BK156.out 0).trans rfl
                have hcz85_1:wc.cell? ⟨gb156,1,none⟩ = some (.int .i64 a0_1):=(blk_cell BK156.out 1).trans rfl
                have hcz85_2:wc.cell? ⟨gb156,2,none⟩ = some (.int .i64 a0_2):=(blk_cell BK156.out 2).trans rfl
                have hcz85_3:wc.cell? ⟨gb156,3,none⟩ = some (.int .i64 a0_3):=(blk_cell BK156.out 3).trans rfl
                have hcz85_4:wc.cell? ⟨gb156,4,none⟩ = some (.int .i64 a0_4):=(blk_cell BK156.out 4).trans rfl
                have hcz85_5:wc.cell? ⟨gb156,5,none⟩ = some (.int .i64 a0_5):=(blk_cell BK156.out 5).trans rfl
                have hcz85_6:wc.cell? ⟨gb156,6,none⟩ = some (.int .u64 a0_6):=(blk_cell BK156.out 6).trans rfl
                have hcz85_7:wc.cell? ⟨gb156,7,none⟩ = some (.int .i64 a0_7):=(blk_cell BK156.out 7).trans rfl
                have hcz85_8:wc.cell? ⟨gb156,8,none⟩ = some (.string a0_8):=(blk_cell BK156.out 8).trans rfl
                have hcz85_9:wc.cell? ⟨gb156,9,none⟩ = some (.int .i64 a0_9):=(blk_cell BK156.out 9).trans rfl
                have hcz85_10:wc.cell? ⟨gb156,10,none⟩ = some (.int .i64 a0_10):=(blk_cell BK156.out 10).trans rfl
                have hcz85_11:wc.cell? ⟨gb156,11,none⟩ = some (.string a0_11):=(blk_cell BK156.out 11).trans rfl
                have hfz85_0:=blk_frozen BK156.out 0
                have hfz85_1:=blk_frozen BK156.out 1
                have hfz85_2:=blk_frozen BK156.out 2
                have hfz85_3:=blk_frozen BK156.out 3
                have hfz85_4:=blk_frozen BK156.out 4
                have hfz85_5:=blk_frozen BK156.out 5
                have hfz85_6:=blk_frozen BK156.out 6
                have hfz85_7:=blk_frozen BK156.out 7
                have hfz85_8:=blk_frozen BK156.out 8
                have hfz85_9:=blk_frozen BK156.out 9
                have hfz85_10:=blk_frozen BK156.out 10
                have hfz85_11:=blk_frozen BK156.out 11
                go_wp2_with (first | ((with_reducible refine gate_callee (f:=60) rfl ?_);refine goesL_ (some 129) rfl rfl Try.func60 (by kernel_rfl) rfl #[.string a0_8] rfl (by (try simp only [List.map_toArray,List.map_cons,List.map_nil]);first | done | rfl | (simp only [List.length_drop,List.length_take];rfl)) ?_;(with_reducible refine (beaconref06_name.calls kj42 a0_8 true _ A74.out).mono ?_);rintro e w' ⟨rfl,⟨nd,rfl⟩⟩;refine ⟨_,rfl,?_⟩))
                go_ret
                exact ⟨by first | rfl | (simp [errW_none,errW_some] <;> rfl) | (simp [*,errW_none,errW_some] <;> rfl),by repeat (first | (with_reducible first | exact HB.out | apply below_alloc | apply pw_below_drewN | apply below_drew1 | refine below_set ?_ GE156.out) | exact HB.out)⟩
             ·rw [if_neg c76] at H
              have c76b0:(a0_11.toList == ([]:List UInt8)) = false:=beq_eq_false_iff_ne.mpr c76
              have c76b1:(a0_11.toList != ([]:List UInt8)) = true:=bne_iff_ne.mpr c76
              obtain rfl:=Option.some.inj H
              have hcz86_0:wc.cell? ⟨gb156,0,none⟩ = some (.int .i64 a0_0):=(blk_cell BK156.out 0).trans rfl
              have hcz86_1:wc.cell? ⟨gb156,1,none⟩ = some (.int .i64 a0_1):=(blk_cell BK156.out 1).trans rfl
              have hcz86_2:wc.cell? ⟨gb156,2,none⟩ = some (.int .i64 a0_2):=(blk_cell BK156.out 2).trans rfl
              have hcz86_3:wc.cell? ⟨gb156,3,none⟩ = some (.int .i64 a0_3):=(blk_cell BK156.out 3).trans rfl
              have hcz86_4:wc.cell? ⟨gb156,4,none⟩ = some (.int .i64 a0_4):=(blk_cell BK156.out 4).trans rfl
              have hcz86_5:wc.cell? ⟨gb156,5,none⟩ = some (.int .i64 a0_5):=(blk_cell BK156.out 5).trans rfl
              have hcz86_6:wc.cell? ⟨gb156,6,none⟩ = some (.int .u64 a0_6):=(blk_cell BK156.out 6).trans rfl
              have hcz86_7:wc.cell? ⟨gb156,7,none⟩ = some (.int .i64 a0_7):=(blk_cell BK156.out 7).trans rfl
              have hcz86_8:wc.cell? ⟨gb156,8,none⟩ = some (.string a0_8):=(blk_cell BK156.out 8).trans rfl
              have hcz86_9:wc.cell? ⟨gb156,9,none⟩ = some (.int .i64 a0_9):=(blk_cell BK156.out 9).trans rfl
              have hcz86_10:wc.cell? ⟨gb156,10,none⟩ = some (.int .i64 a0_10):=(blk_cell BK156.out 10).trans rfl
              have hcz86_11:wc.cell? ⟨gb156,11,none⟩ = some (.string a0_11):=(blk_cell BK156.out 11).trans rfl
              have hfz86_0:=blk_frozen BK156.out 0
              have hfz86_1:=blk_frozen BK156.out 1
              have hfz86_2:=blk_frozen BK156.out 2
              have hfz86_3:=blk_frozen BK156.out 3
              have hfz86_4:=blk_frozen BK156.out 4
              have hfz86_5:=blk_frozen BK156.out 5
              have hfz86_6:=blk_frozen BK156.out 6
              have hfz86_7:=blk_frozen BK156.out 7
              have hfz86_8:=blk_frozen BK156.out 8
              have hfz86_9:=blk_frozen BK156.out 9
              have hfz86_10:=blk_frozen BK156.out 10
              have hfz86_11:=blk_frozen BK156.out 11
              go_wp2_with (first | ((with_reducible refine gate_callee (f:=60) rfl ?_);refine goesL_ (some 129) rfl rfl Try.func60 (by kernel_rfl) rfl #[.string a0_8] rfl (by (try simp only [List.map_toArray,List.map_cons,List.map_nil]);first | done | rfl | (simp only [List.length_drop,List.length_take];rfl)) ?_;(with_reducible refine (beaconref06_name.calls kj42 a0_8 true _ A74.out).mono ?_);rintro e w' ⟨rfl,⟨nd,rfl⟩⟩;refine ⟨_,rfl,?_⟩))
              go_ret
              exact ⟨by first | rfl | (simp [errW_none,errW_some] <;> rfl) | (simp [*,errW_none,errW_some] <;> rfl),by repeat (first | (with_reducible first | exact HB.out | apply below_alloc | apply pw_below_drewN | apply below_drew1 | refine below_set ?_ GE156.out) | exact HB.out)⟩
            ·replace c75:=Bool.eq_false_iff.mpr c75
             subst c75
             have H1:(some false) = some r:=by rw [if_neg (show ¬ (false = true) by decide)] at H;exact H
             clear H
             have H:=H1
             clear H1
             obtain rfl:=Option.some.inj H
             have hcz87_0:wc.cell? ⟨gb156,0,none⟩ = some (.int .i64 a0_0):=(blk_cell BK156.out 0).trans rfl
             have hcz87_1:wc.cell? ⟨gb156,1,none⟩ = some (.int .i64 a0_1):=(blk_cell BK156.out 1).trans rfl
             have hcz87_2:wc.cell? ⟨gb156,2,none⟩ = some (.int .i64 a0_2):=(blk_cell BK156.out 2).trans rfl
             have hcz87_3:wc.cell? ⟨gb156,3,none⟩ = some (.int .i64 a0_3):=(blk_cell BK156.out 3).trans rfl
             have hcz87_4:wc.cell? ⟨gb156,4,none⟩ = some (.int .i64 a0_4):=(blk_cell BK156.out 4).trans rfl
             have hcz87_5:wc.cell? ⟨gb156,5,none⟩ = some (.int .i64 a0_5):=(blk_cell BK156.out 5).trans rfl
             have hcz87_6:wc.cell? ⟨gb156,6,none⟩ = some (.int .u64 a0_6):=(blk_cell BK156.out 6).trans rfl
             have hcz87_7:wc.cell? ⟨gb156,7,none⟩ = some (.int .i64 a0_7):=(blk_cell BK156.out 7).trans rfl
             have hcz87_8:wc.cell? ⟨gb156,8,none⟩ = some (.string a0_8):=(blk_cell BK156.out 8).trans rfl
             have hcz87_9:wc.cell? ⟨gb156,9,none⟩ = some (.int .i64 a0_9):=(blk_cell BK156.out 9).trans rfl
             have hcz87_10:wc.cell? ⟨gb156,10,none⟩ = some (.int .i64 a0_10):=(blk_cell BK156.out 10).trans rfl
             have hcz87_11:wc.cell? ⟨gb156,11,none⟩ = some (.string a0_11):=(blk_cell BK156.out 11).trans rfl
             have hfz87_0:=blk_frozen BK156.out 0
             have hfz87_1:=blk_frozen BK156.out 1
             have hfz87_2:=blk_frozen BK156.out 2
             have hfz87_3:=blk_frozen BK156.out 3
             have hfz87_4:=blk_frozen BK156.out 4
             have hfz87_5:=blk_frozen BK156.out 5
             have hfz87_6:=blk_frozen BK156.out 6
             have hfz87_7:=blk_frozen BK156.out 7
             have hfz87_8:=blk_frozen BK156.out 8
             have hfz87_9:=blk_frozen BK156.out 9
             have hfz87_10:=blk_frozen BK156.out 10
             have hfz87_11:=blk_frozen BK156.out 11
             go_wp2_with (first | ((with_reducible refine gate_callee (f:=60) rfl ?_);refine goesL_ (some 129) rfl rfl Try.func60 (by kernel_rfl) rfl #[.string a0_8] rfl (by (try simp only [List.map_toArray,List.map_cons,List.map_nil]);first | done | rfl | (simp only [List.length_drop,List.length_take];rfl)) ?_;(with_reducible refine (beaconref06_name.calls kj42 a0_8 false _ A74.out).mono ?_);rintro e w' ⟨rfl,⟨nd,rfl⟩⟩;refine ⟨_,rfl,?_⟩))
             go_ret
             exact ⟨by first | rfl | (simp [errW_none,errW_some] <;> rfl) | (simp [*,errW_none,errW_some] <;> rfl),by repeat (first | (with_reducible first | exact HB.out | apply below_alloc | apply pw_below_drewN | apply below_drew1 | refine below_set ?_ GE156.out) | exact HB.out)⟩
           ·rw [if_neg c73] at H
            have c73b0:(a0_0 == 4) = false:=beq_eq_false_iff_ne.mpr c73
            have c73b1:(a0_0 != 4) = true:=bne_iff_ne.mpr c73
            obtain rfl:=Option.some.inj H
            have hcz88_0:wc.cell? ⟨gb156,0,none⟩ = some (.int .i64 a0_0):=(blk_cell BK156.out 0).trans rfl
            have hcz88_1:wc.cell? ⟨gb156,1,none⟩ = some (.int .i64 a0_1):=(blk_cell BK156.out 1).trans rfl
            have hcz88_2:wc.cell? ⟨gb156,2,none⟩ = some (.int .i64 a0_2):=(blk_cell BK156.out 2).trans rfl
            have hcz88_3:wc.cell? ⟨gb156,3,none⟩ = some (.int .i64 a0_3):=(blk_cell BK156.out 3).trans rfl
            have hcz88_4:wc.cell? ⟨gb156,4,none⟩ = some (.int .i64 a0_4):=(blk_cell BK156.out 4).trans rfl
            have hcz88_5:wc.cell? ⟨gb156,5,none⟩ = some (.int .i64 a0_5):=(blk_cell BK156.out 5).trans rfl
            have hcz88_6:wc.cell? ⟨gb156,6,none⟩ = some (.int .u64 a0_6):=(blk_cell BK156.out 6).trans rfl
            have hcz88_7:wc.cell? ⟨gb156,7,none⟩ = some (.int .i64 a0_7):=(blk_cell BK156.out 7).trans rfl
            have hcz88_8:wc.cell? ⟨gb156,8,none⟩ = some (.string a0_8):=(blk_cell BK156.out 8).trans rfl
            have hcz88_9:wc.cell? ⟨gb156,9,none⟩ = some (.int .i64 a0_9):=(blk_cell BK156.out 9).trans rfl
            have hcz88_10:wc.cell? ⟨gb156,10,none⟩ = some (.int .i64 a0_10):=(blk_cell BK156.out 10).trans rfl
            have hcz88_11:wc.cell? ⟨gb156,11,none⟩ = some (.string a0_11):=(blk_cell BK156.out 11).trans rfl
            have hfz88_0:=blk_frozen BK156.out 0
            have hfz88_1:=blk_frozen BK156.out 1
            have hfz88_2:=blk_frozen BK156.out 2
            have hfz88_3:=blk_frozen BK156.out 3
            have hfz88_4:=blk_frozen BK156.out 4
            have hfz88_5:=blk_frozen BK156.out 5
            have hfz88_6:=blk_frozen BK156.out 6
            have hfz88_7:=blk_frozen BK156.out 7
            have hfz88_8:=blk_frozen BK156.out 8
            have hfz88_9:=blk_frozen BK156.out 9
            have hfz88_10:=blk_frozen BK156.out 10
            have hfz88_11:=blk_frozen BK156.out 11
            go_wp2
            go_ret
            exact ⟨by first | rfl | (simp [errW_none,errW_some] <;> rfl) | (simp [*,errW_none,errW_some] <;> rfl),by repeat (first | (with_reducible first | exact HB.out | apply below_alloc | apply pw_below_drewN | apply below_drew1 | refine below_set ?_ GE156.out) | exact HB.out)⟩
end Go.Proofs.Ytlpmblcdafdfdaa.PA
