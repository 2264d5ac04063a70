/- Printed by a program of this session (wip/tools/patch_print.py and pr.py, over the kit's print): each Go function as a plain Lean function, and that the Go code comes to just its answers. Conditions: those that each theorem names. -/
import Derived.Test.YtlpmblcdafdfdaaYpPAx0
import Derived.Test.YtlpmblcdafdfdaaYpPAx2
import Derived.Test.YtlpmblcdafdfdaaYpPAx3
namespace Go.Proofs.Ytlpmblcdafdfdaa.PA
open Go.RowKit Go.Proofs.YtlpmblcdafdfdaaW.PrintWords Go.Proofs.YtlpmblcdafdfdaaW.PrintLast Go.Proofs.YtlpmblcdafdfdaaW.PrintMore
attribute [local go_sem] max2_int min2_int max_two min_two max_three min_three max_four min_four
set_option linter.unusedVariables false
set_option linter.unusedSimpArgs false
mutual
def message_packet.j0:Nat → Bool → Int → Int → Int → Int → Int → Int → Int → Int → ByteArray → Int → Int → ByteArray → Option (Bool)
 | 0,_,_,_,_,_,_,_,_,_,_,_,_,_ => none
 | k + 1,x47,x114000,x114001,x114002,x114003,x114004,x114005,x114006,x114007,x114008,x114009,x114010,x114011 => if x47 = true then (some false) else (if x114009 = 0 then (message_packet.j1 k false x114000 x114001 x114002 x114003 x114004 x114005 x114006 x114007 x114008 x114009 x114010 x114011) else ((message_number.f x114009).bind fun t119 => (if t119 = true then (if x114010 = 0 then (message_packet.j1 k true x114000 x114001 x114002 x114003 x114004 x114005 x114006 x114007 x114008 x114009 x114010 x114011) else ((message_number.f x114010).bind fun t120 => (message_packet.j1 k t120 x114000 x114001 x114002 x114003 x114004 x114005 x114006 x114007 x114008 x114009 x114010 x114011))) else (message_packet.j1 k false x114000 x114001 x114002 x114003 x114004 x114005 x114006 x114007 x114008 x114009 x114010 x114011))))
def message_packet.j1:Nat → Bool → Int → Int → Int → Int → Int → Int → Int → Int → ByteArray → Int → Int → ByteArray → Option (Bool)
 | 0,_,_,_,_,_,_,_,_,_,_,_,_,_ => none
 | k + 1,x3,x114000,x114001,x114002,x114003,x114004,x114005,x114006,x114007,x114008,x114009,x114010,x114011 => if x114009 = 0 then (message_packet.j2 k x3 (x114010 == 0) x114000 x114001 x114002 x114003 x114004 x114005 x114006 x114007 x114008 x114009 x114010 x114011) else (message_packet.j2 k x3 false x114000 x114001 x114002 x114003 x114004 x114005 x114006 x114007 x114008 x114009 x114010 x114011)
def message_packet.j2:Nat → Bool → Bool → Int → Int → Int → Int → Int → Int → Int → Int → ByteArray → Int → Int → ByteArray → Option (Bool)
 | 0,_,_,_,_,_,_,_,_,_,_,_,_,_,_ => none
 | k + 1,x3,x4,x114000,x114001,x114002,x114003,x114004,x114005,x114006,x114007,x114008,x114009,x114010,x114011 => (ident_CheckName.f k x114008).bind fun t121 => (if t121 = 0 then (message_packet.j3 k x3 x4 (x114011.toList == ([]:List UInt8)) x114000 x114001 x114002 x114003 x114004 x114005 x114006 x114007 x114008 x114009 x114010 x114011) else (message_packet.j3 k x3 x4 false x114000 x114001 x114002 x114003 x114004 x114005 x114006 x114007 x114008 x114009 x114010 x114011))
def message_packet.j3:Nat → Bool → Bool → Bool → Int → Int → Int → Int → Int → Int → Int → Int → ByteArray → Int → Int → ByteArray → Option (Bool)
 | 0,_,_,_,_,_,_,_,_,_,_,_,_,_,_,_ => none
 | k + 1,x3,x4,x5,x114000,x114001,x114002,x114003,x114004,x114005,x114006,x114007,x114008,x114009,x114010,x114011 => if x114000 = 1 then (if x114007 = 0 then (if x114008.toList = ([]:List UInt8) then (if x4 = true then (some (decide ((x114011.size:Int) ≤ 1024))) else (some false)) else (some false)) else (some false)) else (if x114000 = 2 then (if x114007 = 0 then (if x5 = true then (some x3) else (some false)) else (some false)) else (if x114000 = 3 then (if x114007 = 0 then (if x5 = true then (some x4) else (some false)) else (some false)) else (if x114000 = 4 then (if x5 = true then (if x114007 = 0 then (if x3 = true then (some true) else (if x114007 = 1 then (some x4) else (some false))) else (if x114007 = 1 then (some x4) else (some false))) else (some false)) else (some false))))
end
def message_packet.f (k:Nat) (a0_0:Int) (a0_1:Int) (a0_2:Int) (a0_3:Int) (a0_4:Int) (a0_5:Int) (a0_6:Int) (a0_7:Int) (a0_8:ByteArray) (a0_9:Int) (a0_10:Int) (a0_11:ByteArray):Option (Bool):=(message_number.f a0_1).bind fun t114 => (if t114 = true then ((message_number.f a0_3).bind fun t115 => (if t115 = true then (if a0_2 = 0 then (if a0_4 = 0 then (if a0_5 < 0 then (message_packet.j0 k true a0_0 a0_1 a0_2 a0_3 a0_4 a0_5 a0_6 a0_7 a0_8 a0_9 a0_10 a0_11) else (message_packet.j0 k (decide (a0_5 > 65536)) a0_0 a0_1 a0_2 a0_3 a0_4 a0_5 a0_6 a0_7 a0_8 a0_9 a0_10 a0_11)) else ((message_number.f a0_4).bind fun t116 => (if t116 = true then (if a0_5 < 0 then (message_packet.j0 k true a0_0 a0_1 a0_2 a0_3 a0_4 a0_5 a0_6 a0_7 a0_8 a0_9 a0_10 a0_11) else (message_packet.j0 k (decide (a0_5 > 65536)) a0_0 a0_1 a0_2 a0_3 a0_4 a0_5 a0_6 a0_7 a0_8 a0_9 a0_10 a0_11)) else (message_packet.j0 k true a0_0 a0_1 a0_2 a0_3 a0_4 a0_5 a0_6 a0_7 a0_8 a0_9 a0_10 a0_11)))) else ((message_number.f a0_2).bind fun t117 => (if t117 = true then (if a0_4 = 0 then (if a0_5 < 0 then (message_packet.j0 k true a0_0 a0_1 a0_2 a0_3 a0_4 a0_5 a0_6 a0_7 a0_8 a0_9 a0_10 a0_11) else (message_packet.j0 k (decide (a0_5 > 65536)) a0_0 a0_1 a0_2 a0_3 a0_4 a0_5 a0_6 a0_7 a0_8 a0_9 a0_10 a0_11)) else ((message_number.f a0_4).bind fun t118 => (if t118 = true then (if a0_5 < 0 then (message_packet.j0 k true a0_0 a0_1 a0_2 a0_3 a0_4 a0_5 a0_6 a0_7 a0_8 a0_9 a0_10 a0_11) else (message_packet.j0 k (decide (a0_5 > 65536)) a0_0 a0_1 a0_2 a0_3 a0_4 a0_5 a0_6 a0_7 a0_8 a0_9 a0_10 a0_11)) else (message_packet.j0 k true a0_0 a0_1 a0_2 a0_3 a0_4 a0_5 a0_6 a0_7 a0_8 a0_9 a0_10 a0_11)))) else (message_packet.j0 k true a0_0 a0_1 a0_2 a0_3 a0_4 a0_5 a0_6 a0_7 a0_8 a0_9 a0_10 a0_11)))) else (message_packet.j0 k true a0_0 a0_1 a0_2 a0_3 a0_4 a0_5 a0_6 a0_7 a0_8 a0_9 a0_10 a0_11))) else (message_packet.j0 k true a0_0 a0_1 a0_2 a0_3 a0_4 a0_5 a0_6 a0_7 a0_8 a0_9 a0_10 a0_11))
set_option maxHeartbeats 8000000 in
set_option maxRecDepth 100000 in
theorem message_packet.calls (k:Nat) (a0_0:Int) (a0_1:Int) (a0_2:Int) (a0_3:Int) (a0_4:Int) (a0_5:Int) (a0_6:Int) (a0_7:Int) (a0_8:ByteArray) (a0_9:Int) (a0_10:Int) (a0_11:ByteArray) (r:Bool) (w:World) (h:message_packet.f k a0_0 a0_1 a0_2 a0_3 a0_4 a0_5 a0_6 a0_7 a0_8 a0_9 a0_10 a0_11 = some r) :
  Calls Try.prog 58 #[.agg #[.int .i64 a0_0,.int .i64 a0_1,.int .i64 a0_2,.int .i64 a0_3,.int .i64 a0_4,.int .i64 a0_5,.int .u64 a0_6,.int .i64 a0_7,.string a0_8,.int .i64 a0_9,.int .i64 a0_10,.string a0_11]] w fun e w' => e = .returned (.bool r) ∧ Below w.heap.size w w':=by
 have hu30:=Try.underlying30
 have HB:=Aside0.mk (Below.refl w.heap.size w)
 have H:((message_number.f a0_1).bind fun t114 => (if t114 = true then ((message_number.f a0_3).bind fun t115 => (if t115 = true then (if a0_2 = 0 then (if a0_4 = 0 then (if a0_5 < 0 then (message_packet.j0 k true a0_0 a0_1 a0_2 a0_3 a0_4 a0_5 a0_6 a0_7 a0_8 a0_9 a0_10 a0_11) else (message_packet.j0 k (decide (a0_5 > 65536)) a0_0 a0_1 a0_2 a0_3 a0_4 a0_5 a0_6 a0_7 a0_8 a0_9 a0_10 a0_11)) else ((message_number.f a0_4).bind fun t116 => (if t116 = true then (if a0_5 < 0 then (message_packet.j0 k true a0_0 a0_1 a0_2 a0_3 a0_4 a0_5 a0_6 a0_7 a0_8 a0_9 a0_10 a0_11) else (message_packet.j0 k (decide (a0_5 > 65536)) a0_0 a0_1 a0_2 a0_3 a0_4 a0_5 a0_6 a0_7 a0_8 a0_9 a0_10 a0_11)) else (message_packet.j0 k true a0_0 a0_1 a0_2 a0_3 a0_4 a0_5 a0_6 a0_7 a0_8 a0_9 a0_10 a0_11)))) else ((message_number.f a0_2).bind fun t117 => (if t117 = true then (if a0_4 = 0 then (if a0_5 < 0 then (message_packet.j0 k true a0_0 a0_1 a0_2 a0_3 a0_4 a0_5 a0_6 a0_7 a0_8 a0_9 a0_10 a0_11) else (message_packet.j0 k (decide (a0_5 > 65536)) a0_0 a0_1 a0_2 a0_3 a0_4 a0_5 a0_6 a0_7 a0_8 a0_9 a0_10 a0_11)) else ((message_number.f a0_4).bind fun t118 => (if t118 = true then (if a0_5 < 0 then (message_packet.j0 k true a0_0 a0_1 a0_2 a0_3 a0_4 a0_5 a0_6 a0_7 a0_8 a0_9 a0_10 a0_11) else (message_packet.j0 k (decide (a0_5 > 65536)) a0_0 a0_1 a0_2 a0_3 a0_4 a0_5 a0_6 a0_7 a0_8 a0_9 a0_10 a0_11)) else (message_packet.j0 k true a0_0 a0_1 a0_2 a0_3 a0_4 a0_5 a0_6 a0_7 a0_8 a0_9 a0_10 a0_11)))) else (message_packet.j0 k true a0_0 a0_1 a0_2 a0_3 a0_4 a0_5 a0_6 a0_7 a0_8 a0_9 a0_10 a0_11)))) else (message_packet.j0 k true a0_0 a0_1 a0_2 a0_3 a0_4 a0_5 a0_6 a0_7 a0_8 a0_9 a0_10 a0_11))) else (message_packet.j0 k true a0_0 a0_1 a0_2 a0_3 a0_4 a0_5 a0_6 a0_7 a0_8 a0_9 a0_10 a0_11))) = some r:=h
 clear h
 have HC2:=Aside0.mk H
 clear H
 go_enter Try.func58,Try.ntmps58
 go_upto_region 1 with (first | ((with_reducible refine gate_dst (N:=1) rfl ?_);(try (refine gate_guard (by rfl) ?_;dsimp only));refine box_event ?hg (N:=1) ?hd (cs:=#[.int .i64 a0_0,.int .i64 a0_1,.int .i64 a0_2,.int .i64 a0_3,.int .i64 a0_4,.int .i64 a0_5,.int .u64 a0_6,.int .i64 a0_7,.string a0_8,.int .i64 a0_9,.int .i64 a0_10,.string a0_11]) (t:=30) ?hr ?_;(case hd => rfl);(case hg => rfl);(case hr => first | (go_simp;done) | (go_simp;rfl));intro gb113 hg w3 hbox hb;have n0_:=Aside0.mk (below_step (by repeat (first | (with_reducible first | exact HB.out | apply below_alloc | apply pw_below_drewN | apply below_drew1) | exact HB.out)) hb);have n1_:=Aside0.mk (hbox);have n2_:=Aside0.mk ((by rw [hg];exact (below_size (by repeat (first | (with_reducible first | exact HB.out | apply below_alloc | apply pw_below_drewN | apply below_drew1) | exact HB.out))):w.heap.size ≤ gb113));have n3_:=Aside0.mk ((by rw [hg];exact (below_size (by repeat (first | (with_reducible first | exact HB.out | apply below_alloc | apply pw_below_drewN | apply below_drew1) | exact HB.out))):w.heap.size ≤ gb113));clear HB;have HB:=n0_;have BK113:=n1_;have GW113:=n2_;have GE113:=n3_;clear n0_ n1_ n2_ n3_;clear hb hbox hg))
 (try simp only [Act.put,List.setIfInBounds_toArray,List.set_cons_zero,List.set_cons_succ])
 go_cut [47] (fun v47 wc => ∃ (kq:Nat) (x47_1:Bool),v47 = .bool x47_1 ∧ Aside0 (message_packet.j0 kq x47_1 a0_0 a0_1 a0_2 a0_3 a0_4 a0_5 a0_6 a0_7 a0_8 a0_9 a0_10 a0_11 = some r) ∧ Aside0 (kq ≤ k) ∧ Aside0 (wc.heap[gb113]? = some (.cells #[.int .i64 a0_0,.int .i64 a0_1,.int .i64 a0_2,.int .i64 a0_3,.int .i64 a0_4,.int .i64 a0_5,.int .u64 a0_6,.int .i64 a0_7,.string a0_8,.int .i64 a0_9,.int .i64 a0_10,.string a0_11] 30 (0,0))) ∧ Aside0 (Below w.heap.size w wc))
 case first =>
  have H:=HC2.out
  clear HC2
  replace H:=Option.bind_eq_some_iff.mp H
  obtain ⟨t114,A40,H⟩:=H
  replace H:(if t114 = true then ((message_number.f a0_3).bind fun t115 => (if t115 = true then (if a0_2 = 0 then (if a0_4 = 0 then (if a0_5 < 0 then (message_packet.j0 k true a0_0 a0_1 a0_2 a0_3 a0_4 a0_5 a0_6 a0_7 a0_8 a0_9 a0_10 a0_11) else (message_packet.j0 k (decide (a0_5 > 65536)) a0_0 a0_1 a0_2 a0_3 a0_4 a0_5 a0_6 a0_7 a0_8 a0_9 a0_10 a0_11)) else ((message_number.f a0_4).bind fun t116 => (if t116 = true then (if a0_5 < 0 then (message_packet.j0 k true a0_0 a0_1 a0_2 a0_3 a0_4 a0_5 a0_6 a0_7 a0_8 a0_9 a0_10 a0_11) else (message_packet.j0 k (decide (a0_5 > 65536)) a0_0 a0_1 a0_2 a0_3 a0_4 a0_5 a0_6 a0_7 a0_8 a0_9 a0_10 a0_11)) else (message_packet.j0 k true a0_0 a0_1 a0_2 a0_3 a0_4 a0_5 a0_6 a0_7 a0_8 a0_9 a0_10 a0_11)))) else ((message_number.f a0_2).bind fun t117 => (if t117 = true then (if a0_4 = 0 then (if a0_5 < 0 then (message_packet.j0 k true a0_0 a0_1 a0_2 a0_3 a0_4 a0_5 a0_6 a0_7 a0_8 a0_9 a0_10 a0_11) else (message_packet.j0 k (decide (a0_5 > 65536)) a0_0 a0_1 a0_2 a0_3 a0_4 a0_5 a0_6 a0_7 a0_8 a0_9 a0_10 a0_11)) else ((message_number.f a0_4).bind fun t118 => (if t118 = true then (if a0_5 < 0 then (message_packet.j0 k true a0_0 a0_1 a0_2 a0_3 a0_4 a0_5 a0_6 a0_7 a0_8 a0_9 a0_10 a0_11) else (message_packet.j0 k (decide (a0_5 > 65536)) a0_0 a0_1 a0_2 a0_3 a0_4 a0_5 a0_6 a0_7 a0_8 a0_9 a0_10 a0_11)) else (message_packet.j0 k true a0_0 a0_1 a0_2 a0_3 a0_4 a0_5 a0_6 a0_7 a0_8 a0_9 a0_10 a0_11)))) else (message_packet.j0 k true a0_0 a0_1 a0_2 a0_3 a0_4 a0_5 a0_6 a0_7 a0_8 a0_9 a0_10 a0_11)))) else (message_packet.j0 k true a0_0 a0_1 a0_2 a0_3 a0_4 a0_5 a0_6 a0_7 a0_8 a0_9 a0_10 a0_11))) else (message_packet.j0 k true a0_0 a0_1 a0_2 a0_3 a0_4 a0_5 a0_6 a0_7 a0_8 a0_9 a0_10 a0_11)) = some r:=H
  have A4:=Aside0.mk A40
  clear A40
  by_cases c5:t114 = true
  ·subst c5
   have H1:((message_number.f a0_3).bind fun t115 => (if t115 = true then (if a0_2 = 0 then (if a0_4 = 0 then (if a0_5 < 0 then (message_packet.j0 k true a0_0 a0_1 a0_2 a0_3 a0_4 a0_5 a0_6 a0_7 a0_8 a0_9 a0_10 a0_11) else (message_packet.j0 k (decide (a0_5 > 65536)) a0_0 a0_1 a0_2 a0_3 a0_4 a0_5 a0_6 a0_7 a0_8 a0_9 a0_10 a0_11)) else ((message_number.f a0_4).bind fun t116 => (if t116 = true then (if a0_5 < 0 then (message_packet.j0 k true a0_0 a0_1 a0_2 a0_3 a0_4 a0_5 a0_6 a0_7 a0_8 a0_9 a0_10 a0_11) else (message_packet.j0 k (decide (a0_5 > 65536)) a0_0 a0_1 a0_2 a0_3 a0_4 a0_5 a0_6 a0_7 a0_8 a0_9 a0_10 a0_11)) else (message_packet.j0 k true a0_0 a0_1 a0_2 a0_3 a0_4 a0_5 a0_6 a0_7 a0_8 a0_9 a0_10 a0_11)))) else ((message_number.f a0_2).bind fun t117 => (if t117 = true then (if a0_4 = 0 then (if a0_5 < 0 then (message_packet.j0 k true a0_0 a0_1 a0_2 a0_3 a0_4 a0_5 a0_6 a0_7 a0_8 a0_9 a0_10 a0_11) else (message_packet.j0 k (decide (a0_5 > 65536)) a0_0 a0_1 a0_2 a0_3 a0_4 a0_5 a0_6 a0_7 a0_8 a0_9 a0_10 a0_11)) else ((message_number.f a0_4).bind fun t118 => (if t118 = true then (if a0_5 < 0 then (message_packet.j0 k true a0_0 a0_1 a0_2 a0_3 a0_4 a0_5 a0_6 a0_7 a0_8 a0_9 a0_10 a0_11) else (message_packet.j0 k (decide (a0_5 > 65536)) a0_0 a0_1 a0_2 a0_3 a0_4 a0_5 a0_6 a0_7 a0_8 a0_9 a0_10 a0_11)) else (message_packet.j0 k true a0_0 a0_1 a0_2 a0_3 a0_4 a0_5 a0_6 a0_7 a0_8 a0_9 a0_10 a0_11)))) else (message_packet.j0 k true a0_0 a0_1 a0_2 a0_3 a0_4 a0_5 a0_6 a0_7 a0_8 a0_9 a0_10 a0_11)))) else (message_packet.j0 k true a0_0 a0_1 a0_2 a0_3 a0_4 a0_5 a0_6 a0_7 a0_8 a0_9 a0_10 a0_11))) = some r:=by rw [if_pos rfl] at H;exact H
   clear H
   have H:=H1
   clear H1
   replace H:=Option.bind_eq_some_iff.mp H
   obtain ⟨t115,A60,H⟩:=H
   replace H:(if t115 = true then (if a0_2 = 0 then (if a0_4 = 0 then (if a0_5 < 0 then (message_packet.j0 k true a0_0 a0_1 a0_2 a0_3 a0_4 a0_5 a0_6 a0_7 a0_8 a0_9 a0_10 a0_11) else (message_packet.j0 k (decide (a0_5 > 65536)) a0_0 a0_1 a0_2 a0_3 a0_4 a0_5 a0_6 a0_7 a0_8 a0_9 a0_10 a0_11)) else ((message_number.f a0_4).bind fun t116 => (if t116 = true then (if a0_5 < 0 then (message_packet.j0 k true a0_0 a0_1 a0_2 a0_3 a0_4 a0_5 a0_6 a0_7 a0_8 a0_9 a0_10 a0_11) else (message_packet.j0 k (decide (a0_5 > 65536)) a0_0 a0_1 a0_2 a0_3 a0_4 a0_5 a0_6 a0_7 a0_8 a0_9 a0_10 a0_11)) else (message_packet.j0 k true a0_0 a0_1 a0_2 a0_3 a0_4 a0_5 a0_6 a0_7 a0_8 a0_9 a0_10 a0_11)))) else ((message_number.f a0_2).bind fun t117 => (if t117 = true then (if a0_4 = 0 then (if a0_5 < 0 then (message_packet.j0 k true a0_0 a0_1 a0_2 a0_3 a0_4 a0_5 a0_6 a0_7 a0_8 a0_9 a0_10 a0_11) else (message_packet.j0 k (decide (a0_5 > 65536)) a0_0 a0_1 a0_2 a0_3 a0_4 a0_5 a0_6 a0_7 a0_8 a0_9 a0_10 a0_11)) else ((message_number.f a0_4).bind fun t118 => (if t118 = true then (if a0_5 < 0 then (message_packet.j0 k true a0_0 a0_1 a0_2 a0_3 a0_4 a0_5 a0_6 a0_7 a0_8 a0_9 a0_10 a0_11) else (message_packet.j0 k (decide (a0_5 > 65536)) a0_0 a0_1 a0_2 a0_3 a0_4 a0_5 a0_6 a0_7 a0_8 a0_9 a0_10 a0_11)) else (message_packet.j0 k true a0_0 a0_1 a0_2 a0_3 a0_4 a0_5 a0_6 a0_7 a0_8 a0_9 a0_10 a0_11)))) else (message_packet.j0 k true a0_0 a0_1 a0_2 a0_3 a0_4 a0_5 a0_6 a0_7 a0_8 a0_9 a0_10 a0_11)))) else (message_packet.j0 k true a0_0 a0_1 a0_2 a0_3 a0_4 a0_5 a0_6 a0_7 a0_8 a0_9 a0_10 a0_11)) = some r:=H
   have A6:=Aside0.mk A60
   clear A60
   by_cases c7:t115 = true
   ·subst c7
    have H1:(if a0_2 = 0 then (if a0_4 = 0 then (if a0_5 < 0 then (message_packet.j0 k true a0_0 a0_1 a0_2 a0_3 a0_4 a0_5 a0_6 a0_7 a0_8 a0_9 a0_10 a0_11) else (message_packet.j0 k (decide (a0_5 > 65536)) a0_0 a0_1 a0_2 a0_3 a0_4 a0_5 a0_6 a0_7 a0_8 a0_9 a0_10 a0_11)) else ((message_number.f a0_4).bind fun t116 => (if t116 = true then (if a0_5 < 0 then (message_packet.j0 k true a0_0 a0_1 a0_2 a0_3 a0_4 a0_5 a0_6 a0_7 a0_8 a0_9 a0_10 a0_11) else (message_packet.j0 k (decide (a0_5 > 65536)) a0_0 a0_1 a0_2 a0_3 a0_4 a0_5 a0_6 a0_7 a0_8 a0_9 a0_10 a0_11)) else (message_packet.j0 k true a0_0 a0_1 a0_2 a0_3 a0_4 a0_5 a0_6 a0_7 a0_8 a0_9 a0_10 a0_11)))) else ((message_number.f a0_2).bind fun t117 => (if t117 = true then (if a0_4 = 0 then (if a0_5 < 0 then (message_packet.j0 k true a0_0 a0_1 a0_2 a0_3 a0_4 a0_5 a0_6 a0_7 a0_8 a0_9 a0_10 a0_11) else (message_packet.j0 k (decide (a0_5 > 65536)) a0_0 a0_1 a0_2 a0_3 a0_4 a0_5 a0_6 a0_7 a0_8 a0_9 a0_10 a0_11)) else ((message_number.f a0_4).bind fun t118 => (if t118 = true then (if a0_5 < 0 then (message_packet.j0 k true a0_0 a0_1 a0_2 a0_3 a0_4 a0_5 a0_6 a0_7 a0_8 a0_9 a0_10 a0_11) else (message_packet.j0 k (decide (a0_5 > 65536)) a0_0 a0_1 a0_2 a0_3 a0_4 a0_5 a0_6 a0_7 a0_8 a0_9 a0_10 a0_11)) else (message_packet.j0 k true a0_0 a0_1 a0_2 a0_3 a0_4 a0_5 a0_6 a0_7 a0_8 a0_9 a0_10 a0_11)))) else (message_packet.j0 k true a0_0 a0_1 a0_2 a0_3 a0_4 a0_5 a0_6 a0_7 a0_8 a0_9 a0_10 a0_11)))) = some r:=by rw [if_pos rfl] at H;exact H
    clear H
    have H:=H1
    clear H1
    by_cases c8:a0_2 = 0
    ·rw [if_pos c8] at H
     have c8b0:(a0_2 == 0) = true:=beq_iff_eq.mpr c8
     have c8b1:(a0_2 != 0) = false:=bne_eq_false_iff_eq.mpr c8
     clear c8
     (first | rw [c8b0] | (simp only [i64_w,i32_w];rw [c8b0]) | skip)
     by_cases c9:a0_4 = 0
     ·rw [if_pos c9] at H
      have c9b0:(a0_4 == 0) = true:=beq_iff_eq.mpr c9
      have c9b1:(a0_4 != 0) = false:=bne_eq_false_iff_eq.mpr c9
      clear c9
      by_cases c10:a0_5 < 0
      ·rw [if_pos c10] at H
       have c10b0:decide (a0_5 < 0) = true:=decide_eq_true c10
       clear c10
       have H':=Aside0.mk H
       clear H
       have hcz11_0:w3.cell? ⟨gb113,0,none⟩ = some (.int .i64 a0_0):=(blk_cell BK113.out 0).trans rfl
       have hcz11_1:w3.cell? ⟨gb113,1,none⟩ = some (.int .i64 a0_1):=(blk_cell BK113.out 1).trans rfl
       have hcz11_2:w3.cell? ⟨gb113,2,none⟩ = some (.int .i64 a0_2):=(blk_cell BK113.out 2).trans rfl
       have hcz11_3:w3.cell? ⟨gb113,3,none⟩ = some (.int .i64 a0_3):=(blk_cell BK113.out 3).trans rfl
       have hcz11_4:w3.cell? ⟨gb113,4,none⟩ = some (.int .i64 a0_4):=(blk_cell BK113.out 4).trans rfl
       have hcz11_5:w3.cell? ⟨gb113,5,none⟩ = some (.int .i64 a0_5):=(blk_cell BK113.out 5).trans rfl
       have hcz11_6:w3.cell? ⟨gb113,6,none⟩ = some (.int .u64 a0_6):=(blk_cell BK113.out 6).trans rfl
       have hcz11_7:w3.cell? ⟨gb113,7,none⟩ = some (.int .i64 a0_7):=(blk_cell BK113.out 7).trans rfl
       have hcz11_8:w3.cell? ⟨gb113,8,none⟩ = some (.string a0_8):=(blk_cell BK113.out 8).trans rfl
       have hcz11_9:w3.cell? ⟨gb113,9,none⟩ = some (.int .i64 a0_9):=(blk_cell BK113.out 9).trans rfl
       have hcz11_10:w3.cell? ⟨gb113,10,none⟩ = some (.int .i64 a0_10):=(blk_cell BK113.out 10).trans rfl
       have hcz11_11:w3.cell? ⟨gb113,11,none⟩ = some (.string a0_11):=(blk_cell BK113.out 11).trans rfl
       have hfz11_0:=blk_frozen BK113.out 0
       have hfz11_1:=blk_frozen BK113.out 1
       have hfz11_2:=blk_frozen BK113.out 2
       have hfz11_3:=blk_frozen BK113.out 3
       have hfz11_4:=blk_frozen BK113.out 4
       have hfz11_5:=blk_frozen BK113.out 5
       have hfz11_6:=blk_frozen BK113.out 6
       have hfz11_7:=blk_frozen BK113.out 7
       have hfz11_8:=blk_frozen BK113.out 8
       have hfz11_9:=blk_frozen BK113.out 9
       have hfz11_10:=blk_frozen BK113.out 10
       have hfz11_11:=blk_frozen BK113.out 11
       go_wp2_with (first | ((with_reducible refine gate_callee (f:=74) rfl ?_);refine goesL_ (some 8) rfl rfl Try.func74 (by kernel_rfl) rfl #[.int .i64 a0_1] rfl (by (try simp only [List.map_toArray,List.map_cons,List.map_nil]);first | done | rfl | (simp only [List.length_drop,List.length_take];rfl)) ?_;(with_reducible refine (message_number.calls a0_1 true _ A4.out).mono ?_);rintro e w' ⟨rfl,⟨nd,rfl⟩⟩;refine ⟨_,rfl,?_⟩) | (go_at_call 74;(with_reducible refine (message_number.calls a0_3 true _ A6.out).mono ?_);rintro e w' ⟨rfl,⟨nd,rfl⟩⟩))
       go_meet
       case rel => exact ⟨_,(true),(by first | rfl | (simp;done) | (simp [*];done)),H',⟨by first | omega | exact Nat.le_refl _⟩,⟨by (with_reducible repeat (first | refine blk_drewN ?_ _ | refine blk_drew ?_ | refine blk_alloc ?_ _));exact BK113.out⟩,⟨by repeat (first | (with_reducible first | exact HB.out | apply below_alloc | apply pw_below_drewN | apply below_drew1 | refine below_set ?_ GE113.out) | exact HB.out)⟩⟩
      ·rw [if_neg c10] at H
       have c10b0:decide (a0_5 < 0) = false:=decide_eq_false c10
       clear c10
       have H':=Aside0.mk H
       clear H
       have hcz12_0:w3.cell? ⟨gb113,0,none⟩ = some (.int .i64 a0_0):=(blk_cell BK113.out 0).trans rfl
       have hcz12_1:w3.cell? ⟨gb113,1,none⟩ = some (.int .i64 a0_1):=(blk_cell BK113.out 1).trans rfl
       have hcz12_2:w3.cell? ⟨gb113,2,none⟩ = some (.int .i64 a0_2):=(blk_cell BK113.out 2).trans rfl
       have hcz12_3:w3.cell? ⟨gb113,3,none⟩ = some (.int .i64 a0_3):=(blk_cell BK113.out 3).trans rfl
       have hcz12_4:w3.cell? ⟨gb113,4,none⟩ = some (.int .i64 a0_4):=(blk_cell BK113.out 4).trans rfl
       have hcz12_5:w3.cell? ⟨gb113,5,none⟩ = some (.int .i64 a0_5):=(blk_cell BK113.out 5).trans rfl
       have hcz12_6:w3.cell? ⟨gb113,6,none⟩ = some (.int .u64 a0_6):=(blk_cell BK113.out 6).trans rfl
       have hcz12_7:w3.cell? ⟨gb113,7,none⟩ = some (.int .i64 a0_7):=(blk_cell BK113.out 7).trans rfl
       have hcz12_8:w3.cell? ⟨gb113,8,none⟩ = some (.string a0_8):=(blk_cell BK113.out 8).trans rfl
       have hcz12_9:w3.cell? ⟨gb113,9,none⟩ = some (.int .i64 a0_9):=(blk_cell BK113.out 9).trans rfl
       have hcz12_10:w3.cell? ⟨gb113,10,none⟩ = some (.int .i64 a0_10):=(blk_cell BK113.out 10).trans rfl
       have hcz12_11:w3.cell? ⟨gb113,11,none⟩ = some (.string a0_11):=(blk_cell BK113.out 11).trans rfl
       have hfz12_0:=blk_frozen BK113.out 0
       have hfz12_1:=blk_frozen BK113.out 1
       have hfz12_2:=blk_frozen BK113.out 2
       have hfz12_3:=blk_frozen BK113.out 3
       have hfz12_4:=blk_frozen BK113.out 4
       have hfz12_5:=blk_frozen BK113.out 5
       have hfz12_6:=blk_frozen BK113.out 6
       have hfz12_7:=blk_frozen BK113.out 7
       have hfz12_8:=blk_frozen BK113.out 8
       have hfz12_9:=blk_frozen BK113.out 9
       have hfz12_10:=blk_frozen BK113.out 10
       have hfz12_11:=blk_frozen BK113.out 11
       go_wp2_with (first | ((with_reducible refine gate_callee (f:=74) rfl ?_);refine goesL_ (some 8) rfl rfl Try.func74 (by kernel_rfl) rfl #[.int .i64 a0_1] rfl (by (try simp only [List.map_toArray,List.map_cons,List.map_nil]);first | done | rfl | (simp only [List.length_drop,List.length_take];rfl)) ?_;(with_reducible refine (message_number.calls a0_1 true _ A4.out).mono ?_);rintro e w' ⟨rfl,⟨nd,rfl⟩⟩;refine ⟨_,rfl,?_⟩) | (go_at_call 74;(with_reducible refine (message_number.calls a0_3 true _ A6.out).mono ?_);rintro e w' ⟨rfl,⟨nd,rfl⟩⟩))
       go_meet
       case rel => exact ⟨_,(decide (a0_5 > 65536)),(by first | rfl | (simp;done) | (simp [*];done)),H',⟨by first | omega | exact Nat.le_refl _⟩,⟨by (with_reducible repeat (first | refine blk_drewN ?_ _ | refine blk_drew ?_ | refine blk_alloc ?_ _));exact BK113.out⟩,⟨by repeat (first | (with_reducible first | exact HB.out | apply below_alloc | apply pw_below_drewN | apply below_drew1 | refine below_set ?_ GE113.out) | exact HB.out)⟩⟩
     ·rw [if_neg c9] at H
      have c9b0:(a0_4 == 0) = false:=beq_eq_false_iff_ne.mpr c9
      have c9b1:(a0_4 != 0) = true:=bne_iff_ne.mpr c9
      replace H:=Option.bind_eq_some_iff.mp H
      obtain ⟨t116,A130,H⟩:=H
      replace H:(if t116 = true then (if a0_5 < 0 then (message_packet.j0 k true a0_0 a0_1 a0_2 a0_3 a0_4 a0_5 a0_6 a0_7 a0_8 a0_9 a0_10 a0_11) else (message_packet.j0 k (decide (a0_5 > 65536)) a0_0 a0_1 a0_2 a0_3 a0_4 a0_5 a0_6 a0_7 a0_8 a0_9 a0_10 a0_11)) else (message_packet.j0 k true a0_0 a0_1 a0_2 a0_3 a0_4 a0_5 a0_6 a0_7 a0_8 a0_9 a0_10 a0_11)) = some r:=H
      have A13:=Aside0.mk A130
      clear A130
      by_cases c14:t116 = true
      ·subst c14
       have H1:(if a0_5 < 0 then (message_packet.j0 k true a0_0 a0_1 a0_2 a0_3 a0_4 a0_5 a0_6 a0_7 a0_8 a0_9 a0_10 a0_11) else (message_packet.j0 k (decide (a0_5 > 65536)) a0_0 a0_1 a0_2 a0_3 a0_4 a0_5 a0_6 a0_7 a0_8 a0_9 a0_10 a0_11)) = some r:=by rw [if_pos rfl] at H;exact H
       clear H
       have H:=H1
       clear H1
       by_cases c15:a0_5 < 0
       ·rw [if_pos c15] at H
        have c15b0:decide (a0_5 < 0) = true:=decide_eq_true c15
        clear c15
        have H':=Aside0.mk H
        clear H
        have hcz16_0:w3.cell? ⟨gb113,0,none⟩ = some (.int .i64 a0_0):=(blk_cell BK113.out 0).trans rfl
        have hcz16_1:w3.cell? ⟨gb113,1,none⟩ = some (.int .i64 a0_1):=(blk_cell BK113.out 1).trans rfl
        have hcz16_2:w3.cell? ⟨gb113,2,none⟩ = some (.int .i64 a0_2):=(blk_cell BK113.out 2).trans rfl
        have hcz16_3:w3.cell? ⟨gb113,3,none⟩ = some (.int .i64 a0_3):=(blk_cell BK113.out 3).trans rfl
        have hcz16_4:w3.cell? ⟨gb113,4,none⟩ = some (.int .i64 a0_4):=(blk_cell BK113.out 4).trans rfl
        have hcz16_5:w3.cell? ⟨gb113,5,none⟩ = some (.int .i64 a0_5):=(blk_cell BK113.out 5).trans rfl
        have hcz16_6:w3.cell? ⟨gb113,6,none⟩ = some (.int .u64 a0_6):=(blk_cell BK113.out 6).trans rfl
        have hcz16_7:w3.cell? ⟨gb113,7,none⟩ = some (.int .i64 a0_7):=(blk_cell BK113.out 7).trans rfl
        have hcz16_8:w3.cell? ⟨gb113,8,none⟩ = some (.string a0_8):=(blk_cell BK113.out 8).trans rfl
        have hcz16_9:w3.cell? ⟨gb113,9,none⟩ = some (.int .i64 a0_9):=(blk_cell BK113.out 9).trans rfl
        have hcz16_10:w3.cell? ⟨gb113,10,none⟩ = some (.int .i64 a0_10):=(blk_cell BK113.out 10).trans rfl
        have hcz16_11:w3.cell? ⟨gb113,11,none⟩ = some (.string a0_11):=(blk_cell BK113.out 11).trans rfl
        have hfz16_0:=blk_frozen BK113.out 0
        have hfz16_1:=blk_frozen BK113.out 1
        have hfz16_2:=blk_frozen BK113.out 2
        have hfz16_3:=blk_frozen BK113.out 3
        have hfz16_4:=blk_frozen BK113.out 4
        have hfz16_5:=blk_frozen BK113.out 5
        have hfz16_6:=blk_frozen BK113.out 6
        have hfz16_7:=blk_frozen BK113.out 7
        have hfz16_8:=blk_frozen BK113.out 8
        have hfz16_9:=blk_frozen BK113.out 9
        have hfz16_10:=blk_frozen BK113.out 10
        have hfz16_11:=blk_frozen BK113.out 11
        go_wp2_with (first | ((with_reducible refine gate_callee (f:=74) rfl ?_);refine goesL_ (some 8) rfl rfl Try.func74 (by kernel_rfl) rfl #[.int .i64 a0_1] rfl (by (try simp only [List.map_toArray,List.map_cons,List.map_nil]);first | done | rfl | (simp only [List.length_drop,List.length_take];rfl)) ?_;(with_reducible refine (message_number.calls a0_1 true _ A4.out).mono ?_);rintro e w' ⟨rfl,⟨nd,rfl⟩⟩;refine ⟨_,rfl,?_⟩) | (go_at_call 74;(with_reducible refine (message_number.calls a0_3 true _ A6.out).mono ?_);rintro e w' ⟨rfl,⟨nd,rfl⟩⟩) | (go_at_call 74;(with_reducible refine (message_number.calls a0_4 true _ A13.out).mono ?_);rintro e w' ⟨rfl,⟨nd,rfl⟩⟩))
        go_meet
        case rel => exact ⟨_,(true),(by first | rfl | (simp;done) | (simp [*];done)),H',⟨by first | omega | exact Nat.le_refl _⟩,⟨by (with_reducible repeat (first | refine blk_drewN ?_ _ | refine blk_drew ?_ | refine blk_alloc ?_ _));exact BK113.out⟩,⟨by repeat (first | (with_reducible first | exact HB.out | apply below_alloc | apply pw_below_drewN | apply below_drew1 | refine below_set ?_ GE113.out) | exact HB.out)⟩⟩
       ·rw [if_neg c15] at H
        have c15b0:decide (a0_5 < 0) = false:=decide_eq_false c15
        clear c15
        have H':=Aside0.mk H
        clear H
        have hcz17_0:w3.cell? ⟨gb113,0,none⟩ = some (.int .i64 a0_0):=(blk_cell BK113.out 0).trans rfl
        have hcz17_1:w3.cell? ⟨gb113,1,none⟩ = some (.int .i64 a0_1):=(blk_cell BK113.out 1).trans rfl
        have hcz17_2:w3.cell? ⟨gb113,2,none⟩ = some (.int .i64 a0_2):=(blk_cell BK113.out 2).trans rfl
        have hcz17_3:w3.cell? ⟨gb113,3,none⟩ = some (.int .i64 a0_3):=(blk_cell BK113.out 3).trans rfl
        have hcz17_4:w3.cell? ⟨gb113,4,none⟩ = some (.int .i64 a0_4):=(blk_cell BK113.out 4).trans rfl
        have hcz17_5:w3.cell? ⟨gb113,5,none⟩ = some (.int .i64 a0_5):=(blk_cell BK113.out 5).trans rfl
        have hcz17_6:w3.cell? ⟨gb113,6,none⟩ = some (.int .u64 a0_6):=(blk_cell BK113.out 6).trans rfl
        have hcz17_7:w3.cell? ⟨gb113,7,none⟩ = some (.int .i64 a0_7):=(blk_cell BK113.out 7).trans rfl
        have hcz17_8:w3.cell? ⟨gb113,8,none⟩ = some (.string a0_8):=(blk_cell BK113.out 8).trans rfl
        have hcz17_9:w3.cell? ⟨gb113,9,none⟩ = some (.int .i64 a0_9):=(blk_cell BK113.out 9).trans rfl
        have hcz17_10:w3.cell? ⟨gb113,10,none⟩ = some (.int .i64 a0_10):=(blk_cell BK113.out 10).trans rfl
        have hcz17_11:w3.cell? ⟨gb113,11,none⟩ = some (.string a0_11):=(blk_cell BK113.out 11).trans rfl
        have hfz17_0:=blk_frozen BK113.out 0
        have hfz17_1:=blk_frozen BK113.out 1
        have hfz17_2:=blk_frozen BK113.out 2
        have hfz17_3:=blk_frozen BK113.out 3
        have hfz17_4:=blk_frozen BK113.out 4
        have hfz17_5:=blk_frozen BK113.out 5
        have hfz17_6:=blk_frozen BK113.out 6
        have hfz17_7:=blk_frozen BK113.out 7
        have hfz17_8:=blk_frozen BK113.out 8
        have hfz17_9:=blk_frozen BK113.out 9
        have hfz17_10:=blk_frozen BK113.out 10
        have hfz17_11:=blk_frozen BK113.out 11
        go_wp2_with (first | ((with_reducible refine gate_callee (f:=74) rfl ?_);refine goesL_ (some 8) rfl rfl Try.func74 (by kernel_rfl) rfl #[.int .i64 a0_1] rfl (by (try simp only [List.map_toArray,List.map_cons,List.map_nil]);first | done | rfl | (simp only [List.length_drop,List.length_take];rfl)) ?_;(with_reducible refine (message_number.calls a0_1 true _ A4.out).mono ?_);rintro e w' ⟨rfl,⟨nd,rfl⟩⟩;refine ⟨_,rfl,?_⟩) | (go_at_call 74;(with_reducible refine (message_number.calls a0_3 true _ A6.out).mono ?_);rintro e w' ⟨rfl,⟨nd,rfl⟩⟩) | (go_at_call 74;(with_reducible refine (message_number.calls a0_4 true _ A13.out).mono ?_);rintro e w' ⟨rfl,⟨nd,rfl⟩⟩))
        go_meet
        case rel => exact ⟨_,(decide (a0_5 > 65536)),(by first | rfl | (simp;done) | (simp [*];done)),H',⟨by first | omega | exact Nat.le_refl _⟩,⟨by (with_reducible repeat (first | refine blk_drewN ?_ _ | refine blk_drew ?_ | refine blk_alloc ?_ _));exact BK113.out⟩,⟨by repeat (first | (with_reducible first | exact HB.out | apply below_alloc | apply pw_below_drewN | apply below_drew1 | refine below_set ?_ GE113.out) | exact HB.out)⟩⟩
      ·replace c14:=Bool.eq_false_iff.mpr c14
       subst c14
       have H1:(message_packet.j0 k true a0_0 a0_1 a0_2 a0_3 a0_4 a0_5 a0_6 a0_7 a0_8 a0_9 a0_10 a0_11) = some r:=by rw [if_neg (show ¬ (false = true) by decide)] at H;exact H
       clear H
       have H:=H1
       clear H1
       have H':=Aside0.mk H
       clear H
       have hcz18_0:w3.cell? ⟨gb113,0,none⟩ = some (.int .i64 a0_0):=(blk_cell BK113.out 0).trans rfl
       have hcz18_1:w3.cell? ⟨gb113,1,none⟩ = some (.int .i64 a0_1):=(blk_cell BK113.out 1).trans rfl
       have hcz18_2:w3.cell? ⟨gb113,2,none⟩ = some (.int .i64 a0_2):=(blk_cell BK113.out 2).trans rfl
       have hcz18_3:w3.cell? ⟨gb113,3,none⟩ = some (.int .i64 a0_3):=(blk_cell BK113.out 3).trans rfl
       have hcz18_4:w3.cell? ⟨gb113,4,none⟩ = some (.int .i64 a0_4):=(blk_cell BK113.out 4).trans rfl
       have hcz18_5:w3.cell? ⟨gb113,5,none⟩ = some (.int .i64 a0_5):=(blk_cell BK113.out 5).trans rfl
       have hcz18_6:w3.cell? ⟨gb113,6,none⟩ = some (.int .u64 a0_6):=(blk_cell BK113.out 6).trans rfl
       have hcz18_7:w3.cell? ⟨gb113,7,none⟩ = some (.int .i64 a0_7):=(blk_cell BK113.out 7).trans rfl
       have hcz18_8:w3.cell? ⟨gb113,8,none⟩ = some (.string a0_8):=(blk_cell BK113.out 8).trans rfl
       have hcz18_9:w3.cell? ⟨gb113,9,none⟩ = some (.int .i64 a0_9):=(blk_cell BK113.out 9).trans rfl
       have hcz18_10:w3.cell? ⟨gb113,10,none⟩ = some (.int .i64 a0_10):=(blk_cell BK113.out 10).trans rfl
       have hcz18_11:w3.cell? ⟨gb113,11,none⟩ = some (.string a0_11):=(blk_cell BK113.out 11).trans rfl
       have hfz18_0:=blk_frozen BK113.out 0
       have hfz18_1:=blk_frozen BK113.out 1
       have hfz18_2:=blk_frozen BK113.out 2
       have hfz18_3:=blk_frozen BK113.out 3
       have hfz18_4:=blk_frozen BK113.out 4
       have hfz18_5:=blk_frozen BK113.out 5
       have hfz18_6:=blk_frozen BK113.out 6
       have hfz18_7:=blk_frozen BK113.out 7
       have hfz18_8:=blk_frozen BK113.out 8
       have hfz18_9:=blk_frozen BK113.out 9
       have hfz18_10:=blk_frozen BK113.out 10
       have hfz18_11:=blk_frozen BK113.out 11
       go_wp2_with (first | ((with_reducible refine gate_callee (f:=74) rfl ?_);refine goesL_ (some 8) rfl rfl Try.func74 (by kernel_rfl) rfl #[.int .i64 a0_1] rfl (by (try simp only [List.map_toArray,List.map_cons,List.map_nil]);first | done | rfl | (simp only [List.length_drop,List.length_take];rfl)) ?_;(with_reducible refine (message_number.calls a0_1 true _ A4.out).mono ?_);rintro e w' ⟨rfl,⟨nd,rfl⟩⟩;refine ⟨_,rfl,?_⟩) | (go_at_call 74;(with_reducible refine (message_number.calls a0_3 true _ A6.out).mono ?_);rintro e w' ⟨rfl,⟨nd,rfl⟩⟩) | (go_at_call 74;(with_reducible refine (message_number.calls a0_4 false _ A13.out).mono ?_);rintro e w' ⟨rfl,⟨nd,rfl⟩⟩))
       go_meet
       case rel => exact ⟨_,(true),(by first | rfl | (simp;done) | (simp [*];done)),H',⟨by first | omega | exact Nat.le_refl _⟩,⟨by (with_reducible repeat (first | refine blk_drewN ?_ _ | refine blk_drew ?_ | refine blk_alloc ?_ _));exact BK113.out⟩,⟨by repeat (first | (with_reducible first | exact HB.out | apply below_alloc | apply pw_below_drewN | apply below_drew1 | refine below_set ?_ GE113.out) | exact HB.out)⟩⟩
    ·rw [if_neg c8] at H
     have c8b0:(a0_2 == 0) = false:=beq_eq_false_iff_ne.mpr c8
     have c8b1:(a0_2 != 0) = true:=bne_iff_ne.mpr c8
     (first | rw [c8b0] | (simp only [i64_w,i32_w];rw [c8b0]) | skip)
     replace H:=Option.bind_eq_some_iff.mp H
     obtain ⟨t117,A190,H⟩:=H
     replace H:(if t117 = true then (if a0_4 = 0 then (if a0_5 < 0 then (message_packet.j0 k true a0_0 a0_1 a0_2 a0_3 a0_4 a0_5 a0_6 a0_7 a0_8 a0_9 a0_10 a0_11) else (message_packet.j0 k (decide (a0_5 > 65536)) a0_0 a0_1 a0_2 a0_3 a0_4 a0_5 a0_6 a0_7 a0_8 a0_9 a0_10 a0_11)) else ((message_number.f a0_4).bind fun t118 => (if t118 = true then (if a0_5 < 0 then (message_packet.j0 k true a0_0 a0_1 a0_2 a0_3 a0_4 a0_5 a0_6 a0_7 a0_8 a0_9 a0_10 a0_11) else (message_packet.j0 k (decide (a0_5 > 65536)) a0_0 a0_1 a0_2 a0_3 a0_4 a0_5 a0_6 a0_7 a0_8 a0_9 a0_10 a0_11)) else (message_packet.j0 k true a0_0 a0_1 a0_2 a0_3 a0_4 a0_5 a0_6 a0_7 a0_8 a0_9 a0_10 a0_11)))) else (message_packet.j0 k true a0_0 a0_1 a0_2 a0_3 a0_4 a0_5 a0_6 a0_7 a0_8 a0_9 a0_10 a0_11)) = some r:=H
     have A19:=Aside0.mk A190
     clear A190
     by_cases c20:t117 = true
     ·subst c20
      have H1:(if a0_4 = 0 then (if a0_5 < 0 then (message_packet.j0 k true a0_0 a0_1 a0_2 a0_3 a0_4 a0_5 a0_6 a0_7 a0_8 a0_9 a0_10 a0_11) else (message_packet.j0 k (decide (a0_5 > 65536)) a0_0 a0_1 a0_2 a0_3 a0_4 a0_5 a0_6 a0_7 a0_8 a0_9 a0_10 a0_11)) else ((message_number.f a0_4).bind fun t118 => (if t118 = true then (if a0_5 < 0 then (message_packet.j0 k true a0_0 a0_1 a0_2 a0_3 a0_4 a0_5 a0_6 a0_7 a0_8 a0_9 a0_10 a0_11) else (message_packet.j0 k (decide (a0_5 > 65536)) a0_0 a0_1 a0_2 a0_3 a0_4 a0_5 a0_6 a0_7 a0_8 a0_9 a0_10 a0_11)) else (message_packet.j0 k true a0_0 a0_1 a0_2 a0_3 a0_4 a0_5 a0_6 a0_7 a0_8 a0_9 a0_10 a0_11)))) = some r:=by rw [if_pos rfl] at H;exact H
      clear H
      have H:=H1
      clear H1
      by_cases c21:a0_4 = 0
      ·rw [if_pos c21] at H
       have c21b0:(a0_4 == 0) = true:=beq_iff_eq.mpr c21
       have c21b1:(a0_4 != 0) = false:=bne_eq_false_iff_eq.mpr c21
       clear c21
       by_cases c22:a0_5 < 0
       ·rw [if_pos c22] at H
        have c22b0:decide (a0_5 < 0) = true:=decide_eq_true c22
        clear c22
        have H':=Aside0.mk H
        clear H
        have hcz23_0:w3.cell? ⟨gb113,0,none⟩ = some (.int .i64 a0_0):=(blk_cell BK113.out 0).trans rfl
        have hcz23_1:w3.cell? ⟨gb113,1,none⟩ = some (.int .i64 a0_1):=(blk_cell BK113.out 1).trans rfl
        have hcz23_2:w3.cell? ⟨gb113,2,none⟩ = some (.int .i64 a0_2):=(blk_cell BK113.out 2).trans rfl
        have hcz23_3:w3.cell? ⟨gb113,3,none⟩ = some (.int .i64 a0_3):=(blk_cell BK113.out 3).trans rfl
        have hcz23_4:w3.cell? ⟨gb113,4,none⟩ = some (.int .i64 a0_4):=(blk_cell BK113.out 4).trans rfl
        have hcz23_5:w3.cell? ⟨gb113,5,none⟩ = some (.int .i64 a0_5):=(blk_cell BK113.out 5).trans rfl
        have hcz23_6:w3.cell? ⟨gb113,6,none⟩ = some (.int .u64 a0_6):=(blk_cell BK113.out 6).trans rfl
        have hcz23_7:w3.cell? ⟨gb113,7,none⟩ = some (.int .i64 a0_7):=(blk_cell BK113.out 7).trans rfl
        have hcz23_8:w3.cell? ⟨gb113,8,none⟩ = some (.string a0_8):=(blk_cell BK113.out 8).trans rfl
        have hcz23_9:w3.cell? ⟨gb113,9,none⟩ = some (.int .i64 a0_9):=(blk_cell BK113.out 9).trans rfl
        have hcz23_10:w3.cell? ⟨gb113,10,none⟩ = some (.int .i64 a0_10):=(blk_cell BK113.out 10).trans rfl
        have hcz23_11:w3.cell? ⟨gb113,11,none⟩ = some (.string a0_11):=(blk_cell BK113.out 11).trans rfl
        have hfz23_0:=blk_frozen BK113.out 0
        have hfz23_1:=blk_frozen BK113.out 1
        have hfz23_2:=blk_frozen BK113.out 2
        have hfz23_3:=blk_frozen BK113.out 3
        have hfz23_4:=blk_frozen BK113.out 4
        have hfz23_5:=blk_frozen BK113.out 5
        have hfz23_6:=blk_frozen BK113.out 6
        have hfz23_7:=blk_frozen BK113.out 7
        have hfz23_8:=blk_frozen BK113.out 8
        have hfz23_9:=blk_frozen BK113.out 9
        have hfz23_10:=blk_frozen BK113.out 10
        have hfz23_11:=blk_frozen BK113.out 11
        go_wp2_with (first | ((with_reducible refine gate_callee (f:=74) rfl ?_);refine goesL_ (some 8) rfl rfl Try.func74 (by kernel_rfl) rfl #[.int .i64 a0_1] rfl (by (try simp only [List.map_toArray,List.map_cons,List.map_nil]);first | done | rfl | (simp only [List.length_drop,List.length_take];rfl)) ?_;(with_reducible refine (message_number.calls a0_1 true _ A4.out).mono ?_);rintro e w' ⟨rfl,⟨nd,rfl⟩⟩;refine ⟨_,rfl,?_⟩) | (go_at_call 74;(with_reducible refine (message_number.calls a0_3 true _ A6.out).mono ?_);rintro e w' ⟨rfl,⟨nd,rfl⟩⟩) | (go_at_call 74;(with_reducible refine (message_number.calls a0_2 true _ A19.out).mono ?_);rintro e w' ⟨rfl,⟨nd,rfl⟩⟩))
        go_meet
        case rel => exact ⟨_,(true),(by first | rfl | (simp;done) | (simp [*];done)),H',⟨by first | omega | exact Nat.le_refl _⟩,⟨by (with_reducible repeat (first | refine blk_drewN ?_ _ | refine blk_drew ?_ | refine blk_alloc ?_ _));exact BK113.out⟩,⟨by repeat (first | (with_reducible first | exact HB.out | apply below_alloc | apply pw_below_drewN | apply below_drew1 | refine below_set ?_ GE113.out) | exact HB.out)⟩⟩
       ·rw [if_neg c22] at H
        have c22b0:decide (a0_5 < 0) = false:=decide_eq_false c22
        clear c22
        have H':=Aside0.mk H
        clear H
        have hcz24_0:w3.cell? ⟨gb113,0,none⟩ = some (.int .i64 a0_0):=(blk_cell BK113.out 0).trans rfl
        have hcz24_1:w3.cell? ⟨gb113,1,none⟩ = some (.int .i64 a0_1):=(blk_cell BK113.out 1).trans rfl
        have hcz24_2:w3.cell? ⟨gb113,2,none⟩ = some (.int .i64 a0_2):=(blk_cell BK113.out 2).trans rfl
        have hcz24_3:w3.cell? ⟨gb113,3,none⟩ = some (.int .i64 a0_3):=(blk_cell BK113.out 3).trans rfl
        have hcz24_4:w3.cell? ⟨gb113,4,none⟩ = some (.int .i64 a0_4):=(blk_cell BK113.out 4).trans rfl
        have hcz24_5:w3.cell? ⟨gb113,5,none⟩ = some (.int .i64 a0_5):=(blk_cell BK113.out 5).trans rfl
        have hcz24_6:w3.cell? ⟨gb113,6,none⟩ = some (.int .u64 a0_6):=(blk_cell BK113.out 6).trans rfl
        have hcz24_7:w3.cell? ⟨gb113,7,none⟩ = some (.int .i64 a0_7):=(blk_cell BK113.out 7).trans rfl
        have hcz24_8:w3.cell? ⟨gb113,8,none⟩ = some (.string a0_8):=(blk_cell BK113.out 8).trans rfl
        have hcz24_9:w3.cell? ⟨gb113,9,none⟩ = some (.int .i64 a0_9):=(blk_cell BK113.out 9).trans rfl
        have hcz24_10:w3.cell? ⟨gb113,10,none⟩ = some (.int .i64 a0_10):=(blk_cell BK113.out 10).trans rfl
        have hcz24_11:w3.cell? ⟨gb113,11,none⟩ = some (.string a0_11):=(blk_cell BK113.out 11).trans rfl
        have hfz24_0:=blk_frozen BK113.out 0
        have hfz24_1:=blk_frozen BK113.out 1
        have hfz24_2:=blk_frozen BK113.out 2
        have hfz24_3:=blk_frozen BK113.out 3
        have hfz24_4:=blk_frozen BK113.out 4
        have hfz24_5:=blk_frozen BK113.out 5
        have hfz24_6:=blk_frozen BK113.out 6
        have hfz24_7:=blk_frozen BK113.out 7
        have hfz24_8:=blk_frozen BK113.out 8
        have hfz24_9:=blk_frozen BK113.out 9
        have hfz24_10:=blk_frozen BK113.out 10
        have hfz24_11:=blk_frozen BK113.out 11
        go_wp2_with (first | ((with_reducible refine gate_callee (f:=74) rfl ?_);refine goesL_ (some 8) rfl rfl Try.func74 (by kernel_rfl) rfl #[.int .i64 a0_1] rfl (by (try simp only [List.map_toArray,List.map_cons,List.map_nil]);first | done | rfl | (simp only [List.length_drop,List.length_take];rfl)) ?_;(with_reducible refine (message_number.calls a0_1 true _ A4.out).mono ?_);rintro e w' ⟨rfl,⟨nd,rfl⟩⟩;refine ⟨_,rfl,?_⟩) | (go_at_call 74;(with_reducible refine (message_number.calls a0_3 true _ A6.out).mono ?_);rintro e w' ⟨rfl,⟨nd,rfl⟩⟩) | (go_at_call 74;(with_reducible refine (message_number.calls a0_2 true _ A19.out).mono ?_);rintro e w' ⟨rfl,⟨nd,rfl⟩⟩))
        go_meet
        case rel => exact ⟨_,(decide (a0_5 > 65536)),(by first | rfl | (simp;done) | (simp [*];done)),H',⟨by first | omega | exact Nat.le_refl _⟩,⟨by (with_reducible repeat (first | refine blk_drewN ?_ _ | refine blk_drew ?_ | refine blk_alloc ?_ _));exact BK113.out⟩,⟨by repeat (first | (with_reducible first | exact HB.out | apply below_alloc | apply pw_below_drewN | apply below_drew1 | refine below_set ?_ GE113.out) | exact HB.out)⟩⟩
      ·rw [if_neg c21] at H
       have c21b0:(a0_4 == 0) = false:=beq_eq_false_iff_ne.mpr c21
       have c21b1:(a0_4 != 0) = true:=bne_iff_ne.mpr c21
       replace H:=Option.bind_eq_some_iff.mp H
       obtain ⟨t118,A250,H⟩:=H
       replace H:(if t118 = true then (if a0_5 < 0 then (message_packet.j0 k true a0_0 a0_1 a0_2 a0_3 a0_4 a0_5 a0_6 a0_7 a0_8 a0_9 a0_10 a0_11) else (message_packet.j0 k (decide (a0_5 > 65536)) a0_0 a0_1 a0_2 a0_3 a0_4 a0_5 a0_6 a0_7 a0_8 a0_9 a0_10 a0_11)) else (message_packet.j0 k true a0_0 a0_1 a0_2 a0_3 a0_4 a0_5 a0_6 a0_7 a0_8 a0_9 a0_10 a0_11)) = some r:=H
       have A25:=Aside0.mk A250
       clear A250
       by_cases c26:t118 = true
       ·subst c26
        have H1:(if a0_5 < 0 then (message_packet.j0 k true a0_0 a0_1 a0_2 a0_3 a0_4 a0_5 a0_6 a0_7 a0_8 a0_9 a0_10 a0_11) else (message_packet.j0 k (decide (a0_5 > 65536)) a0_0 a0_1 a0_2 a0_3 a0_4 a0_5 a0_6 a0_7 a0_8 a0_9 a0_10 a0_11)) = some r:=by rw [if_pos rfl] at H;exact H
        clear H
        have H:=H1
        clear H1
        by_cases c27:a0_5 < 0
        ·rw [if_pos c27] at H
         have c27b0:decide (a0_5 < 0) = true:=decide_eq_true c27
         clear c27
         have H':=Aside0.mk H
         clear H
         have hcz28_0:w3.cell? ⟨gb113,0,none⟩ = some (.int .i64 a0_0):=(blk_cell BK113.out 0).trans rfl
         have hcz28_1:w3.cell? ⟨gb113,1,none⟩ = some (.int .i64 a0_1):=(blk_cell BK113.out 1).trans rfl
         have hcz28_2:w3.cell? ⟨gb113,2,none⟩ = some (.int .i64 a0_2):=(blk_cell BK113.out 2).trans rfl
         have hcz28_3:w3.cell? ⟨gb113,3,none⟩ = some (.int .i64 a0_3):=(blk_cell BK113.out 3).trans rfl
         have hcz28_4:w3.cell? ⟨gb113,4,none⟩ = some (.int .i64 a0_4):=(blk_cell BK113.out 4).trans rfl
         have hcz28_5:w3.cell? ⟨gb113,5,none⟩ = some (.int .i64 a0_5):=(blk_cell BK113.out 5).trans rfl
         have hcz28_6:w3.cell? ⟨gb113,6,none⟩ = some (.int .u64 a0_6):=(blk_cell BK113.out 6).trans rfl
         have hcz28_7:w3.cell? ⟨gb113,7,none⟩ = some (.int .i64 a0_7):=(blk_cell BK113.out 7).trans rfl
         have hcz28_8:w3.cell? ⟨gb113,8,none⟩ = some (.string a0_8):=(blk_cell BK113.out 8).trans rfl
         have hcz28_9:w3.cell? ⟨gb113,9,none⟩ = some (.int .i64 a0_9):=(blk_cell BK113.out 9).trans rfl
         have hcz28_10:w3.cell? ⟨gb113,10,none⟩ = some (.int .i64 a0_10):=(blk_cell BK113.out 10).trans rfl
         have hcz28_11:w3.cell? ⟨gb113,11,none⟩ = some (.string a0_11):=(blk_cell BK113.out 11).trans rfl
         have hfz28_0:=blk_frozen BK113.out 0
         have hfz28_1:=blk_frozen BK113.out 1
         have hfz28_2:=blk_frozen BK113.out 2
         have hfz28_3:=blk_frozen BK113.out 3
         have hfz28_4:=blk_frozen BK113.out 4
         have hfz28_5:=blk_frozen BK113.out 5
         have hfz28_6:=blk_frozen BK113.out 6
         have hfz28_7:=blk_frozen BK113.out 7
         have hfz28_8:=blk_frozen BK113.out 8
         have hfz28_9:=blk_frozen BK113.out 9
         have hfz28_10:=blk_frozen BK113.out 10
         have hfz28_11:=blk_frozen BK113.out 11
         go_wp2_with (first | ((with_reducible refine gate_callee (f:=74) rfl ?_);refine goesL_ (some 8) rfl rfl Try.func74 (by kernel_rfl) rfl #[.int .i64 a0_1] rfl (by (try simp only [List.map_toArray,List.map_cons,List.map_nil]);first | done | rfl | (simp only [List.length_drop,List.length_take];rfl)) ?_;(with_reducible refine (message_number.calls a0_1 true _ A4.out).mono ?_);rintro e w' ⟨rfl,⟨nd,rfl⟩⟩;refine ⟨_,rfl,?_⟩) | (go_at_call 74;(with_reducible refine (message_number.calls a0_3 true _ A6.out).mono ?_);rintro e w' ⟨rfl,⟨nd,rfl⟩⟩) | (go_at_call 74;(with_reducible refine (message_number.calls a0_2 true _ A19.out).mono ?_);rintro e w' ⟨rfl,⟨nd,rfl⟩⟩) | (go_at_call 74;(with_reducible refine (message_number.calls a0_4 true _ A25.out).mono ?_);rintro e w' ⟨rfl,⟨nd,rfl⟩⟩))
         go_meet
         case rel => exact ⟨_,(true),(by first | rfl | (simp;done) | (simp [*];done)),H',⟨by first | omega | exact Nat.le_refl _⟩,⟨by (with_reducible repeat (first | refine blk_drewN ?_ _ | refine blk_drew ?_ | refine blk_alloc ?_ _));exact BK113.out⟩,⟨by repeat (first | (with_reducible first | exact HB.out | apply below_alloc | apply pw_below_drewN | apply below_drew1 | refine below_set ?_ GE113.out) | exact HB.out)⟩⟩
        ·rw [if_neg c27] at H
         have c27b0:decide (a0_5 < 0) = false:=decide_eq_false c27
         clear c27
         have H':=Aside0.mk H
         clear H
         have hcz29_0:w3.cell? ⟨gb113,0,none⟩ = some (.int .i64 a0_0):=(blk_cell BK113.out 0).trans rfl
         have hcz29_1:w3.cell? ⟨gb113,1,none⟩ = some (.int .i64 a0_1):=(blk_cell BK113.out 1).trans rfl
         have hcz29_2:w3.cell? ⟨gb113,2,none⟩ = some (.int .i64 a0_2):=(blk_cell BK113.out 2).trans rfl
         have hcz29_3:w3.cell? ⟨gb113,3,none⟩ = some (.int .i64 a0_3):=(blk_cell BK113.out 3).trans rfl
         have hcz29_4:w3.cell? ⟨gb113,4,none⟩ = some (.int .i64 a0_4):=(blk_cell BK113.out 4).trans rfl
         have hcz29_5:w3.cell? ⟨gb113,5,none⟩ = some (.int .i64 a0_5):=(blk_cell BK113.out 5).trans rfl
         have hcz29_6:w3.cell? ⟨gb113,6,none⟩ = some (.int .u64 a0_6):=(blk_cell BK113.out 6).trans rfl
         have hcz29_7:w3.cell? ⟨gb113,7,none⟩ = some (.int .i64 a0_7):=(blk_cell BK113.out 7).trans rfl
         have hcz29_8:w3.cell? ⟨gb113,8,none⟩ = some (.string a0_8):=(blk_cell BK113.out 8).trans rfl
         have hcz29_9:w3.cell? ⟨gb113,9,none⟩ = some (.int .i64 a0_9):=(blk_cell BK113.out 9).trans rfl
         have hcz29_10:w3.cell? ⟨gb113,10,none⟩ = some (.int .i64 a0_10):=(blk_cell BK113.out 10).trans rfl
         have hcz29_11:w3.cell? ⟨gb113,11,none⟩ = some (.string a0_11):=(blk_cell BK113.out 11).trans rfl
         have hfz29_0:=blk_frozen BK113.out 0
         have hfz29_1:=blk_frozen BK113.out 1
         have hfz29_2:=blk_frozen BK113.out 2
         have hfz29_3:=blk_frozen BK113.out 3
         have hfz29_4:=blk_frozen BK113.out 4
         have hfz29_5:=blk_frozen BK113.out 5
         have hfz29_6:=blk_frozen BK113.out 6
         have hfz29_7:=blk_frozen BK113.out 7
         have hfz29_8:=blk_frozen BK113.out 8
         have hfz29_9:=blk_frozen BK113.out 9
         have hfz29_10:=blk_frozen BK113.out 10
         have hfz29_11:=blk_frozen BK113.out 11
         go_wp2_with (first | ((with_reducible refine gate_callee (f:=74) rfl ?_);refine goesL_ (some 8) rfl rfl Try.func74 (by kernel_rfl) rfl #[.int .i64 a0_1] rfl (by (try simp only [List.map_toArray,List.map_cons,List.map_nil]);first | done | rfl | (simp only [List.length_drop,List.length_take];rfl)) ?_;(with_reducible refine (message_number.calls a0_1 true _ A4.out).mono ?_);rintro e w' ⟨rfl,⟨nd,rfl⟩⟩;refine ⟨_,rfl,?_⟩) | (go_at_call 74;(with_reducible refine (message_number.calls a0_3 true _ A6.out).mono ?_);rintro e w' ⟨rfl,⟨nd,rfl⟩⟩) | (go_at_call 74;(with_reducible refine (message_number.calls a0_2 true _ A19.out).mono ?_);rintro e w' ⟨rfl,⟨nd,rfl⟩⟩) | (go_at_call 74;(with_reducible refine (message_number.calls a0_4 true _ A25.out).mono ?_);rintro e w' ⟨rfl,⟨nd,rfl⟩⟩))
         go_meet
         case rel => exact ⟨_,(decide (a0_5 > 65536)),(by first | rfl | (simp;done) | (simp [*];done)),H',⟨by first | omega | exact Nat.le_refl _⟩,⟨by (with_reducible repeat (first | refine blk_drewN ?_ _ | refine blk_drew ?_ | refine blk_alloc ?_ _));exact BK113.out⟩,⟨by repeat (first | (with_reducible first | exact HB.out | apply below_alloc | apply pw_below_drewN | apply below_drew1 | refine below_set ?_ GE113.out) | exact HB.out)⟩⟩
       ·replace c26:=Bool.eq_false_iff.mpr c26
        subst c26
        have H1:(message_packet.j0 k true a0_0 a0_1 a0_2 a0_3 a0_4 a0_5 a0_6 a0_7 a0_8 a0_9 a0_10 a0_11) = some r:=by rw [if_neg (show ¬ (false = true) by decide)] at H;exact H
        clear H
        have H:=H1
        clear H1
        have H':=Aside0.mk H
        clear H
        have hcz30_0:w3.cell? ⟨gb113,0,none⟩ = some (.int .i64 a0_0):=(blk_cell BK113.out 0).trans rfl
        have hcz30_1:w3.cell? ⟨gb113,1,none⟩ = some (.int .i64 a0_1):=(blk_cell BK113.out 1).trans rfl
        have hcz30_2:w3.cell? ⟨gb113,2,none⟩ = some (.int .i64 a0_2):=(blk_cell BK113.out 2).trans rfl
        have hcz30_3:w3.cell? ⟨gb113,3,none⟩ = some (.int .i64 a0_3):=(blk_cell BK113.out 3).trans rfl
        have hcz30_4:w3.cell? ⟨gb113,4,none⟩ = some (.int .i64 a0_4):=(blk_cell BK113.out 4).trans rfl
        have hcz30_5:w3.cell? ⟨gb113,5,none⟩ = some (.int .i64 a0_5):=(blk_cell BK113.out 5).trans rfl
        have hcz30_6:w3.cell? ⟨gb113,6,none⟩ = some (.int .u64 a0_6):=(blk_cell BK113.out 6).trans rfl
        have hcz30_7:w3.cell? ⟨gb113,7,none⟩ = some (.int .i64 a0_7):=(blk_cell BK113.out 7).trans rfl
        have hcz30_8:w3.cell? ⟨gb113,8,none⟩ = some (.string a0_8):=(blk_cell BK113.out 8).trans rfl
        have hcz30_9:w3.cell? ⟨gb113,9,none⟩ = some (.int .i64 a0_9):=(blk_cell BK113.out 9).trans rfl
        have hcz30_10:w3.cell? ⟨gb113,10,none⟩ = some (.int .i64 a0_10):=(blk_cell BK113.out 10).trans rfl
        have hcz30_11:w3.cell? ⟨gb113,11,none⟩ = some (.string a0_11):=(blk_cell BK113.out 11).trans rfl
        have hfz30_0:=blk_frozen BK113.out 0
        have hfz30_1:=blk_frozen BK113.out 1
        have hfz30_2:=blk_frozen BK113.out 2
        have hfz30_3:=blk_frozen BK113.out 3
        have hfz30_4:=blk_frozen BK113.out 4
        have hfz30_5:=blk_frozen BK113.out 5
        have hfz30_6:=blk_frozen BK113.out 6
        have hfz30_7:=blk_frozen BK113.out 7
        have hfz30_8:=blk_frozen BK113.out 8
        have hfz30_9:=blk_frozen BK113.out 9
        have hfz30_10:=blk_frozen BK113.out 10
        have hfz30_11:=blk_frozen BK113.out 11
        go_wp2_with (first | ((with_reducible refine gate_callee (f:=74) rfl ?_);refine goesL_ (some 8) rfl rfl Try.func74 (by kernel_rfl) rfl #[.int .i64 a0_1] rfl (by (try simp only [List.map_toArray,List.map_cons,List.map_nil]);first | done | rfl | (simp only [List.length_drop,List.length_take];rfl)) ?_;(with_reducible refine (message_number.calls a0_1 true _ A4.out).mono ?_);rintro e w' ⟨rfl,⟨nd,rfl⟩⟩;refine ⟨_,rfl,?_⟩) | (go_at_call 74;(with_reducible refine (message_number.calls a0_3 true _ A6.out).mono ?_);rintro e w' ⟨rfl,⟨nd,rfl⟩⟩) | (go_at_call 74;(with_reducible refine (message_number.calls a0_2 true _ A19.out).mono ?_);rintro e w' ⟨rfl,⟨nd,rfl⟩⟩) | (go_at_call 74;(with_reducible refine (message_number.calls a0_4 false _ A25.out).mono ?_);rintro e w' ⟨rfl,⟨nd,rfl⟩⟩))
        go_meet
        case rel => exact ⟨_,(true),(by first | rfl | (simp;done) | (simp [*];done)),H',⟨by first | omega | exact Nat.le_refl _⟩,⟨by (with_reducible repeat (first | refine blk_drewN ?_ _ | refine blk_drew ?_ | refine blk_alloc ?_ _));exact BK113.out⟩,⟨by repeat (first | (with_reducible first | exact HB.out | apply below_alloc | apply pw_below_drewN | apply below_drew1 | refine below_set ?_ GE113.out) | exact HB.out)⟩⟩
     ·replace c20:=Bool.eq_false_iff.mpr c20
      subst c20
      have H1:(message_packet.j0 k true a0_0 a0_1 a0_2 a0_3 a0_4 a0_5 a0_6 a0_7 a0_8 a0_9 a0_10 a0_11) = some r:=by rw [if_neg (show ¬ (false = true) by decide)] at H;exact H
      clear H
      have H:=H1
      clear H1
      have H':=Aside0.mk H
      clear H
      have hcz31_0:w3.cell? ⟨gb113,0,none⟩ = some (.int .i64 a0_0):=(blk_cell BK113.out 0).trans rfl
      have hcz31_1:w3.cell? ⟨gb113,1,none⟩ = some (.int .i64 a0_1):=(blk_cell BK113.out 1).trans rfl
      have hcz31_2:w3.cell? ⟨gb113,2,none⟩ = some (.int .i64 a0_2):=(blk_cell BK113.out 2).trans rfl
      have hcz31_3:w3.cell? ⟨gb113,3,none⟩ = some (.int .i64 a0_3):=(blk_cell BK113.out 3).trans rfl
      have hcz31_4:w3.cell? ⟨gb113,4,none⟩ = some (.int .i64 a0_4):=(blk_cell BK113.out 4).trans rfl
      have hcz31_5:w3.cell? ⟨gb113,5,none⟩ = some (.int .i64 a0_5):=(blk_cell BK113.out 5).trans rfl
      have hcz31_6:w3.cell? ⟨gb113,6,none⟩ = some (.int .u64 a0_6):=(blk_cell BK113.out 6).trans rfl
      have hcz31_7:w3.cell? ⟨gb113,7,none⟩ = some (.int .i64 a0_7):=(blk_cell BK113.out 7).trans rfl
      have hcz31_8:w3.cell? ⟨gb113,8,none⟩ = some (.string a0_8):=(blk_cell BK113.out 8).trans rfl
      have hcz31_9:w3.cell? ⟨gb113,9,none⟩ = some (.int .i64 a0_9):=(blk_cell BK113.out 9).trans rfl
      have hcz31_10:w3.cell? ⟨gb113,10,none⟩ = some (.int .i64 a0_10):=(blk_cell BK113.out 10).trans rfl
      have hcz31_11:w3.cell? ⟨gb113,11,none⟩ = some (.string a0_11):=(blk_cell BK113.out 11).trans rfl
      have hfz31_0:=blk_frozen BK113.out 0
      have hfz31_1:=blk_frozen BK113.out 1
      have hfz31_2:=blk_frozen BK113.out 2
      have hfz31_3:=blk_frozen BK113.out 3
      have hfz31_4:=blk_frozen BK113.out 4
      have hfz31_5:=blk_frozen BK113.out 5
      have hfz31_6:=blk_frozen BK113.out 6
      have hfz31_7:=blk_frozen BK113.out 7
      have hfz31_8:=blk_frozen BK113.out 8
      have hfz31_9:=blk_frozen BK113.out 9
      have hfz31_10:=blk_frozen BK113.out 10
      have hfz31_11:=blk_frozen BK113.out 11
      go_wp2_with (first | ((with_reducible refine gate_callee (f:=74) rfl ?_);refine goesL_ (some 8) rfl rfl Try.func74 (by kernel_rfl) rfl #[.int .i64 a0_1] rfl (by (try simp only [List.map_toArray,List.map_cons,List.map_nil]);first | done | rfl | (simp only [List.length_drop,List.length_take];rfl)) ?_;(with_reducible refine (message_number.calls a0_1 true _ A4.out).mono ?_);rintro e w' ⟨rfl,⟨nd,rfl⟩⟩;refine ⟨_,rfl,?_⟩) | (go_at_call 74;(with_reducible refine (message_number.calls a0_3 true _ A6.out).mono ?_);rintro e w' ⟨rfl,⟨nd,rfl⟩⟩) | (go_at_call 74;(with_reducible refine (message_number.calls a0_2 false _ A19.out).mono ?_);rintro e w' ⟨rfl,⟨nd,rfl⟩⟩))
      go_meet
      case rel => exact ⟨_,(true),(by first | rfl | (simp;done) | (simp [*];done)),H',⟨by first | omega | exact Nat.le_refl _⟩,⟨by (with_reducible repeat (first | refine blk_drewN ?_ _ | refine blk_drew ?_ | refine blk_alloc ?_ _));exact BK113.out⟩,⟨by repeat (first | (with_reducible first | exact HB.out | apply below_alloc | apply pw_below_drewN | apply below_drew1 | refine below_set ?_ GE113.out) | exact HB.out)⟩⟩
   ·replace c7:=Bool.eq_false_iff.mpr c7
    subst c7
    have H1:(message_packet.j0 k true a0_0 a0_1 a0_2 a0_3 a0_4 a0_5 a0_6 a0_7 a0_8 a0_9 a0_10 a0_11) = some r:=by rw [if_neg (show ¬ (false = true) by decide)] at H;exact H
    clear H
    have H:=H1
    clear H1
    have H':=Aside0.mk H
    clear H
    have hcz32_0:w3.cell? ⟨gb113,0,none⟩ = some (.int .i64 a0_0):=(blk_cell BK113.out 0).trans rfl
    have hcz32_1:w3.cell? ⟨gb113,1,none⟩ = some (.int .i64 a0_1):=(blk_cell BK113.out 1).trans rfl
    have hcz32_2:w3.cell? ⟨gb113,2,none⟩ = some (.int .i64 a0_2):=(blk_cell BK113.out 2).trans rfl
    have hcz32_3:w3.cell? ⟨gb113,3,none⟩ = some (.int .i64 a0_3):=(blk_cell BK113.out 3).trans rfl
    have hcz32_4:w3.cell? ⟨gb113,4,none⟩ = some (.int .i64 a0_4):=(blk_cell BK113.out 4).trans rfl
    have hcz32_5:w3.cell? ⟨gb113,5,none⟩ = some (.int .i64 a0_5):=(blk_cell BK113.out 5).trans rfl
    have hcz32_6:w3.cell? ⟨gb113,6,none⟩ = some (.int .u64 a0_6):=(blk_cell BK113.out 6).trans rfl
    have hcz32_7:w3.cell? ⟨gb113,7,none⟩ = some (.int .i64 a0_7):=(blk_cell BK113.out 7).trans rfl
    have hcz32_8:w3.cell? ⟨gb113,8,none⟩ = some (.string a0_8):=(blk_cell BK113.out 8).trans rfl
    have hcz32_9:w3.cell? ⟨gb113,9,none⟩ = some (.int .i64 a0_9):=(blk_cell BK113.out 9).trans rfl
    have hcz32_10:w3.cell? ⟨gb113,10,none⟩ = some (.int .i64 a0_10):=(blk_cell BK113.out 10).trans rfl
    have hcz32_11:w3.cell? ⟨gb113,11,none⟩ = some (.string a0_11):=(blk_cell BK113.out 11).trans rfl
    have hfz32_0:=blk_frozen BK113.out 0
    have hfz32_1:=blk_frozen BK113.out 1
    have hfz32_2:=blk_frozen BK113.out 2
    have hfz32_3:=blk_frozen BK113.out 3
    have hfz32_4:=blk_frozen BK113.out 4
    have hfz32_5:=blk_frozen BK113.out 5
    have hfz32_6:=blk_frozen BK113.out 6
    have hfz32_7:=blk_frozen BK113.out 7
    have hfz32_8:=blk_frozen BK113.out 8
    have hfz32_9:=blk_frozen BK113.out 9
    have hfz32_10:=blk_frozen BK113.out 10
    have hfz32_11:=blk_frozen BK113.out 11
    go_wp2_with (first | ((with_reducible refine gate_callee (f:=74) rfl ?_);refine goesL_ (some 8) rfl rfl Try.func74 (by kernel_rfl) rfl #[.int .i64 a0_1] rfl (by (try simp only [List.map_toArray,List.map_cons,List.map_nil]);first | done | rfl | (simp only [List.length_drop,List.length_take];rfl)) ?_;(with_reducible refine (message_number.calls a0_1 true _ A4.out).mono ?_);rintro e w' ⟨rfl,⟨nd,rfl⟩⟩;refine ⟨_,rfl,?_⟩) | (go_at_call 74;(with_reducible refine (message_number.calls a0_3 false _ A6.out).mono ?_);rintro e w' ⟨rfl,⟨nd,rfl⟩⟩))
    go_meet
    case rel => exact ⟨_,(true),(by first | rfl | (simp;done) | (simp [*];done)),H',⟨by first | omega | exact Nat.le_refl _⟩,⟨by (with_reducible repeat (first | refine blk_drewN ?_ _ | refine blk_drew ?_ | refine blk_alloc ?_ _));exact BK113.out⟩,⟨by repeat (first | (with_reducible first | exact HB.out | apply below_alloc | apply pw_below_drewN | apply below_drew1 | refine below_set ?_ GE113.out) | exact HB.out)⟩⟩
  ·replace c5:=Bool.eq_false_iff.mpr c5
   subst c5
   have H1:(message_packet.j0 k true a0_0 a0_1 a0_2 a0_3 a0_4 a0_5 a0_6 a0_7 a0_8 a0_9 a0_10 a0_11) = some r:=by rw [if_neg (show ¬ (false = true) by decide)] at H;exact H
   clear H
   have H:=H1
   clear H1
   have H':=Aside0.mk H
   clear H
   have hcz33_0:w3.cell? ⟨gb113,0,none⟩ = some (.int .i64 a0_0):=(blk_cell BK113.out 0).trans rfl
   have hcz33_1:w3.cell? ⟨gb113,1,none⟩ = some (.int .i64 a0_1):=(blk_cell BK113.out 1).trans rfl
   have hcz33_2:w3.cell? ⟨gb113,2,none⟩ = some (.int .i64 a0_2):=(blk_cell BK113.out 2).trans rfl
   have hcz33_3:w3.cell? ⟨gb113,3,none⟩ = some (.int .i64 a0_3):=(blk_cell BK113.out 3).trans rfl
   have hcz33_4:w3.cell? ⟨gb113,4,none⟩ = some (.int .i64 a0_4):=(blk_cell BK113.out 4).trans rfl
   have hcz33_5:w3.cell? ⟨gb113,5,none⟩ = some (.int .i64 a0_5):=(blk_cell BK113.out 5).trans rfl
   have hcz33_6:w3.cell? ⟨gb113,6,none⟩ = some (.int .u64 a0_6):=(blk_cell BK113.out 6).trans rfl
   have hcz33_7:w3.cell? ⟨gb113,7,none⟩ = some (.int .i64 a0_7):=(blk_cell BK113.out 7).trans rfl
   have hcz33_8:w3.cell? ⟨gb113,8,none⟩ = some (.string a0_8):=(blk_cell BK113.out 8).trans rfl
   have hcz33_9:w3.cell? ⟨gb113,9,none⟩ = some (.int .i64 a0_9):=(blk_cell BK113.out 9).trans rfl
   have hcz33_10:w3.cell? ⟨gb113,10,none⟩ = some (.int .i64 a0_10):=(blk_cell BK113.out 10).trans rfl
   have hcz33_11:w3.cell? ⟨gb113,11,none⟩ = some (.string a0_11):=(blk_cell BK113.out 11).trans rfl
   have hfz33_0:=blk_frozen BK113.out 0
   have hfz33_1:=blk_frozen BK113.out 1
   have hfz33_2:=blk_frozen BK113.out 2
   have hfz33_3:=blk_frozen BK113.out 3
   have hfz33_4:=blk_frozen BK113.out 4
   have hfz33_5:=blk_frozen BK113.out 5
   have hfz33_6:=blk_frozen BK113.out 6
   have hfz33_7:=blk_frozen BK113.out 7
   have hfz33_8:=blk_frozen BK113.out 8
   have hfz33_9:=blk_frozen BK113.out 9
   have hfz33_10:=blk_frozen BK113.out 10
   have hfz33_11:=blk_frozen BK113.out 11
   go_wp2_with (first | ((with_reducible refine gate_callee (f:=74) rfl ?_);refine goesL_ (some 8) rfl rfl Try.func74 (by kernel_rfl) rfl #[.int .i64 a0_1] rfl (by (try simp only [List.map_toArray,List.map_cons,List.map_nil]);first | done | rfl | (simp only [List.length_drop,List.length_take];rfl)) ?_;(with_reducible refine (message_number.calls a0_1 false _ A4.out).mono ?_);rintro e w' ⟨rfl,⟨nd,rfl⟩⟩;refine ⟨_,rfl,?_⟩))
   go_meet
   case rel => exact ⟨_,(true),(by first | rfl | (simp;done) | (simp [*];done)),H',⟨by first | omega | exact Nat.le_refl _⟩,⟨by (with_reducible repeat (first | refine blk_drewN ?_ _ | refine blk_drew ?_ | refine blk_alloc ?_ _));exact BK113.out⟩,⟨by repeat (first | (with_reducible first | exact HB.out | apply below_alloc | apply pw_below_drewN | apply below_drew1 | refine below_set ?_ GE113.out) | exact HB.out)⟩⟩
 case rest =>
  clear HC2
  try clear c1
  try clear c2
  try clear p2
  try clear c5
  try clear c7
  try clear c8
  try clear c8b0
  try clear c8b1
  try clear c9
  try clear c9b0
  try clear c9b1
  try clear c10
  try clear c10b0
  try clear c14
  try clear c15
  try clear c15b0
  try clear c20
  try clear c21
  try clear c21b0
  try clear c21b1
  try clear c22
  try clear c22b0
  try clear c26
  try clear c27
  try clear c27b0
  try clear hcz11_0
  try clear hcz11_1
  try clear hcz11_10
  try clear hcz11_11
  try clear hcz11_2
  try clear hcz11_3
  try clear hcz11_4
  try clear hcz11_5
  try clear hcz11_6
  try clear hcz11_7
  try clear hcz11_8
  try clear hcz11_9
  try clear hcz12_0
  try clear hcz12_1
  try clear hcz12_10
  try clear hcz12_11
  try clear hcz12_2
  try clear hcz12_3
  try clear hcz12_4
  try clear hcz12_5
  try clear hcz12_6
  try clear hcz12_7
  try clear hcz12_8
  try clear hcz12_9
  try clear hcz16_0
  try clear hcz16_1
  try clear hcz16_10
  try clear hcz16_11
  try clear hcz16_2
  try clear hcz16_3
  try clear hcz16_4
  try clear hcz16_5
  try clear hcz16_6
  try clear hcz16_7
  try clear hcz16_8
  try clear hcz16_9
  try clear hcz17_0
  try clear hcz17_1
  try clear hcz17_10
  try clear hcz17_11
  try clear hcz17_2
  try clear hcz17_3
  try clear hcz17_4
  try clear hcz17_5
  try clear hcz17_6
  try clear hcz17_7
  try clear hcz17_8
  try clear hcz17_9
  try clear hcz18_0
  try clear hcz18_1
  try clear hcz18_10
  try clear hcz18_11
  try clear hcz18_2
  try clear hcz18_3
  try clear hcz18_4
  try clear hcz18_5
  try clear hcz18_6
  try clear hcz18_7
  try clear hcz18_8
  try clear hcz18_9
  try clear hcz23_0
  try clear hcz23_1
  try clear hcz23_10
  try clear hcz23_11
  try clear hcz23_2
  try clear hcz23_3
  try clear hcz23_4
  try clear hcz23_5
  try clear hcz23_6
  try clear hcz23_7
  try clear hcz23_8
  try clear hcz23_9
  try clear hcz24_0
  try clear hcz24_1
  try clear hcz24_10
  try clear hcz24_11
  try clear hcz24_2
  try clear hcz24_3
  try clear hcz24_4
  try clear hcz24_5
  try clear hcz24_6
  try clear hcz24_7
  try clear hcz24_8
  try clear hcz24_9
  try clear hcz28_0
  try clear hcz28_1
  try clear hcz28_10
  try clear hcz28_11
  try clear hcz28_2
  try clear hcz28_3
  try clear hcz28_4
  try clear hcz28_5
  try clear hcz28_6
  try clear hcz28_7
  try clear hcz28_8
  try clear hcz28_9
  try clear hcz29_0
  try clear hcz29_1
  try clear hcz29_10
  try clear hcz29_11
  try clear hcz29_2
  try clear hcz29_3
  try clear hcz29_4
  try clear hcz29_5
  try clear hcz29_6
  try clear hcz29_7
  try clear hcz29_8
  try clear hcz29_9
  try clear hcz30_0
  try clear hcz30_1
  try clear hcz30_10
  try clear hcz30_11
  try clear hcz30_2
  try clear hcz30_3
  try clear hcz30_4
  try clear hcz30_5
  try clear hcz30_6
  try clear hcz30_7
  try clear hcz30_8
  try clear hcz30_9
  try clear hcz31_0
  try clear hcz31_1
  try clear hcz31_10
  try clear hcz31_11
  try clear hcz31_2
  try clear hcz31_3
  try clear hcz31_4
  try clear hcz31_5
  try clear hcz31_6
  try clear hcz31_7
  try clear hcz31_8
  try clear hcz31_9
  try clear hcz32_0
  try clear hcz32_1
  try clear hcz32_10
  try clear hcz32_11
  try clear hcz32_2
  try clear hcz32_3
  try clear hcz32_4
  try clear hcz32_5
  try clear hcz32_6
  try clear hcz32_7
  try clear hcz32_8
  try clear hcz32_9
  try clear hcz33_0
  try clear hcz33_1
  try clear hcz33_10
  try clear hcz33_11
  try clear hcz33_2
  try clear hcz33_3
  try clear hcz33_4
  try clear hcz33_5
  try clear hcz33_6
  try clear hcz33_7
  try clear hcz33_8
  try clear hcz33_9
  try clear hfz11_0
  try clear hfz11_1
  try clear hfz11_10
  try clear hfz11_11
  try clear hfz11_2
  try clear hfz11_3
  try clear hfz11_4
  try clear hfz11_5
  try clear hfz11_6
  try clear hfz11_7
  try clear hfz11_8
  try clear hfz11_9
  try clear hfz12_0
  try clear hfz12_1
  try clear hfz12_10
  try clear hfz12_11
  try clear hfz12_2
  try clear hfz12_3
  try clear hfz12_4
  try clear hfz12_5
  try clear hfz12_6
  try clear hfz12_7
  try clear hfz12_8
  try clear hfz12_9
  try clear hfz16_0
  try clear hfz16_1
  try clear hfz16_10
  try clear hfz16_11
  try clear hfz16_2
  try clear hfz16_3
  try clear hfz16_4
  try clear hfz16_5
  try clear hfz16_6
  try clear hfz16_7
  try clear hfz16_8
  try clear hfz16_9
  try clear hfz17_0
  try clear hfz17_1
  try clear hfz17_10
  try clear hfz17_11
  try clear hfz17_2
  try clear hfz17_3
  try clear hfz17_4
  try clear hfz17_5
  try clear hfz17_6
  try clear hfz17_7
  try clear hfz17_8
  try clear hfz17_9
  try clear hfz18_0
  try clear hfz18_1
  try clear hfz18_10
  try clear hfz18_11
  try clear hfz18_2
  try clear hfz18_3
  try clear hfz18_4
  try clear hfz18_5
  try clear hfz18_6
  try clear hfz18_7
  try clear hfz18_8
  try clear hfz18_9
  try clear hfz23_0
  try clear hfz23_1
  try clear hfz23_10
  try clear hfz23_11
  try clear hfz23_2
  try clear hfz23_3
  try clear hfz23_4
  try clear hfz23_5
  try clear hfz23_6
  try clear hfz23_7
  try clear hfz23_8
  try clear hfz23_9
  try clear hfz24_0
  try clear hfz24_1
  try clear hfz24_10
  try clear hfz24_11
  try clear hfz24_2
  try clear hfz24_3
  try clear hfz24_4
  try clear hfz24_5
  try clear hfz24_6
  try clear hfz24_7
  try clear hfz24_8
  try clear hfz24_9
  try clear hfz28_0
  try clear hfz28_1
  try clear hfz28_10
  try clear hfz28_11
  try clear hfz28_2
  try clear hfz28_3
  try clear hfz28_4
  try clear hfz28_5
  try clear hfz28_6
  try clear hfz28_7
  try clear hfz28_8
  try clear hfz28_9
  try clear hfz29_0
  try clear hfz29_1
  try clear hfz29_10
  try clear hfz29_11
  try clear hfz29_2
  try clear hfz29_3
  try clear hfz29_4
  try clear hfz29_5
  try clear hfz29_6
  try clear hfz29_7
  try clear hfz29_8
  try clear hfz29_9
  try clear hfz30_0
  try clear hfz30_1
  try clear hfz30_10
  try clear hfz30_11
  try clear hfz30_2
  try clear hfz30_3
  try clear hfz30_4
  try clear hfz30_5
  try clear hfz30_6
  try clear hfz30_7
  try clear hfz30_8
  try clear hfz30_9
  try clear hfz31_0
  try clear hfz31_1
  try clear hfz31_10
  try clear hfz31_11
  try clear hfz31_2
  try clear hfz31_3
  try clear hfz31_4
  try clear hfz31_5
  try clear hfz31_6
  try clear hfz31_7
  try clear hfz31_8
  try clear hfz31_9
  try clear hfz32_0
  try clear hfz32_1
  try clear hfz32_10
  try clear hfz32_11
  try clear hfz32_2
  try clear hfz32_3
  try clear hfz32_4
  try clear hfz32_5
  try clear hfz32_6
  try clear hfz32_7
  try clear hfz32_8
  try clear hfz32_9
  try clear hfz33_0
  try clear hfz33_1
  try clear hfz33_10
  try clear hfz33_11
  try clear hfz33_2
  try clear hfz33_3
  try clear hfz33_4
  try clear hfz33_5
  try clear hfz33_6
  try clear hfz33_7
  try clear hfz33_8
  try clear hfz33_9
  obtain ⟨kq,x47_1,rfl,HA,HJ1,BK113,HB⟩:=hcut
  cases kq with
  | zero => exact absurd HA.out (by simp [message_packet.j0])
  | succ kj1 =>
   have H:=HA.out
   clear HA
   simp only [message_packet.j0] at H
   by_cases c34:x47_1 = true
   ·subst c34
    have H1:(some false) = some r:=by rw [if_pos rfl] at H;exact H
    clear H
    have H:=H1
    clear H1
    obtain rfl:=Option.some.inj H
    go_wp2
    go_ret
    exact ⟨by first | rfl | (simp [errW_none,errW_some] <;> rfl) | (simp [*,errW_none,errW_some] <;> rfl),by repeat (first | (with_reducible first | exact HB.out | apply below_alloc | apply pw_below_drewN | apply below_drew1 | refine below_set ?_ GE113.out) | exact HB.out)⟩
   ·replace c34:=Bool.eq_false_iff.mpr c34
    subst c34
    have H1:(if a0_9 = 0 then (message_packet.j1 kj1 false a0_0 a0_1 a0_2 a0_3 a0_4 a0_5 a0_6 a0_7 a0_8 a0_9 a0_10 a0_11) else ((message_number.f a0_9).bind fun t119 => (if t119 = true then (if a0_10 = 0 then (message_packet.j1 kj1 true a0_0 a0_1 a0_2 a0_3 a0_4 a0_5 a0_6 a0_7 a0_8 a0_9 a0_10 a0_11) else ((message_number.f a0_10).bind fun t120 => (message_packet.j1 kj1 t120 a0_0 a0_1 a0_2 a0_3 a0_4 a0_5 a0_6 a0_7 a0_8 a0_9 a0_10 a0_11))) else (message_packet.j1 kj1 false a0_0 a0_1 a0_2 a0_3 a0_4 a0_5 a0_6 a0_7 a0_8 a0_9 a0_10 a0_11)))) = some r:=by rw [if_neg (show ¬ (false = true) by decide)] at H;exact H
    clear H
    have H:=H1
    clear H1
    have HC35:=Aside0.mk H
    clear H
    go_upto_region 3 with (fail)
    go_cut [3] (fun v3 wc => ∃ (kq:Nat) (x3_34:Bool),v3 = .bool x3_34 ∧ Aside0 (message_packet.j1 kq x3_34 a0_0 a0_1 a0_2 a0_3 a0_4 a0_5 a0_6 a0_7 a0_8 a0_9 a0_10 a0_11 = some r) ∧ Aside0 (kq ≤ kj1) ∧ Aside0 (wc.heap[gb113]? = some (.cells #[.int .i64 a0_0,.int .i64 a0_1,.int .i64 a0_2,.int .i64 a0_3,.int .i64 a0_4,.int .i64 a0_5,.int .u64 a0_6,.int .i64 a0_7,.string a0_8,.int .i64 a0_9,.int .i64 a0_10,.string a0_11] 30 (0,0))) ∧ Aside0 (Below w.heap.size w wc))
    case first =>
     have H:=HC35.out
     clear HC35
     by_cases c36:a0_9 = 0
     ·rw [if_pos c36] at H
      have c36b0:(a0_9 == 0) = true:=beq_iff_eq.mpr c36
      have c36b1:(a0_9 != 0) = false:=bne_eq_false_iff_eq.mpr c36
      clear c36
      (first | rw [c36b0] | (simp only [i64_w,i32_w];rw [c36b0]) | skip)
      have H':=Aside0.mk H
      clear H
      have hcz37_0:wc.cell? ⟨gb113,0,none⟩ = some (.int .i64 a0_0):=(blk_cell BK113.out 0).trans rfl
      have hcz37_1:wc.cell? ⟨gb113,1,none⟩ = some (.int .i64 a0_1):=(blk_cell BK113.out 1).trans rfl
      have hcz37_2:wc.cell? ⟨gb113,2,none⟩ = some (.int .i64 a0_2):=(blk_cell BK113.out 2).trans rfl
      have hcz37_3:wc.cell? ⟨gb113,3,none⟩ = some (.int .i64 a0_3):=(blk_cell BK113.out 3).trans rfl
      have hcz37_4:wc.cell? ⟨gb113,4,none⟩ = some (.int .i64 a0_4):=(blk_cell BK113.out 4).trans rfl
      have hcz37_5:wc.cell? ⟨gb113,5,none⟩ = some (.int .i64 a0_5):=(blk_cell BK113.out 5).trans rfl
      have hcz37_6:wc.cell? ⟨gb113,6,none⟩ = some (.int .u64 a0_6):=(blk_cell BK113.out 6).trans rfl
      have hcz37_7:wc.cell? ⟨gb113,7,none⟩ = some (.int .i64 a0_7):=(blk_cell BK113.out 7).trans rfl
      have hcz37_8:wc.cell? ⟨gb113,8,none⟩ = some (.string a0_8):=(blk_cell BK113.out 8).trans rfl
      have hcz37_9:wc.cell? ⟨gb113,9,none⟩ = some (.int .i64 a0_9):=(blk_cell BK113.out 9).trans rfl
      have hcz37_10:wc.cell? ⟨gb113,10,none⟩ = some (.int .i64 a0_10):=(blk_cell BK113.out 10).trans rfl
      have hcz37_11:wc.cell? ⟨gb113,11,none⟩ = some (.string a0_11):=(blk_cell BK113.out 11).trans rfl
      have hfz37_0:=blk_frozen BK113.out 0
      have hfz37_1:=blk_frozen BK113.out 1
      have hfz37_2:=blk_frozen BK113.out 2
      have hfz37_3:=blk_frozen BK113.out 3
      have hfz37_4:=blk_frozen BK113.out 4
      have hfz37_5:=blk_frozen BK113.out 5
      have hfz37_6:=blk_frozen BK113.out 6
      have hfz37_7:=blk_frozen BK113.out 7
      have hfz37_8:=blk_frozen BK113.out 8
      have hfz37_9:=blk_frozen BK113.out 9
      have hfz37_10:=blk_frozen BK113.out 10
      have hfz37_11:=blk_frozen BK113.out 11
      go_wp2
      go_meet
      case rel => exact ⟨_,(false),(by first | rfl | (simp;done) | (simp [*];done)),H',⟨by have:=HJ1.out;first | omega | exact Nat.le_refl _⟩,⟨by (with_reducible repeat (first | refine blk_drewN ?_ _ | refine blk_drew ?_ | refine blk_alloc ?_ _));exact BK113.out⟩,⟨by repeat (first | (with_reducible first | exact HB.out | apply below_alloc | apply pw_below_drewN | apply below_drew1 | refine below_set ?_ GE113.out) | exact HB.out)⟩⟩
     ·rw [if_neg c36] at H
      have c36b0:(a0_9 == 0) = false:=beq_eq_false_iff_ne.mpr c36
      have c36b1:(a0_9 != 0) = true:=bne_iff_ne.mpr c36
      (first | rw [c36b0] | (simp only [i64_w,i32_w];rw [c36b0]) | skip)
      replace H:=Option.bind_eq_some_iff.mp H
      obtain ⟨t119,A380,H⟩:=H
      replace H:(if t119 = true then (if a0_10 = 0 then (message_packet.j1 kj1 true a0_0 a0_1 a0_2 a0_3 a0_4 a0_5 a0_6 a0_7 a0_8 a0_9 a0_10 a0_11) else ((message_number.f a0_10).bind fun t120 => (message_packet.j1 kj1 t120 a0_0 a0_1 a0_2 a0_3 a0_4 a0_5 a0_6 a0_7 a0_8 a0_9 a0_10 a0_11))) else (message_packet.j1 kj1 false a0_0 a0_1 a0_2 a0_3 a0_4 a0_5 a0_6 a0_7 a0_8 a0_9 a0_10 a0_11)) = some r:=H
      have A38:=Aside0.mk A380
      clear A380
      by_cases c39:t119 = true
      ·subst c39
       have H1:(if a0_10 = 0 then (message_packet.j1 kj1 true a0_0 a0_1 a0_2 a0_3 a0_4 a0_5 a0_6 a0_7 a0_8 a0_9 a0_10 a0_11) else ((message_number.f a0_10).bind fun t120 => (message_packet.j1 kj1 t120 a0_0 a0_1 a0_2 a0_3 a0_4 a0_5 a0_6 a0_7 a0_8 a0_9 a0_10 a0_11))) = some r:=by rw [if_pos rfl] at H;exact H
       clear H
       have H:=H1
       clear H1
       by_cases c40:a0_10 = 0
       ·rw [if_pos c40] at H
        have c40b0:(a0_10 == 0) = true:=beq_iff_eq.mpr c40
        have c40b1:(a0_10 != 0) = false:=bne_eq_false_iff_eq.mpr c40
        clear c40
        have H':=Aside0.mk H
        clear H
        have hcz41_0:wc.cell? ⟨gb113,0,none⟩ = some (.int .i64 a0_0):=(blk_cell BK113.out 0).trans rfl
        have hcz41_1:wc.cell? ⟨gb113,1,none⟩ = some (.int .i64 a0_1):=(blk_cell BK113.out 1).trans rfl
        have hcz41_2:wc.cell? ⟨gb113,2,none⟩ = some (.int .i64 a0_2):=(blk_cell BK113.out 2).trans rfl
        have hcz41_3:wc.cell? ⟨gb113,3,none⟩ = some (.int .i64 a0_3):=(blk_cell BK113.out 3).trans rfl
        have hcz41_4:wc.cell? ⟨gb113,4,none⟩ = some (.int .i64 a0_4):=(blk_cell BK113.out 4).trans rfl
        have hcz41_5:wc.cell? ⟨gb113,5,none⟩ = some (.int .i64 a0_5):=(blk_cell BK113.out 5).trans rfl
        have hcz41_6:wc.cell? ⟨gb113,6,none⟩ = some (.int .u64 a0_6):=(blk_cell BK113.out 6).trans rfl
        have hcz41_7:wc.cell? ⟨gb113,7,none⟩ = some (.int .i64 a0_7):=(blk_cell BK113.out 7).trans rfl
        have hcz41_8:wc.cell? ⟨gb113,8,none⟩ = some (.string a0_8):=(blk_cell BK113.out 8).trans rfl
        have hcz41_9:wc.cell? ⟨gb113,9,none⟩ = some (.int .i64 a0_9):=(blk_cell BK113.out 9).trans rfl
        have hcz41_10:wc.cell? ⟨gb113,10,none⟩ = some (.int .i64 a0_10):=(blk_cell BK113.out 10).trans rfl
        have hcz41_11:wc.cell? ⟨gb113,11,none⟩ = some (.string a0_11):=(blk_cell BK113.out 11).trans rfl
        have hfz41_0:=blk_frozen BK113.out 0
        have hfz41_1:=blk_frozen BK113.out 1
        have hfz41_2:=blk_frozen BK113.out 2
        have hfz41_3:=blk_frozen BK113.out 3
        have hfz41_4:=blk_frozen BK113.out 4
        have hfz41_5:=blk_frozen BK113.out 5
        have hfz41_6:=blk_frozen BK113.out 6
        have hfz41_7:=blk_frozen BK113.out 7
        have hfz41_8:=blk_frozen BK113.out 8
        have hfz41_9:=blk_frozen BK113.out 9
        have hfz41_10:=blk_frozen BK113.out 10
        have hfz41_11:=blk_frozen BK113.out 11
        go_wp2_with (first | (go_at_call 74;(with_reducible refine (message_number.calls a0_9 true _ A38.out).mono ?_);rintro e w' ⟨rfl,⟨nd,rfl⟩⟩))
        go_meet
        case rel => exact ⟨_,(true),(by first | rfl | (simp;done) | (simp [*];done)),H',⟨by have:=HJ1.out;first | omega | exact Nat.le_refl _⟩,⟨by (with_reducible repeat (first | refine blk_drewN ?_ _ | refine blk_drew ?_ | refine blk_alloc ?_ _));exact BK113.out⟩,⟨by repeat (first | (with_reducible first | exact HB.out | apply below_alloc | apply pw_below_drewN | apply below_drew1 | refine below_set ?_ GE113.out) | exact HB.out)⟩⟩
       ·rw [if_neg c40] at H
        have c40b0:(a0_10 == 0) = false:=beq_eq_false_iff_ne.mpr c40
        have c40b1:(a0_10 != 0) = true:=bne_iff_ne.mpr c40
        replace H:=Option.bind_eq_some_iff.mp H
        obtain ⟨t120,A420,H⟩:=H
        replace H:(message_packet.j1 kj1 t120 a0_0 a0_1 a0_2 a0_3 a0_4 a0_5 a0_6 a0_7 a0_8 a0_9 a0_10 a0_11) = some r:=H
        have A42:=Aside0.mk A420
        clear A420
        have H':=Aside0.mk H
        clear H
        have hcz43_0:wc.cell? ⟨gb113,0,none⟩ = some (.int .i64 a0_0):=(blk_cell BK113.out 0).trans rfl
        have hcz43_1:wc.cell? ⟨gb113,1,none⟩ = some (.int .i64 a0_1):=(blk_cell BK113.out 1).trans rfl
        have hcz43_2:wc.cell? ⟨gb113,2,none⟩ = some (.int .i64 a0_2):=(blk_cell BK113.out 2).trans rfl
        have hcz43_3:wc.cell? ⟨gb113,3,none⟩ = some (.int .i64 a0_3):=(blk_cell BK113.out 3).trans rfl
        have hcz43_4:wc.cell? ⟨gb113,4,none⟩ = some (.int .i64 a0_4):=(blk_cell BK113.out 4).trans rfl
        have hcz43_5:wc.cell? ⟨gb113,5,none⟩ = some (.int .i64 a0_5):=(blk_cell BK113.out 5).trans rfl
        have hcz43_6:wc.cell? ⟨gb113,6,none⟩ = some (.int .u64 a0_6):=(blk_cell BK113.out 6).trans rfl
        have hcz43_7:wc.cell? ⟨gb113,7,none⟩ = some (.int .i64 a0_7):=(blk_cell BK113.out 7).trans rfl
        have hcz43_8:wc.cell? ⟨gb113,8,none⟩ = some (.string a0_8):=(blk_cell BK113.out 8).trans rfl
        have hcz43_9:wc.cell? ⟨gb113,9,none⟩ = some (.int .i64 a0_9):=(blk_cell BK113.out 9).trans rfl
        have hcz43_10:wc.cell? ⟨gb113,10,none⟩ = some (.int .i64 a0_10):=(blk_cell BK113.out 10).trans rfl
        have hcz43_11:wc.cell? ⟨gb113,11,none⟩ = some (.string a0_11):=(blk_cell BK113.out 11).trans rfl
        have hfz43_0:=blk_frozen BK113.out 0
        have hfz43_1:=blk_frozen BK113.out 1
        have hfz43_2:=blk_frozen BK113.out 2
        have hfz43_3:=blk_frozen BK113.out 3
        have hfz43_4:=blk_frozen BK113.out 4
        have hfz43_5:=blk_frozen BK113.out 5
        have hfz43_6:=blk_frozen BK113.out 6
        have hfz43_7:=blk_frozen BK113.out 7
        have hfz43_8:=blk_frozen BK113.out 8
        have hfz43_9:=blk_frozen BK113.out 9
        have hfz43_10:=blk_frozen BK113.out 10
        have hfz43_11:=blk_frozen BK113.out 11
        go_wp2_with (first | (go_at_call 74;(with_reducible refine (message_number.calls a0_9 true _ A38.out).mono ?_);rintro e w' ⟨rfl,⟨nd,rfl⟩⟩) | (go_at_call 74;(with_reducible refine (message_number.calls a0_10 t120 _ A42.out).mono ?_);rintro e w' ⟨rfl,⟨nd,rfl⟩⟩))
        go_meet
        case rel => exact ⟨_,(t120),(by first | rfl | (simp;done) | (simp [*];done)),H',⟨by have:=HJ1.out;first | omega | exact Nat.le_refl _⟩,⟨by (with_reducible repeat (first | refine blk_drewN ?_ _ | refine blk_drew ?_ | refine blk_alloc ?_ _));exact BK113.out⟩,⟨by repeat (first | (with_reducible first | exact HB.out | apply below_alloc | apply pw_below_drewN | apply below_drew1 | refine below_set ?_ GE113.out) | exact HB.out)⟩⟩
      ·replace c39:=Bool.eq_false_iff.mpr c39
       subst c39
       have H1:(message_packet.j1 kj1 false a0_0 a0_1 a0_2 a0_3 a0_4 a0_5 a0_6 a0_7 a0_8 a0_9 a0_10 a0_11) = some r:=by rw [if_neg (show ¬ (false = true) by decide)] at H;exact H
       clear H
       have H:=H1
       clear H1
       have H':=Aside0.mk H
       clear H
       have hcz44_0:wc.cell? ⟨gb113,0,none⟩ = some (.int .i64 a0_0):=(blk_cell BK113.out 0).trans rfl
       have hcz44_1:wc.cell? ⟨gb113,1,none⟩ = some (.int .i64 a0_1):=(blk_cell BK113.out 1).trans rfl
       have hcz44_2:wc.cell? ⟨gb113,2,none⟩ = some (.int .i64 a0_2):=(blk_cell BK113.out 2).trans rfl
       have hcz44_3:wc.cell? ⟨gb113,3,none⟩ = some (.int .i64 a0_3):=(blk_cell BK113.out 3).trans rfl
       have hcz44_4:wc.cell? ⟨gb113,4,none⟩ = some (.int .i64 a0_4):=(blk_cell BK113.out 4).trans rfl
       have hcz44_5:wc.cell? ⟨gb113,5,none⟩ = some (.int .i64 a0_5):=(blk_cell BK113.out 5).trans rfl
       have hcz44_6:wc.cell? ⟨gb113,6,none⟩ = some (.int .u64 a0_6):=(blk_cell BK113.out 6).trans rfl
       have hcz44_7:wc.cell? ⟨gb113,7,none⟩ = some (.int .i64 a0_7):=(blk_cell BK113.out 7).trans rfl
       have hcz44_8:wc.cell? ⟨gb113,8,none⟩ = some (.string a0_8):=(blk_cell BK113.out 8).trans rfl
       have hcz44_9:wc.cell? ⟨gb113,9,none⟩ = some (.int .i64 a0_9):=(blk_cell BK113.out 9).trans rfl
       have hcz44_10:wc.cell? ⟨gb113,10,none⟩ = some (.int .i64 a0_10):=(blk_cell BK113.out 10).trans rfl
       have hcz44_11:wc.cell? ⟨gb113,11,none⟩ = some (.string a0_11):=(blk_cell BK113.out 11).trans rfl
       have hfz44_0:=blk_frozen BK113.out 0
       have hfz44_1:=blk_frozen BK113.out 1
       have hfz44_2:=blk_frozen BK113.out 2
       have hfz44_3:=blk_frozen BK113.out 3
       have hfz44_4:=blk_frozen BK113.out 4
       have hfz44_5:=blk_frozen BK113.out 5
       have hfz44_6:=blk_frozen BK113.out 6
       have hfz44_7:=blk_frozen BK113.out 7
       have hfz44_8:=blk_frozen BK113.out 8
       have hfz44_9:=blk_frozen BK113.out 9
       have hfz44_10:=blk_frozen BK113.out 10
       have hfz44_11:=blk_frozen BK113.out 11
       go_wp2_with (first | (go_at_call 74;(with_reducible refine (message_number.calls a0_9 false _ A38.out).mono ?_);rintro e w' ⟨rfl,⟨nd,rfl⟩⟩))
       go_meet
       case rel => exact ⟨_,(false),(by first | rfl | (simp;done) | (simp [*];done)),H',⟨by have:=HJ1.out;first | omega | exact Nat.le_refl _⟩,⟨by (with_reducible repeat (first | refine blk_drewN ?_ _ | refine blk_drew ?_ | refine blk_alloc ?_ _));exact BK113.out⟩,⟨by repeat (first | (with_reducible first | exact HB.out | apply below_alloc | apply pw_below_drewN | apply below_drew1 | refine below_set ?_ GE113.out) | exact HB.out)⟩⟩
    case rest =>
     clear HC35
     try clear c1
     try clear c2
     try clear p2
     try clear c3
     try clear c4
     try clear c5
     try clear c7
     try clear c8
     try clear c8b0
     try clear c8b1
     try clear c9
     try clear c9b0
     try clear c9b1
     try clear c10
     try clear c10b0
     try clear c14
     try clear c15
     try clear c15b0
     try clear c20
     try clear c21
     try clear c21b0
     try clear c21b1
     try clear c22
     try clear c22b0
     try clear c26
     try clear c27
     try clear c27b0
     try clear c34
     try clear c36
     try clear c36b0
     try clear c36b1
     try clear c39
     try clear c40
     try clear c40b0
     try clear c40b1
     try clear hcz11_0
     try clear hcz11_1
     try clear hcz11_10
     try clear hcz11_11
     try clear hcz11_2
     try clear hcz11_3
     try clear hcz11_4
     try clear hcz11_5
     try clear hcz11_6
     try clear hcz11_7
     try clear hcz11_8
     try clear hcz11_9
     try clear hcz12_0
     try clear hcz12_1
     try clear hcz12_10
     try clear hcz12_11
     try clear hcz12_2
     try clear hcz12_3
     try clear hcz12_4
     try clear hcz12_5
     try clear hcz12_6
     try clear hcz12_7
     try clear hcz12_8
     try clear hcz12_9
     try clear hcz16_0
     try clear hcz16_1
     try clear hcz16_10
     try clear hcz16_11
     try clear hcz16_2
     try clear hcz16_3
     try clear hcz16_4
     try clear hcz16_5
     try clear hcz16_6
     try clear hcz16_7
     try clear hcz16_8
     try clear hcz16_9
     try clear hcz17_0
     try clear hcz17_1
     try clear hcz17_10
     try clear hcz17_11
     try clear hcz17_2
     try clear hcz17_3
     try clear hcz17_4
     try clear hcz17_5
     try clear hcz17_6
     try clear hcz17_7
     try clear hcz17_8
     try clear hcz17_9
     try clear hcz18_0
     try clear hcz18_1
     try clear hcz18_10
     try clear hcz18_11
     try clear hcz18_2
     try clear hcz18_3
     try clear hcz18_4
     try clear hcz18_5
     try clear hcz18_6
     try clear hcz18_7
     try clear hcz18_8
     try clear hcz18_9
     try clear hcz23_0
     try clear hcz23_1
     try clear hcz23_10
     try clear hcz23_11
     try clear hcz23_2
     try clear hcz23_3
     try clear hcz23_4
     try clear hcz23_5
     try clear hcz23_6
     try clear hcz23_7
     try clear hcz23_8
     try clear hcz23_9
     try clear hcz24_0
     try clear hcz24_1
     try clear hcz24_10
     try clear hcz24_11
     try clear hcz24_2
     try clear hcz24_3
     try clear hcz24_4
     try clear hcz24_5
     try clear hcz24_6
     try clear hcz24_7
     try clear hcz24_8
     try clear hcz24_9
     try clear hcz28_0
     try clear hcz28_1
     try clear hcz28_10
     try clear hcz28_11
     try clear hcz28_2
     try clear hcz28_3
     try clear hcz28_4
     try clear hcz28_5
     try clear hcz28_6
     try clear hcz28_7
     try clear hcz28_8
     try clear hcz28_9
     try clear hcz29_0
     try clear hcz29_1
     try clear hcz29_10
     try clear hcz29_11
     try clear hcz29_2
     try clear hcz29_3
     try clear hcz29_4
     try clear hcz29_5
     try clear hcz29_6
     try clear hcz29_7
     try clear hcz29_8
     try clear hcz29_9
     try clear hcz30_0
     try clear hcz30_1
     try clear hcz30_10
     try clear hcz30_11
     try clear hcz30_2
     try clear hcz30_3
     try clear hcz30_4
     try clear hcz30_5
     try clear hcz30_6
     try clear hcz30_7
     try clear hcz30_8
     try clear hcz30_9
     try clear hcz31_0
     try clear hcz31_1
     try clear hcz31_10
     try clear hcz31_11
     try clear hcz31_2
     try clear hcz31_3
     try clear hcz31_4
     try clear hcz31_5
     try clear hcz31_6
     try clear hcz31_7
     try clear hcz31_8
     try clear hcz31_9
     try clear hcz32_0
     try clear hcz32_1
     try clear hcz32_10
     try clear hcz32_11
     try clear hcz32_2
     try clear hcz32_3
     try clear hcz32_4
     try clear hcz32_5
     try clear hcz32_6
     try clear hcz32_7
     try clear hcz32_8
     try clear hcz32_9
     try clear hcz33_0
     try clear hcz33_1
     try clear hcz33_10
     try clear hcz33_11
     try clear hcz33_2
     try clear hcz33_3
     try clear hcz33_4
     try clear hcz33_5
     try clear hcz33_6
     try clear hcz33_7
     try clear hcz33_8
     try clear hcz33_9
     try clear hcz37_0
     try clear hcz37_1
     try clear hcz37_10
     try clear hcz37_11
     try clear hcz37_2
     try clear hcz37_3
     try clear hcz37_4
     try clear hcz37_5
     try clear hcz37_6
     try clear hcz37_7
     try clear hcz37_8
     try clear hcz37_9
     try clear hcz41_0
     try clear hcz41_1
     try clear hcz41_10
     try clear hcz41_11
     try clear hcz41_2
     try clear hcz41_3
     try clear hcz41_4
     try clear hcz41_5
     try clear hcz41_6
     try clear hcz41_7
     try clear hcz41_8
     try clear hcz41_9
     try clear hcz43_0
     try clear hcz43_1
     try clear hcz43_10
     try clear hcz43_11
     try clear hcz43_2
     try clear hcz43_3
     try clear hcz43_4
     try clear hcz43_5
     try clear hcz43_6
     try clear hcz43_7
     try clear hcz43_8
     try clear hcz43_9
     try clear hcz44_0
     try clear hcz44_1
     try clear hcz44_10
     try clear hcz44_11
     try clear hcz44_2
     try clear hcz44_3
     try clear hcz44_4
     try clear hcz44_5
     try clear hcz44_6
     try clear hcz44_7
     try clear hcz44_8
     try clear hcz44_9
     try clear hfz11_0
     try clear hfz11_1
     try clear hfz11_10
     try clear hfz11_11
     try clear hfz11_2
     try clear hfz11_3
     try clear hfz11_4
     try clear hfz11_5
     try clear hfz11_6
     try clear hfz11_7
     try clear hfz11_8
     try clear hfz11_9
     try clear hfz12_0
     try clear hfz12_1
     try clear hfz12_10
     try clear hfz12_11
     try clear hfz12_2
     try clear hfz12_3
     try clear hfz12_4
     try clear hfz12_5
     try clear hfz12_6
     try clear hfz12_7
     try clear hfz12_8
     try clear hfz12_9
     try clear hfz16_0
     try clear hfz16_1
     try clear hfz16_10
     try clear hfz16_11
     try clear hfz16_2
     try clear hfz16_3
     try clear hfz16_4
     try clear hfz16_5
     try clear hfz16_6
     try clear hfz16_7
     try clear hfz16_8
     try clear hfz16_9
     try clear hfz17_0
     try clear hfz17_1
     try clear hfz17_10
     try clear hfz17_11
     try clear hfz17_2
     try clear hfz17_3
     try clear hfz17_4
     try clear hfz17_5
     try clear hfz17_6
     try clear hfz17_7
     try clear hfz17_8
     try clear hfz17_9
     try clear hfz18_0
     try clear hfz18_1
     try clear hfz18_10
     try clear hfz18_11
     try clear hfz18_2
     try clear hfz18_3
     try clear hfz18_4
     try clear hfz18_5
     try clear hfz18_6
     try clear hfz18_7
     try clear hfz18_8
     try clear hfz18_9
     try clear hfz23_0
     try clear hfz23_1
     try clear hfz23_10
     try clear hfz23_11
     try clear hfz23_2
     try clear hfz23_3
     try clear hfz23_4
     try clear hfz23_5
     try clear hfz23_6
     try clear hfz23_7
     try clear hfz23_8
     try clear hfz23_9
     try clear hfz24_0
     try clear hfz24_1
     try clear hfz24_10
     try clear hfz24_11
     try clear hfz24_2
     try clear hfz24_3
     try clear hfz24_4
     try clear hfz24_5
     try clear hfz24_6
     try clear hfz24_7
     try clear hfz24_8
     try clear hfz24_9
     try clear hfz28_0
     try clear hfz28_1
     try clear hfz28_10
     try clear hfz28_11
     try clear hfz28_2
     try clear hfz28_3
     try clear hfz28_4
     try clear hfz28_5
     try clear hfz28_6
     try clear hfz28_7
     try clear hfz28_8
     try clear hfz28_9
     try clear hfz29_0
     try clear hfz29_1
     try clear hfz29_10
     try clear hfz29_11
     try clear hfz29_2
     try clear hfz29_3
     try clear hfz29_4
     try clear hfz29_5
     try clear hfz29_6
     try clear hfz29_7
     try clear hfz29_8
     try clear hfz29_9
     try clear hfz30_0
     try clear hfz30_1
     try clear hfz30_10
     try clear hfz30_11
     try clear hfz30_2
     try clear hfz30_3
     try clear hfz30_4
     try clear hfz30_5
     try clear hfz30_6
     try clear hfz30_7
     try clear hfz30_8
     try clear hfz30_9
     try clear hfz31_0
     try clear hfz31_1
     try clear hfz31_10
     try clear hfz31_11
     try clear hfz31_2
     try clear hfz31_3
     try clear hfz31_4
     try clear hfz31_5
     try clear hfz31_6
     try clear hfz31_7
     try clear hfz31_8
     try clear hfz31_9
     try clear hfz32_0
     try clear hfz32_1
     try clear hfz32_10
     try clear hfz32_11
     try clear hfz32_2
     try clear hfz32_3
     try clear hfz32_4
     try clear hfz32_5
     try clear hfz32_6
     try clear hfz32_7
     try clear hfz32_8
     try clear hfz32_9
     try clear hfz33_0
     try clear hfz33_1
     try clear hfz33_10
     try clear hfz33_11
     try clear hfz33_2
     try clear hfz33_3
     try clear hfz33_4
     try clear hfz33_5
     try clear hfz33_6
     try clear hfz33_7
     try clear hfz33_8
     try clear hfz33_9
     try clear hfz37_0
     try clear hfz37_1
     try clear hfz37_10
     try clear hfz37_11
     try clear hfz37_2
     try clear hfz37_3
     try clear hfz37_4
     try clear hfz37_5
     try clear hfz37_6
     try clear hfz37_7
     try clear hfz37_8
     try clear hfz37_9
     try clear hfz41_0
     try clear hfz41_1
     try clear hfz41_10
     try clear hfz41_11
     try clear hfz41_2
     try clear hfz41_3
     try clear hfz41_4
     try clear hfz41_5
     try clear hfz41_6
     try clear hfz41_7
     try clear hfz41_8
     try clear hfz41_9
     try clear hfz43_0
     try clear hfz43_1
     try clear hfz43_10
     try clear hfz43_11
     try clear hfz43_2
     try clear hfz43_3
     try clear hfz43_4
     try clear hfz43_5
     try clear hfz43_6
     try clear hfz43_7
     try clear hfz43_8
     try clear hfz43_9
     try clear hfz44_0
     try clear hfz44_1
     try clear hfz44_10
     try clear hfz44_11
     try clear hfz44_2
     try clear hfz44_3
     try clear hfz44_4
     try clear hfz44_5
     try clear hfz44_6
     try clear hfz44_7
     try clear hfz44_8
     try clear hfz44_9
     try clear p2
     obtain ⟨kq,x3_34,rfl,HA,HJ34,BK113,HB⟩:=hcut
     cases kq with
     | zero => exact absurd HA.out (by simp [message_packet.j1])
     | succ kj34 =>
      have H:=HA.out
      clear HA
      simp only [message_packet.j1] at H
      have HC45:=Aside0.mk H
      clear H
      go_upto_region 4 with (fail)
      go_cut [4] (fun v4 wc => ∃ (kq:Nat) (x4_44:Bool),v4 = .bool x4_44 ∧ Aside0 (message_packet.j2 kq x3_34 x4_44 a0_0 a0_1 a0_2 a0_3 a0_4 a0_5 a0_6 a0_7 a0_8 a0_9 a0_10 a0_11 = some r) ∧ Aside0 (kq ≤ kj34) ∧ Aside0 (wc.heap[gb113]? = some (.cells #[.int .i64 a0_0,.int .i64 a0_1,.int .i64 a0_2,.int .i64 a0_3,.int .i64 a0_4,.int .i64 a0_5,.int .u64 a0_6,.int .i64 a0_7,.string a0_8,.int .i64 a0_9,.int .i64 a0_10,.string a0_11] 30 (0,0))) ∧ Aside0 (Below w.heap.size w wc))
      case first =>
       have H:=HC45.out
       clear HC45
       by_cases c46:a0_9 = 0
       ·rw [if_pos c46] at H
        have c46b0:(a0_9 == 0) = true:=beq_iff_eq.mpr c46
        have c46b1:(a0_9 != 0) = false:=bne_eq_false_iff_eq.mpr c46
        clear c46
        (first | rw [c46b0] | (simp only [i64_w,i32_w];rw [c46b0]) | skip)
        have H':=Aside0.mk H
        clear H
        have hcz47_0:wc.cell? ⟨gb113,0,none⟩ = some (.int .i64 a0_0):=(blk_cell BK113.out 0).trans rfl
        have hcz47_1:wc.cell? ⟨gb113,1,none⟩ = some (.int .i64 a0_1):=(blk_cell BK113.out 1).trans rfl
        have hcz47_2:wc.cell? ⟨gb113,2,none⟩ = some (.int .i64 a0_2):=(blk_cell BK113.out 2).trans rfl
        have hcz47_3:wc.cell? ⟨gb113,3,none⟩ = some (.int .i64 a0_3):=(blk_cell BK113.out 3).trans rfl
        have hcz47_4:wc.cell? ⟨gb113,4,none⟩ = some (.int .i64 a0_4):=(blk_cell BK113.out 4).trans rfl
        have hcz47_5:wc.cell? ⟨gb113,5,none⟩ = some (.int .i64 a0_5):=(blk_cell BK113.out 5).trans rfl
        have hcz47_6:wc.cell? ⟨gb113,6,none⟩ = some (.int .u64 a0_6):=(blk_cell BK113.out 6).trans rfl
        have hcz47_7:wc.cell? ⟨gb113,7,none⟩ = some (.int .i64 a0_7):=(blk_cell BK113.out 7).trans rfl
        have hcz47_8:wc.cell? ⟨gb113,8,none⟩ = some (.string a0_8):=(blk_cell BK113.out 8).trans rfl
        have hcz47_9:wc.cell? ⟨gb113,9,none⟩ = some (.int .i64 a0_9):=(blk_cell BK113.out 9).trans rfl
        have hcz47_10:wc.cell? ⟨gb113,10,none⟩ = some (.int .i64 a0_10):=(blk_cell BK113.out 10).trans rfl
        have hcz47_11:wc.cell? ⟨gb113,11,none⟩ = some (.string a0_11):=(blk_cell BK113.out 11).trans rfl
        have hfz47_0:=blk_frozen BK113.out 0
        have hfz47_1:=blk_frozen BK113.out 1
        have hfz47_2:=blk_frozen BK113.out 2
        have hfz47_3:=blk_frozen BK113.out 3
        have hfz47_4:=blk_frozen BK113.out 4
        have hfz47_5:=blk_frozen BK113.out 5
        have hfz47_6:=blk_frozen BK113.out 6
        have hfz47_7:=blk_frozen BK113.out 7
        have hfz47_8:=blk_frozen BK113.out 8
        have hfz47_9:=blk_frozen BK113.out 9
        have hfz47_10:=blk_frozen BK113.out 10
        have hfz47_11:=blk_frozen BK113.out 11
        go_wp2
        go_meet
        case rel => exact ⟨_,((a0_10 == 0)),(by first | rfl | (simp;done) | (simp [*];done)),H',⟨by have:=HJ1.out;have:=HJ34.out;first | omega | exact Nat.le_refl _⟩,⟨by (with_reducible repeat (first | refine blk_drewN ?_ _ | refine blk_drew ?_ | refine blk_alloc ?_ _));exact BK113.out⟩,⟨by repeat (first | (with_reducible first | exact HB.out | apply below_alloc | apply pw_below_drewN | apply below_drew1 | refine below_set ?_ GE113.out) | exact HB.out)⟩⟩
       ·rw [if_neg c46] at H
        have c46b0:(a0_9 == 0) = false:=beq_eq_false_iff_ne.mpr c46
        have c46b1:(a0_9 != 0) = true:=bne_iff_ne.mpr c46
        (first | rw [c46b0] | (simp only [i64_w,i32_w];rw [c46b0]) | skip)
        have H':=Aside0.mk H
        clear H
        have hcz48_0:wc.cell? ⟨gb113,0,none⟩ = some (.int .i64 a0_0):=(blk_cell BK113.out 0).trans rfl
        have hcz48_1:wc.cell? ⟨gb113,1,none⟩ = some (.int .i64 a0_1):=(blk_cell BK113.out 1).trans rfl
        have hcz48_2:wc.cell? ⟨gb113,2,none⟩ = some (.int .i64 a0_2):=(blk_cell BK113.out 2).trans rfl
        have hcz48_3:wc.cell? ⟨gb113,3,none⟩ = some (.int .i64 a0_3):=(blk_cell BK113.out 3).trans rfl
        have hcz48_4:wc.cell? ⟨gb113,4,none⟩ = some (.int .i64 a0_4):=(blk_cell BK113.out 4).trans rfl
        have hcz48_5:wc.cell? ⟨gb113,5,none⟩ = some (.int .i64 a0_5):=(blk_cell BK113.out 5).trans rfl
        have hcz48_6:wc.cell? ⟨gb113,6,none⟩ = some (.int .u64 a0_6):=(blk_cell BK113.out 6).trans rfl
        have hcz48_7:wc.cell? ⟨gb113,7,none⟩ = some (.int .i64 a0_7):=(blk_cell BK113.out 7).trans rfl
        have hcz48_8:wc.cell? ⟨gb113,8,none⟩ = some (.string a0_8):=(blk_cell BK113.out 8).trans rfl
        have hcz48_9:wc.cell? ⟨gb113,9,none⟩ = some (.int .i64 a0_9):=(blk_cell BK113.out 9).trans rfl
        have hcz48_10:wc.cell? ⟨gb113,10,none⟩ = some (.int .i64 a0_10):=(blk_cell BK113.out 10).trans rfl
        have hcz48_11:wc.cell? ⟨gb113,11,none⟩ = some (.string a0_11):=(blk_cell BK113.out 11).trans rfl
        have hfz48_0:=blk_frozen BK113.out 0
        have hfz48_1:=blk_frozen BK113.out 1
        have hfz48_2:=blk_frozen BK113.out 2
        have hfz48_3:=blk_frozen BK113.out 3
        have hfz48_4:=blk_frozen BK113.out 4
        have hfz48_5:=blk_frozen BK113.out 5
        have hfz48_6:=blk_frozen BK113.out 6
        have hfz48_7:=blk_frozen BK113.out 7
        have hfz48_8:=blk_frozen BK113.out 8
        have hfz48_9:=blk_frozen BK113.out 9
        have hfz48_10:=blk_frozen BK113.out 10
        have hfz48_11:=blk_frozen BK113.out 11
        go_wp2
        go_meet
        case rel => exact ⟨_,(false),(by first | rfl | (simp;done) | (simp [*];done)),H',⟨by have:=HJ1.out;have:=HJ34.out;first | omega | exact Nat.le_refl _⟩,⟨by (with_reducible repeat (first | refine blk_drewN ?_ _ | refine blk_drew ?_ | refine blk_alloc ?_ _));exact BK113.out⟩,⟨by repeat (first | (with_reducible first | exact HB.out | apply below_alloc | apply pw_below_drewN | apply below_drew1 | refine below_set ?_ GE113.out) | exact HB.out)⟩⟩
      case rest =>
       clear HC45
       try clear c1
       try clear c2
       try clear p2
       try clear c3
       try clear c4
       try clear c5
       try clear c7
       try clear c8
       try clear c8b0
       try clear c8b1
       try clear c9
       try clear c9b0
       try clear c9b1
       try clear c10
       try clear c10b0
       try clear c14
       try clear c15
       try clear c15b0
       try clear c20
       try clear c21
       try clear c21b0
       try clear c21b1
       try clear c22
       try clear c22b0
       try clear c26
       try clear c27
       try clear c27b0
       try clear c34
       try clear c36
       try clear c36b0
       try clear c36b1
       try clear c39
       try clear c40
       try clear c40b0
       try clear c40b1
       try clear c46
       try clear c46b0
       try clear c46b1
       try clear hcz11_0
       try clear hcz11_1
       try clear hcz11_10
       try clear hcz11_11
       try clear hcz11_2
       try clear hcz11_3
       try clear hcz11_4
       try clear hcz11_5
       try clear hcz11_6
       try clear hcz11_7
       try clear hcz11_8
       try clear hcz11_9
       try clear hcz12_0
       try clear hcz12_1
       try clear hcz12_10
       try clear hcz12_11
       try clear hcz12_2
       try clear hcz12_3
       try clear hcz12_4
       try clear hcz12_5
       try clear hcz12_6
       try clear hcz12_7
       try clear hcz12_8
       try clear hcz12_9
       try clear hcz16_0
       try clear hcz16_1
       try clear hcz16_10
       try clear hcz16_11
       try clear hcz16_2
       try clear hcz16_3
       try clear hcz16_4
       try clear hcz16_5
       try clear hcz16_6
       try clear hcz16_7
       try clear hcz16_8
       try clear hcz16_9
       try clear hcz17_0
       try clear hcz17_1
       try clear hcz17_10
       try clear hcz17_11
       try clear hcz17_2
       try clear hcz17_3
       try clear hcz17_4
       try clear hcz17_5
       try clear hcz17_6
       try clear hcz17_7
       try clear hcz17_8
       try clear hcz17_9
       try clear hcz18_0
       try clear hcz18_1
       try clear hcz18_10
       try clear hcz18_11
       try clear hcz18_2
       try clear hcz18_3
       try clear hcz18_4
       try clear hcz18_5
       try clear hcz18_6
       try clear hcz18_7
       try clear hcz18_8
       try clear hcz18_9
       try clear hcz23_0
       try clear hcz23_1
       try clear hcz23_10
       try clear hcz23_11
       try clear hcz23_2
       try clear hcz23_3
       try clear hcz23_4
       try clear hcz23_5
       try clear hcz23_6
       try clear hcz23_7
       try clear hcz23_8
       try clear hcz23_9
       try clear hcz24_0
       try clear hcz24_1
       try clear hcz24_10
       try clear hcz24_11
       try clear hcz24_2
       try clear hcz24_3
       try clear hcz24_4
       try clear hcz24_5
       try clear hcz24_6
       try clear hcz24_7
       try clear hcz24_8
       try clear hcz24_9
       try clear hcz28_0
       try clear hcz28_1
       try clear hcz28_10
       try clear hcz28_11
       try clear hcz28_2
       try clear hcz28_3
       try clear hcz28_4
       try clear hcz28_5
       try clear hcz28_6
       try clear hcz28_7
       try clear hcz28_8
       try clear hcz28_9
       try clear hcz29_0
       try clear hcz29_1
       try clear hcz29_10
       try clear hcz29_11
       try clear hcz29_2
       try clear hcz29_3
       try clear hcz29_4
       try clear hcz29_5
       try clear hcz29_6
       try clear hcz29_7
       try clear hcz29_8
       try clear hcz29_9
       try clear hcz30_0
       try clear hcz30_1
       try clear hcz30_10
       try clear hcz30_11
       try clear hcz30_2
       try clear hcz30_3
       try clear hcz30_4
       try clear hcz30_5
       try clear hcz30_6
       try clear hcz30_7
       try clear hcz30_8
       try clear hcz30_9
       try clear hcz31_0
       try clear hcz31_1
       try clear hcz31_10
       try clear hcz31_11
       try clear hcz31_2
       try clear hcz31_3
       try clear hcz31_4
       try clear hcz31_5
       try clear hcz31_6
       try clear hcz31_7
       try clear hcz31_8
       try clear hcz31_9
       try clear hcz32_0
       try clear hcz32_1
       try clear hcz32_10
       try clear hcz32_11
       try clear hcz32_2
       try clear hcz32_3
       try clear hcz32_4
       try clear hcz32_5
       try clear hcz32_6
       try clear hcz32_7
       try clear hcz32_8
       try clear hcz32_9
       try clear hcz33_0
       try clear hcz33_1
       try clear hcz33_10
       try clear hcz33_11
       try clear hcz33_2
       try clear hcz33_3
       try clear hcz33_4
       try clear hcz33_5
       try clear hcz33_6
       try clear hcz33_7
       try clear hcz33_8
       try clear hcz33_9
       try clear hcz37_0
       try clear hcz37_1
       try clear hcz37_10
       try clear hcz37_11
       try clear hcz37_2
       try clear hcz37_3
       try clear hcz37_4
       try clear hcz37_5
       try clear hcz37_6
       try clear hcz37_7
       try clear hcz37_8
       try clear hcz37_9
       try clear hcz41_0
       try clear hcz41_1
       try clear hcz41_10
       try clear hcz41_11
       try clear hcz41_2
       try clear hcz41_3
       try clear hcz41_4
       try clear hcz41_5
       try clear hcz41_6
       try clear hcz41_7
       try clear hcz41_8
       try clear hcz41_9
       try clear hcz43_0
       try clear hcz43_1
       try clear hcz43_10
       try clear hcz43_11
       try clear hcz43_2
       try clear hcz43_3
       try clear hcz43_4
       try clear hcz43_5
       try clear hcz43_6
       try clear hcz43_7
       try clear hcz43_8
       try clear hcz43_9
       try clear hcz44_0
       try clear hcz44_1
       try clear hcz44_10
       try clear hcz44_11
       try clear hcz44_2
       try clear hcz44_3
       try clear hcz44_4
       try clear hcz44_5
       try clear hcz44_6
       try clear hcz44_7
       try clear hcz44_8
       try clear hcz44_9
       try clear hcz47_0
       try clear hcz47_1
       try clear hcz47_10
       try clear hcz47_11
       try clear hcz47_2
       try clear hcz47_3
       try clear hcz47_4
       try clear hcz47_5
       try clear hcz47_6
       try clear hcz47_7
       try clear hcz47_8
       try clear hcz47_9
       try clear hcz48_0
       try clear hcz48_1
       try clear hcz48_10
       try clear hcz48_11
       try clear hcz48_2
       try clear hcz48_3
       try clear hcz48_4
       try clear hcz48_5
       try clear hcz48_6
       try clear hcz48_7
       try clear hcz48_8
       try clear hcz48_9
       try clear hfz11_0
       try clear hfz11_1
       try clear hfz11_10
       try clear hfz11_11
       try clear hfz11_2
       try clear hfz11_3
       try clear hfz11_4
       try clear hfz11_5
       try clear hfz11_6
       try clear hfz11_7
       try clear hfz11_8
       try clear hfz11_9
       try clear hfz12_0
       try clear hfz12_1
       try clear hfz12_10
       try clear hfz12_11
       try clear hfz12_2
       try clear hfz12_3
       try clear hfz12_4
       try clear hfz12_5
       try clear hfz12_6
       try clear hfz12_7
       try clear hfz12_8
       try clear hfz12_9
       try clear hfz16_0
       try clear hfz16_1
       try clear hfz16_10
       try clear hfz16_11
       try clear hfz16_2
       try clear hfz16_3
       try clear hfz16_4
       try clear hfz16_5
       try clear hfz16_6
       try clear hfz16_7
       try clear hfz16_8
       try clear hfz16_9
       try clear hfz17_0
       try clear hfz17_1
       try clear hfz17_10
       try clear hfz17_11
       try clear hfz17_2
       try clear hfz17_3
       try clear hfz17_4
       try clear hfz17_5
       try clear hfz17_6
       try clear hfz17_7
       try clear hfz17_8
       try clear hfz17_9
       try clear hfz18_0
       try clear hfz18_1
       try clear hfz18_10
       try clear hfz18_11
       try clear hfz18_2
       try clear hfz18_3
       try clear hfz18_4
       try clear hfz18_5
       try clear hfz18_6
       try clear hfz18_7
       try clear hfz18_8
       try clear hfz18_9
       try clear hfz23_0
       try clear hfz23_1
       try clear hfz23_10
       try clear hfz23_11
       try clear hfz23_2
       try clear hfz23_3
       try clear hfz23_4
       try clear hfz23_5
       try clear hfz23_6
       try clear hfz23_7
       try clear hfz23_8
       try clear hfz23_9
       try clear hfz24_0
       try clear hfz24_1
       try clear hfz24_10
       try clear hfz24_11
       try clear hfz24_2
       try clear hfz24_3
       try clear hfz24_4
       try clear hfz24_5
       try clear hfz24_6
       try clear hfz24_7
       try clear hfz24_8
       try clear hfz24_9
       try clear hfz28_0
       try clear hfz28_1
       try clear hfz28_10
       try clear hfz28_11
       try clear hfz28_2
       try clear hfz28_3
       try clear hfz28_4
       try clear hfz28_5
       try clear hfz28_6
       try clear hfz28_7
       try clear hfz28_8
       try clear hfz28_9
       try clear hfz29_0
       try clear hfz29_1
       try clear hfz29_10
       try clear hfz29_11
       try clear hfz29_2
       try clear hfz29_3
       try clear hfz29_4
       try clear hfz29_5
       try clear hfz29_6
       try clear hfz29_7
       try clear hfz29_8
       try clear hfz29_9
       try clear hfz30_0
       try clear hfz30_1
       try clear hfz30_10
       try clear hfz30_11
       try clear hfz30_2
       try clear hfz30_3
       try clear hfz30_4
       try clear hfz30_5
       try clear hfz30_6
       try clear hfz30_7
       try clear hfz30_8
       try clear hfz30_9
       try clear hfz31_0
       try clear hfz31_1
       try clear hfz31_10
       try clear hfz31_11
       try clear hfz31_2
       try clear hfz31_3
       try clear hfz31_4
       try clear hfz31_5
       try clear hfz31_6
       try clear hfz31_7
       try clear hfz31_8
       try clear hfz31_9
       try clear hfz32_0
       try clear hfz32_1
       try clear hfz32_10
       try clear hfz32_11
       try clear hfz32_2
       try clear hfz32_3
       try clear hfz32_4
       try clear hfz32_5
       try clear hfz32_6
       try clear hfz32_7
       try clear hfz32_8
       try clear hfz32_9
       try clear hfz33_0
       try clear hfz33_1
       try clear hfz33_10
       try clear hfz33_11
       try clear hfz33_2
       try clear hfz33_3
       try clear hfz33_4
       try clear hfz33_5
       try clear hfz33_6
       try clear hfz33_7
       try clear hfz33_8
       try clear hfz33_9
       try clear hfz37_0
       try clear hfz37_1
       try clear hfz37_10
       try clear hfz37_11
       try clear hfz37_2
       try clear hfz37_3
       try clear hfz37_4
       try clear hfz37_5
       try clear hfz37_6
       try clear hfz37_7
       try clear hfz37_8
       try clear hfz37_9
       try clear hfz41_0
       try clear hfz41_1
       try clear hfz41_10
       try clear hfz41_11
       try clear hfz41_2
       try clear hfz41_3
       try clear hfz41_4
       try clear hfz41_5
       try clear hfz41_6
       try clear hfz41_7
       try clear hfz41_8
       try clear hfz41_9
       try clear hfz43_0
       try clear hfz43_1
       try clear hfz43_10
       try clear hfz43_11
       try clear hfz43_2
       try clear hfz43_3
       try clear hfz43_4
       try clear hfz43_5
       try clear hfz43_6
       try clear hfz43_7
       try clear hfz43_8
       try clear hfz43_9
       try clear hfz44_0
       try clear hfz44_1
       try clear hfz44_10
       try clear hfz44_11
       try clear hfz44_2
       try clear hfz44_3
       try clear hfz44_4
       try clear hfz44_5
       try clear hfz44_6
       try clear hfz44_7
       try clear hfz44_8
       try clear hfz44_9
       try clear hfz47_0
       try clear hfz47_1
       try clear hfz47_10
       try clear hfz47_11
       try clear hfz47_2
       try clear hfz47_3
       try clear hfz47_4
       try clear hfz47_5
       try clear hfz47_6
       try clear hfz47_7
       try clear hfz47_8
       try clear hfz47_9
       try clear hfz48_0
       try clear hfz48_1
       try clear hfz48_10
       try clear hfz48_11
       try clear hfz48_2
       try clear hfz48_3
       try clear hfz48_4
       try clear hfz48_5
       try clear hfz48_6
       try clear hfz48_7
       try clear hfz48_8
       try clear hfz48_9
       try clear p2
       obtain ⟨kq,x4_44,rfl,HA,HJ44,BK113,HB⟩:=hcut
       cases kq with
       | zero => exact absurd HA.out (by simp [message_packet.j2])
       | succ kj44 =>
        have H:=HA.out
        clear HA
        simp only [message_packet.j2] at H
        have HC49:=Aside0.mk H
        clear H
        go_upto_region 5 with (fail)
        go_cut [5] (fun v5 wc => ∃ (kq:Nat) (x5_48:Bool),v5 = .bool x5_48 ∧ Aside0 (message_packet.j3 kq x3_34 x4_44 x5_48 a0_0 a0_1 a0_2 a0_3 a0_4 a0_5 a0_6 a0_7 a0_8 a0_9 a0_10 a0_11 = some r) ∧ Aside0 (kq ≤ kj44) ∧ Aside0 (wc.heap[gb113]? = some (.cells #[.int .i64 a0_0,.int .i64 a0_1,.int .i64 a0_2,.int .i64 a0_3,.int .i64 a0_4,.int .i64 a0_5,.int .u64 a0_6,.int .i64 a0_7,.string a0_8,.int .i64 a0_9,.int .i64 a0_10,.string a0_11] 30 (0,0))) ∧ Aside0 (Below w.heap.size w wc))
        case first =>
         have H:=HC49.out
         clear HC49
         replace H:=Option.bind_eq_some_iff.mp H
         obtain ⟨t121,A500,H⟩:=H
         replace H:(if t121 = 0 then (message_packet.j3 kj44 x3_34 x4_44 (a0_11.toList == ([]:List UInt8)) a0_0 a0_1 a0_2 a0_3 a0_4 a0_5 a0_6 a0_7 a0_8 a0_9 a0_10 a0_11) else (message_packet.j3 kj44 x3_34 x4_44 false a0_0 a0_1 a0_2 a0_3 a0_4 a0_5 a0_6 a0_7 a0_8 a0_9 a0_10 a0_11)) = some r:=H
         have A50:=Aside0.mk A500
         clear A500
         by_cases c51:t121 = 0
         ·rw [if_pos c51] at H
          have c51b0:(t121 == 0) = true:=beq_iff_eq.mpr c51
          have c51b1:(t121 != 0) = false:=bne_eq_false_iff_eq.mpr c51
          clear c51
          (first | rw [c51b0] | (simp only [i64_w,i32_w];rw [c51b0]) | skip)
          have H':=Aside0.mk H
          clear H
          have hcz52_0:wc.cell? ⟨gb113,0,none⟩ = some (.int .i64 a0_0):=(blk_cell BK113.out 0).trans rfl
          have hcz52_1:wc.cell? ⟨gb113,1,none⟩ = some (.int .i64 a0_1):=(blk_cell BK113.out 1).trans rfl
          have hcz52_2:wc.cell? ⟨gb113,2,none⟩ = some (.int .i64 a0_2):=(blk_cell BK113.out 2).trans rfl
          have hcz52_3:wc.cell? ⟨gb113,3,none⟩ = some (.int .i64 a0_3):=(blk_cell BK113.out 3).trans rfl
          have hcz52_4:wc.cell? ⟨gb113,4,none⟩ = some (.int .i64 a0_4):=(blk_cell BK113.out 4).trans rfl
          have hcz52_5:wc.cell? ⟨gb113,5,none⟩ = some (.int .i64 a0_5):=(blk_cell BK113.out 5).trans rfl
          have hcz52_6:wc.cell? ⟨gb113,6,none⟩ = some (.int .u64 a0_6):=(blk_cell BK113.out 6).trans rfl
          have hcz52_7:wc.cell? ⟨gb113,7,none⟩ = some (.int .i64 a0_7):=(blk_cell BK113.out 7).trans rfl
          have hcz52_8:wc.cell? ⟨gb113,8,none⟩ = some (.string a0_8):=(blk_cell BK113.out 8).trans rfl
          have hcz52_9:wc.cell? ⟨gb113,9,none⟩ = some (.int .i64 a0_9):=(blk_cell BK113.out 9).trans rfl
          have hcz52_10:wc.cell? ⟨gb113,10,none⟩ = some (.int .i64 a0_10):=(blk_cell BK113.out 10).trans rfl
          have hcz52_11:wc.cell? ⟨gb113,11,none⟩ = some (.string a0_11):=(blk_cell BK113.out 11).trans rfl
          have hfz52_0:=blk_frozen BK113.out 0
          have hfz52_1:=blk_frozen BK113.out 1
          have hfz52_2:=blk_frozen BK113.out 2
          have hfz52_3:=blk_frozen BK113.out 3
          have hfz52_4:=blk_frozen BK113.out 4
          have hfz52_5:=blk_frozen BK113.out 5
          have hfz52_6:=blk_frozen BK113.out 6
          have hfz52_7:=blk_frozen BK113.out 7
          have hfz52_8:=blk_frozen BK113.out 8
          have hfz52_9:=blk_frozen BK113.out 9
          have hfz52_10:=blk_frozen BK113.out 10
          have hfz52_11:=blk_frozen BK113.out 11
          go_wp2_with (first | ((with_reducible refine gate_callee (f:=39) rfl ?_);refine goesL_ (some 76) rfl rfl Try.func39 (by kernel_rfl) rfl #[.string a0_8] rfl (by (try simp only [List.map_toArray,List.map_cons,List.map_nil]);first | done | rfl | (simp only [List.length_drop,List.length_take];rfl)) ?_;(with_reducible refine (ident_CheckName.calls kj44 a0_8 t121 _ A50.out).mono ?_);rintro e w' ⟨rfl,⟨nd,rfl⟩⟩;refine ⟨_,rfl,?_⟩))
          go_meet
          case rel => exact ⟨_,((a0_11.toList == ([]:List UInt8))),(by first | rfl | (simp;done) | (simp [*];done)),H',⟨by have:=HJ1.out;have:=HJ34.out;have:=HJ44.out;first | omega | exact Nat.le_refl _⟩,⟨by (with_reducible repeat (first | refine blk_drewN ?_ _ | refine blk_drew ?_ | refine blk_alloc ?_ _));exact BK113.out⟩,⟨by repeat (first | (with_reducible first | exact HB.out | apply below_alloc | apply pw_below_drewN | apply below_drew1 | refine below_set ?_ GE113.out) | exact HB.out)⟩⟩
         ·rw [if_neg c51] at H
          have c51b0:(t121 == 0) = false:=beq_eq_false_iff_ne.mpr c51
          have c51b1:(t121 != 0) = true:=bne_iff_ne.mpr c51
          (first | rw [c51b0] | (simp only [i64_w,i32_w];rw [c51b0]) | skip)
          have H':=Aside0.mk H
          clear H
          have hcz53_0:wc.cell? ⟨gb113,0,none⟩ = some (.int .i64 a0_0):=(blk_cell BK113.out 0).trans rfl
          have hcz53_1:wc.cell? ⟨gb113,1,none⟩ = some (.int .i64 a0_1):=(blk_cell BK113.out 1).trans rfl
          have hcz53_2:wc.cell? ⟨gb113,2,none⟩ = some (.int .i64 a0_2):=(blk_cell BK113.out 2).trans rfl
          have hcz53_3:wc.cell? ⟨gb113,3,none⟩ = some (.int .i64 a0_3):=(blk_cell BK113.out 3).trans rfl
          have hcz53_4:wc.cell? ⟨gb113,4,none⟩ = some (.int .i64 a0_4):=(blk_cell BK113.out 4).trans rfl
          have hcz53_5:wc.cell? ⟨gb113,5,none⟩ = some (.int .i64 a0_5):=(blk_cell BK113.out 5).trans rfl
          have hcz53_6:wc.cell? ⟨gb113,6,none⟩ = some (.int .u64 a0_6):=(blk_cell BK113.out 6).trans rfl
          have hcz53_7:wc.cell? ⟨gb113,7,none⟩ = some (.int .i64 a0_7):=(blk_cell BK113.out 7).trans rfl
          have hcz53_8:wc.cell? ⟨gb113,8,none⟩ = some (.string a0_8):=(blk_cell BK113.out 8).trans rfl
          have hcz53_9:wc.cell? ⟨gb113,9,none⟩ = some (.int .i64 a0_9):=(blk_cell BK113.out 9).trans rfl
          have hcz53_10:wc.cell? ⟨gb113,10,none⟩ = some (.int .i64 a0_10):=(blk_cell BK113.out 10).trans rfl
          have hcz53_11:wc.cell? ⟨gb113,11,none⟩ = some (.string a0_11):=(blk_cell BK113.out 11).trans rfl
          have hfz53_0:=blk_frozen BK113.out 0
          have hfz53_1:=blk_frozen BK113.out 1
          have hfz53_2:=blk_frozen BK113.out 2
          have hfz53_3:=blk_frozen BK113.out 3
          have hfz53_4:=blk_frozen BK113.out 4
          have hfz53_5:=blk_frozen BK113.out 5
          have hfz53_6:=blk_frozen BK113.out 6
          have hfz53_7:=blk_frozen BK113.out 7
          have hfz53_8:=blk_frozen BK113.out 8
          have hfz53_9:=blk_frozen BK113.out 9
          have hfz53_10:=blk_frozen BK113.out 10
          have hfz53_11:=blk_frozen BK113.out 11
          go_wp2_with (first | ((with_reducible refine gate_callee (f:=39) rfl ?_);refine goesL_ (some 76) rfl rfl Try.func39 (by kernel_rfl) rfl #[.string a0_8] rfl (by (try simp only [List.map_toArray,List.map_cons,List.map_nil]);first | done | rfl | (simp only [List.length_drop,List.length_take];rfl)) ?_;(with_reducible refine (ident_CheckName.calls kj44 a0_8 t121 _ A50.out).mono ?_);rintro e w' ⟨rfl,⟨nd,rfl⟩⟩;refine ⟨_,rfl,?_⟩))
          go_meet
          case rel => exact ⟨_,(false),(by first | rfl | (simp;done) | (simp [*];done)),H',⟨by have:=HJ1.out;have:=HJ34.out;have:=HJ44.out;first | omega | exact Nat.le_refl _⟩,⟨by (with_reducible repeat (first | refine blk_drewN ?_ _ | refine blk_drew ?_ | refine blk_alloc ?_ _));exact BK113.out⟩,⟨by repeat (first | (with_reducible first | exact HB.out | apply below_alloc | apply pw_below_drewN | apply below_drew1 | refine below_set ?_ GE113.out) | exact HB.out)⟩⟩
        case rest =>
         clear HC49
         try clear c1
         try clear c2
         try clear p2
         try clear c3
         try clear c4
         try clear c5
         try clear c7
         try clear c8
         try clear c8b0
         try clear c8b1
         try clear c9
         try clear c9b0
         try clear c9b1
         try clear c10
         try clear c10b0
         try clear c14
         try clear c15
         try clear c15b0
         try clear c20
         try clear c21
         try clear c21b0
         try clear c21b1
         try clear c22
         try clear c22b0
         try clear c26
         try clear c27
         try clear c27b0
         try clear c34
         try clear c36
         try clear c36b0
         try clear c36b1
         try clear c39
         try clear c40
         try clear c40b0
         try clear c40b1
         try clear c46
         try clear c46b0
         try clear c46b1
         try clear c51
         try clear c51b0
         try clear c51b1
         try clear hcz11_0
         try clear hcz11_1
         try clear hcz11_10
         try clear hcz11_11
         try clear hcz11_2
         try clear hcz11_3
         try clear hcz11_4
         try clear hcz11_5
         try clear hcz11_6
         try clear hcz11_7
         try clear hcz11_8
         try clear hcz11_9
         try clear hcz12_0
         try clear hcz12_1
         try clear hcz12_10
         try clear hcz12_11
         try clear hcz12_2
         try clear hcz12_3
         try clear hcz12_4
         try clear hcz12_5
         try clear hcz12_6
         try clear hcz12_7
         try clear hcz12_8
         try clear hcz12_9
         try clear hcz16_0
         try clear hcz16_1
         try clear hcz16_10
         try clear hcz16_11
         try clear hcz16_2
         try clear hcz16_3
         try clear hcz16_4
         try clear hcz16_5
         try clear hcz16_6
         try clear hcz16_7
         try clear hcz16_8
         try clear hcz16_9
         try clear hcz17_0
         try clear hcz17_1
         try clear hcz17_10
         try clear hcz17_11
         try clear hcz17_2
         try clear hcz17_3
         try clear hcz17_4
         try clear hcz17_5
         try clear hcz17_6
         try clear hcz17_7
         try clear hcz17_8
         try clear hcz17_9
         try clear hcz18_0
         try clear hcz18_1
         try clear hcz18_10
         try clear hcz18_11
         try clear hcz18_2
         try clear hcz18_3
         try clear hcz18_4
         try clear hcz18_5
         try clear hcz18_6
         try clear hcz18_7
         try clear hcz18_8
         try clear hcz18_9
         try clear hcz23_0
         try clear hcz23_1
         try clear hcz23_10
         try clear hcz23_11
         try clear hcz23_2
         try clear hcz23_3
         try clear hcz23_4
         try clear hcz23_5
         try clear hcz23_6
         try clear hcz23_7
         try clear hcz23_8
         try clear hcz23_9
         try clear hcz24_0
         try clear hcz24_1
         try clear hcz24_10
         try clear hcz24_11
         try clear hcz24_2
         try clear hcz24_3
         try clear hcz24_4
         try clear hcz24_5
         try clear hcz24_6
         try clear hcz24_7
         try clear hcz24_8
         try clear hcz24_9
         try clear hcz28_0
         try clear hcz28_1
         try clear hcz28_10
         try clear hcz28_11
         try clear hcz28_2
         try clear hcz28_3
         try clear hcz28_4
         try clear hcz28_5
         try clear hcz28_6
         try clear hcz28_7
         try clear hcz28_8
         try clear hcz28_9
         try clear hcz29_0
         try clear hcz29_1
         try clear hcz29_10
         try clear hcz29_11
         try clear hcz29_2
         try clear hcz29_3
         try clear hcz29_4
         try clear hcz29_5
         try clear hcz29_6
         try clear hcz29_7
         try clear hcz29_8
         try clear hcz29_9
         try clear hcz30_0
         try clear hcz30_1
         try clear hcz30_10
         try clear hcz30_11
         try clear hcz30_2
         try clear hcz30_3
         try clear hcz30_4
         try clear hcz30_5
         try clear hcz30_6
         try clear hcz30_7
         try clear hcz30_8
         try clear hcz30_9
         try clear hcz31_0
         try clear hcz31_1
         try clear hcz31_10
         try clear hcz31_11
         try clear hcz31_2
         try clear hcz31_3
         try clear hcz31_4
         try clear hcz31_5
         try clear hcz31_6
         try clear hcz31_7
         try clear hcz31_8
         try clear hcz31_9
         try clear hcz32_0
         try clear hcz32_1
         try clear hcz32_10
         try clear hcz32_11
         try clear hcz32_2
         try clear hcz32_3
         try clear hcz32_4
         try clear hcz32_5
         try clear hcz32_6
         try clear hcz32_7
         try clear hcz32_8
         try clear hcz32_9
         try clear hcz33_0
         try clear hcz33_1
         try clear hcz33_10
         try clear hcz33_11
         try clear hcz33_2
         try clear hcz33_3
         try clear hcz33_4
         try clear hcz33_5
         try clear hcz33_6
         try clear hcz33_7
         try clear hcz33_8
         try clear hcz33_9
         try clear hcz37_0
         try clear hcz37_1
         try clear hcz37_10
         try clear hcz37_11
         try clear hcz37_2
         try clear hcz37_3
         try clear hcz37_4
         try clear hcz37_5
         try clear hcz37_6
         try clear hcz37_7
         try clear hcz37_8
         try clear hcz37_9
         try clear hcz41_0
         try clear hcz41_1
         try clear hcz41_10
         try clear hcz41_11
         try clear hcz41_2
         try clear hcz41_3
         try clear hcz41_4
         try clear hcz41_5
         try clear hcz41_6
         try clear hcz41_7
         try clear hcz41_8
         try clear hcz41_9
         try clear hcz43_0
         try clear hcz43_1
         try clear hcz43_10
         try clear hcz43_11
         try clear hcz43_2
         try clear hcz43_3
         try clear hcz43_4
         try clear hcz43_5
         try clear hcz43_6
         try clear hcz43_7
         try clear hcz43_8
         try clear hcz43_9
         try clear hcz44_0
         try clear hcz44_1
         try clear hcz44_10
         try clear hcz44_11
         try clear hcz44_2
         try clear hcz44_3
         try clear hcz44_4
         try clear hcz44_5
         try clear hcz44_6
         try clear hcz44_7
         try clear hcz44_8
         try clear hcz44_9
         try clear hcz47_0
         try clear hcz47_1
         try clear hcz47_10
         try clear hcz47_11
         try clear hcz47_2
         try clear hcz47_3
         try clear hcz47_4
         try clear hcz47_5
         try clear hcz47_6
         try clear hcz47_7
         try clear hcz47_8
         try clear hcz47_9
         try clear hcz48_0
         try clear hcz48_1
         try clear hcz48_10
         try clear hcz48_11
         try clear hcz48_2
         try clear hcz48_3
         try clear hcz48_4
         try clear hcz48_5
         try clear hcz48_6
         try clear hcz48_7
         try clear hcz48_8
         try clear hcz48_9
         try clear hcz52_0
         try clear hcz52_1
         try clear hcz52_10
         try clear hcz52_11
         try clear hcz52_2
         try clear hcz52_3
         try clear hcz52_4
         try clear hcz52_5
         try clear hcz52_6
         try clear hcz52_7
         try clear hcz52_8
         try clear hcz52_9
         try clear hcz53_0
         try clear hcz53_1
         try clear hcz53_10
         try clear hcz53_11
         try clear hcz53_2
         try clear hcz53_3
         try clear hcz53_4
         try clear hcz53_5
         try clear hcz53_6
         try clear hcz53_7
         try clear hcz53_8
         try clear hcz53_9
         try clear hfz11_0
         try clear hfz11_1
         try clear hfz11_10
         try clear hfz11_11
         try clear hfz11_2
         try clear hfz11_3
         try clear hfz11_4
         try clear hfz11_5
         try clear hfz11_6
         try clear hfz11_7
         try clear hfz11_8
         try clear hfz11_9
         try clear hfz12_0
         try clear hfz12_1
         try clear hfz12_10
         try clear hfz12_11
         try clear hfz12_2
         try clear hfz12_3
         try clear hfz12_4
         try clear hfz12_5
         try clear hfz12_6
         try clear hfz12_7
         try clear hfz12_8
         try clear hfz12_9
         try clear hfz16_0
         try clear hfz16_1
         try clear hfz16_10
         try clear hfz16_11
         try clear hfz16_2
         try clear hfz16_3
         try clear hfz16_4
         try clear hfz16_5
         try clear hfz16_6
         try clear hfz16_7
         try clear hfz16_8
         try clear hfz16_9
         try clear hfz17_0
         try clear hfz17_1
         try clear hfz17_10
         try clear hfz17_11
         try clear hfz17_2
         try clear hfz17_3
         try clear hfz17_4
         try clear hfz17_5
         try clear hfz17_6
         try clear hfz17_7
         try clear hfz17_8
         try clear hfz17_9
         try clear hfz18_0
         try clear hfz18_1
         try clear hfz18_10
         try clear hfz18_11
         try clear hfz18_2
         try clear hfz18_3
         try clear hfz18_4
         try clear hfz18_5
         try clear hfz18_6
         try clear hfz18_7
         try clear hfz18_8
         try clear hfz18_9
         try clear hfz23_0
         try clear hfz23_1
         try clear hfz23_10
         try clear hfz23_11
         try clear hfz23_2
         try clear hfz23_3
         try clear hfz23_4
         try clear hfz23_5
         try clear hfz23_6
         try clear hfz23_7
         try clear hfz23_8
         try clear hfz23_9
         try clear hfz24_0
         try clear hfz24_1
         try clear hfz24_10
         try clear hfz24_11
         try clear hfz24_2
         try clear hfz24_3
         try clear hfz24_4
         try clear hfz24_5
         try clear hfz24_6
         try clear hfz24_7
         try clear hfz24_8
         try clear hfz24_9
         try clear hfz28_0
         try clear hfz28_1
         try clear hfz28_10
         try clear hfz28_11
         try clear hfz28_2
         try clear hfz28_3
         try clear hfz28_4
         try clear hfz28_5
         try clear hfz28_6
         try clear hfz28_7
         try clear hfz28_8
         try clear hfz28_9
         try clear hfz29_0
         try clear hfz29_1
         try clear hfz29_10
         try clear hfz29_11
         try clear hfz29_2
         try clear hfz29_3
         try clear hfz29_4
         try clear hfz29_5
         try clear hfz29_6
         try clear hfz29_7
         try clear hfz29_8
         try clear hfz29_9
         try clear hfz30_0
         try clear hfz30_1
         try clear hfz30_10
         try clear hfz30_11
         try clear hfz30_2
         try clear hfz30_3
         try clear hfz30_4
         try clear hfz30_5
         try clear hfz30_6
         try clear hfz30_7
         try clear hfz30_8
         try clear hfz30_9
         try clear hfz31_0
         try clear hfz31_1
         try clear hfz31_10
         try clear hfz31_11
         try clear hfz31_2
         try clear hfz31_3
         try clear hfz31_4
         try clear hfz31_5
         try clear hfz31_6
         try clear hfz31_7
         try clear hfz31_8
         try clear hfz31_9
         try clear hfz32_0
         try clear hfz32_1
         try clear hfz32_10
         try clear hfz32_11
         try clear hfz32_2
         try clear hfz32_3
         try clear hfz32_4
         try clear hfz32_5
         try clear hfz32_6
         try clear hfz32_7
         try clear hfz32_8
         try clear hfz32_9
         try clear hfz33_0
         try clear hfz33_1
         try clear hfz33_10
         try clear hfz33_11
         try clear hfz33_2
         try clear hfz33_3
         try clear hfz33_4
         try clear hfz33_5
         try clear hfz33_6
         try clear hfz33_7
         try clear hfz33_8
         try clear hfz33_9
         try clear hfz37_0
         try clear hfz37_1
         try clear hfz37_10
         try clear hfz37_11
         try clear hfz37_2
         try clear hfz37_3
         try clear hfz37_4
         try clear hfz37_5
         try clear hfz37_6
         try clear hfz37_7
         try clear hfz37_8
         try clear hfz37_9
         try clear hfz41_0
         try clear hfz41_1
         try clear hfz41_10
         try clear hfz41_11
         try clear hfz41_2
         try clear hfz41_3
         try clear hfz41_4
         try clear hfz41_5
         try clear hfz41_6
         try clear hfz41_7
         try clear hfz41_8
         try clear hfz41_9
         try clear hfz43_0
         try clear hfz43_1
         try clear hfz43_10
         try clear hfz43_11
         try clear hfz43_2
         try clear hfz43_3
         try clear hfz43_4
         try clear hfz43_5
         try clear hfz43_6
         try clear hfz43_7
         try clear hfz43_8
         try clear hfz43_9
         try clear hfz44_0
         try clear hfz44_1
         try clear hfz44_10
         try clear hfz44_11
         try clear hfz44_2
         try clear hfz44_3
         try clear hfz44_4
         try clear hfz44_5
         try clear hfz44_6
         try clear hfz44_7
         try clear hfz44_8
         try clear hfz44_9
         try clear hfz47_0
         try clear hfz47_1
         try clear hfz47_10
         try clear hfz47_11
         try clear hfz47_2
         try clear hfz47_3
         try clear hfz47_4
         try clear hfz47_5
         try clear hfz47_6
         try clear hfz47_7
         try clear hfz47_8
         try clear hfz47_9
         try clear hfz48_0
         try clear hfz48_1
         try clear hfz48_10
         try clear hfz48_11
         try clear hfz48_2
         try clear hfz48_3
         try clear hfz48_4
         try clear hfz48_5
         try clear hfz48_6
         try clear hfz48_7
         try clear hfz48_8
         try clear hfz48_9
         try clear hfz52_0
         try clear hfz52_1
         try clear hfz52_10
         try clear hfz52_11
         try clear hfz52_2
         try clear hfz52_3
         try clear hfz52_4
         try clear hfz52_5
         try clear hfz52_6
         try clear hfz52_7
         try clear hfz52_8
         try clear hfz52_9
         try clear hfz53_0
         try clear hfz53_1
         try clear hfz53_10
         try clear hfz53_11
         try clear hfz53_2
         try clear hfz53_3
         try clear hfz53_4
         try clear hfz53_5
         try clear hfz53_6
         try clear hfz53_7
         try clear hfz53_8
         try clear hfz53_9
         try clear p2
         obtain ⟨kq,x5_48,rfl,HA,HJ48,BK113,HB⟩:=hcut
         cases kq with
         | zero => exact absurd HA.out (by simp [message_packet.j3])
         | succ kj48 =>
          have H:=HA.out
          clear HA
          simp only [message_packet.j3] at H
          by_cases c54:a0_0 = 1
          ·rw [if_pos c54] at H
           have c54b0:(a0_0 == 1) = true:=beq_iff_eq.mpr c54
           have c54b1:(a0_0 != 1) = false:=bne_eq_false_iff_eq.mpr c54
           clear c54
           by_cases c55:a0_7 = 0
           ·rw [if_pos c55] at H
            have c55b0:(a0_7 == 0) = true:=beq_iff_eq.mpr c55
            have c55b1:(a0_7 != 0) = false:=bne_eq_false_iff_eq.mpr c55
            clear c55
            by_cases c56:a0_8.toList = ([]:List UInt8)
            ·rw [if_pos c56] at H
             have c56b0:(a0_8.toList == ([]:List UInt8)) = true:=beq_iff_eq.mpr c56
             have c56b1:(a0_8.toList != ([]:List UInt8)) = false:=bne_eq_false_iff_eq.mpr c56
             clear c56
             by_cases c57:x4_44 = true
             ·subst c57
              have H1:(some (decide ((a0_11.size:Int) ≤ 1024))) = some r:=by rw [if_pos rfl] at H;exact H
              clear H
              have H:=H1
              clear H1
              obtain rfl:=Option.some.inj H
              have hcz58_0:wc.cell? ⟨gb113,0,none⟩ = some (.int .i64 a0_0):=(blk_cell BK113.out 0).trans rfl
              have hcz58_1:wc.cell? ⟨gb113,1,none⟩ = some (.int .i64 a0_1):=(blk_cell BK113.out 1).trans rfl
              have hcz58_2:wc.cell? ⟨gb113,2,none⟩ = some (.int .i64 a0_2):=(blk_cell BK113.out 2).trans rfl
              have hcz58_3:wc.cell? ⟨gb113,3,none⟩ = some (.int .i64 a0_3):=(blk_cell BK113.out 3).trans rfl
              have hcz58_4:wc.cell? ⟨gb113,4,none⟩ = some (.int .i64 a0_4):=(blk_cell BK113.out 4).trans rfl
              have hcz58_5:wc.cell? ⟨gb113,5,none⟩ = some (.int .i64 a0_5):=(blk_cell BK113.out 5).trans rfl
              have hcz58_6:wc.cell? ⟨gb113,6,none⟩ = some (.int .u64 a0_6):=(blk_cell BK113.out 6).trans rfl
              have hcz58_7:wc.cell? ⟨gb113,7,none⟩ = some (.int .i64 a0_7):=(blk_cell BK113.out 7).trans rfl
              have hcz58_8:wc.cell? ⟨gb113,8,none⟩ = some (.string a0_8):=(blk_cell BK113.out 8).trans rfl
              have hcz58_9:wc.cell? ⟨gb113,9,none⟩ = some (.int .i64 a0_9):=(blk_cell BK113.out 9).trans rfl
              have hcz58_10:wc.cell? ⟨gb113,10,none⟩ = some (.int .i64 a0_10):=(blk_cell BK113.out 10).trans rfl
              have hcz58_11:wc.cell? ⟨gb113,11,none⟩ = some (.string a0_11):=(blk_cell BK113.out 11).trans rfl
              have hfz58_0:=blk_frozen BK113.out 0
              have hfz58_1:=blk_frozen BK113.out 1
              have hfz58_2:=blk_frozen BK113.out 2
              have hfz58_3:=blk_frozen BK113.out 3
              have hfz58_4:=blk_frozen BK113.out 4
              have hfz58_5:=blk_frozen BK113.out 5
              have hfz58_6:=blk_frozen BK113.out 6
              have hfz58_7:=blk_frozen BK113.out 7
              have hfz58_8:=blk_frozen BK113.out 8
              have hfz58_9:=blk_frozen BK113.out 9
              have hfz58_10:=blk_frozen BK113.out 10
              have hfz58_11:=blk_frozen BK113.out 11
              go_wp2
              go_ret
              exact ⟨by first | rfl | (simp [errW_none,errW_some] <;> rfl) | (simp [*,errW_none,errW_some] <;> rfl),by repeat (first | (with_reducible first | exact HB.out | apply below_alloc | apply pw_below_drewN | apply below_drew1 | refine below_set ?_ GE113.out) | exact HB.out)⟩
             ·replace c57:=Bool.eq_false_iff.mpr c57
              subst c57
              have H1:(some false) = some r:=by rw [if_neg (show ¬ (false = true) by decide)] at H;exact H
              clear H
              have H:=H1
              clear H1
              obtain rfl:=Option.some.inj H
              have hcz59_0:wc.cell? ⟨gb113,0,none⟩ = some (.int .i64 a0_0):=(blk_cell BK113.out 0).trans rfl
              have hcz59_1:wc.cell? ⟨gb113,1,none⟩ = some (.int .i64 a0_1):=(blk_cell BK113.out 1).trans rfl
              have hcz59_2:wc.cell? ⟨gb113,2,none⟩ = some (.int .i64 a0_2):=(blk_cell BK113.out 2).trans rfl
              have hcz59_3:wc.cell? ⟨gb113,3,none⟩ = some (.int .i64 a0_3):=(blk_cell BK113.out 3).trans rfl
              have hcz59_4:wc.cell? ⟨gb113,4,none⟩ = some (.int .i64 a0_4):=(blk_cell BK113.out 4).trans rfl
              have hcz59_5:wc.cell? ⟨gb113,5,none⟩ = some (.int .i64 a0_5):=(blk_cell BK113.out 5).trans rfl
              have hcz59_6:wc.cell? ⟨gb113,6,none⟩ = some (.int .u64 a0_6):=(blk_cell BK113.out 6).trans rfl
              have hcz59_7:wc.cell? ⟨gb113,7,none⟩ = some (.int .i64 a0_7):=(blk_cell BK113.out 7).trans rfl
              have hcz59_8:wc.cell? ⟨gb113,8,none⟩ = some (.string a0_8):=(blk_cell BK113.out 8).trans rfl
              have hcz59_9:wc.cell? ⟨gb113,9,none⟩ = some (.int .i64 a0_9):=(blk_cell BK113.out 9).trans rfl
              have hcz59_10:wc.cell? ⟨gb113,10,none⟩ = some (.int .i64 a0_10):=(blk_cell BK113.out 10).trans rfl
              have hcz59_11:wc.cell? ⟨gb113,11,none⟩ = some (.string a0_11):=(blk_cell BK113.out 11).trans rfl
              have hfz59_0:=blk_frozen BK113.out 0
              have hfz59_1:=blk_frozen BK113.out 1
              have hfz59_2:=blk_frozen BK113.out 2
              have hfz59_3:=blk_frozen BK113.out 3
              have hfz59_4:=blk_frozen BK113.out 4
              have hfz59_5:=blk_frozen BK113.out 5
              have hfz59_6:=blk_frozen BK113.out 6
              have hfz59_7:=blk_frozen BK113.out 7
              have hfz59_8:=blk_frozen BK113.out 8
              have hfz59_9:=blk_frozen BK113.out 9
              have hfz59_10:=blk_frozen BK113.out 10
              have hfz59_11:=blk_frozen BK113.out 11
              go_wp2
              go_ret
              exact ⟨by first | rfl | (simp [errW_none,errW_some] <;> rfl) | (simp [*,errW_none,errW_some] <;> rfl),by repeat (first | (with_reducible first | exact HB.out | apply below_alloc | apply pw_below_drewN | apply below_drew1 | refine below_set ?_ GE113.out) | exact HB.out)⟩
            ·rw [if_neg c56] at H
             have c56b0:(a0_8.toList == ([]:List UInt8)) = false:=beq_eq_false_iff_ne.mpr c56
             have c56b1:(a0_8.toList != ([]:List UInt8)) = true:=bne_iff_ne.mpr c56
             obtain rfl:=Option.some.inj H
             have hcz60_0:wc.cell? ⟨gb113,0,none⟩ = some (.int .i64 a0_0):=(blk_cell BK113.out 0).trans rfl
             have hcz60_1:wc.cell? ⟨gb113,1,none⟩ = some (.int .i64 a0_1):=(blk_cell BK113.out 1).trans rfl
             have hcz60_2:wc.cell? ⟨gb113,2,none⟩ = some (.int .i64 a0_2):=(blk_cell BK113.out 2).trans rfl
             have hcz60_3:wc.cell? ⟨gb113,3,none⟩ = some (.int .i64 a0_3):=(blk_cell BK113.out 3).trans rfl
             have hcz60_4:wc.cell? ⟨gb113,4,none⟩ = some (.int .i64 a0_4):=(blk_cell BK113.out 4).trans rfl
             have hcz60_5:wc.cell? ⟨gb113,5,none⟩ = some (.int .i64 a0_5):=(blk_cell BK113.out 5).trans rfl
             have hcz60_6:wc.cell? ⟨gb113,6,none⟩ = some (.int .u64 a0_6):=(blk_cell BK113.out 6).trans rfl
             have hcz60_7:wc.cell? ⟨gb113,7,none⟩ = some (.int .i64 a0_7):=(blk_cell BK113.out 7).trans rfl
             have hcz60_8:wc.cell? ⟨gb113,8,none⟩ = some (.string a0_8):=(blk_cell BK113.out 8).trans rfl
             have hcz60_9:wc.cell? ⟨gb113,9,none⟩ = some (.int .i64 a0_9):=(blk_cell BK113.out 9).trans rfl
             have hcz60_10:wc.cell? ⟨gb113,10,none⟩ = some (.int .i64 a0_10):=(blk_cell BK113.out 10).trans rfl
             have hcz60_11:wc.cell? ⟨gb113,11,none⟩ = some (.string a0_11):=(blk_cell BK113.out 11).trans rfl
             have hfz60_0:=blk_frozen BK113.out 0
             have hfz60_1:=blk_frozen BK113.out 1
             have hfz60_2:=blk_frozen BK113.out 2
             have hfz60_3:=blk_frozen BK113.out 3
             have hfz60_4:=blk_frozen BK113.out 4
             have hfz60_5:=blk_frozen BK113.out 5
             have hfz60_6:=blk_frozen BK113.out 6
             have hfz60_7:=blk_frozen BK113.out 7
             have hfz60_8:=blk_frozen BK113.out 8
             have hfz60_9:=blk_frozen BK113.out 9
             have hfz60_10:=blk_frozen BK113.out 10
             have hfz60_11:=blk_frozen BK113.out 11
             go_wp2
             go_ret
             exact ⟨by first | rfl | (simp [errW_none,errW_some] <;> rfl) | (simp [*,errW_none,errW_some] <;> rfl),by repeat (first | (with_reducible first | exact HB.out | apply below_alloc | apply pw_below_drewN | apply below_drew1 | refine below_set ?_ GE113.out) | exact HB.out)⟩
           ·rw [if_neg c55] at H
            have c55b0:(a0_7 == 0) = false:=beq_eq_false_iff_ne.mpr c55
            have c55b1:(a0_7 != 0) = true:=bne_iff_ne.mpr c55
            obtain rfl:=Option.some.inj H
            have hcz61_0:wc.cell? ⟨gb113,0,none⟩ = some (.int .i64 a0_0):=(blk_cell BK113.out 0).trans rfl
            have hcz61_1:wc.cell? ⟨gb113,1,none⟩ = some (.int .i64 a0_1):=(blk_cell BK113.out 1).trans rfl
            have hcz61_2:wc.cell? ⟨gb113,2,none⟩ = some (.int .i64 a0_2):=(blk_cell BK113.out 2).trans rfl
            have hcz61_3:wc.cell? ⟨gb113,3,none⟩ = some (.int .i64 a0_3):=(blk_cell BK113.out 3).trans rfl
            have hcz61_4:wc.cell? ⟨gb113,4,none⟩ = some (.int .i64 a0_4):=(blk_cell BK113.out 4).trans rfl
            have hcz61_5:wc.cell? ⟨gb113,5,none⟩ = some (.int .i64 a0_5):=(blk_cell BK113.out 5).trans rfl
            have hcz61_6:wc.cell? ⟨gb113,6,none⟩ = some (.int .u64 a0_6):=(blk_cell BK113.out 6).trans rfl
            have hcz61_7:wc.cell? ⟨gb113,7,none⟩ = some (.int .i64 a0_7):=(blk_cell BK113.out 7).trans rfl
            have hcz61_8:wc.cell? ⟨gb113,8,none⟩ = some (.string a0_8):=(blk_cell BK113.out 8).trans rfl
            have hcz61_9:wc.cell? ⟨gb113,9,none⟩ = some (.int .i64 a0_9):=(blk_cell BK113.out 9).trans rfl
            have hcz61_10:wc.cell? ⟨gb113,10,none⟩ = some (.int .i64 a0_10):=(blk_cell BK113.out 10).trans rfl
            have hcz61_11:wc.cell? ⟨gb113,11,none⟩ = some (.string a0_11):=(blk_cell BK113.out 11).trans rfl
            have hfz61_0:=blk_frozen BK113.out 0
            have hfz61_1:=blk_frozen BK113.out 1
            have hfz61_2:=blk_frozen BK113.out 2
            have hfz61_3:=blk_frozen BK113.out 3
            have hfz61_4:=blk_frozen BK113.out 4
            have hfz61_5:=blk_frozen BK113.out 5
            have hfz61_6:=blk_frozen BK113.out 6
            have hfz61_7:=blk_frozen BK113.out 7
            have hfz61_8:=blk_frozen BK113.out 8
            have hfz61_9:=blk_frozen BK113.out 9
            have hfz61_10:=blk_frozen BK113.out 10
            have hfz61_11:=blk_frozen BK113.out 11
            go_wp2
            go_ret
            exact ⟨by first | rfl | (simp [errW_none,errW_some] <;> rfl) | (simp [*,errW_none,errW_some] <;> rfl),by repeat (first | (with_reducible first | exact HB.out | apply below_alloc | apply pw_below_drewN | apply below_drew1 | refine below_set ?_ GE113.out) | exact HB.out)⟩
          ·rw [if_neg c54] at H
           have c54b0:(a0_0 == 1) = false:=beq_eq_false_iff_ne.mpr c54
           have c54b1:(a0_0 != 1) = true:=bne_iff_ne.mpr c54
           by_cases c62:a0_0 = 2
           ·rw [if_pos c62] at H
            have c62b0:(a0_0 == 2) = true:=beq_iff_eq.mpr c62
            have c62b1:(a0_0 != 2) = false:=bne_eq_false_iff_eq.mpr c62
            clear c62
            by_cases c63:a0_7 = 0
            ·rw [if_pos c63] at H
             have c63b0:(a0_7 == 0) = true:=beq_iff_eq.mpr c63
             have c63b1:(a0_7 != 0) = false:=bne_eq_false_iff_eq.mpr c63
             clear c63
             by_cases c64:x5_48 = true
             ·subst c64
              have H1:(some x3_34) = some r:=by rw [if_pos rfl] at H;exact H
              clear H
              have H:=H1
              clear H1
              obtain rfl:=Option.some.inj H
              have hcz65_0:wc.cell? ⟨gb113,0,none⟩ = some (.int .i64 a0_0):=(blk_cell BK113.out 0).trans rfl
              have hcz65_1:wc.cell? ⟨gb113,1,none⟩ = some (.int .i64 a0_1):=(blk_cell BK113.out 1).trans rfl
              have hcz65_2:wc.cell? ⟨gb113,2,none⟩ = some (.int .i64 a0_2):=(blk_cell BK113.out 2).trans rfl
              have hcz65_3:wc.cell? ⟨gb113,3,none⟩ = some (.int .i64 a0_3):=(blk_cell BK113.out 3).trans rfl
              have hcz65_4:wc.cell? ⟨gb113,4,none⟩ = some (.int .i64 a0_4):=(blk_cell BK113.out 4).trans rfl
              have hcz65_5:wc.cell? ⟨gb113,5,none⟩ = some (.int .i64 a0_5):=(blk_cell BK113.out 5).trans rfl
              have hcz65_6:wc.cell? ⟨gb113,6,none⟩ = some (.int .u64 a0_6):=(blk_cell BK113.out 6).trans rfl
              have hcz65_7:wc.cell? ⟨gb113,7,none⟩ = some (.int .i64 a0_7):=(blk_cell BK113.out 7).trans rfl
              have hcz65_8:wc.cell? ⟨gb113,8,none⟩ = some (.string a0_8):=(blk_cell BK113.out 8).trans rfl
              have hcz65_9:wc.cell? ⟨gb113,9,none⟩ = some (.int .i64 a0_9):=(blk_cell BK113.out 9).trans rfl
              have hcz65_10:wc.cell? ⟨gb113,10,none⟩ = some (.int .i64 a0_10):=(blk_cell BK113.out 10).trans rfl
              have hcz65_11:wc.cell? ⟨gb113,11,none⟩ = some (.string a0_11):=(blk_cell BK113.out 11).trans rfl
              have hfz65_0:=blk_frozen BK113.out 0
              have hfz65_1:=blk_frozen BK113.out 1
              have hfz65_2:=blk_frozen BK113.out 2
              have hfz65_3:=blk_frozen BK113.out 3
              have hfz65_4:=blk_frozen BK113.out 4
              have hfz65_5:=blk_frozen BK113.out 5
              have hfz65_6:=blk_frozen BK113.out 6
              have hfz65_7:=blk_frozen BK113.out 7
              have hfz65_8:=blk_frozen BK113.out 8
              have hfz65_9:=blk_frozen BK113.out 9
              have hfz65_10:=blk_frozen BK113.out 10
              have hfz65_11:=blk_frozen BK113.out 11
              go_wp2
              go_ret
              exact ⟨by first | rfl | (simp [errW_none,errW_some] <;> rfl) | (simp [*,errW_none,errW_some] <;> rfl),by repeat (first | (with_reducible first | exact HB.out | apply below_alloc | apply pw_below_drewN | apply below_drew1 | refine below_set ?_ GE113.out) | exact HB.out)⟩
             ·replace c64:=Bool.eq_false_iff.mpr c64
              subst c64
              have H1:(some false) = some r:=by rw [if_neg (show ¬ (false = true) by decide)] at H;exact H
              clear H
              have H:=H1
              clear H1
              obtain rfl:=Option.some.inj H
              have hcz66_0:wc.cell? ⟨gb113,0,none⟩ = some (.int .i64 a0_0):=(blk_cell BK113.out 0).trans rfl
              have hcz66_1:wc.cell? ⟨gb113,1,none⟩ = some (.int .i64 a0_1):=(blk_cell BK113.out 1).trans rfl
              have hcz66_2:wc.cell? ⟨gb113,2,none⟩ = some (.int .i64 a0_2):=(blk_cell BK113.out 2).trans rfl
              have hcz66_3:wc.cell? ⟨gb113,3,none⟩ = some (.int .i64 a0_3):=(blk_cell BK113.out 3).trans rfl
              have hcz66_4:wc.cell? ⟨gb113,4,none⟩ = some (.int .i64 a0_4):=(blk_cell BK113.out 4).trans rfl
              have hcz66_5:wc.cell? ⟨gb113,5,none⟩ = some (.int .i64 a0_5):=(blk_cell BK113.out 5).trans rfl
              have hcz66_6:wc.cell? ⟨gb113,6,none⟩ = some (.int .u64 a0_6):=(blk_cell BK113.out 6).trans rfl
              have hcz66_7:wc.cell? ⟨gb113,7,none⟩ = some (.int .i64 a0_7):=(blk_cell BK113.out 7).trans rfl
              have hcz66_8:wc.cell? ⟨gb113,8,none⟩ = some (.string a0_8):=(blk_cell BK113.out 8).trans rfl
              have hcz66_9:wc.cell? ⟨gb113,9,none⟩ = some (.int .i64 a0_9):=(blk_cell BK113.out 9).trans rfl
              have hcz66_10:wc.cell? ⟨gb113,10,none⟩ = some (.int .i64 a0_10):=(blk_cell BK113.out 10).trans rfl
              have hcz66_11:wc.cell? ⟨gb113,11,none⟩ = some (.string a0_11):=(blk_cell BK113.out 11).trans rfl
              have hfz66_0:=blk_frozen BK113.out 0
              have hfz66_1:=blk_frozen BK113.out 1
              have hfz66_2:=blk_frozen BK113.out 2
              have hfz66_3:=blk_frozen BK113.out 3
              have hfz66_4:=blk_frozen BK113.out 4
              have hfz66_5:=blk_frozen BK113.out 5
              have hfz66_6:=blk_frozen BK113.out 6
              have hfz66_7:=blk_frozen BK113.out 7
              have hfz66_8:=blk_frozen BK113.out 8
              have hfz66_9:=blk_frozen BK113.out 9
              have hfz66_10:=blk_frozen BK113.out 10
              have hfz66_11:=blk_frozen BK113.out 11
              go_wp2
              go_ret
              exact ⟨by first | rfl | (simp [errW_none,errW_some] <;> rfl) | (simp [*,errW_none,errW_some] <;> rfl),by repeat (first | (with_reducible first | exact HB.out | apply below_alloc | apply pw_below_drewN | apply below_drew1 | refine below_set ?_ GE113.out) | exact HB.out)⟩
            ·rw [if_neg c63] at H
             have c63b0:(a0_7 == 0) = false:=beq_eq_false_iff_ne.mpr c63
             have c63b1:(a0_7 != 0) = true:=bne_iff_ne.mpr c63
             obtain rfl:=Option.some.inj H
             have hcz67_0:wc.cell? ⟨gb113,0,none⟩ = some (.int .i64 a0_0):=(blk_cell BK113.out 0).trans rfl
             have hcz67_1:wc.cell? ⟨gb113,1,none⟩ = some (.int .i64 a0_1):=(blk_cell BK113.out 1).trans rfl
             have hcz67_2:wc.cell? ⟨gb113,2,none⟩ = some (.int .i64 a0_2):=(blk_cell BK113.out 2).trans rfl
             have hcz67_3:wc.cell? ⟨gb113,3,none⟩ = some (.int .i64 a0_3):=(blk_cell BK113.out 3).trans rfl
             have hcz67_4:wc.cell? ⟨gb113,4,none⟩ = some (.int .i64 a0_4):=(blk_cell BK113.out 4).trans rfl
             have hcz67_5:wc.cell? ⟨gb113,5,none⟩ = some (.int .i64 a0_5):=(blk_cell BK113.out 5).trans rfl
             have hcz67_6:wc.cell? ⟨gb113,6,none⟩ = some (.int .u64 a0_6):=(blk_cell BK113.out 6).trans rfl
             have hcz67_7:wc.cell? ⟨gb113,7,none⟩ = some (.int .i64 a0_7):=(blk_cell BK113.out 7).trans rfl
             have hcz67_8:wc.cell? ⟨gb113,8,none⟩ = some (.string a0_8):=(blk_cell BK113.out 8).trans rfl
             have hcz67_9:wc.cell? ⟨gb113,9,none⟩ = some (.int .i64 a0_9):=(blk_cell BK113.out 9).trans rfl
             have hcz67_10:wc.cell? ⟨gb113,10,none⟩ = some (.int .i64 a0_10):=(blk_cell BK113.out 10).trans rfl
             have hcz67_11:wc.cell? ⟨gb113,11,none⟩ = some (.string a0_11):=(blk_cell BK113.out 11).trans rfl
             have hfz67_0:=blk_frozen BK113.out 0
             have hfz67_1:=blk_frozen BK113.out 1
             have hfz67_2:=blk_frozen BK113.out 2
             have hfz67_3:=blk_frozen BK113.out 3
             have hfz67_4:=blk_frozen BK113.out 4
             have hfz67_5:=blk_frozen BK113.out 5
             have hfz67_6:=blk_frozen BK113.out 6
             have hfz67_7:=blk_frozen BK113.out 7
             have hfz67_8:=blk_frozen BK113.out 8
             have hfz67_9:=blk_frozen BK113.out 9
             have hfz67_10:=blk_frozen BK113.out 10
             have hfz67_11:=blk_frozen BK113.out 11
             go_wp2
             go_ret
             exact ⟨by first | rfl | (simp [errW_none,errW_some] <;> rfl) | (simp [*,errW_none,errW_some] <;> rfl),by repeat (first | (with_reducible first | exact HB.out | apply below_alloc | apply pw_below_drewN | apply below_drew1 | refine below_set ?_ GE113.out) | exact HB.out)⟩
           ·rw [if_neg c62] at H
            have c62b0:(a0_0 == 2) = false:=beq_eq_false_iff_ne.mpr c62
            have c62b1:(a0_0 != 2) = true:=bne_iff_ne.mpr c62
            by_cases c68:a0_0 = 3
            ·rw [if_pos c68] at H
             have c68b0:(a0_0 == 3) = true:=beq_iff_eq.mpr c68
             have c68b1:(a0_0 != 3) = false:=bne_eq_false_iff_eq.mpr c68
             clear c68
             by_cases c69:a0_7 = 0
             ·rw [if_pos c69] at H
              have c69b0:(a0_7 == 0) = true:=beq_iff_eq.mpr c69
              have c69b1:(a0_7 != 0) = false:=bne_eq_false_iff_eq.mpr c69
              clear c69
              by_cases c70:x5_48 = true
              ·subst c70
               have H1:(some x4_44) = some r:=by rw [if_pos rfl] at H;exact H
               clear H
               have H:=H1
               clear H1
               obtain rfl:=Option.some.inj H
               have hcz71_0:wc.cell? ⟨gb113,0,none⟩ = some (.int .i64 a0_0):=(blk_cell BK113.out 0).trans rfl
               have hcz71_1:wc.cell? ⟨gb113,1,none⟩ = some (.int .i64 a0_1):=(blk_cell BK113.out 1).trans rfl
               have hcz71_2:wc.cell? ⟨gb113,2,none⟩ = some (.int .i64 a0_2):=(blk_cell BK113.out 2).trans rfl
               have hcz71_3:wc.cell? ⟨gb113,3,none⟩ = some (.int .i64 a0_3):=(blk_cell BK113.out 3).trans rfl
               have hcz71_4:wc.cell? ⟨gb113,4,none⟩ = some (.int .i64 a0_4):=(blk_cell BK113.out 4).trans rfl
               have hcz71_5:wc.cell? ⟨gb113,5,none⟩ = some (.int .i64 a0_5):=(blk_cell BK113.out 5).trans rfl
               have hcz71_6:wc.cell? ⟨gb113,6,none⟩ = some (.int .u64 a0_6):=(blk_cell BK113.out 6).trans rfl
               have hcz71_7:wc.cell? ⟨gb113,7,none⟩ = some (.int .i64 a0_7):=(blk_cell BK113.out 7).trans rfl
               have hcz71_8:wc.cell? ⟨gb113,8,none⟩ = some (.string a0_8):=(blk_cell BK113.out 8).trans rfl
               have hcz71_9:wc.cell? ⟨gb113,9,none⟩ = some (.int .i64 a0_9):=(blk_cell BK113.out 9).trans rfl
               have hcz71_10:wc.cell? ⟨gb113,10,none⟩ = some (.int .i64 a0_10):=(blk_cell BK113.out 10).trans rfl
               have hcz71_11:wc.cell? ⟨gb113,11,none⟩ = some (.string a0_11):=(blk_cell BK113.out 11).trans rfl
               have hfz71_0:=blk_frozen BK113.out 0
               have hfz71_1:=blk_frozen BK113.out 1
               have hfz71_2:=blk_frozen BK113.out 2
               have hfz71_3:=blk_frozen BK113.out 3
               have hfz71_4:=blk_frozen BK113.out 4
               have hfz71_5:=blk_frozen BK113.out 5
               have hfz71_6:=blk_frozen BK113.out 6
               have hfz71_7:=blk_frozen BK113.out 7
               have hfz71_8:=blk_frozen BK113.out 8
               have hfz71_9:=blk_frozen BK113.out 9
               have hfz71_10:=blk_frozen BK113.out 10
               have hfz71_11:=blk_frozen BK113.out 11
               go_wp2
               go_ret
               exact ⟨by first | rfl | (simp [errW_none,errW_some] <;> rfl) | (simp [*,errW_none,errW_some] <;> rfl),by repeat (first | (with_reducible first | exact HB.out | apply below_alloc | apply pw_below_drewN | apply below_drew1 | refine below_set ?_ GE113.out) | exact HB.out)⟩
              ·replace c70:=Bool.eq_false_iff.mpr c70
               subst c70
               have H1:(some false) = some r:=by rw [if_neg (show ¬ (false = true) by decide)] at H;exact H
               clear H
               have H:=H1
               clear H1
               obtain rfl:=Option.some.inj H
               have hcz72_0:wc.cell? ⟨gb113,0,none⟩ = some (.int .i64 a0_0):=(blk_cell BK113.out 0).trans rfl
               have hcz72_1:wc.cell? ⟨gb113,1,none⟩ = some (.int .i64 a0_1):=(blk_cell BK113.out 1).trans rfl
               have hcz72_2:wc.cell? ⟨gb113,2,none⟩ = some (.int .i64 a0_2):=(blk_cell BK113.out 2).trans rfl
               have hcz72_3:wc.cell? ⟨gb113,3,none⟩ = some (.int .i64 a0_3):=(blk_cell BK113.out 3).trans rfl
               have hcz72_4:wc.cell? ⟨gb113,4,none⟩ = some (.int .i64 a0_4):=(blk_cell BK113.out 4).trans rfl
               have hcz72_5:wc.cell? ⟨gb113,5,none⟩ = some (.int .i64 a0_5):=(blk_cell BK113.out 5).trans rfl
               have hcz72_6:wc.cell? ⟨gb113,6,none⟩ = some (.int .u64 a0_6):=(blk_cell BK113.out 6).trans rfl
               have hcz72_7:wc.cell? ⟨gb113,7,none⟩ = some (.int .i64 a0_7):=(blk_cell BK113.out 7).trans rfl
               have hcz72_8:wc.cell? ⟨gb113,8,none⟩ = some (.string a0_8):=(blk_cell BK113.out 8).trans rfl
               have hcz72_9:wc.cell? ⟨gb113,9,none⟩ = some (.int .i64 a0_9):=(blk_cell BK113.out 9).trans rfl
               have hcz72_10:wc.cell? ⟨gb113,10,none⟩ = some (.int .i64 a0_10):=(blk_cell BK113.out 10).trans rfl
               have hcz72_11:wc.cell? ⟨gb113,11,none⟩ = some (.string a0_11):=(blk_cell BK113.out 11).trans rfl
               have hfz72_0:=blk_frozen BK113.out 0
               have hfz72_1:=blk_frozen BK113.out 1
               have hfz72_2:=blk_frozen BK113.out 2
               have hfz72_3:=blk_frozen BK113.out 3
               have hfz72_4:=blk_frozen BK113.out 4
               have hfz72_5:=blk_frozen BK113.out 5
               have hfz72_6:=blk_frozen BK113.out 6
               have hfz72_7:=blk_frozen BK113.out 7
               have hfz72_8:=blk_frozen BK113.out 8
               have hfz72_9:=blk_frozen BK113.out 9
               have hfz72_10:=blk_frozen BK113.out 10
               have hfz72_11:=blk_frozen BK113.out 11
               go_wp2
               go_ret
               exact ⟨by first | rfl | (simp [errW_none,errW_some] <;> rfl) | (simp [*,errW_none,errW_some] <;> rfl),by repeat (first | (with_reducible first | exact HB.out | apply below_alloc | apply pw_below_drewN | apply below_drew1 | refine below_set ?_ GE113.out) | exact HB.out)⟩
             ·rw [if_neg c69] at H
              have c69b0:(a0_7 == 0) = false:=beq_eq_false_iff_ne.mpr c69
              have c69b1:(a0_7 != 0) = true:=bne_iff_ne.mpr c69
              obtain rfl:=Option.some.inj H
              have hcz73_0:wc.cell? ⟨gb113,0,none⟩ = some (.int .i64 a0_0):=(blk_cell BK113.out 0).trans rfl
              have hcz73_1:wc.cell? ⟨gb113,1,none⟩ = some (.int .i64 a0_1):=(blk_cell BK113.out 1).trans rfl
              have hcz73_2:wc.cell? ⟨gb113,2,none⟩ = some (.int .i64 a0_2):=(blk_cell BK113.out 2).trans rfl
              have hcz73_3:wc.cell? ⟨gb113,3,none⟩ = some (.int .i64 a0_3):=(blk_cell BK113.out 3).trans rfl
              have hcz73_4:wc.cell? ⟨gb113,4,none⟩ = some (.int .i64 a0_4):=(blk_cell BK113.out 4).trans rfl
              have hcz73_5:wc.cell? ⟨gb113,5,none⟩ = some (.int .i64 a0_5):=(blk_cell BK113.out 5).trans rfl
              have hcz73_6:wc.cell? ⟨gb113,6,none⟩ = some (.int .u64 a0_6):=(blk_cell BK113.out 6).trans rfl
              have hcz73_7:wc.cell? ⟨gb113,7,none⟩ = some (.int .i64 a0_7):=(blk_cell BK113.out 7).trans rfl
              have hcz73_8:wc.cell? ⟨gb113,8,none⟩ = some (.string a0_8):=(blk_cell BK113.out 8).trans rfl
              have hcz73_9:wc.cell? ⟨gb113,9,none⟩ = some (.int .i64 a0_9):=(blk_cell BK113.out 9).trans rfl
              have hcz73_10:wc.cell? ⟨gb113,10,none⟩ = some (.int .i64 a0_10):=(blk_cell BK113.out 10).trans rfl
              have hcz73_11:wc.cell? ⟨gb113,11,none⟩ = some (.string a0_11):=(blk_cell BK113.out 11).trans rfl
              have hfz73_0:=blk_frozen BK113.out 0
              have hfz73_1:=blk_frozen BK113.out 1
              have hfz73_2:=blk_frozen BK113.out 2
              have hfz73_3:=blk_frozen BK113.out 3
              have hfz73_4:=blk_frozen BK113.out 4
              have hfz73_5:=blk_frozen BK113.out 5
              have hfz73_6:=blk_frozen BK113.out 6
              have hfz73_7:=blk_frozen BK113.out 7
              have hfz73_8:=blk_frozen BK113.out 8
              have hfz73_9:=blk_frozen BK113.out 9
              have hfz73_10:=blk_frozen BK113.out 10
              have hfz73_11:=blk_frozen BK113.out 11
              go_wp2
              go_ret
              exact ⟨by first | rfl | (simp [errW_none,errW_some] <;> rfl) | (simp [*,errW_none,errW_some] <;> rfl),by repeat (first | (with_reducible first | exact HB.out | apply below_alloc | apply pw_below_drewN | apply below_drew1 | refine below_set ?_ GE113.out) | exact HB.out)⟩
            ·rw [if_neg c68] at H
             have c68b0:(a0_0 == 3) = false:=beq_eq_false_iff_ne.mpr c68
             have c68b1:(a0_0 != 3) = true:=bne_iff_ne.mpr c68
             by_cases c74:a0_0 = 4
             ·rw [if_pos c74] at H
              have c74b0:(a0_0 == 4) = true:=beq_iff_eq.mpr c74
              have c74b1:(a0_0 != 4) = false:=bne_eq_false_iff_eq.mpr c74
              clear c74
              by_cases c75:x5_48 = true
              ·subst c75
               have H1:(if a0_7 = 0 then (if x3_34 = true then (some true) else (if a0_7 = 1 then (some x4_44) else (some false))) else (if a0_7 = 1 then (some x4_44) else (some false))) = some r:=by rw [if_pos rfl] at H;exact H
               clear H
               have H:=H1
               clear H1
               by_cases c76:a0_7 = 0
               ·rw [if_pos c76] at H
                have c76b0:(a0_7 == 0) = true:=beq_iff_eq.mpr c76
                have c76b1:(a0_7 != 0) = false:=bne_eq_false_iff_eq.mpr c76
                clear c76
                by_cases c77:x3_34 = true
                ·subst c77
                 have H1:(some true) = some r:=by rw [if_pos rfl] at H;exact H
                 clear H
                 have H:=H1
                 clear H1
                 obtain rfl:=Option.some.inj H
                 have hcz78_0:wc.cell? ⟨gb113,0,none⟩ = some (.int .i64 a0_0):=(blk_cell BK113.out 0).trans rfl
                 have hcz78_1:wc.cell? ⟨gb113,1,none⟩ = some (.int .i64 a0_1):=(blk_cell BK113.out 1).trans rfl
                 have hcz78_2:wc.cell? ⟨gb113,2,none⟩ = some (.int .i64 a0_2):=(blk_cell BK113.out 2).trans rfl
                 have hcz78_3:wc.cell? ⟨gb113,3,none⟩ = some (.int .i64 a0_3):=(blk_cell BK113.out 3).trans rfl
                 have hcz78_4:wc.cell? ⟨gb113,4,none⟩ = some (.int .i64 a0_4):=(blk_cell BK113.out 4).trans rfl
                 have hcz78_5:wc.cell? ⟨gb113,5,none⟩ = some (.int .i64 a0_5):=(blk_cell BK113.out 5).trans rfl
                 have hcz78_6:wc.cell? ⟨gb113,6,none⟩ = some (.int .u64 a0_6):=(blk_cell BK113.out 6).trans rfl
                 have hcz78_7:wc.cell? ⟨gb113,7,none⟩ = some (.int .i64 a0_7):=(blk_cell BK113.out 7).trans rfl
                 have hcz78_8:wc.cell? ⟨gb113,8,none⟩ = some (.string a0_8):=(blk_cell BK113.out 8).trans rfl
                 have hcz78_9:wc.cell? ⟨gb113,9,none⟩ = some (.int .i64 a0_9):=(blk_cell BK113.out 9).trans rfl
                 have hcz78_10:wc.cell? ⟨gb113,10,none⟩ = some (.int .i64 a0_10):=(blk_cell BK113.out 10).trans rfl
                 have hcz78_11:wc.cell? ⟨gb113,11,none⟩ = some (.string a0_11):=(blk_cell BK113.out 11).trans rfl
                 have hfz78_0:=blk_frozen BK113.out 0
                 have hfz78_1:=blk_frozen BK113.out 1
                 have hfz78_2:=blk_frozen BK113.out 2
                 have hfz78_3:=blk_frozen BK113.out 3
                 have hfz78_4:=blk_frozen BK113.out 4
                 have hfz78_5:=blk_frozen BK113.out 5
                 have hfz78_6:=blk_frozen BK113.out 6
                 have hfz78_7:=blk_frozen BK113.out 7
                 have hfz78_8:=blk_frozen BK113.out 8
                 have hfz78_9:=blk_frozen BK113.out 9
                 have hfz78_10:=blk_frozen BK113.out 10
                 have hfz78_11:=blk_frozen BK113.out 11
                 go_wp2
                 go_ret
                 exact ⟨by first | rfl | (simp [errW_none,errW_some] <;> rfl) | (simp [*,errW_none,errW_some] <;> rfl),by repeat (first | (with_reducible first | exact HB.out | apply below_alloc | apply pw_below_drewN | apply below_drew1 | refine below_set ?_ GE113.out) | exact HB.out)⟩
                ·replace c77:=Bool.eq_false_iff.mpr c77
                 subst c77
                 have H1:(if a0_7 = 1 then (some x4_44) else (some false)) = some r:=by rw [if_neg (show ¬ (false = true) by decide)] at H;exact H
                 clear H
                 have H:=H1
                 clear H1
                 by_cases c79:a0_7 = 1
                 ·rw [if_pos c79] at H
                  have c79b0:(a0_7 == 1) = true:=beq_iff_eq.mpr c79
                  have c79b1:(a0_7 != 1) = false:=bne_eq_false_iff_eq.mpr c79
                  clear c79
                  obtain rfl:=Option.some.inj H
                  have hcz80_0:wc.cell? ⟨gb113,0,none⟩ = some (.int .i64 a0_0):=(blk_cell BK113.out 0).trans rfl
                  have hcz80_1:wc.cell? ⟨gb113,1,none⟩ = some (.int .i64 a0_1):=(blk_cell BK113.out 1).trans rfl
                  have hcz80_2:wc.cell? ⟨gb113,2,none⟩ = some (.int .i64 a0_2):=(blk_cell BK113.out 2).trans rfl
                  have hcz80_3:wc.cell? ⟨gb113,3,none⟩ = some (.int .i64 a0_3):=(blk_cell BK113.out 3).trans rfl
                  have hcz80_4:wc.cell? ⟨gb113,4,none⟩ = some (.int .i64 a0_4):=(blk_cell BK113.out 4).trans rfl
                  have hcz80_5:wc.cell? ⟨gb113,5,none⟩ = some (.int .i64 a0_5):=(blk_cell BK113.out 5).trans rfl
                  have hcz80_6:wc.cell? ⟨gb113,6,none⟩ = some (.int .u64 a0_6):=(blk_cell BK113.out 6).trans rfl
                  have hcz80_7:wc.cell? ⟨gb113,7,none⟩ = some (.int .i64 a0_7):=(blk_cell BK113.out 7).trans rfl
                  have hcz80_8:wc.cell? ⟨gb113,8,none⟩ = some (.string a0_8):=(blk_cell BK113.out 8).trans rfl
                  have hcz80_9:wc.cell? ⟨gb113,9,none⟩ = some (.int .i64 a0_9):=(blk_cell BK113.out 9).trans rfl
                  have hcz80_10:wc.cell? ⟨gb113,10,none⟩ = some (.int .i64 a0_10):=(blk_cell BK113.out 10).trans rfl
                  have hcz80_11:wc.cell? ⟨gb113,11,none⟩ = some (.string a0_11):=(blk_cell BK113.out 11).trans rfl
                  have hfz80_0:=blk_frozen BK113.out 0
                  have hfz80_1:=blk_frozen BK113.out 1
                  have hfz80_2:=blk_frozen BK113.out 2
                  have hfz80_3:=blk_frozen BK113.out 3
                  have hfz80_4:=blk_frozen BK113.out 4
                  have hfz80_5:=blk_frozen BK113.out 5
                  have hfz80_6:=blk_frozen BK113.out 6
                  have hfz80_7:=blk_frozen BK113.out 7
                  have hfz80_8:=blk_frozen BK113.out 8
                  have hfz80_9:=blk_frozen BK113.out 9
                  have hfz80_10:=blk_frozen BK113.out 10
                  have hfz80_11:=blk_frozen BK113.out 11
                  go_wp2
                  go_ret
                  exact ⟨by first | rfl | (simp [errW_none,errW_some] <;> rfl) | (simp [*,errW_none,errW_some] <;> rfl),by repeat (first | (with_reducible first | exact HB.out | apply below_alloc | apply pw_below_drewN | apply below_drew1 | refine below_set ?_ GE113.out) | exact HB.out)⟩
                 ·rw [if_neg c79] at H
                  have c79b0:(a0_7 == 1) = false:=beq_eq_false_iff_ne.mpr c79
                  have c79b1:(a0_7 != 1) = true:=bne_iff_ne.mpr c79
                  obtain rfl:=Option.some.inj H
                  have hcz81_0:wc.cell? ⟨gb113,0,none⟩ = some (.int .i64 a0_0):=(blk_cell BK113.out 0).trans rfl
                  have hcz81_1:wc.cell? ⟨gb113,1,none⟩ = some (.int .i64 a0_1):=(blk_cell BK113.out 1).trans rfl
                  have hcz81_2:wc.cell? ⟨gb113,2,none⟩ = some (.int .i64 a0_2):=(blk_cell BK113.out 2).trans rfl
                  have hcz81_3:wc.cell? ⟨gb113,3,none⟩ = some (.int .i64 a0_3):=(blk_cell BK113.out 3).trans rfl
                  have hcz81_4:wc.cell? ⟨gb113,4,none⟩ = some (.int .i64 a0_4):=(blk_cell BK113.out 4).trans rfl
                  have hcz81_5:wc.cell? ⟨gb113,5,none⟩ = some (.int .i64 a0_5):=(blk_cell BK113.out 5).trans rfl
                  have hcz81_6:wc.cell? ⟨gb113,6,none⟩ = some (.int .u64 a0_6):=(blk_cell BK113.out 6).trans rfl
                  have hcz81_7:wc.cell? ⟨gb113,7,none⟩ = some (.int .i64 a0_7):=(blk_cell BK113.out 7).trans rfl
                  have hcz81_8:wc.cell? ⟨gb113,8,none⟩ = some (.string a0_8):=(blk_cell BK113.out 8).trans rfl
                  have hcz81_9:wc.cell? ⟨gb113,9,none⟩ = some (.int .i64 a0_9):=(blk_cell BK113.out 9).trans rfl
                  have hcz81_10:wc.cell? ⟨gb113,10,none⟩ = some (.int .i64 a0_10):=(blk_cell BK113.out 10).trans rfl
                  have hcz81_11:wc.cell? ⟨gb113,11,none⟩ = some (.string a0_11):=(blk_cell BK113.out 11).trans rfl
                  have hfz81_0:=blk_frozen BK113.out 0
                  have hfz81_1:=blk_frozen BK113.out 1
                  have hfz81_2:=blk_frozen BK113.out 2
                  have hfz81_3:=blk_frozen BK113.out 3
                  have hfz81_4:=blk_frozen BK113.out 4
                  have hfz81_5:=blk_frozen BK113.out 5
                  have hfz81_6:=blk_frozen BK113.out 6
                  have hfz81_7:=blk_frozen BK113.out 7
                  have hfz81_8:=blk_frozen BK113.out 8
                  have hfz81_9:=blk_frozen BK113.out 9
                  have hfz81_10:=blk_frozen BK113.out 10
                  have hfz81_11:=blk_frozen BK113.out 11
                  go_wp2
                  go_ret
                  exact ⟨by first | rfl | (simp [errW_none,errW_some] <;> rfl) | (simp [*,errW_none,errW_some] <;> rfl),by repeat (first | (with_reducible first | exact HB.out | apply below_alloc | apply pw_below_drewN | apply below_drew1 | refine below_set ?_ GE113.out) | exact HB.out)⟩
               ·rw [if_neg c76] at H
                have c76b0:(a0_7 == 0) = false:=beq_eq_false_iff_ne.mpr c76
                have c76b1:(a0_7 != 0) = true:=bne_iff_ne.mpr c76
                by_cases c82:a0_7 = 1
                ·rw [if_pos c82] at H
                 have c82b0:(a0_7 == 1) = true:=beq_iff_eq.mpr c82
                 have c82b1:(a0_7 != 1) = false:=bne_eq_false_iff_eq.mpr c82
                 clear c82
                 obtain rfl:=Option.some.inj H
                 have hcz83_0:wc.cell? ⟨gb113,0,none⟩ = some (.int .i64 a0_0):=(blk_cell BK113.out 0).trans rfl
                 have hcz83_1:wc.cell? ⟨gb113,1,none⟩ = some (.int .i64 a0_1):=(blk_cell BK113.out 1).trans rfl
                 have hcz83_2:wc.cell? ⟨gb113,2,none⟩ = some (.int .i64 a0_2):=(blk_cell BK113.out 2).trans rfl
                 have hcz83_3:wc.cell? ⟨gb113,3,none⟩ = some (.int .i64 a0_3):=(blk_cell BK113.out 3).trans rfl
                 have hcz83_4:wc.cell? ⟨gb113,4,none⟩ = some (.int .i64 a0_4):=(blk_cell BK113.out 4).trans rfl
                 have hcz83_5:wc.cell? ⟨gb113,5,none⟩ = some (.int .i64 a0_5):=(blk_cell BK113.out 5).trans rfl
                 have hcz83_6:wc.cell? ⟨gb113,6,none⟩ = some (.int .u64 a0_6):=(blk_cell BK113.out 6).trans rfl
                 have hcz83_7:wc.cell? ⟨gb113,7,none⟩ = some (.int .i64 a0_7):=(blk_cell BK113.out 7).trans rfl
                 have hcz83_8:wc.cell? ⟨gb113,8,none⟩ = some (.string a0_8):=(blk_cell BK113.out 8).trans rfl
                 have hcz83_9:wc.cell? ⟨gb113,9,none⟩ = some (.int .i64 a0_9):=(blk_cell BK113.out 9).trans rfl
                 have hcz83_10:wc.cell? ⟨gb113,10,none⟩ = some (.int .i64 a0_10):=(blk_cell BK113.out 10).trans rfl
                 have hcz83_11:wc.cell? ⟨gb113,11,none⟩ = some (.string a0_11):=(blk_cell BK113.out 11).trans rfl
                 have hfz83_0:=blk_frozen BK113.out 0
                 have hfz83_1:=blk_frozen BK113.out 1
                 have hfz83_2:=blk_frozen BK113.out 2
                 have hfz83_3:=blk_frozen BK113.out 3
                 have hfz83_4:=blk_frozen BK113.out 4
                 have hfz83_5:=blk_frozen BK113.out 5
                 have hfz83_6:=blk_frozen BK113.out 6
                 have hfz83_7:=blk_frozen BK113.out 7
                 have hfz83_8:=blk_frozen BK113.out 8
                 have hfz83_9:=blk_frozen BK113.out 9
                 have hfz83_10:=blk_frozen BK113.out 10
                 have hfz83_11:=blk_frozen BK113.out 11
                 go_wp2
                 go_ret
                 exact ⟨by first | rfl | (simp [errW_none,errW_some] <;> rfl) | (simp [*,errW_none,errW_some] <;> rfl),by repeat (first | (with_reducible first | exact HB.out | apply below_alloc | apply pw_below_drewN | apply below_drew1 | refine below_set ?_ GE113.out) | exact HB.out)⟩
                ·rw [if_neg c82] at H
                 have c82b0:(a0_7 == 1) = false:=beq_eq_false_iff_ne.mpr c82
                 have c82b1:(a0_7 != 1) = true:=bne_iff_ne.mpr c82
                 obtain rfl:=Option.some.inj H
                 have hcz84_0:wc.cell? ⟨gb113,0,none⟩ = some (.int .i64 a0_0):=(blk_cell BK113.out 0).trans rfl
                 have hcz84_1:wc.cell? ⟨gb113,1,none⟩ = some (.int .i64 a0_1):=(blk_cell BK113.out 1).trans rfl
                 have hcz84_2:wc.cell? ⟨gb113,2,none⟩ = some (.int .i64 a0_2):=(blk_cell BK113.out 2).trans rfl
                 have hcz84_3:wc.cell? ⟨gb113,3,none⟩ = some (.int .i64 a0_3):=(blk_cell BK113.out 3).trans rfl
                 have hcz84_4:wc.cell? ⟨gb113,4,none⟩ = some (.int .i64 a0_4):=(blk_cell BK113.out 4).trans rfl
                 have hcz84_5:wc.cell? ⟨gb113,5,none⟩ = some (.int .i64 a0_5):=(blk_cell BK113.out 5).trans rfl
                 have hcz84_6:wc.cell? ⟨gb113,6,none⟩ = some (.int .u64 a0_6):=(blk_cell BK113.out 6).trans rfl
                 have hcz84_7:wc.cell? ⟨gb113,7,none⟩ = some (.int .i64 a0_7):=(blk_cell BK113.out 7).trans rfl
                 have hcz84_8:wc.cell? ⟨gb113,8,none⟩ = some (.string a0_8):=(blk_cell BK113.out 8).trans rfl
                 have hcz84_9:wc.cell? ⟨gb113,9,none⟩ = some (.int .i64 a0_9):=(blk_cell BK113.out 9).trans rfl
                 have hcz84_10:wc.cell? ⟨gb113,10,none⟩ = some (.int .i64 a0_10):=(blk_cell BK113.out 10).trans rfl
                 have hcz84_11:wc.cell? ⟨gb113,11,none⟩ = some (.string a0_11):=(blk_cell BK113.out 11).trans rfl
                 have hfz84_0:=blk_frozen BK113.out 0
                 have hfz84_1:=blk_frozen BK113.out 1
                 have hfz84_2:=blk_frozen BK113.out 2
                 have hfz84_3:=blk_frozen BK113.out 3
                 have hfz84_4:=blk_frozen BK113.out 4
                 have hfz84_5:=blk_frozen BK113.out 5
                 have hfz84_6:=blk_frozen BK113.out 6
                 have hfz84_7:=blk_frozen BK113.out 7
                 have hfz84_8:=blk_frozen BK113.out 8
                 have hfz84_9:=blk_frozen BK113.out 9
                 have hfz84_10:=blk_frozen BK113.out 10
                 have hfz84_11:=blk_frozen BK113.out 11
                 go_wp2
                 go_ret
                 exact ⟨by first | rfl | (simp [errW_none,errW_some] <;> rfl) | (simp [*,errW_none,errW_some] <;> rfl),by repeat (first | (with_reducible first | exact HB.out | apply below_alloc | apply pw_below_drewN | apply below_drew1 | refine below_set ?_ GE113.out) | exact HB.out)⟩
              ·replace c75:=Bool.eq_false_iff.mpr c75
               subst c75
               have H1:(some false) = some r:=by rw [if_neg (show ¬ (false = true) by decide)] at H;exact H
               clear H
               have H:=H1
               clear H1
               obtain rfl:=Option.some.inj H
               have hcz85_0:wc.cell? ⟨gb113,0,none⟩ = some (.int .i64 a0_0):=(blk_cell BK113.out 0).trans rfl
               have hcz85_1:wc.cell? ⟨gb113,1,none⟩ = some (.int .i64 a0_1):=(blk_cell BK113.out 1).trans rfl
               have hcz85_2:wc.cell? ⟨gb113,2,none⟩ = some (.int .i64 a0_2):=(blk_cell BK113.out 2).trans rfl
               have hcz85_3:wc.cell? ⟨gb113,3,none⟩ = some (.int .i64 a0_3):=(blk_cell BK113.out 3).trans rfl
               have hcz85_4:wc.cell? ⟨gb113,4,none⟩ = some (.int .i64 a0_4):=(blk_cell BK113.out 4).trans rfl
               have hcz85_5:wc.cell? ⟨gb113,5,none⟩ = some (.int .i64 a0_5):=(blk_cell BK113.out 5).trans rfl
               have hcz85_6:wc.cell? ⟨gb113,6,none⟩ = some (.int .u64 a0_6):=(blk_cell BK113.out 6).trans rfl
               have hcz85_7:wc.cell? ⟨gb113,7,none⟩ = some (.int .i64 a0_7):=(blk_cell BK113.out 7).trans rfl
               have hcz85_8:wc.cell? ⟨gb113,8,none⟩ = some (.string a0_8):=(blk_cell BK113.out 8).trans rfl
               have hcz85_9:wc.cell? ⟨gb113,9,none⟩ = some (.int .i64 a0_9):=(blk_cell BK113.out 9).trans rfl
               have hcz85_10:wc.cell? ⟨gb113,10,none⟩ = some (.int .i64 a0_10):=(blk_cell BK113.out 10).trans rfl
               have hcz85_11:wc.cell? ⟨gb113,11,none⟩ = some (.string a0_11):=(blk_cell BK113.out 11).trans rfl
               have hfz85_0:=blk_frozen BK113.out 0
               have hfz85_1:=blk_frozen BK113.out 1
               have hfz85_2:=blk_frozen BK113.out 2
               have hfz85_3:=blk_frozen BK113.out 3
               have hfz85_4:=blk_frozen BK113.out 4
               have hfz85_5:=blk_frozen BK113.out 5
               have hfz85_6:=blk_frozen BK113.out 6
               have hfz85_7:=blk_frozen BK113.out 7
               have hfz85_8:=blk_frozen BK113.out 8
               have hfz85_9:=blk_frozen BK113.out 9
               have hfz85_10:=blk_frozen BK113.out 10
               have hfz85_11:=blk_frozen BK113.out 11
               go_wp2
               go_ret
               exact ⟨by first | rfl | (simp [errW_none,errW_some] <;> rfl) | (simp [*,errW_none,errW_some] <;> rfl),by repeat (first | (with_reducible first | exact HB.out | apply below_alloc | apply pw_below_drewN | apply below_drew1 | refine below_set ?_ GE113.out) | exact HB.out)⟩
             ·rw [if_neg c74] at H
              have c74b0:(a0_0 == 4) = false:=beq_eq_false_iff_ne.mpr c74
              have c74b1:(a0_0 != 4) = true:=bne_iff_ne.mpr c74
              obtain rfl:=Option.some.inj H
              have hcz86_0:wc.cell? ⟨gb113,0,none⟩ = some (.int .i64 a0_0):=(blk_cell BK113.out 0).trans rfl
              have hcz86_1:wc.cell? ⟨gb113,1,none⟩ = some (.int .i64 a0_1):=(blk_cell BK113.out 1).trans rfl
              have hcz86_2:wc.cell? ⟨gb113,2,none⟩ = some (.int .i64 a0_2):=(blk_cell BK113.out 2).trans rfl
              have hcz86_3:wc.cell? ⟨gb113,3,none⟩ = some (.int .i64 a0_3):=(blk_cell BK113.out 3).trans rfl
              have hcz86_4:wc.cell? ⟨gb113,4,none⟩ = some (.int .i64 a0_4):=(blk_cell BK113.out 4).trans rfl
              have hcz86_5:wc.cell? ⟨gb113,5,none⟩ = some (.int .i64 a0_5):=(blk_cell BK113.out 5).trans rfl
              have hcz86_6:wc.cell? ⟨gb113,6,none⟩ = some (.int .u64 a0_6):=(blk_cell BK113.out 6).trans rfl
              have hcz86_7:wc.cell? ⟨gb113,7,none⟩ = some (.int .i64 a0_7):=(blk_cell BK113.out 7).trans rfl
              have hcz86_8:wc.cell? ⟨gb113,8,none⟩ = some (.string a0_8):=(blk_cell BK113.out 8).trans rfl
              have hcz86_9:wc.cell? ⟨gb113,9,none⟩ = some (.int .i64 a0_9):=(blk_cell BK113.out 9).trans rfl
              have hcz86_10:wc.cell? ⟨gb113,10,none⟩ = some (.int .i64 a0_10):=(blk_cell BK113.out 10).trans rfl
              have hcz86_11:wc.cell? ⟨gb113,11,none⟩ = some (.string a0_11):=(blk_cell BK113.out 11).trans rfl
              have hfz86_0:=blk_frozen BK113.out 0
              have hfz86_1:=blk_frozen BK113.out 1
              have hfz86_2:=blk_frozen BK113.out 2
              have hfz86_3:=blk_frozen BK113.out 3
              have hfz86_4:=blk_frozen BK113.out 4
              have hfz86_5:=blk_frozen BK113.out 5
              have hfz86_6:=blk_frozen BK113.out 6
              have hfz86_7:=blk_frozen BK113.out 7
              have hfz86_8:=blk_frozen BK113.out 8
              have hfz86_9:=blk_frozen BK113.out 9
              have hfz86_10:=blk_frozen BK113.out 10
              have hfz86_11:=blk_frozen BK113.out 11
              go_wp2
              go_ret
              exact ⟨by first | rfl | (simp [errW_none,errW_some] <;> rfl) | (simp [*,errW_none,errW_some] <;> rfl),by repeat (first | (with_reducible first | exact HB.out | apply below_alloc | apply pw_below_drewN | apply below_drew1 | refine below_set ?_ GE113.out) | exact HB.out)⟩
end Go.Proofs.Ytlpmblcdafdfdaa.PA
