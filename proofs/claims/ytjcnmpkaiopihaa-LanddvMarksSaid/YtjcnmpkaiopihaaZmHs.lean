/- landdv.Marks: an error, or what is kept of all that was heard of landmarks, by destination. Conditions: the floats are words, the lists fit in memory. -/
import Derived.Test.YtjcnmpkaiopihaaZmSj
import Derived.Test.YtjcnmpkaiopihaaZmHj
namespace Go.Proofs.Ytjcnmpkaiopihaa.PA
open Go.RowKit Go.Proofs.YtjcnmpkaiopihaaW.PrintWords Go.Proofs.YtjcnmpkaiopihaaW.PrintLast Go.Proofs.YtjcnmpkaiopihaaW.PrintMore
set_option linter.unusedVariables false
set_option linter.unusedSimpArgs false
def zE : S58 := ⟨0,0,0,0,0,0⟩
def markX (M : List S58) (d : Int) : S58 := (enGet d M).getD ⟨d,1,9218868437227405312,0,0,0⟩
def markN (frm : Int) (w : Nat) (n : S56) (max : Nat) (x : S58) : S58 := if (FloatKind.f64.format.order (addV w n.f2 max) x.f2 == some .lt) = true then ⟨x.f0,x.f1,addV w n.f2 max,frm,x.f4,x.f5⟩ else x
def markS (self : Int) (max : Nat) (frm : Int) (w : Nat) (M : List S58) (n : S56) : List S58 := if n.f1 = 1 ∧ n.f0 ≠ self then enPut (markN frm w n max (markX M n.f0)) M else M
def markH (self : Int) (max : Nat) (M : List S58) (h : S54) : List S58 := h.f2.foldl (markS self max h.f0 h.f1) M
def markA (self : Int) (max : Nat) (l : List S54) : List S58 := l.foldl (markH self max) []
def marksL (M : List S58) : List S58 := (keysV M).map fun d => (enGet d M).getD zE
theorem markX_dest {M : List S58} {d : Int} : (markX M d).f0 = d := by
  unfold markX
  cases h : enGet d M with
  | none => rfl
  | some y => exact enGet_dest h
theorem markN_dest {frm : Int} {w : Nat} {n : S56} {max : Nat} {x : S58} : (markN frm w n max x).f0 = x.f0 := by
  unfold markN
  split <;> rfl
theorem enGet_mem {s : Int} : ∀ {L : List S58} {a : S58},enGet s L = some a → a ∈ L
  | b :: r,a,h => by
    rw [enGet] at h
    split at h
    · rw [Option.some.inj h];exact List.mem_cons_self
    exact List.mem_cons_of_mem _ (enGet_mem h)
theorem markN_ok {M : List S58} (h : KeptOk M) {frm : Int} {w : Nat} {n : S56} {max : Nat} (hn : okId n.f0 = true) : okId (markN frm w n max (markX M n.f0)).f0 = true ∧ 0 ≤ (markN frm w n max (markX M n.f0)).f1 ∧ (markN frm w n max (markX M n.f0)).f1 ≤ 3 := by
  have hx : 0 ≤ (markX M n.f0).f1 ∧ (markX M n.f0).f1 ≤ 3 := by
    unfold markX
    cases hg : enGet n.f0 M with
    | none => exact ⟨show (0 : Int) ≤ 1 by decide,show (1 : Int) ≤ 3 by decide⟩
    | some y => exact (h.2 y (enGet_mem hg)).2
  refine ⟨by rw [markN_dest,markX_dest];exact hn,?_⟩
  unfold markN
  split <;> exact hx
theorem keptOk_put {M : List S58} {x : S58} (h : KeptOk M) (hx : okId x.f0 = true ∧ 0 ≤ x.f1 ∧ x.f1 ≤ 3) : KeptOk (enPut x M) :=
  ⟨enPut_dests h.1,fun y hy => by rcases enPut_mem hy with rfl | hy;exact hx;exact h.2 y hy⟩
theorem markS_ok {self : Int} {max : Nat} {frm : Int} {w : Nat} {M : List S58} {n : S56} (h : KeptOk M) (hn : okId n.f0 = true) : KeptOk (markS self max frm w M n) := by
  unfold markS
  split
  · exact keptOk_put h (markN_ok h hn)
  exact h
def mUp (self : Int) (max : Nat) (l : List S54) (i : Nat) : List S58 := (l.take i).foldl (markH self max) []
theorem mUp_all (self : Int) (max : Nat) (l : List S54) : mUp self max l l.length = markA self max l := by unfold mUp markA;rw [List.take_length]
theorem mUp_next (self : Int) (max : Nat) (l : List S54) (i : Nat) (hi : i < l.length) : mUp self max l (i + 1) = markH self max (mUp self max l i) l[i] := by
  unfold mUp
  rw [List.take_succ_eq_append_getElem hi,List.foldl_append]
  rfl
def mUpN (self : Int) (max : Nat) (h : S54) (M : List S58) (j : Nat) : List S58 := (h.f2.take j).foldl (markS self max h.f0 h.f1) M
theorem mUpN_all (self : Int) (max : Nat) (h : S54) (M : List S58) : mUpN self max h M h.f2.length = markH self max M h := by unfold mUpN markH;rw [List.take_length]
theorem mUpN_next (self : Int) (max : Nat) (h : S54) (M : List S58) (j : Nat) (hj : j < h.f2.length) : mUpN self max h M (j + 1) = markS self max h.f0 h.f1 (mUpN self max h M j) h.f2[j] := by
  unfold mUpN
  rw [List.take_succ_eq_append_getElem hj,List.foldl_append]
  rfl
theorem HeldB.set6 {w W : World} {b q : Nat} {M : List S58} (h : HeldB w W b M) (hne : q ≠ b) (hq : w.heap.size ≤ q) (v0 v1 v2 v3 v4 v5 : Value) :
    HeldB w ((((((W.setCell ⟨q,0,none⟩ v0).setCell ⟨q,1,none⟩ v1).setCell ⟨q,2,none⟩ v2).setCell ⟨q,3,none⟩ v3).setCell ⟨q,4,none⟩ v4).setCell ⟨q,5,none⟩ v5) b M :=
  ⟨(((((h.1.setCell hne _).setCell hne _).setCell hne _).setCell hne _).setCell hne _).setCell hne _,h.2.1,(((((h.2.2.1.setCell hq _).setCell hq _).setCell hq _).setCell hq _).setCell hq _).setCell hq _,h.2.2.2⟩
theorem HeldB.set2 {w W : World} {b q i j : Nat} {M : List S58} (h : HeldB w W b M) (hne : q ≠ b) (hq : w.heap.size ≤ q) (v0 v1 : Value) : HeldB w ((W.setCell ⟨q,i,none⟩ v0).setCell ⟨q,j,none⟩ v1) b M :=
  ⟨(h.1.setCell hne _).setCell hne _,h.2.1,(h.2.2.1.setCell hq _).setCell hq _,h.2.2.2⟩
theorem blk_far2 {w : World} {g b i j : Nat} {t : TypeId} {cs : Array Value} (h : w.heap[b]? = some (.cells cs t (0,0))) (hne : b ≠ g) (v0 v1 : Value) : ((w.setCell ⟨g,i,none⟩ v0).setCell ⟨g,j,none⟩ v1).heap[b]? = some (.cells cs t (0,0)) := blk_far (blk_far h (p := ⟨g,i,none⟩) hne _) (p := ⟨g,j,none⟩) hne _
theorem cells_ne_map {w : World} {g b : Nat} {cs : Array Value} {t : TypeId} {M : List S58} (hg : w.heap[g]? = some (.cells cs t (0,0))) (hm : IsMap w b (Value.int .i64) (enM M)) : g ≠ b := by
  rintro rfl
  obtain ⟨es,ck,hb,_⟩ := hm
  rw [hg] at hb
  cases hb
set_option maxHeartbeats 4000000 in
set_option maxRecDepth 100000 in
theorem marks_bad (self : Int) (A : Option Addr) (c : Nat) (l : List S54) (max : Nat) (w : World) (hr : Kd.C k54 w A l.length l) (hc : l.length ≤ c) (hw : HeardW l) (hl : l.length < 2305843009213693952) (hx : max < 18446744073709551616) (h0 : ckE self l ≠ 0) :
    Calls Try.prog 13 #[.int .i64 self,.slice A l.length c,.float .f64 max] w fun e w' => e = .returned (.tuple #[.slice none 0 0,.int .i64 (ckE self l)]) ∧ Below w.heap.size w w' := by
  have HR := Aside0.mk hr
  have HC := Aside0.mk hc
  have HCK := Aside0.mk (prog_ck self l hw hl (2 * l.length + 3) (Nat.le_refl _))
  have c4b1 : (ckE self l != 0) = true := bne_iff_ne.mpr h0
  clear hr hc hw
  generalize ckE self l = ck at *
  go_enter Try.func13,Try.ntmps13
  go_wp2_with (first | (go_at_call 17;refine (landdv_Check.calls _ self A c l ck _ HR.out HC.out HCK.out).mono ?_;rintro e w2 ⟨rfl,hb⟩;have HB := Aside0.mk hb;clear hb))
  refine bodyPost_ret (v := .tuple #[.slice none 0 0,.int .i64 ck]) (by simp [results,Try.results13,go_sem]) rfl ⟨rfl,HB.out⟩
set_option maxHeartbeats 4000000 in
set_option maxRecDepth 100000 in
theorem marks_lim (self : Int) (A : Option Addr) (c : Nat) (l : List S54) (max : Nat) (w : World) (hr : Kd.C k54 w A l.length l) (hc : l.length ≤ c) (hw : HeardW l) (hl : l.length < 2305843009213693952) (hx : max < 18446744073709551616) (h0 : ckE self l = 0) (h1 : lE max ≠ 0) :
    Calls Try.prog 13 #[.int .i64 self,.slice A l.length c,.float .f64 max] w fun e w' => e = .returned (.tuple #[.slice none 0 0,.int .i64 (lE max)]) ∧ Below w.heap.size w w' := by
  have HR := Aside0.mk hr
  have HC := Aside0.mk hc
  have hck := prog_ck self l hw hl (2 * l.length + 3) (Nat.le_refl _)
  rw [h0] at hck
  have HCK := Aside0.mk hck
  have HL := Aside0.mk (limit_all max hx).2.1
  have c4b1 : (lE max != 0) = true := bne_iff_ne.mpr h1
  clear hr hc hw hck h0
  generalize lE max = ck at *
  go_enter Try.func13,Try.ntmps13
  go_wp2_with (first | (go_at_call 17;refine (landdv_Check.calls _ self A c l 0 _ HR.out HC.out HCK.out).mono ?_;rintro e w2 ⟨rfl,hb⟩;have HB := Aside0.mk hb;clear hb) | (go_at_call 32;refine (metric_Limit.calls max ck _ HL.out).mono ?_;rintro e w3 ⟨rfl,hb3⟩;have HB3 := Aside0.mk hb3;clear hb3))
  refine bodyPost_ret (v := .tuple #[.slice none 0 0,.int .i64 ck]) (by simp [results,Try.results13,go_sem]) rfl ⟨rfl,?_⟩
  obtain ⟨q,rfl⟩ := HB3.out
  exact pw_below_drewN HB.out _
set_option maxHeartbeats 8000000 in
set_option maxRecDepth 100000 in
theorem marks_good (self : Int) (A : Option Addr) (c : Nat) (l : List S54) (max : Nat) (w : World) (hr : Kd.C k54 w A l.length l) (hc : l.length ≤ c) (hw : HeardW l) (hl : l.length < 2305843009213693952) (hx : max < 18446744073709551616) (h0 : ckE self l = 0) (h1 : lE max = 0) :
    Calls Try.prog 13 #[.int .i64 self,.slice A l.length c,.float .f64 max] w fun e w' => ∃ v : Value,e = .returned (.tuple #[v,.int .i64 0]) ∧ Kd.R k58 58 w' w.heap.size (fun _ => True) v (marksL (markA self max l)) ∧ Below w.heap.size w w' := by
  have HR := Aside0.mk hr
  have HC := Aside0.mk hc
  have hck := prog_ck self l hw hl (2 * l.length + 3) (Nat.le_refl _)
  rw [h0] at hck
  have HCK := Aside0.mk hck
  have hli := (limit_all max hx).2.1
  rw [h1] at hli
  have HL := Aside0.mk hli
  have OK := Aside0.mk (okH_of hw h0)
  have hu52 := Try.underlying52
  have hu54 := Try.underlying54
  have hu56 := Try.underlying56
  have hu58 := Try.underlying58
  have LL := Aside0.mk hl
  have hmm := @run_makeMap Try.prog
  have HINF := Aside0.mk (show math_Inf.f 1 = some 9218868437227405312 from by decide)
  clear hr hc hw hck h0 h1 hli hx hl
  go_enter Try.func13,Try.ntmps13
  go_wp2_with (first | (go_at_call 17;refine (landdv_Check.calls _ self A c l 0 _ HR.out HC.out HCK.out).mono ?_;rintro e w2 ⟨rfl,hb⟩;have HB2 := Aside0.mk hb;clear hb) | (go_at_call 32;refine (metric_Limit.calls max 0 _ HL.out).mono ?_;rintro e w3 ⟨rfl,hb3⟩;have HB3 := Aside0.mk (show Below w.heap.size w w3 by obtain ⟨q,rfl⟩ := hb3;exact pw_below_drewN HB2.out _);clear hb3))
  obtain ⟨b,hbd⟩ : ∃ b,b = w3.heap.size := ⟨_,rfl⟩
  have I1 := Aside0.mk (heldB_made w w3 HB3.out)
  rw [← hbd] at I1 ⊢
  clear hbd hmm
  go_loopg [35] l.length (fun kq v35 wr => ∃ i : Nat,v35 = .int .i64 (i : Int) ∧ Aside0 (i + kq = l.length) ∧ Aside0 (HeldB w wr b (mUp self max l i)))
  case atStart => exact ⟨0,rfl,⟨Nat.zero_add _⟩,⟨by have := I1.out;exact this⟩⟩
  case round =>
    obtain ⟨i,rfl,HK,HI⟩ := hrel
    cases gk with
    | zero =>
      have c1 : decide (i < l.length) = false := decide_eq_false (by have := HK.out;omega)
      have hi : i = l.length := by have := HK.out;omega
      subst hi
      have HM := HI.out
      rw [mUp_all] at HM
      have HJ0 := Aside0.mk HM
      clear HI HM HK I1
      obtain ⟨M,hM⟩ : ∃ M,M = markA self max l := ⟨_,rfl⟩
      have HMM := Aside0.mk hM
      rw [← hM] at HJ0
      clear hM
      have KOK := Aside0.mk HJ0.out.2.1
      have M4 : Aside0 (IsMap (wr.alloc (.cells #[.map (some b)] 52)) b (Value.int .i64) (enM M)) := ⟨HJ0.out.1.alloc _⟩
      have LK : Aside0 ((keysV M).length ≤ 2147483647) := ⟨by unfold keysV;rw [List.length_mergeSort,List.length_map];exact KOK.out.len⟩
      go_wp2_with (first | (go_at_call 43;refine (keys43 (some b) _).mono ?_;rintro e w4 ⟨rfl,rfl⟩) | (go_at_call 42;refine (sorted_keys (w := wr.alloc (.cells #[.map (some b)] 52)) (Bm := wr.heap.size) M4.out (fun x hx => (KOK.out.2 x hx).1) KOK.out.len (al_new _ _)).mono ?_;rintro e w5 ⟨v,rfl,hR,hb⟩;obtain ⟨A5,c5,rfl⟩ := Kd.R_slice hR;have R5 := Aside0.mk (Kd.R_reads' hR).2.2;have M5 := Aside0.mk (M4.out.below hb);have B5 := Aside0.mk (below_then (below_alloc HJ0.out.2.2.1 _) (below_alloc HJ0.out.2.2.1 _).size hb);clear hR hb))
      obtain ⟨K,hK⟩ : ∃ K,K = keysV M := ⟨_,rfl⟩
      rw [← hK] at R5 LK ⊢
      have HK := Aside0.mk hK
      clear hK
      go_loopg [18,93] K.length (fun kq v18 v93 w6 => ∃ i : Nat,v93 = .int .i64 (i : Int) ∧ i + kq = K.length ∧ Aside0 (Kd.R k58 58 w6 w5.heap.size (fun _ => True) v18 ((K.take i).map fun d => (enGet d M).getD zE) ∧ Below w5.heap.size w5 w6))
      case atStart => exact ⟨0,rfl,by simp,⟨Kd.R_nil _ _ _ _ _,Below.refl _ _⟩⟩
      case round =>
        obtain ⟨i,rfl,hi,HV⟩ := hrel
        have lk := LK.out
        by_cases hil : i < K.length
        · have hiz : (i : Int) < (K.length : Int) := by omega
          obtain ⟨ai,e0,hi0⟩ := Kd.at_int (Kd.C_below R5.out HV.out.2) (i : Int) (by omega) hiz
          subst e0
          rw [Int.toNat_natCast] at hi0
          obtain ⟨d,hd⟩ : ∃ d,K.getD i 0 = d := ⟨_,rfl⟩
          have hrd : rd K (i : Int) = d := by unfold rd;rw [Int.toNat_natCast];exact hd
          rw [hrd] at hi0
          obtain ⟨y,hy⟩ : ∃ y,(enGet d M).getD zE = y := ⟨_,rfl⟩
          have HT : Aside0 ((mget (enM M) d).getD nilE = .agg #[.int .i64 y.f0,.int .i64 y.f1,.float .f64 y.f2,.int .i64 y.f3,.float .f64 y.f4,.int .i64 y.f5]) := ⟨by rw [mget_en,← hy];cases enGet d M <;> rfl⟩
          have TK : Aside0 ((K.take (i + 1)).map (fun d => (enGet d M).getD zE) = (K.take i).map (fun d => (enGet d M).getD zE) ++ [y]) := ⟨by
            rw [List.take_succ_eq_append_getElem hil,List.map_append,List.map_singleton]
            have : K[i] = d := by rw [← hd];simp [List.getD_eq_getElem?_getD,hil]
            rw [this,hy]⟩
          have M6 := Aside0.mk (M5.out.below HV.out.2)
          have LN : Aside0 (((K.take i).map fun d => (enGet d M).getD zE).length ≤ 2147483647) := ⟨by rw [List.length_map,List.length_take];omega⟩
          clear hd hrd hy
          go_wp2_with (first | (at_lookup;refine wp_look1 rfl _ _ 52 3 58 rfl (key_int Try.underlying3) Try.underlying52 rfl d rfl M6.out nilE (by kernel_rfl) ?_;rw [HT.out]) | ((with_reducible refine gate_builtin (b := .append) (xs := #[.tmp 97,.tmp 101]) rfl ?_);at_builtin;refine Kd.R_append k58 (w0 := w5) w5.heap.size rfl (.tmp 97) (.tmp 101) 24 58 (.agg #[(.int .i64 0),(.int .i64 0),(.float .f64 0),(.int .i64 0),(.float .f64 0),(.int .i64 0)]) 48 rfl Try.underlying24 info58 rfl (by decide) (by omega) u18 ((K.take i).map fun d => (enGet d M).getD zE) y [.int .i64 y.f0,.int .i64 y.f1,.float .f64 y.f2,.int .i64 y.f3,.float .f64 y.f4,.int .i64 y.f5] (fun _ => True) (fun _ => False) rfl (by first | rfl | (simp [Act.eval,Act.put];done)) ?aP (fun _ hk => hk.elim) ?aF ?aO ?aB ?aS ?aL ?_;(case aP => exact k58_mkM _ _ _ y);(case aF => exact fun _ _ => trivial);(case aO => exact HV.out.1);(case aB => exact HV.out.2);(case aS => exact HV.out.2.size);(case aL => have := LN.out;omega);intro v3 w3 ho hb3 hg3 hat;have K3 : Aside0 (Kd.R k58 58 w3 w5.heap.size (fun _ => True) v3 ((K.take (i + 1)).map fun d => (enGet d M).getD zE) ∧ Below w5.heap.size w5 w3) := ⟨by rw [TK.out];exact ⟨ho,hb3⟩⟩;clear ho hb3 hg3 hat))
          go_roundg (gk - 1)
          case measure => omega
          case rel => exact ⟨i + 1,by go_num,by omega,K3⟩
        obtain rfl : i = K.length := by omega
        have HV2 := HV.out
        rw [List.take_length] at HV2
        obtain ⟨A6,c6,e6⟩ := Kd.R_slice HV2.1
        go_wp2_with fail
        refine bodyPost_ret (v := .tuple #[u18,.int .i64 0]) (by simp [results,Try.results13,go_sem]) rfl ?_
        refine ⟨u18,rfl,?_,below_then B5.out B5.out.size HV2.2⟩
        show Kd.R k58 58 _ _ _ _ (marksL (markA self max l))
        rw [← HMM.out]
        unfold marksL
        rw [← HK.out]
        exact Kd.R_lower HV2.1 B5.out.size
    | succ go =>
      have c1 : decide (i < l.length) = true := decide_eq_true (by have := HK.out;omega)
      have p1 : 0 ≤ (i : Int) := by omega
      have q1 : (i : Int) < (l.length : Int) := by have := HK.out;omega
      obtain ⟨ad,A2,c2,e2,x0,x1,x2,hl2,hi2⟩ := at_T54 HR.out i p1 q1
      simp only [Int.toNat_natCast] at x0 x1 x2
      have hat : rd_T54 l (i : Int) = l.getD i z54 := rdh l i
      have HB0 := Aside0.mk HI.out.2.2.1
      replace x0 := (HB0.out.cell (World.block_lt_of_cell? w _ x0)).trans x0
      replace x1 := (HB0.out.cell (World.block_lt_of_cell? w _ x1)).trans x1
      replace x2 := (HB0.out.cell (World.block_lt_of_cell? w _ x2)).trans x2
      have hne0 : ad.block ≠ wr.heap.size := by have := World.block_lt_of_cell? _ _ x0;rw [add_block] at this;omega
      subst e2
      have HL2 := Aside0.mk hl2
      have HI2 := Aside0.mk hi2
      clear hl2 hi2
      generalize hh : rd_T54 l (i : Int) = h at *
      have HH := Aside0.mk hh
      clear hh hat
      go_wp2
      obtain ⟨g,hg⟩ : ∃ g,g = wr.heap.size := ⟨_,rfl⟩
      rw [← hg]
      have HGE := Aside0.mk hg
      clear hg
      go_loopg [42] h.f2.length (fun kq v42 w5 => ∃ j : Nat,v42 = .int .i64 (j : Int) ∧ Aside0 (j + kq = h.f2.length) ∧ Aside0 (HeldB w w5 b (mUpN self max h (mUp self max l i) j)) ∧ Aside0 (w5.heap[g]? = some (.cells #[.int .i64 h.f0,.float .f64 h.f1,.slice A2 h.f2.length c2] 54 (0,0))))
      case atStart =>
        rw [HGE.out]
        exact ⟨0,rfl,⟨Nat.zero_add _⟩,⟨HI.out.1.alloc _,HI.out.2.1,below_alloc HI.out.2.2.1 _,HI.out.2.2.2⟩,⟨al_new _ _⟩⟩
      case round =>
        obtain ⟨j,rfl,HKj,HIj,HGj⟩ := hrel
        cases gk with
        | zero =>
          have d2 : decide (j < h.f2.length) = false := decide_eq_false (by have := HKj.out;omega)
          have hj : j = h.f2.length := by have := HKj.out;omega
          subst hj
          have HM := HIj.out
          rw [mUpN_all,← HH.out,rdh,List.getD_eq_getElem?_getD,List.getElem?_eq_getElem (by omega),Option.getD_some,← mUp_next self max l i (by omega)] at HM
          have HM2 := Aside0.mk HM
          have bl := LL.out
          clear HM
          go_wp2
          go_roundg go
          case measure => omega
          case rel => exact ⟨i + 1,by go_num,⟨by have := HK.out;omega⟩,HM2⟩
        | succ gk =>
          have jl : j < h.f2.length := by have := HKj.out;omega
          have d2 : decide (j < h.f2.length) = true := decide_eq_true jl
          have p2 : 0 ≤ (j : Int) := by omega
          have q2 : (j : Int) < (h.f2.length : Int) := by omega
          have hok := OK.out h (by rw [← HH.out,rdh,List.getD_eq_getElem?_getD,List.getElem?_eq_getElem (by omega),Option.getD_some];exact List.getElem_mem _)
          obtain ⟨ad2,e2,y0,y1,y2,y3,y4⟩ := at_T56 HI2.out (j : Int) p2 q2
          simp only [Int.toNat_natCast] at y0 y1 y2 y3 y4
          have HBj := Aside0.mk HIj.out.2.2.1
          replace y0 := (HBj.out.cell (World.block_lt_of_cell? w _ y0)).trans y0
          replace y1 := (HBj.out.cell (World.block_lt_of_cell? w _ y1)).trans y1
          replace y2 := (HBj.out.cell (World.block_lt_of_cell? w _ y2)).trans y2
          replace y3 := (HBj.out.cell (World.block_lt_of_cell? w _ y3)).trans y3
          replace y4 := (HBj.out.cell (World.block_lt_of_cell? w _ y4)).trans y4
          subst e2
          have hn0 : rd_T56 h.f2 (j : Int) = h.f2[j] := by rw [rdn,List.getD_eq_getElem?_getD,List.getElem?_eq_getElem jl,Option.getD_some]
          have hnum := hok.2.1 h.f2[j] (List.getElem_mem jl)
          have hstep := mUpN_next self max h (mUp self max l i) j jl
          rw [hn0] at y0 y1 y2 y3 y4
          generalize h.f2[j] = n at *
          generalize mUpN self max h (mUp self max l i) j = M at *
          have HST := Aside0.mk hstep
          have HAD := Aside0.mk (add_is h.f1 n.f2 max hok.1 hnum.1).1
          have HID := Aside0.mk hnum.2
          have bl := hok.2.2
          have BL := Aside0.mk bl
          clear hn0 hnum hstep hok
          obtain ⟨p,hp⟩ : ∃ p,p = wr.heap.size := ⟨_,rfl⟩
          obtain ⟨w6,hw6⟩ : ∃ w6,w6 = wr.alloc (.cells #[.int .i64 n.f0,.int .i64 n.f1,.float .f64 n.f2,.float .f64 n.f3,.int .i64 n.f4] 56) := ⟨_,rfl⟩
          have B6 : Below wr.heap.size wr w6 := by rw [hw6];exact below_alloc (Below.refl _ _) _
          have M6 := Aside0.mk (HIj.out.below B6)
          have G6 := Aside0.mk (blk_below HGj.out B6)
          have P6 : Aside0 (w6.heap[p]? = some (.cells #[.int .i64 n.f0,.int .i64 n.f1,.float .f64 n.f2,.float .f64 n.f3,.int .i64 n.f4] 56 (0,0))) := ⟨by rw [hw6,hp];exact al_new _ _⟩
          clear B6
          go_upto_region 14 with fail
          rw [← hw6,← hp]
          clear hw6 hp y0 y1 y2 y3 y4
          have g0 : w6.cell? ⟨g,0,none⟩ = some (.int .i64 h.f0) := (blk_cell G6.out 0).trans rfl
          have g1 : w6.cell? ⟨g,1,none⟩ = some (.float .f64 h.f1) := (blk_cell G6.out 1).trans rfl
          have g2 : w6.cell? ⟨g,2,none⟩ = some (.slice (some ad2) h.f2.length c2) := (blk_cell G6.out 2).trans rfl
          have n0 : w6.cell? ⟨p,0,none⟩ = some (.int .i64 n.f0) := (blk_cell P6.out 0).trans rfl
          have n1 : w6.cell? ⟨p,1,none⟩ = some (.int .i64 n.f1) := (blk_cell P6.out 1).trans rfl
          have n2 : w6.cell? ⟨p,2,none⟩ = some (.float .f64 n.f2) := (blk_cell P6.out 2).trans rfl
          have n3 : w6.cell? ⟨p,3,none⟩ = some (.float .f64 n.f3) := (blk_cell P6.out 3).trans rfl
          have n4 : w6.cell? ⟨p,4,none⟩ = some (.int .i64 n.f4) := (blk_cell P6.out 4).trans rfl
          by_cases hk : n.f1 = 1 ∧ n.f0 ≠ self
          rotate_left
          · have ST : Aside0 (markS self max h.f0 h.f1 M n = M) := ⟨by unfold markS;rw [if_neg hk]⟩
            by_cases hk1 : n.f1 = 1
            · have ck : (n.f1 != 1) = false := by simp [hk1]
              have cs : (n.f0 == self) = true := by
                rw [beq_iff_eq]
                exact Classical.byContradiction fun e => hk ⟨hk1,e⟩
              clear hk hk1
              go_wp2
              go_roundg gk
              case measure => omega
              case rel => exact ⟨j + 1,by go_num,⟨by have := HKj.out;omega⟩,⟨by rw [HST.out,ST.out];exact M6.out⟩,G6⟩
            have ck : (n.f1 != 1) = true := bne_iff_ne.mpr hk1
            clear hk hk1
            go_wp2
            go_roundg gk
            case measure => omega
            case rel => exact ⟨j + 1,by go_num,⟨by have := HKj.out;omega⟩,⟨by rw [HST.out,ST.out];exact M6.out⟩,G6⟩
          have ck : (n.f1 != 1) = false := by simp [hk.1]
          have cs : (n.f0 == self) = false := by simp [hk.2]
          have CK := Aside0.mk hk
          have ST : Aside0 (markS self max h.f0 h.f1 M n = enPut (markN h.f0 h.f1 n max (markX M n.f0)) M) := ⟨by unfold markS;rw [if_pos hk]⟩
          clear hk
          obtain ⟨y,th,hT,hS,hG⟩ := look_en M n.f0
          have HT := Aside0.mk hT
          have HS := Aside0.mk hS
          have HG := Aside0.mk hG
          clear hT hS hG
          go_upto_region 16 with (at_lookup;refine wp_look rfl _ _ 52 3 58 rfl (key_int Try.underlying3) Try.underlying52 rfl n.f0 rfl M6.out.1 nilE (by kernel_rfl) ?_;rw [HT.out,HS.out])
          obtain ⟨q,hq⟩ : ∃ q,q = w6.heap.size := ⟨_,rfl⟩
          obtain ⟨w8,hw8⟩ : ∃ w8,w8 = w6.alloc (.cells #[.int .i64 y.f0,.int .i64 y.f1,.float .f64 y.f2,.int .i64 y.f3,.float .f64 y.f4,.int .i64 y.f5] 58) := ⟨_,rfl⟩
          have B8 : Below w6.heap.size w6 w8 := by rw [hw8];exact below_alloc (Below.refl _ _) _
          have M8 := Aside0.mk (M6.out.below B8)
          have G8 := Aside0.mk (blk_below G6.out B8)
          have P8 := Aside0.mk (blk_below P6.out B8)
          have Q8 : Aside0 (w8.heap[q]? = some (.cells #[.int .i64 y.f0,.int .i64 y.f1,.float .f64 y.f2,.int .i64 y.f3,.float .f64 y.f4,.int .i64 y.f5] 58 (0,0))) := ⟨by rw [hw8,hq];exact al_new _ _⟩
          have QB : Aside0 (q ≠ b ∧ w.heap.size ≤ q ∧ g ≠ q ∧ p ≠ q) := ⟨cells_ne_map Q8.out M8.out.1,by rw [hq];exact M6.out.2.2.1.size,by have := blk_lt G6.out;omega,by have := blk_lt P6.out;omega⟩
          rw [← hw8,← hq]
          clear hw8 hq B8 g0 g1 g2 n0 n1 n2 n3 n4
          obtain ⟨x,hx⟩ : ∃ x,x = markX M n.f0 := ⟨_,rfl⟩
          rw [← hx] at ST
          have XX := Aside0.mk hx
          have X0 : Aside0 (x.f0 = n.f0) := ⟨by rw [hx];exact markX_dest⟩
          clear hx
          go_upto_if 63 with fail
          go_cut [] from 64 to 67 (fun wx => Aside0 (HeldB w wx b M ∧ wx.heap[g]? = some (.cells #[.int .i64 h.f0,.float .f64 h.f1,.slice (some ad2) h.f2.length c2] 54 (0,0)) ∧ wx.heap[p]? = some (.cells #[.int .i64 n.f0,.int .i64 n.f1,.float .f64 n.f2,.float .f64 n.f3,.int .i64 n.f4] 56 (0,0)) ∧ wx.heap[q]? = some (.cells #[.int .i64 x.f0,.int .i64 x.f1,.float .f64 x.f2,.int .i64 x.f3,.float .f64 x.f4,.int .i64 x.f5] 58 (0,0))))
          case first =>
            cases th with
            | true =>
              have XY : x = y := by rw [XX.out];unfold markX;rw [HG.out,if_pos rfl];rfl
              go_wp2_with fail
              go_meet
              exact ⟨M8.out,G8.out,P8.out,by rw [XY];exact Q8.out⟩
            | false =>
              have XY : x = ⟨n.f0,1,9218868437227405312,0,0,0⟩ := by rw [XX.out];unfold markX;rw [HG.out,if_neg (by decide)];rfl
              have XYA := Aside0.mk XY
              clear XY
              have n0 : w8.cell? ⟨p,0,none⟩ = some (.int .i64 n.f0) := (blk_cell P8.out 0).trans rfl
              have qz0 := blk_frozen Q8.out 0
              have qz1 := blk_frozen Q8.out 1
              have qz2 := blk_frozen Q8.out 2
              have qz3 := blk_frozen Q8.out 3
              have qz4 := blk_frozen Q8.out 4
              have qz5 := blk_frozen Q8.out 5
              go_upto_region 17 with fail
              go_region_with (go_at_call 40;refine (math_Inf.calls 1 9218868437227405312 _ HINF.out).mono ?_;rintro e w10 ⟨rfl,hd⟩;have hb6 := below_then (below_drew (Below.refl w8.heap.size w8)) (Nat.le_refl _) hd.below;have M10 := Aside0.mk (M8.out.below hb6);have G10 := Aside0.mk (blk_below G8.out hb6);have P10 := Aside0.mk (blk_below P8.out hb6);have Q10 := Aside0.mk (blk_below Q8.out hb6);clear hb6 hd;have m0 : w10.cell? ⟨p,0,none⟩ = some (.int .i64 n.f0) := (blk_cell P10.out 0).trans rfl;have qy0 : w10.cell? ⟨q,0,none⟩ = some (.int .i64 y.f0) := (blk_cell Q10.out 0).trans rfl;have qy1 : w10.cell? ⟨q,1,none⟩ = some (.int .i64 y.f1) := (blk_cell Q10.out 1).trans rfl;have qy2 : w10.cell? ⟨q,2,none⟩ = some (.float .f64 y.f2) := (blk_cell Q10.out 2).trans rfl;have qy3 : w10.cell? ⟨q,3,none⟩ = some (.int .i64 y.f3) := (blk_cell Q10.out 3).trans rfl;have qy4 : w10.cell? ⟨q,4,none⟩ = some (.float .f64 y.f4) := (blk_cell Q10.out 4).trans rfl;have qy5 : w10.cell? ⟨q,5,none⟩ = some (.int .i64 y.f5) := (blk_cell Q10.out 5).trans rfl;have qw0 := blk_frozen Q10.out 0;have qw1 := blk_frozen Q10.out 1;have qw2 := blk_frozen Q10.out 2;have qw3 := blk_frozen Q10.out 3;have qw4 := blk_frozen Q10.out 4;have qw5 := blk_frozen Q10.out 5)
              all_goals (go_wp2_with fail;go_meet;exact ⟨HeldB.set6 M10.out QB.out.1 QB.out.2.1 _ _ _ _ _ _,blk_far6 G10.out QB.out.2.2.1 _ _ _ _ _ _,blk_far6 P10.out QB.out.2.2.2 _ _ _ _ _ _,by rw [XYA.out];exact blk_set6 Q10.out _ _ _ _ _ _⟩)
          case rest =>
            have I9 := hcut
            clear hcut
            have M9 := Aside0.mk I9.out.1
            have G9 := Aside0.mk I9.out.2.1
            have P9 := Aside0.mk I9.out.2.2.1
            have Q9 := Aside0.mk I9.out.2.2.2
            clear I9 M8 G8 P8 Q8
            have g0 : wc.cell? ⟨g,0,none⟩ = some (.int .i64 h.f0) := (blk_cell G9.out 0).trans rfl
            have g1 : wc.cell? ⟨g,1,none⟩ = some (.float .f64 h.f1) := (blk_cell G9.out 1).trans rfl
            have g2 : wc.cell? ⟨g,2,none⟩ = some (.slice (some ad2) h.f2.length c2) := (blk_cell G9.out 2).trans rfl
            have n0 : wc.cell? ⟨p,0,none⟩ = some (.int .i64 n.f0) := (blk_cell P9.out 0).trans rfl
            have n1 : wc.cell? ⟨p,1,none⟩ = some (.int .i64 n.f1) := (blk_cell P9.out 1).trans rfl
            have n2 : wc.cell? ⟨p,2,none⟩ = some (.float .f64 n.f2) := (blk_cell P9.out 2).trans rfl
            have n3 : wc.cell? ⟨p,3,none⟩ = some (.float .f64 n.f3) := (blk_cell P9.out 3).trans rfl
            have n4 : wc.cell? ⟨p,4,none⟩ = some (.int .i64 n.f4) := (blk_cell P9.out 4).trans rfl
            have k0 : wc.cell? ⟨q,0,none⟩ = some (.int .i64 x.f0) := (blk_cell Q9.out 0).trans rfl
            have k1 : wc.cell? ⟨q,1,none⟩ = some (.int .i64 x.f1) := (blk_cell Q9.out 1).trans rfl
            have k2 : wc.cell? ⟨q,2,none⟩ = some (.float .f64 x.f2) := (blk_cell Q9.out 2).trans rfl
            have k3 : wc.cell? ⟨q,3,none⟩ = some (.int .i64 x.f3) := (blk_cell Q9.out 3).trans rfl
            have k4 : wc.cell? ⟨q,4,none⟩ = some (.float .f64 x.f4) := (blk_cell Q9.out 4).trans rfl
            have k5 : wc.cell? ⟨q,5,none⟩ = some (.int .i64 x.f5) := (blk_cell Q9.out 5).trans rfl
            obtain ⟨d,hd⟩ : ∃ d,d = addV h.f1 n.f2 max := ⟨_,rfl⟩
            have HAD2 := HAD.out
            rw [← hd] at HAD2
            have HADX := Aside0.mk HAD2
            have DD := Aside0.mk hd
            clear hd HAD2
            go_upto_if 77 with (go_at_call 41;refine (metric_Add.calls _ _ _ d _ HADX.out).mono ?_;rintro e w11 ⟨rfl,hd⟩;have M11 := Aside0.mk (M9.out.below hd.below);have G11 := Aside0.mk (blk_below G9.out hd.below);have P11 := Aside0.mk (blk_below P9.out hd.below);have Q11 := Aside0.mk (blk_below Q9.out hd.below);clear hd;clear g0 g1 g2 n0 n1 n2 n3 n4 k0 k1 k2 k3 k4 k5;have g0 : w11.cell? ⟨g,0,none⟩ = some (.int .i64 h.f0) := (blk_cell G11.out 0).trans rfl;have g1 : w11.cell? ⟨g,1,none⟩ = some (.float .f64 h.f1) := (blk_cell G11.out 1).trans rfl;have g2 : w11.cell? ⟨g,2,none⟩ = some (.slice (some ad2) h.f2.length c2) := (blk_cell G11.out 2).trans rfl;have n0 : w11.cell? ⟨p,0,none⟩ = some (.int .i64 n.f0) := (blk_cell P11.out 0).trans rfl;have n1 : w11.cell? ⟨p,1,none⟩ = some (.int .i64 n.f1) := (blk_cell P11.out 1).trans rfl;have n2 : w11.cell? ⟨p,2,none⟩ = some (.float .f64 n.f2) := (blk_cell P11.out 2).trans rfl;have n3 : w11.cell? ⟨p,3,none⟩ = some (.float .f64 n.f3) := (blk_cell P11.out 3).trans rfl;have n4 : w11.cell? ⟨p,4,none⟩ = some (.int .i64 n.f4) := (blk_cell P11.out 4).trans rfl;have k0 : w11.cell? ⟨q,0,none⟩ = some (.int .i64 x.f0) := (blk_cell Q11.out 0).trans rfl;have k1 : w11.cell? ⟨q,1,none⟩ = some (.int .i64 x.f1) := (blk_cell Q11.out 1).trans rfl;have k2 : w11.cell? ⟨q,2,none⟩ = some (.float .f64 x.f2) := (blk_cell Q11.out 2).trans rfl;have k3 : w11.cell? ⟨q,3,none⟩ = some (.int .i64 x.f3) := (blk_cell Q11.out 3).trans rfl;have k4 : w11.cell? ⟨q,4,none⟩ = some (.float .f64 x.f4) := (blk_cell Q11.out 4).trans rfl;have k5 : w11.cell? ⟨q,5,none⟩ = some (.int .i64 x.f5) := (blk_cell Q11.out 5).trans rfl)
            obtain ⟨x',hx'⟩ : ∃ x',x' = markN h.f0 h.f1 n max x := ⟨_,rfl⟩
            have XN := Aside0.mk hx'
            have ST2 := ST.out
            rw [← hx'] at ST2
            have KO : Aside0 (KeptOk (enPut x' M)) := ⟨by rw [hx',XX.out];exact keptOk_put M11.out.2.1 (markN_ok M11.out.2.1 HID.out)⟩
            have X0' : Aside0 (x'.f0 = n.f0) := ⟨by rw [hx',markN_dest];exact X0.out⟩
            have ST3 := Aside0.mk ST2
            clear hx' ST2
            obtain ⟨lt,hlt⟩ : ∃ lt,(FloatKind.f64.format.order d x.f2 == some .lt) = lt := ⟨_,rfl⟩
            have HLT := Aside0.mk hlt
            rw [hlt]
            clear hlt
            go_cut [] from 77 to 82 (fun wx => Aside0 (HeldB w wx b M ∧ wx.heap[g]? = some (.cells #[.int .i64 h.f0,.float .f64 h.f1,.slice (some ad2) h.f2.length c2] 54 (0,0)) ∧ wx.heap[p]? = some (.cells #[.int .i64 n.f0,.int .i64 n.f1,.float .f64 n.f2,.float .f64 n.f3,.int .i64 n.f4] 56 (0,0)) ∧ wx.heap[q]? = some (.cells #[.int .i64 x'.f0,.int .i64 x'.f1,.float .f64 x'.f2,.int .i64 x'.f3,.float .f64 x'.f4,.int .i64 x'.f5] 58 (0,0))))
            case first =>
              cases lt with
              | false =>
                have XE : x' = x := by rw [XN.out];unfold markN;rw [← DD.out,HLT.out];rfl
                go_wp2_with fail
                go_meet
                exact ⟨M11.out,G11.out,P11.out,by rw [XE];exact Q11.out⟩
              | true =>
                have XE : x' = ⟨x.f0,x.f1,d,h.f0,x.f4,x.f5⟩ := by rw [XN.out];unfold markN;rw [← DD.out,HLT.out];rfl
                have XEA := Aside0.mk XE
                have gq := QB.out.2.2.1
                have qg := gq.symm
                have f2 := blk_frozen Q11.out 2
                have f3 := blk_frozen Q11.out 3
                clear XE
                go_upto_region 20 with fail
                go_region_with fail
                all_goals (go_wp2_with fail;go_meet;exact ⟨HeldB.set2 (M11.out.below (below_drew (Below.refl _ _))) QB.out.1 QB.out.2.1 _ _,blk_far2 (blk_drew G11.out) QB.out.2.2.1 _ _,blk_far2 (blk_drew P11.out) QB.out.2.2.2 _ _,by rw [XEA.out];exact (blk_set (blk_set (blk_drew Q11.out) 2 _) 3 _).trans rfl⟩)
            case rest =>
              have I12 := hcut
              clear hcut
              have M12 := Aside0.mk I12.out.1
              have G12 := Aside0.mk I12.out.2.1
              have P12 := Aside0.mk I12.out.2.2.1
              have Q12 := Aside0.mk I12.out.2.2.2
              clear I12 M11 G11 P11 Q11 M9 G9 P9 Q9 g0 g1 g2 n0 n1 n2 n3 n4 k0 k1 k2 k3 k4 k5
              have n0 : wc.cell? ⟨p,0,none⟩ = some (.int .i64 n.f0) := (blk_cell P12.out 0).trans rfl
              have n1 : wc.cell? ⟨p,1,none⟩ = some (.int .i64 n.f1) := (blk_cell P12.out 1).trans rfl
              have n2 : wc.cell? ⟨p,2,none⟩ = some (.float .f64 n.f2) := (blk_cell P12.out 2).trans rfl
              have n3 : wc.cell? ⟨p,3,none⟩ = some (.float .f64 n.f3) := (blk_cell P12.out 3).trans rfl
              have n4 : wc.cell? ⟨p,4,none⟩ = some (.int .i64 n.f4) := (blk_cell P12.out 4).trans rfl
              have k0 : wc.cell? ⟨q,0,none⟩ = some (.int .i64 x'.f0) := (blk_cell Q12.out 0).trans rfl
              have k1 : wc.cell? ⟨q,1,none⟩ = some (.int .i64 x'.f1) := (blk_cell Q12.out 1).trans rfl
              have k2 : wc.cell? ⟨q,2,none⟩ = some (.float .f64 x'.f2) := (blk_cell Q12.out 2).trans rfl
              have k3 : wc.cell? ⟨q,3,none⟩ = some (.int .i64 x'.f3) := (blk_cell Q12.out 3).trans rfl
              have k4 : wc.cell? ⟨q,4,none⟩ = some (.float .f64 x'.f4) := (blk_cell Q12.out 4).trans rfl
              have k5 : wc.cell? ⟨q,5,none⟩ = some (.int .i64 x'.f5) := (blk_cell Q12.out 5).trans rfl
              have GB := Aside0.mk (cells_ne_map G12.out M12.out.1)
              go_wp2_with (at_mapUpdate;refine wp_put rfl _ _ _ 52 3 58 rfl (key_int Try.underlying3) Try.underlying52 rfl n.f0 rfl (.agg #[.int .i64 x'.f0,.int .i64 x'.f1,.float .f64 x'.f2,.int .i64 x'.f3,.float .f64 x'.f4,.int .i64 x'.f5]) rfl M12.out.1 ?_;intro w10 hm hg10 hs10;have M10 := Aside0.mk (M12.out.put X0'.out hm hg10 KO.out);have G10 := Aside0.mk ((hg10.block g (blk_lt G12.out) (fun e => GB.out (Option.some.inj e))).trans G12.out);clear hm hg10 hs10)
              go_roundg gk
              case measure => omega
              case rel => exact ⟨j + 1,by go_num,⟨by have := HKj.out;omega⟩,⟨by rw [HST.out,ST3.out];exact M10.out⟩,G10⟩
end Go.Proofs.Ytjcnmpkaiopihaa.PA
