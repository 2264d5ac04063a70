/- The document's Marks (layer 15): an error, or what is kept destination by destination. Conditions: the floats are words, the lists fit in memory. -/
import Derived.Test.YtjcnmpkaiopihaaZmMn
import Derived.Test.YtjcnmpkaiopihaaZmGe
import Derived.Test.YtjcnmpkaiopihaaZmHf
namespace Go.Proofs.Ytjcnmpkaiopihaa.PA
open Go.RowKit Go.Proofs.YtjcnmpkaiopihaaW.PrintWords Go.Proofs.YtjcnmpkaiopihaaW.PrintLast Go.Proofs.YtjcnmpkaiopihaaW.PrintMore
set_option linter.unusedVariables false
set_option linter.unusedSimpArgs false
set_option maxHeartbeats 4000000 in
set_option maxRecDepth 100000 in
theorem rmarks_bad (self : Int) (A : Option Addr) (c : Nat) (l : List S54) (max : Nat) (w : World) (hr : Kd.C k54 w A l.length l) (hc : l.length ≤ c) (hw : HeardW l) (hl : l.length < 2305843009213693952) (hx : max < 18446744073709551616) (h0 : ckE self l ≠ 0) :
    Calls Try.prog 15 #[.int .i64 self,.slice A l.length c,.float .f64 max] w fun e w' => e = .returned (.tuple #[.slice none 0 0,.int .i64 (ckE self l)]) ∧ Below w.heap.size w w' := by
  have HR := Aside0.mk hr
  have HC := Aside0.mk hc
  have HCK := Aside0.mk (ref_ck self l hw hl (2 * l.length + 10555311626640) (Nat.le_refl _))
  have c4b1 : (ckE self l != 0) = true := bne_iff_ne.mpr h0
  clear hr hc hw
  generalize ckE self l = ck at *
  go_enter Try.func15,Try.ntmps15
  go_wp2_with (first | (go_at_call 18;refine (beaconref15_Check.calls _ self A c l ck _ HR.out HC.out HCK.out).mono ?_;rintro e w2 ⟨rfl,hb⟩;have HB := Aside0.mk hb;clear hb))
  refine bodyPost_ret (v := .tuple #[.slice none 0 0,.int .i64 ck]) (by simp [results,Try.results15,go_sem]) rfl ⟨rfl,HB.out⟩
set_option maxHeartbeats 4000000 in
set_option maxRecDepth 100000 in
theorem rmarks_lim (self : Int) (A : Option Addr) (c : Nat) (l : List S54) (max : Nat) (w : World) (hr : Kd.C k54 w A l.length l) (hc : l.length ≤ c) (hw : HeardW l) (hl : l.length < 2305843009213693952) (hx : max < 18446744073709551616) (h0 : ckE self l = 0) (h1 : lE max ≠ 0) :
    Calls Try.prog 15 #[.int .i64 self,.slice A l.length c,.float .f64 max] w fun e w' => e = .returned (.tuple #[.slice none 0 0,.int .i64 (lE max)]) ∧ Below w.heap.size w w' := by
  have HR := Aside0.mk hr
  have HC := Aside0.mk hc
  have hck := ref_ck self l hw hl (2 * l.length + 10555311626640) (Nat.le_refl _)
  rw [h0] at hck
  have HCK := Aside0.mk hck
  have HL := Aside0.mk (limit_all max hx).1
  have c4b1 : (lE max != 0) = true := bne_iff_ne.mpr h1
  clear hr hc hw hck h0
  generalize lE max = ck at *
  go_enter Try.func15,Try.ntmps15
  go_wp2_with (first | (go_at_call 18;refine (beaconref15_Check.calls _ self A c l 0 _ HR.out HC.out HCK.out).mono ?_;rintro e w2 ⟨rfl,hb⟩;have HB := Aside0.mk hb;clear hb) | (go_at_call 36;refine (beaconref01_Limit.calls max ck _ HL.out).mono ?_;rintro e w3 ⟨rfl,hb3⟩;have HB3 := Aside0.mk hb3;clear hb3))
  refine bodyPost_ret (v := .tuple #[.slice none 0 0,.int .i64 ck]) (by simp [results,Try.results15,go_sem]) rfl ⟨rfl,?_⟩
  obtain ⟨q,rfl⟩ := HB3.out
  exact pw_below_drewN HB.out _
def rmarks_T13 : Bool × List (List Nat × List Nat) := (true,[([],[]),([],[]),([0,1],[0,1]),([2],[2]),([],[]),([3,4],[3,4]),([],[]),([6,5,4,0,1,2,3,4,5,6],[5,6])])
def rmarks_B13 : List Nat := [0,0,3,7,0,31,0,127]
theorem rmarks_tab13 : rtab .any (opsOf Try.f15 13) = rmarks_T13 := by kernel_rfl
theorem rmarks_bits13 : waitsOk rmarks_T13.2 rmarks_B13 = true := by kernel_rfl
theorem R_empty58 {W : World} {B : Nat} (h : B ≤ W.heap.size) : Kd.R k58 58 (W.alloc (.cells #[] 58)) B (fun _ => True) (.slice (some ⟨W.heap.size,0,none⟩) 0 0) [] :=
  ⟨fun _ _ => trivial,[],⟨by simp,.inr ⟨W.heap.size,0,#[],rfl,h,al_new _ _,Nat.le_refl _,Nat.zero_le _,by simp,by simp⟩⟩,Reps.none _ _⟩
def rowsTo (self : Int) (max : Nat) (l : List S54) (D : List Int) (i : Nat) : List S58 := ((D.take i).filter fun d => decide (d ≠ self)).map (entD max l)
theorem rowsTo_next (self : Int) (max : Nat) (l : List S54) (D : List Int) (i : Nat) (hi : i < D.length) : rowsTo self max l D (i + 1) = rowsTo self max l D i ++ (if D[i] = self then [] else [entD max l D[i]]) := by
  unfold rowsTo
  rw [List.take_succ_eq_append_getElem hi,List.filter_append,List.map_append]
  by_cases h : D[i] = self
  · simp [h]
  simp [h]
theorem rowsTo_len (self : Int) (max : Nat) (l : List S54) (D : List Int) (i : Nat) : (rowsTo self max l D i).length ≤ D.length := by
  unfold rowsTo
  rw [List.length_map]
  refine Nat.le_trans (List.length_filter_le _ _) ?_
  rw [List.length_take]
  omega
theorem off_ok {kind d : Int} {l : List S54} (ho : ∀ h ∈ l,OkH h) : ∀ o ∈ offA kind d l,∃ n,o.f2 = [n] ∧ (∃ m i,Ieee.double.read o.f1 = .number false m i) ∧ (Ieee.double.read n.f2).isNaN = false := by
  intro o hm
  obtain ⟨h,hh,e⟩ := List.mem_filterMap.1 hm
  unfold offH at e
  obtain ⟨n,hn,rfl⟩ := Option.map_eq_some_iff.1 e
  have hmem : n ∈ h.f2 := List.mem_of_find?_eq_some hn
  exact ⟨n,rfl,(ho h hh).1,((ho h hh).2.1 n hmem).1⟩
set_option maxHeartbeats 8000000 in
set_option maxRecDepth 100000 in
theorem rmarks_good (self : Int) (A : Option Addr) (c : Nat) (l : List S54) (max : Nat) (w : World) (hr : Kd.C k54 w A l.length l) (hc : l.length ≤ c) (hw : HeardW l) (hl : l.length < 3518437208883) (hx : max < 18446744073709551616) (h0 : ckE self l = 0) (h1 : lE max = 0) :
    Calls Try.prog 15 #[.int .i64 self,.slice A l.length c,.float .f64 max] w fun e w' => ∃ v : Value,e = .returned (.tuple #[v,.int .i64 0]) ∧ Kd.R k58 58 w' w.heap.size (fun _ => True) v (rowsTo self max l (dstA 1 l) (dstA 1 l).length) ∧ Below w.heap.size w w' := by
  have HR := Aside0.mk hr
  have HC := Aside0.mk hc
  have hck := ref_ck self l hw (by omega) (2 * l.length + 10555311626640) (Nat.le_refl _)
  rw [h0] at hck
  have HCK := Aside0.mk hck
  have hli := (limit_all max hx).1
  rw [h1] at hli
  have HL := Aside0.mk hli
  have ho := okH_of hw h0
  have OK := Aside0.mk ho
  have RO := Aside0.mk (show RisOk (dstA 1 l) from dstA_ok' (kind := 1) l [] risOk_nil ho)
  obtain ⟨KD,hKD⟩ := dst_all l 1 (by omega) ho
  have HD := Aside0.mk (show beaconref13_Dests.f KD l 1 = some (dstA 1 l) from hKD KD (Nat.le_refl _))
  have OFF := Aside0.mk fun d => off_all l 1 d hl ho
  have OFO := Aside0.mk fun d => off_ok (kind := 1) (d := d) ho
  have LL := Aside0.mk hl
  have hu54 := Try.underlying54
  have hu56 := Try.underlying56
  have hu58 := Try.underlying58
  have HINF := Aside0.mk (show math_Inf.f 1 = some 9218868437227405312 from by decide)
  clear hr hc hw hck h0 h1 hli hx hl ho hKD
  go_enter Try.func15,Try.ntmps15
  obtain ⟨D,hDe⟩ : ∃ D,D = dstA 1 l := ⟨_,rfl⟩
  rw [← hDe] at RO HD
  have LD := Aside0.mk RO.out.len
  have DE := Aside0.mk hDe
  clear hDe
  go_upto_region 8 with (first | (go_at_call 18;refine (beaconref15_Check.calls _ self A c l 0 _ HR.out HC.out HCK.out).mono ?_;rintro e w2 ⟨rfl,hb⟩;have HB2 := Aside0.mk hb;clear hb) | (go_at_call 36;refine (beaconref01_Limit.calls max 0 _ HL.out).mono ?_;rintro e w3 ⟨rfl,hb3⟩;have HB3 := Aside0.mk (show Below w.heap.size w w3 by obtain ⟨q,rfl⟩ := hb3;exact pw_below_drewN HB2.out _);clear hb3))
  obtain ⟨v0,hv0⟩ : ∃ v0 : Value,v0 = .slice (some ⟨w3.heap.size,0,none⟩) 0 0 := ⟨_,rfl⟩
  obtain ⟨w3',hw3⟩ : ∃ w3',w3' = w3.alloc (.cells #[] 58) := ⟨_,rfl⟩
  have E0 : Aside0 (Kd.R k58 58 w3' w.heap.size (fun _ => True) v0 [] ∧ Below w.heap.size w w3') := ⟨by rw [hv0,hw3];exact ⟨R_empty58 HB3.out.size,below_alloc HB3.out _⟩⟩
  rw [← hv0,← hw3]
  clear hv0 hw3
  go_wp2_with (go_at_call 45;refine (beaconref13_Dests.calls KD A c l 1 D _ (Kd.C_below HR.out E0.out.2) HC.out HD.out).mono ?_;rintro e w4 ⟨v4,rfl,hR,hb⟩;obtain ⟨A4,c4,rfl⟩ := Kd.R_slice hR;have R4 := Aside0.mk (Kd.R_lower hR E0.out.2.size);have B4 := Aside0.mk (below_then E0.out.2 E0.out.2.size hb);have E4 := Aside0.mk (Kd.R_below E0.out.1 hb);clear hR hb)
  go_loopg [10,12] D.length (fun kq v10 v12 wr => ∃ i : Nat,v12 = .int .i64 (i : Int) ∧ i + kq = D.length ∧ Aside0 (Kd.R k58 58 wr w.heap.size (fun _ => True) v10 (rowsTo self max l D i) ∧ Kd.R (Kd.int .i64) 3 wr w.heap.size (fun _ => True) (.slice A4 D.length c4) D ∧ Below w.heap.size w wr))
  case atStart => exact ⟨0,rfl,by simp,⟨E4.out,R4.out,B4.out⟩⟩
  case round =>
    obtain ⟨i,rfl,hi,HV⟩ := hrel
    have ld := LD.out
    by_cases hil : i < D.length
    rotate_left
    · obtain rfl : i = D.length := by omega
      obtain ⟨A6,c6,e6⟩ := Kd.R_slice HV.out.1
      go_wp2_with fail
      refine bodyPost_ret (v := .tuple #[u10,.int .i64 0]) (by simp [results,Try.results15,go_sem];try exact e6.symm) rfl ?_
      exact ⟨u10,rfl,by rw [← DE.out];exact HV.out.1,HV.out.2.2⟩
    have hiz : (i : Int) < (D.length : Int) := by omega
    obtain ⟨ai,e0,hi0⟩ := Kd.at_int (Kd.R_reads' HV.out.2.1).2.2 (i : Int) (by omega) hiz
    subst e0
    rw [Int.toNat_natCast,rdi D i hil] at hi0
    have hnx := rowsTo_next self max l D i hil
    have hdok := RO.out.2 D[i] (List.getElem_mem hil)
    generalize D[i] = d at *
    have NX := Aside0.mk hnx
    have DOK := Aside0.mk hdok
    clear hnx hdok
    by_cases hds : d = self
    · have hb : (d == self) = true := by simp [hds]
      have NX2 : Aside0 (rowsTo self max l D (i + 1) = rowsTo self max l D i) := ⟨by rw [NX.out,if_pos hds,List.append_nil]⟩
      clear hds
      go_wp2_with fail
      go_roundg (gk - 1)
      case measure => omega
      case rel => exact ⟨i + 1,by go_num,by omega,⟨by rw [NX2.out];exact HV.out⟩⟩
    have hb : (d == self) = false := by simp [hds]
    have NX2 : Aside0 (rowsTo self max l D (i + 1) = rowsTo self max l D i ++ [entD max l d]) := ⟨by rw [NX.out,if_neg hds]⟩
    clear hds
    go_upto_region 13 with fail
    obtain ⟨q,hq⟩ : ∃ q,q = wr.heap.size := ⟨_,rfl⟩
    go_cut [13] (fun s13 wx => s13 = .pointer (some ⟨q,0,none⟩) ∧ Aside0 (Below wr.heap.size wr wx ∧ wx.heap[q]? = some (.cells #[.int .i64 d,.int .i64 1,.float .f64 9218868437227405312,.int .i64 0,.float .f64 0,.int .i64 0] 58 (0,0))))
    case first =>
      have S20 : Aside0 (wr.drew.heap.size = wr.heap.size) := ⟨rfl⟩
      have B20 : Aside0 (Below wr.heap.size wr wr.drew) := ⟨below_drew (Below.refl wr.heap.size wr)⟩
      have HNE : Aside0 (wr.heap.size ≠ (ai.add i).block) := ⟨by have := World.block_lt_of_cell? _ _ hi0;exact fun e => by omega⟩
      refine start_ (n := 8) (S := fun w' => w'.cell? (ai.add i) = some (.int .i64 d)) (ds := []) #[false,false,false,false,false,false,false,false] (by kernel_rfl) rfl rfl hi0 (fun hHeld => ?_)
      refine with_tabW rmarks_tab13 rmarks_bits13 (fun HT_ HW_ => ?_)
      generalize wr.drew = w20 at S20 B20 hHeld ⊢
      refine manyW_ (fuel := 4) (a' := ?_) ((0,0) :: (1,0) :: (2,0) :: (3,2) :: []) #[true,true,true,true,false,false,false,false] rfl HT_ HW_ (by kernel_rfl) (fun _ _ _ _ _ h => h) (fun _ => hHeld) ?_ ?_
      rotate_left
      · repeat (first | exact Chain.nil _ | (apply Chain.on;rfl;rfl;(focus intro w';go_simp;with_reducible rfl);(focus simp only [Act.put,List.setIfInBounds_toArray,List.set_cons_zero,List.set_cons_succ,i64_w,i32_w];rfl)) | (apply Chain.take;rfl;rfl;(focus intro w' s0;go_simp;with_reducible rfl);(focus simp only [Act.put,List.setIfInBounds_toArray,List.set_cons_zero,List.set_cons_succ,i64_w,i32_w];rfl)))
      refine join_ (σ := Nat) 1 #[true,true,true,true,true,true,true,false] (fun s_ => [(47,.float .f64 9218868437227405312),(13,.pointer (some ⟨s_,0,none⟩)),(48,.agg #[.int .i64 d,.int .i64 1,.float .f64 9218868437227405312,.int .i64 0,.float .f64 0,.int .i64 0])]) (fun s_ w' => (w'.cell? (ai.add i) = some (.int .i64 d)) ∧ (w'.heap[s_]? = some (.cells #[.int .i64 0,.int .i64 0,.float .f64 0,.int .i64 0,.float .f64 0,.int .i64 0] 58 (0,0))) ∧ s_ = wr.heap.size ∧ Below wr.heap.size wr w') ?_ ?_
      rotate_left
      · intro hCont
        refine two_ (i := 4) (j := 6) (Ni := some 47) (Nj := some 13) #[true,true,true,true,true,false,false,false] #[true,true,true,true,false,false,true,false] rfl rfl rfl rfl (two_of HT_.out (by kernel_rfl)) (by decide) (by decide) (fun K hK => ?_) (fun K hK => ?_)
        · skip
          refine goes_ Try.func40 (by kernel_rfl) rfl #[.int .i64 1] (by rfl) rfl rfl (by (try simp only [List.map_toArray,List.map_cons,List.map_nil]);first | done | rfl | (simp only [List.length_drop,List.length_take];rfl)) ?_
          with_reducible refine (math_Inf.calls 1 9218868437227405312 _ HINF.out).mono ?_
          rintro e w' ⟨rfl,⟨nd,rfl⟩⟩
          refine ⟨_,rfl,?_⟩
          refine hK.out _ _ (hHeld) (fun hHeld => ?_)
          clear hK K
          refine norm_ (a' := ?_) ?_ ?_
          rotate_left
          · show Act.put _ (some 47) _ = _
            simp only [Act.put,List.setIfInBounds_toArray,List.set_cons_zero,List.set_cons_succ,i64_w,i32_w]
            rfl
          refine manyT_ (fuel := 2) (a' := ?_) ((5,0) :: []) #[true,true,true,true,true,true,false,false] rfl HT_ (by kernel_rfl) (fun _ _ _ _ _ h => h) (fun h => absurd h (by decide)) ?_ ?_
          rotate_left
          · repeat (first | exact Chain.nil _ | (apply Chain.on;rfl;rfl;(focus intro w';go_simp;with_reducible rfl);(focus simp only [Act.put,List.setIfInBounds_toArray,List.set_cons_zero,List.set_cons_succ,i64_w,i32_w];rfl)))
          refine one_ (i := 6) (N := some 13) #[true,true,true,true,true,true,true,false] rfl rfl (one_of HT_.out (by kernel_rfl)) (by decide) (fun K hK => ?_)
          refine box_step ?hg (N := 13) ?hd (cs := #[.int .i64 0,.int .i64 0,.float .f64 0,.int .i64 0,.float .f64 0,.int .i64 0]) (t := 58) ?hr ?_;(case hd => rfl);(case hg => rfl);(case hr => first | (go_simp;done) | (go_simp;rfl))
          intro gb hg w21 hbox hb
          have HS0_ := (hb.cell (World.block_lt_of_cell? _ _ (hHeld))).trans (hHeld)
          have BK := Aside0.mk hbox
          have GQ : Aside0 (gb = wr.heap.size) := ⟨hg.trans S20.out⟩
          have BW : Aside0 (Below wr.heap.size wr w21) := ⟨below_step (by repeat (first | exact B20.out | apply pw_below_drewN)) hb⟩
          clear hb hbox hg
          refine hK.out _ _ (HS0_) (fun hHeld => ?_)
          clear hK K
          refine norm_ (a' := ?_) ?_ ?_
          rotate_left
          · show Act.put _ (some 13) _ = _
            simp only [Act.put,List.setIfInBounds_toArray,List.set_cons_zero,List.set_cons_succ,i64_w,i32_w]
            rfl
          exact norm_ (by simp only [putAll,Act.put,List.setIfInBounds_toArray,List.set_cons_zero,List.set_cons_succ]) (hCont gb _ ⟨hHeld,(by (with_reducible repeat (first | refine blk_drewN ?_ _ | refine blk_drew ?_ | refine blk_alloc ?_ _));exact BK.out),GQ.out,(by repeat (first | exact BW.out | apply pw_below_drewN))⟩)
        skip
        refine box_step ?hg (N := 13) ?hd (cs := #[.int .i64 0,.int .i64 0,.float .f64 0,.int .i64 0,.float .f64 0,.int .i64 0]) (t := 58) ?hr ?_;(case hd => rfl);(case hg => rfl);(case hr => first | (go_simp;done) | (go_simp;rfl))
        intro gb hg w21 hbox hb
        have HS0_ := (hb.cell (World.block_lt_of_cell? _ _ (hHeld))).trans (hHeld)
        have BK := Aside0.mk hbox
        have GQ : Aside0 (gb = wr.heap.size) := ⟨hg.trans S20.out⟩
        have BW : Aside0 (Below wr.heap.size wr w21) := ⟨below_step (by repeat (first | exact B20.out | apply pw_below_drewN)) hb⟩
        clear hb hbox hg
        refine hK.out _ _ (HS0_) (fun hHeld => ?_)
        clear hK K
        refine norm_ (a' := ?_) ?_ ?_
        rotate_left
        · show Act.put _ (some 13) _ = _
          simp only [Act.put,List.setIfInBounds_toArray,List.set_cons_zero,List.set_cons_succ,i64_w,i32_w]
          rfl
        refine one_ (i := 4) (N := some 47) #[true,true,true,true,true,false,true,false] rfl rfl (one_of HT_.out (by kernel_rfl)) (by decide) (fun K hK => ?_)
        refine goes_ Try.func40 (by kernel_rfl) rfl #[.int .i64 1] (by rfl) rfl rfl (by (try simp only [List.map_toArray,List.map_cons,List.map_nil]);first | done | rfl | (simp only [List.length_drop,List.length_take];rfl)) ?_
        with_reducible refine (math_Inf.calls 1 9218868437227405312 _ HINF.out).mono ?_
        rintro e w' ⟨rfl,⟨nd,rfl⟩⟩
        refine ⟨_,rfl,?_⟩
        refine hK.out _ _ (hHeld) (fun hHeld => ?_)
        clear hK K
        refine norm_ (a' := ?_) ?_ ?_
        rotate_left
        · show Act.put _ (some 47) _ = _
          simp only [Act.put,List.setIfInBounds_toArray,List.set_cons_zero,List.set_cons_succ,i64_w,i32_w]
          rfl
        refine manyT_ (fuel := 1) (a' := ?_) ((5,0) :: []) #[true,true,true,true,true,true,true,false] rfl HT_ (by kernel_rfl) (fun _ _ _ _ _ h => h) (fun h => absurd h (by decide)) ?_ ?_
        rotate_left
        · repeat (first | exact Chain.nil _ | (apply Chain.on;rfl;rfl;(focus intro w';go_simp;with_reducible rfl);(focus simp only [Act.put,List.setIfInBounds_toArray,List.set_cons_zero,List.set_cons_succ,i64_w,i32_w];rfl)))
        exact norm_ (by simp only [putAll,Act.put,List.setIfInBounds_toArray,List.set_cons_zero,List.set_cons_succ]) (hCont gb _ ⟨hHeld,(by (with_reducible repeat (first | refine blk_drewN ?_ _ | refine blk_drew ?_ | refine blk_alloc ?_ _));exact BK.out),GQ.out,(by repeat (first | exact BW.out | apply pw_below_drewN))⟩)
      rintro gb w22 ⟨hHeld,h0_,h1_,h2_⟩
      obtain rfl : q = gb := hq.trans h1_.symm
      have BK := Aside0.mk h0_
      have BW := Aside0.mk h2_
      have QE := Aside0.mk hq
      have hne : (ai.add i).block ≠ q := by rw [hq];exact fun e => HNE.out e.symm
      clear h0_ h1_ h2_ hq
      refine norm_ (a' := ?_) ?_ ?_
      rotate_left
      · simp only [putAll,Act.put,List.setIfInBounds_toArray,List.set_cons_zero,List.set_cons_succ]
        rfl
      refine one_ (i := 7) (N := none) #[true,true,true,true,true,true,true,true] rfl rfl (one_of HT_.out (by kernel_rfl)) (by decide) (fun K hK => ?_)
      have hs0 : w22.cell? ⟨q,0,none⟩ = some (.int .i64 0) := (blk_cell BK.out 0).trans rfl
      have hfs0 := blk_frozen BK.out 0
      have hs1 : w22.cell? ⟨q,1,none⟩ = some (.int .i64 0) := (blk_cell BK.out 1).trans rfl
      have hfs1 := blk_frozen BK.out 1
      have hs2 : w22.cell? ⟨q,2,none⟩ = some (.float .f64 0) := (blk_cell BK.out 2).trans rfl
      have hfs2 := blk_frozen BK.out 2
      have hs3 : w22.cell? ⟨q,3,none⟩ = some (.int .i64 0) := (blk_cell BK.out 3).trans rfl
      have hfs3 := blk_frozen BK.out 3
      have hs4 : w22.cell? ⟨q,4,none⟩ = some (.float .f64 0) := (blk_cell BK.out 4).trans rfl
      have hfs4 := blk_frozen BK.out 4
      have hs5 : w22.cell? ⟨q,5,none⟩ = some (.int .i64 0) := (blk_cell BK.out 5).trans rfl
      have hfs5 := blk_frozen BK.out 5
      refine skip_ (w1 := ?_) (by rfl) rfl ?_ ?_
      rotate_left
      · go_simp
        rfl
      refine hK.out _ _ ((cell_far (p := ⟨q,_,none⟩) hne _).trans ((cell_far (p := ⟨q,_,none⟩) hne _).trans ((cell_far (p := ⟨q,_,none⟩) hne _).trans ((cell_far (p := ⟨q,_,none⟩) hne _).trans ((cell_far (p := ⟨q,_,none⟩) hne _).trans ((cell_far (p := ⟨q,_,none⟩) hne _).trans hHeld)))))) (fun hHeld => ?_)
      clear hK K hHeld
      refine done_ (done_of HT_.out (by kernel_rfl)) ?_
      have BK2 := Aside0.mk (blk_set6 BK.out (.int .i64 d) (.int .i64 1) (.float .f64 9218868437227405312) (.int .i64 0) (.float .f64 0) (.int .i64 0))
      go_wp2_with fail
      go_meet
      exact ⟨rfl,⟨by repeat (first | exact BW.out | refine below_set ?_ (Nat.le_of_eq QE.out.symm)),BK2.out⟩⟩
    case rest =>
      obtain ⟨rfl,HQ⟩ := hcut
      have hi1 : wc.cell? (ai.add i) = some (.int .i64 d) := (HQ.out.1.cell (World.block_lt_of_cell? _ _ hi0)).trans hi0
      obtain ⟨KO,hKO⟩ := OFF.out d
      have hHO : beaconref13_Offers.f KO l 1 d = some (offA 1 d l) := hKO KO (Nat.le_refl _)
      have hOO := OFO.out d
      have hEN : entD max l d = (offA 1 d l).foldl (offStep max) (defX d) := rfl
      have hLO : (offA 1 d l).length ≤ l.length := List.length_filterMap_le _ _
      clear hKO
      generalize offA 1 d l = O at hHO hOO hEN hLO
      have LO := Aside0.mk hLO
      clear hLO
      have HO := Aside0.mk hHO
      have OO := Aside0.mk hOO
      have EN := Aside0.mk hEN
      have QE := Aside0.mk hq
      clear hHO hOO hEN hq hi0
      have BC := Aside0.mk (below_then HV.out.2.2 HV.out.2.2.size HQ.out.1)
      go_wp2_with (go_at_call 46;(with_reducible refine (beaconref13_Offers.calls _ _ _ _ _ _ _ _ ?s1 ?s2 HO.out).mono ?_);(case s1 => exact Kd.C_below HR.out BC.out);(case s2 => exact HC.out);rintro e w5 ⟨v5,rfl,hS,hb⟩;obtain ⟨A5,c5,rfl⟩ := Kd.S_slice hS;have I5 := Aside0.mk (And.intro (below_then HQ.out.1 HQ.out.1.size hb) (And.intro (blk_below HQ.out.2 hb) hS));clear hS hb)
      generalize wr = wo at *
      generalize gk = gko at *
      go_loopg [15,16] O.length (fun kq v15 v16 wz => ∃ k : Nat,v15 = .int .i64 (k : Int) ∧ k + kq = O.length ∧ Aside0 (Below wo.heap.size wo wz ∧ wz.heap[q]? = some (.cells #[.int .i64 ((O.take k).foldl (offStep max) (defX d)).f0,.int .i64 ((O.take k).foldl (offStep max) (defX d)).f1,.float .f64 ((O.take k).foldl (offStep max) (defX d)).f2,.int .i64 ((O.take k).foldl (offStep max) (defX d)).f3,.float .f64 ((O.take k).foldl (offStep max) (defX d)).f4,.int .i64 ((O.take k).foldl (offStep max) (defX d)).f5] 58 (0,0)) ∧ Kd.S k54 54 wz wc.heap.size (fun _ => True) (.slice A5 O.length c5) O))
      case atStart => exact ⟨0,rfl,by simp,I5⟩
      case round =>
        obtain ⟨k,rfl,hk,hIV⟩ := hrel
        have lo := LO.out
        have ll := LL.out
        obtain ⟨X,hX⟩ : ∃ X,(O.take k).foldl (offStep max) (defX d) = X := ⟨_,rfl⟩
        have hIV2 := hIV.out
        rw [hX] at hIV2
        have XE := Aside0.mk hX
        have I1 := Aside0.mk hIV2.1
        have I2 := Aside0.mk hIV2.2.1
        have I3 := Aside0.mk hIV2.2.2
        clear hIV hIV2 hX
        by_cases hkl : k < O.length
        rotate_left
        · obtain rfl : k = O.length := by omega
          rw [List.take_length] at XE
          have EX : Aside0 (entD max l d = X) := ⟨EN.out.trans XE.out⟩
          have RX := Aside0.mk (Kd.R_elderB HV.out.1 q (Nat.le_of_eq QE.out.symm))
          have R1 := Aside0.mk (Kd.R_below HV.out.1 I1.out)
          have W1 := Aside0.mk (below_then HV.out.2.2 HV.out.2.2.size I1.out)
          have W4 := Aside0.mk (Kd.R_below HV.out.2.1 I1.out)
          have TY := Aside0.mk (Kd.R_typed R1.out)
          have RL := Aside0.mk (rowsTo_len self max l D i)
          have z0 : wr.cell? ⟨q,0,none⟩ = some (.int .i64 X.f0) := (blk_cell I2.out 0).trans rfl
          have z1 : wr.cell? ⟨q,1,none⟩ = some (.int .i64 X.f1) := (blk_cell I2.out 1).trans rfl
          have z2 : wr.cell? ⟨q,2,none⟩ = some (.float .f64 X.f2) := (blk_cell I2.out 2).trans rfl
          have z3 : wr.cell? ⟨q,3,none⟩ = some (.int .i64 X.f3) := (blk_cell I2.out 3).trans rfl
          have z4 : wr.cell? ⟨q,4,none⟩ = some (.float .f64 X.f4) := (blk_cell I2.out 4).trans rfl
          have z5 : wr.cell? ⟨q,5,none⟩ = some (.int .i64 X.f5) := (blk_cell I2.out 5).trans rfl
          go_wp2_with ((with_reducible refine gate_builtin (b := .append) (xs := #[.tmp 88,.tmp 90]) rfl ?_);at_builtin;refine Kd.R_append k58 (w0 := w) w.heap.size rfl (.tmp 88) (.tmp 90) 24 58 (.agg #[(.int .i64 0),(.int .i64 0),(.float .f64 0),(.int .i64 0),(.float .f64 0),(.int .i64 0)]) 48 rfl Try.underlying24 info58 rfl (by decide) (by omega) u10 (rowsTo self max l D i) X [.int .i64 X.f0,.int .i64 X.f1,.float .f64 X.f2,.int .i64 X.f3,.float .f64 X.f4,.int .i64 X.f5] (fun _ => True) (fun _ => False) rfl (by first | rfl | (simp [Act.eval,Act.put];done)) ?aP (fun _ hk => hk.elim) ?aF ?aO ?aB ?aS ?aL ?_;(case aP => exact k58_mkM _ _ _ X);(case aF => exact fun _ _ => trivial);(case aO => exact R1.out);(case aB => exact W1.out);(case aS => exact W1.out.size);(case aL => have := RL.out;have := LD.out;omega);intro v8 w8 ho hb8 hg8 hat;have K8 : Aside0 (Kd.R k58 58 w8 w.heap.size (fun _ => True) v8 (rowsTo self max l D (i + 1)) ∧ Kd.R (Kd.int .i64) 3 w8 w.heap.size (fun _ => True) (.slice (some ai) D.length c4) D ∧ Below w.heap.size w w8) := ⟨by rw [NX2.out,EX.out];exact ⟨ho,Kd.R_over' W4.out TY.out (by decide) hg8,hb8⟩⟩;clear ho hb8 hg8 hat)
          go_roundg (gko - 1)
          case measure => omega
          case rel => exact ⟨i + 1,by go_num,by omega,K8⟩
        have hkz : (k : Int) < (O.length : Int) := by omega
        obtain ⟨ao,A6,c6,e6,x0,x1,x2,hl6,hC6⟩ := at_T54 (Kd.S_reads' I3.out).2.2 (k : Int) (by omega) hkz
        subst e6
        rw [rdh,Int.toNat_natCast] at x0 x1 x2
        rw [rdh] at hl6 hC6
        obtain ⟨o,hoe⟩ : ∃ o,O.getD k z54 = o := ⟨_,rfl⟩
        rw [hoe] at x0 x1 x2 hl6 hC6
        have hom : o ∈ O := by rw [← hoe];simp [List.getD_eq_getElem?_getD,hkl]
        obtain ⟨n,hn,hnum,hnan⟩ := OO.out o hom
        rw [hn] at x2 hl6 hC6
        obtain ⟨an,e7,y0,y1,y2,y3,y4⟩ := at_T56 hC6 (0 : Int) (by decide) (by show (0 : Int) < ((1 : Nat) : Int);decide)
        subst e7
        have hr0 : rd_T56 [n] 0 = n := rfl
        rw [hr0] at y0 y1 y2 y3 y4
        rw [show ((0 : Int)).toNat = 0 from rfl,show 0 * 5 = 0 from rfl,Addr.add_zero'] at y2
        have NXT : Aside0 ((O.take (k + 1)).foldl (offStep max) (defX d) = markN o.f0 o.f1 n max X) := ⟨by
          rw [List.take_succ_eq_append_getElem hkl,List.foldl_append,XE.out]
          have e : O[k] = o := by rw [← hoe];simp [List.getD_eq_getElem?_getD,hkl]
          rw [e]
          show offStep max X o = _
          unfold offStep
          rw [hn]
          rfl⟩
        have HADD := Aside0.mk (add_is o.f1 n.f2 max hnum hnan).2
        have OE := Aside0.mk hoe
        clear hC6 hl6 y0 y1 y3 y4 hnum hnan hom hr0 hn hoe
        go_upto_region 18 with fail
        go_cut [16] (fun s16 wx => s16 = .float .f64 (addV o.f1 n.f2 max) ∧ Aside0 (Below wr.heap.size wr wx))
        case first =>
          go_region_with (go_at_call 47;refine (beaconref01_Add.calls o.f1 n.f2 max _ _ HADD.out).mono ?_;rintro e w7 ⟨rfl,hd⟩;have D7 := Aside0.mk (below_then (below_drew (Below.refl wr.heap.size wr)) (Nat.le_refl _) hd.below);clear hd)
          all_goals (go_wp2_with fail)
          all_goals go_meet
          all_goals exact ⟨rfl,D7⟩
        case rest =>
          obtain ⟨rfl,HC7⟩ := hcut
          have J1 := Aside0.mk (below_then I1.out I1.out.size HC7.out)
          have J2 := Aside0.mk (blk_below I2.out HC7.out)
          have J3 := Aside0.mk (Kd.S_below I3.out HC7.out)
          have z2 : wc.cell? ⟨q,2,none⟩ = some (.float .f64 X.f2) := (blk_cell J2.out 2).trans rfl
          have hfz2 := blk_frozen J2.out 2
          have w0 : wc.cell? (ao.add (k * 3)) = some (.int .i64 o.f0) := (HC7.out.cell (World.block_lt_of_cell? _ _ x0)).trans x0
          have hne : (ao.add (k * 3)).block ≠ q := by rw [add_block];exact Kd.own_blk (Kd.S_ne J3.out J2.out (by decide))
          have J22 := Aside0.mk (blk_set J2.out 2 (.float .f64 (addV o.f1 n.f2 max)))
          have z3 : (wc.setCell ⟨q,2,none⟩ (.float .f64 (addV o.f1 n.f2 max))).cell? ⟨q,3,none⟩ = some (.int .i64 X.f3) := (blk_cell J22.out 3).trans rfl
          have hfz3 := blk_frozen J22.out 3
          have w1 : (wc.setCell ⟨q,2,none⟩ (.float .f64 (addV o.f1 n.f2 max))).cell? (ao.add (k * 3)) = some (.int .i64 o.f0) := (cell_far (p := ⟨q,2,none⟩) hne _).trans w0
          have QW : Aside0 (wo.heap.size ≤ q) := ⟨Nat.le_of_eq QE.out.symm⟩
          clear x0 x1 x2 y2 I1 I2 I3 hne w0
          by_cases hlt : (FloatKind.f64.format.order (addV o.f1 n.f2 max) X.f2 == some .lt) = true
          · have EX : Aside0 ((O.take (k + 1)).foldl (offStep max) (defX d) = ⟨X.f0,X.f1,addV o.f1 n.f2 max,o.f0,X.f4,X.f5⟩) := ⟨by rw [NXT.out];unfold markN;rw [if_pos hlt]⟩
            go_wp2_with fail
            go_roundg (gk - 1)
            case measure => omega
            case rel => exact ⟨k + 1,by go_num,by omega,⟨by rw [EX.out];exact ⟨below_set (below_set J1.out QW.out) QW.out,(blk_set J22.out 3 (.int .i64 o.f0)).trans rfl,Kd.S_set (Kd.S_set J3.out J2.out (by decide) 2 _) J22.out (by decide) 3 _⟩⟩⟩
          have hlf : (FloatKind.f64.format.order (addV o.f1 n.f2 max) X.f2 == some .lt) = false := by simpa using hlt
          have EX : Aside0 ((O.take (k + 1)).foldl (offStep max) (defX d) = X) := ⟨by rw [NXT.out];unfold markN;rw [if_neg hlt]⟩
          clear hlt
          go_wp2_with fail
          go_roundg (gk - 1)
          case measure => omega
          case rel => exact ⟨k + 1,by go_num,by omega,⟨by rw [EX.out];exact ⟨J1.out,J2.out,J3.out⟩⟩⟩
end Go.Proofs.Ytjcnmpkaiopihaa.PA
