/- scopedv.Balls where the check and the limit hold: what is kept of all that was heard, sorted. -/
import Derived.Test.YtjcnmpkaiopihaaZoHi
namespace Go.Proofs.Ytjcnmpkaiopihaa.PA
open Go.RowKit Go.Proofs.YtjcnmpkaiopihaaW.PrintWords Go.Proofs.YtjcnmpkaiopihaaW.PrintLast Go.Proofs.YtjcnmpkaiopihaaW.PrintMore
set_option linter.unusedVariables false
set_option linter.unusedSimpArgs false
theorem stopHere {p : Prop} (h : Aside0 p) : p := h.out
theorem en_split {rest : List S58} {l1 l2 : List (Int × Value)} {k : Int} {v : Value} (h : enM rest = l1 ++ (k,v) :: l2) : ∃ r1 a r2,rest = r1 ++ a :: r2 ∧ l1 = enM r1 ∧ k = a.f0 ∧ v = enV a ∧ l2 = enM r2 := by
  obtain ⟨r1,r2',e1,e2,e3⟩ := List.map_eq_append_iff.1 h
  obtain ⟨a,r2,e4,e5,e6⟩ := List.map_eq_cons_iff.1 e3
  obtain ⟨rfl,rfl⟩ := Prod.mk.inj e5
  exact ⟨r1,a,r2,by rw [e1,e4],e2.symm,rfl,rfl,e6.symm⟩
theorem ranging_ltb {w : World} {r b : Nat} {m left : List (Int × Value)} (h : Ranging w r b (Value.int .i64) m left) : b < w.heap.size := by
  obtain ⟨es,clock,since,seen,c0,hb,_⟩ := h
  exact (Array.getElem?_eq_some_iff.1 hb).1
def EnInv (w wr : World) (r b : Nat) (L P rest : List S58) (vl : Value) : Prop :=
  Kd.R k58 58 wr w.heap.size (fun k => k ≠ r ∧ k ≠ b) vl P ∧ Ranging wr r b (Value.int .i64) (enM L) (enM rest) ∧ Below w.heap.size w wr ∧ (P ++ rest).Perm L ∧ w.heap.size ≤ r
theorem EnInv.len {w wr : World} {r b : Nat} {L P rest : List S58} {vl : Value} (h : EnInv w wr r b L P rest vl) : P.length + rest.length = L.length := by
  have := h.2.2.2.1.length_eq
  simpa using this
def nilE : Value := .agg #[.int .i64 0,.int .i64 0,.float .f64 0,.int .i64 0,.float .f64 0,.int .i64 0]
theorem EnInv.row {w wr w2 W : World} {r b : Nat} {L P rest : List S58} {vl : Value} (h : EnInv w wr r b L P rest vl) (hg : wr.grownBy w2 (some r)) (hW : Below w2.heap.size w2 W) : Kd.R k58 58 W w.heap.size (fun k => k ≠ r ∧ k ≠ b) vl P ∧ Below w.heap.size w W := by
  have h1 := Kd.R_grown h.1 hg (fun k hk e => hk.1 (Option.some.inj e))
  have h2 := pw_below_grown h.2.2.1 _ h.2.2.1.size hg (fun k e => by cases e;exact h.2.2.2.2)
  exact ⟨Kd.R_grown h1 (grown_of_below hW none) (fun k hk e => by cases e),pw_below_grown h2 _ h2.size (grown_of_below hW none) (fun k e => by cases e)⟩
theorem EnInv.step {w wr w2 w3 W : World} {r b : Nat} {L P rest r1 r2 : List S58} {a : S58} {vl v3 : Value} (h : EnInv w wr r b L P rest vl) (hs : rest = r1 ++ a :: r2) (hg : wr.grownBy w2 (some r)) (hW : Below w2.heap.size w2 W) (hr : Ranging w2 r b (Value.int .i64) (enM L) (enM r1 ++ enM r2))
    (h3 : Kd.R k58 58 w3 w.heap.size (fun k => k ≠ r ∧ k ≠ b) v3 (P ++ [a])) (hb3 : Below w.heap.size w w3) (hg3 : W.grownBy w3 vl.ownBlock) : EnInv w w3 r b L (P ++ [a]) (r1 ++ r2) v3 := by
  refine ⟨h3,?_,hb3,?_,h.2.2.2.2⟩
  · rw [show enM (r1 ++ r2) = enM r1 ++ enM r2 from List.map_append]
    exact (hr.below hW).grown hg3 (fun e => (h.1.1 b e.symm).2 rfl) (fun e => (h.1.1 r e.symm).1 rfl)
  refine List.Perm.trans ?_ h.2.2.2.1
  rw [hs,List.append_assoc]
  show (P ++ (a :: (r1 ++ r2))).Perm _
  exact List.Perm.append_left P List.perm_middle.symm
theorem HeldB.below {w W W' : World} {b : Nat} {M : List S58} (h : HeldB w W b M) (hb : Below W.heap.size W W') : HeldB w W' b M :=
  ⟨h.1.below hb,h.2.1,below_then h.2.2.1 h.2.2.1.size hb,h.2.2.2⟩
theorem HeldB.put {w W W' : World} {b : Nat} {M : List S58} {x : S58} {d : Int} (h : HeldB w W b M) (hd : x.f0 = d) (hm : IsMap W' b (Value.int .i64) (mput (enM M) d (.agg #[.int .i64 x.f0,.int .i64 x.f1,.float .f64 x.f2,.int .i64 x.f3,.float .f64 x.f4,.int .i64 x.f5]))) (hg : W.grownBy W' (some b)) (hk : KeptOk (enPut x M)) : HeldB w W' b (enPut x M) := by
  refine ⟨?_,hk,pw_below_grown h.2.2.1 _ h.2.2.1.size hg (fun k e => by cases e;exact h.2.2.2),h.2.2.2⟩
  subst hd
  rw [← mput_en]
  exact hm
theorem look_en (M : List S58) (d : Int) : ∃ (y : S58) (th : Bool),(mget (enM M) d).getD nilE = .agg #[.int .i64 y.f0,.int .i64 y.f1,.float .f64 y.f2,.int .i64 y.f3,.float .f64 y.f4,.int .i64 y.f5] ∧ (mget (enM M) d).isSome = th ∧ enGet d M = if th = true then some y else none := by
  rw [mget_en]
  cases h : enGet d M with
  | none => exact ⟨⟨0,0,0,0,0,0⟩,false,rfl,rfl,rfl⟩
  | some y => exact ⟨y,true,rfl,rfl,rfl⟩
theorem step_no {self : Int} {max : Nat} {frm : Int} {w : Nat} {M : List S58} {n : S56} (h : cntB self w n max = false) : stepB self max frm w M n = M := by
  unfold stepB
  rw [h]
  rfl
theorem step_put {self : Int} {max : Nat} {frm : Int} {w : Nat} {M : List S58} {n : S56} {y : S58} {th : Bool} (h : cntB self w n max = true) (hg : enGet n.f0 M = if th = true then some y else none) (hp : th = false ∨ (FloatKind.f64.format.order (knownE self frm w n max).f2 y.f2 == some .lt) = true) : stepB self max frm w M n = enPut (knownE self frm w n max) M := by
  unfold stepB addB
  rw [if_pos h,show (knownE self frm w n max).f0 = n.f0 from rfl,hg]
  cases th
  · rfl
  rw [if_pos rfl]
  rcases hp with hp | hp
  · cases hp
  show (if _ then _ else _) = _
  rw [if_pos hp]
theorem step_old {self : Int} {max : Nat} {frm : Int} {w : Nat} {M : List S58} {n : S56} {y : S58} (h : cntB self w n max = true) (hg : enGet n.f0 M = if true = true then some y else none) (hp : (FloatKind.f64.format.order (knownE self frm w n max).f2 y.f2 == some .lt) = false) : stepB self max frm w M n = M := by
  unfold stepB addB
  rw [if_pos h,show (knownE self frm w n max).f0 = n.f0 from rfl,hg,if_pos rfl]
  show (if _ then _ else _) = _
  rw [if_neg (by rw [hp];decide)]
set_option maxHeartbeats 4000000 in
set_option maxRecDepth 100000 in
theorem balls_good (self : Int) (A : Option Addr) (c : Nat) (l : List S54) (max : Nat) (w : World) (hr : Kd.C k54 w A l.length l) (hc : l.length ≤ c) (hw : HeardW l) (hl : l.length < 2305843009213693952) (hx : max < 18446744073709551616) (h0 : ckE self l = 0) (h1 : lE max = 0) :
    Calls Try.prog 9 #[.int .i64 self,.slice A l.length c,.float .f64 max] w fun e w' => ∃ v : Value,e = .returned (.tuple #[v,.int .i64 0]) ∧ Kd.R k58 58 w' w.heap.size (fun _ => True) v (sortE (allB self max l)) ∧ Below w.heap.size w w' := by
  have HR := Aside0.mk hr
  have HC := Aside0.mk hc
  have hck := prog_ck self l hw hl (2 * l.length + 3) (Nat.le_refl _)
  rw [h0] at hck
  have HCK := Aside0.mk hck
  have hli := (limit_all max hx).2.1
  rw [h1] at hli
  have HL := Aside0.mk hli
  have OK := Aside0.mk (okH_of hw h0)
  have hu52 := Try.underlying52
  have hu54 := Try.underlying54
  have hu56 := Try.underlying56
  have hu58 := Try.underlying58
  have LL := Aside0.mk hl
  have hmm := @run_makeMap Try.prog
  clear hr hc hw hck h0 h1 hli hx hl
  go_enter Try.func9,Try.ntmps9
  go_wp2_with (first | (go_at_call 17;refine (landdv_Check.calls _ self A c l 0 _ HR.out HC.out HCK.out).mono ?_;rintro e w2 ⟨rfl,hb⟩;have HB2 := Aside0.mk hb;clear hb) | (go_at_call 32;refine (metric_Limit.calls max 0 _ HL.out).mono ?_;rintro e w3 ⟨rfl,hb3⟩;have HB3 := Aside0.mk (show Below w.heap.size w w3 by obtain ⟨q,rfl⟩ := hb3;exact pw_below_drewN HB2.out _);clear hb3))
  obtain ⟨b,hbd⟩ : ∃ b,b = w3.heap.size := ⟨_,rfl⟩
  have I1 := Aside0.mk (heldB_made w w3 HB3.out)
  rw [← hbd] at I1 ⊢
  clear hbd hmm
  go_loopg [36] l.length (fun kq v36 wr => ∃ i : Nat,v36 = .int .i64 (i : Int) ∧ Aside0 (i + kq = l.length) ∧ Aside0 (HeldB w wr b (upTo self max l i)))
  case atStart => exact ⟨0,rfl,⟨Nat.zero_add _⟩,⟨by have := I1.out;exact this⟩⟩
  case round =>
    obtain ⟨i,rfl,HK,HI⟩ := hrel
    cases gk with
    | zero =>
      have c1 : decide (i < l.length) = false := decide_eq_false (by have := HK.out;omega)
      have hi : i = l.length := by have := HK.out;omega
      subst hi
      have HM := HI.out
      rw [upTo_all] at HM
      have HJ0 := Aside0.mk HM
      clear HI HM HK I1
      go_wp2_with (at_range;refine wp_range rfl (.tmp 83) 52 3 58 rfl hu52 rfl HJ0.out.1 ?_;intro w1 hrg hb hsz;have I1 := Aside0.mk (show EnInv w w1 wr.heap.size b (allB self max l) [] (allB self max l) (.slice none 0 0) from ⟨Kd.R_nil _ _ _ _ _,hrg,pw_below_grown HJ0.out.2.2.1 _ HJ0.out.2.2.1.size (grown_of_below hb none) (fun k e => by cases e),List.Perm.refl _,HJ0.out.2.2.1.size⟩);clear hrg hb hsz)
      obtain ⟨r,hr⟩ : ∃ r,r = wr.heap.size := ⟨_,rfl⟩
      have RR := Aside0.mk hr
      rw [← hr] at I1 ⊢
      clear hr
      go_frame
      go_loopg [19] (allB self max l).length (fun kq vl w4 => ∃ P rest,Aside0 (EnInv w w4 r b (allB self max l) P rest vl) ∧ rest.length = kq)
      case atStart => exact ⟨[],allB self max l,⟨by have := I1.out;exact this⟩,rfl⟩
      case round =>
        obtain ⟨P,rest,HJ,hk⟩ := hrel
        cases rest with
        | nil =>
          have hp : P.Perm (allB self max l) := by have := HJ.out.2.2.2.1;rwa [List.append_nil] at this
          have hle : P.length ≤ 2147483647 := by rw [hp.length_eq];exact HJ0.out.2.1.len
          have HP := Aside0.mk hp
          have HLE := Aside0.mk hle
          have HSM := Aside0.mk (show ∀ x ∈ P,SmallE x from fun x hx => HJ0.out.2.1.small x (hp.mem_iff.1 hx))
          obtain ⟨A',c',rfl⟩ := Kd.R_slice HJ.out.1
          clear hp hle
          go_wp2_with (first | (at_next;refine wp_next rfl (.tmp 84) rfl rfl HJ.out.2.1 (fun _ => ?_) (fun k v l1 l2 w' h1 => absurd h1 (by simp [enM]))) | (go_at_call 34;refine (sort_entries HJ.out.1 HJ.out.2.2.1.size HSM.out HP.out HJ0.out.2.1.1 (by have := HLE.out;omega)).mono ?_;rintro e w5 ⟨rfl,hb,hc⟩;have HB5 := Aside0.mk (HJ.out.2.2.1.trans hb);have HC5 := Aside0.mk hc;clear hb hc))
          refine bodyPost_ret (v := .tuple #[.slice A' P.length c',.int .i64 0]) (by simp [results,Try.results9,go_sem]) rfl ?_
          exact ⟨.slice A' (sortE (allB self max l)).length c',by rw [sortE_len,← HP.out.length_eq],Kd.R_mono HC5.out (fun _ _ => trivial),HB5.out⟩
        | cons a0 rest0 =>
          have NE : Aside0 (enM (a0 :: rest0) ≠ []) := ⟨by simp [enM]⟩
          have LN : Aside0 (P.length + (rest0.length + 1) ≤ 2147483647) := ⟨by have h1 := HJ.out.len;have h2 := HJ0.out.2.1.len;simp at h1;omega⟩
          go_wp2_with (first | (at_next;refine wp_next rfl (.tmp 84) rfl rfl HJ.out.2.1 (fun h0 => absurd h0 NE.out) ?_;intro k v l1 l2 w5 h1 hrg hg hsz hent;obtain ⟨r1,a,r2,hrs,rfl,rfl,rfl,rfl⟩ := en_split h1;simp only [enV] at hent;have RG := Aside0.mk hrg;have GG := Aside0.mk hg;have RS := Aside0.mk hrs;clear h1 hrg hg hsz hrs) | ((with_reducible refine gate_builtin (b := .append) (xs := #[.tmp 89,.tmp 91]) rfl ?_);refine stopHere ?_))
          refine Aside0.mk ?_
          at_builtin
          refine Kd.R_append k58 (w0 := w) w.heap.size rfl (.tmp 89) (.tmp 91) 24 58 (.agg #[(.int .i64 0),(.int .i64 0),(.float .f64 0),(.int .i64 0),(.float .f64 0),(.int .i64 0)]) 48 rfl Try.underlying24 info58 rfl (by decide) (by omega) u19 P a [.int .i64 a.f0,.int .i64 a.f1,.float .f64 a.f2,.int .i64 a.f3,.float .f64 a.f4,.int .i64 a.f5] (fun k => k ≠ r ∧ k ≠ b) (fun _ => False) rfl (by first | rfl | (simp [Act.eval,Act.put];done)) ?aP (fun _ hk => hk.elim) ?aF ?aO ?aB ?aS ?aL ?_
          (case aP => exact k58_mkM _ _ _ a)
          (case aF => exact (fun k hk => by have h1 := RG.out.lt;have h2 := ranging_ltb RG.out;simp at hk;exact ⟨by omega,by omega⟩))
          (case aO => exact (HJ.out.row GG.out (by repeat (first | exact Below.refl _ _ | apply below_alloc | apply pw_below_drewN | apply below_drew1 | refine below_set ?_ (by simp)))).1)
          (case aB => exact (HJ.out.row GG.out (by repeat (first | exact Below.refl _ _ | apply below_alloc | apply pw_below_drewN | apply below_drew1 | refine below_set ?_ (by simp)))).2)
          (case aS => exact (HJ.out.row GG.out (by repeat (first | exact Below.refl _ _ | apply below_alloc | apply pw_below_drewN | apply below_drew1 | refine below_set ?_ (by simp)))).2.size)
          (case aL => have := LN.out;omega)
          intro v5 w6 ho hb6 hg6 hat
          have I6 := Aside0.mk (HJ.out.step RS.out GG.out (by repeat (first | exact Below.refl _ _ | apply below_alloc | apply pw_below_drewN | apply below_drew1 | refine below_set ?_ (by simp))) RG.out ho hb6 hg6)
          clear ho hb6 hg6 hat
          go_wp2
          go_roundg (gk - 1)
          case measure => simp at hk;omega
          case rel => exact ⟨_,_,I6,by have := congrArg List.length RS.out;simp at this hk;simp;omega⟩
    | succ go =>
      have c1 : decide (i < l.length) = true := decide_eq_true (by have := HK.out;omega)
      have p1 : 0 ≤ (i : Int) := by omega
      have q1 : (i : Int) < (l.length : Int) := by have := HK.out;omega
      obtain ⟨ad,A2,c2,e2,x0,x1,x2,hl2,hi2⟩ := at_T54 HR.out i p1 q1
      simp only [Int.toNat_natCast] at x0 x1 x2
      have hat : rd_T54 l (i : Int) = l.getD i z54 := rdh l i
      have HB0 := Aside0.mk HI.out.2.2.1
      replace x0 := (HB0.out.cell (World.block_lt_of_cell? w _ x0)).trans x0
      replace x1 := (HB0.out.cell (World.block_lt_of_cell? w _ x1)).trans x1
      replace x2 := (HB0.out.cell (World.block_lt_of_cell? w _ x2)).trans x2
      have hne0 : ad.block ≠ wr.heap.size := by have := World.block_lt_of_cell? _ _ x0;rw [add_block] at this;omega
      subst e2
      have HL2 := Aside0.mk hl2
      have HI2 := Aside0.mk hi2
      clear hl2 hi2
      generalize hh : rd_T54 l (i : Int) = h at *
      have HH := Aside0.mk hh
      clear hh hat
      go_wp2
      obtain ⟨g,hg⟩ : ∃ g,g = wr.heap.size := ⟨_,rfl⟩
      rw [← hg]
      have HGE := Aside0.mk hg
      clear hg
      go_loopg [43] h.f2.length (fun kq v43 w5 => ∃ j : Nat,v43 = .int .i64 (j : Int) ∧ Aside0 (j + kq = h.f2.length) ∧ Aside0 (HeldB w w5 b (upToN self max h (upTo self max l i) j)) ∧ Aside0 (w5.heap[g]? = some (.cells #[.int .i64 h.f0,.float .f64 h.f1,.slice A2 h.f2.length c2] 54 (0,0))))
      case atStart =>
        rw [HGE.out]
        exact ⟨0,rfl,⟨Nat.zero_add _⟩,⟨HI.out.1.alloc _,HI.out.2.1,below_alloc HI.out.2.2.1 _,HI.out.2.2.2⟩,⟨al_new _ _⟩⟩
      case round =>
        obtain ⟨j,rfl,HKj,HIj,HGj⟩ := hrel
        cases gk with
        | zero =>
          have d2 : decide (j < h.f2.length) = false := decide_eq_false (by have := HKj.out;omega)
          have hj : j = h.f2.length := by have := HKj.out;omega
          subst hj
          have HM := HIj.out
          rw [upToN_all,← HH.out,rdh,List.getD_eq_getElem?_getD,List.getElem?_eq_getElem (by omega),Option.getD_some,← upTo_next self max l i (by omega)] at HM
          have HM2 := Aside0.mk HM
          have bl := LL.out
          clear HM
          go_wp2
          go_roundg go
          case measure => omega
          case rel => exact ⟨i + 1,by go_num,⟨by have := HK.out;omega⟩,HM2⟩
        | succ gk =>
          have jl : j < h.f2.length := by have := HKj.out;omega
          have d2 : decide (j < h.f2.length) = true := decide_eq_true jl
          have p2 : 0 ≤ (j : Int) := by omega
          have q2 : (j : Int) < (h.f2.length : Int) := by omega
          have hok := OK.out h (by rw [← HH.out,rdh,List.getD_eq_getElem?_getD,List.getElem?_eq_getElem (by omega),Option.getD_some];exact List.getElem_mem _)
          obtain ⟨ad2,e2,y0,y1,y2,y3,y4⟩ := at_T56 HI2.out (j : Int) p2 q2
          simp only [Int.toNat_natCast] at y0 y1 y2 y3 y4
          have HBj := Aside0.mk HIj.out.2.2.1
          replace y0 := (HBj.out.cell (World.block_lt_of_cell? w _ y0)).trans y0
          replace y1 := (HBj.out.cell (World.block_lt_of_cell? w _ y1)).trans y1
          replace y2 := (HBj.out.cell (World.block_lt_of_cell? w _ y2)).trans y2
          replace y3 := (HBj.out.cell (World.block_lt_of_cell? w _ y3)).trans y3
          replace y4 := (HBj.out.cell (World.block_lt_of_cell? w _ y4)).trans y4
          subst e2
          have hn0 : rd_T56 h.f2 (j : Int) = h.f2[j] := by rw [rdn,List.getD_eq_getElem?_getD,List.getElem?_eq_getElem jl,Option.getD_some]
          have hnum := hok.2.1 h.f2[j] (List.getElem_mem jl)
          have hstep := upToN_next self max h (upTo self max l i) j jl
          rw [hn0] at y0 y1 y2 y3 y4
          generalize h.f2[j] = n at *
          generalize upToN self max h (upTo self max l i) j = M at *
          have HST := Aside0.mk hstep
          have HKN := Aside0.mk (known_is self h.f0 h.f1 h.f2 n max hok.1 hnum.1)
          have HID := Aside0.mk hnum.2
          have bl := hok.2.2
          have BL := Aside0.mk bl
          clear hn0 hnum hstep hok
          obtain ⟨p,hp⟩ : ∃ p,p = wr.heap.size := ⟨_,rfl⟩
          obtain ⟨w6,hw6⟩ : ∃ w6,w6 = wr.alloc (.cells #[.int .i64 n.f0,.int .i64 n.f1,.float .f64 n.f2,.float .f64 n.f3,.int .i64 n.f4] 56) := ⟨_,rfl⟩
          have B6 : Below wr.heap.size wr w6 := by rw [hw6];exact below_alloc (Below.refl _ _) _
          have M6 := Aside0.mk (HIj.out.below B6)
          have G6 := Aside0.mk (blk_below HGj.out B6)
          have P6 : Aside0 (w6.heap[p]? = some (.cells #[.int .i64 n.f0,.int .i64 n.f1,.float .f64 n.f2,.float .f64 n.f3,.int .i64 n.f4] 56 (0,0))) := ⟨by rw [hw6,hp];exact al_new _ _⟩
          clear B6
          go_upto_region 14 with fail
          rw [← hw6,← hp]
          clear hw6 hp y0 y1 y2 y3 y4
          have g0 : w6.cell? ⟨g,0,none⟩ = some (.int .i64 h.f0) := (blk_cell G6.out 0).trans rfl
          have g1 : w6.cell? ⟨g,1,none⟩ = some (.float .f64 h.f1) := (blk_cell G6.out 1).trans rfl
          have g2 : w6.cell? ⟨g,2,none⟩ = some (.slice (some ad2) h.f2.length c2) := (blk_cell G6.out 2).trans rfl
          have n0 : w6.cell? ⟨p,0,none⟩ = some (.int .i64 n.f0) := (blk_cell P6.out 0).trans rfl
          have n1 : w6.cell? ⟨p,1,none⟩ = some (.int .i64 n.f1) := (blk_cell P6.out 1).trans rfl
          have n2 : w6.cell? ⟨p,2,none⟩ = some (.float .f64 n.f2) := (blk_cell P6.out 2).trans rfl
          have n3 : w6.cell? ⟨p,3,none⟩ = some (.float .f64 n.f3) := (blk_cell P6.out 3).trans rfl
          have n4 : w6.cell? ⟨p,4,none⟩ = some (.int .i64 n.f4) := (blk_cell P6.out 4).trans rfl
          by_cases hk : n.f1 = 2
          rotate_left
          · have ck : (n.f1 != 2) = true := bne_iff_ne.mpr hk
            have ST := Aside0.mk (step_no (frm := h.f0) (M := M) (n := n) (w := h.f1) (self := self) (max := max) (by unfold cntB;rw [beq_eq_false_iff_ne.mpr hk,Bool.false_and]))
            clear hk
            go_wp2
            go_roundg gk
            case measure => omega
            case rel => exact ⟨j + 1,by go_num,⟨by have := HKj.out;omega⟩,⟨by rw [HST.out,ST.out];exact M6.out⟩,G6⟩
          have ck : (n.f1 != 2) = false := by simp [hk]
          have CK := Aside0.mk hk
          clear hk
          obtain ⟨x,hx⟩ : ∃ x,x = knownE self h.f0 h.f1 n max := ⟨_,rfl⟩
          obtain ⟨cn,hcn⟩ : ∃ cn,cn = knownC self h.f1 n max := ⟨_,rfl⟩
          have HKX := HKN.out
          rw [← hx,← hcn] at HKX
          have HKX := Aside0.mk HKX
          have XX := Aside0.mk (And.intro hx hcn)
          have X0 : Aside0 (x.f0 = n.f0) := ⟨by rw [hx];rfl⟩
          clear hx hcn HKN
          go_upto_region 16 with (go_at_call 33;refine (scopedv_known.calls self h.f0 h.f1 (some ad2) c2 h.f2 n.f0 n.f1 n.f2 n.f3 n.f4 max _ _ _ _ _ _ cn _ (Kd.C_below HI2.out M6.out.2.2.1) HL2.out HKX.out).mono ?_;rintro e w7 ⟨rfl,hb7⟩;have M7 := Aside0.mk (M6.out.below hb7);have G7 := Aside0.mk (blk_below G6.out hb7);have P7 := Aside0.mk (blk_below P6.out hb7);clear hb7)
          obtain ⟨q,hq⟩ : ∃ q,q = w7.heap.size := ⟨_,rfl⟩
          obtain ⟨w8,hw8⟩ : ∃ w8,w8 = w7.alloc (.cells #[.int .i64 x.f0,.int .i64 x.f1,.float .f64 x.f2,.int .i64 x.f3,.float .f64 x.f4,.int .i64 x.f5] 58) := ⟨_,rfl⟩
          have B8 : Below w7.heap.size w7 w8 := by rw [hw8];exact below_alloc (Below.refl _ _) _
          have M8 := Aside0.mk (M7.out.below B8)
          have G8 := Aside0.mk (blk_below G7.out B8)
          have P8 := Aside0.mk (blk_below P7.out B8)
          have Q8 : Aside0 (w8.heap[q]? = some (.cells #[.int .i64 x.f0,.int .i64 x.f1,.float .f64 x.f2,.int .i64 x.f3,.float .f64 x.f4,.int .i64 x.f5] 58 (0,0))) := ⟨by rw [hw8,hq];exact al_new _ _⟩
          rw [← hw8,← hq]
          clear hw8 hq B8 g0 g1 g2 n0 n1 n2 n3 n4
          have n0 : w8.cell? ⟨p,0,none⟩ = some (.int .i64 n.f0) := (blk_cell P8.out 0).trans rfl
          obtain ⟨y,th,hT,hS,hG⟩ := look_en M n.f0
          have HT := Aside0.mk hT
          have HS := Aside0.mk hS
          have HG := Aside0.mk hG
          clear hT hS hG
          go_upto_region 17 with (at_lookup;refine wp_look rfl _ _ 52 3 58 rfl (key_int Try.underlying3) Try.underlying52 rfl n.f0 rfl M8.out.1 nilE (by kernel_rfl) ?_;rw [HT.out,HS.out])
          obtain ⟨s,hs⟩ : ∃ s,s = w8.heap.size := ⟨_,rfl⟩
          obtain ⟨w9,hw9⟩ : ∃ w9,w9 = w8.alloc (.cells #[.int .i64 y.f0,.int .i64 y.f1,.float .f64 y.f2,.int .i64 y.f3,.float .f64 y.f4,.int .i64 y.f5] 58) := ⟨_,rfl⟩
          have B9 : Below w8.heap.size w8 w9 := by rw [hw9];exact below_alloc (Below.refl _ _) _
          have M9 := Aside0.mk (M8.out.below B9)
          have G9 := Aside0.mk (blk_below G8.out B9)
          have P9 := Aside0.mk (blk_below P8.out B9)
          have Q9 := Aside0.mk (blk_below Q8.out B9)
          have S9 : Aside0 (w9.heap[s]? = some (.cells #[.int .i64 y.f0,.int .i64 y.f1,.float .f64 y.f2,.int .i64 y.f3,.float .f64 y.f4,.int .i64 y.f5] 58 (0,0))) := ⟨by rw [hw9,hs];exact al_new _ _⟩
          rw [← hw9,← hs]
          clear hw9 hs B9 n0
          have n0 : w9.cell? ⟨p,0,none⟩ = some (.int .i64 n.f0) := (blk_cell P9.out 0).trans rfl
          have k0 : w9.cell? ⟨q,0,none⟩ = some (.int .i64 x.f0) := (blk_cell Q9.out 0).trans rfl
          have k1 : w9.cell? ⟨q,1,none⟩ = some (.int .i64 x.f1) := (blk_cell Q9.out 1).trans rfl
          have k2 : w9.cell? ⟨q,2,none⟩ = some (.float .f64 x.f2) := (blk_cell Q9.out 2).trans rfl
          have k3 : w9.cell? ⟨q,3,none⟩ = some (.int .i64 x.f3) := (blk_cell Q9.out 3).trans rfl
          have k4 : w9.cell? ⟨q,4,none⟩ = some (.float .f64 x.f4) := (blk_cell Q9.out 4).trans rfl
          have k5 : w9.cell? ⟨q,5,none⟩ = some (.int .i64 x.f5) := (blk_cell Q9.out 5).trans rfl
          have s2 : w9.cell? ⟨s,2,none⟩ = some (.float .f64 y.f2) := (blk_cell S9.out 2).trans rfl
          cases cn with
          | false =>
            have ST := Aside0.mk (step_no (frm := h.f0) (M := M) (n := n) (w := h.f1) (self := self) (max := max) (by unfold cntB;rw [← XX.out.2,Bool.and_false]))
            go_wp2
            go_roundg gk
            case measure => omega
            case rel => exact ⟨j + 1,by go_num,⟨by have := HKj.out;omega⟩,⟨by rw [HST.out,ST.out];exact M9.out⟩,G9⟩
          | true =>
            have CT : Aside0 (cntB self h.f1 n max = true) := ⟨by unfold cntB;rw [← XX.out.2,CK.out];rfl⟩
            obtain ⟨lt,hlt⟩ : ∃ b,(FloatKind.f64.format.order x.f2 y.f2 == some .lt) = b := ⟨_,rfl⟩
            have HLT := Aside0.mk hlt
            by_cases hput : th = false ∨ lt = true
            · have ST : Aside0 (stepB self max h.f0 h.f1 M n = enPut x M) := ⟨by rw [XX.out.1];exact step_put CT.out HG.out (by rw [← XX.out.1,HLT.out];exact hput)⟩
              have KO : Aside0 (KeptOk (enPut x M)) := ⟨by rw [← ST.out];exact stepB_ok M9.out.2.1 HID.out⟩
              have hbn : g ≠ b := by rintro rfl;obtain ⟨es,ck,hb,_⟩ := M9.out.1;rw [G9.out] at hb;cases hb
              have GB := Aside0.mk hbn
              clear hbn
              cases th <;> cases lt <;> simp at hput <;> clear hput <;> (
                go_wp2_with (at_mapUpdate;refine wp_put rfl _ _ _ 52 3 58 rfl (key_int Try.underlying3) Try.underlying52 rfl n.f0 rfl (.agg #[.int .i64 x.f0,.int .i64 x.f1,.float .f64 x.f2,.int .i64 x.f3,.float .f64 x.f4,.int .i64 x.f5]) rfl M9.out.1 ?_;intro w10 hm hg10 hs10;have M10 := Aside0.mk (M9.out.put X0.out hm hg10 KO.out);have G10 := Aside0.mk ((hg10.block g (blk_lt G9.out) (fun e => GB.out (Option.some.inj e))).trans G9.out);clear hm hg10 hs10)
                go_roundg gk
                case measure => omega
                case rel => exact ⟨j + 1,by go_num,⟨by have := HKj.out;omega⟩,⟨by rw [HST.out,ST.out];exact M10.out⟩,G10⟩)
            obtain ⟨rfl,rfl⟩ : th = true ∧ lt = false := by cases th <;> cases lt <;> simp at hput ⊢
            have ST : Aside0 (stepB self max h.f0 h.f1 M n = M) := ⟨step_old CT.out HG.out (by rw [← XX.out.1,HLT.out])⟩
            clear hput
            go_wp2
            go_roundg gk
            case measure => omega
            case rel => exact ⟨j + 1,by go_num,⟨by have := HKj.out;omega⟩,⟨by rw [HST.out,ST.out];exact M9.out⟩,G9⟩
end Go.Proofs.Ytjcnmpkaiopihaa.PA
