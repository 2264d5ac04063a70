/- delta.diff, delta.Diff and landdv.list where the second list is nil. Condition: the first list is read. -/
import Derived.Test.YtjcnmpkaiopihaaZmMn
import Derived.Test.YtjcnmpkaiopihaaZmHb
import Derived.Test.YtjcnmpkaiopihaaZmPAx6
import Derived.Test.YtjcnmpkaiopihaaZmPAx24
namespace Go.Proofs.Ytjcnmpkaiopihaa.PA
open Go.RowKit Go.Proofs.YtjcnmpkaiopihaaW.PrintWords Go.Proofs.YtjcnmpkaiopihaaW.PrintLast Go.Proofs.YtjcnmpkaiopihaaW.PrintMore
set_option linter.unusedVariables false
set_option linter.unusedSimpArgs false
attribute [local go_sem] Oper.semAt_some
theorem both_calls (A : Option Addr) (n c : Nat) (w : World) : Calls Try.prog 138 #[.slice A n c,.slice none 0 0] w fun e w' =>
    e = .returned (.func (.func 154) #[] #[.pointer (some ⟨w.heap.size,0,none⟩),.pointer (some ⟨w.heap.size + 1,0,none⟩)]) ∧ w' = (w.alloc (.cells #[.slice A n c] 35)).alloc (.cells #[.slice none 0 0] 35) := by
  have hu35 := Try.underlying35
  go_enter Try.func138,Try.ntmps138
  go_wp2
  go_ret
  exact ⟨rfl,rfl⟩
theorem at56 {w : World} {A : Option Addr} {n : Nat} {xs : List S56} (h : Kd.C k56 w A n xs) (j : Nat) (hj : j < n) (a : S56) (ha : xs.getD j z56 = a) : ∃ ad,A = some ad ∧ w.cell? (ad.add (j * 5)) = some (.int .i64 a.f0) ∧ w.cell? ⟨(ad.add (j * 5)).block,(ad.add (j * 5)).off + 1,none⟩ = some (.int .i64 a.f1) ∧ w.cell? ⟨(ad.add (j * 5)).block,(ad.add (j * 5)).off + 2,none⟩ = some (.float .f64 a.f2) ∧ w.cell? ⟨(ad.add (j * 5)).block,(ad.add (j * 5)).off + 3,none⟩ = some (.float .f64 a.f3) ∧ w.cell? ⟨(ad.add (j * 5)).block,(ad.add (j * 5)).off + 4,none⟩ = some (.int .i64 a.f4) := by
  obtain ⟨ad,e,h0,h1,h2,h3,h4⟩ := at_T56 h (j : Int) (by omega) (by omega)
  simp only [rd_T56,Int.toNat_natCast,ha] at h0 h1 h2 h3 h4
  exact ⟨ad,e,h0,h1,h2,h3,h4⟩
def DiffI (w : World) (nn : Nat) (pre : List { k : Nat // k < nn }) (W : World) : Prop :=
  ∃ v xs,W.heap[w.heap.size]? = some (.cells #[v] 35 (0,0)) ∧ Kd.R k56 56 W w.heap.size (fun k => w.heap.size + 3 ≤ k) v xs ∧ xs.length = pre.length ∧ Below w.heap.size w W ∧ w.heap.size + 3 ≤ W.heap.size
theorem diffI_own (w : World) (nn B : Nat) (hB : w.heap.size < B) : OwnFrom B (DiffI w nn) := by
  rintro s X Y row ⟨v,xs,h1,h2,h3,h4,h5⟩ hg hr
  refine ⟨v,xs,blk_grown h1 hg (fun e => ?_),?_,h3,?_,Nat.le_trans h5 hg.size⟩
  · obtain ⟨_,o,ho,hc⟩ := hr _ e.symm
    rw [h1] at ho
    cases ho
    cases hc
  · refine Kd.R_grown2 h2 rfl hg (fun k hk hv => ?_)
    obtain ⟨_,o,ho,hc⟩ := hr _ hk
    obtain ⟨_,_,hq⟩ := (Kd.R_bound h2).1 k hv.symm
    obtain ⟨_,q,_,cells,hcl⟩ := hq
    rw [ho] at hcl
    cases hcl
    cases hc
  exact h4.grown hg h4.size (fun k hk => by have := (hr k hk).1;omega)
set_option maxHeartbeats 2000000 in
set_option maxRecDepth 100000 in
theorem diff_calls (A : Option Addr) (c : Nat) (xl : List S56) (w : World) (hr : Kd.C k56 w A xl.length xl) (hc : xl.length ≤ c) (hmax : xl.length * 40 ≤ 140737488355000) : Calls Try.prog 108 #[.slice A xl.length c,.slice none 0 0] w fun e w' => (∃ v,e = .returned v) ∧ Below w.heap.size w w' := by
  have hu35 := Try.underlying35
  have hu56 := Try.underlying56
  have HR := Aside0.mk hr
  refine (callsIn_wide (n := 5)).1 ?_
  refine callsIn_of_wp_marks Try.func108 rfl trivial ?_ rfl
  simp only [Try.ntmps108,List.size_toArray,List.length_cons,List.length_nil,Nat.reduceAdd,Nat.reduceSub,Array.replicate_succ,Array.replicate_zero,List.push_toArray,List.append_toArray,List.nil_append,List.cons_append]
  gi_wp2_with (refine ⟨trivial,?_⟩;gi_at_call 138;refine (callsIn_wide.2 (both_calls A xl.length c _)).mono ?_;rintro e w' ⟨rfl,rfl⟩)
  obtain ⟨w3,hw3⟩ : ∃ w3,w3 = (((w.alloc (.cells #[.slice none 0 0] 35)).alloc (.cells #[.slice A xl.length c] 35)).alloc (.cells #[.slice none 0 0] 35)) := ⟨_,rfl⟩
  have hs3 : w3.heap.size = w.heap.size + 3 := by rw [hw3];simp
  have hb0 : w3.heap[w.heap.size]? = some (.cells #[.slice none 0 0] 35 (0,0)) := by rw [hw3];exact blk_alloc (blk_alloc (blk_new w _) _) _
  have hb1 : w3.heap[w.heap.size + 1]? = some (.cells #[.slice A xl.length c] 35 (0,0)) := by
    rw [hw3]
    have := blk_alloc (blk_new (w.alloc (.cells #[.slice none 0 0] 35)) (.cells #[.slice A xl.length c] 35)) (.cells #[.slice none 0 0] 35)
    rwa [World.size_alloc] at this
  have hb2 : w3.heap[w.heap.size + 1 + 1]? = some (.cells #[.slice none 0 0] 35 (0,0)) := by
    rw [hw3]
    have := blk_new ((w.alloc (.cells #[.slice none 0 0] 35)).alloc (.cells #[.slice A xl.length c] 35)) (.cells #[.slice none 0 0] 35)
    rwa [World.size_alloc,World.size_alloc] at this
  have hbw : Below w.heap.size w w3 := by rw [hw3];exact below_alloc (below_alloc (below_alloc (Below.refl _ _) _) _) _
  rw [← hw3]
  obtain ⟨ad,had⟩ : ∃ ad,0 < xl.length → A = some ad := by
    by_cases h : 0 < xl.length
    · obtain ⟨ad,_,e,_⟩ := Kd.C_get HR.out z56 0 (by omega) (by omega)
      exact ⟨ad,fun _ => e⟩
    exact ⟨⟨0,0,none⟩,fun h' => (h h').elim⟩
  have HAD := Aside0.mk had
  clear had
  refine wpIn_rangeFunc_cell (gf := 154) (lb := #[.pointer (some ⟨w.heap.size + 1,0,none⟩),.pointer (some ⟨w.heap.size + 1 + 1,0,none⟩)]) rfl (fun args w => enters_ Try.func154 (by kernel_rfl) rfl args w) (encs := bothE ad xl.length) (N := xl.length) (ba := w.heap.size + 1)
    (Kp := fun X Y => Y.heap[w.heap.size + 1]? = X.heap[w.heap.size + 1]? ∧ Y.heap[w.heap.size + 1 + 1]? = X.heap[w.heap.size + 1 + 1]?) (by omega) (fun h k => ⟨k.1.trans h.1,k.2.trans h.2⟩)
    (fun W l o o' hl ho _ _ => ⟨World.putObj_heap_other (by omega),World.putObj_heap_other (by omega)⟩) ?seq (fun _ => rfl) (DiffI w xl.length) (diffI_own w xl.length _ (by omega)) ?hIa ⟨_,[],hb0,Kd.R_nil _ _ _ _ _,rfl,hbw,by omega⟩ (fun x => { tmps := #[.slice A xl.length c,.slice none 0 0,undef,undef,.slice none 0 0,.pointer (some ⟨w.heap.size,0,none⟩),.pointer (some (ad.add (x.1 * 5))),.pointer none,.slice A xl.length c,.slice none 0 0,.func (.func 154) #[] #[.pointer (some ⟨w.heap.size + 1,0,none⟩),.pointer (some ⟨w.heap.size + 1 + 1,0,none⟩)],.pointer (some (ad.add (x.1 * 5))),.pointer none,undef,undef,undef,undef,undef,undef,undef,undef,undef,undef,undef,undef,undef,undef,undef,undef,undef,undef,undef,undef,undef,undef,undef,undef,undef,undef,undef,undef,undef,undef,undef,undef,undef,undef,undef,undef],defers := [] }) ?assign ?body ?done
  case seq =>
    intro l J W hW hJ hJd hY hj
    exact both1_in 4 (w.heap.size + 1) (w.heap.size + 1 + 1) (by omega) ad xl.length c (by omega) l J W _ (fun X Y h => h) hJ hJd hY hj ⟨⟨A,c,blk_below hb1 hW,by omega,fun h => by rw [HAD.out h];rfl⟩,blk_below hb2 hW⟩
  case hIa =>
    rintro s X v ⟨v0,xs,h1,h2,h3,h4,h5⟩
    exact ⟨v0,xs,blk_far h1 (by show w.heap.size ≠ w.heap.size + 1;omega) v,Kd.R_grown2 h2 rfl (grownBy_setCell' X (w.heap.size + 1) v) (fun k hk hv => by cases hk;have := h2.1 _ hv.symm;omega),h3,h4.setCell (by show w.heap.size ≤ w.heap.size + 1;omega) _,by simpa using h5⟩
  case assign =>
    intro l x W K hK
    dsimp only [bothE]
    gi_wp2
    exact hK
  case body =>
    rintro l pre x W ⟨v,xs,hX,hRx,hlx,hbx,hsx⟩ hlen
    obtain ⟨k,hk⟩ := x
    obtain ⟨a,ha⟩ : ∃ a,xl.getD k z56 = a := ⟨_,rfl⟩
    obtain ⟨ad',e0,x0c,x1c,x2c,x3c,x4c⟩ := at56 HR.out k hk a ha
    obtain rfl : ad = ad' := Option.some.inj ((HAD.out (by omega)).symm.trans e0)
    obtain ⟨x0,hx0⟩ : ∃ x,a.f0 = x := ⟨_,rfl⟩
    obtain ⟨x1,hx1⟩ : ∃ x,a.f1 = x := ⟨_,rfl⟩
    rw [hx0] at x0c
    rw [hx1] at x1c
    have xa0 := (hbx.cell (World.block_lt_of_cell? w _ x0c)).trans x0c
    have xa1 := (hbx.cell (World.block_lt_of_cell? w _ x1c)).trans x1c
    have xlt0 : (ad.add (k * 5)).block < W.heap.size := World.block_lt_of_cell? _ _ xa0
    have vc0 : W.cell? ⟨w.heap.size,0,none⟩ = some v := (blk_cell hX 0).trans rfl
    have hX0 : ∀ q,(W.drewN q).heap[w.heap.size]? = some (.cells #[v] 35 (0,0)) := fun q => hX
    have HSX := Aside0.mk hsx
    have R0 : Aside0 (∀ q,Kd.R k56 56 (W.drewN q) w.heap.size (fun k => w.heap.size + 3 ≤ k) v xs) := ⟨fun q => Kd.R_drewN hRx q⟩
    have B0 : Aside0 (∀ q,Below w.heap.size w (W.drewN q)) := ⟨fun q => pw_below_drewN hbx q⟩
    have HM : Aside0 ((xs.length + 1) * 40 ≤ 140737488355328) := ⟨by have : pre.length < xl.length := hlen;omega⟩
    have OWN : Aside0 (v.ownBlock ≠ some w.heap.size) := ⟨fun e => by have := hRx.1 _ e;omega⟩
    have LEN := Aside0.mk hlx
    clear x0c x1c x2c x3c x4c hx0 hx1 hRx hbx hlx
    gi_wp2
    refine startIn_ (m := 14) (S := fun w' => w'.cell? ⟨w.heap.size,0,none⟩ = some v ∧ w'.cell? (ad.add (k * 5)) = some (.int .i64 x0) ∧ w'.cell? ⟨(ad.add (k * 5)).block,(ad.add (k * 5)).off + 1,none⟩ = some (.int .i64 x1)) (ds := [12,13]) _ _ #[false,false,false,false,false,false,false,false,false,false,false,false,false,false] (by kernel_rfl) rfl rfl (by kernel_rfl) (fun h => by obtain ⟨a0_,w0_,h0_⟩ := h;exact h0_) ⟨vc0,xa0,xa1⟩ (fun hHeld => ?_)
    refine manyD_ (fuel := 5) (a' := ?_) ((1,0) :: (2,0) :: (3,0) :: (5,0) :: (6,0) :: (7,0) :: (0,2) :: (4,2) :: (8,2) :: []) #[true,true,true,true,true,true,true,true,true,false,false,false,false,false] rfl (by kernel_rfl) (fun _ _ _ _ _ h => h) (fun _ => hHeld) ?_ ?_
    rotate_left
    · repeat (first | exact Chain.nil _ | (apply Chain.on;rfl;rfl;(focus intro w';go_simp;with_reducible rfl);(focus simp only [Act.put,List.setIfInBounds_toArray,List.set_cons_zero,List.set_cons_succ,i64_w,i32_w];rfl)) | (apply Chain.take;rfl;rfl;(focus rintro w' ⟨s0,s1,s2⟩;go_simp;with_reducible rfl);(focus simp only [Act.put,List.setIfInBounds_toArray,List.set_cons_zero,List.set_cons_succ,i64_w,i32_w];rfl)))
    refine one_ (i := 9) (N := some 25) #[true,true,true,true,true,true,true,true,true,true,false,false,false,false] rfl rfl (by kernel_rfl) (by decide) (fun K hK => ?_)
    refine goes_ Try.func40 (by kernel_rfl) rfl #[.int .i64 1] (by rfl) rfl rfl (by simp only [List.map_toArray,List.map_cons,List.map_nil];rfl) ?_
    with_reducible refine (math_Inf.calls 1 9218868437227405312 _ rfl).mono ?_
    rintro e w4 ⟨rfl,hd⟩
    refine ⟨_,rfl,?_⟩
    obtain ⟨q4,rfl⟩ := hd.out
    clear hd
    refine hK.out _ _ ⟨vc0,xa0,xa1⟩ (fun hHeld => ?_)
    clear hK K
    refine norm_ (a' := ?_) ?_ ?_
    rotate_left
    · show Act.put _ (some 25) _ = _
      simp only [Act.put,List.setIfInBounds_toArray,List.set_cons_zero,List.set_cons_succ,i64_w,i32_w]
      rfl
    refine manyD_ (fuel := 3) (a' := ?_) ((10,0) :: []) #[true,true,true,true,true,true,true,true,true,true,true,false,false,false] rfl (by kernel_rfl) (fun _ _ _ _ _ h => h) (fun h => absurd h (by decide)) ?_ ?_
    rotate_left
    · repeat (first | exact Chain.nil _ | (apply Chain.on;rfl;rfl;(focus intro w';go_simp;with_reducible rfl);(focus simp only [Act.put,List.setIfInBounds_toArray,List.set_cons_zero,List.set_cons_succ,i64_w,i32_w];rfl)))
    refine one_ (i := 11) (N := some 27) #[true,true,true,true,true,true,true,true,true,true,true,true,false,false] rfl rfl (by kernel_rfl) (by decide) (fun K hK => ?_)
    refine value_ (w1 := ?_) (v := ?_) (by rfl) rfl ?_ ?_
    rotate_left 2
    · go_simp
      constructor
      · rfl
      rfl
    refine hK.out _ _ ⟨((blk_cell (blk_alloc (hX0 (1 + q4)) (.cells #[.int .i64 x0,.int .i64 x1,.float .f64 9218868437227405312,.float .f64 0,.int .i64 0] 56)) 0).trans rfl),(World.cell?_alloc_lt _ _ _ (show _ < W.heap.size from xlt0)).trans xa0,(World.cell?_alloc_lt _ _ (⟨(ad.add (k * 5)).block,(ad.add (k * 5)).off + 1,none⟩ : Addr) (show _ < W.heap.size from xlt0)).trans xa1⟩ (fun hHeld => ?_)
    clear hK K
    refine norm_ (a' := ?_) ?_ ?_
    rotate_left
    · show Act.put _ (some 27) _ = _
      simp only [Act.put,List.setIfInBounds_toArray,List.set_cons_zero,List.set_cons_succ,i64_w,i32_w]
      rfl
    refine last_ (i := 12) (N := some 28) #[true,true,true,true,true,true,true,true,true,true,true,true,true,false] rfl rfl (by kernel_rfl) (by decide) (fun K hK => ?_)
    refine Kd.R_append_step k56 (w0 := w) w.heap.size (by rfl) (.tmp 16) (.tmp 27) 35 56 (.agg #[(.int .i64 0),(.int .i64 0),(.float .f64 0),(.float .f64 0),(.int .i64 0)]) 40 rfl Try.underlying35 info56 rfl (by decide) (by omega) v xs (⟨x0,x1,9218868437227405312,0,0⟩ : S56) [.int .i64 x0,.int .i64 x1,.float .f64 9218868437227405312,.float .f64 0,.int .i64 0] (fun k => w.heap.size + 3 ≤ k) (fun _ => False) rfl rfl (k56_mkM _ _ _ (⟨x0,x1,9218868437227405312,0,0⟩ : S56)) (fun _ hk => hk.elim) (fun k hk => Nat.le_trans (show w.heap.size + 3 ≤ W.heap.size from HSX.out) hk) (R0.out _) (B0.out _) (show w.heap.size ≤ W.heap.size by have := HSX.out;omega) HM.out ?_
    intro v5 w5 ho5 hbl5 hg5 hat5
    obtain ⟨A5,c5,rfl⟩ := Kd.R_slice ho5
    have X5 := Aside0.mk (blk_grown (hX0 (1 + q4)) hg5 (fun e => (OWN.out e.symm).elim))
    have K5 := Aside0.mk (And.intro hg5 hat5)
    have O5 := Aside0.mk (And.intro ho5 hbl5)
    clear hg5 hat5 ho5 hbl5
    have v50 := (blk_cell X5.out 0).trans rfl
    have v5z := blk_frozen X5.out 0
    refine hK.out _ _ ?_
    clear hK K
    refine norm_ (a' := ?_) ?_ ?_
    rotate_left
    · show Act.put _ (some 28) _ = _
      simp only [Act.put,List.setIfInBounds_toArray,List.set_cons_zero,List.set_cons_succ,i64_w,i32_w]
      rfl
    refine last_ (i := 13) (N := none) #[true,true,true,true,true,true,true,true,true,true,true,true,true,true] rfl rfl (by kernel_rfl) (by decide) (fun K hK => ?_)
    refine skip_ (w1 := ?_) (by rfl) rfl ?_ ?_
    rotate_left
    · go_simp
      rfl
    refine hK.out _ _ ?_
    clear hK K
    refine done_ (by kernel_rfl) ?_
    obtain ⟨hg5,hat5⟩ := K5.out
    obtain ⟨ho5,hbl5⟩ := O5.out
    have hcellsV : ∀ (j : Nat) (o : Obj),v.ownBlock = some j → (W.drewN (1 + q4)).heap[j]? = some o → o.isCells = true := by
      intro j o e ho
      obtain ⟨_,_,_,q,_,cells,hcl⟩ := (Kd.R_bound (R0.out (1 + q4))).1 j e
      rw [hcl] at ho
      cases ho
      rfl
    have hown3 : ∀ k,v.ownBlock = some k → w.heap.size + 3 ≤ k := fun k hk => (R0.out 0).1 k hk
    have hkeep : KeepsOthers W (w5.setCell ⟨w.heap.size,0,none⟩ (.slice A5 (xs.length + 1) c5)) :=
      (KeepsOthers.trans (show KeepsOthers W (W.drewN (1 + q4)) from ⟨Nat.le_refl _,fun _ _ h _ => h⟩) (KeepsOthers.of_grownBy hg5 hcellsV)).trans (KeepsOthers.setCell _ _ _)
    have hsz5 : w.heap.size + 3 ≤ w5.heap.size := Nat.le_trans HSX.out hg5.size
    have hblk : ∀ g,g < W.heap.size → g ≠ w.heap.size → g < w.heap.size + 3 → (w5.setCell ⟨w.heap.size,0,none⟩ (.slice A5 (xs.length + 1) c5)).heap[g]? = W.heap[g]? := by
      intro g hlt hne h3
      refine (Below.heap_setCell w5 ⟨w.heap.size,0,none⟩ _ g hne).trans ((hg5.block g hlt (fun e => ?_)).trans rfl)
      have := hown3 g e.symm
      omega
    have hsx' := HSX.out
    refine ⟨hkeep.from _,⟨hblk (w.heap.size + 1) (by omega) (by omega) (by omega),hblk (w.heap.size + 1 + 1) (by omega) (by omega) (by omega)⟩,?_⟩
    rw [show (xs ++ [(⟨x0,x1,9218868437227405312,0,0⟩ : S56)]).length = xs.length + 1 by simp] at ho5
    refine ⟨_,xs ++ [(⟨x0,x1,9218868437227405312,0,0⟩ : S56)],(blk_set X5.out 0 _).trans rfl,Kd.R_grown2 ho5 rfl (grownBy_setCell' w5 w.heap.size _) (fun k hk hv => ?_),by have := LEN.out;simp [this],hbl5.setCell (Nat.le_refl _) _,by simpa using hsz5⟩
    cases hk
    have := ho5.1 _ hv.symm
    omega
  case done =>
    rintro D ys W hD ⟨v,xs,hX,hRx,hlx,hbx,hsx⟩ hK
    have x0 := (blk_cell hX 0).trans rfl
    gi_wp2
    refine ⟨by simp,.inl ⟨_,_,rfl,run_takeDeferred hK,?_⟩⟩
    exact ⟨_,results_tmp rfl _ _ _,⟨_,rfl⟩,hbx.trans (belowK_b (w := w) (Nat.le_refl _) W D _ _ (by omega) hK rfl rfl)⟩
set_option maxHeartbeats 2000000 in
set_option maxRecDepth 100000 in
theorem list_any (k : Nat) (A0 : Option Addr) (c0 : Nat) (l0 : List S56) (r : Bool) (w : World) (hr0 : Kd.C k56 w A0 l0.length l0) (hc0 : l0.length ≤ c0) (h : delta_list.f k l0 = some r) (hm : l0.length * 40 ≤ 140737488355000) (hk : 2 ≤ k) :
    Calls Try.prog 51 #[.slice A0 l0.length c0] w fun e w' => e = .returned (.bool r) ∧ Below w.heap.size w w' := by
  have h2 : delta_list.f k [] = some true := by
    obtain ⟨q,rfl⟩ : ∃ q,k = q + 2 := ⟨k - 2,by omega⟩
    rfl
  have L1 : Aside0 (∀ W,Below w.heap.size w W → Calls Try.prog 107 #[.slice A0 l0.length c0] W fun e w' => e = .returned (.bool r) ∧ Below W.heap.size W w') := ⟨fun W hW => delta_list.calls k A0 c0 l0 r W (Kd.C_below hr0 hW) hc0 h⟩
  have L2 : Aside0 (∀ W,Calls Try.prog 107 #[.slice none 0 0] W fun e w' => e = .returned (.bool true) ∧ Below W.heap.size W w') := ⟨fun W => delta_list.calls k none 0 [] true W (Kd.C_nil k56 W) (Nat.le_refl _) h2⟩
  have DF : Aside0 (∀ W,Below w.heap.size w W → Calls Try.prog 108 #[.slice A0 l0.length c0,.slice none 0 0] W fun e w' => (∃ v,e = .returned v) ∧ Below W.heap.size W w') := ⟨fun W hW => diff_calls A0 c0 l0 W (Kd.C_below hr0 hW) hc0 hm⟩
  clear hr0 h h2
  have DD : Aside0 (∀ W,Below w.heap.size w W → Calls Try.prog 81 #[.slice A0 l0.length c0,.slice none 0 0] W fun e w' => (∃ v,e = .returned (.tuple #[v,.int .i64 (if r = true then 0 else 1)])) ∧ Below W.heap.size W w') := by
    refine ⟨fun W hW => ?_⟩
    have HW := Aside0.mk hW
    clear hW
    cases r
    · go_enter Try.func81,Try.ntmps81
      go_wp2_with (first | (go_at_call 107;refine (L1.out _ HW.out).mono ?_;rintro e w1 ⟨rfl,hb⟩;have B1 := Aside0.mk hb;clear hb))
      refine bodyPost_ret (results_tmp2 rfl _ _ _) rfl ?_
      exact ⟨⟨_,rfl⟩,B1.out⟩
    go_enter Try.func81,Try.ntmps81
    go_wp2_with (first | (go_at_call 107;(with_reducible refine (L1.out _ HW.out).mono ?_);rintro e w1 ⟨rfl,hb⟩;have B1 := Aside0.mk hb;clear hb) | (go_at_call 107;(with_reducible refine (L2.out _).mono ?_);rintro e w2 ⟨rfl,hb⟩;have B2 := Aside0.mk (below_then B1.out B1.out.size hb);clear hb) | (go_at_call 108;refine (DF.out _ (below_then HW.out HW.out.size B2.out)).mono ?_;rintro e w3 ⟨⟨v,rfl⟩,hb⟩;have B3 := Aside0.mk (below_then B2.out B2.out.size hb);clear hb))
    refine bodyPost_ret (results_tmp2 rfl _ _ _) rfl ?_
    exact ⟨⟨_,rfl⟩,B3.out⟩
  cases r
  · go_enter Try.func51,Try.ntmps51
    go_wp2_with (go_at_call 81;refine (DD.out _ (Below.refl _ _)).mono ?_;rintro e w1 ⟨⟨v,rfl⟩,hb⟩;have B1 := Aside0.mk hb;clear hb)
    go_ret
    exact ⟨rfl,B1.out⟩
  go_enter Try.func51,Try.ntmps51
  go_wp2_with (go_at_call 81;refine (DD.out _ (Below.refl _ _)).mono ?_;rintro e w1 ⟨⟨v,rfl⟩,hb⟩;have B1 := Aside0.mk hb;clear hb)
  go_ret
  exact ⟨rfl,B1.out⟩
end Go.Proofs.Ytjcnmpkaiopihaa.PA
