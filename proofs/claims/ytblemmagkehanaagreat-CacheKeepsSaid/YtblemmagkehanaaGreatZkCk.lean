/- slices.Insert of one piece of news into a row of the call's own. Conditions: the place is within the row; the row fits in memory. -/
import Derived.Test.YtblemmagkehanaaGreatZkMn
import Derived.Test.YtblemmagkehanaaGreatZkCj
import Derived.Lib.Overlaps
import Derived.Lib.AppendZeros
import Derived.Lib.AppendZerosOnto
namespace Go.Proofs.YtblemmagkehanaaGreat.PA
open Go.RowKit Go.Proofs.YtblemmagkehanaaGreatW.PrintWords Go.Proofs.YtblemmagkehanaaGreatW.PrintLast Go.Proofs.YtblemmagkehanaaGreatW.PrintMore
set_option linter.unusedVariables false
set_option linter.unusedSimpArgs false
def InsOut (w : World) (base : Nat) (v : Value) (l : List S61) (i : Nat) (x : S61) (e : Ending) (w' : World) : Prop :=
  ∃ v',e = .returned v' ∧ Kd.R k61 61 w' base (fun _ => True) v' (l.take i ++ x :: l.drop i) ∧ w.grownBy w' v.ownBlock
theorem enc5_at {w : World} {vb : Nat} {x : S61} (h : w.heap[vb]? = some (.cells (enc5 x).toArray 61 (0,0))) (j : Nat) (u : Value) (hu : (enc5 x)[j]? = some u) : w.cell? ((⟨vb,0,none⟩ : Addr).add j) = some u := by
  have e1 : (⟨vb,0,none⟩ : Addr).add j = ⟨vb,j,none⟩ := by unfold Addr.add;split <;> simp_all
  rw [e1,blk_cell h,← Array.getElem?_toList];exact hu
theorem fl_one1 (x : S61) : fl [x] = enc5 x := by simp [fl]
theorem fl_ins (l : List S61) (i : Nat) (x : S61) : fl (l.take i ++ x :: l.drop i) = fl (l.take i) ++ enc5 x ++ fl (l.drop i) := by
  rw [fl_append,fl_cons,List.append_assoc]
set_option maxHeartbeats 2000000 in
set_option maxRecDepth 1000000 in
theorem insert_end {w : World} {base : Nat} {v : Value} {l : List S61} (h : Kd.R k61 61 w base (fun _ => True) v l) (hb : base ≤ w.heap.size) (x : S61) (vb : Nat) (hx : w.heap[vb]? = some (.cells (enc5 x).toArray 61 (0,0))) (hfit : l.length < 3518437208883) :
    Calls Tryz.prog 63 #[v,.int .i64 (l.length : Nat),.slice (some ⟨vb,0,none⟩) 1 1] w fun e w' => InsOut w base v l l.length x e w' := by
  obtain ⟨i0,hi0,hz0,hz1,hz2⟩ := info_parts info61;obtain ⟨_,hown⟩ := R_flat.1 h;obtain ⟨v',w',hrun,hown',hg,_⟩ := run_append_own (P := Tryz.prog) w base 29 29 61 i0 _ 5 40 Tryz.underlying29 hi0 hz0 hz1 hz2 (by rfl) (by decide) v l.length (fl l) hown ⟨vb,0,none⟩ 1 1 (enc5 x) rfl (enc5_at hx) (by rw [← fl_one1];exact fl_one _) (by unfold maxLen;omega) (by omega) hb;have OUT : Aside0 (InsOut w base v l l.length x (.returned v') w') := ⟨v',rfl,R_flat.2 ⟨fun _ _ => trivial,by
    rw [List.take_length,List.drop_length,fl_append,fl_one1,List.length_append];exact hown'⟩,hg⟩
  have RU := Aside0.mk hrun;have hmx : l.length ≤ 9223372036854775807 := by omega
  rcases hown.2 with ⟨rfl,hl0⟩ | ⟨g,cap,cur,rfl,_,_,hnc,hcm,_⟩
  · have hl : l = [] := List.eq_nil_of_length_eq_zero hl0
    subst hl;clear h hown hrun hown' hg hx;go_enter Tryz.func63,Tryz.ntmps63
    go_wp2_with (at_builtin;refine Lib.wpList_append_run _ rfl _ _ _ _ rfl _ _ rfl rfl _ _ RU.out ?_)
    go_ret;exact OUT.out
  have hcm' : cap ≤ 9223372036854775807 := hcm;clear h hown hrun hown' hg hx hcm;obtain ⟨n,hn⟩ : ∃ n,l.length = n := ⟨_,rfl⟩
  have ru2 := RU.out;have out2 := OUT.out;rw [hn] at ru2 out2 hnc hmx ⊢;clear RU OUT hn;have RU := Aside0.mk ru2;have OUT := Aside0.mk out2;clear ru2 out2;go_enter Tryz.func63,Tryz.ntmps63
  go_wp2_with (at_builtin;refine Lib.wpList_append_run _ rfl _ _ _ _ rfl _ _ rfl rfl _ _ RU.out ?_)
  all_goals (go_ret;exact OUT.out)
theorem zeros_size (z : Array Value) (k : Nat) : (Builtin.zeroCells z k).size = k * z.size := by simp [Builtin.zeroCells]
theorem take3 {α : Type} (a b c : List α) (m : Nat) (h : m = (a ++ b).length) : (a ++ b ++ c).take m = a ++ b := by rw [h,List.take_left]
theorem ins_cells (A B C : List Value) (cur : List Value) (i n : Nat) (hA : cur.take (i * 5) = A) (hAl : A.length = i * 5) (hB : B.length = 5) (hC : C.length = (n - i) * 5) (hi : i ≤ n) (hcur : (n + 1) * 5 ≤ cur.length) :
    let c1 := cur.take ((i + 1) * 5) ++ C ++ cur.drop ((i + 1) * 5 + C.length)
    let c2 := c1.take (i * 5) ++ B ++ c1.drop (i * 5 + B.length)
    c2.take ((n + 1) * 5) = A ++ B ++ C := by
  intro c1 c2;have e1 : c1.take (i * 5) = A := by
    show (cur.take ((i + 1) * 5) ++ C ++ cur.drop ((i + 1) * 5 + C.length)).take (i * 5) = A
    rw [List.append_assoc,List.take_append_of_le_length (by rw [List.length_take];omega),List.take_take,Nat.min_eq_left (by omega),hA]
  have e2 : c1.drop (i * 5 + B.length) = C ++ cur.drop ((i + 1) * 5 + C.length) := by
    show (cur.take ((i + 1) * 5) ++ C ++ cur.drop ((i + 1) * 5 + C.length)).drop (i * 5 + B.length) = _
    rw [List.append_assoc,List.drop_left' (by rw [List.length_take];omega)]
  show (c1.take (i * 5) ++ B ++ c1.drop (i * 5 + B.length)).take ((n + 1) * 5) = _
  rw [e1,e2,← List.append_assoc];exact take3 (A ++ B) C _ _ (by simp only [List.length_append];omega)
theorem ins_cells2 (A B C : List Value) (cur : List Value) (i n : Nat) (hA : cur.take (i * 5) = A) (hAl : A.length = i * 5) (hB : B.length = 5) (hC : C.length = (n - i) * 5) (hi : i ≤ n) (hcur : (n + 1) * 5 ≤ cur.length) :
    let c1 := cur.take (i * 5) ++ B ++ cur.drop (i * 5 + B.length)
    let c2 := c1.take ((i + 1) * 5) ++ C ++ c1.drop ((i + 1) * 5 + C.length)
    c2.take ((n + 1) * 5) = A ++ B ++ C := by
  intro c1 c2;have e1 : c1.take ((i + 1) * 5) = A ++ B := by
    show (cur.take (i * 5) ++ B ++ cur.drop (i * 5 + B.length)).take ((i + 1) * 5) = A ++ B
    rw [hA];exact take3 A B _ _ (by simp only [List.length_append];omega)
  show (c1.take ((i + 1) * 5) ++ C ++ c1.drop ((i + 1) * 5 + C.length)).take ((n + 1) * 5) = _
  rw [e1];exact take3 (A ++ B) C _ _ (by simp only [List.length_append];omega)
set_option maxHeartbeats 4000000 in
set_option maxRecDepth 1000000 in
theorem insert_room {w : World} {base g cap : Nat} {l : List S61} (h : Kd.R k61 61 w base (fun _ => True) (.slice (some ⟨g,0,none⟩) l.length cap) l) (i : Nat) (hi : i < l.length) (hroom : l.length + 1 ≤ cap) (x : S61) (vb : Nat) (hx : w.heap[vb]? = some (.cells (enc5 x).toArray 61 (0,0))) (hne : vb ≠ g) :
    Calls Tryz.prog 63 #[.slice (some ⟨g,0,none⟩) l.length cap,.int .i64 (i : Nat),.slice (some ⟨vb,0,none⟩) 1 1] w fun e w' => InsOut w base (.slice (some ⟨g,0,none⟩) l.length cap) l i x e w' := by
  obtain ⟨i0,hi0,hz0,hz1,hz2⟩ := info_parts info61;obtain ⟨_,hown⟩ := R_flat.1 h;have hsz : (Tryz.prog.info? 61).map (·.size) = some 5 := by rw [hi0];simp [hz1]
  obtain ⟨n,hn⟩ : ∃ n,l.length = n := ⟨_,rfl⟩
  have hdl : (fl (l.drop i)).length = (n - i) * 5 := by rw [fl_length,List.length_drop,hn]
  have hfl := fl_ins l i x;have hll : (l.take i ++ x :: l.drop i).length = n + 1 := by simp;omega
  rw [hn] at hown hi hroom ⊢;obtain ⟨cur,hb,hg,hnc,hcm,hcs,ht⟩ := own_cells hown;have hmx : cap ≤ 9223372036854775807 := hcm;have hg1 : w.drew.heap[g]? = some (.cells cur 61 (0,0)) := hg;have hc1 := fun ty dc sc => run_copy_rowN (P := Tryz.prog) w.drew 29 29 ty 61 5 g ((i + 1) * 5) (n - i) dc ⟨g,i * 5,none⟩ (n + 1 - i) sc cur 61 (fl (l.drop i)) (n - i) Tryz.underlying29 hsz hg1
    (by simp only [Nat.min_def];split <;> omega) hdl (fun j u hu => own_cell_at hown (i * 5) j u (by rw [fl_drop];exact hu)) (by rw [hdl,hcs];omega) (fl_one _)
  obtain ⟨w1,hw1⟩ : ∃ w1,w1 = w.drew.setRow g (cur.toList.take ((i + 1) * 5) ++ fl (l.drop i) ++ cur.toList.drop ((i + 1) * 5 + (fl (l.drop i)).length)).toArray := ⟨_,rfl⟩
  rw [← hw1] at hc1;have hg2 : w1.heap[g]? = some (.cells (cur.toList.take ((i + 1) * 5) ++ fl (l.drop i) ++ cur.toList.drop ((i + 1) * 5 + (fl (l.drop i)).length)).toArray 61 (0,0)) := by rw [hw1];exact setRow_heap w.drew g cur _ 61 _ hg1
  have hx1 : w1.heap[vb]? = some (.cells (enc5 x).toArray 61 (0,0)) := by rw [hw1];exact (setRow_other w.drew g vb _ hne).trans hx
  have h1c : ∀ u ∈ enc5 x,u.oneCell' = true := by rw [← fl_one1];exact fl_one _
  have hc1s : (cur.toList.take ((i + 1) * 5) ++ fl (l.drop i) ++ cur.toList.drop ((i + 1) * 5 + (fl (l.drop i)).length)).toArray.size = cap * 5 := by
    simp only [List.size_toArray,List.length_append,List.length_take,List.length_drop,Array.length_toList,hdl,hcs];omega
  have hc2 := fun ty dc => run_copy_rowN (P := Tryz.prog) w1 29 29 ty 61 5 g (i * 5) (n + 1 - i) dc ⟨vb,0,none⟩ 1 1 _ 61 (enc5 x) 1 Tryz.underlying29 hsz hg2
    (by simp only [Nat.min_def];split <;> omega) rfl (enc5_at hx1) (by rw [hc1s];simp [enc5];omega) h1c
  obtain ⟨w2,hw2⟩ : ∃ w2,w2 = w1.setRow g ((cur.toList.take ((i + 1) * 5) ++ fl (l.drop i) ++ cur.toList.drop ((i + 1) * 5 + (fl (l.drop i)).length)).toArray.toList.take (i * 5) ++ enc5 x ++ (cur.toList.take ((i + 1) * 5) ++ fl (l.drop i) ++ cur.toList.drop ((i + 1) * 5 + (fl (l.drop i)).length)).toArray.toList.drop (i * 5 + (enc5 x).length)).toArray := ⟨_,rfl⟩
  rw [← hw2] at hc2;have OUT : Aside0 (InsOut w base (.slice (some ⟨g,0,none⟩) n cap) l i x (.returned (.slice (some ⟨g,0,none⟩) (n + 1) cap)) w2) := ⟨_,rfl,R_flat.2 ⟨fun _ _ => trivial,by
    rw [hll,hfl,hw2];refine own_of hb (setRow_heap w1 g _ _ 61 _ hg2) hroom hcm ?_ ?_
    · have e5 : (enc5 x).length = 5 := rfl
      simp only [List.size_toArray,List.length_append,List.length_take,List.length_drop,List.toList_toArray,Array.length_toList,hdl,hcs,e5];omega
    · refine ins_cells (fl (l.take i)) (enc5 x) (fl (l.drop i)) cur.toList i n ?_ (by rw [fl_length,List.length_take];omega) rfl hdl (by omega) (by rw [Array.length_toList,hcs];omega)
      rw [← fl_take,← ht,List.take_take,Nat.min_eq_left (by omega)]⟩,by
    have g1 : w.grownBy w1 (some g) := by rw [hw1];exact (grown_of_below (below_drew (Below.refl _ _)) _).trans (row_grown _ _ _)
    refine g1.trans ?_;rw [hw2];exact row_grown _ _ _⟩
  have C1 := Aside0.mk hc1;have C2 := Aside0.mk hc2;have hov : ∀ lb cb,(callFunc 79 #[.slice (some ⟨vb,0,none⟩) 1 1,.slice (some ⟨g,(i + 1) * 5,none⟩) lb cb]).run Tryz.prog w = .ok (.value (.bool false)) w := fun lb cb => by
    rw [run_callFunc_extern Tryz.func79 (by kernel_rfl) (by kernel_rfl) (by kernel_rfl) (e := Extern.SlicesOverlaps.overlaps #[29,29] #[4]) (by kernel_rfl),
      Lib.run_overlaps_apart w 29 4 61 Tryz.underlying29 5 (fun W => by kernel_rfl) ⟨vb,0,none⟩ ⟨g,(i + 1) * 5,none⟩ 1 1 lb cb hne 61 61 5 (cap * 5) (by simp [World.shape?,hx,enc5]) (by simp [World.shape?,hg,hcs]) (by omega) (blk_frozen hx 0) (blk_frozen hx 5)]
    rfl
  clear h hown hdl hfl hll hb hg hcs ht hg1 hc1 hw1 hg2 hx1 h1c hc1s hc2 hw2 hx hn hsz hcm;have b1 : ¬ cap = i + 1 := by omega
  have b2 : ¬ cap = i := by omega
  have b3 : (i : Int) ≤ (n : Int) := by omega
  have b4 : ¬ (i : Int) = (n : Int) := by omega
  have b5 : (n : Int) + 1 ≤ (cap : Int) := by omega
  have b6 : (i : Int) + 1 ≤ (n : Int) + 1 := by omega
  have b7 : (i : Int) ≤ (n : Int) + 1 := by omega
  have b8 : wrap64 ((i : Int) + 1) = (i : Int) + 1 := w64n (by omega) (by omega);have b9 : (0 : Int) ≤ (i : Int) + 1 := by omega
  go_enter Tryz.func63,Tryz.ntmps63
  go_wp2_with (simp only [hov])
  go_cut [77] from 69 to 77 (fun s77 wx => wx = w1)
  case first =>
    · skip
      refine start_ (n := 9) (S := fun w' => True) (ds := []) #[false,false,false,false,false,false,false,false,false] (by kernel_rfl) rfl rfl trivial (fun hHeld => ?_);refine manyD_ (fuel := 1) (a' := ?_) ((0,0) :: (1,0) :: (2,0) :: (3,0) :: (4,0) :: (5,0) :: (6,0) :: (7,0) :: []) #[true,true,true,true,true,true,true,true,false] rfl (by kernel_rfl) (fun _ _ _ _ _ h => h) (fun h => absurd h (by decide)) ?_ ?_;rotate_left
      · repeat (first | exact Chain.nil _ | (apply Chain.on;rfl;rfl;(focus intro w';go_simp;with_reducible rfl);(focus simp only [Act.put,List.setIfInBounds_toArray,List.set_cons_zero,List.set_cons_succ,i64_w,i32_w];rfl)))
      refine one_ (i := 8) (N := some 77) #[true,true,true,true,true,true,true,true,true] rfl rfl (by kernel_rfl) (by decide) (fun K hK => ?_);refine value_ (w1 := w1) (v := goInt (n - i : Nat)) (by rfl) rfl ?_ ?_
      · have c1 := C1.out
        simp [execOp,resolve,invoke,builtin,Act.eval,c1,Result.andThen]
      refine hK.out _ _ trivial (fun hHeld => ?_);clear hK K;refine norm_ (a' := ?_) ?_ ?_;rotate_left
      · show Act.put _ (some 77) _ = _
        simp only [Act.put,List.setIfInBounds_toArray,List.set_cons_zero,List.set_cons_succ,i64_w,i32_w];rfl
      refine done_ (by kernel_rfl) ?_
      go_wp2_with fail
      go_meet
      exact rfl
  case rest =>
    obtain rfl := hcut
    go_wp2_with ((with_reducible refine gate_builtin (b := .copy) (xs := #[.tmp 80,.tmp 81]) rfl ?_);refine Kd.event_run (w1 := w2) (v := goInt 1) rfl (by have c2 := C2.out;simp [execOp,resolve,invoke,builtin,Act.eval,c2,Result.andThen]) ?_)
    go_ret;exact OUT.out
set_option maxHeartbeats 4000000 in
set_option maxRecDepth 1000000 in
theorem insert_grow {w : World} {base g cap : Nat} {l : List S61} (h : Kd.R k61 61 w base (fun _ => True) (.slice (some ⟨g,0,none⟩) l.length cap) l) (hbw : base ≤ w.heap.size) (i : Nat) (hi : i < l.length) (hroom : cap < l.length + 1) (x : S61) (vb : Nat) (hx : w.heap[vb]? = some (.cells (enc5 x).toArray 61 (0,0))) (hfit : l.length < 3518437208883) :
    Calls Tryz.prog 63 #[.slice (some ⟨g,0,none⟩) l.length cap,.int .i64 (i : Nat),.slice (some ⟨vb,0,none⟩) 1 1] w fun e w' => InsOut w base (.slice (some ⟨g,0,none⟩) l.length cap) l i x e w' := by
  obtain ⟨i0,hi0,hz0,hz1,hz2⟩ := info_parts info61;obtain ⟨_,hown⟩ := R_flat.1 h;have hsz : (Tryz.prog.info? 61).map (·.size) = some 5 := by rw [hi0];simp [hz1]
  obtain ⟨n,hn⟩ : ∃ n,l.length = n := ⟨_,rfl⟩
  have hdl : (fl (l.drop i)).length = (n - i) * 5 := by rw [fl_length,List.length_drop,hn]
  have hal : (fl (l.take i)).length = i * 5 := by rw [fl_length,List.length_take];omega
  have hfl := fl_ins l i x;have hll : (l.take i ++ x :: l.drop i).length = n + 1 := by simp;omega
  have h1c : ∀ u ∈ enc5 x,u.oneCell' = true := by rw [← fl_one1];exact fl_one _
  have hxl := blk_lt hx;rw [hn] at hown hi hroom hfit ⊢;obtain ⟨cur,hb,hg,hnc,hcm,hcs,ht⟩ := own_cells hown;have hgl := blk_lt hg;have hmx : cap ≤ 9223372036854775807 := hcm;have hown1 := own_take hown i (by omega);rw [fl_take] at hown1;have hold : (Builtin.firstCells i0.size i (.slice (some ⟨g,0,none⟩) i cap)).run Tryz.prog w.drew = .ok (fl (l.take i)).toArray w.drew := by
    rw [hz1];exact run_firstCells_some w.drew 5 i ⟨g,0,none⟩ i cap (fl (l.take i)) hal (fun j u hu => own_cell_at hown1 0 j u (by simpa using hu))
  have hrz := fun ty => Lib.run_append_grow_zeros w 29 3 ty 61 i0 _ .i64 .i64 Tryz.underlying29 Tryz.underlying3 hi0 hz0 (some ⟨g,0,none⟩) i cap _ hold (n + 1 - i) (by omega) (by omega) (by omega) (by omega) (by rw [hz2];omega) (by rw [hz2,show i + (n + 1 - i) = n + 1 by omega];exact growslice_fits hroom (by omega))
  simp only [show i + (n + 1 - i) = n + 1 by omega] at hrz;obtain ⟨G,hG⟩ : ∃ G,G = grownCap w (n + 1) cap 61 := ⟨_,rfl⟩
  rw [← hG] at hrz;have hGn : n + 1 ≤ G := by rw [hG];exact grownCap_ge w _ _ _
  have hGm : G ≤ maxLen := by rw [hG];exact grownCap_le_maxLen w _ _ _ (by unfold maxLen;omega)
  obtain ⟨ROW,hROW⟩ : ∃ ROW : Array Value,ROW = (fl (l.take i)).toArray ++ Builtin.zeroCells (Value.agg #[Value.int IntKind.i64 0,Value.int IntKind.i64 0,Value.float FloatKind.f64 0,Value.float FloatKind.f64 0,Value.int IntKind.i64 0]).cells (n + 1 - i) ++ Builtin.zeroCells (Value.agg #[Value.int IntKind.i64 0,Value.int IntKind.i64 0,Value.float FloatKind.f64 0,Value.float FloatKind.f64 0,Value.int IntKind.i64 0]).cells (G - (n + 1)) := ⟨_,rfl⟩
  rw [← hROW] at hrz;have hRs : ROW.size = G * 5 := by
    rw [hROW];have e5 : (Value.agg #[Value.int IntKind.i64 0,Value.int IntKind.i64 0,Value.float FloatKind.f64 0,Value.float FloatKind.f64 0,Value.int IntKind.i64 0]).cells.size = 5 := rfl;simp only [Array.size_append,zeros_size,e5,List.size_toArray,hal];omega
  have hRt : ROW.toList.take (i * 5) = fl (l.take i) := by
    rw [hROW];simp only [Array.toList_append,List.append_assoc];rw [← hal,List.take_left]
  obtain ⟨W1,hW1⟩ : ∃ W1,W1 = w.drew.alloc (.cells ROW 61) := ⟨_,rfl⟩
  rw [← hW1] at hrz;have hgN : W1.heap[w.heap.size]? = some (.cells ROW 61 (0,0)) := by rw [hW1];exact blk_new w.drew _
  have hB1 : Below w.heap.size w W1 := by rw [hW1];exact below_alloc (below_drew (Below.refl _ _)) _
  have hc1 := fun ty dc => run_copy_rowN (P := Tryz.prog) W1 29 29 ty 61 5 w.heap.size (i * 5) (n + 1 - i) dc ⟨vb,0,none⟩ 1 1 ROW 61 (enc5 x) 1 Tryz.underlying29 hsz hgN
    (by simp only [Nat.min_def];split <;> omega) rfl (enc5_at ((hB1.block vb hxl).trans hx)) (by rw [hRs];simp [enc5];omega) h1c
  obtain ⟨w1,hw1⟩ : ∃ w1,w1 = W1.setRow w.heap.size (ROW.toList.take (i * 5) ++ enc5 x ++ ROW.toList.drop (i * 5 + (enc5 x).length)).toArray := ⟨_,rfl⟩
  rw [← hw1] at hc1;have hgN1 : w1.drew.heap[w.heap.size]? = some (.cells (ROW.toList.take (i * 5) ++ enc5 x ++ ROW.toList.drop (i * 5 + (enc5 x).length)).toArray 61 (0,0)) := by rw [hw1];exact setRow_heap W1 w.heap.size _ _ 61 _ hgN
  have hB2 : Below w.heap.size w w1.drew := below_drew1 (by rw [hw1];exact pw_below_grown hB1 (some w.heap.size) hB1.size (row_grown W1 w.heap.size _) (fun k e => by cases e;exact Nat.le_refl _));have hs1 : (ROW.toList.take (i * 5) ++ enc5 x ++ ROW.toList.drop (i * 5 + (enc5 x).length)).toArray.size = G * 5 := by
    have e5 : (enc5 x).length = 5 := rfl;simp only [List.size_toArray,List.length_append,List.length_take,List.length_drop,Array.length_toList,hRs,e5];omega
  have hc2 := fun ty dc sc => run_copy_rowN (P := Tryz.prog) w1.drew 29 29 ty 61 5 w.heap.size ((i + 1) * 5) (n - i) dc ⟨g,i * 5,none⟩ (n - i) sc _ 61 (fl (l.drop i)) (n - i) Tryz.underlying29 hsz hgN1
    (by simp only [Nat.min_def];split <;> omega) hdl (fun j u hu => pw_cell_below hB2 (own_cell_at hown (i * 5) j u (by rw [fl_drop];exact hu))) (by rw [hdl,hs1];omega) (fl_one _)
  obtain ⟨w2,hw2⟩ : ∃ w2,w2 = w1.drew.setRow w.heap.size ((ROW.toList.take (i * 5) ++ enc5 x ++ ROW.toList.drop (i * 5 + (enc5 x).length)).toArray.toList.take ((i + 1) * 5) ++ fl (l.drop i) ++ (ROW.toList.take (i * 5) ++ enc5 x ++ ROW.toList.drop (i * 5 + (enc5 x).length)).toArray.toList.drop ((i + 1) * 5 + (fl (l.drop i)).length)).toArray := ⟨_,rfl⟩
  rw [← hw2] at hc2;have OUT : Aside0 (InsOut w base (.slice (some ⟨g,0,none⟩) n cap) l i x (.returned (.slice (some ⟨w.heap.size,0,none⟩) (n + 1) G)) w2) := ⟨_,rfl,R_flat.2 ⟨fun _ _ => trivial,by
    rw [hll,hfl,hw2];refine own_of hbw (setRow_heap w1.drew w.heap.size _ _ 61 _ hgN1) hGn hGm ?_ ?_
    · have e5 : (enc5 x).length = 5 := rfl
      simp only [List.size_toArray,List.length_append,List.length_take,List.length_drop,List.toList_toArray,Array.length_toList,hdl,hRs,e5];omega
    · exact ins_cells2 (fl (l.take i)) (enc5 x) (fl (l.drop i)) ROW.toList i n hRt hal rfl hdl (by omega) (by rw [Array.length_toList,hRs];omega)⟩,by
    refine grown_of_below ?_ _;rw [hw2];exact pw_below_grown hB2 (some w.heap.size) hB2.size (row_grown w1.drew w.heap.size _) (fun k e => by cases e;exact Nat.le_refl _)⟩
  have RZ := Aside0.mk hrz;have C1 := Aside0.mk hc1;have C2 := Aside0.mk hc2;have hGm' : G ≤ 9223372036854775807 := hGm;clear h hown hdl hal hfl hll hb hg hcs ht hown1 hold hrz hG hROW hRs hRt hW1 hgN hB1 hc1 hw1 hgN1 hB2 hs1 hc2 hw2 hx hn hsz hcm h1c hGm hxl hgl;have b1 : ¬ G = i + 1 := by omega
  have b2 : ¬ G = i := by omega
  have b2' : ¬ cap = i := by omega
  have b3 : (i : Int) ≤ (n : Int) := by omega
  have b4 : ¬ (i : Int) = (n : Int) := by omega
  have b5 : ¬ (n : Int) + 1 ≤ (cap : Int) := by omega
  have b5' : (cap : Int) < (n : Int) + 1 := by omega
  have b6 : (i : Int) + 1 ≤ (n : Int) + 1 := by omega
  have b7 : (i : Int) ≤ (n : Int) + 1 := by omega
  have b8 : wrap64 ((i : Int) + 1) = (i : Int) + 1 := w64n (by omega) (by omega);have b9 : (0 : Int) ≤ (i : Int) + 1 := by omega
  have b10 : (n : Int) + 1 - (i : Int) = ((n + 1 - i : Nat) : Int) := by omega
  have hic : i ≤ cap := by omega
  go_enter Tryz.func63,Tryz.ntmps63
  go_wp2_with (first | (at_builtin;refine Lib.wpList_append_run _ rfl _ _ _ _ rfl _ _ rfl rfl _ _ (RZ.out _) ?_) | ((with_reducible refine gate_builtin (b := .copy) (xs := #[.tmp 43,.tmp 44]) rfl ?_);refine Kd.event_run (w1 := w1) (v := goInt 1) rfl (by have c1 := C1.out;simp [execOp,resolve,invoke,builtin,Act.eval,c1,Result.andThen]) ?_))
  go_cut [54] from 46 to 54 (fun s54 wx => wx = w2)
  case first =>
    · skip
      refine start_ (n := 9) (S := fun w' => True) (ds := []) #[false,false,false,false,false,false,false,false,false] (by kernel_rfl) rfl rfl trivial (fun hHeld => ?_);refine manyD_ (fuel := 1) (a' := ?_) ((0,0) :: (1,0) :: (2,0) :: (3,0) :: (4,0) :: (5,0) :: (6,0) :: (7,0) :: []) #[true,true,true,true,true,true,true,true,false] rfl (by kernel_rfl) (fun _ _ _ _ _ h => h) (fun h => absurd h (by decide)) ?_ ?_;rotate_left
      · repeat (first | exact Chain.nil _ | (apply Chain.on;rfl;rfl;(focus intro w';go_simp;with_reducible rfl);(focus simp only [Act.put,List.setIfInBounds_toArray,List.set_cons_zero,List.set_cons_succ,i64_w,i32_w];rfl)))
      refine one_ (i := 8) (N := some 54) #[true,true,true,true,true,true,true,true,true] rfl rfl (by kernel_rfl) (by decide) (fun K hK => ?_);refine value_ (w1 := w2) (v := goInt (n - i : Nat)) (by rfl) rfl ?_ ?_
      · have c2 := C2.out
        simp [execOp,resolve,invoke,builtin,Act.eval,c2,Result.andThen]
      refine hK.out _ _ trivial (fun hHeld => ?_);clear hK K;refine norm_ (a' := ?_) ?_ ?_;rotate_left
      · show Act.put _ (some 54) _ = _
        simp only [Act.put,List.setIfInBounds_toArray,List.set_cons_zero,List.set_cons_succ,i64_w,i32_w];rfl
      refine done_ (by kernel_rfl) ?_
      go_wp2_with fail
      go_meet
      exact rfl
  case rest =>
    obtain rfl := hcut
    go_wp2_with fail
    go_ret;exact OUT.out
theorem insert_any {w : World} {base : Nat} {v : Value} {l : List S61} (h : Kd.R k61 61 w base (fun _ => True) v l) (hb : base ≤ w.heap.size) (i : Nat) (hi : i ≤ l.length) (x : S61) (vb : Nat) (hx : w.heap[vb]? = some (.cells (enc5 x).toArray 61 (0,0))) (hne : ∀ k,v.ownBlock = some k → vb ≠ k) (hfit : l.length < 3518437208883) :
    Calls Tryz.prog 63 #[v,.int .i64 (i : Nat),.slice (some ⟨vb,0,none⟩) 1 1] w fun e w' => InsOut w base v l i x e w' := by
  rcases Nat.lt_or_ge i l.length with h1 | h1
  · obtain ⟨g,cap,rfl,hcap,hmax⟩ := R_some h (by omega)
    by_cases h2 : l.length + 1 ≤ cap
    · exact insert_room h i h1 h2 x vb hx (hne g rfl)
    exact insert_grow h hb i h1 (by omega) x vb hx hfit
  obtain rfl : i = l.length := by omega
  exact insert_end h hb x vb hx hfit
end Go.Proofs.YtblemmagkehanaaGreat.PA
