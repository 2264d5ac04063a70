/- slices.Delete of one piece of news, in a row of the call's own. Condition: the place is within the row. -/
import Derived.Test.YtblemmagkehanaaGreatZkMn
import Derived.Test.YtblemmagkehanaaGreatZkCi
namespace Go.Proofs.YtblemmagkehanaaGreat.PA
open Go.RowKit Go.Proofs.YtblemmagkehanaaGreatW.PrintWords Go.Proofs.YtblemmagkehanaaGreatW.PrintLast Go.Proofs.YtblemmagkehanaaGreatW.PrintMore
set_option linter.unusedVariables false
set_option linter.unusedSimpArgs false
theorem fl_take : ∀ (l : List S61) (m : Nat),(fl l).take (m * 5) = fl (l.take m)
  | [],m => by simp [fl]
  | x :: l,0 => by simp [fl]
  | x :: l,m + 1 => by
    rw [fl_cons,List.take_succ_cons,fl_cons,← fl_take l m,show (m + 1) * 5 = (enc5 x).length + m * 5 by simp [enc5];omega,List.take_length_add_append]
theorem fl_drop : ∀ (l : List S61) (m : Nat),(fl l).drop (m * 5) = fl (l.drop m)
  | [],m => by simp [fl]
  | x :: l,0 => by simp [fl]
  | x :: l,m + 1 => by
    rw [fl_cons,List.drop_succ_cons,← fl_drop l m,show (m + 1) * 5 = (enc5 x).length + m * 5 by simp [enc5];omega,List.drop_length_add_append]
theorem R_some {w : World} {base : Nat} {ok : Nat → Prop} {v : Value} {l : List S61} (h : Kd.R k61 61 w base ok v l) (hl : 0 < l.length) : ∃ g cap,v = .slice (some ⟨g,0,none⟩) l.length cap ∧ l.length ≤ cap ∧ cap ≤ maxLen := by
  obtain ⟨_,h1,h2⟩ := R_flat.1 h
  rcases h2 with ⟨_,h3⟩ | ⟨g,cap,cur,rfl,_,_,h4,h5,_⟩
  · omega
  exact ⟨g,cap,rfl,h4,h5⟩
set_option maxHeartbeats 4000000 in
set_option maxRecDepth 1000000 in
theorem delete_any {w : World} {base : Nat} {v : Value} {l : List S61} (h : Kd.R k61 61 w base (fun _ => True) v l) (i : Nat) (hi : i < l.length) :
    Calls Tryz.prog 61 #[v,.int .i64 i,.int .i64 ((i : Int) + 1)] w fun e w' => ∃ v',e = .returned v' ∧ Kd.R k61 61 w' base (fun _ => True) v' (l.take i ++ l.drop (i + 1)) ∧ w.grownBy w' v.ownBlock ∧ v'.ownBlock = v.ownBlock := by
  obtain ⟨g,cap,rfl,hcap,hmax⟩ := R_some h (by omega);obtain ⟨i0,hi0,hz0,hz1,hz2⟩ := info_parts info61;obtain ⟨_,hown⟩ := R_flat.1 h;have hmx : cap ≤ 9223372036854775807 := hmax;obtain ⟨n,hn⟩ : ∃ n,n = l.length := ⟨_,rfl⟩
  rw [← hn] at hi hcap hown ⊢;obtain ⟨A,hA,hsrc⟩ : ∃ A : Addr,(if cap = i + 1 then (some (⟨g,0,none⟩ : Addr)) else some ⟨g,(i + 1) * 5,none⟩) = some A ∧ Aside0 (∀ t u,(fl (l.drop (i + 1)))[t]? = some u → w.drew.cell? (A.add t) = some u) := by
    by_cases hc : cap = i + 1
    · refine ⟨⟨g,0,none⟩,by rw [if_pos hc],⟨fun t u hu => ?_⟩⟩
      rw [List.drop_eq_nil_of_le (by omega)] at hu
      cases hu
    refine ⟨⟨g,(i + 1) * 5,none⟩,by rw [if_neg hc],⟨fun t u hu => ?_⟩⟩;rw [← fl_drop] at hu;exact own_cell_at hown ((i + 1) * 5) t u hu
  have h1 : w.drew.ownsRow base 61 5 (.slice (some ⟨g,0,none⟩) i cap) i (fl (l.take i)) := by
    have := own_take hown i (by omega)
    rwa [fl_take] at this
  obtain ⟨w2,hrun,hown2,hg2⟩ := run_append_fits (P := Tryz.prog) w.drew base 29 29 61 i0 5 Tryz.underlying29 hi0 hz1 g i cap _ h1 A (n - (i + 1)) (cap - (i + 1)) (fl (l.drop (i + 1))) (by rw [fl_length,List.length_drop,← hn]) hsrc.out (fl_one _) (by omega);rw [← fl_append,show i + (n - (i + 1)) = n - 1 by omega] at hown2;rw [show i + (n - (i + 1)) = n - 1 by omega] at hrun;obtain ⟨cur,hb,hg,hnc,_,hcs,ht⟩ := own_cells hown2;have hzc : ∀ W,(zeroValue 61).run Tryz.prog W = .ok (.agg #[.int .i64 0,.int .i64 0,.float .f64 0,.float .f64 0,.int .i64 0]) W := fun W => by kernel_rfl
  have hzl : (Builtin.zeroCells (Value.agg #[.int .i64 0,.int .i64 0,.float .f64 0,.float .f64 0,.int .i64 0]).cells 1) = #[.int .i64 0,.int .i64 0,.float .f64 0,.float .f64 0,.int .i64 0] := by kernel_rfl
  have hcl := fun c => run_clear_rowN (P := Tryz.prog) w2 29 61 0 _ Tryz.underlying29 (hzc w2) g ((n - 1) * 5) 0 c cur 61 hg (by rw [hzl];intro u hu;simp at hu;rcases hu with rfl | rfl | rfl | rfl | rfl <;> rfl) (by rw [hzl,hcs];simp;omega)
  rw [hzl] at hcl;obtain ⟨w3,hw3⟩ : ∃ w3,w3 = w2.setRow g (cur.toList.take ((n - 1) * 5) ++ (#[Value.int .i64 0,.int .i64 0,.float .f64 0,.float .f64 0,.int .i64 0] : Array Value).toList ++ cur.toList.drop ((n - 1) * 5 + (#[Value.int .i64 0,.int .i64 0,.float .f64 0,.float .f64 0,.int .i64 0] : Array Value).toList.length)).toArray := ⟨_,rfl⟩
  rw [← hw3] at hcl;have hown3 : w3.ownsRow base 61 5 (.slice (some ⟨g,0,none⟩) (n - 1) cap) (n - 1) (fl (l.take i ++ l.drop (i + 1))) := by
    rw [hw3];refine own_written hown2 ((n - 1) * 5) _ (n - 1) _ (by omega) hg (by simp;omega) ?_;rw [List.append_assoc,List.take_append_of_le_length (by rw [List.length_take,Array.length_toList,hcs];omega),List.take_take,Nat.min_self,ht]
  have hg3 : w.grownBy w3 (some g) := by
    have h5 : w.grownBy w2 (some g) := (grown_of_below (below_drew (Below.refl _ _)) _).trans hg2;refine h5.trans ?_;rw [hw3];exact row_grown w2 g _
  have O3 := Aside0.mk hown3;have G3 := Aside0.mk hg3;have CL := Aside0.mk hcl;have LN : Aside0 ((l.take i ++ l.drop (i + 1)).length = n - 1) := ⟨by simp;omega⟩
  have RU := Aside0.mk hrun;have AA := Aside0.mk hA;clear h hown hsrc h1 hown2 hg2 hb hg hnc hcs ht hzc hzl hcl hw3 hown3 hg3 hrun hA hn;have e1 : ¬ cap = n - 1 := by omega
  go_enter Tryz.func61,Tryz.ntmps61
  go_wp2_with fail
  have hij : ((i : Int) == (i : Int) + 1) = false := by simp;omega
  have AB := AA.out;have hic : i ≤ cap := by omega
  have hz0i : (0 : Int) ≤ (i : Int) + 1 := by omega
  have hz1i : (i : Int) + 1 ≤ (n : Int) := by omega
  go_wp2_with fail
  go_cut [0] from 20 to 26 (fun s0 wx => s0 = .slice (some ⟨g,0,none⟩) (n - 1) cap ∧ wx = w2)
  case first =>
    · skip
      refine start_ (n := 8) (S := fun w' => True) (ds := []) #[false,false,false,false,false,false,false,false] (by kernel_rfl) rfl rfl trivial (fun hHeld => ?_);refine manyD_ (fuel := 2) (a' := ?_) ((0,0) :: (1,0) :: (2,0) :: (3,0) :: (4,0) :: (5,0) :: []) #[true,true,true,true,true,true,false,false] rfl (by kernel_rfl) (fun _ _ _ _ _ h => h) (fun h => absurd h (by decide)) ?_ ?_;rotate_left
      · repeat (first | exact Chain.nil _ | (apply Chain.on;rfl;rfl;(focus intro w';go_simp;with_reducible rfl);(focus simp only [Act.put,List.setIfInBounds_toArray,List.set_cons_zero,List.set_cons_succ,i64_w,i32_w];rfl)))
      refine one_ (i := 6) (N := some 26) #[true,true,true,true,true,true,true,false] rfl rfl (by kernel_rfl) (by decide) (fun K hK => ?_);refine value_ (w1 := w2) (v := .slice (some ⟨g,0,none⟩) (n - 1) cap) (by rfl) rfl ?_ ?_
      · have ru := RU.out
        simp [execOp,resolve,invoke,builtin,Act.eval,ru,Result.andThen]
      refine hK.out _ _ trivial (fun hHeld => ?_);clear hK K;refine norm_ (a' := ?_) ?_ ?_;rotate_left
      · show Act.put _ (some 26) _ = _
        simp only [Act.put,List.setIfInBounds_toArray,List.set_cons_zero,List.set_cons_succ,i64_w,i32_w];rfl
      refine manyD_ (fuel := 0) (a' := ?_) ((7,0) :: []) #[true,true,true,true,true,true,true,true] rfl (by kernel_rfl) (fun _ _ _ _ _ h => h) (fun h => absurd h (by decide)) ?_ ?_;rotate_left
      · repeat (first | exact Chain.nil _ | (apply Chain.on;rfl;rfl;(focus intro w';go_simp;with_reducible rfl);(focus simp only [Act.put,List.setIfInBounds_toArray,List.set_cons_zero,List.set_cons_succ,i64_w,i32_w];rfl)))
      refine done_ (by kernel_rfl) ?_
      go_wp2_with fail
      go_meet
      exact ⟨rfl,rfl⟩
  case rest =>
    obtain ⟨rfl,rfl⟩ := hcut;have e2 : n - (n - 1) = 0 + 1 := by omega
    have cl := CL.out;simp only [Nat.zero_add] at cl e2
    go_wp2_with fail
    go_ret;exact ⟨_,rfl,R_flat.2 ⟨fun _ _ => trivial,by rw [LN.out];exact O3.out⟩,G3.out,rfl⟩
end Go.Proofs.YtblemmagkehanaaGreat.PA
