/- cache.merge: a list behind news, and how many destinations changed. Conditions: those that each theorem names. -/
import Derived.Test.YtblemmagkehanaaGreatZkMn
import Derived.Test.YtblemmagkehanaaGreatZkCk
import Derived.Test.YtblemmagkehanaaGreatZkCn
namespace Go.Proofs.YtblemmagkehanaaGreat.PA
open Go.RowKit Go.Proofs.YtblemmagkehanaaGreatW.PrintWords Go.Proofs.YtblemmagkehanaaGreatW.PrintLast Go.Proofs.YtblemmagkehanaaGreatW.PrintMore
set_option linter.unusedVariables false
set_option linter.unusedSimpArgs false
def sameB (a b : S61) : Bool := a.f0 == b.f0 && (a.f1 == b.f1 && (a.f4 == b.f4 && (a.f2 == b.f2 && a.f3 == b.f3)))
theorem same_f (a b : S61) : cache_same.f a.f0 a.f1 a.f2 a.f3 a.f4 b.f0 b.f1 b.f2 b.f3 b.f4 = some (sameB a b) := by
  unfold cache_same.f sameB;have e2 : ((a.f2 : Int) = (b.f2 : Int)) ↔ a.f2 = b.f2 := by omega
  have e3 : ((a.f3 : Int) == (b.f3 : Int)) = (a.f3 == b.f3) := by rw [Bool.eq_iff_iff];simp;omega
  rw [e3]
  by_cases h0 : a.f0 = b.f0 <;> by_cases h1 : a.f1 = b.f1 <;> by_cases h4 : a.f4 = b.f4 <;> by_cases h2 : a.f2 = b.f2 <;> simp [h0,h1,h4,h2,e2]
theorem inf_f (a : Nat) : math_IsInf.f a 1 = some (infB a) := rfl
def stepL (out : List S61) (n : S61) : List S61 :=
  if hasN n out = true then (if infB n.f2 = true then out.take (posN n out) ++ out.drop (posN n out + 1) else if sameB (out.getD (posN n out) z61) n = true then out else out.set (posN n out) n)
  else if infB n.f2 = true then out else out.take (posN n out) ++ n :: out.drop (posN n out)
def stepC (out : List S61) (n : S61) : Nat :=
  if hasN n out = true then (if infB n.f2 = true then 1 else if sameB (out.getD (posN n out) z61) n = true then 0 else 1)
  else if infB n.f2 = true then 0 else 1
def outAt (l news : List S61) (j : Nat) : List S61 := (news.take j).foldl stepL l
def cntAt (l news : List S61) : Nat → Nat
  | 0 => 0
  | j + 1 => cntAt l news j + stepC (outAt l news j) (news.getD j z61)
theorem outAt_next (l news : List S61) (j : Nat) (h : j < news.length) : outAt l news (j + 1) = stepL (outAt l news j) (news.getD j z61) := by
  unfold outAt;rw [List.take_succ_eq_append_getElem h,List.foldl_append]
  simp [List.getD_eq_getElem?_getD,h]
theorem stepC_le (out : List S61) (n : S61) : stepC out n ≤ 1 := by
  unfold stepC
  split <;> split <;> first | omega | (split <;> omega)
theorem cntAt_le (l news : List S61) : ∀ j,cntAt l news j ≤ j
  | 0 => Nat.le_refl _
  | j + 1 => by
    have h1 := cntAt_le l news j;have h2 := stepC_le (outAt l news j) (news.getD j z61);simp only [cntAt];omega
theorem fl_set : ∀ (l : List S61) (i : Nat) (x : S61),i < l.length → (((((fl l).set (i * 5) (.int .i64 x.f0)).set (i * 5 + 1) (.int .i64 x.f1)).set (i * 5 + 2) (.float .f64 x.f2)).set (i * 5 + 3) (.float .f64 x.f3)).set (i * 5 + 4) (.int .i64 x.f4) = fl (l.set i x)
  | y :: l,0,x,_ => by simp [fl_cons,enc5]
  | y :: l,i + 1,x,h => by
    have ih := fl_set l i x (by simpa using h);rw [List.set_cons_succ,fl_cons,fl_cons,← ih];simp only [enc5,show (i + 1) * 5 = i * 5 + 5 by omega,show i * 5 + 5 + 1 = i * 5 + 1 + 5 by omega,show i * 5 + 5 + 2 = i * 5 + 2 + 5 by omega,show i * 5 + 5 + 3 = i * 5 + 3 + 5 by omega,show i * 5 + 5 + 4 = i * 5 + 4 + 5 by omega,List.cons_append,List.nil_append,List.set_cons_succ]
theorem grown2 {w w1 : World} {g o : Nat} {v : Value} (h : w.grownBy w1 (some g)) : w.grownBy (w1.setCell ⟨g,o,none⟩ v) (some g) := h.trans (grown_cell w1 ⟨g,o,none⟩ v)
theorem R_set5 {w : World} {base g cap : Nat} {l : List S61} (h : Kd.R k61 61 w base (fun _ => True) (.slice (some ⟨g,0,none⟩) l.length cap) l) (i : Nat) (hi : i < l.length) (x : S61) :
    Kd.R k61 61 (((((w.setCell ⟨g,i * 5,none⟩ (.int .i64 x.f0)).setCell ⟨g,i * 5 + 1,none⟩ (.int .i64 x.f1)).setCell ⟨g,i * 5 + 2,none⟩ (.float .f64 x.f2)).setCell ⟨g,i * 5 + 3,none⟩ (.float .f64 x.f3)).setCell ⟨g,i * 5 + 4,none⟩ (.int .i64 x.f4)) base (fun _ => True) (.slice (some ⟨g,0,none⟩) l.length cap) (l.set i x) ∧
    w.grownBy (((((w.setCell ⟨g,i * 5,none⟩ (.int .i64 x.f0)).setCell ⟨g,i * 5 + 1,none⟩ (.int .i64 x.f1)).setCell ⟨g,i * 5 + 2,none⟩ (.float .f64 x.f2)).setCell ⟨g,i * 5 + 3,none⟩ (.float .f64 x.f3)).setCell ⟨g,i * 5 + 4,none⟩ (.int .i64 x.f4)) (some g) := by
  obtain ⟨_,hown⟩ := R_flat.1 h;obtain ⟨cur,hb,hg,hnc,hcm,hcs,ht⟩ := own_cells hown
  constructor
  · refine R_flat.2 ⟨fun _ _ => trivial,?_⟩
    rw [List.length_set];refine own_of hb (blk_set (blk_set (blk_set (blk_set (blk_set hg _ _) _ _) _ _) _ _) _ _) hnc hcm (by simp [hcs]) ?_;simp only [Array.toList_setIfInBounds,List.take_set,ht];exact fl_set l i x hi
  exact grown2 (grown2 (grown2 (grown2 (grown2 (World.grownBy.refl _ _)))))
theorem R_unfrozen {w : World} {base g n cap : Nat} {ok : Nat → Prop} {l : List S61} (h : Kd.R k61 61 w base ok (.slice (some ⟨g,0,none⟩) n cap) l) (o : Nat) : w.frozen? ⟨g,o,none⟩ = false := by
  obtain ⟨_,hown⟩ := R_flat.1 h
  rcases hown.2 with ⟨h2,_⟩ | ⟨g',cap',cur,he,hb,hg,_⟩
  · cases h2
  injection he with ea _ _
  cases ea
  exact blk_frozen hg o
set_option maxHeartbeats 8000000 in
set_option maxRecDepth 1000000 in
theorem merge_any {w : World} {A B : Option Addr} {c cB : Nat} {l news : List S61} (h : Kd.C k61 w A l.length l) (hA : A = none → c = 0) (hl : l.length ≤ 3518437208883) (hN : Kd.C k61 w B news.length news) (hnl : news.length ≤ 4611686018427387903)
    (hall : ∀ j,j < news.length → Mono (news.getD j z61) (outAt l news j) ∧ (outAt l news j).length < 3518437208883) :
    Calls Tryz.prog 35 #[.slice A l.length c,.slice B news.length cB] w fun e w' => ∃ v,e = .returned (.tuple #[v,.int .i64 (cntAt l news news.length : Nat)]) ∧ Kd.R k61 61 w' w.heap.size (fun _ => True) v (outAt l news news.length) ∧ Below w.heap.size w w' := by
  have HC := Aside0.mk (clone_any h hl hA);have HN := Aside0.mk hN;have HALL := Aside0.mk hall;have hu61 := Tryz.underlying61;clear h hA hN hall;go_enter Tryz.func35,Tryz.ntmps35
  go_wp2_with (go_at_call 41;refine HC.out.mono ?_;rintro e w1 ⟨v,rfl,hR,hb⟩;have HR := Aside0.mk hR;have HB := Aside0.mk hb;clear hR hb)
  go_loopg [6,7,17] news.length (fun kx s6 s7 s17 wr => ∃ (j : Nat) (Av : Option Addr) (cv : Nat),s17 = .int .i64 j ∧ s7 = .int .i64 (cntAt l news j : Nat) ∧ s6 = .slice Av (outAt l news j).length cv ∧ j ≤ news.length ∧ news.length - j ≤ kx ∧ Aside0 (Below w.heap.size w wr) ∧ Aside0 (Kd.R k61 61 wr w.heap.size (fun _ => True) (.slice Av (outAt l news j).length cv) (outAt l news j)))
  case atStart =>
    obtain ⟨Av,cv,e⟩ := Kd.R_slice HR.out;exact ⟨0,Av,cv,rfl,rfl,e,Nat.zero_le _,by omega,HB,⟨by show Kd.R k61 61 _ _ _ (.slice Av l.length cv) l;rw [← e];exact HR.out⟩⟩
  case round =>
    obtain ⟨j,Av,cv,rfl,rfl,rfl,hjn,hg,B1,R1⟩ := hrel
    by_cases hlt : j < news.length
    rotate_left
    · obtain rfl : j = news.length := by omega
      go_wp2_with fail
      go_ret2;exact ⟨_,rfl,R1.out,B1.out⟩
    obtain ⟨ad,rfl,y0,y1,y2,y3,y4⟩ := at_T61 (Kd.C_below HN.out B1.out) (j : Int) (by omega) (by omega);rw [rdn] at y0 y1 y2 y3 y4;obtain ⟨x,hx⟩ : ∃ x,news.getD j z61 = x := ⟨_,rfl⟩
    have NX := Aside0.mk (outAt_next l news j hlt);have CX : Aside0 (cntAt l news (j + 1) = cntAt l news j + stepC (outAt l news j) (news.getD j z61)) := ⟨rfl⟩
    obtain ⟨hmo,hle⟩ := HALL.out j hlt;have CL := Aside0.mk (cntAt_le l news j);rw [hx] at y0 y1 y2 y3 y4 NX CX hmo;simp only [Int.toNat_natCast] at y0 y1 y2 y3 y4;obtain ⟨out,hout⟩ : ∃ out,outAt l news j = out := ⟨_,rfl⟩
    obtain ⟨q,hq⟩ : ∃ q,cntAt l news j = q := ⟨_,rfl⟩
    rw [hout] at NX CX hmo hle R1;rw [hq] at CX CL;rw [hout,hq];have MO := Aside0.mk hmo;have LE := Aside0.mk hle;have q1 : q ≤ 4611686018427387903 := by have := CL.out;omega
    have BS : Aside0 (∀ W,Kd.C k61 W Av out.length out → Calls Tryz.prog 59 #[.slice Av out.length cv,agg61 x,.func (.func 58) #[] #[]] W fun e w' => e = .returned (.tuple #[.int .i64 (posN x out : Nat),.bool (hasN x out)]) ∧ Below W.heap.size W w') := ⟨fun W hC => bsearch_any hC (by have := LE.out;omega) x MO.out⟩
    have IF : Aside0 (∀ W,Calls Tryz.prog 60 #[.float .f64 x.f2,.int .i64 1] W fun e w' => e = .returned (.bool (infB x.f2)) ∧ Drawn0 W w') := ⟨fun W => math_IsInf.calls x.f2 1 _ W (inf_f x.f2)⟩
    have PL : Aside0 (posN x out ≤ out.length) := ⟨posN_le x out⟩
    have PT : hasN x out = true → Aside0 (posN x out < out.length) := fun h => ⟨by unfold hasN at h;simp at h;exact h.1⟩
    obtain ⟨at_,hat⟩ : ∃ p,posN x out = p := ⟨_,rfl⟩
    have R0 := Aside0.mk (Kd.R_reads' R1.out).2.2;clear hx hmo hle hout hq
    cases hh : hasN x out with
    | true =>
      rw [hh] at BS;have PTT := PT hh;rw [hat] at PTT
      cases hi : infB x.f2 with
      | true =>
        rw [hi] at IF;have NA : Aside0 (outAt l news (j + 1) = out.take at_ ++ out.drop (at_ + 1)) := ⟨by rw [NX.out];unfold stepL;rw [hh,hi,hat];rfl⟩
        have CA : Aside0 (cntAt l news (j + 1) = q + 1) := ⟨by rw [CX.out];unfold stepC;rw [hh,hi];rfl⟩
        rw [hat] at BS;have LT2 := PTT.out;have LE2 := LE.out;clear hh hi PT hat
        go_wp2_with (first | (go_at_call 59;refine (BS.out _ (Kd.C_alloc R0.out _)).mono ?_;rintro e w6 ⟨rfl,hb⟩;have HB6 := Aside0.mk (below_then (below_alloc (Below.refl wr.heap.size wr) (Obj.cells #[.int .i64 x.f0,.int .i64 x.f1,.float .f64 x.f2,.float .f64 x.f3,.int .i64 x.f4] 61)) (by simp) hb);have K6 := Aside0.mk (blk_below (blk_new wr (Obj.cells #[.int .i64 x.f0,.int .i64 x.f1,.float .f64 x.f2,.float .f64 x.f3,.int .i64 x.f4] 61)) hb);clear hb y0 y1 y2 y3 y4;have x0 : w6.cell? ⟨wr.heap.size,0,none⟩ = some (.int .i64 x.f0) := (blk_cell K6.out 0).trans rfl;have x1 : w6.cell? ⟨wr.heap.size,1,none⟩ = some (.int .i64 x.f1) := (blk_cell K6.out 1).trans rfl;have x2 : w6.cell? ⟨wr.heap.size,2,none⟩ = some (.float .f64 x.f2) := (blk_cell K6.out 2).trans rfl;have x3 : w6.cell? ⟨wr.heap.size,3,none⟩ = some (.float .f64 x.f3) := (blk_cell K6.out 3).trans rfl;have x4 : w6.cell? ⟨wr.heap.size,4,none⟩ = some (.int .i64 x.f4) := (blk_cell K6.out 4).trans rfl) | (go_at_call 60;refine (IF.out _).mono ?_;rintro e w7 ⟨rfl,hd⟩;have HB7 := Aside0.mk (below_then HB6.out HB6.out.size hd.below);have K7 := Aside0.mk (blk_below K6.out hd.below);clear hd x0 x1 x2 x3 x4;have R7 := Aside0.mk (Kd.R_below R1.out HB7.out);have B7 := Aside0.mk (below_then B1.out B1.out.size HB7.out);have x0 : w7.cell? ⟨wr.heap.size,0,none⟩ = some (.int .i64 x.f0) := (blk_cell K7.out 0).trans rfl;have x1 : w7.cell? ⟨wr.heap.size,1,none⟩ = some (.int .i64 x.f1) := (blk_cell K7.out 1).trans rfl;have x2 : w7.cell? ⟨wr.heap.size,2,none⟩ = some (.float .f64 x.f2) := (blk_cell K7.out 2).trans rfl;have x3 : w7.cell? ⟨wr.heap.size,3,none⟩ = some (.float .f64 x.f3) := (blk_cell K7.out 3).trans rfl;have x4 : w7.cell? ⟨wr.heap.size,4,none⟩ = some (.int .i64 x.f4) := (blk_cell K7.out 4).trans rfl) | (go_at_call 61;refine (delete_any R7.out at_ PTT.out).mono ?_;rintro e w8 ⟨v',rfl,hR,hg8,_⟩;have R8 := Aside0.mk hR;have B8 := Aside0.mk (pw_below_grown B7.out _ B7.out.size hg8 (Kd.R_base R7.out));clear hR hg8))
        obtain ⟨Av2,cv2,e2⟩ := Kd.R_slice R8.out;subst e2
        go_roundg (news.length - (j + 1))
        case measure => omega
        case rel => exact ⟨j + 1,Av2,cv2,by go_num,by rw [CA.out];go_num,by rw [NA.out],by omega,Nat.le_refl _,B8,⟨by rw [NA.out];exact R8.out⟩⟩
      | false =>
        rw [hi] at IF;have LT2 := PTT.out;obtain ⟨g,cap,he_,hcap,hmax⟩ := R_some R1.out (by have := PTT.out;omega)
        injection he_ with ea_ _ ec_
        subst ea_;subst ec_;obtain ⟨y,hy⟩ : ∃ y,out.getD at_ z61 = y := ⟨_,rfl⟩
        have C0 := Aside0.mk R0.out
        cases hs : sameB y x with
        | true =>
          have NA : Aside0 (outAt l news (j + 1) = out) := ⟨by rw [NX.out];unfold stepL;rw [hh,hi,hat,hy,hs];rfl⟩
          have CA : Aside0 (cntAt l news (j + 1) = q) := ⟨by rw [CX.out];unfold stepC;rw [hh,hi,hat,hy,hs];rfl⟩
          have SA := Aside0.mk (fun W => cache_same.calls y.f0 y.f1 y.f2 y.f3 y.f4 x.f0 x.f1 x.f2 x.f3 x.f4 true W (by rw [same_f,hs]));rw [hat] at BS;clear hh hi PT hat hs
          go_wp2_with (first | (go_at_call 59;refine (BS.out _ (Kd.C_alloc R0.out _)).mono ?_;rintro e w6 ⟨rfl,hb⟩;have HB6 := Aside0.mk (below_then (below_alloc (Below.refl wr.heap.size wr) (Obj.cells #[.int .i64 x.f0,.int .i64 x.f1,.float .f64 x.f2,.float .f64 x.f3,.int .i64 x.f4] 61)) (by simp) hb);have K6 := Aside0.mk (blk_below (blk_new wr (Obj.cells #[.int .i64 x.f0,.int .i64 x.f1,.float .f64 x.f2,.float .f64 x.f3,.int .i64 x.f4] 61)) hb);clear hb y0 y1 y2 y3 y4;have x0 : w6.cell? ⟨wr.heap.size,0,none⟩ = some (.int .i64 x.f0) := (blk_cell K6.out 0).trans rfl;have x1 : w6.cell? ⟨wr.heap.size,1,none⟩ = some (.int .i64 x.f1) := (blk_cell K6.out 1).trans rfl;have x2 : w6.cell? ⟨wr.heap.size,2,none⟩ = some (.float .f64 x.f2) := (blk_cell K6.out 2).trans rfl;have x3 : w6.cell? ⟨wr.heap.size,3,none⟩ = some (.float .f64 x.f3) := (blk_cell K6.out 3).trans rfl;have x4 : w6.cell? ⟨wr.heap.size,4,none⟩ = some (.int .i64 x.f4) := (blk_cell K6.out 4).trans rfl) | (go_at_call 60;refine (IF.out _).mono ?_;rintro e w7 ⟨rfl,hd⟩;have HB7 := Aside0.mk (below_then HB6.out HB6.out.size hd.below);have K7 := Aside0.mk (blk_below K6.out hd.below);clear hd x0 x1 x2 x3 x4;have R7 := Aside0.mk (Kd.R_below R1.out HB7.out);have B7 := Aside0.mk (below_then B1.out B1.out.size HB7.out);have x0 : w7.cell? ⟨wr.heap.size,0,none⟩ = some (.int .i64 x.f0) := (blk_cell K7.out 0).trans rfl;have x1 : w7.cell? ⟨wr.heap.size,1,none⟩ = some (.int .i64 x.f1) := (blk_cell K7.out 1).trans rfl;have x2 : w7.cell? ⟨wr.heap.size,2,none⟩ = some (.float .f64 x.f2) := (blk_cell K7.out 2).trans rfl;have x3 : w7.cell? ⟨wr.heap.size,3,none⟩ = some (.float .f64 x.f3) := (blk_cell K7.out 3).trans rfl;have x4 : w7.cell? ⟨wr.heap.size,4,none⟩ = some (.int .i64 x.f4) := (blk_cell K7.out 4).trans rfl))
          obtain ⟨ad2,e2,z0,z1,z2,z3,z4⟩ := at_T61 (Kd.R_reads' R7.out).2.2 (at_ : Int) (by omega) (by omega)
          cases e2
          rw [rdn,hy] at z0 z1 z2 z3 z4;simp only [Int.toNat_natCast,Addr.add_lit,Nat.zero_add] at z0 z1 z2 z3 z4;have Z : Aside0 (w7.cell? ⟨g,at_ * 5,none⟩ = some (.int .i64 y.f0)) := ⟨z0⟩
          go_cut [42] from 43 to 52 (fun s42 wx => s42 = .bool false ∧ Aside0 (Below w7.heap.size w7 wx))
          case first =>
            · skip
              refine start_ (n := 11) (S := fun w' => w'.cell? ⟨wr.heap.size,0,none⟩ = some (.int .i64 x.f0) ∧ w'.cell? ⟨wr.heap.size,1,none⟩ = some (.int .i64 x.f1) ∧ w'.cell? ⟨wr.heap.size,2,none⟩ = some (.float .f64 x.f2) ∧ w'.cell? ⟨wr.heap.size,3,none⟩ = some (.float .f64 x.f3) ∧ w'.cell? ⟨wr.heap.size,4,none⟩ = some (.int .i64 x.f4) ∧ w'.cell? ⟨g,at_ * 5,none⟩ = some (.int .i64 y.f0) ∧ w'.cell? ⟨g,at_ * 5 + 1,none⟩ = some (.int .i64 y.f1) ∧ w'.cell? ⟨g,at_ * 5 + 2,none⟩ = some (.float .f64 y.f2) ∧ w'.cell? ⟨g,at_ * 5 + 3,none⟩ = some (.float .f64 y.f3) ∧ w'.cell? ⟨g,at_ * 5 + 4,none⟩ = some (.int .i64 y.f4)) (ds := []) #[false,false,false,false,false,false,false,false,false,false,false] (by kernel_rfl) rfl rfl ⟨x0,x1,x2,x3,x4,z0,z1,z2,z3,z4⟩ (fun hHeld => ?_);refine manyD_ (fuel := 4) (a' := ?_) ((0,0) :: (1,0) :: (2,0) :: (3,0) :: (4,0) :: (5,2) :: (6,2) :: []) #[true,true,true,true,true,true,true,false,false,false,false] rfl (by kernel_rfl) (fun _ _ _ _ _ h => h) (fun _ => hHeld) ?_ ?_;rotate_left
              · repeat (first | exact Chain.nil _ | (apply Chain.on;rfl;rfl;(focus intro w';go_simp;with_reducible rfl);(focus simp only [Act.put,List.setIfInBounds_toArray,List.set_cons_zero,List.set_cons_succ,i64_w,i32_w];rfl)) | (apply Chain.take;rfl;rfl;(focus rintro w' ⟨s0,s1,s2,s3,s4,s5,s6,s7,s8,s9⟩;go_simp;with_reducible rfl);(focus simp only [Act.put,List.setIfInBounds_toArray,List.set_cons_zero,List.set_cons_succ,i64_w,i32_w];rfl)))
              refine one_ (i := 7) (N := some 50) #[true,true,true,true,true,true,true,true,false,false,false] rfl rfl (by kernel_rfl) (by decide) (fun K hK => ?_);refine goes_ Tryz.func62 (by kernel_rfl) rfl #[.agg #[.int .i64 y.f0,.int .i64 y.f1,.float .f64 y.f2,.float .f64 y.f3,.int .i64 y.f4],.agg #[.int .i64 x.f0,.int .i64 x.f1,.float .f64 x.f2,.float .f64 x.f3,.int .i64 x.f4]] (by rfl) rfl rfl (by simp only [List.map_toArray,List.map_cons,List.map_nil];rfl) ?_
              with_reducible refine (SA.out _).mono ?_
              rintro e w9 ⟨rfl,hd⟩;refine ⟨_,rfl,?_⟩;have HB9 := Aside0.mk (below_then (below_drew (Below.refl w7.heap.size w7)) (Nat.le_refl _) hd);clear hd;refine hK.out _ _ ⟨(pw_cell_below HB9.out x0),(pw_cell_below HB9.out x1),(pw_cell_below HB9.out x2),(pw_cell_below HB9.out x3),(pw_cell_below HB9.out x4),(pw_cell_below HB9.out z0),(pw_cell_below HB9.out z1),(pw_cell_below HB9.out z2),(pw_cell_below HB9.out z3),(pw_cell_below HB9.out z4)⟩ (fun hHeld => ?_);clear hK K;refine norm_ (a' := ?_) ?_ ?_;rotate_left
              · show Act.put _ (some 50) _ = _
                simp only [Act.put,List.setIfInBounds_toArray,List.set_cons_zero,List.set_cons_succ,i64_w,i32_w];rfl
              refine manyD_ (fuel := 0) (a' := ?_) ((8,0) :: (9,0) :: (10,0) :: []) #[true,true,true,true,true,true,true,true,true,true,true] rfl (by kernel_rfl) (fun _ _ _ _ _ h => h) (fun h => absurd h (by decide)) ?_ ?_;rotate_left
              · repeat (first | exact Chain.nil _ | (apply Chain.on;rfl;rfl;(focus intro w';go_simp;with_reducible rfl);(focus simp only [Act.put,List.setIfInBounds_toArray,List.set_cons_zero,List.set_cons_succ,i64_w,i32_w];rfl)))
              refine done_ (by kernel_rfl) ?_
              go_wp2_with fail
              go_meet
              exact ⟨rfl,HB9⟩
          case rest =>
            obtain ⟨rfl,HX⟩ := hcut;have R8 := Aside0.mk (Kd.R_below R7.out HX.out);have B8 := Aside0.mk (below_then B7.out B7.out.size HX.out)
            go_wp2_with fail
            go_roundg (news.length - (j + 1))
            case measure => omega
            case rel => exact ⟨j + 1,some ⟨g,0,none⟩,cv,by go_num,by rw [CA.out],by rw [NA.out],by omega,Nat.le_refl _,B8,⟨by rw [NA.out];exact R8.out⟩⟩
        | false =>
          have NA : Aside0 (outAt l news (j + 1) = out.set at_ x) := ⟨by rw [NX.out];unfold stepL;rw [hh,hi,hat,hy,hs];rfl⟩
          have CA : Aside0 (cntAt l news (j + 1) = q + 1) := ⟨by rw [CX.out];unfold stepC;rw [hh,hi,hat,hy,hs];rfl⟩
          have SA := Aside0.mk (fun W => cache_same.calls y.f0 y.f1 y.f2 y.f3 y.f4 x.f0 x.f1 x.f2 x.f3 x.f4 false W (by rw [same_f,hs]));rw [hat] at BS;clear hh hi PT hat hs
          go_wp2_with (first | (go_at_call 59;refine (BS.out _ (Kd.C_alloc R0.out _)).mono ?_;rintro e w6 ⟨rfl,hb⟩;have HB6 := Aside0.mk (below_then (below_alloc (Below.refl wr.heap.size wr) (Obj.cells #[.int .i64 x.f0,.int .i64 x.f1,.float .f64 x.f2,.float .f64 x.f3,.int .i64 x.f4] 61)) (by simp) hb);have K6 := Aside0.mk (blk_below (blk_new wr (Obj.cells #[.int .i64 x.f0,.int .i64 x.f1,.float .f64 x.f2,.float .f64 x.f3,.int .i64 x.f4] 61)) hb);clear hb y0 y1 y2 y3 y4;have x0 : w6.cell? ⟨wr.heap.size,0,none⟩ = some (.int .i64 x.f0) := (blk_cell K6.out 0).trans rfl;have x1 : w6.cell? ⟨wr.heap.size,1,none⟩ = some (.int .i64 x.f1) := (blk_cell K6.out 1).trans rfl;have x2 : w6.cell? ⟨wr.heap.size,2,none⟩ = some (.float .f64 x.f2) := (blk_cell K6.out 2).trans rfl;have x3 : w6.cell? ⟨wr.heap.size,3,none⟩ = some (.float .f64 x.f3) := (blk_cell K6.out 3).trans rfl;have x4 : w6.cell? ⟨wr.heap.size,4,none⟩ = some (.int .i64 x.f4) := (blk_cell K6.out 4).trans rfl) | (go_at_call 60;refine (IF.out _).mono ?_;rintro e w7 ⟨rfl,hd⟩;have HB7 := Aside0.mk (below_then HB6.out HB6.out.size hd.below);have K7 := Aside0.mk (blk_below K6.out hd.below);clear hd x0 x1 x2 x3 x4;have R7 := Aside0.mk (Kd.R_below R1.out HB7.out);have B7 := Aside0.mk (below_then B1.out B1.out.size HB7.out);have x0 : w7.cell? ⟨wr.heap.size,0,none⟩ = some (.int .i64 x.f0) := (blk_cell K7.out 0).trans rfl;have x1 : w7.cell? ⟨wr.heap.size,1,none⟩ = some (.int .i64 x.f1) := (blk_cell K7.out 1).trans rfl;have x2 : w7.cell? ⟨wr.heap.size,2,none⟩ = some (.float .f64 x.f2) := (blk_cell K7.out 2).trans rfl;have x3 : w7.cell? ⟨wr.heap.size,3,none⟩ = some (.float .f64 x.f3) := (blk_cell K7.out 3).trans rfl;have x4 : w7.cell? ⟨wr.heap.size,4,none⟩ = some (.int .i64 x.f4) := (blk_cell K7.out 4).trans rfl))
          obtain ⟨ad2,e2,z0,z1,z2,z3,z4⟩ := at_T61 (Kd.R_reads' R7.out).2.2 (at_ : Int) (by omega) (by omega)
          cases e2
          rw [rdn,hy] at z0 z1 z2 z3 z4;simp only [Int.toNat_natCast,Addr.add_lit,Nat.zero_add] at z0 z1 z2 z3 z4;have Z : Aside0 (w7.cell? ⟨g,at_ * 5,none⟩ = some (.int .i64 y.f0)) := ⟨z0⟩
          go_cut [42] from 43 to 52 (fun s42 wx => s42 = .bool true ∧ Aside0 (Below w7.heap.size w7 wx))
          case first =>
            · skip
              refine start_ (n := 11) (S := fun w' => w'.cell? ⟨wr.heap.size,0,none⟩ = some (.int .i64 x.f0) ∧ w'.cell? ⟨wr.heap.size,1,none⟩ = some (.int .i64 x.f1) ∧ w'.cell? ⟨wr.heap.size,2,none⟩ = some (.float .f64 x.f2) ∧ w'.cell? ⟨wr.heap.size,3,none⟩ = some (.float .f64 x.f3) ∧ w'.cell? ⟨wr.heap.size,4,none⟩ = some (.int .i64 x.f4) ∧ w'.cell? ⟨g,at_ * 5,none⟩ = some (.int .i64 y.f0) ∧ w'.cell? ⟨g,at_ * 5 + 1,none⟩ = some (.int .i64 y.f1) ∧ w'.cell? ⟨g,at_ * 5 + 2,none⟩ = some (.float .f64 y.f2) ∧ w'.cell? ⟨g,at_ * 5 + 3,none⟩ = some (.float .f64 y.f3) ∧ w'.cell? ⟨g,at_ * 5 + 4,none⟩ = some (.int .i64 y.f4)) (ds := []) #[false,false,false,false,false,false,false,false,false,false,false] (by kernel_rfl) rfl rfl ⟨x0,x1,x2,x3,x4,z0,z1,z2,z3,z4⟩ (fun hHeld => ?_);refine manyD_ (fuel := 4) (a' := ?_) ((0,0) :: (1,0) :: (2,0) :: (3,0) :: (4,0) :: (5,2) :: (6,2) :: []) #[true,true,true,true,true,true,true,false,false,false,false] rfl (by kernel_rfl) (fun _ _ _ _ _ h => h) (fun _ => hHeld) ?_ ?_;rotate_left
              · repeat (first | exact Chain.nil _ | (apply Chain.on;rfl;rfl;(focus intro w';go_simp;with_reducible rfl);(focus simp only [Act.put,List.setIfInBounds_toArray,List.set_cons_zero,List.set_cons_succ,i64_w,i32_w];rfl)) | (apply Chain.take;rfl;rfl;(focus rintro w' ⟨s0,s1,s2,s3,s4,s5,s6,s7,s8,s9⟩;go_simp;with_reducible rfl);(focus simp only [Act.put,List.setIfInBounds_toArray,List.set_cons_zero,List.set_cons_succ,i64_w,i32_w];rfl)))
              refine one_ (i := 7) (N := some 50) #[true,true,true,true,true,true,true,true,false,false,false] rfl rfl (by kernel_rfl) (by decide) (fun K hK => ?_);refine goes_ Tryz.func62 (by kernel_rfl) rfl #[.agg #[.int .i64 y.f0,.int .i64 y.f1,.float .f64 y.f2,.float .f64 y.f3,.int .i64 y.f4],.agg #[.int .i64 x.f0,.int .i64 x.f1,.float .f64 x.f2,.float .f64 x.f3,.int .i64 x.f4]] (by rfl) rfl rfl (by simp only [List.map_toArray,List.map_cons,List.map_nil];rfl) ?_
              with_reducible refine (SA.out _).mono ?_
              rintro e w9 ⟨rfl,hd⟩;refine ⟨_,rfl,?_⟩;have HB9 := Aside0.mk (below_then (below_drew (Below.refl w7.heap.size w7)) (Nat.le_refl _) hd);clear hd;refine hK.out _ _ ⟨(pw_cell_below HB9.out x0),(pw_cell_below HB9.out x1),(pw_cell_below HB9.out x2),(pw_cell_below HB9.out x3),(pw_cell_below HB9.out x4),(pw_cell_below HB9.out z0),(pw_cell_below HB9.out z1),(pw_cell_below HB9.out z2),(pw_cell_below HB9.out z3),(pw_cell_below HB9.out z4)⟩ (fun hHeld => ?_);clear hK K;refine norm_ (a' := ?_) ?_ ?_;rotate_left
              · show Act.put _ (some 50) _ = _
                simp only [Act.put,List.setIfInBounds_toArray,List.set_cons_zero,List.set_cons_succ,i64_w,i32_w];rfl
              refine manyD_ (fuel := 0) (a' := ?_) ((8,0) :: (9,0) :: (10,0) :: []) #[true,true,true,true,true,true,true,true,true,true,true] rfl (by kernel_rfl) (fun _ _ _ _ _ h => h) (fun h => absurd h (by decide)) ?_ ?_;rotate_left
              · repeat (first | exact Chain.nil _ | (apply Chain.on;rfl;rfl;(focus intro w';go_simp;with_reducible rfl);(focus simp only [Act.put,List.setIfInBounds_toArray,List.set_cons_zero,List.set_cons_succ,i64_w,i32_w];rfl)))
              refine done_ (by kernel_rfl) ?_
              go_wp2_with fail
              go_meet
              exact ⟨rfl,HB9⟩
          case rest =>
            obtain ⟨rfl,HX⟩ := hcut;have RX := Aside0.mk (Kd.R_below R7.out HX.out);have BX := Aside0.mk (below_then B7.out B7.out.size HX.out);have KX := Aside0.mk (blk_below K7.out HX.out);have x0 : wc.cell? ⟨wr.heap.size,0,none⟩ = some (.int .i64 x.f0) := (blk_cell KX.out 0).trans rfl;have x1 : wc.cell? ⟨wr.heap.size,1,none⟩ = some (.int .i64 x.f1) := (blk_cell KX.out 1).trans rfl;have x2 : wc.cell? ⟨wr.heap.size,2,none⟩ = some (.float .f64 x.f2) := (blk_cell KX.out 2).trans rfl;have x3 : wc.cell? ⟨wr.heap.size,3,none⟩ = some (.float .f64 x.f3) := (blk_cell KX.out 3).trans rfl;have x4 : wc.cell? ⟨wr.heap.size,4,none⟩ = some (.int .i64 x.f4) := (blk_cell KX.out 4).trans rfl;have u0 := pw_cell_below HX.out z0;have u1 := pw_cell_below HX.out z1;have u2 := pw_cell_below HX.out z2;have u3 := pw_cell_below HX.out z3;have u4 := pw_cell_below HX.out z4;obtain ⟨RS,GS⟩ := R_set5 RX.out at_ LT2 x;have GB : Aside0 (w.heap.size ≤ g) := ⟨Kd.R_base RX.out g rfl⟩
            have f0 := R_unfrozen RX.out (at_ * 5);have f1 := R_unfrozen RX.out (at_ * 5 + 1);have f2 := R_unfrozen RX.out (at_ * 5 + 2);have f3 := R_unfrozen RX.out (at_ * 5 + 3);have f4 := R_unfrozen RX.out (at_ * 5 + 4);have R8 := Aside0.mk RS;have B8 := Aside0.mk (pw_below_grown BX.out (some g) BX.out.size GS (fun k e => by cases e;exact GB.out));clear RS GS;have LS : Aside0 ((out.set at_ x).length = out.length) := ⟨List.length_set⟩
            go_wp2_with fail
            go_roundg (news.length - (j + 1))
            case measure => omega
            case rel => exact ⟨j + 1,some ⟨g,0,none⟩,cv,by go_num,by rw [CA.out];go_num,by rw [NA.out,LS.out],by omega,Nat.le_refl _,B8,⟨by rw [NA.out,LS.out];exact R8.out⟩⟩
    | false =>
      rw [hh] at BS;clear PT
      cases hi : infB x.f2 with
      | true =>
        rw [hi] at IF;have NA : Aside0 (outAt l news (j + 1) = out) := ⟨by rw [NX.out];unfold stepL;rw [hh,hi];rfl⟩
        have CA : Aside0 (cntAt l news (j + 1) = q) := ⟨by rw [CX.out];unfold stepC;rw [hh,hi];rfl⟩
        rw [hat] at BS;clear hh hi hat
        go_wp2_with (first | (go_at_call 59;refine (BS.out _ (Kd.C_alloc R0.out _)).mono ?_;rintro e w6 ⟨rfl,hb⟩;have HB6 := Aside0.mk (below_then (below_alloc (Below.refl wr.heap.size wr) (Obj.cells #[.int .i64 x.f0,.int .i64 x.f1,.float .f64 x.f2,.float .f64 x.f3,.int .i64 x.f4] 61)) (by simp) hb);have K6 := Aside0.mk (blk_below (blk_new wr (Obj.cells #[.int .i64 x.f0,.int .i64 x.f1,.float .f64 x.f2,.float .f64 x.f3,.int .i64 x.f4] 61)) hb);clear hb y0 y1 y2 y3 y4;have x0 : w6.cell? ⟨wr.heap.size,0,none⟩ = some (.int .i64 x.f0) := (blk_cell K6.out 0).trans rfl;have x1 : w6.cell? ⟨wr.heap.size,1,none⟩ = some (.int .i64 x.f1) := (blk_cell K6.out 1).trans rfl;have x2 : w6.cell? ⟨wr.heap.size,2,none⟩ = some (.float .f64 x.f2) := (blk_cell K6.out 2).trans rfl;have x3 : w6.cell? ⟨wr.heap.size,3,none⟩ = some (.float .f64 x.f3) := (blk_cell K6.out 3).trans rfl;have x4 : w6.cell? ⟨wr.heap.size,4,none⟩ = some (.int .i64 x.f4) := (blk_cell K6.out 4).trans rfl) | (go_at_call 60;refine (IF.out _).mono ?_;rintro e w7 ⟨rfl,hd⟩;have HB7 := Aside0.mk (below_then HB6.out HB6.out.size hd.below);have K7 := Aside0.mk (blk_below K6.out hd.below);clear hd x0 x1 x2 x3 x4;have R7 := Aside0.mk (Kd.R_below R1.out HB7.out);have B7 := Aside0.mk (below_then B1.out B1.out.size HB7.out);have x0 : w7.cell? ⟨wr.heap.size,0,none⟩ = some (.int .i64 x.f0) := (blk_cell K7.out 0).trans rfl;have x1 : w7.cell? ⟨wr.heap.size,1,none⟩ = some (.int .i64 x.f1) := (blk_cell K7.out 1).trans rfl;have x2 : w7.cell? ⟨wr.heap.size,2,none⟩ = some (.float .f64 x.f2) := (blk_cell K7.out 2).trans rfl;have x3 : w7.cell? ⟨wr.heap.size,3,none⟩ = some (.float .f64 x.f3) := (blk_cell K7.out 3).trans rfl;have x4 : w7.cell? ⟨wr.heap.size,4,none⟩ = some (.int .i64 x.f4) := (blk_cell K7.out 4).trans rfl))
        go_cut [42] from 43 to 52 (fun s42 wx => s42 = .bool false ∧ Aside0 (Below w7.heap.size w7 wx))
        case first =>
          · skip
            refine start_ (n := 11) (S := fun w' => True) (ds := []) #[false,false,false,false,false,false,false,false,false,false,false] (by kernel_rfl) rfl rfl trivial (fun hHeld => ?_);refine manyD_ (fuel := 0) (a' := ?_) ((0,0) :: (1,0) :: (2,1) :: (3,1) :: (4,1) :: (5,1) :: (6,1) :: (7,1) :: (8,1) :: (9,0) :: (10,0) :: []) #[true,true,true,true,true,true,true,true,true,true,true] rfl (by kernel_rfl) (fun _ _ _ _ _ h => h) (fun h => absurd h (by decide)) ?_ ?_;rotate_left
            · repeat (first | exact Chain.nil _ | (apply Chain.on;rfl;rfl;(focus intro w';go_simp;with_reducible rfl);(focus simp only [Act.put,List.setIfInBounds_toArray,List.set_cons_zero,List.set_cons_succ,i64_w,i32_w];rfl)) | (apply Chain.off;rfl;rfl;(focus simp only [Act.put,List.setIfInBounds_toArray,List.set_cons_zero,List.set_cons_succ,i64_w,i32_w];rfl)))
            refine done_ (by kernel_rfl) ?_
            go_wp2_with fail
            go_meet
            exact ⟨rfl,⟨below_drew (Below.refl _ _)⟩⟩
        case rest =>
          obtain ⟨rfl,HX⟩ := hcut;have R8 := Aside0.mk (Kd.R_below R7.out HX.out);have B8 := Aside0.mk (below_then B7.out B7.out.size HX.out)
          go_wp2_with fail
          go_roundg (news.length - (j + 1))
          case measure => omega
          case rel => exact ⟨j + 1,Av,cv,by go_num,by rw [CA.out],by rw [NA.out],by omega,Nat.le_refl _,B8,⟨by rw [NA.out];exact R8.out⟩⟩
      | false =>
        rw [hi] at IF;have NA : Aside0 (outAt l news (j + 1) = out.take at_ ++ x :: out.drop at_) := ⟨by rw [NX.out];unfold stepL;rw [hh,hi,hat];rfl⟩
        have CA : Aside0 (cntAt l news (j + 1) = q + 1) := ⟨by rw [CX.out];unfold stepC;rw [hh,hi];rfl⟩
        rw [hat] at BS PL;clear hh hi hat
        go_wp2_with (first | (go_at_call 59;refine (BS.out _ (Kd.C_alloc R0.out _)).mono ?_;rintro e w6 ⟨rfl,hb⟩;have HB6 := Aside0.mk (below_then (below_alloc (Below.refl wr.heap.size wr) (Obj.cells #[.int .i64 x.f0,.int .i64 x.f1,.float .f64 x.f2,.float .f64 x.f3,.int .i64 x.f4] 61)) (by simp) hb);have K6 := Aside0.mk (blk_below (blk_new wr (Obj.cells #[.int .i64 x.f0,.int .i64 x.f1,.float .f64 x.f2,.float .f64 x.f3,.int .i64 x.f4] 61)) hb);clear hb y0 y1 y2 y3 y4;have x0 : w6.cell? ⟨wr.heap.size,0,none⟩ = some (.int .i64 x.f0) := (blk_cell K6.out 0).trans rfl;have x1 : w6.cell? ⟨wr.heap.size,1,none⟩ = some (.int .i64 x.f1) := (blk_cell K6.out 1).trans rfl;have x2 : w6.cell? ⟨wr.heap.size,2,none⟩ = some (.float .f64 x.f2) := (blk_cell K6.out 2).trans rfl;have x3 : w6.cell? ⟨wr.heap.size,3,none⟩ = some (.float .f64 x.f3) := (blk_cell K6.out 3).trans rfl;have x4 : w6.cell? ⟨wr.heap.size,4,none⟩ = some (.int .i64 x.f4) := (blk_cell K6.out 4).trans rfl) | (go_at_call 60;refine (IF.out _).mono ?_;rintro e w7 ⟨rfl,hd⟩;have HB7 := Aside0.mk (below_then HB6.out HB6.out.size hd.below);have K7 := Aside0.mk (blk_below K6.out hd.below);clear hd x0 x1 x2 x3 x4;have R7 := Aside0.mk (Kd.R_below R1.out HB7.out);have B7 := Aside0.mk (below_then B1.out B1.out.size HB7.out);have x0 : w7.cell? ⟨wr.heap.size,0,none⟩ = some (.int .i64 x.f0) := (blk_cell K7.out 0).trans rfl;have x1 : w7.cell? ⟨wr.heap.size,1,none⟩ = some (.int .i64 x.f1) := (blk_cell K7.out 1).trans rfl;have x2 : w7.cell? ⟨wr.heap.size,2,none⟩ = some (.float .f64 x.f2) := (blk_cell K7.out 2).trans rfl;have x3 : w7.cell? ⟨wr.heap.size,3,none⟩ = some (.float .f64 x.f3) := (blk_cell K7.out 3).trans rfl;have x4 : w7.cell? ⟨wr.heap.size,4,none⟩ = some (.int .i64 x.f4) := (blk_cell K7.out 4).trans rfl))
        go_cut [42] from 43 to 52 (fun s42 wx => s42 = .bool false ∧ Aside0 (Below w7.heap.size w7 wx))
        case first =>
          · skip
            refine start_ (n := 11) (S := fun w' => True) (ds := []) #[false,false,false,false,false,false,false,false,false,false,false] (by kernel_rfl) rfl rfl trivial (fun hHeld => ?_);refine manyD_ (fuel := 0) (a' := ?_) ((0,0) :: (1,0) :: (2,1) :: (3,1) :: (4,1) :: (5,1) :: (6,1) :: (7,1) :: (8,1) :: (9,0) :: (10,0) :: []) #[true,true,true,true,true,true,true,true,true,true,true] rfl (by kernel_rfl) (fun _ _ _ _ _ h => h) (fun h => absurd h (by decide)) ?_ ?_;rotate_left
            · repeat (first | exact Chain.nil _ | (apply Chain.on;rfl;rfl;(focus intro w';go_simp;with_reducible rfl);(focus simp only [Act.put,List.setIfInBounds_toArray,List.set_cons_zero,List.set_cons_succ,i64_w,i32_w];rfl)) | (apply Chain.off;rfl;rfl;(focus simp only [Act.put,List.setIfInBounds_toArray,List.set_cons_zero,List.set_cons_succ,i64_w,i32_w];rfl)))
            refine done_ (by kernel_rfl) ?_
            go_wp2_with fail
            go_meet
            exact ⟨rfl,⟨below_drew (Below.refl _ _)⟩⟩
        case rest =>
          obtain ⟨rfl,HX⟩ := hcut;have RX := Aside0.mk (Kd.R_below R7.out HX.out);have BX := Aside0.mk (below_then B7.out B7.out.size HX.out);have KX := Aside0.mk (blk_below K7.out HX.out);have x0 : wc.cell? ⟨wr.heap.size,0,none⟩ = some (.int .i64 x.f0) := (blk_cell KX.out 0).trans rfl;have x1 : wc.cell? ⟨wr.heap.size,1,none⟩ = some (.int .i64 x.f1) := (blk_cell KX.out 1).trans rfl;have x2 : wc.cell? ⟨wr.heap.size,2,none⟩ = some (.float .f64 x.f2) := (blk_cell KX.out 2).trans rfl;have x3 : wc.cell? ⟨wr.heap.size,3,none⟩ = some (.float .f64 x.f3) := (blk_cell KX.out 3).trans rfl;have x4 : wc.cell? ⟨wr.heap.size,4,none⟩ = some (.int .i64 x.f4) := (blk_cell KX.out 4).trans rfl;have INS := Aside0.mk (insert_any (Kd.R_alloc RX.out (Obj.cells (enc5 x).toArray 61)) (by rw [World.size_alloc];have := BX.out.size;omega) at_ PL.out x wc.heap.size (blk_new wc _) (fun k hk => by have := Kd.R_lt RX.out k hk;omega) LE.out);have BA := Aside0.mk (below_alloc BX.out (Obj.cells (enc5 x).toArray 61));have RB : Aside0 (∀ k,(Value.slice Av out.length cv).ownBlock = some k → w.heap.size ≤ k) := ⟨Kd.R_base RX.out⟩
          go_wp2_with (go_at_call 63;refine INS.out.mono ?_;rintro e w9 ⟨v',rfl,hR,hg9⟩;have R8 := Aside0.mk hR;have B8 := Aside0.mk (pw_below_grown BA.out _ BA.out.size hg9 RB.out);clear hR hg9)
          obtain ⟨Av2,cv2,e2⟩ := Kd.R_slice R8.out;subst e2
          go_roundg (news.length - (j + 1))
          case measure => omega
          case rel => exact ⟨j + 1,Av2,cv2,by go_num,by rw [CA.out];go_num,by rw [NA.out],by omega,Nat.le_refl _,B8,⟨by rw [NA.out];exact R8.out⟩⟩
end Go.Proofs.YtblemmagkehanaaGreat.PA
