/- cache.may: whether news may be told, in plain terms. Condition: their floats are words below 2^64. -/
import Derived.Test.YtblemmagkehanaaGreatZkCm
namespace Go.Proofs.YtblemmagkehanaaGreat.PA
open Go.RowKit Go.Proofs.YtblemmagkehanaaGreatW.PrintWords Go.Proofs.YtblemmagkehanaaGreatW.PrintLast Go.Proofs.YtblemmagkehanaaGreatW.PrintMore
set_option linter.unusedVariables false
set_option linter.unusedSimpArgs false
theorem check_any {W : World} {A1 : Option Addr} {c1 : Nat} (x : S61) (h : Kd.C k61 W A1 1 [x]) (hc : 1 ≤ c1) (h2 : x.f2 < 18446744073709551616) (h3 : x.f3 < 18446744073709551616) :
    Calls Tryz.prog 57 #[.agg (msgV A1 c1)] W fun e w' => e = .returned (.int .i64 (chk60 (mayB x))) ∧ Below W.heap.size W w' := by
  have hk := chk_all [x] (fun n hn => by rw [List.mem_singleton.1 hn];exact ⟨h2,h3⟩) (by simp) 9 (by simp);have e1 : risFrom [x] [x].length 0 = mayB x := by simp [risFrom,okAt]
  rw [e1] at hk;exact message_Check.calls 9 2 1 1 1 A1 c1 [x] 0 0 0 0 0 0 0 0 _ 0 0 _ _ W h hc hk
theorem mid_one (l : List S61) (i : Nat) (h : i < l.length) : (l.take (i + 1)).drop i = [l.getD i z61] := by
  rw [List.take_succ_eq_append_getElem h,List.drop_left' (by simp;omega)]
  simp [List.getD_eq_getElem?_getD,h]
theorem C_one {W : World} {ad : Addr} {c i : Nat} {l : List S61} (h : Kd.C k61 W (some ad) l.length l) (hi : i < l.length) (hc : l.length ≤ c) : Kd.C k61 W (some (ad.add (i * 5))) 1 [l.getD i z61] := by
  have h1 := Kd.C_mid (lo := i) (hi := i + 1) (c := c) h (by omega) (by omega) hc;rw [if_neg (by omega),mid_one l i hi] at h1;exact h1
theorem getD_mem {l : List S61} {i : Nat} (h : i < l.length) : l.getD i z61 ∈ l := by
  simp [List.getD_eq_getElem?_getD,h]
set_option maxHeartbeats 8000000 in
set_option maxRecDepth 1000000 in
theorem may_any {w : World} {A : Option Addr} {c : Nat} {l : List S61} (h : Kd.C k61 w A l.length l) (hc : l.length ≤ c) (hw : WordsN l) (hl : l.length ≤ 4611686018427387903) :
    Calls Tryz.prog 34 #[.slice A l.length c] w fun e w' => e = .returned (.bool (risFrom l l.length 0)) ∧ Below w.heap.size w w' := by
  have HC := Aside0.mk h;have HW := Aside0.mk hw;have hu61 := Tryz.underlying61;have hu105 := Tryz.underlying105;have CC := Aside0.mk hc;clear h hw hc;go_enter Tryz.func34,Tryz.ntmps34;go_wp2
  go_loopg [8] l.length (fun kx s8 wr => ∃ i : Nat,s8 = .int .i64 i ∧ i ≤ l.length ∧ l.length - i ≤ kx ∧ Aside0 (Below w.heap.size w wr) ∧ Aside0 (risFrom l l.length 0 = risFrom l (l.length - i) i))
  case atStart => exact ⟨0,rfl,Nat.zero_le _,by omega,⟨Below.refl _ _⟩,⟨rfl⟩⟩
  case round =>
    obtain ⟨i,rfl,hin,hg,B1,I⟩ := hrel
    by_cases hlt : i < l.length
    rotate_left
    · have hieq : i = l.length := by omega
      have RF : Aside0 (risFrom l l.length 0 = true) := ⟨by rw [I.out,hieq,Nat.sub_self];rfl⟩
      go_wp2_with fail
      go_ret;exact ⟨by rw [RF.out];rfl,B1.out⟩
    obtain ⟨ad,rfl,y0,y1,y2,y3,y4⟩ := at_T61 (Kd.C_below HC.out B1.out) (i : Int) (by omega) (by omega);rw [rdn] at y0 y1 y2 y3 y4;obtain ⟨x,hx⟩ : ∃ x,x = l.getD i z61 := ⟨_,rfl⟩
    rw [← hx] at y0 y1 y2 y3 y4;have X := Aside0.mk hx;simp only [Int.toNat_natCast] at y0 y1 y2 y3 y4;clear hx;have hic : i ≤ c := by have := CC.out;omega
    have hic1 : i + 1 ≤ c := by have := CC.out;omega
    have hiz : (i : Int) + 1 ≤ (l.length : Int) := by omega
    go_upto_region 5 with fail
    obtain ⟨w5,hw5⟩ : ∃ w5,w5 = (wr.alloc (Obj.cells #[.int .i64 x.f0,.int .i64 x.f1,.float .f64 x.f2,.float .f64 x.f3,.int .i64 x.f4] 61)).alloc (Obj.cells (msgV (some (ad.add (i * 5))) (c - i)) 105) := ⟨_,rfl⟩
    have HB5 : Aside0 (Below wr.heap.size wr w5) := ⟨by rw [hw5];exact below_alloc (below_alloc (Below.refl _ _) _) _⟩
    have H4 : Aside0 (w5.heap[wr.heap.size]? = some (.cells #[.int .i64 x.f0,.int .i64 x.f1,.float .f64 x.f2,.float .f64 x.f3,.int .i64 x.f4] 61 (0,0))) := ⟨by rw [hw5];exact blk_alloc (blk_new _ _) _⟩
    have H5 : Aside0 (w5.heap[wr.heap.size + 1]? = some (.cells (msgV (some (ad.add (i * 5))) (c - i)) 105 (0,0))) := ⟨by
      rw [hw5];have := blk_new (wr.alloc (Obj.cells #[.int .i64 x.f0,.int .i64 x.f1,.float .f64 x.f2,.float .f64 x.f3,.int .i64 x.f4] 61)) (Obj.cells (msgV (some (ad.add (i * 5))) (c - i)) 105)
      rwa [World.size_alloc] at this⟩
    have HWx := HW.out x (by rw [X.out];exact getD_mem hlt);have CK : ∀ b,mayB x = b → Aside0 (∀ W,Below w5.heap.size w5 W → Calls Tryz.prog 57 #[.agg (msgV (some (ad.add (i * 5))) (c - i))] W fun e w' => e = .returned (.int .i64 (chk60 b)) ∧ Below W.heap.size W w') := fun b hb => ⟨fun W hW => by
      have h1 := C_one (c := c) (Kd.C_below (Kd.C_below (Kd.C_below HC.out B1.out) HB5.out) hW) hlt CC.out;rw [← X.out] at h1;have h2 := check_any x h1 (c1 := c - i) (by omega) HWx.1 HWx.2;rw [hb] at h2;exact h2⟩
    have RS : Aside0 (risFrom l (l.length - i) i = (okAt l i && risFrom l (l.length - (i + 1)) (i + 1))) := ⟨by rw [show l.length - i = (l.length - (i + 1)) + 1 by omega];rfl⟩
    have OA : Aside0 (okAt l i = (mayB x && (i == 0 || aheadB (l.getD (i - 1) z61) x))) := ⟨by unfold okAt;rw [← X.out]⟩
    rw [← hw5];clear hw5
    cases hmb : mayB x with
    | false =>
      refine may_bad (w := w) _ _ _ _ _ _ _ _ _ _ _ _ _ _ _ _ _ _ _ _ _ _ _ _ _ _ _ _ _ _ _ _ _ _ H4.out H5.out (CK _ hmb) ?_;intro u19 u20 u21 u22 u23 u24 u25 u26 u27 u28 u29 u30 u31 u32 u33 u34 wz hbz;have HZ := Aside0.mk (below_then B1.out B1.out.size (below_then HB5.out HB5.out.size hbz));have RF : Aside0 (risFrom l l.length 0 = false) := ⟨by rw [I.out,RS.out,OA.out,hmb];rfl⟩
      clear hbz
      go_wp2_with fail
      go_ret;exact ⟨by rw [RF.out];rfl,HZ.out⟩
    | true =>
      cases i with
      | zero =>
        refine may_first (w := w) _ _ _ _ _ _ _ _ _ _ _ _ _ _ _ _ _ _ _ _ _ _ _ _ _ _ _ _ _ _ _ _ _ H4.out H5.out (CK _ hmb) ?_;intro u19 u20 u21 u22 u23 u24 u25 u26 u27 u28 u29 u30 u31 u32 u33 u34 wz hbz;have HZ := Aside0.mk (below_then B1.out B1.out.size (below_then HB5.out HB5.out.size hbz));have I2 : Aside0 (risFrom l l.length 0 = risFrom l (l.length - 1) 1) := ⟨by rw [I.out,RS.out,OA.out,hmb];rfl⟩
        clear hbz
        go_wp2_with fail
        go_roundg (l.length - 1)
        case measure => omega
        case rel => exact ⟨1,by go_num,by omega,Nat.le_refl _,HZ,I2⟩
      | succ k =>
        obtain ⟨y,hy⟩ : ∃ y,y = l.getD k z61 := ⟨_,rfl⟩
        obtain ⟨o,ho⟩ : ∃ o,ordV y x = o := ⟨_,rfl⟩
        obtain ⟨ad2,e2,q0,q1,q2,q3,q4⟩ := at_T61 (Kd.C_below (Kd.C_below HC.out B1.out) HB5.out) (k : Int) (by omega) (by omega)
        cases e2
        rw [rdn,← hy] at q0 q1 q2 q3 q4;simp only [Int.toNat_natCast] at q0 q1 q2 q3 q4;have OR : Aside0 (∀ W,Calls Tryz.prog 58 #[.agg #[.int .i64 y.f0,.int .i64 y.f1,.float .f64 y.f2,.float .f64 y.f3,.int .i64 y.f4],.agg #[.int .i64 x.f0,.int .i64 x.f1,.float .f64 x.f2,.float .f64 x.f3,.int .i64 x.f4]] W fun e w' => e = .returned (.int .i64 o) ∧ Below W.heap.size W w') := ⟨fun W => by
          have := order_any y x W;rw [ho] at this;exact this⟩
        have AH : Aside0 (okAt l (k + 1) = aheadB y x) := ⟨by rw [OA.out,hmb,hy];rfl⟩
        have OV := Aside0.mk ho;rw [show ((k + 1 : Nat) : Int) = (k : Int) + 1 from rfl];refine may_next (w := w) _ _ _ _ _ _ _ _ _ _ _ _ _ _ _ _ _ _ _ _ _ _ _ _ _ _ _ _ _ _ _ _ _ H4.out H5.out (CK _ hmb) hlt (by omega) q0 q1 q2 q3 q4 OR ?_;intro u19 u20 u21 u22 u23 u24 u25 u26 u27 u28 u29 u30 u31 u32 u33 u34 wz hbz;have HZ := Aside0.mk (below_then B1.out B1.out.size (below_then HB5.out HB5.out.size hbz));clear hbz hy ho q0 q1 q2 q3 q4
        by_cases hneg : o < 0
        · have hn : decide (o ≥ 0) = false := by simp;omega
          have I2 : Aside0 (risFrom l l.length 0 = risFrom l (l.length - (k + 1 + 1)) (k + 1 + 1)) := ⟨by rw [I.out,RS.out,AH.out,(ord_neg y x).1 (by rw [OV.out];exact hneg)];rfl⟩
          rw [hn]
          go_wp2_with fail
          go_roundg (l.length - (k + 1 + 1))
          case measure => omega
          case rel => exact ⟨k + 1 + 1,by go_num,by omega,Nat.le_refl _,HZ,I2⟩
        have hn : decide (o ≥ 0) = true := by simp;omega
        have RF : Aside0 (risFrom l l.length 0 = false) := ⟨by
          rw [I.out,RS.out,AH.out]
          cases ha : aheadB y x with
          | false => rfl
          | true => exact absurd ((ord_neg y x).2 ha) (by rw [OV.out];exact hneg)⟩
        rw [hn]
        go_wp2_with fail
        go_ret;exact ⟨by rw [RF.out];rfl,HZ.out⟩
end Go.Proofs.YtblemmagkehanaaGreat.PA
