/- slices.BinarySearchFunc of news by their order. Condition: what stands ahead of the target stands ahead of what does not. -/
import Derived.Test.YtblemmagkehanaaGreatZkMn
import Derived.Test.YtblemmagkehanaaGreatZkCi
import Derived.OwnWalkIn
namespace Go.Proofs.YtblemmagkehanaaGreat.PA
open Go.RowKit Go.Proofs.YtblemmagkehanaaGreatW.PrintWords Go.Proofs.YtblemmagkehanaaGreatW.PrintLast Go.Proofs.YtblemmagkehanaaGreatW.PrintMore
set_option linter.unusedVariables false
set_option linter.unusedSimpArgs false
def cmpV (x y : Int) : Int := if x < y then -1 else if x > y then 1 else 0
def ordV (a b : S61) : Int := if cmpV a.f1 b.f1 ≠ 0 then cmpV a.f1 b.f1 else cmpV a.f0 b.f0
theorem cmp_i (x y : Int) : cmp_Compare_int.f x y = some (cmpV x y) := by
  unfold cmp_Compare_int.f cmp_isNaN_int.f cmpV
  by_cases h1 : x < y <;> by_cases h2 : x > y <;> simp [h1, h2]
theorem or2 (a b : Int) (k : Nat) (hk : 3 ≤ k) : cmp_Or_int.f k [a, b] = some (if a ≠ 0 then a else b) := by
  obtain ⟨k, rfl⟩ : ∃ q, k = q + 3 := ⟨k - 3, by omega⟩
  unfold cmp_Or_int.f
  by_cases h1 : a = 0
  · by_cases h2 : b = 0
    · subst h1 h2
      simp [cmp_Or_int.l0, rd, rdOf, wrap64]
    subst h1
    simp [cmp_Or_int.l0, rd, rdOf, wrap64, h2]
  simp [cmp_Or_int.l0, rd, rdOf, wrap64, h1]
theorem order_f (a b : S61) : cache_order.f 3 a.f0 a.f1 a.f2 a.f3 a.f4 b.f0 b.f1 b.f2 b.f3 b.f4 = some (ordV a b) := by
  unfold cache_order.f;rw [cmp_i, Option.bind_some, cmp_i, Option.bind_some, or2 _ _ _ (by omega)];rfl
theorem ord_neg (a b : S61) : ordV a b < 0 ↔ aheadB a b = true := by
  unfold ordV aheadB cmpV
  by_cases h1 : a.f1 < b.f1
  · simp [h1]
  by_cases h2 : a.f1 > b.f1
  · have h3 : a.f1 ≠ b.f1 := by omega
    simp [h1, h2, h3]
  have h3 : a.f1 = b.f1 := by omega
  by_cases h4 : a.f0 < b.f0
  · simp [h3, h4]
  by_cases h5 : a.f0 > b.f0
  · simp [h3, h4, h5]
  simp [h3, h4, h5]
theorem ord_zero (a b : S61) : ordV a b = 0 ↔ a.f1 = b.f1 ∧ a.f0 = b.f0 := by
  unfold ordV cmpV
  by_cases h1 : a.f1 < b.f1
  · have h3 : a.f1 ≠ b.f1 := by omega
    simp [h1, h3]
  by_cases h2 : a.f1 > b.f1
  · have h3 : a.f1 ≠ b.f1 := by omega
    simp [h1, h2, h3]
  have h3 : a.f1 = b.f1 := by omega
  by_cases h4 : a.f0 < b.f0
  · have h6 : a.f0 ≠ b.f0 := by omega
    simp [h3, h4, h6]
  by_cases h5 : a.f0 > b.f0
  · have h6 : a.f0 ≠ b.f0 := by omega
    simp [h3, h4, h5, h6]
  have h6 : a.f0 = b.f0 := by omega
  simp [h3, h6]
def agg61 (x : S61) : Value := .agg #[.int .i64 x.f0, .int .i64 x.f1, .float .f64 x.f2, .float .f64 x.f3, .int .i64 x.f4]
theorem order_any (a b : S61) (W : World) : Calls Tryz.prog 58 #[agg61 a, agg61 b] W fun e w' => e = .returned (.int .i64 (ordV a b)) ∧ Below W.heap.size W w' :=
  cache_order.calls 3 a.f0 a.f1 a.f2 a.f3 a.f4 b.f0 b.f1 b.f2 b.f3 b.f4 _ W (order_f a b)
def posN (x : S61) : List S61 → Nat
  | [] => 0
  | y :: r => if aheadB y x = true then posN x r + 1 else 0
theorem posN_eq (x : S61) : ∀ (l : List S61) (i : Nat), i ≤ l.length → (∀ t, t < i → aheadB (l.getD t z61) x = true) → (i < l.length → aheadB (l.getD i z61) x = false) → posN x l = i
  | [], i, h1, _, _ => by simp at h1; simp [posN, h1]
  | y :: r, 0, h1, h2, h3 => by
    have := h3 (by simp);simp only [List.getD_cons_zero] at this
    simp [posN, this]
  | y :: r, i + 1, h1, h2, h3 => by
    have h4 := h2 0 (by omega);simp only [List.getD_cons_zero] at h4;have h5 := posN_eq x r i (by simpa using h1) (fun t ht => by simpa using h2 (t + 1) (by omega)) (fun ht => by simpa using h3 (by simpa using ht))
    simp [posN, h4, h5]
theorem posN_le (x : S61) : ∀ l : List S61, posN x l ≤ l.length
  | [] => Nat.le_refl _
  | y :: r => by
    have := posN_le x r;unfold posN
    split
    · simp; exact this
    simp
def hasN (x : S61) (l : List S61) : Bool := decide (posN x l < l.length) && decide (ordV (l.getD (posN x l) z61) x = 0)
theorem goesV_ {P : Program} {ops : Array Oper} {Q : Exit → Act → World → Prop} {oi : Oper} {N : Option Tmp} {a : Act} {w : World} {K : Act → World → Prop} {f : FuncId} {fn : Func} {o : Operand} {qs : Array Operand} {ts : Array TypeId} (hf : P.funcs[f]? = some fn) (hname : (fn.name == "runtime.NumGoroutine") = false) (hb : fn.body.isSome = true) (args : Array Value)
    (hw : Region.wanted oi (yielded ops a.tmps) = true) (hN : oi.dst = N) (hop : oi.op = .call { callee := .value o, args := qs, argTypes := ts }) (ho : a.eval o = .func (.func f) #[] #[]) (hargs : qs.map a.eval = args)
    (h : Calls P f args w fun e w' => ∃ v, e = .returned v ∧ K (a.put N v) w') : if Region.wanted oi (yielded ops a.tmps) = true then Oper.wp P oi a w K Q else K (a.put N undef) w := by
  refine call_ f args hw hN ?_ h;have he := enters_ hf hname hb args w;unfold execOp
  simp [hop, resolve, Deferred.ofValue, invoke, ho, hargs, he]
def Mono (x : S61) (l : List S61) : Prop := ∀ i j, i ≤ j → j < l.length → aheadB (l.getD j z61) x = true → aheadB (l.getD i z61) x = true
set_option maxHeartbeats 4000000 in
set_option maxRecDepth 100000 in
theorem bsearch_any {w : World} {A : Option Addr} {c : Nat} {l : List S61} (h : Kd.C k61 w A l.length l) (hl : l.length ≤ 4611686018427387904) (x : S61) (hm : Mono x l) :
    Calls Tryz.prog 59 #[.slice A l.length c, agg61 x, .func (.func 58) #[] #[]] w fun e w' => e = .returned (.tuple #[.int .i64 (posN x l : Nat), .bool (hasN x l)]) ∧ Below w.heap.size w w' := by
  have HC := Aside0.mk h;have M := Aside0.mk hm;have hu61 := Tryz.underlying61;obtain ⟨x0, x1, x2, x3, x4⟩ := x
  generalize hxx : (⟨x0, x1, x2, x3, x4⟩ : S61) = xx at hm M
  have XX := Aside0.mk hxx;have e1 : agg61 ⟨x0, x1, x2, x3, x4⟩ = .agg #[.int .i64 x0, .int .i64 x1, .float .f64 x2, .float .f64 x3, .int .i64 x4] := rfl;rw [hxx] at e1;rw [e1];clear h hm hxx e1;obtain ⟨wb, hwb⟩ : ∃ wb, wb = w.alloc (.cells #[.int .i64 x0, .int .i64 x1, .float .f64 x2, .float .f64 x3, .int .i64 x4] 61) := ⟨_, rfl⟩
  have B0 : Aside0 (Below w.heap.size w wb) := ⟨by rw [hwb]; exact below_alloc (Below.refl _ _) _⟩
  have K0 : Aside0 (wb.heap[w.heap.size]? = some (.cells #[.int .i64 x0, .int .i64 x1, .float .f64 x2, .float .f64 x3, .int .i64 x4] 61 (0, 0))) := ⟨by rw [hwb]; exact blk_new w _⟩
  go_enter Tryz.func59, Tryz.ntmps59;go_wp2;rw [← hwb];clear hwb
  go_loopg [9, 10] l.length (fun kx s9 s10 wr => ∃ lo hi : Nat, s9 = .int .i64 lo ∧ s10 = .int .i64 hi ∧ lo ≤ hi ∧ hi ≤ l.length ∧ hi - lo ≤ kx ∧ Aside0 (Below w.heap.size w wr) ∧ Aside0 (wr.heap[w.heap.size]? = some (.cells #[.int .i64 x0, .int .i64 x1, .float .f64 x2, .float .f64 x3, .int .i64 x4] 61 (0, 0))) ∧
    Aside0 ((∀ t, t < lo → aheadB (l.getD t z61) xx = true) ∧ (∀ t, hi ≤ t → t < l.length → aheadB (l.getD t z61) xx = false)))
  case atStart => exact ⟨0, l.length, rfl, rfl, Nat.zero_le _, Nat.le_refl _, by omega, B0, K0, ⟨fun t ht => absurd ht (Nat.not_lt_zero _), fun t h1 h2 => by omega⟩⟩
  case round =>
    clear B0 K0;obtain ⟨lo, hi, rfl, rfl, hlh, hin, hg, B1, K1, I⟩ := hrel;have h2 : (2 : Nat) ≠ 0 := by decide
    by_cases hlt : lo < hi
    · obtain ⟨md, hmd⟩ : ∃ md : Nat, ((lo : Int) + (hi : Int)) / 2 = (md : Int) := ⟨(lo + hi) / 2, by omega⟩
      have hm1 : lo ≤ md ∧ md < hi := by omega
      obtain ⟨ad, rfl, y0, y1, y2, y3, y4⟩ := at_T61 (Kd.C_below HC.out B1.out) (md : Int) (by omega) (by omega);rw [rdn] at y0 y1 y2 y3 y4;obtain ⟨y, hy⟩ : ∃ y, y = l.getD md z61 := ⟨_, rfl⟩
      rw [← hy] at y0 y1 y2 y3 y4;have Y := Aside0.mk hy;simp only [Int.toNat_natCast] at y0 y1 y2 y3 y4;have c0 : wr.cell? ⟨w.heap.size, 0, none⟩ = some (.int .i64 x0) := (blk_cell K1.out 0).trans rfl;have c1 : wr.cell? ⟨w.heap.size, 1, none⟩ = some (.int .i64 x1) := (blk_cell K1.out 1).trans rfl;have c2 : wr.cell? ⟨w.heap.size, 2, none⟩ = some (.float .f64 x2) := (blk_cell K1.out 2).trans rfl;have c3 : wr.cell? ⟨w.heap.size, 3, none⟩ = some (.float .f64 x3) := (blk_cell K1.out 3).trans rfl;have c4 : wr.cell? ⟨w.heap.size, 4, none⟩ = some (.int .i64 x4) := (blk_cell K1.out 4).trans rfl;obtain ⟨o, ho⟩ : ∃ o, ordV y xx = o := ⟨_, rfl⟩
      have OR : Aside0 (∀ W, Calls Tryz.prog 58 #[.agg #[.int .i64 y.f0, .int .i64 y.f1, .float .f64 y.f2, .float .f64 y.f3, .int .i64 y.f4], .agg #[.int .i64 x0, .int .i64 x1, .float .f64 x2, .float .f64 x3, .int .i64 x4]] W fun e w' => e = .returned (.int .i64 o) ∧ Below W.heap.size W w') := ⟨fun W => by
        have := order_any y xx W;rw [ho, ← XX.out] at this;exact this⟩
      have OV := Aside0.mk ho;clear hy ho
      go_wp2_with fail
      go_cut [31] (fun s31 wx => s31 = .bool (decide (o < 0)) ∧ Aside0 (Below wr.heap.size wr wx))
      case first =>
        go_region_with (go_at_call 58; refine (OR.out _).mono ?_; rintro e w7 ⟨rfl, hb⟩; have HB7 := Aside0.mk (below_then (below_drew (Below.refl wr.heap.size wr)) (Nat.le_refl _) hb); clear hb)
        all_goals (go_wp2_with fail)
        all_goals go_meet
        all_goals exact ⟨rfl, HB7⟩
      case rest =>
        obtain ⟨rfl, HX⟩ := hcut;have B2 := Aside0.mk (below_then B1.out B1.out.size HX.out);have K2 := Aside0.mk (blk_below K1.out HX.out)
        by_cases hneg : o < 0
        · have hn : decide (o < 0) = true := by simpa using hneg
          rw [hn]
          go_wp2_with fail
          go_roundg (hi - (md + 1))
          case measure => omega
          case rel => exact ⟨md + 1, hi, by go_num, rfl, by omega, hin, Nat.le_refl _, B2, K2, ⟨fun t ht => M.out t md (by omega) (by omega) (by rw [← Y.out]; exact (ord_neg y xx).1 (by rw [OV.out]; exact hneg)), I.out.2⟩⟩
        have hn : decide (o < 0) = false := by simpa using hneg
        rw [hn]
        go_wp2_with fail
        go_roundg (md - lo)
        case measure => omega
        case rel => exact ⟨lo, md, rfl, by go_num, by omega, by omega, Nat.le_refl _, B2, K2, ⟨I.out.1, fun t h1 h2 => by
          rw [Bool.eq_false_iff];intro h3;have h4 := M.out md t h1 h2 h3;rw [← Y.out] at h4;have h5 := (ord_neg y xx).2 h4;rw [OV.out] at h5;omega⟩⟩
    obtain rfl : lo = hi := by omega
    have PN : Aside0 (posN xx l = lo) := ⟨posN_eq xx l lo hin I.out.1 (fun h => I.out.2 lo (Nat.le_refl _) h)⟩
    by_cases hend : lo < l.length
    rotate_left
    · have HN : Aside0 (hasN xx l = false) := ⟨by unfold hasN; rw [PN.out]; simp [hend]⟩
      have hez : ¬ (lo : Int) < (l.length : Int) := by omega
      have hdd : decide (lo < l.length) = false := by simpa using hend
      clear hend
      go_wp2_with fail
      go_cut [48, 6, 7] from 35 to 48 (fun s48 s6 s7 wx => s6 = .int .i64 (lo : Nat) ∧ s7 = .bool false ∧ Aside0 (Below wr.heap.size wr wx))
      case first =>
        · skip
          refine start_ (n := 16) (S := fun w' => True) (ds := []) #[false, false, false, false, false, false, false, false, false, false, false, false, false, false, false, false] (by kernel_rfl) rfl rfl trivial (fun hHeld => ?_);refine manyD_ (fuel := 0) (a' := ?_) ((0, 0) :: (1, 0) :: (2, 0) :: (3, 0) :: (4, 0) :: (5, 1) :: (6, 1) :: (7, 1) :: (8, 1) :: (9, 1) :: (10, 1) :: (11, 1) :: (12, 1) :: (13, 0) :: (14, 0) :: (15, 0) :: []) #[true, true, true, true, true, true, true, true, true, true, true, true, true, true, true, true] rfl (by kernel_rfl) (fun _ _ _ _ _ h => h) (fun h => absurd h (by decide)) ?_ ?_;rotate_left
          · repeat (first | exact Chain.nil _ | (apply Chain.on; rfl; rfl; (focus intro w'; go_simp; with_reducible rfl); (focus simp only [Act.put, List.setIfInBounds_toArray, List.set_cons_zero, List.set_cons_succ, i64_w, i32_w]; rfl)) | (apply Chain.off; rfl; rfl; (focus simp only [Act.put, List.setIfInBounds_toArray, List.set_cons_zero, List.set_cons_succ, i64_w, i32_w]; rfl)))
          refine done_ (by kernel_rfl) ?_
          go_wp2_with fail
          go_meet
          exact ⟨rfl, rfl, ⟨below_drew (Below.refl _ _)⟩⟩
      case rest =>
        obtain ⟨rfl, rfl, HX⟩ := hcut
        go_wp2_with fail
        go_ret2;exact ⟨by rw [HN.out, PN.out]; rfl, below_then B1.out B1.out.size HX.out⟩
    obtain ⟨ad, rfl, y0, y1, y2, y3, y4⟩ := at_T61 (Kd.C_below HC.out B1.out) (lo : Int) (by omega) (by omega);rw [rdn] at y0 y1 y2 y3 y4;obtain ⟨y, hy⟩ : ∃ y, y = l.getD lo z61 := ⟨_, rfl⟩
    rw [← hy] at y0 y1 y2 y3 y4;have Y := Aside0.mk hy;simp only [Int.toNat_natCast] at y0 y1 y2 y3 y4;have c0 : wr.cell? ⟨w.heap.size, 0, none⟩ = some (.int .i64 x0) := (blk_cell K1.out 0).trans rfl;have c1 : wr.cell? ⟨w.heap.size, 1, none⟩ = some (.int .i64 x1) := (blk_cell K1.out 1).trans rfl;have c2 : wr.cell? ⟨w.heap.size, 2, none⟩ = some (.float .f64 x2) := (blk_cell K1.out 2).trans rfl;have c3 : wr.cell? ⟨w.heap.size, 3, none⟩ = some (.float .f64 x3) := (blk_cell K1.out 3).trans rfl;have c4 : wr.cell? ⟨w.heap.size, 4, none⟩ = some (.int .i64 x4) := (blk_cell K1.out 4).trans rfl;obtain ⟨o, ho⟩ : ∃ o, ordV y xx = o := ⟨_, rfl⟩
    have OR : Aside0 (∀ W, Calls Tryz.prog 58 #[.agg #[.int .i64 y.f0, .int .i64 y.f1, .float .f64 y.f2, .float .f64 y.f3, .int .i64 y.f4], .agg #[.int .i64 x0, .int .i64 x1, .float .f64 x2, .float .f64 x3, .int .i64 x4]] W fun e w' => e = .returned (.int .i64 o) ∧ Below W.heap.size W w') := ⟨fun W => by
      have := order_any y xx W;rw [ho, ← XX.out] at this;exact this⟩
    have HN : Aside0 (hasN xx l = (o == 0)) := ⟨by unfold hasN; rw [PN.out, ← hy, ho]; simp [hend]; rfl⟩
    have hez : (lo : Int) < (l.length : Int) := by omega
    clear hy ho hend
    go_wp2_with fail
    go_cut [48, 6, 7] from 35 to 48 (fun s48 s6 s7 wx => s6 = .int .i64 (lo : Nat) ∧ s7 = .bool (o == 0) ∧ Aside0 (Below wr.heap.size wr wx))
    case first =>
      · skip
        refine start_ (n := 16) (S := fun w' => w'.cell? ⟨w.heap.size, 0, none⟩ = some (.int .i64 x0) ∧ w'.cell? ⟨w.heap.size, 1, none⟩ = some (.int .i64 x1) ∧ w'.cell? ⟨w.heap.size, 2, none⟩ = some (.float .f64 x2) ∧ w'.cell? ⟨w.heap.size, 3, none⟩ = some (.float .f64 x3) ∧ w'.cell? ⟨w.heap.size, 4, none⟩ = some (.int .i64 x4) ∧ w'.cell? (ad.add (lo * 5)) = some (.int .i64 y.f0) ∧ w'.cell? ⟨(ad.add (lo * 5)).block, (ad.add (lo * 5)).off + 1, none⟩ = some (.int .i64 y.f1) ∧ w'.cell? ⟨(ad.add (lo * 5)).block, (ad.add (lo * 5)).off + 2, none⟩ = some (.float .f64 y.f2) ∧ w'.cell? ⟨(ad.add (lo * 5)).block, (ad.add (lo * 5)).off + 3, none⟩ = some (.float .f64 y.f3) ∧ w'.cell? ⟨(ad.add (lo * 5)).block, (ad.add (lo * 5)).off + 4, none⟩ = some (.int .i64 y.f4)) (ds := []) #[false, false, false, false, false, false, false, false, false, false, false, false, false, false, false, false] (by kernel_rfl) rfl rfl ⟨c0, c1, c2, c3, c4, y0, y1, y2, y3, y4⟩ (fun hHeld => ?_);refine manyD_ (fuel := 5) (a' := ?_) ((0, 0) :: (1, 0) :: (2, 0) :: (3, 0) :: (4, 0) :: (5, 0) :: (6, 0) :: (7, 0) :: (8, 0) :: (9, 2) :: (10, 2) :: []) #[true, true, true, true, true, true, true, true, true, true, true, false, false, false, false, false] rfl (by kernel_rfl) (fun _ _ _ _ _ h => h) (fun _ => hHeld) ?_ ?_;rotate_left
        · repeat (first | exact Chain.nil _ | (apply Chain.on; rfl; rfl; (focus intro w'; go_simp; with_reducible rfl); (focus simp only [Act.put, List.setIfInBounds_toArray, List.set_cons_zero, List.set_cons_succ, i64_w, i32_w]; rfl)) | (apply Chain.take; rfl; rfl; (focus rintro w' ⟨s0, s1, s2, s3, s4, s5, s6, s7, s8, s9⟩; go_simp; with_reducible rfl); (focus simp only [Act.put, List.setIfInBounds_toArray, List.set_cons_zero, List.set_cons_succ, i64_w, i32_w]; rfl)))
        refine one_ (i := 11) (N := some 46) #[true, true, true, true, true, true, true, true, true, true, true, true, false, false, false, false] rfl rfl (by kernel_rfl) (by decide) (fun K hK => ?_);refine goesV_ Tryz.func58 (by kernel_rfl) rfl #[.agg #[.int .i64 y.f0, .int .i64 y.f1, .float .f64 y.f2, .float .f64 y.f3, .int .i64 y.f4], .agg #[.int .i64 x0, .int .i64 x1, .float .f64 x2, .float .f64 x3, .int .i64 x4]] (by rfl) rfl rfl rfl (by simp only [List.map_toArray, List.map_cons, List.map_nil]; rfl) ?_
        with_reducible refine (OR.out _).mono ?_
        rintro e w7 ⟨rfl, hb⟩;refine ⟨_, rfl, ?_⟩;have HB7 := Aside0.mk (below_then (below_drew (Below.refl wr.heap.size wr)) (Nat.le_refl _) hb);clear hb;refine hK.out _ _ ⟨(pw_cell_below HB7.out c0), (pw_cell_below HB7.out c1), (pw_cell_below HB7.out c2), (pw_cell_below HB7.out c3), (pw_cell_below HB7.out c4), (pw_cell_below HB7.out y0), (pw_cell_below HB7.out y1), (pw_cell_below HB7.out y2), (pw_cell_below HB7.out y3), (pw_cell_below HB7.out y4)⟩ (fun hHeld => ?_);clear hK K;refine norm_ (a' := ?_) ?_ ?_;rotate_left
        · show Act.put _ (some 46) _ = _
          simp only [Act.put, List.setIfInBounds_toArray, List.set_cons_zero, List.set_cons_succ, i64_w, i32_w];rfl
        refine manyD_ (fuel := 0) (a' := ?_) ((12, 0) :: (13, 0) :: (14, 0) :: (15, 0) :: []) #[true, true, true, true, true, true, true, true, true, true, true, true, true, true, true, true] rfl (by kernel_rfl) (fun _ _ _ _ _ h => h) (fun h => absurd h (by decide)) ?_ ?_;rotate_left
        · repeat (first | exact Chain.nil _ | (apply Chain.on; rfl; rfl; (focus intro w'; go_simp; with_reducible rfl); (focus simp only [Act.put, List.setIfInBounds_toArray, List.set_cons_zero, List.set_cons_succ, i64_w, i32_w]; rfl)))
        refine done_ (by kernel_rfl) ?_
        go_wp2_with fail
        go_meet
        exact ⟨rfl, rfl, HB7⟩
    case rest =>
      obtain ⟨rfl, rfl, HX⟩ := hcut
      go_wp2_with fail
      go_ret2;exact ⟨by rw [HN.out, PN.out]; rfl, below_then B1.out B1.out.size HX.out⟩
end Go.Proofs.YtblemmagkehanaaGreat.PA
