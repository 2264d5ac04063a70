/- (*net).dists: the code's distances from a place are the least ones. Conditions: a net as checked lays it, at most 256 places, the float words. -/
import Derived.Test.YtmdkcecbklgihaaCcGa
import Derived.Test.YtmdkcecbklgihaaCcHf
import Derived.Test.YtmdkcecbklgihaaCcHg
import Derived.Test.YtmdkcecbklgihaaCcMp
namespace Go.Proofs.Ytmdkcecbklgihaa.PA
open Go.RowKit Go.Proofs.YtmdkcecbklgihaaW.PrintWords Go.Proofs.YtmdkcecbklgihaaW.PrintLast Go.Proofs.YtmdkcecbklgihaaW.PrintMore
set_option linter.unusedVariables false
set_option linter.unusedSimpArgs false
structure FL (enc wenc : Nat → Nat) (M mx W : Nat) : Prop where
  pos : 0 < M
  zero : enc 0 = 0
  inf : enc M = 9218868437227405312
  ord : ∀ a b, a ≤ M → b ≤ M → FloatKind.f64.format.order (enc a) (enc b) = some (compare a b)
  add : ∀ w d, 1 ≤ w → w ≤ W → d ≤ M → metric_Add.f (wenc w) (enc d) mx = some (enc (min M (w + d)))
def rowOf (wenc : Nat → Nat) (row : List (Nat × Nat)) : List S81 := row.map fun e => ⟨(e.1 : Int), wenc e.2⟩
def placesOf (nodes : List S40) : List (Int × Value) := nodes.zipIdx.map fun e => (e.1.f0, .int .i64 (e.2 : Int))
def NetAt (w : World) (g : Nat) (nodes : List S40) (links : List S74) (mx : Nat) (adj : List (List S81)) : Prop := ∃ A0 c0 A1 c1 mb A3 c3,
  w.heap[g]? = some (.cells #[.slice A0 nodes.length c0, .slice A1 links.length c1, .float .f64 mx, .map (some mb), .slice A3 adj.length c3] 66 (0, 0)) ∧
  Kd.C k40 w A0 nodes.length nodes ∧ nodes.length ≤ c0 ∧ Kd.C (Kd.slice 81 k81) w A3 adj.length adj ∧ adj.length ≤ c3 ∧ IsMap w mb (Value.int .i64) (placesOf nodes)
theorem NetAt.below {w w' : World} {g : Nat} {nodes : List S40} {links : List S74} {mx : Nat} {adj : List (List S81)} (h : NetAt w g nodes links mx adj) (hb : Below w.heap.size w w') : NetAt w' g nodes links mx adj := by
  obtain ⟨A0, c0, A1, c1, mb, A3, c3, h1, h2, h3, h4, h5, h6⟩ := h
  exact ⟨A0, c0, A1, c1, mb, A3, c3, blk_below h1 hb, Kd.C_below h2 hb, h3, Kd.C_below h4 hb, h5, h6.below hb⟩
def dcells (enc : Nat → Nat) (q : List Nat) : List Value := q.map fun x => .float .f64 (enc x)
def rd_L81 (xs : List (List S81)) (i : Int) : (List S81) := xs.getD i.toNat ([] : List S81)
theorem at_L81 {w : World} {A : Option Addr} {n : Nat} {xs : List (List S81)} (h : Kd.C (Kd.slice 81 k81) w A n xs) (i : Int) (h0 : 0 ≤ i) (h1 : i < n) : ∃ ad A0 c0, A = some ad ∧ w.cell? (ad.add i.toNat) = some (.slice A0 (rd_L81 xs i).length c0) ∧ (rd_L81 xs i).length ≤ c0 ∧ k81.C w A0 (rd_L81 xs i).length (rd_L81 xs i) := by
  obtain ⟨ad, c, e, _, hK, hc0⟩ := Kd.C_get h ([] : List S81) i h0 h1
  have hc : ∀ j u, c[j]? = some u → w.cell? (ad.add (i.toNat * 1 + j)) = some u := hc0
  obtain ⟨A0, c0, rfl, l0, g0⟩ := hK
  exact ⟨ad, A0, c0, e, by have hq := hc 0 _ rfl; rwa [Nat.mul_one, Nat.add_zero] at hq, l0, g0⟩
theorem HeapAt.below {w w' : World} {base hb : Nat} {v : Value} {xs : List S81} (h : HeapAt w base hb v xs) (hb1 : Below w.heap.size w w') : HeapAt w' base hb v xs := ⟨blk_below h.1 hb1, Kd.R_below h.2 hb1⟩
theorem FL.inj {enc wenc : Nat → Nat} {M mx W : Nat} (h : FL enc wenc M mx W) (a b : Nat) (ha : a ≤ M) (hb : b ≤ M) (e : enc a = enc b) : a = b := by
  have h1 := h.ord a b ha hb
  have h2 := h.ord b b hb hb
  rw [e] at h1
  have h3 := Option.some.inj (h1.symm.trans h2)
  have h4 : compare b b = .eq := Nat.compare_eq_eq.2 rfl
  rw [h4] at h3
  exact Nat.compare_eq_eq.1 h3
theorem FL.gt {enc wenc : Nat → Nat} {M mx W : Nat} (h : FL enc wenc M mx W) (a b : Nat) (ha : a ≤ M) (hb : b ≤ M) : (FloatKind.f64.format.order (enc a) (enc b) == some .gt) = decide (b < a) := by
  rw [h.ord a b ha hb]
  by_cases hlt : b < a
  · rw [decide_eq_true hlt, Nat.compare_eq_gt.2 hlt]
    rfl
  rw [decide_eq_false hlt]
  rcases Nat.lt_or_ge a b with h1 | h1
  · rw [Nat.compare_eq_lt.2 h1]
    rfl
  rw [Nat.compare_eq_eq.2 (by omega : a = b)]
  rfl
theorem FL.lt {enc wenc : Nat → Nat} {M mx W : Nat} (h : FL enc wenc M mx W) (a b : Nat) (ha : a ≤ M) (hb : b ≤ M) : (FloatKind.f64.format.order (enc a) (enc b) == some .lt) = decide (a < b) := by
  rw [h.ord a b ha hb]
  by_cases hlt : a < b
  · rw [decide_eq_true hlt, Nat.compare_eq_lt.2 hlt]
    rfl
  rw [decide_eq_false hlt]
  rcases Nat.lt_or_ge b a with h1 | h1
  · rw [Nat.compare_eq_gt.2 h1]
    rfl
  rw [Nat.compare_eq_eq.2 (by omega : a = b)]
  rfl
theorem meth_push (p : Addr) (w : World) : Sem.run Try.prog (method 251 84 (.pointer (some p)) "beacon/paths.push") w = .ok (118, .pointer (some p)) w := by kernel_rfl
theorem meth_pop (p : Addr) (w : World) : Sem.run Try.prog (method 251 84 (.pointer (some p)) "beacon/paths.pop") w = .ok (117, .pointer (some p)) w := by kernel_rfl
theorem meth_size (p : Addr) (w : World) : Sem.run Try.prog (method 251 84 (.pointer (some p)) "beacon/paths.size") w = .ok (119, .pointer (some p)) w := by kernel_rfl
set_option maxRecDepth 100000 in
theorem size_calls (base hb : Nat) (v : Value) (xs : List S81) (w : World) (hH : HeapAt w base hb v xs) :
    Calls Try.prog 119 #[.pointer (some ⟨hb, 0, none⟩)] w fun e w' => e = .returned (.int .i64 (xs.length : Int)) ∧ w' = w := by
  obtain ⟨A, c, rfl⟩ := Kd.R_slice hH.2
  have k0 := (blk_cell hH.1 0).trans rfl
  have hu86 := Try.underlying86
  go_enter Try.func119, Try.ntmps119
  go_wp2_with fail
  go_ret
  exact ⟨rfl, rfl⟩
theorem dcells_far (enc : Nat → Nat) (M n : Nat) (h : enc M = 9218868437227405312) : filled 9218868437227405312 n n = dcells enc (List.replicate n M) := by
  simp [filled, dcells, h]
theorem dcells_set (enc : Nat → Nat) (q : List Nat) (i x : Nat) : (dcells enc q).toArray.setIfInBounds i (.float .f64 (enc x)) = (dcells enc (q.set i x)).toArray := by
  simp [dcells, List.map_set]
theorem dcells_set0 (enc : Nat → Nat) (h : enc 0 = 0) (q : List Nat) (i : Nat) : (dcells enc q).toArray.setIfInBounds i (.float .f64 0) = (dcells enc (q.set i 0)).toArray := by
  have := dcells_set enc q i 0
  rwa [h] at this
theorem HeapTo.step {base hb : Nat} {w0 w w' : World} {v v' : Value} (h : HeapTo w w' hb v v') (hB : Below base w0 w) (h1 : base ≤ hb) (h2 : ∀ k, v.ownBlock = some k → base ≤ k) (h3 : base ≤ w.heap.size) : Below base w0 w' :=
  ⟨h.os.trans hB.os, h.tape.trans hB.tape, h.output.trans hB.output, Nat.le_trans hB.size h.size, fun k hk => (h.keep k (Nat.lt_of_lt_of_le hk h3) (by omega) (fun e => by have := h2 k e.symm; omega)).trans (hB.block k hk)⟩
theorem HeapTo.blk {hb b : Nat} {w w' : World} {v v' : Value} {o : Obj} (h : HeapTo w w' hb v v') (hb1 : w.heap[b]? = some o) (h1 : b ≠ hb) (h2 : some b ≠ v.ownBlock) : w'.heap[b]? = some o := (h.keep b (blk_lt hb1) h1 h2).trans hb1
theorem HeapAt.base {w : World} {base hb : Nat} {v : Value} {xs : List S81} (h : HeapAt w base hb v xs) : ∀ k, v.ownBlock = some k → base ≤ k := Kd.R_base h.2
theorem HeapAt.typed {w : World} {base hb b : Nat} {v : Value} {xs : List S81} {cs : Array Value} {t : TypeId} (h : HeapAt w base hb v xs) (hb1 : w.heap[b]? = some (.cells cs t (0, 0))) (ht : 81 ≠ t) : some b ≠ v.ownBlock := Kd.R_ne h.2 hb1 ht
theorem dcells_at (enc : Nat → Nat) (q : List Nat) (i : Nat) (h : i < q.length) : (dcells enc q).toArray[i]? = some (.float .f64 (enc (q.getD i 0))) := by
  simp [dcells, h, List.getD_eq_getElem?_getD]
set_option maxHeartbeats 8000000 in
set_option maxRecDepth 100000 in
theorem dists_calls (enc wenc : Nat → Nat) (M mx W n s g : Nat) (nodes : List S40) (links : List S74) (R : Adj) (w : World) (hF : FL enc wenc M mx W) (hN : NetAt w g nodes links mx (R.map (rowOf wenc))) (hW : Wf R n) (hn : nodes.length = n) (hs : s < n) (hn2 : n ≤ 256) (hw : ∀ p e, e ∈ R.getD p [] → e.2 ≤ W) (hM : M ≤ 4294967296) :
    Calls Try.prog 33 #[.pointer (some ⟨g, 0, none⟩), .int .i64 (s : Int)] w fun e w' => ∃ b q, e = .returned (.slice (some ⟨b, 0, none⟩) n n) ∧ w.heap.size ≤ b ∧ w'.heap[b]? = some (.cells (dcells enc q).toArray 26 (0, 0)) ∧ Below w.heap.size w w' ∧ (((nodes.getD s z40).f1 = true ∧ IsDist R M s n q) ∨ ((nodes.getD s z40).f1 = false ∧ q = List.replicate n M)) := by
  have NN := Aside0.mk hN
  obtain ⟨A0, c0, A1, c1, mb, A3, c3, h1, h2, h3, h4, h5, h6⟩ := hN
  rw [hn] at h1 h2 h3
  have k0 := (blk_cell h1 0).trans rfl
  have k1 := (blk_cell h1 2).trans rfl
  have k2 := (blk_cell h1 4).trans rfl
  obtain ⟨ad, e0, hx0, hx1, hx2⟩ := at_T40 h2 (s : Int) (by omega) (by omega)
  subst e0
  obtain ⟨nd, hnd⟩ : ∃ nd, nodes.getD s z40 = nd := ⟨_, rfl⟩
  have hrd : rd_T40 nodes (s : Int) = nd := by
    unfold rd_T40
    rw [Int.toNat_natCast]
    exact hnd
  rw [hrd, Int.toNat_natCast] at hx0 hx1 hx2
  rw [hnd]
  have B1 := Aside0.mk h1
  have C2 := Aside0.mk h2
  have C4 := Aside0.mk h4
  clear h1 h2 h4 h6 hrd hx0 hx2
  have hu34 := Try.underlying34
  have hu22 := Try.underlying22
  have hu66 := Try.underlying66
  have hsz : (s : Int) < (n : Int) := by omega
  go_enter Try.func33, Try.ntmps33
  go_wp2_with fail
  refine (far_calls n _ (by omega) (by omega)).mono ?_
  rintro e w1 ⟨b, rfl, hb1, hb2, hb3⟩
  rw [dcells_far enc M n hF.inf] at hb2
  have HB := Aside0.mk hb3
  have HBL := Aside0.mk hb2
  have GE := Aside0.mk hb1
  have hx1' := (hb3.cell (World.block_lt_of_cell? w _ hx1)).trans hx1
  have k0' := (hb3.cell (World.block_lt_of_cell? w _ k0)).trans k0
  have d0 : w1.cell? ⟨b, s, none⟩ = some (.float .f64 (enc M)) := (blk_cell hb2 s).trans ((dcells_at enc _ s (by simpa using hs)).trans (by simp [List.getD_eq_getElem?_getD, hs]))
  have d1 := blk_frozen hb2 s
  clear hb1 hb2 hb3 hx1 k0
  by_cases hup : nd.f1 = true
  rotate_left
  · have hdn : nd.f1 = false := by simpa using hup
    rw [hdn] at hx1'
    go_wp2_with fail
    go_ret
    exact ⟨b, _, rfl, GE.out, HBL.out, HB.out, Or.inr ⟨hdn, rfl⟩⟩
  rw [hup] at hx1'
  have hmp := meth_push
  have HS : Aside0 (HeapAt ((w1.setCell ⟨b, s, none⟩ (.float .f64 0)).alloc (.cells #[.slice none 0 0] 86)) w.heap.size w1.heap.size (.slice none 0 0) []) := ⟨⟨by
    have := heap_alloc_new (w1.setCell ⟨b, s, none⟩ (.float .f64 0)) (.cells #[.slice none 0 0] 86)
    simpa using this, Kd.R_nil _ _ _ _ _⟩⟩
  have hbl := blk_lt HBL.out
  have HD : Aside0 (((w1.setCell ⟨b, s, none⟩ (.float .f64 0)).alloc (.cells #[.slice none 0 0] 86)).heap[b]? = some (.cells (dcells enc ((List.replicate n M).set s 0)).toArray 26 (0, 0)) ∧ Below w.heap.size w ((w1.setCell ⟨b, s, none⟩ (.float .f64 0)).alloc (.cells #[.slice none 0 0] 86))) := ⟨by
    have h7 := blk_below (blk_set HBL.out s (.float .f64 0)) (below_alloc (Below.refl _ _) (.cells #[.slice none 0 0] 86))
    rw [dcells_set0 enc hF.zero] at h7
    exact h7, below_alloc (Below.setCell HB.out GE.out _) _⟩
  go_wp2_with fail
  refine (push_calls w.heap.size w1.heap.size (.slice none 0 0) [] ⟨(s : Int), 0⟩ _ HS.out (Nat.le_trans GE.out (Nat.le_of_lt hbl)) (by simp)).mono ?_
  rintro e w2 ⟨rfl, v2, xs2, hp2, hH2, hT2⟩
  obtain ⟨hb, hhb⟩ : ∃ hb, hb = w1.heap.size := ⟨_, rfl⟩
  rw [← hhb] at hH2 hT2
  have hbb : b ≠ hb := by omega
  have hwb : w.heap.size ≤ hb := by have := GE.out; omega
  have hinv := Inv.start (enc := enc) (R := R) hF.pos hs
  rw [hF.zero] at hinv
  have hsum : ((List.replicate n M).set s 0).sum ≤ 1099511627776 := by
    have h8 := sum_set (List.replicate n M) s 0 (by simpa using hs)
    have h9 : (List.replicate n M).sum = n * M := by simp
    have h10 : n * M ≤ 256 * 4294967296 := Nat.mul_le_mul hn2 hM
    omega
  have hxl : xs2.length = 1 := by simpa using hp2.length_eq
  have INV : Aside0 (Inv enc R M s n (fun _ _ => False) ((List.replicate n M).set s 0) xs2 ∧ 2 * ((List.replicate n M).set s 0).sum + xs2.length ≤ 2199023255553) := ⟨hinv.perm hp2, by omega⟩
  have HD2 : Aside0 (HeapAt w2 w.heap.size hb v2 xs2 ∧ w2.heap[b]? = some (.cells (dcells enc ((List.replicate n M).set s 0)).toArray 26 (0, 0)) ∧ Below w.heap.size w w2) := ⟨hH2, hT2.blk HD.out.1 hbb (by simp [Value.ownBlock]), hT2.step HD.out.2 hwb (by simp [Value.ownBlock]) (by simp; omega)⟩
  clear hinv hsum hxl hp2 hH2 hT2 HD HS d0 d1
  simp only [← hhb]
  clear hhb
  have hmp2 := meth_pop
  have hms := meth_size
  go_wp2_with fail
  go_loopg [] 2199023255553 (fun kq wr => ∃ v xs q, Aside0 (Inv enc R M s n (fun _ _ => False) q xs ∧ 2 * q.sum + xs.length ≤ kq) ∧ Aside0 (kq ≤ 2199023255553) ∧ Aside0 (HeapAt wr w.heap.size hb v xs ∧ wr.heap[b]? = some (.cells (dcells enc q).toArray 26 (0, 0)) ∧ Below w.heap.size w wr))
  case atStart => exact ⟨v2, xs2, _, INV, ⟨Nat.le_refl _⟩, HD2⟩
  case round =>
    obtain ⟨v, xs, q, HI, HK, HH⟩ := hrel
    go_wp2_with fail
    refine (size_calls w.heap.size hb v xs _ HH.out.1).mono ?_
    rintro e w3 ⟨rfl, rfl⟩
    cases xs with
    | nil =>
      go_wp2_with fail
      go_ret
      exact ⟨b, q, rfl, GE.out, HH.out.2.1, HH.out.2.2, Or.inl ⟨hup, HI.out.1.done⟩⟩
    | cons x0 xs0 =>
      obtain ⟨xs, hxs⟩ : ∃ xs, xs = x0 :: xs0 := ⟨_, rfl⟩
      rw [← hxs] at HI HH
      have hxl : 0 < xs.length := by rw [hxs]; simp
      have hxlz : (0 : Int) < (xs.length : Int) := by omega
      rw [← hxs]
      clear hxs
      go_wp2_with fail
      refine (pop_calls w.heap.size hb v xs _ HH.out.1 hwb (by have := HI.out.2; have := HK.out; omega) hxl).mono ?_
      rintro e w4 ⟨x, v4, xs4, rfl, hp4, hH4, hT4⟩
      have HI2 := HI.out.1.perm hp4
      obtain ⟨p, tt, rfl, hpn, hqt, htM, _⟩ := HI2.hp x (List.mem_cons_self ..)
      obtain ⟨xb, hxb⟩ : ∃ xb, xb = w4.heap.size := ⟨_, rfl⟩
      obtain ⟨w5, hw5⟩ : ∃ w5, w5 = w4.alloc (.cells #[.int .i64 (p : Int), .float .f64 (enc tt)] 81) := ⟨_, rfl⟩
      have hB45 : Below w4.heap.size w4 w5 := by rw [hw5]; exact below_alloc (Below.refl _ _) _
      have hB5 : Below w.heap.size w w5 := by
        rw [hw5]
        exact below_alloc (hT4.step HH.out.2.2 hwb HH.out.1.base HH.out.2.2.size) _
      have hd5 : w5.heap[b]? = some (.cells (dcells enc q).toArray 26 (0, 0)) := blk_below (hT4.blk HH.out.2.1 hbb (HH.out.1.typed HH.out.2.1 (by decide))) hB45
      have hx5 : w5.heap[xb]? = some (.cells #[.int .i64 (p : Int), .float .f64 (enc tt)] 81 (0, 0)) := by rw [hw5, hxb]; exact heap_alloc_new _ _
      have hxv : some xb ≠ v4.ownBlock := by
        intro e5
        have h11 := Kd.R_lt hH4.2 xb e5.symm
        omega
      have hxh : xb ≠ hb := by
        have h11 := blk_lt hH4.1
        omega
      have HW5 : Aside0 (HeapAt w5 w.heap.size hb v4 xs4 ∧ w5.heap[b]? = some (.cells (dcells enc q).toArray 26 (0, 0)) ∧ Below w.heap.size w w5 ∧ w5.heap[xb]? = some (.cells #[.int .i64 (p : Int), .float .f64 (enc tt)] 81 (0, 0)) ∧ some xb ≠ v4.ownBlock) := ⟨hH4.below hB45, hd5, hB5, hx5, hxv⟩
      have x0' := (blk_cell hx5 0).trans rfl
      have x1' := (blk_cell hx5 1).trans rfl
      have dq : w5.cell? ⟨b, p, none⟩ = some (.float .f64 (enc (q.getD p 0))) := (blk_cell hd5 p).trans (dcells_at enc q p (by rw [HI2.len]; exact hpn))
      obtain ⟨qp, hqp⟩ : ∃ qp, q.getD p 0 = qp := ⟨_, rfl⟩
      rw [hqp] at dq hqt
      have hgt := hF.gt tt qp (Nat.le_of_lt htM) (by rw [← hqp]; exact HI2.le p)
      have hpnz : (p : Int) < (n : Int) := by omega
      have HIN := Aside0.mk HI2
      have hlen4 : xs4.length + 1 = xs.length := by simpa using hp4.length_eq
      have HLEN := Aside0.mk hlen4
      have HQP := Aside0.mk hqp
      clear hH4 hT4 hp4 HI2 hB45 hB5 hd5 hx5 hxv hlen4 hqp
      simp only [← hw5, ← hxb]
      go_wp2_with fail
      simp only [← hw5, ← hxb]
      clear hw5 hxb
      by_cases hsk : qp < tt
      · rw [decide_eq_true hsk] at hgt
        go_quiet (fail)
        go_wp2_with fail
        go_roundg (gk - 1)
        case measure => have := HI.out.2; omega
        case rel => exact ⟨v4, xs4, q, ⟨HIN.out.skip hF.inj (Nat.le_of_lt htM) (by rw [HQP.out]; exact hsk), by have := HI.out.2; have := HLEN.out; omega⟩, ⟨by have := HK.out; omega⟩, ⟨HW5.out.1.drewN _, HW5.out.2.1, HW5.out.2.2.1.trans (pw_below_drewN (Below.refl _ _) _)⟩⟩
      rw [decide_eq_false hsk] at hgt
      obtain rfl : qp = tt := by omega
      obtain ⟨ar, Ar, cr, e0, hr0, hr1, hr2⟩ := at_L81 C4.out (p : Int) (by omega) (by rw [List.length_map, hW.1]; omega)
      obtain ⟨row, hrow⟩ : ∃ row, R.getD p [] = row := ⟨_, rfl⟩
      have hrd : rd_L81 (R.map (rowOf wenc)) (p : Int) = rowOf wenc row := by
        unfold rd_L81
        rw [Int.toNat_natCast, ← hrow]
        have hpl : p < R.length := by rw [hW.1]; exact hpn
        simp [List.getD_eq_getElem?_getD, hpl]
      have hrl : (rowOf wenc row).length = row.length := by simp [rowOf]
      rw [hrd, hrl] at hr0 hr1 hr2
      rw [Int.toNat_natCast] at hr0
      subst e0
      have r0' := (HW5.out.2.2.1.cell (World.block_lt_of_cell? w _ hr0)).trans hr0
      have k2' : w5.cell? ⟨g, 4, none⟩ = some (.slice (some ar) n c3) := (HW5.out.2.2.1.cell (blk_lt B1.out)).trans ((blk_cell B1.out 4).trans (by rw [List.length_map, hW.1]; rfl))
      have HRW := Aside0.mk hrow
      have HR2 := Aside0.mk hr2
      have ZERO := HIN.out.take hF.inj (Nat.le_of_lt htM) HQP.out
      have HZ := Aside0.mk ZERO
      clear hrd hrl hr0 hr1 hr2 hrow ZERO
      go_quiet (fail)
      go_wp2_with fail
      go_quiet (fail)
      go_wp2_with fail
      have HST : Aside0 (HeapAt (w5.drewN 0) w.heap.size hb v4 xs4) := ⟨HW5.out.1⟩
      go_loopw [61] (fun vi wr => ∃ (j : Nat) (v : Value) (xs : List S81) (q : List Nat), vi = .int .i64 (j : Int) ∧ j ≤ row.length ∧ Aside0 (Inv enc R M s n (Under R M p qp j) q xs ∧ q.getD p 0 = qp ∧ 2 * q.sum + xs.length + 1 ≤ gk) ∧ Aside0 (HeapAt wr w.heap.size hb v xs ∧ wr.heap[b]? = some (.cells (dcells enc q).toArray 26 (0, 0)) ∧ Below w.heap.size w wr ∧ wr.heap[xb]? = some (.cells #[.int .i64 (p : Int), .float .f64 (enc qp)] 81 (0, 0)) ∧ some xb ≠ v.ownBlock)) (fun vi _ => row.length - (intOf vi).toNat)
      case atStart => exact ⟨0, v4, xs4, q, rfl, Nat.zero_le _, ⟨HZ.out, HQP.out, by have := HI.out.2; have := HLEN.out; omega⟩, ⟨(HW5.out.1.drewN _).drewN _, HW5.out.2.1, pw_below_drewN (pw_below_drewN HW5.out.2.2.1 _) _, HW5.out.2.2.2⟩⟩
      case round =>
        clear HZ HIN
        obtain ⟨j, v, xs, q, rfl, hj, HI, HH⟩ := hrel
        by_cases hjl : j < row.length
        rotate_left
        · go_wp2_with fail
          go_roundg (gk - 1)
          case measure => have := HI.out.2.2; omega
          case rel => exact ⟨v, xs, q, ⟨HI.out.1.over HI.out.2.1 (by rw [HRW.out]; omega), by have := HI.out.2.2; omega⟩, ⟨by have := HK.out; omega⟩, ⟨HH.out.1, HH.out.2.1, HH.out.2.2.1⟩⟩
        have hjz : (j : Int) < (row.length : Int) := by omega
        obtain ⟨e, he⟩ : ∃ e, row[j]? = some e := ⟨row[j], List.getElem?_eq_getElem hjl⟩
        obtain ⟨ra, e0, hc0, hc1⟩ := at_T81 HR2.out (j : Int) (by omega) hjz
        subst e0
        have hrd : rd_T81 (rowOf wenc row) (j : Int) = ⟨(e.1 : Int), wenc e.2⟩ := by
          unfold rd_T81 rowOf
          rw [Int.toNat_natCast]
          simp [List.getD_eq_getElem?_getD, he]
        rw [hrd] at hc0 hc1
        rw [Int.toNat_natCast] at hc0 hc1
        have c0' := (HH.out.2.2.1.cell (World.block_lt_of_cell? w _ hc0)).trans hc0
        have c1' := (HH.out.2.2.1.cell (World.block_lt_of_cell? w _ hc1)).trans hc1
        have heR : (R.getD p [])[j]? = some e := by rw [HRW.out]; exact he
        obtain ⟨hen, hw1⟩ := hW.2 p e (List.mem_of_getElem? heR)
        have hwW := hw p e (List.mem_of_getElem? heR)
        obtain ⟨sm, hsm⟩ : ∃ sm, min M (e.2 + qp) = sm := ⟨_, rfl⟩
        have hadd := hF.add e.2 qp hw1 hwW (Nat.le_of_lt htM)
        rw [hsm] at hadd
        have ADD := Aside0.mk hadd
        obtain ⟨lb, hlb⟩ : ∃ lb, lb = wr.heap.size := ⟨_, rfl⟩
        obtain ⟨w6, hw6⟩ : ∃ w6, w6 = wr.alloc (.cells #[.int .i64 (e.1 : Int), .float .f64 (wenc e.2)] 81) := ⟨_, rfl⟩
        have hbl1 : ¬ b = lb := by
          have := blk_lt HH.out.2.1
          omega
        have hbl2 : ¬ lb = b := fun e5 => hbl1 e5.symm
        have hmax := Kd.C_max HR2.out
        have hB6 : Below wr.heap.size wr w6 := by rw [hw6]; exact below_alloc (Below.refl _ _) _
        have hl6 : w6.heap[lb]? = some (.cells #[.int .i64 (e.1 : Int), .float .f64 (wenc e.2)] 81 (0, 0)) := by rw [hw6, hlb]; exact heap_alloc_new _ _
        have H6 : Aside0 (HeapAt w6 w.heap.size hb v xs ∧ w6.heap[b]? = some (.cells (dcells enc q).toArray 26 (0, 0)) ∧ Below w.heap.size w w6 ∧ w6.heap[xb]? = some (.cells #[.int .i64 (p : Int), .float .f64 (enc qp)] 81 (0, 0)) ∧ some xb ≠ v.ownBlock) := ⟨HH.out.1.below hB6, blk_below HH.out.2.1 hB6, by rw [hw6]; exact below_alloc HH.out.2.2.1 _, blk_below HH.out.2.2.2.1 hB6, HH.out.2.2.2.2⟩
        have l0 := (blk_cell hl6 0).trans rfl
        have l1 := (blk_cell hl6 1).trans rfl
        have y1 := (blk_cell H6.out.2.2.2.1 1).trans rfl
        have m1 : w6.cell? ⟨g, 2, none⟩ = some (.float .f64 mx) := (H6.out.2.2.1.cell (blk_lt B1.out)).trans ((blk_cell B1.out 2).trans rfl)
        have dq : w6.cell? ⟨b, e.1, none⟩ = some (.float .f64 (enc (q.getD e.1 0))) := (blk_cell H6.out.2.1 e.1).trans (dcells_at enc q e.1 (by rw [HI.out.1.len]; exact hen))
        have df : w6.frozen? ⟨b, e.1, none⟩ = false := blk_frozen H6.out.2.1 e.1
        obtain ⟨qr, hqr⟩ : ∃ qr, q.getD e.1 0 = qr := ⟨_, rfl⟩
        rw [hqr] at dq
        have hlt := hF.lt sm qr (by omega) (by rw [← hqr]; exact HI.out.1.le e.1)
        have henz : (e.1 : Int) < (n : Int) := by omega
        have SM := Aside0.mk hsm
        have QR := Aside0.mk hqr
        have HE := Aside0.mk heR
        clear hc0 hc1 hrd he heR hadd hB6 hl6 hsm hqr
        go_wp2_with fail
        simp only [← hw6, ← hlb]
        clear hw6 hlb
        by_cases hrl : sm < qr
        rotate_left
        · rw [decide_eq_false hrl] at hlt
          go_quiet ((go_at_call 51; exact Calls.quiet_of ((metric_Add.calls _ _ _ _ _ ADD.out).mono (fun _ _ h => ⟨h.1, h.2.out⟩))))
          go_wp2_with fail
          go_roundw
          case rel => exact ⟨j + 1, v, xs, q, by go_num, hjl, ⟨HI.out.1.keep HE.out (by rw [SM.out, QR.out]; omega), HI.out.2⟩, ⟨H6.out.1.below (pw_below_drewN (Below.refl _ _) _), H6.out.2.1, H6.out.2.2.1.trans (pw_below_drewN (Below.refl _ _) _), H6.out.2.2.2⟩⟩
          case measure => simp [intOf]; omega
        rw [decide_eq_true hrl] at hlt
        go_quiet ((go_at_call 51; exact Calls.quiet_of ((metric_Add.calls _ _ _ _ _ ADD.out).mono (fun _ _ h => ⟨h.1, h.2.out⟩))))
        go_wp2_with fail
        have hbl := blk_lt H6.out.2.1
        have hbv : some b ≠ v.ownBlock := H6.out.1.typed H6.out.2.1 (by decide)
        have hrel := HI.out.1.relax hW hs hpn HI.out.2.1 htM HE.out (by rw [SM.out, QR.out]; exact hrl)
        rw [SM.out] at hrel
        have HRL := Aside0.mk hrel
        clear hrel
        have hH7 : ∀ k, HeapAt ((w6.drewN k).setCell ⟨b, e.1, none⟩ (.float .f64 (enc sm))) w.heap.size hb v xs := fun k => (H6.out.1.drewN k).far (fun e5 => hbb e5.symm) hbv _
        have hd7 : ∀ k, ((w6.drewN k).setCell ⟨b, e.1, none⟩ (.float .f64 (enc sm))).heap[b]? = some (.cells (dcells enc (q.set e.1 sm)).toArray 26 (0, 0)) := fun k => by
          rw [← dcells_set]
          exact blk_set H6.out.2.1 e.1 _
        have hB7 : ∀ k, Below w.heap.size w ((w6.drewN k).setCell ⟨b, e.1, none⟩ (.float .f64 (enc sm))) := fun k => Below.setCell (pw_below_drewN H6.out.2.2.1 k) GE.out _
        have hxb : xb ≠ b := by
          rintro rfl
          have := H6.out.2.1.symm.trans H6.out.2.2.2.1
          injection this with this
          injection this with _ h12
          exact absurd h12 (by decide)
        have hx7 : ∀ k, ((w6.drewN k).setCell ⟨b, e.1, none⟩ (.float .f64 (enc sm))).heap[xb]? = some (.cells #[.int .i64 (p : Int), .float .f64 (enc qp)] 81 (0, 0)) := fun k => (Below.heap_setCell _ _ _ _ hxb).trans H6.out.2.2.2.1
        refine (push_calls w.heap.size hb v xs ⟨(e.1 : Int), enc sm⟩ _ (hH7 _) hwb (by have := HI.out.2.2; have := HK.out; omega)).mono ?_
        rintro e8 w8 ⟨rfl, v8, xs8, hp8, hH8, hT8⟩
        have H8 : Aside0 (HeapAt w8 w.heap.size hb v8 xs8 ∧ w8.heap[b]? = some (.cells (dcells enc (q.set e.1 sm)).toArray 26 (0, 0)) ∧ Below w.heap.size w w8 ∧ w8.heap[xb]? = some (.cells #[.int .i64 (p : Int), .float .f64 (enc qp)] 81 (0, 0)) ∧ some xb ≠ v8.ownBlock) := ⟨hH8, hT8.blk (hd7 _) hbb hbv, hT8.step (hB7 _) hwb H6.out.1.base (hB7 _).size, hT8.blk (hx7 _) hxh H6.out.2.2.2.2, by
          rcases hT8.own with h9 | ⟨b9, h9, h10⟩
          · rw [h9]
            exact H6.out.2.2.2.2
          rw [h9]
          intro e9
          have h11 := blk_lt (hx7 0)
          cases e9
          have h12 : ((w6.drewN 0).setCell ⟨b, e.1, none⟩ (.float .f64 (enc sm))).heap.size = w6.heap.size := by simp
          simp at h10 h11
          omega⟩
        have P8 := Aside0.mk hp8
        clear hH7 hd7 hB7 hx7 hH8 hT8 hp8
        go_wp2_with fail
        go_roundw
        case rel => exact ⟨j + 1, v8, xs8, _, by go_num, hjl, ⟨HRL.out.1.perm P8.out, HRL.out.2.1, by have h13 := HRL.out.2.2; have h14 := HI.out.2.2; have h15 := P8.out.length_eq; omega⟩, H8⟩
        case measure => simp [intOf]; omega
end Go.Proofs.Ytmdkcecbklgihaa.PA
