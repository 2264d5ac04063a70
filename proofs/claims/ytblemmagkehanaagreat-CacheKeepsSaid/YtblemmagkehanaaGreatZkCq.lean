/- A cache that was made: heard, what is told of all neighbours. Conditions: those that each theorem names. -/
import Derived.Test.YtblemmagkehanaaGreatZkSj
namespace Go.Proofs.YtblemmagkehanaaGreat.PA
open Go.RowKit Go.Proofs.YtblemmagkehanaaGreatW.PrintWords Go.Proofs.YtblemmagkehanaaGreatW.PrintLast Go.Proofs.YtblemmagkehanaaGreatW.PrintMore
set_option linter.unusedVariables false
set_option linter.unusedSimpArgs false
theorem goesVL_ {P : Program} {ops : Array Oper} {Q : Exit → Act → World → Prop} {rest : List Oper} {oi : Oper} {a : Act} {w : World} (N : Option Tmp) (hd : oi.dst = N) (hg : oi.guard = none) {f : FuncId} {fn : Func} {o : Operand} {qs : Array Operand} {ts : Array TypeId} {cb : Array Value}
    (hf : P.funcs[f]? = some fn) (hname : (fn.name == "runtime.NumGoroutine") = false) (hb : fn.body.isSome = true) (args : Array Value)
    (hop : oi.op = .call { callee := .value o, args := qs, argTypes := ts }) (ho : a.eval o = .func (.func f) #[] cb) (hargs : qs.map a.eval = args)
    (h : Calls P f (args ++ cb) w fun e w' => ∃ v, e = .returned v ∧ wpList P ops Q rest (a.put N v) w') : wpList P ops Q (oi :: rest) a w := by
  refine wpList_plain hg fun K hK => ?_
  have he := enters_ hf hname hb (args ++ cb) w;have hrun : (execOp a.eval oi).run P w = .ok (.enter f (args ++ cb)) w := by
    unfold execOp
    simp [hop, resolve, Deferred.ofValue, invoke, ho, hargs, he]
  unfold Oper.wp;rw [hrun, Oper.upon_enter];refine h.mono fun e w'' hh => ?_
  obtain ⟨v, rfl, hk⟩ := hh;subst hd;exact hK _ _ hk
def rowH (all : Bool) (p : S61 → Bool) (e : Nb) : List S43 := if all || decide (0 < (e.news.filter p).length) then [⟨e.id, e.wt, e.news.filter p⟩] else []
def heardK (all : Bool) (p : S61 → Bool) (L : List Nb) (ks : List Int) : List S43 := ks.flatMap fun id => match nbGet id L with | some e => rowH all p e | none => []
theorem heardK_next (all : Bool) (p : S61 → Bool) (L : List Nb) (ks : List Int) (i : Nat) (hi : i < ks.length) {e : Nb} (he : nbGet (ks.getD i 0) L = some e) : heardK all p L (ks.take (i + 1)) = heardK all p L (ks.take i) ++ rowH all p e := by
  have h1 : ks.getD i 0 = ks[i] := by simp [List.getD_eq_getElem?_getD, hi]
  unfold heardK;rw [List.take_succ_eq_append_getElem hi, List.flatMap_append]
  congr 1
  rw [h1] at he
  simp [he]
theorem filt_next (p : S61 → Bool) (l : List S61) (k : Nat) (hk : k < l.length) : (l.take (k + 1)).filter p = (l.take k).filter p ++ (if p (l.getD k z61) = true then [l.getD k z61] else []) := by
  have h1 : l.getD k z61 = l[k] := by simp [List.getD_eq_getElem?_getD, hk]
  rw [List.take_succ_eq_append_getElem hk, List.filter_append, h1]
  congr 1
  by_cases h : p l[k] = true <;> simp [h]
def idsV (L : List Nb) : List Int := keysV (nbM L)
theorem idsV_perm (L : List Nb) : (idsV L).Perm (L.map (·.id)) := by
  unfold idsV keysV;refine (List.mergeSort_perm _ _).trans ?_;unfold nbM;rw [List.map_map];exact List.Perm.refl _
theorem idsV_get {L : List Nb} {i : Nat} (hi : i < (idsV L).length) : ∃ e, nbGet ((idsV L).getD i 0) L = some e := by
  cases h : nbGet ((idsV L).getD i 0) L with
  | some e => exact ⟨e, rfl⟩
  | none =>
    have h1 : (idsV L).getD i 0 = (idsV L)[i] := by simp [List.getD_eq_getElem?_getD, hi]
    rw [h1] at h;exact absurd ((idsV_perm L).mem_iff.1 (List.getElem_mem hi)) (nbGet_none.1 h)
theorem idsV_len (L : List Nb) : (idsV L).length = L.length := by simpa using (idsV_perm L).length_eq
theorem heardK_len (all : Bool) (p : S61 → Bool) (L : List Nb) : ∀ ks : List Int, (heardK all p L ks).length ≤ ks.length
  | [] => Nat.le_refl _
  | id :: r => by
    have h := heardK_len all p L r;have h1 : heardK all p L (id :: r) = (match nbGet id L with | some e => rowH all p e | none => []) ++ heardK all p L r := by simp [heardK]
    have h2 : (match nbGet id L with | some e => rowH all p e | none => []).length ≤ 1 := by
      cases nbGet id L with
      | none => simp
      | some e =>
        show (rowH all p e).length ≤ 1
        unfold rowH
        split <;> simp
    rw [h1, List.length_append, List.length_cons];omega
set_option maxHeartbeats 8000000 in
set_option maxRecDepth 1000000 in
theorem heard_any {w : World} {g b : Nat} {L : List Nb} (h : CacheAt w g b L) (hk : ∀ e ∈ L, okId e.id = true) (hl : L.length ≤ 2147483647) (all : Bool) (p : S61 → Bool) {F : Nat} {fn : Func} (cb : Array Value)
    (hf : Tryz.prog.funcs[F]? = some fn) (hname : (fn.name == "runtime.NumGoroutine") = false) (hbd : fn.body.isSome = true)
    (PR : ∀ x W, Below w.heap.size w W → Calls Tryz.prog F (#[agg61 x] ++ cb) W fun e w' => e = .returned (.bool (p x)) ∧ Below W.heap.size W w') :
    Calls Tryz.prog 44 #[.pointer (some ⟨g, 0, none⟩), .bool all, .func (.func F) #[] cb] w fun e w' => ∃ v, e = .returned v ∧ Kd.S k43 43 w' w.heap.size (fun _ => True) v (heardK all p L (idsV L)) ∧ Below w.heap.size w w' := by
  have HD := Aside0.mk h;have HF := Aside0.mk hf;have HNM := Aside0.mk hname;have HBD := Aside0.mk hbd;have P0 := Aside0.mk PR;have hu43 := Tryz.underlying43;have hu61 := Tryz.underlying61;have c0 : w.cell? ⟨g, 0, none⟩ = some (.map (some b)) := (blk_cell h.box 0).trans rfl;have HSO := Aside0.mk (fun (W : World) (Bm : Nat) (hb : Below w.heap.size w W) (hm : W.heap[Bm]? = some (.cells #[.map (some b)] 63 (0, 0))) => sorted_A (h.map.below hb) (fun x hx => by
    obtain ⟨e, he, rfl⟩ := List.mem_map.1 hx;exact hk e he) (by simpa [nbM] using hl) hm)
  have HL := Aside0.mk hl;clear h hk hl hf hname hbd PR;go_enter Tryz.func44, Tryz.ntmps44
  go_wp2_with (first | (go_at_call 52; refine (is_live HD.out.box).mono ?_; rintro e w' ⟨rfl, rfl⟩) | (go_at_call 66; refine (keysA (some b) _).mono ?_; rintro e w4 ⟨rfl, rfl⟩) | (go_at_call 48; refine (HSO.out _ w.heap.size (below_alloc (Below.refl _ _) _) (blk_new w _)).mono ?_; rintro e w5 ⟨vk, rfl, hR, hb⟩; obtain ⟨Ak, ck, ek⟩ := Kd.R_slice hR; subst ek; have HR := Aside0.mk (Kd.R_reads' hR).2.2; have HB5 := Aside0.mk (below_then (below_alloc (Below.refl w.heap.size w) (Obj.cells #[.map (some b)] 63)) (by simp) hb); clear hR hb))
  have D5 := Aside0.mk (HD.out.below HB5.out);have KV : Aside0 (∀ i, i < (keysV (nbM L)).length → ∃ e, nbGet ((keysV (nbM L)).getD i 0) L = some e) := ⟨fun i hi => idsV_get hi⟩
  have KL : Aside0 ((keysV (nbM L)).length ≤ 2147483647) := ⟨by have := idsV_len L; unfold idsV at this; rw [this]; exact HL.out⟩
  have KH : Aside0 (heardK all p L (idsV L) = heardK all p L ((keysV (nbM L)).take (keysV (nbM L)).length)) := ⟨by rw [List.take_length]; rfl⟩
  obtain ⟨ks, hks⟩ : ∃ ks, keysV (nbM L) = ks := ⟨_, rfl⟩
  rw [hks] at HR KV KL KH ⊢;clear hks HSO
  go_loopg [7, 24] ks.length (fun kx s7 s24 wr => ∃ i : Nat, s24 = .int .i64 i ∧ i ≤ ks.length ∧ ks.length - i ≤ kx ∧ Aside0 (Below w5.heap.size w5 wr) ∧ Aside0 (Kd.S k43 43 wr w5.heap.size (fun _ => True) s7 (heardK all p L (ks.take i))))
  case atStart => exact ⟨0, rfl, Nat.zero_le _, by omega, ⟨Below.refl _ _⟩, ⟨Kd.S_nil _ _ _ _ _⟩⟩
  case round =>
    obtain ⟨i, rfl, hin, hg, B1, S1⟩ := hrel;obtain ⟨wo, rfl⟩ : ∃ wo, wo = wr := ⟨_, rfl⟩
    have kl := KL.out
    by_cases hlt : i < ks.length
    rotate_left
    · obtain rfl : i = ks.length := by omega
      go_wp2_with fail
      go_ret;exact ⟨_, rfl, by rw [KH.out]; exact Kd.S_lower S1.out HB5.out.size, below_then HB5.out HB5.out.size B1.out⟩
    obtain ⟨ad, rfl, y0⟩ := Kd.at_int (Kd.C_below HR.out B1.out) (i : Int) (by omega) (by omega);obtain ⟨e, he⟩ := KV.out i hlt;have hid : rd ks (i : Int) = ks.getD i 0 := by simp [rd, rdOf]
    rw [hid] at y0;simp only [Int.toNat_natCast] at y0;obtain ⟨id, hidd⟩ : ∃ id, ks.getD i 0 = id := ⟨_, rfl⟩
    have NX := Aside0.mk (heardK_next all p L ks i hlt he);rw [hidd] at y0 he;have Dr := Aside0.mk (D5.out.below B1.out);have GE := Aside0.mk (nbGet_mem he);have Ne := Aside0.mk (Dr.out.nb e GE.out.1);have HT : Aside0 ((mget (nbM L) id).getD (.pointer none) = .pointer (some ⟨e.p, 0, none⟩)) := ⟨by rw [mget_nb, he]; rfl⟩
    have g0 : wo.cell? ⟨g, 0, none⟩ = some (.map (some b)) := (blk_cell Dr.out.box 0).trans rfl;have n0 : wo.cell? ⟨e.p, 0, none⟩ = some (.float .f64 e.wt) := (blk_cell Ne.out.1 0).trans rfl;have n1 : wo.cell? ⟨e.p, 1, none⟩ = some (.slice e.A e.news.length e.c) := (blk_cell Ne.out.1 1).trans rfl;have hltp := blk_lt Ne.out.1;clear hidd he hid
    go_wp2_with (at_lookup; refine wp_look1 rfl _ _ 63 3 74 rfl (key_int Tryz.underlying3) Tryz.underlying63 rfl id rfl Dr.out.map (.pointer none) (by kernel_rfl) ?_; rw [HT.out])
    obtain ⟨q, hq⟩ : ∃ q, q = wo.heap.size := ⟨_, rfl⟩
    rw [← hq];have QE := Aside0.mk hq;clear hq
    go_loopg [45] e.news.length (fun kq s45 wi => ∃ (k : Nat) (vN : Value), s45 = .int .i64 k ∧ k ≤ e.news.length ∧ e.news.length - k ≤ kq ∧ Aside0 (Below wo.heap.size wo wi) ∧ Aside0 (wi.heap[q]? = some (.cells #[.int .i64 id, .float .f64 e.wt, vN] 43 (0, 0))) ∧ Aside0 (Kd.R k61 61 wi wo.heap.size (fun k_ => k_ ≠ q) vN ((e.news.take k).filter p)))
    case atStart => exact ⟨0, .slice none 0 0, rfl, Nat.zero_le _, by omega, ⟨below_alloc (Below.refl _ _) _⟩, ⟨by rw [QE.out]; exact blk_new wo _⟩, ⟨Kd.R_nil _ _ _ _ _⟩⟩
    case round =>
      obtain ⟨k, vN, rfl, hkn, hgk, BI, KQ, RN⟩ := hrel;have few := Ne.out.2.2.2.2;clear g0 n0 n1 hltp y0
      by_cases hltk : k < e.news.length
      · obtain ⟨ad2, ea, y0, y1, y2, y3, y4⟩ := at_T61 (Kd.C_below Ne.out.2.1 BI.out) (k : Int) (by omega) (by omega)
        rw [rdn] at y0 y1 y2 y3 y4;obtain ⟨x, hx⟩ : ∃ x, e.news.getD k z61 = x := ⟨_, rfl⟩
        have FX := Aside0.mk (filt_next p e.news k hltk);rw [hx] at y0 y1 y2 y3 y4 FX;simp only [Int.toNat_natCast] at y0 y1 y2 y3 y4;have BW := Aside0.mk (below_then HB5.out HB5.out.size (below_then B1.out B1.out.size (below_alloc BI.out (Obj.cells #[.int .i64 x.f0, .int .i64 x.f1, .float .f64 x.f2, .float .f64 x.f3, .int .i64 x.f4] 61))));have FL : Aside0 (((e.news.take k).filter p).length ≤ 4294967296) := ⟨by have h1 := List.length_filter_le p (e.news.take k); rw [List.length_take] at h1; omega⟩
        clear hx
        cases hp : p x with
        | false =>
          have FN : Aside0 ((e.news.take (k + 1)).filter p = (e.news.take k).filter p) := ⟨by rw [FX.out, hp]; simp⟩
          have P1 := Aside0.mk (P0.out x _ BW.out);rw [hp] at P1;clear hp;rw [ea]
          go_wp2_with ((with_reducible refine gate_dst (N := 51) rfl ?_); go_loud (refine goesVL_ (some 51) rfl rfl HF.out HNM.out HBD.out #[agg61 x] rfl (by rfl) (by simp only [List.map_toArray, List.map_cons, List.map_nil]; rfl) ?_); go_loud (refine P1.out.mono ?_); rintro e9 w9 ⟨rfl, hb⟩; refine ⟨_, rfl, ?_⟩; have HB9 := Aside0.mk (below_then (below_alloc (Below.refl wr.heap.size wr) (Obj.cells #[.int .i64 x.f0, .int .i64 x.f1, .float .f64 x.f2, .float .f64 x.f3, .int .i64 x.f4] 61)) (by simp) hb); clear hb)
          rw [← ea]
          go_roundg (e.news.length - (k + 1))
          case measure => omega
          case rel => exact ⟨k + 1, vN, by go_num, by omega, Nat.le_refl _, ⟨below_then BI.out BI.out.size HB9.out⟩, ⟨blk_below KQ.out HB9.out⟩, ⟨by rw [FN.out]; exact Kd.R_below RN.out HB9.out⟩⟩
        | true =>
          have FN : Aside0 ((e.news.take (k + 1)).filter p = (e.news.take k).filter p ++ [x]) := ⟨by rw [FX.out, hp]; simp⟩
          have P1 := Aside0.mk (P0.out x _ BW.out);rw [hp] at P1;clear hp;rw [ea];have BE := blk_new wr (Obj.cells #[.int .i64 x.f0, .int .i64 x.f1, .float .f64 x.f2, .float .f64 x.f3, .int .i64 x.f4] 61);have KX := Aside0.mk BE;clear BE;have QL : Aside0 (q < wr.heap.size) := ⟨blk_lt KQ.out⟩
          go_wp2_with (first | ((with_reducible refine gate_dst (N := 51) rfl ?_); go_loud (refine goesVL_ (some 51) rfl rfl HF.out HNM.out HBD.out #[agg61 x] rfl (by rfl) (by simp only [List.map_toArray, List.map_cons, List.map_nil]; rfl) ?_); go_loud (refine P1.out.mono ?_); rintro e9 w9 ⟨rfl, hb⟩; refine ⟨_, rfl, ?_⟩; have HB9 := Aside0.mk (below_then (below_alloc (Below.refl wr.heap.size wr) (Obj.cells #[.int .i64 x.f0, .int .i64 x.f1, .float .f64 x.f2, .float .f64 x.f3, .int .i64 x.f4] 61)) (by simp) hb); have hb0 := Aside0.mk hb; clear hb; have K9 := Aside0.mk (blk_below KX.out (below_then (Below.refl _ _) (Nat.le_refl _) hb0.out)); have Q9 := Aside0.mk (blk_below KQ.out HB9.out); have R9 := Aside0.mk (Kd.R_below RN.out HB9.out); have B9 := Aside0.mk (below_then BI.out BI.out.size HB9.out); clear hb0; have z0 : w9.cell? ⟨wr.heap.size, 0, none⟩ = some (.int .i64 x.f0) := (blk_cell K9.out 0).trans rfl; have z1 : w9.cell? ⟨wr.heap.size, 1, none⟩ = some (.int .i64 x.f1) := (blk_cell K9.out 1).trans rfl; have z2 : w9.cell? ⟨wr.heap.size, 2, none⟩ = some (.float .f64 x.f2) := (blk_cell K9.out 2).trans rfl; have z3 : w9.cell? ⟨wr.heap.size, 3, none⟩ = some (.float .f64 x.f3) := (blk_cell K9.out 3).trans rfl; have z4 : w9.cell? ⟨wr.heap.size, 4, none⟩ = some (.int .i64 x.f4) := (blk_cell K9.out 4).trans rfl; have q2 : w9.cell? ⟨q, 2, none⟩ = some vN := (blk_cell Q9.out 2).trans rfl; have QL9 := Aside0.mk (blk_lt Q9.out)) | (at_builtin; refine Kd.R_append k61 (w0 := wo) wo.heap.size rfl (.tmp 53) (.tmp 55) 29 61 (.agg #[(.int .i64 0), (.int .i64 0), (.float .f64 0), (.float .f64 0), (.int .i64 0)]) 40 rfl Tryz.underlying29 info61 rfl (by decide) (by omega) vN ((e.news.take k).filter p) x (enc5 x) (fun k_ => k_ ≠ q) (fun _ => False) rfl (by first | rfl | (simp [Act.eval, Act.put]; done)) (k61_mkM _ _ _ x) (fun _ hk => hk.elim) (fun k_ hk he => by have := QL9.out; omega) R9.out B9.out B9.out.size (by have := FL.out; omega) ?_; intro v3 w3 ho hb3 hg3 hat; obtain ⟨A3, c3, e3⟩ := Kd.R_slice ho; subst e3; have R3 := Aside0.mk ho; have B3 := Aside0.mk hb3; have Q3 := Aside0.mk (blk_grown Q9.out hg3 (fun he => R9.out.1 q he.symm rfl)); clear ho hb3 hg3 hat z0 z1 z2 z3 z4 q2; have d2 : w3.cell? ⟨q, 2, none⟩ = some vN := (blk_cell Q3.out 2).trans rfl; have f2 := blk_frozen Q3.out 2))
          rw [← ea]
          go_roundg (e.news.length - (k + 1))
          case measure => omega
          case rel => exact ⟨k + 1, .slice A3 (((e.news.take k).filter p).length + 1) c3, by go_num, by omega, Nat.le_refl _, ⟨B3.out.setCell (by rw [QE.out]; exact Nat.le_refl _) _⟩, ⟨blk_set Q3.out 2 _⟩, ⟨by rw [FN.out, show ((e.news.take k).filter p).length + 1 = ((e.news.take k).filter p ++ [x]).length by simp]; exact Kd.R_far R3.out (fun k_ hk => hk) _⟩⟩
      obtain rfl : k = e.news.length := by omega
      obtain ⟨fl_, hfl⟩ : ∃ fl_, e.news.filter p = fl_ := ⟨_, rfl⟩
      have FLL : Aside0 (fl_.length ≤ 4294967296) := ⟨by have h1 := List.length_filter_le p e.news; rw [hfl] at h1; omega⟩
      rw [List.take_length, hfl] at RN;have HLn := Aside0.mk (heardK_len all p L (ks.take i));obtain ⟨AN, cN, eN⟩ := Kd.R_slice RN.out;subst eN;have q0 : wr.cell? ⟨q, 0, none⟩ = some (.int .i64 id) := (blk_cell KQ.out 0).trans rfl;have q1 : wr.cell? ⟨q, 1, none⟩ = some (.float .f64 e.wt) := (blk_cell KQ.out 1).trans rfl;have q2 : wr.cell? ⟨q, 2, none⟩ = some (.slice AN fl_.length cN) := (blk_cell KQ.out 2).trans rfl;have ge2 : e.id = id := GE.out.2
      by_cases hshow : (all || decide (0 < fl_.length)) = true
      · have NR : Aside0 (heardK all p L (ks.take (i + 1)) = heardK all p L (ks.take i) ++ [⟨id, e.wt, fl_⟩]) := ⟨by rw [NX.out]; unfold rowH; rw [hfl, if_pos hshow, ge2]⟩
        have RM := Aside0.mk (Kd.R_lower (Kd.R_mono (ok' := fun k_ => wo.heap.size ≤ k_) (Kd.R_bound RN.out) (fun k_ hk => hk.2.1)) B1.out.size);have SL := Aside0.mk (Kd.R_lt (Kd.S_R S1.out));have SO := Aside0.mk (Kd.S_mono (ok' := fun k_ => True ∧ ¬ wo.heap.size ≤ k_) (Kd.S_old S1.out BI.out) (fun k_ hk => ⟨trivial, by omega⟩));have BW := Aside0.mk (below_then B1.out B1.out.size BI.out)
        cases all with
        | true =>
          clear hfl hshow
          go_wp2_with (at_builtin; refine Kd.S_append k43 (w0 := w5) w5.heap.size rfl (.tmp 66) (.tmp 68) 25 43 (.agg #[(.int .i64 0), (.float .f64 0), (.slice none 0 0)]) 40 rfl Tryz.underlying25 info43 rfl (by decide) (by omega) u7 (heardK true p L (ks.take i)) ⟨id, e.wt, fl_⟩ [.int .i64 id, .float .f64 e.wt, .slice AN fl_.length cN] (fun _ => True) (fun k_ => wo.heap.size ≤ k_) rfl (by first | rfl | (simp [Act.eval, Act.put]; done)) (k43_mkM _ _ _ (⟨id, e.wt, fl_⟩ : S43) RM.out) (fun k_ hk => ⟨trivial, fun he => by have h1 := SL.out k_ he.symm; omega⟩) (fun _ _ => trivial) SO.out BW.out BW.out.size (by have := HLn.out; rw [List.length_take] at this; omega) ?_; intro v3 w3 ho hb3 hg3 hat; have S3 := Aside0.mk ho; have B3 := Aside0.mk hb3; clear ho hb3 hg3 hat)
          go_roundg (ks.length - (i + 1))
          case measure => omega
          case rel => exact ⟨i + 1, by go_num, by omega, Nat.le_refl _, B3, ⟨by rw [NR.out]; exact S3.out⟩⟩
        | false =>
          have hz2 : (0 : Int) < (fl_.length : Int) := by simp at hshow; omega
          have hz3 : 0 < fl_.length := by omega
          clear hfl hshow
          go_wp2_with (at_builtin; refine Kd.S_append k43 (w0 := w5) w5.heap.size rfl (.tmp 66) (.tmp 68) 25 43 (.agg #[(.int .i64 0), (.float .f64 0), (.slice none 0 0)]) 40 rfl Tryz.underlying25 info43 rfl (by decide) (by omega) u7 (heardK false p L (ks.take i)) ⟨id, e.wt, fl_⟩ [.int .i64 id, .float .f64 e.wt, .slice AN fl_.length cN] (fun _ => True) (fun k_ => wo.heap.size ≤ k_) rfl (by first | rfl | (simp [Act.eval, Act.put]; done)) (k43_mkM _ _ _ (⟨id, e.wt, fl_⟩ : S43) RM.out) (fun k_ hk => ⟨trivial, fun he => by have h1 := SL.out k_ he.symm; omega⟩) (fun _ _ => trivial) SO.out BW.out BW.out.size (by have := HLn.out; rw [List.length_take] at this; omega) ?_; intro v3 w3 ho hb3 hg3 hat; have S3 := Aside0.mk ho; have B3 := Aside0.mk hb3; clear ho hb3 hg3 hat)
          go_roundg (ks.length - (i + 1))
          case measure => omega
          case rel => exact ⟨i + 1, by go_num, by omega, Nat.le_refl _, B3, ⟨by rw [NR.out]; exact S3.out⟩⟩
      have NR : Aside0 (heardK all p L (ks.take (i + 1)) = heardK all p L (ks.take i)) := ⟨by rw [NX.out]; unfold rowH; rw [hfl, if_neg hshow]; simp⟩
      obtain ⟨ha, hz⟩ : all = false ∧ fl_.length = 0 := by cases all <;> simp_all
      subst ha;have hz2 : ¬ (0 : Int) < (fl_.length : Int) := by omega
      clear hfl hshow hz
      go_wp2_with fail
      go_roundg (ks.length - (i + 1))
      case measure => omega
      case rel => exact ⟨i + 1, by go_num, by omega, Nat.le_refl _, ⟨below_then B1.out B1.out.size BI.out⟩, ⟨by rw [NR.out]; exact Kd.S_below S1.out BI.out⟩⟩
end Go.Proofs.YtblemmagkehanaaGreat.PA
