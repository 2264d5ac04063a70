/- News, sorted by destination: slices.SortFunc by the shelf, and what it leaves. Conditions: destinations are small, none stands twice. -/
import Derived.Test.YtjcnmpkaiopihaaZgHh
namespace Go.Proofs.Ytjcnmpkaiopihaa.PA
open Go.Shelf Go.RowKit Go.Lib Go.Sort Go.Proofs.YtjcnmpkaiopihaaW.PrintWords Go.Proofs.YtjcnmpkaiopihaaW.PrintLast Go.Proofs.YtjcnmpkaiopihaaW.PrintMore
set_option linter.unusedVariables false
set_option linter.unusedSimpArgs false
def SmallN (x : S56) : Prop := 0 ≤ x.f0 ∧ x.f0 ≤ 4611686018427387904
abbrev NS := { x : S56 // SmallN x }
instance : Inhabited NS := ⟨⟨z56,by unfold SmallN z56;decide⟩⟩
def ltN (x y : S56) : Bool := decide (x.f0 < y.f0)
def cfN (x y : NS) : Int := x.1.f0 - y.1.f0
def encN (a : S56) : List Value := [.int .i64 a.f0,.int .i64 a.f1,.float .f64 a.f2,.float .f64 a.f3,.int .i64 a.f4]
theorem ltOfN (x y : NS) : ltOf cfN x y = ltN x.1 y.1 := by
  unfold ltOf cfN ltN
  by_cases h2 : x.1.f0 < y.1.f0
  · simp [h2]
    omega
  simp [h2]
  omega
theorem ltN_irrefl (x : S56) : ltN x x = false := by unfold ltN;simp
theorem ltN_trans {x y z : S56} (h1 : ltN x y = true) (h2 : ltN y z = true) : ltN x z = true := by
  unfold ltN at *
  simp only [decide_eq_true_eq] at *
  omega
theorem ltN_ntrans {x y z : S56} (h1 : ltN x y = false) (h2 : ltN y z = false) : ltN x z = false := by
  unfold ltN at *
  simp only [decide_eq_false_iff_not] at *
  omega
theorem ltN_asym {x y : S56} (h : ltN x y = true) : ltN y x = false := by
  unfold ltN at *
  simp only [decide_eq_true_eq,decide_eq_false_iff_not] at *
  omega
theorem swoN : SWO (ltOf cfN) where
  irrefl x := by rw [ltOfN];exact ltN_irrefl _
  trans x y z h1 h2 := by rw [ltOfN] at *;exact ltN_trans h1 h2
  ntrans x y z h1 h2 := by rw [ltOfN] at *;exact ltN_ntrans h1 h2
set_option maxHeartbeats 2000000 in
set_option maxRecDepth 100000 in
theorem orderN_66 (x y : NS) (W : World) : Calls Try.prog 66 #[.agg (encN x.1).toArray,.agg (encN y.1).toArray] W fun e w' => e = .returned (.int .i64 (cfN x y)) ∧ ∃ q os',w' = grow (W.drewN q) os' := by
  have hu56 := Try.underlying56
  obtain ⟨x,hx3,hx4⟩ := x
  obtain ⟨y,hy3,hy4⟩ := y
  have s0 := sub64 ⟨hx3,hx4⟩ ⟨hy3,hy4⟩
  unfold cfN
  show Calls Try.prog 66 #[.agg #[.int .i64 x.f0,.int .i64 x.f1,.float .f64 x.f2,.float .f64 x.f3,.int .i64 x.f4],.agg #[.int .i64 y.f0,.int .i64 y.f1,.float .f64 y.f2,.float .f64 y.f3,.int .i64 y.f4]] W _
  go_enter Try.func66,Try.ntmps66
  go_wp2
  go_ret
  exact ⟨rfl,0,_,by rw [alloc_eq_grow,alloc_eq_grow,grow_grow];rfl⟩
def sortN (L : List S56) : List S56 := L.mergeSort fun a b => !(ltN b a)
def ByDst (L : List S56) : Prop := L.Pairwise fun a b => ltN a b = true
theorem byDst_unique : ∀ {l1 l2 : List S56},l1.Perm l2 → ByDst l1 → ByDst l2 → l1 = l2
  | [],l2,hp,_,_ => by rw [List.nil_perm.1 hp]
  | a :: r1,[],hp,_,_ => by have := hp.length_eq;simp at this
  | a :: r1,b :: r2,hp,h1,h2 => by
    have p1 := List.pairwise_cons.1 h1
    have p2 := List.pairwise_cons.1 h2
    have e : a = b := by
      rcases List.mem_cons.1 (hp.mem_iff.1 (List.mem_cons_self)) with e | ha
      · exact e
      rcases List.mem_cons.1 (hp.mem_iff.2 (List.mem_cons_self)) with e | hb
      · exact e.symm
      have x1 := p2.1 a ha
      have x2 := ltN_asym (p1.1 b hb)
      rw [x1] at x2
      cases x2
    subst e
    rw [byDst_unique hp.cons_inv p1.2 p2.2]
theorem ltN_tot {a b : S56} (h1 : ltN a b = false) (h2 : ltN b a = false) : a.f0 = b.f0 := by
  unfold ltN at *
  simp only [decide_eq_false_iff_not] at *
  omega
theorem byDst_of {L : List S56} (h : L.Pairwise fun a b => ltN b a = false) (hn : (L.map (·.f0)).Nodup) : ByDst L := by
  induction L with
  | nil => exact List.Pairwise.nil
  | cons a r ih =>
    have p := List.pairwise_cons.1 h
    have q := List.nodup_cons.1 hn
    refine List.pairwise_cons.2 ⟨fun b hb => ?_,ih p.2 q.2⟩
    cases hx : ltN a b
    · exact absurd (List.mem_map.2 ⟨b,hb,(ltN_tot hx (p.1 b hb)).symm⟩) q.1
    rfl
theorem sortN_perm (L : List S56) : (sortN L).Perm L := List.mergeSort_perm L _
theorem sortN_len (L : List S56) : (sortN L).length = L.length := by simp [sortN]
theorem sortN_byDst {L : List S56} (hn : (L.map (·.f0)).Nodup) : ByDst (sortN L) := by
  refine byDst_of ?_ (((sortN_perm L).map (·.f0)).nodup_iff.2 hn)
  have := List.pairwise_mergeSort (le := fun a b : S56 => !(ltN b a)) (fun a b c h1 h2 => by
    simp only [Bool.not_eq_true'] at *
    exact ltN_ntrans h2 h1) (fun a b => by
    cases h : ltN b a
    · simp
    simp [ltN_asym h]) L
  exact this.imp (fun h => by simpa using h)
def encY (x : NS) : List Value := encN x.1
theorem encY_len (x : NS) : (encY x).length = 5 := rfl
theorem encY_one (x : NS) : ∀ v ∈ encY x,v.oneCell' = true := by
  intro v hv
  simp [encY,encN] at hv
  rcases hv with rfl | rfl | rfl | rfl | rfl <;> rfl
theorem get_bangY (P : List NS) (j : Nat) (h : j < P.length) : (P.toArray)[j]! = P[j] := by simp [getElem!_def,h]
theorem holdsY {w : World} {base : Nat} {ok : Nat → Prop} {g cap : Nat} {P : List NS} (h : Kd.R k56 56 w base ok (.slice (some ⟨g,0,none⟩) (P.map (·.1)).length cap) (P.map (·.1))) (hp : 0 < P.length) : HoldsK encY 5 w g 0 P.toArray := by
  obtain ⟨g',cap',e,h1,h2,cells,hcells⟩ := Kd.R_form h (by simpa using hp)
  cases e
  have hC := (Kd.R_reads' h).2.2
  obtain ⟨_,_,hrow⟩ := hC
  obtain ⟨ad,e,hrow⟩ := hrow (by simpa using hp)
  cases e
  intro t ht
  have ht' : t < P.length * 5 := by simpa using ht
  have hj : t / 5 < P.length := by omega
  have hj2 : t / 5 < (P.map (·.1)).length := by simpa using hj
  obtain ⟨c,hcl,hK,hcell⟩ := hrow (t / 5) (P[t / 5]).1 (by rw [List.getElem?_map,List.getElem?_eq_getElem hj];rfl)
  obtain rfl := k56_open hK
  rw [get_flatK _ _ _ _ (by simpa using ht'),get_bangY P _ hj,blk_frozen hcells]
  refine ⟨?_,rfl⟩
  have hi : t % 5 < 5 := Nat.mod_lt _ (by omega)
  have h3 := hcell (t % 5) (encY P[t / 5])[t % 5]! (by
    have : (encY P[t / 5])[t % 5]? = some (encY P[t / 5])[t % 5]! := by
      rw [List.getElem!_eq_getElem?_getD,List.getElem?_eq_getElem (by rw [encY_len];exact hi)]
      rfl
    exact this)
  have e4 : t / 5 * k56.sz + t % 5 = t := by
    show t / 5 * 5 + t % 5 = t
    omega
  rw [e4] at h3
  have e5 : (⟨g,0,none⟩ : Addr).add t = ⟨g,0 + t,none⟩ := by
    unfold Addr.add
    by_cases h0 : t = 0 <;> simp [h0]
  rw [e5] at h3
  exact h3
theorem readsY {w : World} {g : Nat} {P : List NS} (h : HoldsK encY 5 w g 0 P.toArray) (hm : P.length ≤ 9223372036854775807) : Kd.C k56 w (some ⟨g,0,none⟩) (P.map (·.1)).length (P.map (·.1)) := by
  refine ⟨rfl,by simpa using hm,fun _ => ⟨⟨g,0,none⟩,rfl,fun j p hj => ⟨encN p,rfl,k56_mk w p,fun i u hu => ?_⟩⟩⟩
  rw [List.getElem?_map] at hj
  obtain ⟨x,hx,hxe⟩ := Option.map_eq_some_iff.1 hj
  obtain ⟨hjl,hje⟩ := (List.getElem?_eq_some_iff.1 hx)
  have hi : i < 5 := by
    have := (List.getElem?_eq_some_iff.1 hu).1
    simpa [encN] using this
  have h1 := (h.cell (i := j) (c := i) (by simpa using hjl) hi).1
  rw [get_bangY P j hjl,hje] at h1
  have e5 : (⟨g,0,none⟩ : Addr).add (j * k56.sz + i) = ⟨g,0 + j * 5 + i,none⟩ := by
    show (⟨g,0,none⟩ : Addr).add (j * 5 + i) = _
    unfold Addr.add
    by_cases h0 : j * 5 + i = 0
    · rw [if_pos h0,Nat.zero_add,h0]
    rw [if_neg h0,Nat.zero_add]
    simp
  rw [e5,h1]
  have : (encY x)[i]? = some (encY x)[i]! := by
    rw [List.getElem!_eq_getElem?_getD,List.getElem?_eq_getElem (by rw [encY_len];exact hi)]
    rfl
  rw [← this]
  subst hxe
  exact hu
theorem perm_ofY {P : List NS} {d' : Array NS} (h : PermIn 0 P.toArray.size P.toArray d') : d'.toList.Perm P := by
  obtain ⟨hs,_,hp⟩ := h
  have e1 : (P.toArray.extract 0 P.toArray.size).toList = P := by simp
  have e2 : (d'.extract 0 P.toArray.size).toList = d'.toList := by
    rw [← hs]
    simp
  rwa [e1,e2] at hp
theorem isAgg56 : ∀ w,(isAgg 56).run Try.prog w = .ok true w := fun _ => by kernel_rfl
theorem sizeOf56 : ∀ w,(Go.sizeOf 56).run Try.prog w = .ok 5 w := fun _ => by kernel_rfl
theorem sort_news {fn : Nat} (hfn : ∀ args w,(callFunc fn args).run Try.prog w = .ok (.enter fn args) w) (hord : ∀ (x y : NS) (W : World),Calls Try.prog fn #[.agg (encN x.1).toArray,.agg (encN y.1).toArray] W fun e w' => e = .returned (.int .i64 (cfN x y)) ∧ ∃ q os',w' = grow (W.drewN q) os') {w : World} {base : Nat} {ok : Nat → Prop} {A : Option Addr} {cap : Nat} {P L : List S56} (h : Kd.R k56 56 w base ok (.slice A P.length cap) P) (hbase : base ≤ w.heap.size) (hsm : ∀ x ∈ P,SmallN x) (hPL : P.Perm L) (hn : (L.map (·.f0)).Nodup) (hs : P.length < 4611686018427387904) :
    Calls Try.prog 57 #[.slice A P.length cap,.func (.func fn) #[] #[]] w fun e w' => e = .returned (.tuple #[]) ∧ Below base w w' ∧ Kd.R k56 56 w' base ok (.slice A (sortN L).length cap) (sortN L) := by
  obtain ⟨X,hX⟩ : ∃ X : List NS,X.map (·.1) = P := ⟨P.attachWith SmallN hsm,(List.attachWith_map_val (f := fun x : S56 => x) hsm).trans (by simp)⟩
  subst hX
  by_cases hp : 0 < X.length
  · obtain ⟨g,cap',e,hg,hlt,_⟩ := Kd.R_form h (by simpa using hp)
    cases e
    have hH := holdsY h hp
    have hcon := AnyQ.slices_SortFunc Try.sortN 5 isAgg56 sizeOf56 encY encY_len encY_one cfN swoN fn #[] g 0 cap X.toArray w hfn (fun _ _ _ _ x y => hord x y _) hH hlt (by simpa using hs)
    rw [show (X.toArray).size = (X.map (·.1)).length by simp] at hcon
    refine hcon.mono ?_
    rintro e w' ⟨rfl,d',n,os,hpm,hst,rfl⟩
    have hpm2 := perm_ofY (P := X) (d' := d') (by rw [show (X.toArray).size = (X.map (·.1)).length by simp];exact hpm)
    have hsz : d'.size = X.length := by simpa using hpm2.length_eq
    have e0 : d'.toList.map (·.1) = sortN L := by
      have hpv : (d'.toList.map (·.1)).Perm L := (hpm2.map _).trans hPL
      refine byDst_unique (hpv.trans (sortN_perm L).symm) (byDst_of ?_ ((hpv.map (·.f0)).nodup_iff.2 hn)) (sortN_byDst hn)
      rw [List.pairwise_iff_getElem]
      intro i j hi hj hij
      have hi' : i < d'.size := by simpa using hi
      have hj' : j < d'.size := by simpa using hj
      have := hst i j (Nat.zero_le _) hij (by simpa [hsz] using hj')
      rw [ltOfN] at this
      simpa [getElem!_def,hi',hj'] using this
    refine ⟨rfl,?_,?_⟩
    · unfold sortWorldK putRowK
      exact below_then (below_rowPut (Below.refl base w) hg) (by rw [size_putRow];exact hbase) (below_more _ os)
    have hr := readsY (P := d'.toList) (w := sortWorldK encY 5 w g 0 n d' os) (g := g) (by
      have := holdsK_sortWorldK_c encY 5 w g 0 X.toArray d' n os hH hlt (by simpa using hsz)
      simpa using this) (by simp only [Array.length_toList];have : (X.map (·.1)).length = X.length := by simp
                            omega)
    rw [e0] at hr
    have hll : (sortN L).length = (X.map (·.1)).length := by rw [sortN_len,← hPL.length_eq]
    exact R_turned (enc := encN) (fun _ => rfl) (fun _ _ _ hk => k56_open hk) k56_mkM h hll (sortBlock hlt) hr
  have h0 : X = [] := List.eq_nil_of_length_eq_zero (by omega)
  subst h0
  have hL : L = [] := List.nil_perm.1 hPL
  subst hL
  have hR0 := h
  have hcon := AnyF.slices_SortFunc_none (P := Try.prog) (ρ := Try.sortN_ren) { Try.sortN with } A cap (.func (.func fn) #[] #[]) w
  refine hcon.mono fun e w' h => ⟨h.1,by rw [h.2];exact Below.refl _ _,?_⟩
  rw [h.2]
  have e0 : sortN [] = [] := by simp [sortN]
  rw [e0]
  exact hR0
end Go.Proofs.Ytjcnmpkaiopihaa.PA
