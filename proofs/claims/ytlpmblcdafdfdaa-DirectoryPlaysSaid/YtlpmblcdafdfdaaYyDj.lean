/- All: what is kept, by names. Condition: no more names than a directory holds. -/
import Derived.Test.YtlpmblcdafdfdaaYyDi
namespace Go.Proofs.Ytlpmblcdafdfdaa.PA
open Go.Shelf Go.RowKit Go.Lib Go.Sort Go.Proofs.YtlpmblcdafdfdaaW.PrintWords Go.Proofs.YtlpmblcdafdfdaaW.PrintLast Go.Proofs.YtlpmblcdafdfdaaW.PrintMore
set_option linter.unusedVariables false
set_option linter.unusedSimpArgs false
instance : Inhabited S57 := ⟨z57⟩
def cfA (x y : S57) : Int := cmpS x.f0 y.f0
theorem ltA (x y : S57) : ltOf cfA x y = nmLt x.f0 y.f0 := by
  unfold ltOf cfA cmpS
  by_cases h : nmLt x.f0 y.f0 = true
  · simp [h]
  · by_cases h2 : x.f0.toList = y.f0.toList <;> simp [h,h2]
theorem swoA : SWO (ltOf cfA) where
  irrefl x := by rw [ltA];exact nmLt_irrefl _
  trans x y z h1 h2 := by rw [ltA] at *;exact nmLt_trans h1 h2
  ntrans x y z h1 h2 := by rw [ltA] at *;exact nmLt_ntrans h1 h2
def sortN (L : List S57) : List S57 := L.mergeSort fun a b => !(nmLt b.f0 a.f0)
def ByName (L : List S57) : Prop := L.Pairwise fun a b => nmLt a.f0 b.f0 = true
theorem byName_unique : ∀ {l1 l2 : List S57},l1.Perm l2 → ByName l1 → ByName l2 → l1 = l2
  | [],l2,hp,_,_ => by rw [List.nil_perm.1 hp]
  | a :: r1,[],hp,_,_ => by have := hp.length_eq;simp at this
  | a :: r1,b :: r2,hp,h1,h2 => by
    have p1 := List.pairwise_cons.1 h1
    have p2 := List.pairwise_cons.1 h2
    have e : a = b := by
      rcases List.mem_cons.1 (hp.mem_iff.1 (List.mem_cons_self)) with e | ha
      · exact e
      · rcases List.mem_cons.1 (hp.mem_iff.2 (List.mem_cons_self)) with e | hb
        · exact e.symm
        · have x1 := p2.1 a ha
          have x2 := nmLt_asym (p1.1 b hb)
          rw [x1] at x2
          cases x2
    subst e
    rw [byName_unique hp.cons_inv p1.2 p2.2]
theorem byName_of {L : List S57} (h : L.Pairwise fun a b => nmLt b.f0 a.f0 = false) (hn : (L.map (·.f0)).Nodup) : ByName L := by
  induction L with
  | nil => exact List.Pairwise.nil
  | cons a r ih =>
    have p := List.pairwise_cons.1 h
    have q := List.nodup_cons.1 hn
    refine List.pairwise_cons.2 ⟨fun b hb => ?_,ih p.2 q.2⟩
    cases hx : nmLt a.f0 b.f0
    · exact absurd (List.mem_map.2 ⟨b,hb,(nmLt_tot hx (p.1 b hb)).symm⟩) q.1
    · rfl
theorem sortN_perm (L : List S57) : (sortN L).Perm L := List.mergeSort_perm L _
theorem sortN_len (L : List S57) : (sortN L).length = L.length := by simp [sortN]
theorem sortN_byName {L : List S57} (hn : (L.map (·.f0)).Nodup) : ByName (sortN L) := by
  refine byName_of ?_ (((sortN_perm L).map (·.f0)).nodup_iff.2 hn)
  have := List.pairwise_mergeSort (le := fun a b : S57 => !(nmLt b.f0 a.f0)) (fun a b c h1 h2 => by
    simp only [Bool.not_eq_true'] at *
    exact nmLt_ntrans h2 h1) (fun a b => by
    cases h : nmLt b.f0 a.f0
    · simp
    · simp [nmLt_asym h]) L
  exact this.imp (fun h => by simpa using h)
theorem encA_len (x : S57) : (encA x).length = 4 := rfl
theorem encA_one (x : S57) : ∀ v ∈ encA x,v.oneCell' = true := by
  intro v hv
  simp [encA] at hv
  rcases hv with rfl | rfl | rfl | rfl <;> rfl
theorem get_bang (P : List S57) (j : Nat) (h : j < P.length) : (P.toArray)[j]! = P[j] := by simp [getElem!_def,h]
theorem holdsA {w : World} {base : Nat} {ok : Nat → Prop} {g cap : Nat} {P : List S57} (h : Kd.R k57 57 w base ok (.slice (some ⟨g,0,none⟩) P.length cap) P) (hp : 0 < P.length) : HoldsK encA 4 w g 0 P.toArray := by
  obtain ⟨g',cap',e,h1,h2,cells,hcells⟩ := Kd.R_form h hp
  cases e
  have hC := (Kd.R_reads' h).2.2
  obtain ⟨_,_,hrow⟩ := hC
  obtain ⟨ad,e,hrow⟩ := hrow hp
  cases e
  intro t ht
  have ht' : t < P.length * 4 := by simpa using ht
  have hj : t / 4 < P.length := by omega
  obtain ⟨c,hcl,hK,hcell⟩ := hrow (t / 4) P[t / 4] (List.getElem?_eq_getElem hj)
  obtain rfl := k57_open hK
  rw [get_flatK _ _ _ _ (by simpa using ht'),get_bang P _ hj,blk_frozen hcells]
  refine ⟨?_,rfl⟩
  have hi : t % 4 < 4 := Nat.mod_lt _ (by omega)
  have h3 := hcell (t % 4) (encA P[t / 4])[t % 4]! (by
    have : (encA P[t / 4])[t % 4]? = some (encA P[t / 4])[t % 4]! := by
      rw [List.getElem!_eq_getElem?_getD,List.getElem?_eq_getElem (by rw [encA_len];exact hi)]
      rfl
    exact this)
  have e4 : t / 4 * k57.sz + t % 4 = t := by
    show t / 4 * 4 + t % 4 = t
    omega
  rw [e4] at h3
  have e5 : (⟨g,0,none⟩ : Addr).add t = ⟨g,0 + t,none⟩ := by
    unfold Addr.add
    by_cases h0 : t = 0 <;> simp [h0]
  rw [e5] at h3
  exact h3
theorem readsA {w : World} {g : Nat} {P : List S57} (h : HoldsK encA 4 w g 0 P.toArray) (hm : P.length ≤ 9223372036854775807) : Kd.C k57 w (some ⟨g,0,none⟩) P.length P := by
  refine ⟨rfl,hm,fun _ => ⟨⟨g,0,none⟩,rfl,fun j p hj => ⟨encA p,rfl,k57_mk w p,fun i u hu => ?_⟩⟩⟩
  have hjl := (List.getElem?_eq_some_iff.1 hj)
  obtain ⟨hjl,hje⟩ := hjl
  have hi : i < 4 := by
    have := (List.getElem?_eq_some_iff.1 hu).1
    simpa [encA] using this
  have h1 := (h.cell (i := j) (c := i) (by simpa using hjl) hi).1
  rw [get_bang P j hjl,hje] at h1
  have e5 : (⟨g,0,none⟩ : Addr).add (j * k57.sz + i) = ⟨g,0 + j * 4 + i,none⟩ := by
    show (⟨g,0,none⟩ : Addr).add (j * 4 + i) = _
    unfold Addr.add
    by_cases h0 : j * 4 + i = 0
    · rw [if_pos h0,Nat.zero_add,h0]
    · rw [if_neg h0,Nat.zero_add]
      simp
  rw [e5,h1]
  have : (encA p)[i]? = some (encA p)[i]! := by
    rw [List.getElem!_eq_getElem?_getD,List.getElem?_eq_getElem (by rw [encA_len];exact hi)]
    rfl
  rw [← this]
  exact hu
theorem perm_of {P : List S57} {d' : Array S57} (h : PermIn 0 P.toArray.size P.toArray d') : d'.toList.Perm P := by
  obtain ⟨hs,_,hp⟩ := h
  have e1 : (P.toArray.extract 0 P.toArray.size).toList = P := by simp
  have e2 : (d'.extract 0 P.toArray.size).toList = d'.toList := by
    rw [← hs]
    simp
  rwa [e1,e2] at hp
theorem sort_names {w : World} {base : Nat} {ok : Nat → Prop} {A : Option Addr} {cap : Nat} {P L : List S57} (h : Kd.R k57 57 w base ok (.slice A P.length cap) P) (hbase : base ≤ w.heap.size) (hPL : P.Perm L) (hn : (L.map (·.f0)).Nodup) (hs : P.length < 4611686018427387904) :
    Calls Try.prog 45 #[.slice A P.length cap,.func (.func 46) #[] #[]] w fun e w' => e = .returned (.tuple #[]) ∧ Below base w w' ∧ Kd.C k57 w' A (sortN L).length (sortN L) := by
  by_cases hp : 0 < P.length
  · obtain ⟨g,cap',e,hg,hlt,_⟩ := Kd.R_form h hp
    cases e
    have hH := holdsA h hp
    have eg : ∀ args w,(callFunc 46 args).run Try.prog w = .ok (.enter 46 args) w := enters_of Try.func46 (by kernel_rfl) rfl
    have hcon := AnyQ.slices_SortFunc Try.sortA 4 Try.isAgg57 Try.sizeOf57 encA encA_len encA_one cfA swoA 46 #[] g 0 cap P.toArray w eg (fun _ _ _ _ x y => all1_any x y _) hH hlt (by simpa using hs)
    rw [show (P.toArray).size = P.length by simp] at hcon
    refine hcon.mono ?_
    rintro e w' ⟨rfl,d',n,os,hpm,hst,rfl⟩
    have hpm2 := perm_of (P := P) (d' := d') (by rw [show (P.toArray).size = P.length by simp];exact hpm)
    have hsz : d'.size = P.length := by simpa using hpm2.length_eq
    have e0 : d'.toList = sortN L := by
      refine byName_unique (hpm2.trans (hPL.trans (sortN_perm L).symm)) (byName_of ?_ (((hpm2.trans hPL).map (·.f0)).nodup_iff.2 hn)) (sortN_byName hn)
      rw [List.pairwise_iff_getElem]
      intro i j hi hj hij
      have := hst i j (Nat.zero_le _) hij (by simpa [hsz] using hj)
      rw [ltA] at this
      have hi' : i < d'.size := by simpa using hi
      have hj' : j < d'.size := by simpa using hj
      simpa [getElem!_def,hi',hj'] using this
    obtain rfl : d' = (sortN L).toArray := by rw [← e0]
    refine ⟨rfl,?_,?_⟩
    · unfold sortWorldK putRowK
      exact below_then (below_rowPut (Below.refl base w) hg) (by rw [size_putRow];exact hbase) (below_more _ os)
    · refine readsA ?_ (by rw [sortN_len,← hPL.length_eq];omega)
      exact holdsK_sortWorldK_c encA 4 w g 0 P.toArray _ n os hH hlt (by simpa using hsz)
  · have h0 : P = [] := List.eq_nil_of_length_eq_zero (by omega)
    subst h0
    have hL : L = [] := List.nil_perm.1 hPL
    subst hL
    have hcon := AnyF.slices_SortFunc_none (P := Try.prog) (ρ := Try.sortA_ren) { Try.sortA with } A cap (.func (.func 46) #[] #[]) w
    refine hcon.mono fun e w' h => ⟨h.1,by rw [h.2];exact Below.refl _ _,?_⟩
    exact ⟨by simp [sortN],by simp [sortN],fun h => absurd h (by simp [sortN])⟩
end Go.Proofs.Ytlpmblcdafdfdaa.PA
