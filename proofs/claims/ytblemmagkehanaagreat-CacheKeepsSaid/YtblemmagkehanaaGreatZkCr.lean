/- The document's Dests, Offers and Copy in plain terms. Conditions: what is heard may be, the lists fit in memory. -/
import Derived.Test.YtblemmagkehanaaGreatZkGn
import Derived.Test.YtblemmagkehanaaGreatZkPAx0
import Derived.Test.YtblemmagkehanaaGreatZkCq
namespace Go.Proofs.YtblemmagkehanaaGreat.PA
open Go.RowKit Go.Proofs.YtblemmagkehanaaGreatW.PrintWords Go.Proofs.YtblemmagkehanaaGreatW.PrintLast Go.Proofs.YtblemmagkehanaaGreatW.PrintMore
set_option linter.unusedVariables false
set_option linter.unusedSimpArgs false
def Ev {α : Type} (F : Nat → Option α) (r : α) : Prop := ∃ K,∀ k,K ≤ k → F k = some r
theorem Ev.next {α : Type} {F G : Nat → Option α} {r : α} (h : Ev G r) (e : ∀ k,F (k + 1) = G k) : Ev F r := by
  obtain ⟨K,hK⟩ := h;refine ⟨K + 1,fun k hk => ?_⟩;obtain ⟨j,rfl⟩ : ∃ j,k = j + 1 := ⟨k - 1,by omega⟩
  rw [e];exact hK j (by omega)
theorem rdh (l : List S43) (i : Nat) : rd_T43 l (i : Int) = l.getD i z43 := by unfold rd_T43;rw [Int.toNat_natCast]
theorem pigeon : ∀ (N : Nat) (l : List Int),l.Nodup → (∀ x ∈ l,1 ≤ x ∧ x ≤ (N : Int)) → l.length ≤ N
  | 0,l,hn,h => by
    cases l with
    | nil => simp
    | cons a r => have := h a List.mem_cons_self;omega
  | N + 1,l,hn,h => by
    have ih := pigeon N (l.erase ((N + 1 : Nat) : Int)) (hn.erase _) (fun x hx => by
      have hx := (List.Nodup.mem_erase_iff hn).1 hx;have := h x hx.2;omega)
    rw [List.length_erase] at ih
    split at ih <;> omega
theorem Ev.nextBind {α β : Type} {F : Nat → Option β} {G : Nat → Option α} {H : α → Nat → Option β} {a : α} {r : β} (hG : Ev G a) (hH : Ev (H a) r) (e : ∀ k,F (k + 1) = (G k).bind fun x => H x k) : Ev F r := by
  obtain ⟨K1,h1⟩ := hG;obtain ⟨K2,h2⟩ := hH;refine ⟨max K1 K2 + 1,fun k hk => ?_⟩;obtain ⟨j,rfl⟩ : ∃ j,k = j + 1 := ⟨k - 1,by omega⟩
  rw [e,h1 j (by omega),Option.bind_some];exact h2 j (by omega)
theorem Ev.now {α : Type} {F : Nat → Option α} {r : α} (e : ∀ k,F (k + 1) = some r) : Ev F r := ⟨1,fun k hk => by
  obtain ⟨j,rfl⟩ : ∃ j,k = j + 1 := ⟨k - 1,by omega⟩
  exact e j⟩
theorem rise_nodup {l : List Int} (h : l.Pairwise (· < ·)) : l.Nodup := h.imp (fun h e => by omega)
def RisOk (D : List Int) : Prop := D.Pairwise (· < ·) ∧ ∀ x ∈ D,okId x = true
theorem RisOk.len {D : List Int} (h : RisOk D) : D.length ≤ 2147483647 := pigeon 2147483647 D (rise_nodup h.1) fun x hx => (by simpa [okId] using h.2 x hx)
def findV (kind d : Int) (ns : List S61) : Option S61 := ns.find? fun n => n.f1 == kind && n.f0 == d
theorem find_l0 (ns : List S61) (kind d : Int) (hl : ns.length < 4611686018427387904) : ∀ (m i k : Nat),i + m = ns.length → m + 1 ≤ k →
    beaconref13_find.l0 k ns kind d (i : Int) = some (match findV kind d (ns.drop i) with | some n => (n.f0,n.f1,n.f2,n.f3,n.f4,true) | none => (0,0,0,0,0,false))
  | 0,i,k + 1,e,hk => by
    rw [beaconref13_find_l0_eq,if_neg (by omega),List.drop_eq_nil_of_le (by omega)];rfl
  | m + 1,i,k + 1,e,hk => by
    have hi : i < ns.length := by omega
    have ih := find_l0 ns kind d hl m (i + 1) k (by omega) (by omega);have hat : ns.getD i z61 = ns[i] := by simp [List.getD_eq_getElem?_getD,hi]
    rw [beaconref13_find_l0_eq,if_pos (by omega),if_pos (by omega),rdn,hat,List.drop_eq_getElem_cons hi,next64 _ (by omega),ih];unfold findV;rw [List.find?_cons]
    by_cases h1 : ns[i].f1 = kind
    · by_cases h2 : ns[i].f0 = d
      · have hb : (ns[i].f1 == kind && ns[i].f0 == d) = true := by simp [h1,h2]
        rw [if_pos h1,if_pos h2,hb]
      have hb : (ns[i].f1 == kind && ns[i].f0 == d) = false := by simp [h2]
      rw [if_pos h1,if_neg h2,hb]
    have hb : (ns[i].f1 == kind && ns[i].f0 == d) = false := by simp [h1]
    rw [if_neg h1,hb]
theorem find_all (ns : List S61) (kind d : Int) (hl : ns.length < 4611686018427387904) (k : Nat) (hk : ns.length + 1 ≤ k) : beaconref13_find.f k ns kind d = some (match findV kind d ns with | some n => (n.f0,n.f1,n.f2,n.f3,n.f4,true) | none => (0,0,0,0,0,false)) := find_l0 ns kind d hl ns.length 0 k (by omega) hk
theorem news_l0 (l : List S61) (hl : l.length < 3518437208883) : ∀ (m i : Nat),i + m = l.length → Ev (fun k => beaconref13_News.l0 k l (l.take i) (i : Int)) l
  | 0,i,e => by
    rw [List.take_of_length_le (by omega)];exact Ev.now fun k => by rw [beaconref13_News_l0_eq,if_neg (by omega)]
  | m + 1,i,e => by
    have hi : i < l.length := by omega
    have hat : l.getD i z61 = l[i] := by simp [List.getD_eq_getElem?_getD,hi]
    have ih := news_l0 l hl m (i + 1) (by omega);rw [List.take_succ_eq_append_getElem hi] at ih;refine Ev.next ih fun k => ?_
    rw [beaconref13_News_l0_eq,if_pos (by omega),if_pos (by omega),if_pos (by rw [List.length_take];omega),rdn,hat,next64 _ (by omega)]
theorem news_copy (l : List S61) (hl : l.length < 3518437208883) : Ev (fun k => beaconref13_News.f k l) l := by
  have := news_l0 l hl l.length 0 (by omega);exact this
theorem copy_l0 (l : List S43) (hl : l.length < 3518437208883) (hn : ∀ h ∈ l,h.f2.length < 3518437208883) : ∀ (m i : Nat),i + m = l.length → Ev (fun k => beaconref13_Copy.l0 k l (l.take i) (i : Int)) l
  | 0,i,e => by
    rw [List.take_of_length_le (by omega)];exact Ev.now fun k => by rw [beaconref13_Copy_l0_eq,if_neg (by omega)]
  | m + 1,i,e => by
    have hi : i < l.length := by omega
    have hat : l.getD i z43 = l[i] := by simp [List.getD_eq_getElem?_getD,hi]
    have ih := copy_l0 l hl hn m (i + 1) (by omega);rw [List.take_succ_eq_append_getElem hi] at ih;refine Ev.nextBind (news_copy l[i].f2 (hn _ (List.getElem_mem hi))) (H := fun t k => if (l.take i).length < 3518437208883 then beaconref13_Copy.l0 k l (l.take i ++ [⟨l[i].f0,l[i].f1,t⟩]) ((i + 1 : Nat) : Int) else none) ?_ fun k => ?_
    · have : (l.take i).length < 3518437208883 := by rw [List.length_take];omega
      simp only [if_pos this];exact ih
    rw [beaconref13_Copy_l0_eq,if_pos (by omega),if_pos (by omega),rdh,hat,next64 _ (by omega)]
theorem copy_all (l : List S43) (hl : l.length < 3518437208883) (hn : ∀ h ∈ l,h.f2.length < 3518437208883) : Ev (fun k => beaconref13_Copy.f k l) l := by
  have := copy_l0 l hl hn l.length 0 (by omega);exact this
end Go.Proofs.YtblemmagkehanaaGreat.PA
namespace Go.Proofs.YtblemmagkehanaaGreat.PA
open Go.RowKit Go.Proofs.YtblemmagkehanaaGreatW.PrintWords Go.Proofs.YtblemmagkehanaaGreatW.PrintLast Go.Proofs.YtblemmagkehanaaGreatW.PrintMore
set_option linter.unusedVariables false
structure S31 where
  f0 : Int
  f1 : Int
  f2 : Nat
  f3 : (List S61)
def z31 : S31 := ⟨(0 : Int),(0 : Int),(0 : Nat),([] : List S61)⟩
def k31 : Kd S31 := Kd.iso (Kd.pair (Kd.int .i64) (Kd.pair (Kd.int .i64) (Kd.pair Kd.float (Kd.slice 61 k61)))) (fun x : S31 => (x.f0,x.f1,x.f2,x.f3))
theorem k31_open {w : World} {x : S31} {cs : List Value} (h : k31.K w x cs) : ∃ A3 c3,cs = [.int .i64 x.f0,.int .i64 x.f1,.float .f64 x.f2,.slice A3 x.f3.length c3] ∧ x.f3.length ≤ c3 ∧ k61.C w A3 x.f3.length x.f3 := by
  obtain ⟨_,_,rfl,rfl,⟨_,_,rfl,rfl,⟨_,_,rfl,rfl,⟨A3,c3,rfl,l3,g3⟩⟩⟩⟩ := h;exact ⟨A3,c3,rfl,l3,g3⟩
def rd_T31 (xs : List S31) (i : Int) : S31 := xs.getD i.toNat z31
theorem at_T31 {w : World} {A : Option Addr} {n : Nat} {xs : List S31} (h : Kd.C k31 w A n xs) (i : Int) (h0 : 0 ≤ i) (h1 : i < n) : ∃ ad A3 c3,A = some ad ∧ w.cell? (ad.add (i.toNat * 4)) = some (.int .i64 (rd_T31 xs i).f0) ∧ w.cell? ⟨(ad.add (i.toNat * 4)).block,(ad.add (i.toNat * 4)).off + 1,none⟩ = some (.int .i64 (rd_T31 xs i).f1) ∧ w.cell? ⟨(ad.add (i.toNat * 4)).block,(ad.add (i.toNat * 4)).off + 2,none⟩ = some (.float .f64 (rd_T31 xs i).f2) ∧ w.cell? ⟨(ad.add (i.toNat * 4)).block,(ad.add (i.toNat * 4)).off + 3,none⟩ = some (.slice A3 (rd_T31 xs i).f3.length c3) ∧ (rd_T31 xs i).f3.length ≤ c3 ∧ k61.C w A3 (rd_T31 xs i).f3.length (rd_T31 xs i).f3 := by
  obtain ⟨ad,c,e,_,hK,hc0⟩ := Kd.C_get h z31 i h0 h1;have hc : ∀ j u,c[j]? = some u → w.cell? (ad.add (i.toNat * 4 + j)) = some u := hc0;obtain ⟨A3,c3,rfl,l3,g3⟩ := k31_open hK;exact ⟨ad,A3,c3,e,hc 0 _ rfl,by rw [← add_field _ _ 1 (by omega)];exact hc 1 _ rfl,by rw [← add_field _ _ 2 (by omega)];exact hc 2 _ rfl,by rw [← add_field _ _ 3 (by omega)];exact hc 3 _ rfl,l3,g3⟩
end Go.Proofs.YtblemmagkehanaaGreat.PA
namespace Go.Proofs.YtblemmagkehanaaGreat.PA
open Go.RowKit Go.Proofs.YtblemmagkehanaaGreatW.PrintWords Go.Proofs.YtblemmagkehanaaGreatW.PrintLast Go.Proofs.YtblemmagkehanaaGreatW.PrintMore
set_option linter.unusedVariables false
set_option linter.unusedSimpArgs false
set_option maxRecDepth 100000 in
theorem f51_any (x : S61) (W : World) : Calls Tryz.prog 51 #[agg61 x] W fun e w' => e = .returned (.bool true) ∧ Below W.heap.size W w' := by
  unfold agg61;go_enter Tryz.func51,Tryz.ntmps51;go_wp2;go_ret;exact ⟨rfl,below_alloc (Below.refl _ _) _⟩
def allK (L : List Nb) : List S43 := heardK true (fun _ => true) L (idsV L)
set_option maxRecDepth 100000 in
theorem all_live {w : World} {g b : Nat} {L : List Nb} (h : CacheAt w g b L) (hk : ∀ e ∈ L,okId e.id = true) (hl : L.length ≤ 2147483647) :
    Calls Tryz.prog 24 #[.pointer (some ⟨g,0,none⟩)] w fun e w' => ∃ v,e = .returned v ∧ Kd.S k43 43 w' w.heap.size (fun _ => True) v (allK L) ∧ Below w.heap.size w w' := by
  have HH := Aside0.mk (heard_any h hk hl true (fun _ => true) #[] Tryz.func51 (by kernel_rfl) rfl (fun x W _ => f51_any x W));clear h hk hl;go_enter Tryz.func24,Tryz.ntmps24
  go_wp2_with (go_at_call 44;refine HH.out.mono ?_;rintro e w1 ⟨v,rfl,hS,hb⟩;have HS := Aside0.mk hS;have HB := Aside0.mk hb;clear hS hb)
  go_ret;exact ⟨v,rfl,HS.out,HB.out⟩
end Go.Proofs.YtblemmagkehanaaGreat.PA
