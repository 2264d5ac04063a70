/- All of a directory that was made. Condition: no more names than a directory holds. -/
import Derived.Test.YtlpmblcdafdfdaaYyDj
namespace Go.Proofs.Ytlpmblcdafdfdaa.PA
open Go.RowKit Go.Proofs.YtlpmblcdafdfdaaW.PrintWords Go.Proofs.YtlpmblcdafdfdaaW.PrintLast Go.Proofs.YtlpmblcdafdfdaaW.PrintMore
set_option linter.unusedVariables false
set_option linter.unusedSimpArgs false
theorem dir_split {rest : List S57} {l1 l2 : List (ByteArray × Value)} {k : ByteArray} {v : Value} (h : dirM rest = l1 ++ (k,v) :: l2) : ∃ r1 a r2,rest = r1 ++ a :: r2 ∧ l1 = dirM r1 ∧ k = a.f0 ∧ v = adV a ∧ l2 = dirM r2 := by
  obtain ⟨r1,r2',e1,e2,e3⟩ := List.map_eq_append_iff.1 h
  obtain ⟨a,r2,e4,e5,e6⟩ := List.map_eq_cons_iff.1 e3
  obtain ⟨rfl,rfl⟩ := Prod.mk.inj e5
  exact ⟨r1,a,r2,by rw [e1,e4],e2.symm,rfl,rfl,e6.symm⟩
theorem DirAt.nodup {w : World} {g b : Nat} {life : Int} {L : List S57} (h : DirAt w g b life L) : (L.map (·.f0)).Nodup := by
  obtain ⟨es,clock,_,_,hn,_⟩ := h.2
  rw [dirM,List.map_map] at hn
  exact hn
def AllInv (w wr : World) (r b : Nat) (L P rest : List S57) (vl : Value) : Prop :=
  Kd.R k57 57 wr w.heap.size (fun k => k ≠ r) vl P ∧ Ranging wr r b Value.string (dirM L) (dirM rest) ∧ Below w.heap.size w wr ∧ (P ++ rest).Perm L ∧ w.heap.size ≤ r
theorem AllInv.len {w wr : World} {r b : Nat} {L P rest : List S57} {vl : Value} (h : AllInv w wr r b L P rest vl) : P.length + rest.length = L.length := by
  have := h.2.2.2.1.length_eq
  simpa using this
theorem inf57 : (Try.prog.info? 57).map (fun i => (i.zero,i.size,i.bytes)) = some (some (.agg #[(.string ⟨#[]⟩),(.int .i64 0),(.int .i64 0),(.int .i64 0)]),4,40) := by kernel_rfl
def nilA : Value := .agg #[.string ⟨#[]⟩,.int .i64 0,.int .i64 0,.int .i64 0]
theorem AllInv.row {w wr w2 : World} {r b : Nat} {L P rest : List S57} {vl : Value} (h : AllInv w wr r b L P rest vl) (hg : wr.grownBy w2 (some r)) (o : Obj) : Kd.R k57 57 (w2.alloc o) w.heap.size (fun k => k ≠ r) vl P ∧ Below w.heap.size w (w2.alloc o) :=
  ⟨Kd.R_alloc (Kd.R_grown h.1 hg (fun k hk e => hk (Option.some.inj e))) o,below_alloc (pw_below_grown h.2.2.1 _ h.2.2.1.size hg (fun k e => by cases e;exact h.2.2.2.2)) o⟩
theorem AllInv.step {w wr w2 w3 : World} {r b : Nat} {L P rest r1 r2 : List S57} {a : S57} {vl v3 : Value} {o : Obj} (h : AllInv w wr r b L P rest vl) (hb : b < w.heap.size) (hs : rest = r1 ++ a :: r2) (hg : wr.grownBy w2 (some r)) (hr : Ranging w2 r b Value.string (dirM L) (dirM r1 ++ dirM r2))
    (h3 : Kd.R k57 57 w3 w.heap.size (fun k => k ≠ r) v3 (P ++ [a])) (hb3 : Below w.heap.size w w3) (hg3 : (w2.alloc o).grownBy w3 vl.ownBlock) : AllInv w w3 r b L (P ++ [a]) (r1 ++ r2) v3 := by
  refine ⟨h3,?_,hb3,?_,h.2.2.2.2⟩
  · rw [show dirM (r1 ++ r2) = dirM r1 ++ dirM r2 from List.map_append]
    refine (hr.below (below_alloc (Below.refl _ _) o)).grown hg3 (fun e => ?_) (fun e => ?_)
    · have := Kd.R_base h.1 b e.symm
      omega
    · exact h.1.1 r e.symm rfl
  · refine List.Perm.trans ?_ h.2.2.2.1
    rw [hs,List.append_assoc]
    show (P ++ (a :: (r1 ++ r2))).Perm _
    exact List.Perm.append_left P List.perm_middle.symm
set_option maxHeartbeats 2000000 in
set_option maxRecDepth 100000 in
theorem all_live {w : World} {g b : Nat} {life : Int} {L : List S57} (h : DirAt w g b life L) (hl : L.length ≤ 4096) :
    Calls Try.prog 29 #[.pointer (some ⟨g,0,none⟩)] w fun e w' => ∃ A c,e = .returned (.slice A (sortN L).length c) ∧ (sortN L).length ≤ c ∧ Kd.C k57 w' A (sortN L).length (sortN L) ∧ Below w.heap.size w w' := by
  have HD := Aside0.mk h
  have ND := Aside0.mk h.nodup
  have hu70 := Try.underlying70
  have hu57 := Try.underlying57
  have hu40 := Try.underlying40
  have hlt := blk_lt h.1
  have c1 : w.cell? ⟨g,1,none⟩ = some (.map (some b)) := (blk_cell h.1 1).trans rfl
  clear h
  go_enter Try.func29,Try.ntmps29
  go_wp2_with (first | (go_at_call 38;refine (is_made HD.out).mono ?_;rintro e w' ⟨rfl,rfl⟩) | (at_range;refine wp_range rfl (.tmp 12) 68 9 57 rfl Try.underlying68 rfl HD.out.2 ?_;intro w1 hrg hb hsz;have I1 := Aside0.mk (show AllInv w w1 w.heap.size b L [] L (.slice none 0 0) from ⟨Kd.R_nil _ _ _ _ _,hrg,hb,List.Perm.refl _,Nat.le_refl _⟩);clear hrg hb hsz))
  obtain ⟨r,hr⟩ : ∃ r,r = w.heap.size := ⟨_,rfl⟩
  have RR := Aside0.mk hr
  rw [← hr] at I1 ⊢
  clear c1 hlt hr
  go_frame
  go_loopg [3] L.length (fun kq vl wr => ∃ P rest,Aside0 (AllInv w wr r b L P rest vl) ∧ rest.length = kq)
  case atStart => exact ⟨[],L,⟨by have := I1.out;exact this⟩,rfl⟩
  case round =>
    obtain ⟨P,rest,HJ,hk⟩ := hrel
    cases rest with
    | nil =>
      have hp : P.Perm L := by have := HJ.out.2.2.2.1;rwa [List.append_nil] at this
      have hle : P.length ≤ 4096 := by rw [hp.length_eq];exact hl
      have HP := Aside0.mk hp
      have HLE := Aside0.mk hle
      obtain ⟨A,c,rfl⟩ := Kd.R_slice HJ.out.1
      have hcc := (Kd.R_reads' HJ.out.1).2.1
      have HCC : Aside0 ((sortN L).length ≤ c) := ⟨by rw [sortN_len,← hp.length_eq];exact hcc⟩
      clear hp hle hcc
      go_wp2_with (first | (at_next;refine wp_next rfl (.tmp 13) rfl rfl HJ.out.2.1 (fun _ => ?_) (fun k v l1 l2 w' h1 => absurd h1 (by simp [dirM]))) | (go_at_call 45;refine (sort_names HJ.out.1 HJ.out.2.2.1.size HP.out ND.out (by have := HLE.out;omega)).mono ?_;rintro e w2 ⟨rfl,hb,hc⟩;have HB2 := Aside0.mk (HJ.out.2.2.1.trans hb);have HC2 := Aside0.mk hc;clear hb hc))
      go_ret
      exact ⟨A,c,by rw [sortN_len,← HP.out.length_eq];rfl,HCC.out,HC2.out,HB2.out⟩
    | cons a0 rest0 =>
      have NE : Aside0 (dirM (a0 :: rest0) ≠ []) := ⟨by simp [dirM]⟩
      have HBM : Aside0 (b < w.heap.size) := ⟨HD.out.2.lt⟩
      have LN : Aside0 (P.length + (rest0.length + 1) ≤ 4096) := ⟨by have := HJ.out.len;simp at this;omega⟩
      go_wp2_with (first | (at_next;refine wp_next rfl (.tmp 13) rfl rfl HJ.out.2.1 (fun h0 => absurd h0 NE.out) ?_;intro k v l1 l2 w2 h1 hrg hg hsz hent;obtain ⟨r1,a,r2,hrs,rfl,rfl,rfl,rfl⟩ := dir_split h1;simp only [adV] at hent;have RG := Aside0.mk hrg;have GG := Aside0.mk hg;have RS := Aside0.mk hrs;clear h1 hrg hg hsz hrs) | ((with_reducible refine gate_builtin (b := .append) (xs := #[.tmp 18,.tmp 20]) rfl ?_);at_builtin;refine Kd.R_append k57 (w0 := w) w.heap.size rfl (.tmp 18) (.tmp 20) 40 57 nilA 40 rfl Try.underlying40 inf57 rfl (by decide) (by omega) u3 P a [.string a.f0,.int .i64 a.f1,.int .i64 a.f2,.int .i64 a.f3] (fun k => k ≠ r) (fun _ => False) rfl (by first | rfl | (simp [Act.eval,Act.put];done)) ?aP (fun _ hk => hk.elim) ?aF ?aO ?aB ?aS ?aL ?_;(case aP => exact k57_mkM _ _ _ a);(case aF => exact (fun k hk e => by have := RG.out.lt;simp at hk;omega));(case aO => exact (HJ.out.row GG.out _).1);(case aB => exact (HJ.out.row GG.out _).2);(case aS => exact (HJ.out.row GG.out _).2.size);(case aL => have := LN.out;omega);intro v3 w3 ho hb3 hg3 hat;have I3 := Aside0.mk (HJ.out.step HBM.out RS.out GG.out RG.out ho hb3 hg3);clear ho hb3 hg3 hat))
      go_roundg (gk - 1)
      case measure => simp at hk;omega
      case rel => exact ⟨_,_,I3,by have := congrArg List.length RS.out;simp at this hk;simp;omega⟩
end Go.Proofs.Ytlpmblcdafdfdaa.PA
