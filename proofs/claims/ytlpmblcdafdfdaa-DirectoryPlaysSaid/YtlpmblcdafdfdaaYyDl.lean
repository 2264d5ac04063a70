/- Tick of a directory that was made, in plain terms. Condition: no more names than a directory holds, each kept at least one tick more and at most 2^20. -/
import Derived.Test.YtlpmblcdafdfdaaYyDk
namespace Go.Proofs.Ytlpmblcdafdfdaa.PA
open Go.RowKit Go.Proofs.YtlpmblcdafdfdaaW.PrintWords Go.Proofs.YtlpmblcdafdfdaaW.PrintLast Go.Proofs.YtlpmblcdafdfdaaW.PrintMore
set_option linter.unusedVariables false
set_option linter.unusedSimpArgs false
open Classical
def tick1 (a : S57) : Option S57 := if a.f3 - 1 > 0 then some ⟨a.f0,a.f1,a.f2,a.f3 - 1⟩ else none
def tickL (L : List S57) : List S57 := L.filterMap tick1
noncomputable def tickN (ns : List ByteArray) (L : List S57) : List S57 := L.filterMap fun a : S57 => if a.f0 ∈ ns then tick1 a else some a
theorem tick1_name {a b : S57} (h : tick1 a = some b) : b.f0 = a.f0 := by
  unfold tick1 at h
  split at h
  · rw [← Option.some.inj h]
  · cases h
theorem tickN_nil (L : List S57) : tickN [] L = L := by
  unfold tickN
  simp
theorem tickN_all {ns : List ByteArray} {L : List S57} (h : ∀ a ∈ L,a.f0 ∈ ns) : tickN ns L = tickL L := by
  unfold tickN tickL
  induction L with
  | nil => rfl
  | cons a r ih =>
    have e := h a (by simp)
    rw [List.filterMap_cons,List.filterMap_cons,if_pos e,ih (fun b hb => h b (List.mem_cons_of_mem _ hb))]
theorem tickN_other {n : ByteArray} {ns : List ByteArray} {L : List S57} (h : ∀ a ∈ L,a.f0 ≠ n) : tickN (ns ++ [n]) L = tickN ns L := by
  unfold tickN
  induction L with
  | nil => rfl
  | cons a r ih =>
    have e := h a (by simp)
    have e2 : (a.f0 ∈ ns ++ [n]) ↔ a.f0 ∈ ns := by simp [e]
    rw [List.filterMap_cons,List.filterMap_cons,ih (fun b hb => h b (List.mem_cons_of_mem _ hb))]
    by_cases h2 : a.f0 ∈ ns
    · rw [if_pos (e2.2 h2),if_pos h2]
    · rw [if_neg (fun h3 => h2 (e2.1 h3)),if_neg h2]
theorem adPut_skip {a b : S57} {r : List S57} (h : a.f0 ≠ b.f0) : adPut a (b :: r) = b :: adPut a r := by rw [adPut,if_neg h]
theorem adDel_skip {s : ByteArray} {b : S57} {r : List S57} (h : s ≠ b.f0) : adDel s (b :: r) = b :: adDel s r := by rw [adDel,if_neg h]
theorem tickN_put {ns : List ByteArray} {a a' : S57} (ha' : tick1 a = some a') (hn : a.f0 ∉ ns) : ∀ {L : List S57},(L.map (·.f0)).Nodup → a ∈ L → adPut a' (tickN ns L) = tickN (ns ++ [a.f0]) L
  | b :: r,hnd,h => by
    have q := List.nodup_cons.1 hnd
    have hname := tick1_name ha'
    rcases List.mem_cons.1 h with rfl | h
    · have e1 : tickN ns (a :: r) = a :: tickN ns r := by
        unfold tickN
        rw [List.filterMap_cons,if_neg hn]
      have e2 : tickN (ns ++ [a.f0]) (a :: r) = a' :: tickN (ns ++ [a.f0]) r := by
        unfold tickN
        rw [List.filterMap_cons,if_pos (by simp),ha']
      rw [e1,e2,adPut,if_pos hname,tickN_other (fun c hc e => q.1 (List.mem_map.2 ⟨c,hc,e⟩))]
    · have hne : b.f0 ≠ a.f0 := fun e => q.1 (List.mem_map.2 ⟨a,h,e.symm⟩)
      have ih := tickN_put ha' hn q.2 h
      have e3 : (b.f0 ∈ ns ++ [a.f0]) ↔ b.f0 ∈ ns := by simp [hne]
      unfold tickN at ih ⊢
      rw [List.filterMap_cons,List.filterMap_cons]
      by_cases h2 : b.f0 ∈ ns
      · rw [if_pos h2,if_pos (e3.2 h2)]
        cases ht : tick1 b with
        | none => exact ih
        | some b' =>
          have hb' : a'.f0 ≠ b'.f0 := by rw [hname,tick1_name ht];exact Ne.symm hne
          show adPut a' (b' :: _) = b' :: _
          rw [adPut_skip hb',ih]
      · rw [if_neg h2,if_neg (fun h3 => h2 (e3.1 h3))]
        show adPut a' (b :: _) = b :: _
        rw [adPut_skip (by rw [hname];exact Ne.symm hne),ih]
theorem tickN_del {ns : List ByteArray} {a : S57} (ha' : tick1 a = none) (hn : a.f0 ∉ ns) : ∀ {L : List S57},(L.map (·.f0)).Nodup → a ∈ L → adDel a.f0 (tickN ns L) = tickN (ns ++ [a.f0]) L
  | b :: r,hnd,h => by
    have q := List.nodup_cons.1 hnd
    rcases List.mem_cons.1 h with rfl | h
    · have e1 : tickN ns (a :: r) = a :: tickN ns r := by
        unfold tickN
        rw [List.filterMap_cons,if_neg hn]
      have e2 : tickN (ns ++ [a.f0]) (a :: r) = tickN (ns ++ [a.f0]) r := by
        unfold tickN
        rw [List.filterMap_cons,if_pos (by simp),ha']
      rw [e1,e2,adDel,if_pos rfl,tickN_other (fun c hc e => q.1 (List.mem_map.2 ⟨c,hc,e⟩))]
    · have hne : b.f0 ≠ a.f0 := fun e => q.1 (List.mem_map.2 ⟨a,h,e.symm⟩)
      have ih := tickN_del ha' hn q.2 h
      have e3 : (b.f0 ∈ ns ++ [a.f0]) ↔ b.f0 ∈ ns := by simp [hne]
      unfold tickN at ih ⊢
      rw [List.filterMap_cons,List.filterMap_cons]
      by_cases h2 : b.f0 ∈ ns
      · rw [if_pos h2,if_pos (e3.2 h2)]
        cases ht : tick1 b with
        | none => exact ih
        | some b' =>
          have hb' : a.f0 ≠ b'.f0 := by rw [tick1_name ht];exact Ne.symm hne
          show adDel a.f0 (b' :: _) = b' :: _
          rw [adDel_skip hb',ih]
      · rw [if_neg h2,if_neg (fun h3 => h2 (e3.1 h3))]
        show adDel a.f0 (b :: _) = b :: _
        rw [adDel_skip (Ne.symm hne),ih]
def gone : List S57 → Int
  | [] => 0
  | a :: r => gone r + if a.f3 - 1 > 0 then 0 else 1
theorem gone_app (l : List S57) (a : S57) : gone (l ++ [a]) = gone l + if a.f3 - 1 > 0 then 0 else 1 := by
  induction l with
  | nil => simp [gone]
  | cons b r ih =>
    show gone (r ++ [a]) + _ = gone r + _ + _
    rw [ih]
    omega
theorem gone_len : ∀ l : List S57,gone l = (l.length : Int) - ((tickL l).length : Int)
  | [] => rfl
  | a :: r => by
    have := gone_len r
    unfold gone tickL
    rw [List.filterMap_cons]
    unfold tick1
    unfold tickL at this
    by_cases h : a.f3 - 1 > 0
    · simp only [h,if_true,List.length_cons]
      unfold tick1 at this
      omega
    · simp only [h,if_false,List.length_cons]
      unfold tick1 at this
      omega
theorem gone_perm {l1 l2 : List S57} (h : l1.Perm l2) : gone l1 = gone l2 := by
  rw [gone_len,gone_len,h.length_eq,show (tickL l1).length = (tickL l2).length from (h.filterMap tick1).length_eq]
theorem C_kept {w w1 : World} {b : Nat} {m : List (ByteArray × Value)} {A : Option Addr} {n : Nat} {xs : List S57} (h : Kd.C k57 w A n xs) (hm : IsMap w b Value.string m) (hg : w.grownBy w1 (some b)) : Kd.C k57 w1 A n xs := by
  obtain ⟨h1,h2,h3⟩ := h
  refine ⟨h1,h2,fun hn => ?_⟩
  obtain ⟨ad,e,h4⟩ := h3 hn
  refine ⟨ad,e,fun j p hj => ?_⟩
  obtain ⟨c,hc,hK,h5⟩ := h4 j p hj
  obtain rfl := k57_open hK
  refine ⟨_,hc,k57_mk w1 p,fun i u hu => ?_⟩
  have h6 := h5 i u hu
  refine hg.cell h6 ?_
  intro e2
  obtain ⟨es,clock,hb,_⟩ := hm
  have e3 : (ad.add (j * k57.sz + i)).block = b := Option.some.inj e2
  simp only [World.cell?,e3,hb] at h6
  cases h6
end Go.Proofs.Ytlpmblcdafdfdaa.PA
