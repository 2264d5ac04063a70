/- Within paths.checked: an element appended to one of the net's rows, the second time. No condition but those the theorem names. -/
import Derived.Test.YtmdkcecbklgihaaCcHr
namespace Go.Proofs.Ytmdkcecbklgihaa.PA
open Go.RowKit Go.Proofs.YtmdkcecbklgihaaW.PrintWords Go.Proofs.YtmdkcecbklgihaaW.PrintLast Go.Proofs.YtmdkcecbklgihaaW.PrintMore
set_option linter.unusedVariables false
set_option linter.unusedSimpArgs false
set_option maxHeartbeats 8000000 in
set_option maxRecDepth 100000 in
theorem region23 {w wc : World} {N0 g0 mb a3 mx n nl lb a b : Nat} {A0 A1 : Option Addr} {c0_ c1_ : Nat} {m : List (Int × Value)} {rows : List (List S81)} {l : S74} {K1 K2 K3 : Act → World → Prop} {POST : Ending → World → Prop} (c0 c1 c2 c3 c4 c5 c6 c7 c8 c10 c11 c12 c13 c14 c15 c16 c20 c21 c22 c23 c24 c25 c26 c27 c28 c29 c30 c31 c32 c33 c34 c35 c36 c37 c38 c39 c40 c41 c42 c43 c44 c45 c46 c47 c48 c49 c50 c51 c52 c53 c54 c55 c56 c57 c58 c59 c60 c61 c62 c63 c64 c65 c66 c67 c68 c69 c70 c71 c72 c73 c74 c75 c76 c77 c78 c79 c80 c81 c82 c83 c84 c85 c86 c87 c88 c89 c90 c91 c92 c93 c94 c95 c96 c97 c98 c99 c100 c101 c102 c103 c104 c105 c106 c107 c108 c109 c110 c111 c112 c113 c114 c115 c116 c117 c118 c119 c120 c121 c122 c123 c124 c125 c126 c127 c128 c129 c130 c131 c132 c133 c134 c135 c136 c137 c138 c139 c140 c141 c142 c143 c144 c145 c146 : Value)
    (hMk0 : Mk w wc N0 g0 w.heap.size mb a3 mx n A0 A1 c0_ c1_ nl m rows) (hLB0 : wc.heap[lb]? = some (.cells #[.int .i64 l.f0,.int .i64 l.f1,.float .f64 l.f2,.bool true] 74 (0,0))) (ha : a < n) (hrn : (rows.getD a []).length ≤ 8193)
    (hK : ∀ (u126 u127 u128 u129 u130 u131 u132 u133 u134 u135 u136 u137 u138 u139 u140 u141 u142 u143 u144 : Value) (w8 : World),Mk w w8 N0 g0 w.heap.size mb a3 mx n A0 A1 c0_ c1_ nl m (rows.set a (rows.getD a [] ++ [⟨(b : Int),l.f2⟩])) → w8.heap[lb]? = some (.cells #[.int .i64 l.f0,.int .i64 l.f1,.float .f64 l.f2,.bool true] 74 (0,0)) → K1 ⟨#[c0,c1,c2,c3,c4,c5,c6,c7,c8,.pointer (some ⟨g0,0,none⟩),c10,c11,c12,c13,c14,c15,c16,.pointer (some ⟨lb,0,none⟩),.int .i64 (b : Int),.int .i64 (a : Int),c20,c21,c22,c23,c24,c25,c26,c27,c28,c29,c30,c31,c32,c33,c34,c35,c36,c37,c38,c39,c40,c41,c42,c43,c44,c45,c46,c47,c48,c49,c50,c51,c52,c53,c54,c55,c56,c57,c58,c59,c60,c61,c62,c63,c64,c65,c66,c67,c68,c69,c70,c71,c72,c73,c74,c75,c76,c77,c78,c79,c80,c81,c82,c83,c84,c85,c86,c87,c88,c89,c90,c91,c92,c93,c94,c95,c96,c97,c98,c99,c100,c101,c102,c103,c104,c105,c106,c107,c108,c109,c110,c111,c112,c113,c114,c115,c116,c117,c118,c119,c120,c121,c122,c123,c124,c125,u126,u127,u128,u129,u130,u131,u132,u133,u134,u135,u136,u137,u138,u139,u140,u141,u142,u143,u144,c145,c146],[]⟩ w8) :
    Code.wp Try.prog (regOf 23) (Exit.inBlock 5 (Exit.then K1 (Exit.then K2 (Exit.inBlock 4 (Exit.then K3 (bodyPost Try.prog Try.f45 POST)))))) ⟨#[c0,c1,c2,c3,c4,c5,c6,c7,c8,.pointer (some ⟨g0,0,none⟩),c10,c11,c12,c13,c14,c15,c16,.pointer (some ⟨lb,0,none⟩),.int .i64 (b : Int),.int .i64 (a : Int),c20,c21,c22,c23,c24,c25,c26,c27,c28,c29,c30,c31,c32,c33,c34,c35,c36,c37,c38,c39,c40,c41,c42,c43,c44,c45,c46,c47,c48,c49,c50,c51,c52,c53,c54,c55,c56,c57,c58,c59,c60,c61,c62,c63,c64,c65,c66,c67,c68,c69,c70,c71,c72,c73,c74,c75,c76,c77,c78,c79,c80,c81,c82,c83,c84,c85,c86,c87,c88,c89,c90,c91,c92,c93,c94,c95,c96,c97,c98,c99,c100,c101,c102,c103,c104,c105,c106,c107,c108,c109,c110,c111,c112,c113,c114,c115,c116,c117,c118,c119,c120,c121,c122,c123,c124,c125,c126,c127,c128,c129,c130,c131,c132,c133,c134,c135,c136,c137,c138,c139,c140,c141,c142,c143,c144,c145,c146],[]⟩ wc := by
  have HK := Aside0.mk hK
  clear hK
  have hu66 := Try.underlying66
  have hu74 := Try.underlying74
  have hMk := hMk0.alloc (below_drew (Below.refl wc.heap.size wc))
  have l2 := (blk_cell hLB0 2).trans rfl
  have n4 : wc.cell? ⟨g0,4,none⟩ = some (.slice (some ⟨a3,0,none⟩) n n) := (blk_cell hMk0.net 4).trans rfl
  have hLB : wc.drew.heap[lb]? = some (.cells #[.int .i64 l.f0,.int .i64 l.f1,.float .f64 l.f2,.bool true] 74 (0,0)) := hLB0
  obtain ⟨A,c,okr,hc,hf,hR,hfr,hApp⟩ := hMk.app a ha hLB
  obtain ⟨ra,hra⟩ : ∃ ra,rows.getD a [] = ra := ⟨_,rfl⟩
  rw [hra] at hc hR hApp hrn
  have hcb1 : wc.cell? ⟨a3,a,none⟩ = some (.slice A ra.length c) := hc
  have hs1 : a3 < wc.heap.size := World.block_lt_of_cell? wc _ hcb1
  have hs2 : g0 < wc.heap.size := blk_lt hMk0.net
  have haz : (a : Int) < (n : Int) := by omega
  have hcA : (wc.drew.alloc (.cells #[.int .i64 (b : Int),.float .f64 l.f2] 81)).cell? ⟨a3,a,none⟩ = some (.slice A ra.length c) := (World.cell?_alloc_lt _ _ _ hs1).trans hcb1
  have hcB : (wc.drew.alloc (.cells #[.int .i64 (b : Int),.float .f64 l.f2] 81)).cell? ⟨g0,4,none⟩ = some (.slice (some ⟨a3,0,none⟩) n n) := (World.cell?_alloc_lt _ _ _ hs2).trans n4
  have RR := Aside0.mk hR
  have FR := Aside0.mk hfr
  have BASE : Aside0 (w.heap.size ≤ wc.drew.heap.size) := ⟨hMk0.below.size⟩
  have LEN : Aside0 ((ra.length + 1) * 16 ≤ 140737488355328) := ⟨by omega⟩
  have APP := Aside0.mk hApp
  have HRA := Aside0.mk hra
  clear hMk hLB hc hf hR hfr hApp hrn hra hMk0 hLB0
  conv => arg 2;whnf
  go_region_law (refine append_any k81 w.heap.size rfl (.tmp 137) (.tmp 142) 79 81 (.agg #[(.int .i64 0),(.float .f64 0)]) 16 rfl Try.underlying79 info81 rfl (by decide) (by decide) (.slice A ra.length c) ra ⟨(b : Int),l.f2⟩ [.int .i64 (b : Int),.float .f64 l.f2] okr (fun _ => False) (by simp [Act.eval,Act.put]) (by simp [Act.eval,Act.put]) (k81_mkM _ _ _ _) (fun _ hk => hk.elim) FR.out RR.out (Below.refl _ _) BASE.out LEN.out ?_;intro v1 w7 hr7 hbw hg7 hat;obtain ⟨A7,c7,rfl⟩ := Kd.R_slice hr7;obtain ⟨hk0,hk1,hk2,hk3,hk4⟩ := APP.out _ _ _ hr7 hg7;simp only [List.length_append,List.length_singleton] at hk3 hk4;have K3 := Aside0.mk hk3;have K4 := Aside0.mk hk4;clear hk3 hk4 hr7 hg7 hat hbw)
  all_goals (simp only [List.getElem_toArray,List.getElem_cons_succ,List.getElem_cons_zero,Act.put,List.setIfInBounds_toArray,List.set_cons_zero,List.set_cons_succ,Exit.then,Exit.inBlock])
  all_goals (refine HK.out _ _ _ _ _ _ _ _ _ _ _ _ _ _ _ _ _ _ _ _ (by rw [HRA.out];exact K3.out) K4.out)
end Go.Proofs.Ytmdkcecbklgihaa.PA
