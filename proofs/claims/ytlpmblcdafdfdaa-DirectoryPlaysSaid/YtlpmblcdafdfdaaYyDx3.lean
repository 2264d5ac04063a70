/- DirectoryPlays: what a round asks at its end is answered alike. No condition but those that the theorem names. -/
import Derived.Test.YtlpmblcdafdfdaaYyDx2
namespace Go.Proofs.Ytlpmblcdafdfdaa.PA
open Go.RowKit Go.Proofs.YtlpmblcdafdfdaaW.PrintWords Go.Proofs.YtlpmblcdafdfdaaW.PrintLast Go.Proofs.YtlpmblcdafdfdaaW.PrintMore
set_option linter.unusedVariables false
set_option linter.unusedSimpArgs false
open Classical
def regionIn (k : Nat) : Code → Option Code
  | .region n o d => if n == k then some (.region n o d) else none
  | .seq a b => match regionIn k a with
    | some c => some c
    | none => regionIn k b
  | .loop c => regionIn k c
  | .block _ c => regionIn k c
  | .scope c => regionIn k c
  | .cond _ a b => match regionIn k a with
    | some c => some c
    | none => regionIn k b
  | _ => none
noncomputable def regOf4 (k : Nat) : Code := ((Try.f4.body.bind (regionIn k)).getD .skip)
set_option maxHeartbeats 8000000 in
set_option maxRecDepth 1000000 in
theorem region29 {w wq : World} {g b bm p1 p2 : Nat} {life : Int} {A3 : Option Addr} {c3 : Nat} {L' : List S57} {a : S57} {t : Bool} {K' K1 K2 K3 : Act → World → Prop} {POST : Ending → World → Prop} (s0 s1 s2 s3 s4 s6 s8 s9 s10 s12 s13 s14 s15 s16 s17 s18 s19 s20 s21 s22 s27 s28 s29 s30 s31 s32 s33 s34 s35 s36 s37 s38 s39 s40 s41 s42 s43 s44 s45 s46 s47 s48 s49 s50 s51 s52 s53 s54 s55 s56 s57 s58 s59 s60 s61 s62 s63 s64 s65 s66 s67 s68 s69 s70 s71 s72 s73 s74 s75 s76 s77 s78 s79 s80 s81 s82 s83 s84 s85 s86 s87 s88 s89 s90 s91 s92 s93 s94 s95 s96 s97 s98 s99 s100 s101 s102 s103 s104 s105 s106 s107 s108 s109 s110 s111 s112 s113 s114 s115 s116 s117 s118 s119 s120 s121 s122 s123 s124 s125 s126 s127 s128 s129 s130 s131 s132 s133 s134 s135 s136 s137 s138 s139 s140 s141 s142 s143 s144 s145 s146 s147 s148 s149 s150 s151 s152 s153 s154 s155 s156 s157 s158 s159 s160 s161 s162 s163 s164 s165 s166 s167 s168 s169 s170 s171 s172 s173 s174 s175 s176 s177 s178 s179 s180 s181 s182 s183 s184 s185 s186 s187 s188 : Value)
    (hT : MidAt w wq g b bm life A3 c3 L' L') (hL : Lives life L') (h1 : wq.heap[p1]? = some (.cells #[.string a.f0,.int .i64 a.f1,.int .i64 a.f2,.int .i64 a.f3] 57 (0,0))) (h2 : wq.heap[p2]? = some (.cells #[.string a.f0,.int .i64 a.f1,.int .i64 a.f2,.int .i64 a.f3] 57 (0,0)))
    (hK : ∀ (u167 u168 u169 u170 u171 u172 u173 u174 u175 u176 u177 u178 u179 u180 u181 u182 u183 u184 u185 u186 : Value) (wz : World),PlayAt w wz g b bm life A3 c3 L' → K' ⟨#[s0,s1,s2,s3,s4,.pointer (some ⟨g,0,none⟩),s6,.pointer (some ⟨bm,0,none⟩),s8,s9,s10,.bool true,s12,s13,s14,s15,s16,s17,s18,s19,s20,s21,s22,.pointer (some ⟨p1,0,none⟩),.bool t,.pointer (some ⟨p2,0,none⟩),.bool t,s27,s28,s29,s30,s31,s32,s33,s34,s35,s36,s37,s38,s39,s40,s41,s42,s43,s44,s45,s46,s47,s48,s49,s50,s51,s52,s53,s54,s55,s56,s57,s58,s59,s60,s61,s62,s63,s64,s65,s66,s67,s68,s69,s70,s71,s72,s73,s74,s75,s76,s77,s78,s79,s80,s81,s82,s83,s84,s85,s86,s87,s88,s89,s90,s91,s92,s93,s94,s95,s96,s97,s98,s99,s100,s101,s102,s103,s104,s105,s106,s107,s108,s109,s110,s111,s112,s113,s114,s115,s116,s117,s118,s119,s120,s121,s122,s123,s124,s125,s126,s127,s128,s129,s130,s131,s132,s133,s134,s135,s136,s137,s138,s139,s140,s141,s142,s143,s144,s145,s146,s147,s148,s149,s150,s151,s152,s153,s154,s155,s156,s157,s158,s159,s160,s161,s162,s163,s164,s165,s166,u167,u168,u169,u170,u171,u172,u173,u174,u175,u176,u177,u178,u179,u180,u181,u182,u183,u184,u185,u186,.bool false,s188],[]⟩ wz) :
    Code.wp Try.prog (regOf4 29) (Exit.then K' (Exit.inBlock 1 (Exit.then K1 (Exit.then K2 (Exit.inBlock 0 (Exit.then K3 (bodyPost Try.prog Try.f4 POST))))))) ⟨#[s0,s1,s2,s3,s4,.pointer (some ⟨g,0,none⟩),s6,.pointer (some ⟨bm,0,none⟩),s8,s9,s10,.bool true,s12,s13,s14,s15,s16,s17,s18,s19,s20,s21,s22,.pointer (some ⟨p1,0,none⟩),.bool t,.pointer (some ⟨p2,0,none⟩),.bool t,s27,s28,s29,s30,s31,s32,s33,s34,s35,s36,s37,s38,s39,s40,s41,s42,s43,s44,s45,s46,s47,s48,s49,s50,s51,s52,s53,s54,s55,s56,s57,s58,s59,s60,s61,s62,s63,s64,s65,s66,s67,s68,s69,s70,s71,s72,s73,s74,s75,s76,s77,s78,s79,s80,s81,s82,s83,s84,s85,s86,s87,s88,s89,s90,s91,s92,s93,s94,s95,s96,s97,s98,s99,s100,s101,s102,s103,s104,s105,s106,s107,s108,s109,s110,s111,s112,s113,s114,s115,s116,s117,s118,s119,s120,s121,s122,s123,s124,s125,s126,s127,s128,s129,s130,s131,s132,s133,s134,s135,s136,s137,s138,s139,s140,s141,s142,s143,s144,s145,s146,s147,s148,s149,s150,s151,s152,s153,s154,s155,s156,s157,s158,s159,s160,s161,s162,s163,s164,s165,s166,s167,s168,s169,s170,s171,s172,s173,s174,s175,s176,s177,s178,s179,s180,s181,s182,s183,s184,s185,s186,s187,s188],[]⟩ wq := by
  have HK := Aside0.mk hK
  have hu57 := Try.underlying57
  have hu42 := Try.underlying42
  have hu40 := Try.underlying40
  have KP := Aside0.mk hL
  have LN4 : Aside0 ((sortN L').length ≤ 4096) := ⟨by rw [sortN_len];exact KP.out.1⟩
  have T9 := Aside0.mk (hT.below (below_drew (Below.refl _ _)))
  have H1 := Aside0.mk h1
  have H2 := Aside0.mk h2
  have HM := Aside0.mk hT.2.1
  have xa0 : wq.cell? ⟨p1,0,none⟩ = some (.string a.f0) := (blk_cell H1.out 0).trans rfl
  have xa1 : wq.cell? ⟨p1,1,none⟩ = some (.int .i64 a.f1) := (blk_cell H1.out 1).trans rfl
  have xa2 : wq.cell? ⟨p1,2,none⟩ = some (.int .i64 a.f2) := (blk_cell H1.out 2).trans rfl
  have xa3 : wq.cell? ⟨p1,3,none⟩ = some (.int .i64 a.f3) := (blk_cell H1.out 3).trans rfl
  have ltxa := blk_lt H1.out
  have xb0 : wq.cell? ⟨p2,0,none⟩ = some (.string a.f0) := (blk_cell H2.out 0).trans rfl
  have xb1 : wq.cell? ⟨p2,1,none⟩ = some (.int .i64 a.f1) := (blk_cell H2.out 1).trans rfl
  have xb2 : wq.cell? ⟨p2,2,none⟩ = some (.int .i64 a.f2) := (blk_cell H2.out 2).trans rfl
  have xb3 : wq.cell? ⟨p2,3,none⟩ = some (.int .i64 a.f3) := (blk_cell H2.out 3).trans rfl
  have ltxb := blk_lt H2.out
  have xm0 : wq.cell? ⟨bm,0,none⟩ = some (.int .i64 life) := (blk_cell HM.out 0).trans rfl
  have xm1 : wq.cell? ⟨bm,1,none⟩ = some (.slice A3 (sortN L').length c3) := (blk_cell HM.out 1).trans rfl
  have ltxm := blk_lt HM.out
  clear hK hT hL h1 h2
  conv => arg 2;whnf
  go_region_with (first | (go_at_call 27;refine (beaconref20_SameAddress.calls a.f0 a.f1 a.f2 a.f3 a.f0 a.f1 a.f2 a.f3 true _ (same_address a)).mono ?_;rintro e w10 ⟨rfl,hb⟩;have T10 := Aside0.mk (T9.out.below hb);have M10 := Aside0.mk T10.out.2.1;have m0_w10 : w10.cell? ⟨bm,0,none⟩ = some (.int .i64 life) := (blk_cell M10.out 0).trans rfl;have m1_w10 : w10.cell? ⟨bm,1,none⟩ = some (.slice A3 (sortN L').length c3) := (blk_cell M10.out 1).trans rfl;have ltm_w10 := blk_lt M10.out;clear hb) | (go_at_call 29;refine (all_live T10.out.1 KP.out.1).mono ?_;rintro e w11 ⟨A4,c4,rfl,hc4,hC4,hb⟩;have T11 := Aside0.mk (T10.out.below hb);have M11 := Aside0.mk T11.out.2.1;have m0_w11 : w11.cell? ⟨bm,0,none⟩ = some (.int .i64 life) := (blk_cell M11.out 0).trans rfl;have m1_w11 : w11.cell? ⟨bm,1,none⟩ = some (.slice A3 (sortN L').length c3) := (blk_cell M11.out 1).trans rfl;have ltm_w11 := blk_lt M11.out;have S4 := Aside0.mk (And.intro hc4 hC4);clear hc4 hC4 hb) | (go_at_call 28;refine (beaconref20_SameAll.calls 4100 A4 c4 (sortN L') A3 c3 (sortN L') true _ S4.out.2 S4.out.1 T11.out.2.2.1 T11.out.2.2.2.1 (same_all (sortN L') LN4.out)).mono ?_;rintro e w12 ⟨rfl,hb⟩;have P12 := Aside0.mk ((T11.out.below hb).one KP.out);clear hb))
  all_goals (simp only [List.getElem_toArray,List.getElem_cons_succ,List.getElem_cons_zero,Act.put,List.setIfInBounds_toArray,List.set_cons_zero,List.set_cons_succ,Exit.then])
  all_goals (exact HK.out _ _ _ _ _ _ _ _ _ _ _ _ _ _ _ _ _ _ _ _ _ P12.out)
end Go.Proofs.Ytlpmblcdafdfdaa.PA
