/- A directory that was made: what Put, Drop and Get do, in plain terms: a list of addresses. No condition but those that each theorem names. -/
import Derived.Test.YtlpmblcdafdfdaaYyDa
import Derived.Test.YtlpmblcdafdfdaaYyDr
import Derived.StillTailTactics
namespace Go.Proofs.Ytlpmblcdafdfdaa.PA
open Go.RowKit Go.Proofs.YtlpmblcdafdfdaaW.PrintWords Go.Proofs.YtlpmblcdafdfdaaW.PrintLast Go.Proofs.YtlpmblcdafdfdaaW.PrintMore
set_option linter.unusedVariables false
set_option linter.unusedSimpArgs false
section
variable {κ : Type} [DecidableEq κ]
theorem mfind_shift (k : κ) : ∀ (m : List (κ × Value)) (i : Nat),mfind k m (i + 1) = (mfind k m i).map fun x => (x.1 + 1,x.2)
  | [],i => rfl
  | p :: r,i => by
    unfold mfind
    by_cases e : k = p.1
    · simp [e]
    · simp only [e,if_false]
      exact mfind_shift k r (i + 1)
theorem mget_cons (k : κ) (p : κ × Value) (r : List (κ × Value)) : mget (p :: r) k = if k = p.1 then some p.2 else mget r k := by
  unfold mget
  rw [mfind]
  by_cases e : k = p.1
  · simp [e]
  · simp only [e,if_false]
    rw [mfind_shift,Option.map_map]
    rfl
theorem mput_cons (k : κ) (v : Value) (p : κ × Value) (r : List (κ × Value)) : mput (p :: r) k v = if k = p.1 then (k,v) :: r else p :: mput r k v := by
  unfold mput
  rw [mfind]
  by_cases e : k = p.1
  · simp [e]
  · simp only [e,if_false]
    rw [mfind_shift]
    cases mfind k r 0 with
    | none => rfl
    | some x => rfl
theorem mdel_cons (k : κ) (p : κ × Value) (r : List (κ × Value)) : mdel (p :: r) k = if k = p.1 then r else p :: mdel r k := by
  unfold mdel
  rw [mfind]
  by_cases e : k = p.1
  · simp [e]
  · simp only [e,if_false]
    rw [mfind_shift]
    cases mfind k r 0 with
    | none => rfl
    | some x => rfl
end
def adV (a : S57) : Value := .agg #[.string a.f0,.int .i64 a.f1,.int .i64 a.f2,.int .i64 a.f3]
def dirM (L : List S57) : List (ByteArray × Value) := L.map fun a => (a.f0,adV a)
def adGet (s : ByteArray) : List S57 → Option S57
  | [] => none
  | a :: r => if s = a.f0 then some a else adGet s r
def adPut (a : S57) : List S57 → List S57
  | [] => [a]
  | b :: r => if a.f0 = b.f0 then a :: r else b :: adPut a r
def adDel (s : ByteArray) : List S57 → List S57
  | [] => []
  | b :: r => if s = b.f0 then r else b :: adDel s r
theorem mget_dir (s : ByteArray) : ∀ L : List S57,mget (dirM L) s = (adGet s L).map adV
  | [] => rfl
  | a :: r => by
    show mget ((a.f0,adV a) :: dirM r) s = _
    rw [mget_cons,mget_dir s r,adGet]
    by_cases e : s = a.f0 <;> simp [e]
theorem mput_dir (a : S57) : ∀ L : List S57,mput (dirM L) a.f0 (adV a) = dirM (adPut a L)
  | [] => rfl
  | b :: r => by
    show mput ((b.f0,adV b) :: dirM r) a.f0 (adV a) = _
    rw [mput_cons,mput_dir a r,adPut]
    by_cases e : a.f0 = b.f0
    · simp [e,dirM]
    · simp [e,dirM]
theorem mdel_dir (s : ByteArray) : ∀ L : List S57,mdel (dirM L) s = dirM (adDel s L)
  | [] => rfl
  | b :: r => by
    show mdel ((b.f0,adV b) :: dirM r) s = _
    rw [mdel_cons,mdel_dir s r,adDel]
    by_cases e : s = b.f0
    · simp [e,dirM]
    · simp [e,dirM]
theorem adGet_name {s : ByteArray} : ∀ {L : List S57} {a : S57},adGet s L = some a → a.f0 = s
  | b :: r,a,h => by
    unfold adGet at h
    split at h
    · rename_i e
      rw [← Option.some.inj h]
      exact e.symm
    · exact adGet_name h
def DirAt (w : World) (g b : Nat) (life : Int) (L : List S57) : Prop := w.heap[g]? = some (.cells #[.int .i64 life,.map (some b)] 70 (0,0)) ∧ IsMap w b Value.string (dirM L)
theorem DirAt.below {w w1 : World} {g b : Nat} {life : Int} {L : List S57} (h : DirAt w g b life L) (hb : Below w.heap.size w w1) : DirAt w1 g b life L := ⟨blk_below h.1 hb,h.2.below hb⟩
theorem DirAt.ne {w : World} {g b : Nat} {life : Int} {L : List S57} (h : DirAt w g b life L) : g ≠ b := by
  rintro rfl
  obtain ⟨es,clock,h1,_⟩ := h.2
  rw [h.1] at h1
  cases h1
theorem DirAt.turn {w w1 : World} {g b : Nat} {life : Int} {L L' : List S57} (h : DirAt w g b life L) (hm : IsMap w1 b Value.string (dirM L')) (hg : w.grownBy w1 (some b)) : DirAt w1 g b life L' := ⟨blk_grown h.1 hg (fun e => h.ne (Option.some.inj e)),hm⟩
def putE (L : List S57) (s : ByteArray) (id at_ : Int) : Int := if nameV s ≠ 0 then nameV s else if (badId id || (at_ != 0 && badId at_)) = true then 20 else if adGet s L = none ∧ 4096 ≤ L.length then 2 else 0
def putL (life : Int) (L : List S57) (s : ByteArray) (id at_ : Int) : List S57 := if putE L s id at_ = 0 then adPut ⟨s,id,at_,life⟩ L else L
def FrameD (w w' : World) (b : Nat) : Prop := w.grownBy w' (some b)
theorem name_b (s : ByteArray) (W : World) : Calls Try.prog 39 #[.string s] W fun e w' => e = .returned (.int .i64 (nameV s)) ∧ Below W.heap.size W w' :=
  (name_any s W).mono fun e w' ⟨h,q,hq⟩ => ⟨h,by rw [hq];exact pw_below_drewN (Below.refl _ _) q⟩
theorem num_f (x : Int) (b : Bool) : directory_number.f x b = some ((b && (x == 0)) || !badId x) := by
  unfold directory_number.f
  rw [id_f,Option.bind_some]
  unfold idV
  cases b
  · by_cases h : badId x = true <;> simp [h]
  · by_cases h0 : x = 0
    · simp [h0]
    · by_cases h : badId x = true <;> simp [h,h0]
theorem num_b (x : Int) (b r : Bool) (hr : ((b && (x == 0)) || !badId x) = r) (W : World) : Calls Try.prog 40 #[.int .i64 x,.bool b] W fun e w' => e = .returned (.bool r) ∧ Below W.heap.size W w' :=
  (directory_number.calls x b r W (by rw [num_f,hr])).mono fun e w' h => ⟨h.1,by obtain ⟨q,hq⟩ := h.2.out;rw [hq];exact pw_below_drewN (Below.refl _ _) q⟩
theorem is_made {w : World} {g b : Nat} {life : Int} {L : List S57} (h : DirAt w g b life L) : Calls Try.prog 38 #[.pointer (some ⟨g,0,none⟩)] w fun e w' => e = .returned (.bool true) ∧ w = w' := is_live h.1
theorem putE_name {L : List S57} {s : ByteArray} {id at_ n : Int} (hn : nameV s = n) (h : n ≠ 0) : putE L s id at_ = n := by
  unfold putE
  rw [hn,if_pos h]
theorem putE_id {L : List S57} {s : ByteArray} {id at_ : Int} (hn : nameV s = 0) (h : (badId id || (at_ != 0 && badId at_)) = true) : putE L s id at_ = 20 := by
  unfold putE
  rw [hn,if_neg (by simp),if_pos h]
theorem putE_full {L : List S57} {s : ByteArray} {id at_ : Int} (hn : nameV s = 0) (h : (badId id || (at_ != 0 && badId at_)) = false) (hf : adGet s L = none ∧ 4096 ≤ L.length) : putE L s id at_ = 2 := by
  unfold putE
  rw [hn,if_neg (by simp),if_neg (by rw [h];simp),if_pos hf]
theorem putE_ok {L : List S57} {s : ByteArray} {id at_ : Int} (hn : nameV s = 0) (h : (badId id || (at_ != 0 && badId at_)) = false) (hf : ¬ (adGet s L = none ∧ 4096 ≤ L.length)) : putE L s id at_ = 0 := by
  unfold putE
  rw [hn,if_neg (by simp),if_neg (by rw [h];simp),if_neg hf]
theorem putL_no {life : Int} {L : List S57} {s : ByteArray} {id at_ : Int} (h : putE L s id at_ ≠ 0) : putL life L s id at_ = L := by
  unfold putL
  rw [if_neg h]
theorem putL_ok {life : Int} {L : List S57} {s : ByteArray} {id at_ : Int} (h : putE L s id at_ = 0) : putL life L s id at_ = adPut ⟨s,id,at_,life⟩ L := by
  unfold putL
  rw [if_pos h]
def PutOut (w : World) (g b : Nat) (life : Int) (L : List S57) (s : ByteArray) (id at_ : Int) (e : Ending) (w' : World) : Prop := e = .returned (.int .i64 (putE L s id at_)) ∧ DirAt w' g b life (putL life L s id at_) ∧ w.grownBy w' (some b)
theorem PutOut.no {w w' : World} {g b : Nat} {life : Int} {L : List S57} {s : ByteArray} {id at_ n : Int} (hd : DirAt w g b life L) (h : putE L s id at_ = n) (hn : n ≠ 0) (hb : Below w.heap.size w w') : PutOut w g b life L s id at_ (.returned (.int .i64 n)) w' :=
  ⟨by rw [h],by rw [putL_no (by rw [h];exact hn)];exact hd.below hb,grown_of_below hb _⟩
set_option maxHeartbeats 1000000 in
set_option maxRecDepth 100000 in
theorem put_live {w : World} {g b : Nat} {life : Int} {L : List S57} (h : DirAt w g b life L) (s : ByteArray) (id at_ : Int) :
    Calls Try.prog 19 #[.pointer (some ⟨g,0,none⟩),.string s,.int .i64 id,.int .i64 at_] w fun e w' => PutOut w g b life L s id at_ e w' := by
  have HD := Aside0.mk h
  clear h
  obtain ⟨n,hn⟩ : ∃ n,nameV s = n := ⟨_,rfl⟩
  have NM : Aside0 (∀ W,Calls Try.prog 39 #[.string s] W fun e w' => e = .returned (.int .i64 n) ∧ Below W.heap.size W w') := ⟨fun W => by rw [← hn];exact name_b s W⟩
  by_cases h0 : n = 0
  · subst h0
    obtain ⟨r1,hr1⟩ : ∃ r1,((false && (id == 0)) || !badId id) = r1 := ⟨_,rfl⟩
    obtain ⟨r2,hr2⟩ : ∃ r2,((true && (at_ == 0)) || !badId at_) = r2 := ⟨_,rfl⟩
    have N1 := Aside0.mk (fun W => num_b id false r1 hr1 W)
    have N2 := Aside0.mk (fun W => num_b at_ true r2 hr2 W)
    have h12 : (badId id || (at_ != 0 && badId at_)) = !(r1 && r2) := by
      rw [← hr1,← hr2]
      cases badId id <;> cases badId at_ <;> by_cases e : at_ = 0 <;> simp [e,bne]
    have H12 := Aside0.mk h12
    have HN := Aside0.mk hn
    clear hn hr1 hr2 h12
    cases r1
    · go_enter Try.func19,Try.ntmps19
      go_wp2_with (first | (go_at_call 38;refine (is_made HD.out).mono ?_;rintro e w' ⟨rfl,rfl⟩) | (go_at_call 39;refine (NM.out _).mono ?_;rintro e w1 ⟨rfl,hb⟩;have HB1 := Aside0.mk hb;clear hb) | (go_at_call 40;(with_reducible refine (N1.out _).mono ?_);rintro e w2 ⟨rfl,hb⟩;have HB2 := Aside0.mk (below_then HB1.out HB1.out.size hb);clear hb))
      go_ret
      exact PutOut.no HD.out (putE_id HN.out (by rw [H12.out];rfl)) (by decide) HB2.out
    · cases r2
      · go_enter Try.func19,Try.ntmps19
        go_wp2_with (first | (go_at_call 38;refine (is_made HD.out).mono ?_;rintro e w' ⟨rfl,rfl⟩) | (go_at_call 39;refine (NM.out _).mono ?_;rintro e w1 ⟨rfl,hb⟩;have HB1 := Aside0.mk hb;clear hb) | (go_at_call 40;(with_reducible refine (N1.out _).mono ?_);rintro e w2 ⟨rfl,hb⟩;have HB2 := Aside0.mk (below_then HB1.out HB1.out.size hb);clear hb) | (go_at_call 40;(with_reducible refine (N2.out _).mono ?_);rintro e w3 ⟨rfl,hb⟩;have HB3 := Aside0.mk (below_then HB2.out HB2.out.size hb);clear hb))
        go_ret
        exact PutOut.no HD.out (putE_id HN.out (by rw [H12.out];rfl)) (by decide) HB3.out
      · have E0 : Aside0 ((badId id || (at_ != 0 && badId at_)) = false) := ⟨by rw [H12.out];rfl⟩
        have hu57 := Try.underlying57
        have hu70 := Try.underlying70
        cases hg : adGet s L with
        | none =>
          have ht : (mget (dirM L) s).getD noAddr = .agg #[.string ⟨#[]⟩,.int .i64 0,.int .i64 0,.int .i64 0] := by rw [mget_dir,hg];rfl
          have hs : (mget (dirM L) s).isSome = false := by rw [mget_dir,hg];rfl
          have HT := Aside0.mk ht
          have HS := Aside0.mk hs
          have HG := Aside0.mk hg
          clear ht hs hg
          have LN : Aside0 (((dirM L).length : Int) = (L.length : Int)) := ⟨by simp [dirM]⟩
          by_cases hl : 4096 ≤ L.length
          · have PE : Aside0 (putE L s id at_ = 2) := ⟨putE_full HN.out E0.out ⟨HG.out,hl⟩⟩
            have hlz : (4096 : Int) ≤ (L.length : Int) := by omega
            clear hl
            go_enter Try.func19,Try.ntmps19
            go_wp2_with (first | (go_at_call 38;refine (is_made HD.out).mono ?_;rintro e w' ⟨rfl,rfl⟩) | (go_at_call 39;refine (NM.out _).mono ?_;rintro e w1 ⟨rfl,hb⟩;have HB1 := Aside0.mk hb;clear hb) | (go_at_call 40;(with_reducible refine (N1.out _).mono ?_);rintro e w2 ⟨rfl,hb⟩;have HB2 := Aside0.mk (below_then HB1.out HB1.out.size hb);clear hb) | (go_at_call 40;(with_reducible refine (N2.out _).mono ?_);rintro e w3 ⟨rfl,hb⟩;have HB3 := Aside0.mk (below_then HB2.out HB2.out.size hb);clear hb;have D3 := Aside0.mk (HD.out.below HB3.out);have c1 : w3.cell? ⟨g,1,none⟩ = some (.map (some b)) := (blk_cell D3.out.1 1).trans rfl;have hlt := blk_lt D3.out.1) | (at_lookup;refine wp_look rfl _ _ 68 9 57 rfl (key_string Try.underlying9) Try.underlying68 rfl s rfl D3.out.2 noAddr (by kernel_rfl) ?_;rw [HT.out,HS.out]) | (at_len;refine wp_lenW (by rfl) _ 68 9 57 rfl Try.underlying68 rfl (D3.out.2.alloc _) ?_;rw [LN.out]))
            go_ret
            exact PutOut.no HD.out PE.out (by decide) (below_alloc HB3.out _)
          · have PE : Aside0 (putE L s id at_ = 0) := ⟨putE_ok HN.out E0.out (fun h => hl h.2)⟩
            have hlz : ¬ (4096 : Int) ≤ (L.length : Int) := by omega
            clear hl
            go_enter Try.func19,Try.ntmps19
            go_wp2_with (first | (go_at_call 38;refine (is_made HD.out).mono ?_;rintro e w' ⟨rfl,rfl⟩) | (go_at_call 39;refine (NM.out _).mono ?_;rintro e w1 ⟨rfl,hb⟩;have HB1 := Aside0.mk hb;clear hb) | (go_at_call 40;(with_reducible refine (N1.out _).mono ?_);rintro e w2 ⟨rfl,hb⟩;have HB2 := Aside0.mk (below_then HB1.out HB1.out.size hb);clear hb) | (go_at_call 40;(with_reducible refine (N2.out _).mono ?_);rintro e w3 ⟨rfl,hb⟩;have HB3 := Aside0.mk (below_then HB2.out HB2.out.size hb);clear hb;have D3 := Aside0.mk (HD.out.below HB3.out);have c1 : w3.cell? ⟨g,1,none⟩ = some (.map (some b)) := (blk_cell D3.out.1 1).trans rfl;have hlt := blk_lt D3.out.1) | (at_lookup;refine wp_look rfl _ _ 68 9 57 rfl (key_string Try.underlying9) Try.underlying68 rfl s rfl D3.out.2 noAddr (by kernel_rfl) ?_;rw [HT.out,HS.out]) | (at_len;refine wp_lenW (by rfl) _ 68 9 57 rfl Try.underlying68 rfl (D3.out.2.alloc _) ?_;rw [LN.out]))
            obtain ⟨w4,hw4⟩ : ∃ w4,w4 = w3.alloc (Obj.cells #[Value.string ⟨#[]⟩,Value.int IntKind.i64 0,Value.int IntKind.i64 0,Value.int IntKind.i64 0] 57) := ⟨_,rfl⟩
            have hb4 : Below w3.heap.size w3 w4 := by rw [hw4];exact below_alloc (Below.refl _ _) _
            have D4 := Aside0.mk (D3.out.below hb4)
            have HB4 := Aside0.mk (below_then HB3.out HB3.out.size hb4)
            rw [← hw4]
            clear hw4 hb4 c1 hlt
            have c0 : w4.cell? ⟨g,0,none⟩ = some (.int .i64 life) := (blk_cell D4.out.1 0).trans rfl
            have c1 : w4.cell? ⟨g,1,none⟩ = some (.map (some b)) := (blk_cell D4.out.1 1).trans rfl
            go_still_tail 13,(by kernel_rfl)
            refine wp_put rfl (.tmp 50) (.tmp 51) (.tmp 59) 68 9 57 rfl (key_string Try.underlying9) Try.underlying68 rfl s rfl (adV ⟨s,id,at_,life⟩) rfl (D4.out.below (below_drew (Below.refl _ _))).2 ?_
            intro w7 hm7 hg7 hs7
            have hm8 : IsMap w7 b Value.string (dirM (putL life L s id at_)) := by rw [putL_ok PE.out,← mput_dir];exact hm7
            have hd7 := (D4.out.below (below_drew (Below.refl _ _))).turn hm8 hg7
            have HD7 := Aside0.mk hd7
            have HG7 := Aside0.mk ((grown_of_below (below_drew HB4.out) (some b)).trans hg7)
            clear hm7 hg7 hs7 hm8 hd7
            go_wp2_with fail
            go_ret
            exact ⟨by rw [PE.out];rfl,HD7.out,HG7.out⟩
        | some a =>
          have ht : (mget (dirM L) s).getD noAddr = .agg #[.string a.f0,.int .i64 a.f1,.int .i64 a.f2,.int .i64 a.f3] := by rw [mget_dir,hg];rfl
          have hs : (mget (dirM L) s).isSome = true := by rw [mget_dir,hg];rfl
          have PE : Aside0 (putE L s id at_ = 0) := ⟨putE_ok HN.out E0.out (fun h => by rw [hg] at h;cases h.1)⟩
          have HT := Aside0.mk ht
          have HS := Aside0.mk hs
          have LN : Aside0 (((dirM L).length : Int) = (L.length : Int)) := ⟨by simp [dirM]⟩
          clear ht hs hg
          go_enter Try.func19,Try.ntmps19
          go_wp2_with (first | (go_at_call 38;refine (is_made HD.out).mono ?_;rintro e w' ⟨rfl,rfl⟩) | (go_at_call 39;refine (NM.out _).mono ?_;rintro e w1 ⟨rfl,hb⟩;have HB1 := Aside0.mk hb;clear hb) | (go_at_call 40;(with_reducible refine (N1.out _).mono ?_);rintro e w2 ⟨rfl,hb⟩;have HB2 := Aside0.mk (below_then HB1.out HB1.out.size hb);clear hb) | (go_at_call 40;(with_reducible refine (N2.out _).mono ?_);rintro e w3 ⟨rfl,hb⟩;have HB3 := Aside0.mk (below_then HB2.out HB2.out.size hb);clear hb;have D3 := Aside0.mk (HD.out.below HB3.out);have c1 : w3.cell? ⟨g,1,none⟩ = some (.map (some b)) := (blk_cell D3.out.1 1).trans rfl;have hlt := blk_lt D3.out.1) | (at_lookup;refine wp_look rfl _ _ 68 9 57 rfl (key_string Try.underlying9) Try.underlying68 rfl s rfl D3.out.2 noAddr (by kernel_rfl) ?_;rw [HT.out,HS.out]) | (at_len;refine wp_lenW (by rfl) _ 68 9 57 rfl Try.underlying68 rfl (D3.out.2.alloc _) ?_;rw [LN.out]))
          obtain ⟨w4,hw4⟩ : ∃ w4,w4 = w3.alloc (Obj.cells #[Value.string a.f0,Value.int IntKind.i64 a.f1,Value.int IntKind.i64 a.f2,Value.int IntKind.i64 a.f3] 57) := ⟨_,rfl⟩
          have hb4 : Below w3.heap.size w3 w4 := by rw [hw4];exact below_alloc (Below.refl _ _) _
          have D4 := Aside0.mk (D3.out.below hb4)
          have HB4 := Aside0.mk (below_then HB3.out HB3.out.size hb4)
          rw [← hw4]
          clear hw4 hb4 c1 hlt
          have c0 : w4.cell? ⟨g,0,none⟩ = some (.int .i64 life) := (blk_cell D4.out.1 0).trans rfl
          have c1 : w4.cell? ⟨g,1,none⟩ = some (.map (some b)) := (blk_cell D4.out.1 1).trans rfl
          go_still_tail 13,(by kernel_rfl)
          refine wp_put rfl (.tmp 50) (.tmp 51) (.tmp 59) 68 9 57 rfl (key_string Try.underlying9) Try.underlying68 rfl s rfl (adV ⟨s,id,at_,life⟩) rfl (D4.out.below (below_drew (Below.refl _ _))).2 ?_
          intro w7 hm7 hg7 hs7
          have hm8 : IsMap w7 b Value.string (dirM (putL life L s id at_)) := by rw [putL_ok PE.out,← mput_dir];exact hm7
          have hd7 := (D4.out.below (below_drew (Below.refl _ _))).turn hm8 hg7
          have HD7 := Aside0.mk hd7
          have HG7 := Aside0.mk ((grown_of_below (below_drew HB4.out) (some b)).trans hg7)
          clear hm7 hg7 hs7 hm8 hd7
          go_wp2_with fail
          go_ret
          exact ⟨by rw [PE.out];rfl,HD7.out,HG7.out⟩
  · have hb : (n != 0) = true := by simpa using h0
    have HE : Aside0 (putE L s id at_ = n) := ⟨putE_name hn h0⟩
    have H0 := Aside0.mk h0
    clear hn h0
    go_enter Try.func19,Try.ntmps19
    go_wp2_with (first | (go_at_call 38;refine (is_made HD.out).mono ?_;rintro e w' ⟨rfl,rfl⟩) | (go_at_call 39;refine (NM.out _).mono ?_;rintro e w1 ⟨rfl,hb⟩;have HB1 := Aside0.mk hb;clear hb))
    go_ret
    exact PutOut.no HD.out HE.out H0.out HB1.out
def adOr (o : Option S57) : S57 := o.getD z57
theorem get_dir {w : World} {g b : Nat} {life : Int} {L : List S57} (h : DirAt w g b life L) (s : ByteArray) :
    Calls Try.prog 25 #[.pointer (some ⟨g,0,none⟩),.string s] w fun e w' => e = .returned (.tuple #[adV (adOr (adGet s L)),.bool (adGet s L).isSome]) ∧ Below w.heap.size w w' := by
  have e1 : told (dirM L) s = adV (adOr (adGet s L)) := by
    unfold told
    rw [mget_dir]
    cases adGet s L <;> rfl
  have e2 : (mget (dirM L) s).isSome = (adGet s L).isSome := by
    rw [mget_dir]
    cases adGet s L <;> rfl
  have := get_live (life := life) (m := dirM L) h s (adOr (adGet s L)).f0 (adOr (adGet s L)).f1 (adOr (adGet s L)).f2 (adOr (adGet s L)).f3 e1
  rw [e1,e2] at this
  exact this
set_option maxRecDepth 100000 in
theorem drop_live {w : World} {g b : Nat} {life : Int} {L : List S57} (h : DirAt w g b life L) :
    Calls Try.prog 24 #[.pointer (some ⟨g,0,none⟩)] w fun e w' => e = .returned (.int .i64 (L.length : Int)) ∧ DirAt w' g b life [] ∧ w.grownBy w' (some b) := by
  have HD := Aside0.mk h
  have hu70 := Try.underlying70
  have hlt := blk_lt h.1
  have c1 : w.cell? ⟨g,1,none⟩ = some (.map (some b)) := (blk_cell h.1 1).trans rfl
  have LN : Aside0 (((dirM L).length : Int) = (L.length : Int)) := ⟨by simp [dirM]⟩
  clear h
  go_enter Try.func24,Try.ntmps24
  go_wp2_with (first | (go_at_call 38;refine (is_made HD.out).mono ?_;rintro e w' ⟨rfl,rfl⟩) | (at_len;refine wp_len rfl _ 68 9 57 rfl Try.underlying68 rfl HD.out.2 ?_;rw [LN.out]) | (refine wp_clear rfl (.tmp 15) 68 9 57 rfl Try.underlying68 rfl HD.out.2 ?_;intro w7 hm7 hg7 hs7;have HM7 := Aside0.mk hm7;have HG7 := Aside0.mk hg7;clear hm7 hg7 hs7))
  go_ret
  exact ⟨rfl,HD.out.turn HM7.out HG7.out,HG7.out⟩
end Go.Proofs.Ytlpmblcdafdfdaa.PA
