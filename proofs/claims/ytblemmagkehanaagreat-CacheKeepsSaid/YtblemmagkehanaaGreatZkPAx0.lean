/- Printed out of the program's form. Conditions: those that each theorem names. -/
import Derived.Test.YtblemmagkehanaaGreatProg
import Derived.Below
import Derived.Deep.Draws
import Derived.Deep.AppendLies
import Derived.Maps.AppendAt
import Derived.OwnWalk
import Derived.Laws.BytesArg
import Derived.Laws.MakeOwn
import Derived.Laws.OwnMore
import Derived.Deep.OwnRows
import Derived.Tactics
import Derived.Lib.ConvBytes
import Derived.Laws.Slices
import Derived.WalkKit
import Derived.KernelRfl
import Derived.RowKit3
import Derived.Deep.LoopGhost
import Derived.Deep.QuietTactic
import Derived.BigQuiet
import Derived.WideLaws
import Derived.Deep.DeepCutAuto
import Derived.Deep.CutBlock
import Derived.Deep.RegionHeld3
import Derived.Laws.Rows
import Derived.Lib.AppendStr
import Derived.ArgAppend
import Derived.Laws.IdiomCopy
import Derived.OrdersHeld
import Derived.Laws.BitsLemmas
import Derived.RowKit
import Derived.Test.YtblemmagkehanaaGreatZkMn
import Derived.Test.YtblemmagkehanaaGreatZkW
namespace Go.Proofs.YtblemmagkehanaaGreat.PA
open Go.RowKit Go.Proofs.YtblemmagkehanaaGreatW.PrintWords Go.Proofs.YtblemmagkehanaaGreatW.PrintLast Go.Proofs.YtblemmagkehanaaGreatW.PrintMore
attribute [local go_sem] max2_int min2_int max_two min_two max_three min_three max_four min_four
set_option linter.unusedVariables false
set_option linter.unusedSimpArgs false
def errW:Option Int → Value
 | none => .nilIface
 | some c => .iface 0 (.int .i64 c)
theorem errW_none:errW none = .nilIface:=rfl
theorem errW_some (c:Int):errW (some c) = .iface 0 (.int .i64 c):=rfl
theorem info43:(Tryz.prog.info? 43).map (fun i => (i.zero,i.size,i.bytes)) = some (some (.agg #[(.int .i64 0),(.float .f64 0),(.slice none 0 0)]),3,40):=by kernel_rfl
theorem info61:(Tryz.prog.info? 61).map (fun i => (i.zero,i.size,i.bytes)) = some (some (.agg #[(.int .i64 0),(.int .i64 0),(.float .f64 0),(.float .f64 0),(.int .i64 0)]),5,40):=by kernel_rfl
structure S61 where
 f0:Int
 f1:Int
 f2:Nat
 f3:Nat
 f4:Int
def z61:S61:=⟨(0:Int),(0:Int),(0:Nat),(0:Nat),(0:Int)⟩
def k61:Kd S61:=Kd.iso (Kd.pair (Kd.int .i64) (Kd.pair (Kd.int .i64) (Kd.pair Kd.float (Kd.pair Kd.float (Kd.int .i64))))) (fun x:S61 => (x.f0,x.f1,x.f2,x.f3,x.f4))
theorem k61_open {w:World} {x:S61} {cs:List Value} (h:k61.K w x cs):cs = [.int .i64 x.f0,.int .i64 x.f1,.float .f64 x.f2,.float .f64 x.f3,.int .i64 x.f4]:=by
 obtain ⟨_,_,rfl,rfl,⟨_,_,rfl,rfl,⟨_,_,rfl,rfl,⟨_,_,rfl,rfl,rfl⟩⟩⟩⟩:=h;exact rfl
theorem k61_openM {w:World} {base:Nat} {ok:Nat → Prop} {x:S61} {cs:List Value} (h:k61.M w base ok x cs):cs = [.int .i64 x.f0,.int .i64 x.f1,.float .f64 x.f2,.float .f64 x.f3,.int .i64 x.f4]:=by
 obtain ⟨_,_,rfl,rfl,⟨_,_,rfl,rfl,⟨_,_,rfl,rfl,⟨_,_,rfl,rfl,rfl⟩⟩⟩⟩:=h;exact rfl
theorem k61_mk (w:World) (x:S61)  : k61.K w x [.int .i64 x.f0,.int .i64 x.f1,.float .f64 x.f2,.float .f64 x.f3,.int .i64 x.f4]:=⟨[.int .i64 x.f0],[.int .i64 x.f1,.float .f64 x.f2,.float .f64 x.f3,.int .i64 x.f4],rfl,rfl,⟨[.int .i64 x.f1],[.float .f64 x.f2,.float .f64 x.f3,.int .i64 x.f4],rfl,rfl,⟨[.float .f64 x.f2],[.float .f64 x.f3,.int .i64 x.f4],rfl,rfl,⟨[.float .f64 x.f3],[.int .i64 x.f4],rfl,rfl,rfl⟩⟩⟩⟩
theorem k61_mkM (w:World) (base:Nat) (ok:Nat → Prop) (x:S61)  : k61.M w base ok x [.int .i64 x.f0,.int .i64 x.f1,.float .f64 x.f2,.float .f64 x.f3,.int .i64 x.f4]:=⟨[.int .i64 x.f0],[.int .i64 x.f1,.float .f64 x.f2,.float .f64 x.f3,.int .i64 x.f4],rfl,rfl,⟨[.int .i64 x.f1],[.float .f64 x.f2,.float .f64 x.f3,.int .i64 x.f4],rfl,rfl,⟨[.float .f64 x.f2],[.float .f64 x.f3,.int .i64 x.f4],rfl,rfl,⟨[.float .f64 x.f3],[.int .i64 x.f4],rfl,rfl,rfl⟩⟩⟩⟩
def rd_T61 (xs:List S61) (i:Int):S61:=xs.getD i.toNat z61
theorem at_T61 {w:World} {A:Option Addr} {n:Nat} {xs:List S61} (h:Kd.C k61 w A n xs) (i:Int) (h0:0 ≤ i) (h1:i < n):∃ ad ,A = some ad ∧ w.cell? (ad.add (i.toNat * 5)) = some (.int .i64 (rd_T61 xs i).f0) ∧ w.cell? ⟨(ad.add (i.toNat * 5)).block,(ad.add (i.toNat * 5)).off + 1,none⟩ = some (.int .i64 (rd_T61 xs i).f1) ∧ w.cell? ⟨(ad.add (i.toNat * 5)).block,(ad.add (i.toNat * 5)).off + 2,none⟩ = some (.float .f64 (rd_T61 xs i).f2) ∧ w.cell? ⟨(ad.add (i.toNat * 5)).block,(ad.add (i.toNat * 5)).off + 3,none⟩ = some (.float .f64 (rd_T61 xs i).f3) ∧ w.cell? ⟨(ad.add (i.toNat * 5)).block,(ad.add (i.toNat * 5)).off + 4,none⟩ = some (.int .i64 (rd_T61 xs i).f4):=by
 obtain ⟨ad,c,e,_,hK,hc0⟩:=Kd.C_get h z61 i h0 h1;have hc:∀ j u,c[j]? = some u → w.cell? (ad.add (i.toNat * 5 + j)) = some u:=hc0;obtain rfl:=k61_open hK;exact ⟨ad,e,hc 0 _ rfl,by rw [← add_field _ _ 1 (by omega)];exact hc 1 _ rfl,by rw [← add_field _ _ 2 (by omega)];exact hc 2 _ rfl,by rw [← add_field _ _ 3 (by omega)];exact hc 3 _ rfl,by rw [← add_field _ _ 4 (by omega)];exact hc 4 _ rfl⟩
structure S43 where
 f0:Int
 f1:Nat
 f2:(List S61)
def z43:S43:=⟨(0:Int),(0:Nat),([]:List S61)⟩
def k43:Kd S43:=Kd.iso (Kd.pair (Kd.int .i64) (Kd.pair Kd.float (Kd.slice 61 k61))) (fun x:S43 => (x.f0,x.f1,x.f2))
theorem k43_open {w:World} {x:S43} {cs:List Value} (h:k43.K w x cs):∃ A2 c2,cs = [.int .i64 x.f0,.float .f64 x.f1,.slice A2 x.f2.length c2] ∧ x.f2.length ≤ c2 ∧ k61.C w A2 x.f2.length x.f2:=by
 obtain ⟨_,_,rfl,rfl,⟨_,_,rfl,rfl,⟨A2,c2,rfl,l2,g2⟩⟩⟩:=h;exact ⟨A2,c2,rfl,l2,g2⟩
theorem k43_openM {w:World} {base:Nat} {ok:Nat → Prop} {x:S43} {cs:List Value} (h:k43.M w base ok x cs):∃ v2,cs = [.int .i64 x.f0,.float .f64 x.f1,v2] ∧ k61.R 61 w base ok v2 x.f2:=by
 obtain ⟨_,_,rfl,rfl,⟨_,_,rfl,rfl,⟨v2,rfl,g2⟩⟩⟩:=h;exact ⟨v2,rfl,g2⟩
theorem k43_mk (w:World) (x:S43) {A2:Option Addr} {c2:Nat} (l2:x.f2.length ≤ c2) (g2:k61.C w A2 x.f2.length x.f2):k43.K w x [.int .i64 x.f0,.float .f64 x.f1,.slice A2 x.f2.length c2]:=⟨[.int .i64 x.f0],[.float .f64 x.f1,.slice A2 x.f2.length c2],rfl,rfl,⟨[.float .f64 x.f1],[.slice A2 x.f2.length c2],rfl,rfl,⟨A2,c2,rfl,l2,g2⟩⟩⟩
theorem k43_mkM (w:World) (base:Nat) (ok:Nat → Prop) (x:S43) {v2:Value} (g2:k61.R 61 w base ok v2 x.f2):k43.M w base ok x [.int .i64 x.f0,.float .f64 x.f1,v2]:=⟨[.int .i64 x.f0],[.float .f64 x.f1,v2],rfl,rfl,⟨[.float .f64 x.f1],[v2],rfl,rfl,⟨v2,rfl,g2⟩⟩⟩
theorem k43_openF {W:World} {ok:Nat → Prop} {x:S43} {cs:List Value} (h:Kd.FK k43 W ok x cs):∃ A2 c2,cs = [.int .i64 x.f0,.float .f64 x.f1,.slice A2 x.f2.length c2] ∧ x.f2.length ≤ c2 ∧ Kd.F k61 W ok A2 x.f2.length x.f2:=by
 obtain ⟨A2,c2,rfl,l2,_⟩:=k43_open (Kd.FK_now h);exact ⟨A2,c2,rfl,l2,(fun W' hW => by obtain ⟨A2_,c2_,he,l2_,g2_⟩:=k43_open (h W' hW);injection (Option.some.inj (show some (Value.slice A2 x.f2.length c2) = some (Value.slice A2_ x.f2.length c2_) from congrArg (fun l => l[2]?) he)) with ha_ _ _;rw [ha_];exact g2_)⟩
theorem k43_mkF (W:World) (ok:Nat → Prop) (x:S43) {A2:Option Addr} {c2:Nat} (l2:x.f2.length ≤ c2) (g2:Kd.F k61 W ok A2 x.f2.length x.f2):Kd.FK k43 W ok x [.int .i64 x.f0,.float .f64 x.f1,.slice A2 x.f2.length c2]:=fun W2 hW => k43_mk W2 x l2 (g2 W2 hW)
def rd_T43 (xs:List S43) (i:Int):S43:=xs.getD i.toNat z43
theorem at_T43 {w:World} {A:Option Addr} {n:Nat} {xs:List S43} (h:Kd.C k43 w A n xs) (i:Int) (h0:0 ≤ i) (h1:i < n):∃ ad A2 c2,A = some ad ∧ w.cell? (ad.add (i.toNat * 3)) = some (.int .i64 (rd_T43 xs i).f0) ∧ w.cell? ⟨(ad.add (i.toNat * 3)).block,(ad.add (i.toNat * 3)).off + 1,none⟩ = some (.float .f64 (rd_T43 xs i).f1) ∧ w.cell? ⟨(ad.add (i.toNat * 3)).block,(ad.add (i.toNat * 3)).off + 2,none⟩ = some (.slice A2 (rd_T43 xs i).f2.length c2) ∧ (rd_T43 xs i).f2.length ≤ c2 ∧ k61.C w A2 (rd_T43 xs i).f2.length (rd_T43 xs i).f2:=by
 obtain ⟨ad,c,e,_,hK,hc0⟩:=Kd.C_get h z43 i h0 h1;have hc:∀ j u,c[j]? = some u → w.cell? (ad.add (i.toNat * 3 + j)) = some u:=hc0;obtain ⟨A2,c2,rfl,l2,g2⟩:=k43_open hK;exact ⟨ad,A2,c2,e,hc 0 _ rfl,by rw [← add_field _ _ 1 (by omega)];exact hc 1 _ rfl,by rw [← add_field _ _ 2 (by omega)];exact hc 2 _ rfl,l2,g2⟩
end Go.Proofs.YtblemmagkehanaaGreat.PA
