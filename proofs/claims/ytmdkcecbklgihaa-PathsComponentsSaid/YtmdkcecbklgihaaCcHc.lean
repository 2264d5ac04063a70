/- paths.checked: the net of a graph: its places by their numbers, of each place the live links. Conditions: what graph.Check says is told; the links' ends are places. -/
import Derived.Test.YtmdkcecbklgihaaCcHb
import Derived.StillTailTactics
import Derived.Deep.DeepCutAuto
namespace Go.Proofs.Ytmdkcecbklgihaa.PA
open Go.RowKit Go.Proofs.YtmdkcecbklgihaaW.PrintWords Go.Proofs.YtmdkcecbklgihaaW.PrintLast Go.Proofs.YtmdkcecbklgihaaW.PrintMore
set_option linter.unusedVariables false
set_option linter.unusedSimpArgs false
def plc (nodes : List S40) (id : Int) : Nat := nodes.findIdx (fun x => x.f0 == id)
def adjStep (nodes : List S40) (adj : List (List S81)) (l : S74) : List (List S81) :=
  if l.f3 = true ∧ (nodes.getD (plc nodes l.f0) z40).f1 = true ∧ (nodes.getD (plc nodes l.f1) z40).f1 = true then
    let adj1 := adj.set (plc nodes l.f0) (adj.getD (plc nodes l.f0) [] ++ [⟨(plc nodes l.f1 : Nat),l.f2⟩])
    adj1.set (plc nodes l.f1) (adj1.getD (plc nodes l.f1) [] ++ [⟨(plc nodes l.f0 : Nat),l.f2⟩])
  else adj
def adjB (nodes : List S40) (links : List S74) : List (List S81) := links.foldl (adjStep nodes) (List.replicate nodes.length [])
theorem adjStep_len (nodes : List S40) (adj : List (List S81)) (l : S74) : (adjStep nodes adj l).length = adj.length := by
  unfold adjStep
  split <;> simp
theorem foldl_len (nodes : List S40) : ∀ (links : List S74) (adj : List (List S81)),(links.foldl (adjStep nodes) adj).length = adj.length
  | [],adj => rfl
  | l :: links,adj => by
    rw [List.foldl_cons,foldl_len nodes links,adjStep_len]
theorem adjB_len (nodes : List S40) (links : List S74) : (adjB nodes links).length = nodes.length := by
  unfold adjB
  rw [foldl_len]
  simp
theorem adjB_succ (nodes : List S40) (links : List S74) (j : Nat) (h : j < links.length) : adjB nodes (links.take (j + 1)) = adjStep nodes (adjB nodes (links.take j)) (links.getD j z74) := by
  unfold adjB
  rw [List.take_add_one,List.foldl_append]
  simp [List.getD_eq_getElem?_getD,h]
theorem mfind_miss {m : List (Int × Value)} {k : Int} : ∀ {i : Nat},k ∉ m.map (·.1) → mfind k m i = none := fun {i} h => mfind_none.2 h
theorem places_snoc (nodes : List S40) (x : S40) : placesOf (nodes ++ [x]) = placesOf nodes ++ [(x.f0,.int .i64 (nodes.length : Int))] := by
  unfold placesOf
  rw [List.zipIdx_append]
  simp
theorem places_keys (nodes : List S40) : (placesOf nodes).map (·.1) = nodes.map (·.f0) := by
  unfold placesOf
  rw [List.map_map]
  have : ((fun x : Int × Value => x.1) ∘ fun e : S40 × Nat => (e.1.f0,Value.int .i64 (e.2 : Int))) = (fun e => e.1.f0) := rfl
  rw [this]
  have h2 : (fun e : S40 × Nat => e.1.f0) = (·.f0) ∘ Prod.fst := rfl
  rw [h2,← List.map_map,List.zipIdx_map_fst]
theorem places_put (nodes : List S40) (j : Nat) (hj : j < nodes.length) (hn : (nodes.map (·.f0)).Nodup) : mput (placesOf (nodes.take j)) (nodes.getD j z40).f0 (.int .i64 (j : Int)) = placesOf (nodes.take (j + 1)) := by
  have hg : nodes.getD j z40 = nodes[j] := by simp [List.getD_eq_getElem?_getD,hj]
  have hmiss : (nodes.getD j z40).f0 ∉ (placesOf (nodes.take j)).map (·.1) := by
    rw [places_keys,hg]
    intro hm
    rw [← List.take_append_drop j nodes,List.map_append,List.nodup_append] at hn
    refine hn.2.2 _ hm (nodes[j]).f0 ?_ rfl
    rw [List.drop_eq_getElem_cons hj,List.map_cons]
    exact List.mem_cons_self ..
  unfold mput
  rw [mfind_miss hmiss]
  have : nodes.take (j + 1) = nodes.take j ++ [nodes[j]] := by
    rw [List.take_add_one,List.getElem?_eq_getElem hj]
    rfl
  rw [this,places_snoc,hg]
  have h3 : (nodes.take j).length = j := by simp;omega
  rw [h3]
theorem mget_go (id : Int) : ∀ (nodes : List S40) (s i : Nat),(mfind id ((nodes.zipIdx s).map fun e : S40 × Nat => (e.1.f0,Value.int .i64 (e.2 : Int))) i).map (·.2) = if plc nodes id < nodes.length then some (.int .i64 ((s + plc nodes id : Nat) : Int)) else none
  | [],s,i => by simp [mfind,plc]
  | x :: nodes,s,i => by
    simp only [List.zipIdx_cons,List.map_cons]
    unfold mfind
    by_cases h : id = x.f0
    · have : plc (x :: nodes) id = 0 := by simp [plc,List.findIdx_cons,h]
      rw [if_pos h,this]
      simp
    have h2 : plc (x :: nodes) id = plc nodes id + 1 := by
      have h3 : (x.f0 == id) = false := by
        rw [beq_eq_false_iff_ne]
        exact Ne.symm h
      simp [plc,List.findIdx_cons,h3]
    rw [if_neg h,mget_go id nodes (s + 1) (i + 1),h2]
    have : s + 1 + plc nodes id = s + (plc nodes id + 1) := by omega
    rw [this]
    simp
theorem mget_places (nodes : List S40) (id : Int) : mget (placesOf nodes) id = if plc nodes id < nodes.length then some (.int .i64 (plc nodes id : Int)) else none := by
  have := mget_go id nodes 0 0
  rw [Nat.zero_add] at this
  exact this
structure Mk (w wr : World) (N0 g0 bx mb a3 mx n : Nat) (A0 A1 : Option Addr) (c0 c1 nl : Nat) (m : List (Int × Value)) (rows : List (List S81)) : Prop where
  box : wr.heap[bx]? = some (.cells #[.slice A0 n c0,.slice A1 nl c1] 25 (0,0))
  net : wr.heap[g0]? = some (.cells #[.slice A0 n c0,.slice A1 nl c1,.float .f64 mx,.map (some mb),.slice (some ⟨a3,0,none⟩) n n] 66 (0,0))
  map : IsMap wr mb (Value.int .i64) m
  rows : Kd.S kRow 79 wr w.heap.size (fun k => k = a3 ∨ N0 ≤ k) (.slice (some ⟨a3,0,none⟩) n n) rows
  below : Below w.heap.size w wr
  big : N0 ≤ wr.heap.size
  ge : w.heap.size ≤ mb ∧ w.heap.size ≤ a3 ∧ g0 < N0 ∧ bx < N0 ∧ mb < N0 ∧ a3 < N0
theorem Mk.alloc {w wr wr' : World} {N0 g0 bx mb a3 mx n : Nat} {A0 A1 : Option Addr} {c0 c1 nl : Nat} {m : List (Int × Value)} {rows : List (List S81)} (h : Mk w wr N0 g0 bx mb a3 mx n A0 A1 c0 c1 nl m rows) (hb : Below wr.heap.size wr wr') : Mk w wr' N0 g0 bx mb a3 mx n A0 A1 c0 c1 nl m rows :=
  ⟨blk_below h.box hb,blk_below h.net hb,h.map.below hb,Kd.S_below h.rows hb,⟨hb.os.trans h.below.os,hb.tape.trans h.below.tape,hb.output.trans h.below.output,Nat.le_trans h.below.size hb.size,fun k hk => (hb.block k (Nat.lt_of_lt_of_le hk h.below.size)).trans (h.below.block k hk)⟩,Nat.le_trans h.big hb.size,h.ge⟩
end Go.Proofs.Ytmdkcecbklgihaa.PA
