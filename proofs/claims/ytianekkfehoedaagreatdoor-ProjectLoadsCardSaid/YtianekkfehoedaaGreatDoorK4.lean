/- slices.Insert and slices.Delete on entries, as the machine runs them. Rules more: an append to a new slice, whose block is its own; a list of elements in a box; slices.Insert on a slice whose block is its own. slices.Delete of one entry, as the machine runs it; its contract. -/
import Derived.Test.YtianekkfehoedaaGreatDoorHv
import Derived.Lib.AppendZeros
import Derived.Lib.AppendZerosOnto
import Derived.Lib.SliceRun
import Derived.Lib.Walk
import Derived.Lib.Overlaps
import Derived.Lib.SmallJoins
import Derived.Laws.Externs
import Derived.Shelf.RegionOpenPlain
import Derived.Test.YtianekkfehoedaaGreatDoorKB
import Derived.Test.YtianekkfehoedaaGreatDoorK1
import Derived.Deep.RegionLaw
namespace Go.Proofs.YtianekkfehoedaaGreatDoor
set_option linter.unusedSimpArgs false
set_option linter.unusedVariables false
set_option linter.unnecessarySimpa false
open Go.RowKit Go.Lib
/-- A fact that a walk does not look at. -/
structure Off (p : Prop) : Prop where
  out : p
/-- vs is laid at o. -/
def rowAt (cur : Array Value) (o : Nat) (vs : List Value) : Array Value := (cur.toList.take o ++ vs ++ cur.toList.drop (o + vs.length)).toArray
theorem rowAt_size {cur : Array Value} {o : Nat} {vs : List Value} (h : o + vs.length ≤ cur.size) : (rowAt cur o vs).size = cur.size := by
  unfold rowAt; simp; omega
theorem run_copy_row {P : Program} (w : World) (dT sT ty elem : TypeId) (g o dLen dCap : Nat) (a : Addr) (sLen sCap z : Nat) (cs : List Value) {cur : Array Value} {e' : TypeId}
    (hu : P.underlying dT = some (.slice elem)) (hs : (P.info? elem).map (·.size) = some z) (hn : cs.length = Nat.min sLen dLen * z)
    (hsrc : ∀ j v, cs[j]? = some v → w.cell? (a.add j) = some v) (hg : w.heap[g]? = some (.cells cur e' (0, 0))) (hf : o + cs.length ≤ cur.size) (h1 : ∀ v ∈ cs, v.oneCell' = true) :
    (Builtin.copy_ #[dT, sT] ty #[.slice (some ⟨g, o, none⟩) dLen dCap, .slice (some a) sLen sCap]).run P w = .ok (goInt (Nat.min sLen dLen)) (w.setRow g (rowAt cur o cs)) := by
  have hl := run_loadCells_list (P := P) w a cs hsrc
  have hst := run_storeCells_at P g o e' cs 0 cur w hg (by simpa using hf) h1
  simp only [Nat.add_zero] at hst
  cases hq : P.info? elem with
  | none => simp [hq] at hs
  | some i =>
    have hi : i.size = z := by simpa [hq] using hs
    simp [Builtin.copy_, run_underlying hu, Builtin.lenOf, Builtin.firstCells, sizeOf, typeInfo, hq, hi, ← hn, hl, hst, rowAt]
/-- THE OPERATION 'copy(d, s)', where its run is known. -/
theorem wpList_copy_run {P : Program} (w : World) {ops : Array Oper} {rest : List Oper} {o : Oper} {a : Act} {Q : Exit → Act → World → Prop} (hgd : o.guard = none) (d s : Operand) (t t' : TypeId)
    (ho : o.op = .call { callee := .builtin .copy, args := #[d, s], argTypes := #[t, t'] }) (v u : Value) (hd : a.eval d = v) (hs : a.eval s = u) {v' : Value} {w' : World}
    (hr : (Builtin.copy_ #[t, t'] o.type #[v, u]).run P w = .ok v' w') (h : wpList P ops Q rest (a.put o.dst v') w') : wpList P ops Q (o :: rest) a w :=
  wpList_plain hgd fun _ hK => by
    unfold Oper.wp execOp
    simp only [ho, resolve, invoke, builtin, Sem.run_bind, Sem.run_pure, Result.andThen_ok, List.map_toArray, List.map_cons, List.map_nil, hd, hs, hr]
    exact hK _ _ h
theorem step_copy_run {P : Program} {ops : Array Oper} {o : Oper} {a : Act} {w : World} {K : Act → World → Prop} {Q : Exit → Act → World → Prop} {E : Prop}
    (hg : o.guard = none) (d x : Operand) (dT sT : TypeId) (hop : o.op = Op.call { callee := Callee.builtin Builtin.copy, args := #[d, x], argTypes := #[dT, sT] })
    (v u : Value) (hd : a.eval d = v) (hx : a.eval x = u) {v' : Value} {w' : World} (hr : (Builtin.copy_ #[dT, sT] o.type #[v, u]).run P w = .ok v' w') (hK : K (a.put o.dst v') w') :
    if Region.wanted o (yielded ops a.tmps) = true then Oper.wp P o a w K Q else E := by
  have hw : Region.wanted o (yielded ops a.tmps) = true := by simp [Region.wanted, hg]
  rw [if_pos hw]
  unfold Oper.wp
  simp [execOp, hop, resolve, invoke, builtin, hd, hx, hr, Result.andThen]
  exact hK
theorem cell_row {w : World} {g : Nat} {cur : Array Value} {e : TypeId} {fr : Nat × Nat} (h : w.heap[g]? = some (.cells cur e fr)) {o j : Nat} {vs : List Value} (hvs : ∀ (j : Nat) (v : Value), vs[j]? = some v → cur.toList[o + j]? = some v) {v : Value} (hj : vs[j]? = some v) : w.cell? ((⟨g, o, none⟩ : Addr).add j) = some v := by
  rw [Addr.add_lit]
  simp only [World.cell?, h]
  have := hvs j v hj
  simpa using this
theorem en_info : (Tryz.prog.info? 46).map (fun i => (i.zero, i.size, i.bytes)) = some (some (.agg #[.int .i64 0, .int .i64 0, .int .u32 0, .string ByteArray.empty]), 4, 40) := by kernel_rfl
theorem en_size : (Tryz.prog.info? 46).map (·.size) = some 4 := by kernel_rfl
theorem en_sizeOf (w : World) : (sizeOf 46).run Tryz.prog w = .ok 4 w := run_sizeOf (show szOf Tryz.prog 46 = some 4 by kernel_rfl)
theorem ins_end_room (g n cap gv vc : Nat) (cur cv : Array Value) (e ev : TypeId) (vs : List Value) (w : World) (hg : w.heap[g]? = some (.cells cur e (0, 0))) (hv : w.heap[gv]? = some (.cells cv ev (0, 0))) (hvl : vs.length = 4) (hvs : ∀ (j : Nat) (v : Value), vs[j]? = some v → cv.toList[0 + j]? = some v)
    (hsz : cur.size = cap * 4) (hn : n + 1 ≤ cap) (h1v : ∀ v ∈ vs, v.oneCell' = true) (hm : cap ≤ 9223372036854775807) :
    Calls Tryz.prog 52 #[.slice (some ⟨g, 0, none⟩) n cap, .int .i64 n, .slice (some ⟨gv, 0, none⟩) 1 vc] w fun x w' => x = .returned (.slice (some ⟨g, 0, none⟩) (n + 1) cap) ∧ w' = w.setRow g (rowAt cur (n * 4) vs) := by
  obtain ⟨i, hi, hz0, hz1, hz2⟩ := info_parts en_info
  have hu := Tryz.underlying28
  have hs := en_sizeOf
  have hsrc : Src Tryz.prog i.size 28 (.slice (some ⟨gv, 0, none⟩) 1 vc) 1 vs w := by
    rw [hz1]
    exact Src.ofSlice w hu ⟨gv, 0, none⟩ 1 vc vs (by omega) (fun j u hj => cell_row hv hvs hj) h1v
  have hrun : ∀ ty, (Builtin.append_ #[28, 28] ty #[.slice (some ⟨g, 0, none⟩) n cap, .slice (some ⟨gv, 0, none⟩) 1 vc]).run Tryz.prog w = .ok (.slice (some ⟨g, 0, none⟩) (n + 1) cap) (w.setRow g (rowAt cur (n * 4) vs)) := fun ty => by
    have h := run_append_room' (P := Tryz.prog) (w := w) _ 28 ty _ i hu hi g n cap _ 1 vs hsrc hg (by rw [hz1, hvl]; omega) hn
    rw [hz1] at h
    exact h
  go_enter Tryz.func52, Tryz.ntmps52
  go_wp2_with (at_builtin; refine Lib.wpList_append_run _ rfl _ _ _ _ rfl _ _ rfl rfl _ _ (hrun _) ?_)
  all_goals (go_ret; exact ⟨rfl, rfl⟩)
theorem zc_size (n : Nat) : (Builtin.zeroCells (Value.cells (.agg #[.int .i64 0, .int .i64 0, .int .u32 0, .string ByteArray.empty])) n).size = n * 4 := by simp [Builtin.zeroCells, Value.cells]
def zcE (n : Nat) : Array Value := Builtin.zeroCells (Value.cells (.agg #[.int .i64 0, .int .i64 0, .int .u32 0, .string ByteArray.empty])) n
theorem first_run {w : World} {g n cap : Nat} {cur : Array Value} {e : TypeId} (hg : w.heap[g]? = some (.cells cur e (0, 0))) (h : n * 4 ≤ cur.size) : (Builtin.firstCells 4 n (.slice (some ⟨g, 0, none⟩) n cap)).run Tryz.prog w.drew = .ok (cur.toList.take (n * 4)).toArray w.drew :=
  run_firstCells_some w.drew 4 n ⟨g, 0, none⟩ n cap _ (by simp; omega) (fun j v hj => cell_row (w := w.drew) hg (fun j v h => by
    rw [List.getElem?_take] at h
    split at h
    · rw [Nat.zero_add]; exact h
    · cases h) hj)
theorem ins_end_grow (g n cap gv vc : Nat) (cur cv : Array Value) (e ev : TypeId) (vs : List Value) (w : World) (hg : w.heap[g]? = some (.cells cur e (0, 0))) (hv : w.heap[gv]? = some (.cells cv ev (0, 0))) (hvl : vs.length = 4) (hvs : ∀ (j : Nat) (v : Value), vs[j]? = some v → cv.toList[0 + j]? = some v)
    (hsz : cur.size = cap * 4) (hnc : n ≤ cap) (hn : cap < n + 1) (h1v : ∀ v ∈ vs, v.oneCell' = true) (hm : n ≤ 4194304) :
    Calls Tryz.prog 52 #[.slice (some ⟨g, 0, none⟩) n cap, .int .i64 n, .slice (some ⟨gv, 0, none⟩) 1 vc] w fun x w' => x = .returned (.slice (some ⟨w.heap.size, 0, none⟩) (n + 1) (grownCap w (n + 1) cap 46)) ∧
      w' = w.drew.alloc (.cells ((cur.toList.take (n * 4) ++ vs).toArray ++ zcE (grownCap w (n + 1) cap 46 - (n + 1))) 46) := by
  obtain ⟨i, hi, hz0, hz1, hz2⟩ := info_parts en_info
  have hu := Tryz.underlying28
  have hs := en_sizeOf
  have hsrc : Src Tryz.prog i.size 28 (.slice (some ⟨gv, 0, none⟩) 1 vc) 1 vs w := by
    rw [hz1]
    exact Src.ofSlice w hu ⟨gv, 0, none⟩ 1 vc vs (by omega) (fun j u hj => cell_row hv hvs hj) h1v
  have hold : (Builtin.firstCells i.size n (.slice (some ⟨g, 0, none⟩) n cap)).run Tryz.prog w.drew = .ok (cur.toList.take (n * 4)).toArray w.drew := by
    rw [hz1]; exact first_run hg (by omega)
  have hrun : ∀ ty, (Builtin.append_ #[28, 28] ty #[.slice (some ⟨g, 0, none⟩) n cap, .slice (some ⟨gv, 0, none⟩) 1 vc]).run Tryz.prog w = _ := fun ty =>
    run_append_grow_src w _ 28 ty _ i _ hu hi hz0 _ n cap _ hold _ 1 vs hsrc hn (by omega) (by rw [hz2]; exact growslice_fits hn (by omega))
  go_enter Tryz.func52, Tryz.ntmps52
  go_wp2_with (at_builtin; refine Lib.wpList_append_run _ rfl _ _ _ _ rfl _ _ rfl rfl _ _ (hrun _) ?_)
  all_goals (go_ret; exact ⟨rfl, rfl⟩)
set_option maxHeartbeats 4000000 in
set_option maxRecDepth 100000 in
theorem ins_shift (g n i cap gv vc : Nat) (cur cv : Array Value) (e ev : TypeId) (vs : List Value) (w : World) (hi : i < n) (hg : w.heap[g]? = some (.cells cur e (0, 0))) (hv : w.heap[gv]? = some (.cells cv ev (0, 0))) (hne : gv ≠ g) (hvl : vs.length = 4) (hvs : ∀ (j : Nat) (v : Value), vs[j]? = some v → cv.toList[0 + j]? = some v)
    (hsz : cur.size = cap * 4) (hn : n + 1 ≤ cap) (h1v : ∀ v ∈ vs, v.oneCell' = true) (h1c : ∀ v ∈ cur.toList.take (n * 4), v.oneCell' = true) (hm : cap ≤ 9223372036854775807) (hnm : n ≤ 4194304) :
    Calls Tryz.prog 52 #[.slice (some ⟨g, 0, none⟩) n cap, .int .i64 i, .slice (some ⟨gv, 0, none⟩) 1 vc] w fun x w' => x = .returned (.slice (some ⟨g, 0, none⟩) (n + 1) cap) ∧
      w' = (w.drew.setRow g (rowAt cur ((i + 1) * 4) ((cur.toList.take (n * 4)).drop (i * 4)))).setRow g (rowAt (rowAt cur ((i + 1) * 4) ((cur.toList.take (n * 4)).drop (i * 4))) (i * 4) vs) := by
  have hu := Tryz.underlying28
  have u28 := run_underlying Tryz.underlying28
  have hs := en_sizeOf
  have mixed : Tryz.prog.follows .mixedOrders = true := by kernel_rfl
  obtain ⟨cs, hcs⟩ : ∃ cs, cs = (cur.toList.take (n * 4)).drop (i * 4) := ⟨_, rfl⟩
  rw [← hcs]
  have hcl : cs.length = (n - i) * 4 := by rw [hcs]; simp; omega
  have hget : ∀ (j : Nat) (v : Value), cs[j]? = some v → cur.toList[i * 4 + j]? = some v := fun j v h => by
    rw [hcs, List.getElem?_drop, List.getElem?_take] at h
    split at h
    · exact h
    · cases h
  have h1cs : ∀ v ∈ cs, v.oneCell' = true := fun v h => h1c v (by rw [hcs] at h; exact List.mem_of_mem_drop h)
  obtain ⟨c1, hc1⟩ : ∃ c1, c1 = rowAt cur ((i + 1) * 4) cs := ⟨_, rfl⟩
  have hc1s : c1.size = cap * 4 := by rw [hc1, rowAt_size (by rw [hcl]; omega), hsz]
  rw [← hc1]
  have hcp1 : ∀ ty dc sc, (Builtin.copy_ #[28, 28] ty #[.slice (some ⟨g, (i + 1) * 4, none⟩) (n - i) dc, .slice (some ⟨g, i * 4, none⟩) (n + 1 - i) sc]).run Tryz.prog w.drew = .ok (goInt (Nat.min (n + 1 - i) (n - i))) (w.drew.setRow g c1) := fun ty dc sc => by
    rw [hc1]
    exact run_copy_row w.drew _ _ ty 46 g ((i + 1) * 4) (n - i) dc ⟨g, i * 4, none⟩ (n + 1 - i) sc 4 cs hu en_size (by rw [hcl]; simp only [Nat.min_def]; split <;> omega)
      (fun j v hj => cell_row (w := w.drew) hg hget hj) hg (by rw [hcl]; omega) h1cs
  have hg1 : (w.drew.setRow g c1).heap[g]? = some (.cells c1 e (0, 0)) := setRow_heap w.drew g cur c1 e (0, 0) hg
  have hv1 : (w.drew.setRow g c1).heap[gv]? = some (.cells cv ev (0, 0)) := (setRow_other w.drew g gv c1 hne).trans hv
  have hcp2 : ∀ (W : World), W.heap = (w.drew.setRow g c1).heap → ∀ ty dc, (Builtin.copy_ #[28, 28] ty #[.slice (some ⟨g, i * 4, none⟩) (n + 1 - i) dc, .slice (some ⟨gv, 0, none⟩) 1 vc]).run Tryz.prog W = .ok (goInt (Nat.min 1 (n + 1 - i))) (W.setRow g (rowAt c1 (i * 4) vs)) := fun W hW ty dc =>
    run_copy_row W _ _ ty 46 g (i * 4) (n + 1 - i) dc ⟨gv, 0, none⟩ 1 vc 4 vs hu en_size (by rw [hvl]; simp only [Nat.min_def]; split <;> omega)
      (fun j v hj => cell_row (by rw [hW]; exact hv1) hvs hj) (by rw [hW]; exact hg1) (by rw [hvl]; omega) h1v
  have hov : ∀ o lb cb, (callFunc 66 #[.slice (some ⟨gv, 0, none⟩) 1 vc, .slice (some ⟨g, o, none⟩) lb cb]).run Tryz.prog w = .ok (.value (.bool false)) w := fun o lb cb => by
    rw [run_callFunc_extern Tryz.func66 (by kernel_rfl) (by kernel_rfl) (by kernel_rfl) (e := Extern.SlicesOverlaps.overlaps #[28, 28] #[4]) (by kernel_rfl),
      Lib.run_overlaps_apart w 28 4 46 hu 4 hs ⟨gv, 0, none⟩ ⟨g, o, none⟩ 1 vc lb cb hne ev e cv.size cur.size (by simp [World.shape?, hv]) (by simp [World.shape?, hg]) (by omega) (by simp [World.frozen?, hv]) (by simp [World.frozen?, hv])]
    rfl
  have hz2 : ¬ ((i : Int) = (n : Int)) := by omega
  have hw1 : IntKind.i64.wrap ((i : Int) + 1) = (i : Int) + 1 := by rw [IntKind.wrap_i64]; omega
  have hw2 : IntKind.i64.wrap ((n : Int) + 1) = (n : Int) + 1 := by rw [IntKind.wrap_i64]; omega
  have hb1 : (0 : Int) ≤ (i : Int) + 1 := by omega
  have hin : i ≤ n := by omega
  have htn : ((i : Int) + 1).toNat = i + 1 := by omega
  have htm : ((n : Int) + 1).toNat = n + 1 := by omega
  have hb2 : ¬ (cap = i + 1) := by omega
  have hb3 : (i : Int) ≤ (n : Int) + 1 := by omega
  have hb4 : ¬ (cap = i) := by omega
  go_enter Tryz.func52, Tryz.ntmps52
  go_wp2_with (simp only [hov])
  go_region_law_o (refine step_copy_run rfl _ _ 28 28 rfl _ _ (by simp [Act.eval, Act.put]) (by simp [Act.eval, Act.put]) (hcp1 _ _ _) ?_)
  go_wp2_with (at_builtin; refine wpList_copy_run _ rfl _ _ 28 28 rfl _ _ rfl rfl (hcp2 _ rfl _ _) ?_)
  go_ret
  exact ⟨rfl, by rw [hc1, hcs]⟩
set_option maxHeartbeats 4000000 in
set_option maxRecDepth 100000 in
theorem ins_grow (g n i cap gv vc : Nat) (cur cv : Array Value) (e ev : TypeId) (vs : List Value) (w : World) (hi : i < n) (hg : w.heap[g]? = some (.cells cur e (0, 0))) (hv : w.heap[gv]? = some (.cells cv ev (0, 0))) (hvl : vs.length = 4) (hvs : ∀ (j : Nat) (v : Value), vs[j]? = some v → cv.toList[0 + j]? = some v)
    (hsz : cur.size = cap * 4) (hnc : n ≤ cap) (hn : cap < n + 1) (h1v : ∀ v ∈ vs, v.oneCell' = true) (h1c : ∀ v ∈ cur.toList.take (n * 4), v.oneCell' = true) (hnm : n ≤ 4194304) :
    Calls Tryz.prog 52 #[.slice (some ⟨g, 0, none⟩) n cap, .int .i64 i, .slice (some ⟨gv, 0, none⟩) 1 vc] w fun x w' => ∃ ROW c1 : Array Value, ROW = (cur.toList.take (i * 4)).toArray ++ zcE (n + 1 - i) ++ zcE (grownCap w (n + 1) cap 46 - (n + 1)) ∧ c1 = rowAt ROW (i * 4) vs ∧
      x = .returned (.slice (some ⟨w.heap.size, 0, none⟩) (n + 1) (grownCap w (n + 1) cap 46)) ∧
      w' = (((w.alloc (.cells ROW 46)).drew.setRow w.heap.size c1).drew).setRow w.heap.size (rowAt c1 ((i + 1) * 4) ((cur.toList.take (n * 4)).drop (i * 4))) := by
  obtain ⟨I, hI, hz0, hz1, hz2⟩ := info_parts en_info
  have hu := Tryz.underlying28
  have u28 := run_underlying Tryz.underlying28
  have hs := en_sizeOf
  have mixed : Tryz.prog.follows .mixedOrders = true := by kernel_rfl
  have hgl : g < w.heap.size := (Array.getElem?_eq_some_iff.1 hg).1
  have hvlt : gv < w.heap.size := (Array.getElem?_eq_some_iff.1 hv).1
  obtain ⟨cs, hcs⟩ : ∃ cs, cs = (cur.toList.take (n * 4)).drop (i * 4) := ⟨_, rfl⟩
  rw [← hcs]
  have hcl : cs.length = (n - i) * 4 := by rw [hcs]; simp; omega
  have hget : ∀ (j : Nat) (v : Value), cs[j]? = some v → cur.toList[i * 4 + j]? = some v := fun j v h => by
    rw [hcs, List.getElem?_drop, List.getElem?_take] at h
    split at h
    · exact h
    · cases h
  have h1cs : ∀ v ∈ cs, v.oneCell' = true := fun v h => h1c v (by rw [hcs] at h; exact List.mem_of_mem_drop h)
  have hold : (Builtin.firstCells I.size i (.slice (some ⟨g, 0, none⟩) i cap)).run Tryz.prog w.drew = .ok (cur.toList.take (i * 4)).toArray w.drew := by
    rw [hz1]; exact first_run hg (by omega)
  have hik : i + (n + 1 - i) = n + 1 := by omega
  have hkk : (n : Int) + 1 - (i : Int) = ((n + 1 - i : Nat) : Int) := by omega
  obtain ⟨G, hG⟩ : ∃ G, G = grownCap w (n + 1) cap 46 := ⟨_, rfl⟩
  rw [← hG]
  have hGn : n + 1 ≤ G := by rw [hG]; exact grownCap_ge w _ _ _
  have hG63 : G ≤ 9223372036854775807 := by
    have := grownCap_le_maxLen w (n + 1) cap 46 (by unfold maxLen; omega)
    rw [← hG] at this
    unfold maxLen at this
    omega
  obtain ⟨ROW, hROW⟩ : ∃ ROW : Array Value, ROW = (cur.toList.take (i * 4)).toArray ++ zcE (n + 1 - i) ++ zcE (G - (n + 1)) := ⟨_, rfl⟩
  have hrz : ∀ ty, (Builtin.append_ #[28, 3] ty #[.slice (some ⟨g, 0, none⟩) i cap, .int .i64 ((n : Int) + 1 - (i : Int))]).run Tryz.prog w =
      .ok (.slice (some ⟨w.heap.size, 0, none⟩) (n + 1) G) (w.drew.alloc (.cells ROW 46)) := fun ty => by
    have h := Lib.run_append_grow_zeros w 28 3 ty 46 I _ .i64 .i64 hu Tryz.underlying3 hI hz0 (some ⟨g, 0, none⟩) i cap (cur.toList.take (i * 4)) hold (n + 1 - i) (by omega) (by omega) (by omega) (by omega) (by rw [hz2]; omega) (by rw [hz2, hik]; exact growslice_fits hn (by omega))
    rw [hik] at h
    rw [hkk, hROW, hG]
    exact h
  have hRs : ROW.size = G * 4 := by
    rw [hROW]
    simp only [Array.size_append, List.size_toArray, List.length_take, Array.length_toList]
    unfold zcE
    rw [zc_size, zc_size]
    omega
  obtain ⟨c1, hc1⟩ : ∃ c1, c1 = rowAt ROW (i * 4) vs := ⟨_, rfl⟩
  have hc1s : c1.size = G * 4 := by rw [hc1, rowAt_size (by rw [hvl]; omega), hRs]
  have hrowH : ∀ W : World, W.heap = (w.alloc (.cells ROW 46)).heap → W.heap[w.heap.size]? = some (.cells ROW 46 (0, 0)) ∧ W.heap[g]? = some (.cells cur e (0, 0)) ∧ W.heap[gv]? = some (.cells cv ev (0, 0)) := fun W hW => by
    rw [hW]
    have h1 : (w.alloc (.cells ROW 46)).heap = w.heap.push (.cells ROW 46 (0, 0)) := rfl
    rw [h1]
    refine ⟨Array.getElem?_push_size, ?_, ?_⟩
    · rw [Array.getElem?_push, if_neg (by omega)]; exact hg
    · rw [Array.getElem?_push, if_neg (by omega)]; exact hv
  have hcpA : ∀ W : World, W.heap = (w.alloc (.cells ROW 46)).heap → ∀ ty dc, (Builtin.copy_ #[28, 28] ty #[.slice (some ⟨w.heap.size, i * 4, none⟩) (n + 1 - i) dc, .slice (some ⟨gv, 0, none⟩) 1 vc]).run Tryz.prog W = .ok (goInt (Nat.min 1 (n + 1 - i))) (W.setRow w.heap.size c1) := fun W hW ty dc => by
    rw [hc1]
    exact run_copy_row W _ _ ty 46 w.heap.size (i * 4) (n + 1 - i) dc ⟨gv, 0, none⟩ 1 vc 4 vs hu en_size (by rw [hvl]; simp only [Nat.min_def]; split <;> omega)
      (fun j v hj => cell_row (hrowH W hW).2.2 hvs hj) (hrowH W hW).1 (by rw [hvl]; omega) h1v
  have hcpB : ∀ W : World, W.heap = ((w.alloc (.cells ROW 46)).setRow w.heap.size c1).heap → ∀ ty dc sc, (Builtin.copy_ #[28, 28] ty #[.slice (some ⟨w.heap.size, (i + 1) * 4, none⟩) (n - i) dc, .slice (some ⟨g, i * 4, none⟩) (n - i) sc]).run Tryz.prog W = .ok (goInt (Nat.min (n - i) (n - i))) (W.setRow w.heap.size (rowAt c1 ((i + 1) * 4) cs)) := fun W hW ty dc sc => by
    obtain ⟨a1, a2, a3⟩ := hrowH (w.alloc (.cells ROW 46)) rfl
    have b1 : W.heap[w.heap.size]? = some (.cells c1 46 (0, 0)) := by rw [hW]; exact setRow_heap _ _ _ _ _ _ a1
    have b2 : W.heap[g]? = some (.cells cur e (0, 0)) := by rw [hW]; exact (setRow_other _ _ _ _ (by omega)).trans a2
    exact run_copy_row W _ _ ty 46 w.heap.size ((i + 1) * 4) (n - i) dc ⟨g, i * 4, none⟩ (n - i) sc 4 cs hu en_size (by rw [hcl]; simp only [Nat.min_def]; split <;> omega)
      (fun j v hj => cell_row b2 hget hj) b1 (by rw [hcl]; omega) h1cs
  have hz2' : ¬ ((i : Int) = (n : Int)) := by omega
  have hz3 : (cap : Int) < (n : Int) + 1 := by omega
  have hw1 : IntKind.i64.wrap ((i : Int) + 1) = (i : Int) + 1 := by rw [IntKind.wrap_i64]; omega
  have hw2 : IntKind.i64.wrap ((n : Int) + 1) = (n : Int) + 1 := by rw [IntKind.wrap_i64]; omega
  have hw3 : IntKind.i64.wrap ((n : Int) + 1 - (i : Int)) = (n : Int) + 1 - (i : Int) := by rw [IntKind.wrap_i64]; omega
  have hb1 : (0 : Int) ≤ (i : Int) + 1 := by omega
  have hin : i ≤ n := by omega
  have htn : ((i : Int) + 1).toNat = i + 1 := by omega
  have hb3 : (i : Int) ≤ (n : Int) := by omega
  have hGi : ¬ (G = i) := by omega
  have hGim : ¬ (G = i + 1) := by omega
  have hci : ¬ (cap = i) := by omega
  have XR : Off (ROW = (cur.toList.take (i * 4)).toArray ++ zcE (n + 1 - i) ++ zcE (G - (n + 1))) := ⟨hROW⟩
  have XC : Off (c1 = rowAt ROW (i * 4) vs) := ⟨hc1⟩
  have XS : Off (cs = (cur.toList.take (n * 4)).drop (i * 4)) := ⟨hcs⟩
  clear hkk hik hold hG hRs hc1s hROW hc1 hcs
  have hE : ((w.alloc (.cells ROW 46)).drew).heap = (w.alloc (.cells ROW 46)).heap := rfl
  have hF : (((w.alloc (.cells ROW 46)).drew.setRow w.heap.size c1).drew).heap = ((w.alloc (.cells ROW 46)).setRow w.heap.size c1).heap := rfl
  go_enter Tryz.func52, Tryz.ntmps52
  go_wp2_with (first
    | (at_builtin; refine Lib.wpList_append_run _ rfl _ _ _ _ rfl _ _ rfl rfl _ _ (hrz _) ?_)
    | (at_builtin; refine wpList_copy_run _ rfl _ _ 28 28 rfl _ _ rfl rfl (hcpA _ hE _ _) ?_)
    | fail)
  go_region_law_o (refine step_copy_run rfl _ _ 28 28 rfl (.slice (some ⟨w.heap.size, (i + 1) * 4, none⟩) (n - i) (G - (i + 1))) (.slice (some ⟨g, i * 4, none⟩) (n - i) (cap - i)) (by simp [Act.eval, Act.put]) (by simp [Act.eval, Act.put]) (hcpB _ hF 3 (G - (i + 1)) (cap - i)) ?_)
  go_wp2
  go_ret
  exact ⟨_, _, XR.out, XC.out, rfl, rfl⟩
end Go.Proofs.YtianekkfehoedaaGreatDoor
namespace Go.Proofs.YtianekkfehoedaaGreatDoor
set_option linter.unusedSimpArgs false
set_option linter.unusedVariables false
set_option linter.unnecessarySimpa false
open Go.RowKit Go.Lib
theorem R.toMineF {C : Cf} {id : Nat} {v : Value} (h : R C (.sl [] .full) v) {e : TypeId} {z : Nat} (hf : C.st id = .free) : R (C.ghost id e z 0) (.sl [] (.mine id)) v := by
  cases h with
  | @sl _ _ a cap z' u hc hm hzs h0 hr hk =>
    have hk : cap = 0 := hk
    subst hk
    exact .sl (z := z) (u := u) (Nat.le_refl _) hm (fun i hi => absurd hi (Nat.not_lt_zero i)) (fun i hi => absurd hi (Nat.not_lt_zero i)) (fun i hi => absurd hi (Nat.not_lt_zero i)) ⟨e, 0, by simp [Cf.ghost, upd], Nat.le_refl _, fun _ => .inl ⟨rfl, by simp [Cf.ghost], rfl⟩⟩
open Classical in
theorem step_append_new {P : Program} {o : Oper} {ev : Operand → V} {s x : Operand} {t tx e e2 : TypeId} {ys : List V} {k : Slk} {id z : Nat} (ho : o.op = .call { callee := .builtin .append, args := #[s, x], argTypes := #[t, tx] }) (hsx : s ≠ x) (hs : ev s = .sl [] .full) (ht : elOf P t = some e)
    (hx : ev x = .sl ys k) (hx2 : elOf P tx = some e2) (hz : allZ z ys = true) (hap : apOk P e 0 ys.length = some z) :
    Step P o ev [(id, .free)] ⟨.sl ys (.mine id), [(id, .tip e z ys.length)]⟩ := by
  intro C ρ hC hR hf
  have hst : C.st id = .free := hf (id, .free) (by simp)
  have h1 := hR s (by simp [ho, Op.operands, Call.operands])
  rw [hs] at h1
  have hstep := step_append_mine (P := P) (o := o) (ev := fun y => if y = s then .sl [] (.mine id) else ev y) (s := s) (x := x) (t := t) (tx := tx) (e := e) (es := []) (ys := ys) (id := id) (n := 0) (z := z) ho (by simp) ht (.inl ⟨k, e2, by rw [if_neg (Ne.symm hsx)]; exact hx, hx2, hz⟩) rfl hap
    (C.ghost id e z 0) ρ (hC.ghost hst) (fun y hy => by
      by_cases hys : y = s
      · subst hys
        show R _ (if y = y then _ else _) _
        rw [if_pos rfl]
        exact R.toMineF h1 hst
      · show R _ (if y = s then _ else _) _
        rw [if_neg hys]
        exact (hR y hy).mono (Ev.ghost hst)) (fun p hp => by
      have : p = (id, .tip e z 0) := by simpa using hp
      subst this
      simp [Cf.ghost, upd])
  have key : ∀ {w : World} {v : Value}, Good (C.ghost id e z 0) (wrs (C.ghost id e z 0).st [(id, .tip e z (0 + ys.length))]) (.sl ([] ++ ys) (.mine id)) w v → Good C (wrs C.st [(id, .tip e z ys.length)]) (.sl ys (.mine id)) w v := by
    rintro w v ⟨D, q1, q2, q3, q4, q5⟩
    rw [Nat.zero_add] at q2
    refine ⟨D, q1, q2.trans ?_, q3, (Ev.ghost hst).trans q4, q5⟩
    funext j
    simp only [wrs, upd, Cf.ghost]
    split <;> rfl
  have e1 : (C.ghost id e z 0).w = C.w := rfl
  rw [e1] at hstep
  generalize (execOp ρ o).run P C.w = r at hstep ⊢
  split at hstep
  · exact key hstep
  · exact key hstep
  · refine Calls.mono hstep ?_
    rintro e w'' ⟨v, rfl, h2⟩
    exact ⟨v, rfl, key h2⟩
  · exact hstep.elim
theorem AR.appM {P : Program} {N : Nat} {ops : Array Oper} {dr : Bool} {Q : St → Prop} {d : Option Tmp} {s0 x : Operand} {t tx e e2 ty : TypeId} {pos : String} {af : Array Edge} {g : Option (Nat × Bool)} {os : List Oper} {k : Nat} {s : List (Nat × V)} {l : List Ent}
    {acc : List (Nat × List Nat × List Nat)} {ys : List V} {kk : Slk} {z : Nat} (hsx : s0 ≠ x) (hg : gd ops ⟨d, .call { callee := .builtin .append, args := #[s0, x], argTypes := #[t, tx] }, ty, pos, af, g⟩ ⟨dn N s, ofl l⟩ = some true) (hs : St.ev ⟨dn N s, ofl l⟩ s0 = .sl [] .full) (ht : elOf P t = some e)
    (hx : St.ev ⟨dn N s, ofl l⟩ x = .sl ys kk) (hx2 : elOf P tx = some e2) (hz : allZ z ys = true) (hap : apOk P e 0 ys.length = some z)
    (hn : AR P ops dr Q os (k + 1) ⟨dn N (putA s d (.sl ys (.mine l.length))), ofl (wrl l [(l.length, .tip e z ys.length)])⟩ ((k, [l.length], [l.length]) :: acc)) :
    AR P ops dr Q (⟨d, .call { callee := .builtin .append, args := #[s0, x], argTypes := #[t, tx] }, ty, pos, af, g⟩ :: os) k ⟨dn N s, ofl l⟩ acc := by
  refine .inr (.inl ⟨hg, _, _, step_append_new (id := l.length) rfl hsx hs ht hx hx2 hz hap, fun p hp => ?_, ?_⟩)
  · simp only [List.mem_singleton] at hp
    subst hp
    simp [ofl, List.getD]
  · rw [ofl_wrl, ← put_dn N s (ofl l)] at hn
    exact hn
/-- One operation, in whatever region. -/
theorem AR.oneD {P : Program} {N : Nat} {ops : Array Oper} {dr : Bool} {Q : St → Prop} {o : Oper} {os : List Oper} {k : Nat} {s : List (Nat × V)} {l : List Ent} {acc : List (Nat × List Nat × List Nat)} {v : V} {fp wr : List (Nat × Ent)} {s' : List (Nat × V)} {l' : List Ent} (hg : gd ops o ⟨dn N s, ofl l⟩ = some true) (he : evO P true o (St.ev ⟨dn N s, ofl l⟩) l = some (v, fp, wr))
    (hs : putA s o.dst v = s') (hl : wrl l wr = l') (hn : AR P ops dr Q os (k + 1) ⟨dn N s', ofl l'⟩ ((k, fp.map Prod.fst, wr.map Prod.fst) :: acc)) : AR P ops dr Q (o :: os) k ⟨dn N s, ofl l⟩ acc := by
  subst hs hl
  obtain ⟨h1, h2⟩ := evO_sound rfl he
  refine .inr (.inl ⟨hg, fp, ⟨v, wr⟩, h1, h2, ?_⟩)
  rw [ofl_wrl, ← put_dn N s (ofl l)] at hn
  exact hn
theorem step_build_box {P : Program} {o : Oper} {ev : Operand → V} {t e : TypeId} {z n id : Nat} {cs : List V} {parts : Array (Nat × Operand)} (ho : o.op = .buildSlice t n parts) (he : elOf P t = some e) (hz : szOf P e = some z) (hal : alOf P e = some cs) (hn : n * z ≤ 16777216) (hz0 : 0 < z)
    (hp : partsOk ev z n 0 parts.toList = true) : Step P o ev [(id, .free)] ⟨.bs id n, [(id, .box (flatV (parts.toList.map fun p => ev p.2)))]⟩ := by
  intro C ρ hC hR hf
  have hst : C.st id = .free := hf (id, .free) (by simp)
  obtain ⟨p1, p2, p3⟩ := partsOk_spec _ _ hp
  simp only [Nat.zero_add] at p1
  have hop : ∀ p ∈ parts.toList, R C (ev p.2) (ρ p.2) := fun p hp => hR p.2 (by simp only [ho, Op.operands]; simpa using ⟨p.1, by simpa using hp⟩)
  obtain ⟨zv, hzv, hrc⟩ := zero_RC (C := C) hal
  have hel := elOf_spec he
  generalize hzs : ((Array.range (n * z)).map fun i => zv.cells[i % zv.cells.size]!) = zs
  have hzsz : zs.size = n * z := by rw [← hzs]; simp
  have hlen : (parts.toList.map fun p => ρ p.2).length = n := by simpa using p1
  obtain ⟨bs, k1, k2, _, k4⟩ := fill_slice (z := z) (parts.toList.map fun p => ρ p.2) 0 zs (fun v hv => by
    obtain ⟨p, hp, rfl⟩ := List.mem_map.1 hv
    exact ((hop p hp).live (p3 p hp).1).1.trans (p3 p hp).2) (by rw [hlen, hzsz]; simp)
  have hmp : (parts.map fun (i, x) => (i, ρ x)).toList = (List.range' 0 (parts.toList.map fun p => ρ p.2).length).zip (parts.toList.map fun p => ρ p.2) := by
    have e2 : (parts.map fun (i, x) => (i, ρ x)).toList = parts.toList.map fun p => (p.1, ρ p.2) := by simp
    rw [e2, List.length_map, ← p2]
    rw [List.zip_map']
  have hzero : (if n * z = 0 then (pure #[] : Sem (Array Value)) else do pure (← zeroValue e).cells).run P C.w = .ok (if n * z = 0 then #[] else zv.cells) C.w := by
    split
    · rfl
    · simp only [Sem.run_bind, run_zeroValue hzv, Result.andThen_ok, Sem.run_pure]
  have hzs' : ((Array.range (n * z)).map fun i => (if n * z = 0 then #[] else zv.cells)[i % (if n * z = 0 then #[] else zv.cells).size]!) = zs := by
    rw [← hzs]
    by_cases h0 : n * z = 0
    · simp [h0]
    · simp [h0]
  have hlt : ¬ n * z > 2 ^ 24 := by omega
  have hrun : (execOp ρ o).run P C.w = .ok (.value (.slice (some ⟨C.w.heap.size, 0, none⟩) n n)) (C.w.alloc (.cells bs e)) := by
    simp only [execOp, ho, Instr.buildSlice, Sem.run_bind, run_underlying hel, Result.andThen_ok, run_sizeOf hz, hlt, if_false, Sem.run_pure, hmp]
    by_cases h0 : n * z = 0
    · simp only [h0, if_true] at hzs'
      simp only [h0, if_true, Sem.run_bind, Sem.run_pure, Result.andThen_ok, hzs', k1]
      rfl
    · simp only [h0, if_false] at hzs'
      simp only [h0, if_false, Sem.run_bind, Sem.run_pure, Result.andThen_ok, run_zeroValue hzv, hzs', k1]
      rfl
  rw [hrun]
  have hel2 : (parts.toList.map fun p => ev p.2).length = n := by simpa using p1
  have hall : allZ z (parts.toList.map fun p => ev p.2) = true := by
    unfold allZ
    rw [List.all_map, List.all_eq_true]
    intro p hp
    have := p3 p hp
    simp [this.1, this.2]
  have hfl := flatV_length hall
  rw [hel2] at hfl
  have hcell : ∀ j (hj : j < (flatV (parts.toList.map fun p => ev p.2)).length), (bs.getD j undef).oneCell' = true ∧ R C (flatV (parts.toList.map fun p => ev p.2))[j] (bs.getD j undef) := fun j hj => by
    have hjn : j < n * z := by rw [← hfl]; exact hj
    have hi : j / z < n := Nat.div_lt_of_lt_mul (by rw [Nat.mul_comm]; exact hjn)
    have hl : j % z < z := Nat.mod_lt _ hz0
    have hje : j / z * z + j % z = j := by rw [Nat.mul_comm]; exact Nat.div_add_mod j z
    generalize j / z = i at hi hje
    generalize j % z = q at hl hje
    subst hje
    have hget := flatV_get hall (by rw [hel2]; exact hi) hl
    have hi2 : i < parts.toList.length := by rw [p1]; exact hi
    have hi3 : i < (parts.toList.map fun p => ρ p.2).length := by rw [hlen]; exact hi
    have hm := List.getElem_mem hi2
    have hk := k4 i hi3 q hl
    rw [Nat.zero_add] at hk
    simp only [List.getElem_map] at hk hget
    obtain ⟨l1, l2⟩ := (hop _ hm).live (p3 _ hm).1
    have hq : q < (ev parts.toList[i].2).cells.length := by have := (p3 _ hm).2; unfold V.size at this; omega
    obtain ⟨c1, c2⟩ := l2 q hq
    rw [List.getElem?_eq_getElem hj, List.getElem?_eq_getElem hq] at hget
    have hget := Option.some.inj hget
    have hbs : bs.getD (i * z + q) undef = (ρ parts.toList[i].2).cells.getD q undef := by
      rw [Array.getD_eq_getD_getElem?, Array.getD_eq_getD_getElem?, hk]
    rw [hget, hbs]
    exact ⟨c1, c2⟩
  have hbox := good_new (id := id) hC hst (bs := bs) (cs := flatV (parts.toList.map fun p => ev p.2)) e (by rw [hfl, k2, hzsz]; exact Nat.le_refl _) (fun j hj => (hcell j hj).1) (fun j hj => (hcell j hj).2)
  obtain ⟨D, d1, d2, d3, d4, d5⟩ := hbox
  refine ⟨D, d1, d2, d3, d4, ?_⟩
  cases d5 with
  | pt q1 q2 => exact .bs q1 q2 (Nat.le_refl _) (by unfold maxLen; have := Nat.le_mul_of_pos_right n hz0; omega)
theorem AR.buildB {P : Program} {N : Nat} {ops : Array Oper} {dr : Bool} {Q : St → Prop} {d : Option Tmp} {t e ty : TypeId} {pos : String} {af : Array Edge} {g : Option (Nat × Bool)} {os : List Oper} {k : Nat} {s : List (Nat × V)} {l : List Ent} {n : Nat} {parts : Array (Nat × Operand)} {cs es : List V}
    {acc : List (Nat × List Nat × List Nat)} {z : Nat} (hg : gd ops ⟨d, .buildSlice t n parts, ty, pos, af, g⟩ ⟨dn N s, ofl l⟩ = some true) (he : elOf P t = some e) (hz : szOf P e = some z) (hal : alOf P e = some cs) (hn0 : n * z ≤ 16777216) (hz0 : 0 < z)
    (hp : partsOk (St.ev ⟨dn N s, ofl l⟩) z n 0 parts.toList = true) (hes : (parts.toList.map fun p => St.ev ⟨dn N s, ofl l⟩ p.2) = es)
    (hn : AR P ops dr Q os (k + 1) ⟨dn N (putA s d (.bs l.length n)), ofl (wrl l [(l.length, .box (flatV es))])⟩ ((k, [l.length], [l.length]) :: acc)) :
    AR P ops dr Q (⟨d, .buildSlice t n parts, ty, pos, af, g⟩ :: os) k ⟨dn N s, ofl l⟩ acc := by
  subst hes
  refine .inr (.inl ⟨hg, _, _, step_build_box (id := l.length) rfl he hz hal hn0 hz0 hp, fun p hp => ?_, ?_⟩)
  · simp only [List.mem_singleton] at hp
    subst hp
    simp [ofl, List.getD]
  · rw [ofl_wrl, ← put_dn N s (ofl l)] at hn
    exact hn
/-- The cells of entries. -/
def imE (e : En) : List Value := [.int .i64 e.kind, .int .i64 e.var, .int .u32 e.addr, .string (bA e.text)]
def imL (l : List En) : List Value := l.flatMap imE
theorem imL_len (l : List En) : (imL l).length = l.length * 4 := by
  induction l with
  | nil => rfl
  | cons e l ih => unfold imL at ih ⊢; rw [List.flatMap_cons, List.length_append, ih]; simp [imE]; omega
theorem imL_one (l : List En) : ∀ v ∈ imL l, v.oneCell' = true := fun v hv => by
  obtain ⟨e, _, he⟩ := List.mem_flatMap.1 hv
  simp only [imE, List.mem_cons, List.not_mem_nil, or_false] at he
  rcases he with rfl | rfl | rfl | rfl <;> rfl
theorem imL_fl (l : List En) : flatV (l.map enV) = (imL l).map V.im := by
  induction l with
  | nil => rfl
  | cons e l ih =>
    unfold flatV imL at ih ⊢
    rw [List.map_cons, List.flatMap_cons, ih, List.flatMap_cons, List.map_append]
    rfl
theorem imL_app (a b : List En) : imL (a ++ b) = imL a ++ imL b := List.flatMap_append
theorem imL_take (l : List En) (i : Nat) (h : i ≤ l.length) : (imL l).take (i * 4) = imL (l.take i) := by
  conv => lhs; rw [← List.take_append_drop i l, imL_app]
  exact List.take_left' (by rw [imL_len, List.length_take]; omega)
theorem imL_drop (l : List En) (i : Nat) (h : i ≤ l.length) : (imL l).drop (i * 4) = imL (l.drop i) := by
  conv => lhs; rw [← List.take_append_drop i l, imL_app]
  exact List.drop_left' (by rw [imL_len, List.length_take]; omega)
/-- A slice of entries in its token's own block. -/
theorem mine_cells {C : Cf} {L : List En} {id : Nat} {v : Value} {e : TypeId} (hR : R C (.sl (L.map enV) (.mine id)) v) (hst : C.st id = .tip e 4 L.length) (h0 : 0 < L.length) :
    ∃ g cur cap, v = .slice (some ⟨g, 0, none⟩) L.length cap ∧ C.σ id = some g ∧ C.w.heap[g]? = some (.cells cur e (0, 0)) ∧ cur.size = cap * 4 ∧ L.length ≤ cap ∧ cap ≤ maxLen ∧ cur.toList.take (L.length * 4) = imL L := by
  cases hR with
  | @sl _ _ ad cap z' us hc hm hzs h1 hr hk =>
    simp only [List.length_map] at hc hzs h1 hr hk ⊢
    obtain ⟨e', n', k1, k2, k3⟩ := hk
    rw [hst] at k1
    cases k1
    rcases k3 rfl with ⟨k0, _⟩ | ⟨g, cur, σg, rfl, hg, hcur⟩
    · omega
    refine ⟨g, cur, cap, rfl, σg, hg, hcur, hc, hm, ?_⟩
    apply List.ext_getElem?
    intro q
    by_cases hq : q < L.length * 4
    · have hi : q / 4 < L.length := by omega
      have hj : q % 4 < 4 := Nat.mod_lt _ (by decide)
      have hqe : q / 4 * 4 + q % 4 = q := by omega
      generalize q / 4 = i at hi hqe
      generalize q % 4 = j at hj hqe
      subst hqe
      have hR1 := h1 i hi
      obtain ⟨ad, e1, hrd⟩ := hr i hi
      cases e1
      rw [List.getElem_map] at hR1
      have hget : (imL L)[i * 4 + j]? = (imE L[i])[j]? := by
        have a1 : L = L.take i ++ L[i] :: L.drop (i + 1) := by rw [List.getElem_cons_drop, List.take_append_drop]
        have a2 : imL L = imL (L.take i) ++ (imE L[i] ++ imL (L.drop (i + 1))) := by
          conv => lhs; rw [a1, imL_app]
          rfl
        have a3 : (imL (L.take i)).length = i * 4 := by rw [imL_len, List.length_take]; omega
        rw [a2, List.getElem?_append_right (by omega), a3, show i * 4 + j - i * 4 = j by omega, List.getElem?_append_left (by simp [imE]; exact hj)]
      rw [hget, List.getElem?_take, if_pos hq]
      generalize us i = U at hR1 hrd
      rw [enV_eq] at hR1
      cases hR1 with
      | @ag _ ua hn ho hcR =>
        have hn : ua.size = 4 := hn
        have hju : ua[j]? = some (ua.getD j undef) := by rw [Array.getD_eq_getD_getElem?, Array.getElem?_eq_getElem (by omega)]; rfl
        have h6 := (hrd j _ hju).1
        rw [Addr.add_lit, Addr.add_lit] at h6
        simp only [World.cell?, hg, Nat.zero_add] at h6
        have h7 : cur.toList[i * 4 + j]? = some (ua.getD j undef) := by simpa using h6
        rw [h7]
        have hl : ∀ (k : Nat) (hk : k < 4) {x : Value}, ([V.im (.int .i64 L[i].kind), V.im (.int .i64 L[i].var), V.im (.int .u32 L[i].addr), V.im (.string (bA L[i].text))] : List V)[k] = .im x → ua.getD k undef = x := fun k hk x hx => by
          have := hcR k hk
          rw [hx] at this
          exact this.im_eq
        match j, hj with
        | 0, _ => rw [hl 0 (by decide) rfl]; rfl
        | 1, _ => rw [hl 1 (by decide) rfl]; rfl
        | 2, _ => rw [hl 2 (by decide) rfl]; rfl
        | 3, _ => rw [hl 3 (by decide) rfl]; rfl
    · rw [List.getElem?_eq_none (by rw [List.length_take]; omega), List.getElem?_eq_none (by rw [imL_len]; omega)]
/-- Entries in a box. -/
theorem box_cells {C : Cf} {L : List En} {id : Nat} {v : Value} (hC : Ok C) (hR : R C (.bs id L.length) v) (hst : C.st id = .box (flatV (L.map enV))) :
    ∃ g cur cap t, v = .slice (some ⟨g, 0, none⟩) L.length cap ∧ C.σ id = some g ∧ C.w.heap[g]? = some (.cells cur t (0, 0)) ∧ L.length ≤ cap ∧ cap ≤ maxLen ∧ cur.toList.take (L.length * 4) = imL L := by
  cases hR with
  | @bs _ _ g cap cs h hb hc hm =>
    obtain ⟨g', cur, t, k1, k2, k3, k4, k5⟩ := hC.box id _ hst
    obtain rfl : g = g' := Option.some.inj (h.symm.trans k1)
    refine ⟨g, cur, cap, t, rfl, h, k2, hc, hm, ?_⟩
    rw [imL_fl] at k3 k4 k5
    simp only [List.length_map, imL_len, List.getElem_map] at k3 k4 k5
    apply List.ext_getElem
    · have q1 : cur.toList.length = cur.size := Array.length_toList
      rw [List.length_take, imL_len, q1]; omega
    intro q h1 h2
    rw [imL_len] at h2
    have := (k5 q h2).im_eq
    rw [List.getElem_take, ← this]
    have hq : q < cur.size := by omega
    simp [hq]
/-- What slices.Insert leaves. -/
def InsP (w w' : World) (g n : Nat) (new : List Value) (r : Value) : Prop :=
  ∃ g' cap' cur' e', r = .slice (some ⟨g', 0, none⟩) (n + 1) cap' ∧ n + 1 ≤ cap' ∧ cap' ≤ maxLen ∧ w'.heap[g']? = some (.cells cur' e' (0, 0)) ∧ (n + 1) * 4 ≤ cur'.size ∧ cur'.toList.take ((n + 1) * 4) = new ∧ (g' = g ∨ w.heap.size ≤ g') ∧
    (∀ b, b < w.heap.size → b ≠ g → w'.heap[b]? = w.heap[b]?) ∧ w'.os = w.os ∧ w'.tape = w.tape ∧ w'.output = w.output ∧ w.heap.size ≤ w'.heap.size
theorem rowAt_take {cur : Array Value} {o : Nat} {vs : List Value} (h : o ≤ cur.size) : (rowAt cur o vs).toList.take (o + vs.length) = cur.toList.take o ++ vs := by
  unfold rowAt
  exact List.take_left' (by simp; omega)
theorem ins_run (g n i cap gv vc : Nat) (cur cv : Array Value) (e ev : TypeId) (old vs : List Value) (w : World) (hi : i ≤ n) (hg : w.heap[g]? = some (.cells cur e (0, 0))) (hv : w.heap[gv]? = some (.cells cv ev (0, 0))) (hne : gv ≠ g) (hvl : vs.length = 4) (hvs : cv.toList.take 4 = vs)
    (hsz : cur.size = cap * 4) (hnc : n ≤ cap) (hold : cur.toList.take (n * 4) = old) (h1v : ∀ v ∈ vs, v.oneCell' = true) (h1c : ∀ v ∈ old, v.oneCell' = true) (hm : cap ≤ maxLen) (hnm : n ≤ 4194304) :
    Calls Tryz.prog 52 #[.slice (some ⟨g, 0, none⟩) n cap, .int .i64 i, .slice (some ⟨gv, 0, none⟩) 1 vc] w fun x w' => ∃ r, x = .returned r ∧ InsP w w' g n (old.take (i * 4) ++ vs ++ old.drop (i * 4)) r := by
  have hvs' : ∀ (j : Nat) (v : Value), vs[j]? = some v → cv.toList[0 + j]? = some v := fun j v h => by
    rw [← hvs, List.getElem?_take] at h
    split at h
    · rw [Nat.zero_add]; exact h
    · cases h
  have hgl : g < w.heap.size := (Array.getElem?_eq_some_iff.1 hg).1
  have hm' : cap ≤ 9223372036854775807 := by unfold maxLen at hm; omega
  have hol : old.length = n * 4 := by rw [← hold]; simp; omega
  rcases Nat.lt_or_ge i n with hin | hin
  · have e1 : cur.toList.take (i * 4) = old.take (i * 4) := by rw [← hold, List.take_take, Nat.min_eq_left (by omega)]
    rcases Nat.lt_or_ge cap (n + 1) with hroom | hroom
    · refine (ins_grow g n i cap gv vc cur cv e ev vs w hin hg hv hvl hvs' hsz hnc hroom h1v (by rw [hold]; exact h1c) hnm).mono ?_
      rintro x w' ⟨ROW, c1, hR, hc, rfl, rfl⟩
      rw [hold]
      have hG := grownCap_ge w (n + 1) cap 46
      have hG2 := grownCap_le_maxLen w (n + 1) cap 46 (by unfold maxLen; omega)
      generalize grownCap w (n + 1) cap 46 = G at hR hG hG2 ⊢
      have hRs : ROW.size = G * 4 := by
        rw [hR]
        simp only [Array.size_append, List.size_toArray, List.length_take, Array.length_toList]
        unfold zcE
        rw [zc_size, zc_size]
        omega
      have hR1 : ROW.toList.take (i * 4) = old.take (i * 4) := by
        rw [hR, ← e1]
        simp only [Array.toList_append, List.append_assoc]
        exact List.take_left' (by simp; omega)
      have hc1s : c1.size = G * 4 := by rw [hc, rowAt_size (by rw [hvl]; omega), hRs]
      have hd : (old.drop (i * 4)).length = (n - i) * 4 := by rw [List.length_drop]; omega
      have hc1t : c1.toList.take ((i + 1) * 4) = old.take (i * 4) ++ vs := by
        have := rowAt_take (cur := ROW) (o := i * 4) (vs := vs) (by omega)
        rw [hvl, ← hc, hR1] at this
        rw [show (i + 1) * 4 = i * 4 + 4 by omega]
        exact this
      have hrow : (w.alloc (.cells ROW 46)).heap[w.heap.size]? = some (.cells ROW 46 (0, 0)) := Array.getElem?_push_size
      refine ⟨_, rfl, w.heap.size, G, rowAt c1 ((i + 1) * 4) (old.drop (i * 4)), 46, rfl, hG, hG2, ?_, ?_, ?_, .inr (Nat.le_refl _), fun b hb hbg => ?_, rfl, rfl, rfl, ?_⟩
      · refine setRow_heap _ _ c1 _ _ _ ?_
        exact setRow_heap _ _ ROW _ _ _ hrow
      · rw [rowAt_size (by rw [hd]; omega), hc1s]; omega
      · have := rowAt_take (cur := c1) (o := (i + 1) * 4) (vs := old.drop (i * 4)) (by omega)
        rw [hd, hc1t] at this
        rw [show (n + 1) * 4 = (i + 1) * 4 + (n - i) * 4 by omega]
        exact this
      · refine (setRow_other _ _ _ _ (by omega)).trans ?_
        refine (setRow_other (w.alloc (.cells ROW 46)).drew _ _ _ (by omega)).trans ?_
        exact heap_alloc_old _ _ hb
      · rw [size_setRow]
        show w.heap.size ≤ (World.setRow _ _ _).heap.size
        rw [size_setRow]
        show w.heap.size ≤ (w.heap.push _).size
        rw [Array.size_push]; omega
    · refine (ins_shift g n i cap gv vc cur cv e ev vs w hin hg hv hne hvl hvs' hsz hroom h1v (by rw [hold]; exact h1c) hm' hnm).mono ?_
      rintro x w' ⟨rfl, rfl⟩
      rw [hold]
      have hd : (old.drop (i * 4)).length = (n - i) * 4 := by rw [List.length_drop]; omega
      obtain ⟨c1, hc⟩ : ∃ c1, c1 = rowAt cur ((i + 1) * 4) (old.drop (i * 4)) := ⟨_, rfl⟩
      rw [← hc]
      have hc1s : c1.size = cap * 4 := by rw [hc, rowAt_size (by rw [hd]; omega), hsz]
      refine ⟨_, rfl, g, cap, rowAt c1 (i * 4) vs, e, rfl, hroom, hm, ?_, ?_, ?_, .inl rfl, fun b hb hbg => ?_, rfl, rfl, rfl, ?_⟩
      · exact setRow_heap _ _ c1 _ _ _ (setRow_heap w.drew _ cur _ _ _ hg)
      · rw [rowAt_size (by rw [hvl]; omega), hc1s]; omega
      · have a1 : c1.toList.take (i * 4) = old.take (i * 4) := by
          rw [hc, ← e1]
          unfold rowAt
          rw [List.append_assoc, List.take_append_of_le_length (by simp; omega), List.take_take, Nat.min_eq_left (by omega)]
        have a2 : (c1.toList.drop ((i + 1) * 4)).take ((n - i) * 4) = old.drop (i * 4) := by
          rw [hc]
          unfold rowAt
          rw [List.append_assoc, List.drop_left' (by simp; omega)]
          exact List.take_left' hd
        unfold rowAt
        rw [a1, hvl, show i * 4 + 4 = (i + 1) * 4 by omega, show (n + 1) * 4 = (old.take (i * 4) ++ vs).length + (n - i) * 4 by simp [hol, hvl]; omega, List.take_length_add_append, a2]
      · exact (setRow_other _ _ _ _ hbg).trans (setRow_other w.drew _ _ _ hbg)
      · rw [size_setRow, size_setRow]; exact Nat.le_refl _
  · obtain rfl : i = n := by omega
    have e1 : old.take (i * 4) = old := List.take_of_length_le (by omega)
    have e2 : old.drop (i * 4) = [] := List.drop_of_length_le (by omega)
    rw [e1, e2, List.append_nil]
    rcases Nat.lt_or_ge cap (i + 1) with hroom | hroom
    · refine (ins_end_grow g i cap gv vc cur cv e ev vs w hg hv hvl hvs' hsz hnc hroom h1v hnm).mono ?_
      rintro x w' ⟨rfl, rfl⟩
      rw [hold]
      have hG := grownCap_ge w (i + 1) cap 46
      have hG2 := grownCap_le_maxLen w (i + 1) cap 46 (by unfold maxLen; omega)
      generalize grownCap w (i + 1) cap 46 = G at hG hG2 ⊢
      refine ⟨_, rfl, w.heap.size, G, _, 46, rfl, hG, hG2, Array.getElem?_push_size, ?_, ?_, .inr (Nat.le_refl _), fun b hb hbg => heap_alloc_old _ _ hb, rfl, rfl, rfl, ?_⟩
      · simp only [Array.size_append, List.size_toArray, List.length_append, hol, hvl]
        unfold zcE
        rw [zc_size]
        omega
      · simp only [Array.toList_append]
        exact List.take_left' (by simp [hol, hvl]; omega)
      · show w.heap.size ≤ (w.heap.push _).size
        rw [Array.size_push]; omega
    · refine (ins_end_room g i cap gv vc cur cv e ev vs w hg hv hvl hvs' hsz hroom h1v hm').mono ?_
      rintro x w' ⟨rfl, rfl⟩
      refine ⟨_, rfl, g, cap, rowAt cur (i * 4) vs, e, rfl, hroom, hm, setRow_heap _ _ cur _ _ _ hg, ?_, ?_, .inl rfl, fun b hb hbg => setRow_other _ _ _ _ hbg, rfl, rfl, rfl, ?_⟩
      · rw [rowAt_size (by rw [hvl]; omega)]; omega
      · have := rowAt_take (cur := cur) (o := i * 4) (vs := vs) (by omega)
        rw [hvl, hold] at this
        rw [show (i + 1) * 4 = i * 4 + 4 by omega]
        exact this
      · rw [size_setRow]; exact Nat.le_refl _
theorem AWp.regionH0 {K : Option Nat → Prop} {P : Program} {st0 : Nat → Ent} {Q : Exit → St → Prop} {A : St} {id : Nat} {l1 l2 : List Oper} (QA : St → Prop) (hm : P.follows .mixedOrders = true) (hk : headK (l1 ++ l2).toArray l1.length = true) (h : AR P (l1 ++ l2).toArray true QA l1 0 A [])
    (hQ : ∀ F, QA F → ∀ (C0 C : Cf) (a : Act) (ro : Option Nat) (n : Nat), C0.st = st0 → Ev C0 C → Sim (bnd ro C0.w) C F a → wpAnyIn (FR ro) n P .any (l1 ++ l2).toArray (fun e a' w' => ∃ A' D, Q e A' ∧ Sim (bnd ro C0.w) D A' a' ∧ D.w = w' ∧ Ev C0 D) l2.length (headT (l1 ++ l2).toArray l1.length) a C.w) :
    AWpK K P st0 (.region id (l1 ++ l2).toArray true) Q A :=
  fun C0 _ _ ro n _ h0 hE hS => AR.drawnH hm h hk hS fun F D a' h1 h2 h3 => hQ F h1 C0 D a' ro n h0 (hE.trans h3) h2
/-- A call, as the machine does it. -/
theorem raw_enter {P : Program} {o : Oper} {ops : Array Oper} {Q : Exit → Act → World → Prop} {i : Nat} {a : Act} {w : World} {f : FuncId} {args : Array Value} {K : Act → World → Prop} {ro : Option Nat} {n : Nat} (hi : ops[i]? = some o) (hg : o.guard = none) (hnd : ∀ c, o.op ≠ .defer c)
    (h : (execOp a.eval o).run P w = .ok (.enter f args) w) (hc : Calls P f args w fun e w' => ∃ v, e = .returned v ∧ K (a.put o.dst v) w') : wpOpIn (FR ro) n P ops Q i K a w := by
  unfold wpOpIn
  have hw : Region.wanted o (yielded ops a.tmps) = true := by simp [Region.wanted, hg]
  simp only [hi, hw, if_true]
  refine ⟨fun _ _ => trivial, ?_⟩
  rw [Oper.semAt_eq _ _ _ hnd, h, Oper.uponIn_enter]
  refine ⟨(fun h => by cases h), ?_⟩
  refine callsIn_wide.2 (hc.mono ?_)
  rintro e w'' ⟨v, rfl, h2⟩
  exact h2
def insRd (ops : Array Oper) (T : Array Bool) : Bool :=
  let r (l : List Nat) := Region.ready .any ops (l.foldl (fun T i => T.setIfInBounds i true) T)
  (r [] == [5]) && (r [5] == [6]) && (r [5, 6] == [7]) && (r [5, 6, 7] == [])
theorem any_ins {C0 C : Cf} {ro : Option Nat} {m N : Nat} {ops : Array Oper} {T : Array Bool} {Q : Exit → St → Prop} {A : St} {a : Act} {o5 o6 o7 : Oper} {x1 x2 x3 : Operand} {tys : Array TypeId} {d40 d4 d5 id iv i : Nat} {L : List En} {y : En} {e : TypeId} {c0 : Value}
    (hT : insRd ops T = true) (h5 : ops[5]? = some o5) (h6 : ops[6]? = some o6) (h7 : ops[7]? = some o7) (g5 : o5.guard = none) (g6 : o6.guard = none) (g7 : o7.guard = none)
    (p5 : o5.op = .call { callee := .value (.func 52), args := #[x1, x2, x3], argTypes := tys }) (p6 : o6.op = .assign (.tmp d40)) (p7 : o7.op = .assign (.const c0)) (q5 : o5.dst = some d40) (q6 : o6.dst = some d4) (q7 : o7.dst = some d5)
    (n1 : d4 ≠ d5) (b40 : d40 < N) (b4 : d4 < N) (b5 : d5 < N) (hAN : A.s.length = N) (hc0 : c0.oneCell' = true)
    (hx1 : A.ev x1 = .sl (L.map enV) (.mine id)) (hx2 : A.ev x2 = .im (.int .i64 i)) (hx3 : A.ev x3 = .bs iv 1) (hl : A.st id = .tip e 4 L.length) (hlv : A.st iv = .box (flatV ([y].map enV))) (h0 : 0 < L.length) (hi : i ≤ L.length) (hlm : L.length ≤ 4194304)
    (hC0 : C0.st = stF) (hE : Ev C0 C) (hS : Sim (bnd ro C0.w) C A a)
    (hQ : Q .normal ⟨dn N [(d4, .bs 0 (L.length + 1)), (d5, .im c0)], ofl [.box (flatV ((L.take i ++ y :: L.drop i).map enV))]⟩) :
    wpAnyIn (FR ro) m Tryz.prog .any ops (fun e a' w' => ∃ A' D, Q e A' ∧ Sim (bnd ro C0.w) D A' a' ∧ D.w = w' ∧ Ev C0 D) 3 T a C.w := by
  simp only [insRd, List.foldl, Bool.and_eq_true, beq_iff_eq] at hT
  obtain ⟨⟨⟨r0, r1⟩, r2⟩, r3⟩ := hT
  have hst : C.st id = .tip e 4 L.length := by rw [hS.st]; exact hl
  have hsv : C.st iv = .box (flatV ([y].map enV)) := by rw [hS.st]; exact hlv
  have e1 := hS.ev x1
  rw [hx1] at e1
  have e2 := hS.ev x2
  rw [hx2] at e2
  have e2 : a.eval x2 = .int .i64 i := e2.im_eq
  have e3 := hS.ev x3
  rw [hx3] at e3
  obtain ⟨g, cur, cap, v1, σg, hg, hsz, hnc, hm, hold⟩ := mine_cells e1 hst h0
  obtain ⟨gv, cv, vc, tv, v3, σv, hgv, _, _, hvs⟩ := box_cells (L := [y]) hS.ok e3 hsv
  have hne : gv ≠ g := fun h => by
    subst h
    have := hS.ok.inj id iv gv (by rw [hst]; simp) (by rw [hsv]; simp) σg σv
    subst this
    rw [hst] at hsv
    cases hsv
  have hfresh : C0.w.heap.size ≤ g := by
    rcases hE.fresh id g (by rw [hst]; simp) σg with ⟨k, _⟩ | k
    · exact absurd (by rw [hC0]; rfl) k
    · exact k
  have hcall := ins_run g L.length i cap gv vc cur cv e tv (imL L) (imL [y]) C.w hi hg hgv hne (by rw [imL_len]; rfl) (by simpa using hvs) hsz hnc hold (imL_one _) (imL_one _) hm hlm
  have hnew : (imL L).take (i * 4) ++ imL [y] ++ (imL L).drop (i * 4) = imL (L.take i ++ y :: L.drop i) := by
    rw [imL_take _ _ hi, imL_drop _ _ hi, imL_app, List.append_assoc]
    rfl
  rw [hnew] at hcall
  obtain ⟨M, hM⟩ : ∃ M, M = L.take i ++ y :: L.drop i := ⟨_, rfl⟩
  rw [← hM] at hcall hQ
  have hMl : M.length = L.length + 1 := by rw [hM]; simp; omega
  have nd5 : ∀ c, o5.op ≠ .defer c := fun c hc => by rw [p5] at hc; cases hc
  have nd6 : ∀ c, o6.op ≠ .defer c := fun c hc => by rw [p6] at hc; cases hc
  have nd7 : ∀ c, o7.op ≠ .defer c := fun c hc => by rw [p7] at hc; cases hc
  have hgo : goFn Tryz.prog 52 = true := by kernel_rfl
  have hrun : (execOp a.eval o5).run Tryz.prog C.w = .ok (.enter 52 #[.slice (some ⟨g, 0, none⟩) L.length cap, .int .i64 i, .slice (some ⟨gv, 0, none⟩) 1 vc]) C.w := by
    have v3 : a.eval x3 = .slice (some ⟨gv, 0, none⟩) 1 vc := v3
    have hf : a.eval (.func 52) = .func (.func 52) #[] #[] := rfl
    simp only [execOp, p5, resolve, hf, Deferred.ofValue, invoke, Sem.run_bind, Sem.run_pure, Result.andThen_ok, run_callFunc hgo]
    simp [v1, e2, v3]
  refine Region.one r0 (raw_enter h5 g5 nd5 hrun (hcall.mono ?_))
  rintro x w' ⟨v, rfl, g', cap', cur', e', rfl, hn1, hm1, hg', hs1, ht1, hgg, hkeep, wos, wtape, wout, wsz⟩
  refine ⟨_, rfl, ?_⟩
  rw [q5]
  have R6 : ∀ (b : Act), (execOp b.eval o6).run Tryz.prog w' = .ok (.value (b.eval (.tmp d40))) w' := fun b => by simp [execOp, p6]
  have R7 : ∀ (b : Act), (execOp b.eval o7).run Tryz.prog w' = .ok (.value c0) w' := fun b => by simp [execOp, p7]; rfl
  refine Region.one r1 (raw_op h6 g6 nd6 (R6 _) ?_)
  rw [q6]
  refine Region.one r2 (raw_op h7 g7 nd7 (R7 _) ?_)
  rw [q7]
  refine Region.none r3 ?_
  have asz : a.tmps.size = N := by rw [hS.size]; exact hAN
  have k1 : (a.put (some d40) (.slice (some ⟨g', 0, none⟩) (L.length + 1) cap')).eval (.tmp d40) = .slice (some ⟨g', 0, none⟩) (L.length + 1) cap' := Act.eval_put_same (by rw [asz]; exact b40)
  rw [k1]
  obtain ⟨a1, ha1⟩ : ∃ a1, a1 = a.put (some d40) (.slice (some ⟨g', 0, none⟩) (L.length + 1) cap') := ⟨_, rfl⟩
  have as1 : a1.tmps.size = N := by rw [ha1]; simpa [Act.put] using asz
  rw [← ha1]
  obtain ⟨a2, ha2⟩ : ∃ a2, a2 = a1.put (some d4) (.slice (some ⟨g', 0, none⟩) (L.length + 1) cap') := ⟨_, rfl⟩
  have as2 : a2.tmps.size = N := by rw [ha2]; simpa [Act.put] using as1
  have k4 : a2.eval (.tmp d4) = .slice (some ⟨g', 0, none⟩) (L.length + 1) cap' := by rw [ha2]; exact Act.eval_put_same (by rw [as1]; exact b4)
  rw [← ha2]
  have k5 : (a2.put (some d5) c0).eval (.tmp d4) = .slice (some ⟨g', 0, none⟩) (L.length + 1) cap' := by
    rw [Act.eval_put_ne (by intro h; cases h; exact n1 rfl)]; exact k4
  have k6 : (a2.put (some d5) c0).eval (.tmp d5) = c0 := Act.eval_put_same (by rw [as2]; exact b5)
  have as3 : (a2.put (some d5) c0).tmps.size = N := by simpa [Act.put] using as2
  have hdf : (a2.put (some d5) c0).defers = a.defers := by rw [ha2, ha1]; rfl
  obtain ⟨a3, ha3⟩ : ∃ a3, a3 = a2.put (some d5) c0 := ⟨_, rfl⟩
  rw [← ha3] at k5 k6 as3 hdf ⊢
  have hfl : flatV (M.map enV) = (imL M).map V.im := imL_fl M
  have hML : (imL M).length = (L.length + 1) * 4 := by rw [imL_len, hMl]
  have hcs : C.w.heap.size ≤ g' ∨ g' = g := hgg.symm
  have hglt : g < C.w.heap.size := (Array.getElem?_eq_some_iff.1 hg).1
  have hg0 : C0.w.heap.size ≤ g' := by
    have := hE.size
    rcases hgg with rfl | h
    · exact hfresh
    · omega
  have hoff : ∀ {i : Nat} {x : Ent}, ofl [.box (flatV (M.map enV))] i = x → x ≠ .free → i = 0 := fun {i x} hx hf => by
    cases i with
    | zero => rfl
    | succ i => exact absurd (by rw [← hx]; simp [ofl, List.getD]) hf
  have hσ : ∀ {i b : Nat}, (if i = 0 then some g' else none) = some b → i = 0 ∧ b = g' := fun {i b} hi => by
    split at hi
    · rename_i h0; exact ⟨h0, (Option.some.inj hi).symm⟩
    · cases hi
  have hgg2 : ∀ a ∈ glL, a.1.block ≠ g := fun a ha hb => by
    have := hS.ok.gl.2.1 a ha id (by rw [hb]; exact σg)
    rw [hst] at this
    cases this
  have hgl : ∀ a ∈ glL, a.1.block ≠ g' := fun a ha hb => by
    rcases hgg with rfl | h
    · exact hgg2 a ha hb
    · obtain ⟨q, q1, _⟩ := hS.ok.gl.1 a ha
      have := rd_lt q1
      omega
  have hcell : ∀ q (hq : q < (flatV (M.map enV)).length), ∃ x : Value, (flatV (M.map enV))[q] = .im x ∧ x.oneCell' = true ∧ cur'.getD q undef = x := fun q hq => by
    have hq2 : q < (imL M).length := by rw [hfl, List.length_map] at hq; exact hq
    refine ⟨(imL M)[q], ?_, imL_one _ _ (List.getElem_mem _), ?_⟩
    · simp only [hfl, List.getElem_map]
    · have h1 : cur'.toList[q]? = some (imL M)[q] := by
        have : (cur'.toList.take ((L.length + 1) * 4))[q]? = some (imL M)[q] := by rw [ht1]; exact List.getElem?_eq_getElem hq2
        rw [List.getElem?_take] at this
        split at this
        · exact this
        · cases this
      rw [Array.getD_eq_getD_getElem?]
      have h2 : cur'[q]? = some (imL M)[q] := by simpa using h1
      rw [h2]
      rfl
  have hrd : ∀ a v, C0.rd a v → w'.cell? a = some v := fun a v h => by
    have h2 := (hE.rd a v h).1
    have h3 := rd_lt h
    have := hE.size
    rw [World.cell?_of_block (w := C.w) (hkeep a.block (by omega) (by omega))]
    exact h2
  have hok : Ok (⟨fun i => if i = 0 then some g' else none, ofl [.box (flatV (M.map enV))], C.av, w'⟩ : Cf) := by
    refine ⟨fun i cs h => ?_, fun i e z k g h => ?_, fun i t p h => ?_, fun i j g' h1 h2 h3 h4 => ?_, fun b o h => Nat.lt_of_lt_of_le (hS.ok.avl b o h) wsz, fun i cs g2 o h h' => ?_, ⟨fun a ha => ?_, fun a ha i hi => ?_, fun p hp => ?_⟩⟩
    · obtain rfl := hoff h (by simp)
      cases h
      refine ⟨g', cur', e', rfl, hg', by rw [hfl, List.length_map, hML]; exact hs1, fun j hj => ?_, fun j hj => ?_⟩
      · obtain ⟨x, hx, h5, h6⟩ := hcell j hj
        rw [h6]; exact h5
      · obtain ⟨x, hx, h5, h6⟩ := hcell j hj
        rw [h6, hx]; exact .im h5
    · obtain rfl := hoff h (by simp)
      cases h
    · obtain rfl := hoff h (by simp)
      cases h
    · rw [hoff rfl h1, hoff rfl h2]
    · obtain ⟨_, rfl⟩ := hσ h'
      intro hav
      rcases hgg with rfl | hh
      · obtain ⟨_, _, _, h7⟩ := hS.ok.tip id e 4 L.length _ hst σg
        exact h7 o hav
      · have := hS.ok.avl _ _ hav
        omega
    · obtain ⟨q, q1, q2⟩ := hS.ok.gl.1 a ha
      refine ⟨q, ⟨?_, q1.2.1, fun i hi => absurd (hσ hi).2 (hgl a ha)⟩, q2⟩
      rw [World.cell?_of_block (w := C.w) (hkeep a.1.block (rd_lt q1) (hgg2 a ha))]
      exact q1.1
    · exact absurd (hσ hi).2 (hgl a ha)
    · obtain ⟨cs, t, fz, h1, h2⟩ := hS.ok.gl.2.2 p hp
      obtain ⟨a, ha, e⟩ := glN_in p hp
      refine ⟨cs, t, fz, (hkeep p.1 (Array.getElem?_eq_some_iff.1 h1).1 (by rw [← e]; exact hgg2 a ha)).trans h1, h2⟩
  have hE' : Ev C0 (⟨fun i => if i = 0 then some g' else none, ofl [.box (flatV (M.map enV))], C.av, w'⟩ : Cf) := by
    refine ⟨wos.trans hE.os, wtape.trans hE.tape, wout.trans hE.output, Nat.le_trans hE.size wsz, hE.av, fun a v h => ?_, fun i cs h => ?_, fun i e z k h => ?_, fun i t p h => ?_, fun b hb hf => ?_, fun i b h h' => ?_, fun i cs g bs t h => by rw [hC0] at h; cases h⟩
    · have h2 := hE.rd a v h
      refine ⟨hrd a v h, h2.2.1, fun i hi => ?_⟩
      have h3 := (hσ hi).2
      have h4 := rd_lt h
      omega
    · rw [hC0] at h; cases h
    · rw [hC0] at h; cases h
    · rw [hC0] at h; cases h
    · have := hE.size
      exact (hkeep b (by show b < C.w.heap.size; omega) (by omega)).trans (hE.keep b hb hf)
    · obtain ⟨_, rfl⟩ := hσ h'
      exact .inr hg0
  refine ⟨_, (⟨fun i => if i = 0 then some g' else none, ofl [.box (flatV (M.map enV))], C.av, w'⟩ : Cf), hQ, ⟨rfl, hok, ?_, ?_, fun t' ht' => ?_⟩, rfl, hE'⟩
  · rw [hdf]
    obtain ⟨bs, d1, d2, d3⟩ := hS.defers
    refine ⟨bs, d1, d2, fun b hb => ?_⟩
    obtain ⟨e1, e2, d4⟩ := d3 b hb
    have hbl : b < C.w.heap.size := (Array.getElem?_eq_some_iff.1 e2).1
    have hbg : b ≠ g := fun hh => by
      subst hh
      have := d4 id σg
      rw [hst] at this
      cases this
    refine ⟨e1, (hkeep b hbl hbg).trans e2, fun i hi => ?_⟩
    obtain ⟨_, rfl⟩ := hσ hi
    rcases hgg with rfl | hh
    · exact absurd rfl hbg
    · omega
  · rw [as3]; exact (dn_length _ _).symm
  · have ht2 : t' < N := by rw [dn_length] at ht'; exact ht'
    rw [getD_dn, if_pos ht2, look_cons, look_cons, look_nil]
    split
    · rename_i h7
      subst h7
      have := k5
      simp only [Act.eval] at this
      rw [this]
      exact .bs (cs := flatV (M.map enV)) (by rfl) (by rfl) hn1 hm1
    · split
      · rename_i h8
        subst h8
        have := k6
        simp only [Act.eval] at this
        rw [this]
        exact .im hc0
      · exact .dead
/-- The rule of a walk: slices.Insert into a new slice, whose result becomes a box; all else is forgotten. -/
theorem AWp.insR {Kp : Option Nat → Prop} {Q : Exit → St → Prop} {N rid : Nat} {o0 o1 o2 o3 o4 : Oper} {s0 s' : List (Nat × V)} {l l' : List Ent} {x1 x2 x3 : Operand} {tys : Array TypeId}
    {y5 y6 y7 : TypeId} {c5 c6 c7 : String} {a5 a6 a7 : Array Edge} {d40 d4 d5 : Nat} {c0 : Value} (id iv i : Nat) (L : List En) (y : En) (e : TypeId)
    (hm : Tryz.prog.follows .mixedOrders = true) (hk : headK #[o0, o1, o2, o3, o4, ⟨some d40, .call { callee := .value (.func 52), args := #[x1, x2, x3], argTypes := tys }, y5, c5, a5, none⟩, ⟨some d4, .assign (.tmp d40), y6, c6, a6, none⟩, ⟨some d5, .assign (.const c0), y7, c7, a7, none⟩] 5 = true) (hr : insRd #[o0, o1, o2, o3, o4, ⟨some d40, .call { callee := .value (.func 52), args := #[x1, x2, x3], argTypes := tys }, y5, c5, a5, none⟩, ⟨some d4, .assign (.tmp d40), y6, c6, a6, none⟩, ⟨some d5, .assign (.const c0), y7, c7, a7, none⟩] (headT #[o0, o1, o2, o3, o4, ⟨some d40, .call { callee := .value (.func 52), args := #[x1, x2, x3], argTypes := tys }, y5, c5, a5, none⟩, ⟨some d4, .assign (.tmp d40), y6, c6, a6, none⟩, ⟨some d5, .assign (.const c0), y7, c7, a7, none⟩] 5) = true)
    (hA : AR Tryz.prog #[o0, o1, o2, o3, o4, ⟨some d40, .call { callee := .value (.func 52), args := #[x1, x2, x3], argTypes := tys }, y5, c5, a5, none⟩, ⟨some d4, .assign (.tmp d40), y6, c6, a6, none⟩, ⟨some d5, .assign (.const c0), y7, c7, a7, none⟩] true (fun F => F = ⟨dn N s', ofl l'⟩) [o0, o1, o2, o3, o4] 0 ⟨dn N s0, ofl l⟩ [])
    (n1 : d4 ≠ d5) (b40 : d40 < N) (b4 : d4 < N) (b5 : d5 < N) (hc0 : c0.oneCell' = true)
    (hx1 : St.ev ⟨dn N s', ofl l'⟩ x1 = .sl (L.map enV) (.mine id)) (hx2 : St.ev ⟨dn N s', ofl l'⟩ x2 = .im (.int .i64 i)) (hx3 : St.ev ⟨dn N s', ofl l'⟩ x3 = .bs iv 1) (hl : ofl l' id = .tip e 4 L.length) (hlv : ofl l' iv = .box (flatV ([y].map enV))) (h0 : 0 < L.length) (hi : i ≤ L.length) (hlm : L.length ≤ 4194304)
    (hQ : Q .normal ⟨dn N [(d4, .bs 0 (L.length + 1)), (d5, .im c0)], ofl [.box (flatV ((L.take i ++ y :: L.drop i).map enV))]⟩) :
    AWpK Kp Tryz.prog stF (.region rid #[o0, o1, o2, o3, o4, ⟨some d40, .call { callee := .value (.func 52), args := #[x1, x2, x3], argTypes := tys }, y5, c5, a5, none⟩, ⟨some d4, .assign (.tmp d40), y6, c6, a6, none⟩, ⟨some d5, .assign (.const c0), y7, c7, a7, none⟩] true) Q ⟨dn N s0, ofl l⟩ := by
  refine AWp.regionH0 (l1 := [o0, o1, o2, o3, o4]) (l2 := [_, _, _]) (fun F => F = ⟨dn N s', ofl l'⟩) hm hk hA ?_
  rintro F rfl C0 C a ro m hC0 hE hS
  exact any_ins (A := ⟨dn N s', ofl l'⟩) hr rfl rfl rfl rfl rfl rfl rfl rfl rfl rfl rfl rfl n1 b40 b4 b5 (dn_length ..) hc0 hx1 hx2 hx3 hl hlv h0 hi hlm hC0 hE hS hQ
end Go.Proofs.YtianekkfehoedaaGreatDoor
namespace Go.Proofs.YtianekkfehoedaaGreatDoor
set_option linter.unusedSimpArgs false
set_option linter.unusedVariables false
set_option linter.unnecessarySimpa false
open Go.RowKit Go.Lib
end Go.Proofs.YtianekkfehoedaaGreatDoor
