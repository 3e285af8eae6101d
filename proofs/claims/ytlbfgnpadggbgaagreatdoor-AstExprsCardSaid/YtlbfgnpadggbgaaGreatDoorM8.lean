/- slices.Grow on the nil slice: an empty slice that may be appended to. Walks: slices.Concat. Walks: the lists in a statement; the depth of a list; all statements, as the program has them. Walks: all statements of a list, as the program has them. -/
import Derived.Test.YtlbfgnpadggbgaaGreatDoorHv
import Derived.Lib.AppendZeros
import Derived.Lib.SliceRun
import Derived.Lib.Walk
import Derived.Shelf.RegionOpenPlain
import Derived.Lib.SmallJoins
import Derived.Test.YtlbfgnpadggbgaaGreatDoorNv
import Derived.Test.YtlbfgnpadggbgaaGreatDoorNe
namespace Go.Proofs.YtlbfgnpadggbgaaGreatDoor
set_option linter.unusedSimpArgs false
set_option linter.unusedVariables false
set_option linter.unnecessarySimpa false
open Go.RowKit Go.Lib
def Cf.newTip (C : Cf) (e : TypeId) (z : Nat) (cs : Array Value) : Cf := ⟨fun i => if i = 0 then some C.w.heap.size else C.σ i, ofl [.tip e z 0], C.av, C.w.drew.alloc (.cells cs e)⟩
theorem newTip_st {e : TypeId} {z i : Nat} (h : ofl [.tip e z 0] i ≠ .free) : i = 0 := by
  cases i with
  | zero => rfl
  | succ i => exact absurd (by simp [ofl, List.getD]) h
theorem newTip_old {C : Cf} {e : TypeId} {z : Nat} {cs : Array Value} {b : Nat} (hb : b < C.w.heap.size) : (C.newTip e z cs).w.heap[b]? = C.w.heap[b]? := by
  show (C.w.drew.heap.push _)[b]? = _
  rw [Array.getElem?_push]
  have : b ≠ C.w.drew.heap.size := Nat.ne_of_lt hb
  rw [if_neg this]
  rfl
theorem Ev.newTip {C : Cf} {e : TypeId} {z : Nat} {cs : Array Value} (hst : C.st = stF) : Ev C (C.newTip e z cs) where
  os := rfl
  tape := rfl
  output := rfl
  size := by show C.w.heap.size ≤ (C.w.drew.heap.push _).size; rw [Array.size_push]; exact Nat.le_succ _
  av := rfl
  rd := fun a v h => by
    have hb : a.block < C.w.heap.size := by
      have h1 := h.1
      refine Nat.lt_of_not_le fun hle => ?_
      have : C.w.heap[a.block]? = none := Array.getElem?_eq_none hle
      simp [World.cell?, this] at h1
    refine ⟨?_, h.2.1, fun i hi => ?_⟩
    · rw [← h.1]
      exact World.cell?_of_block (w := C.w) (newTip_old hb)
    · by_cases h0 : i = 0
      · subst h0
        have : C.w.heap.size = a.block := Option.some.inj hi
        omega
      · exact .inl (Classical.byContradiction fun hn => h0 (newTip_st hn))
  box := fun i cs hb => by rw [hst] at hb; cases hb
  tip := fun i e z n hb => by rw [hst] at hb; cases hb
  itr := fun i s p hb => by rw [hst] at hb; cases hb
  keep := fun b hb _ => newTip_old hb
  shp := fun i cs g bs t hb => by rw [hst] at hb; cases hb
  fresh := fun i b hi hs => by
    obtain rfl := newTip_st hi
    have : C.w.heap.size = b := Option.some.inj hs
    exact .inr (Nat.le_of_eq this)
theorem Ok.newTip {C : Cf} {e : TypeId} {z : Nat} {cs : Array Value} (hC : Ok C) (hst : C.st = stF) : Ok (C.newTip e z cs) where
  box := fun i cs' hb => by
    have h0 : i = 0 := newTip_st (e := e) (z := z) (by show (C.newTip e z cs).st i ≠ _; rw [hb]; simp)
    subst h0
    cases hb
  tip := fun i e' z' n g hb hs => by
    have h0 : i = 0 := newTip_st (e := e) (z := z) (by show (C.newTip e z cs).st i ≠ _; rw [hb]; simp)
    subst h0
    cases hb
    have : C.w.heap.size = g := Option.some.inj hs
    subst this
    refine ⟨cs, ?_, by omega, fun o ho => ?_⟩
    · show (C.w.drew.heap.push _)[C.w.heap.size]? = _
      rw [Array.getElem?_push]
      exact if_pos rfl
    · exact absurd (hC.avl _ o ho) (Nat.lt_irrefl _)
  iter := fun i s p hb => by
    have h0 : i = 0 := newTip_st (e := e) (z := z) (by show (C.newTip e z cs).st i ≠ _; rw [hb]; simp)
    subst h0
    cases hb
  inj := fun i j g hi hj _ _ => (newTip_st hi).trans (newTip_st hj).symm
  avl := fun b o h => by
    have := hC.avl b o h
    show b < (C.w.drew.heap.push _).size
    rw [Array.size_push]
    exact Nat.lt_succ_of_lt this
  bav := fun i cs' g o hb => by
    have h0 : i = 0 := newTip_st (e := e) (z := z) (by show (C.newTip e z cs).st i ≠ _; rw [hb]; simp)
    subst h0
    cases hb
  gl := hC.gl.mono (Ev.newTip hst)
/-- In a memory of which nothing may be written to, a new block: an empty slice with a token. -/
theorem grown_acalls {P : Program} {f : FuncId} {e : TypeId} {z : Nat} {xs : List V} (hf : goFn P f = true) (hz : 0 < z)
    (h : ∀ (C : Cf) (vs : Array Value), C.st = stF → Ok C → vs.size = xs.length → (∀ i (h : i < xs.length), R C xs[i] (vs.getD i undef)) →
      ∃ (cap : Nat) (cs : Array Value), cap ≤ maxLen ∧ cs.size = cap * z ∧ Calls P f vs C.w fun e' w' => e' = .returned (.slice (some ⟨C.w.heap.size, 0, none⟩) 0 cap) ∧ w' = C.w.drew.alloc (.cells cs e)) :
    DC P f xs [.free] (.sl [] (.own 0)) [.tip e z 0] := by
  refine ⟨hf, fun C vs hst hC hl hR => ?_⟩
  have hst' : C.st = stF := by
    rw [hst]; funext i; unfold ofl stF; cases i with
    | zero => rfl
    | succ i => simp [List.getD]
  obtain ⟨cap, cs, hcap, hcs, hc⟩ := h C vs hst' hC hl hR
  refine hc.mono ?_
  rintro e' w' ⟨rfl, rfl⟩
  refine ⟨_, _, _, rfl, ⟨rfl, rfl⟩, C.newTip e z cs, rfl, rfl, Ok.newTip hC hst', Ev.newTip hst', ?_⟩
  · refine .sl (z := z) (u := fun _ => undef) (Nat.zero_le _) hcap (fun i hi => absurd hi (Nat.not_lt_zero _)) (fun i hi => absurd hi (Nat.not_lt_zero _)) (fun i hi => absurd hi (Nat.not_lt_zero _))
      ⟨e, 0, rfl, Nat.le_refl _, fun _ => .inr ⟨_, cs, rfl, rfl, ?_, hcs⟩⟩
    show (C.w.drew.heap.push _)[C.w.heap.size]? = _
    rw [Array.getElem?_push]
    exact if_pos rfl
theorem growN_run (n : Nat) (h0 : 0 < n) (hb : n ≤ 4194304 * 4) (w : World) : ∃ (cap : Nat) (cs : Array Value), cap ≤ maxLen ∧ cs.size = cap * 1 ∧ Calls Tryz.prog 98 #[.slice none 0 0, .int .i64 n] w fun e w' => e = .returned (.slice (some ⟨w.heap.size, 0, none⟩) 0 cap) ∧ w' = w.drew.alloc (.cells cs 35) := by
  obtain ⟨i0, hi, hz0, hz1, hz2⟩ := info_parts (show (Tryz.prog.info? 35).map (fun i => (i.zero, i.size, i.bytes)) = some (some (.slice none 0 0), 1, 24) by kernel_rfl)
  have h1 : ¬ ((n : Int) < 0) := by omega
  have h4 : (n : Int) > 0 := by omega
  have hrz : ∀ ty, (Builtin.append_ #[36, 3] ty #[.slice none 0 0, .int .i64 n]).run Tryz.prog w = _ := fun ty => run_append_nil_zeros w 36 3 ty 35 i0 _ .i64 .i64 Tryz.underlying36 Tryz.underlying3 hi hz0 n h0 (by rw [hz1]; decide) (by omega) (by rw [hz2]; omega)
  have hGn : n ≤ grownCap w n 0 35 := grownCap_ge w _ _ _
  have hG63 := grownCap_le_maxLen w n 0 35 (by unfold maxLen; omega)
  generalize grownCap w n 0 35 = G at hrz hGn hG63
  refine ⟨G, Builtin.zeroCells (Value.cells (.slice none 0 0)) n ++ Builtin.zeroCells (Value.cells (.slice none 0 0)) (G - n), hG63, ?_, ?_⟩
  rotate_left
  · go_enter Tryz.func98, Tryz.ntmps98
    go_wp2_with (at_builtin; refine Lib.wpList_append_run _ rfl _ _ _ _ rfl _ _ rfl rfl _ _ (hrz _) ?_)
    all_goals (go_ret; exact ⟨rfl, rfl⟩)
  · simp [Builtin.zeroCells, Value.cells]; omega
theorem c_growN (n : Nat) (h0 : 0 < n) (hb : n ≤ 4194304 * 4) : DC Tryz.prog 98 [.sl [] .nl, .im (.int .i64 n)] [.free] (.sl [] (.own 0)) [.tip 35 1 0] := by
  refine grown_acalls (by kernel_rfl) (by decide) fun C vs _ _ hl hR => ?_
  obtain ⟨v0, v1, rfl⟩ : ∃ v0 v1, vs = #[v0, v1] := Go.Joins.array2 hl
  have h1 := hR 0 (by simp)
  have h2 := hR 1 (by simp)
  obtain rfl : v0 = .slice none 0 0 := by
    have h1 : R C (.sl [] .nl) v0 := h1
    cases h1 with
    | sl _ _ _ _ _ hk => obtain ⟨rfl, rfl⟩ := hk; rfl
  obtain rfl : v1 = .int .i64 n := by
    have h2 : R C (.im (.int .i64 n)) v1 := h2
    cases h2 with
    | im => rfl
  exact growN_run n h0 hb C.w
theorem c_growN0 : PC Tryz.prog 98 [.sl [] .nl, .im (.int .i64 0)] (.sl [] .nl) := by
  refine ⟨by kernel_rfl, fun C vs hst hC hl hR => ?_⟩
  obtain ⟨v0, v1, rfl⟩ : ∃ v0 v1, vs = #[v0, v1] := Go.Joins.array2 hl
  have h1 := hR 0 (by simp)
  have h2 := hR 1 (by simp)
  obtain rfl : v0 = .slice none 0 0 := by
    have h1 : R C (.sl [] .nl) v0 := h1
    cases h1 with
    | sl _ _ _ _ _ hk => obtain ⟨rfl, rfl⟩ := hk; rfl
  obtain rfl : v1 = .int .i64 0 := by
    have h2 : R C (.im (.int .i64 0)) v1 := h2
    cases h2 with
    | im => rfl
  have hc : Calls Tryz.prog 98 #[.slice none 0 0, .int .i64 0] C.w fun e w' => e = .returned (.slice none 0 0) ∧ w' = C.w := by
    go_enter Tryz.func98, Tryz.ntmps98
    go_wp2
    go_ret
    exact ⟨rfl, rfl⟩
  refine hc.mono ?_
  rintro e' w' ⟨rfl, rfl⟩
  exact ⟨_, _, _, rfl, ⟨rfl, rfl⟩, C, rfl, hst, hC, Ev.refl C, h1⟩
end Go.Proofs.YtlbfgnpadggbgaaGreatDoor
namespace Go.Proofs.YtlbfgnpadggbgaaGreatDoor
set_option linter.unusedSimpArgs false
set_option linter.unusedVariables false
set_option linter.unnecessarySimpa false
open Go.RowKit
theorem flat_lenC {α : Type} {l : List (List α)} {m : Nat} (h : m < l.length) : (l.take m).flatten.length + l[m].length = (l.take (m + 1)).flatten.length := by
  rw [List.take_succ_eq_append_getElem h, List.flatten_append, List.length_append]
  simp
theorem flat_snoc {α : Type} {l : List (List α)} {m : Nat} (h : m < l.length) : (l.take m).flatten ++ l[m] = (l.take (m + 1)).flatten := by
  rw [List.take_succ_eq_append_getElem h, List.flatten_append]
  simp
theorem flat_le {α : Type} {l : List (List α)} (m : Nat) : (l.take m).flatten.length ≤ l.flatten.length := by
  have := List.take_append_drop m l
  have h2 : l.flatten.length = (l.take m).flatten.length + (l.drop m).flatten.length := by
    rw [← List.length_append, ← List.flatten_append, this]
  omega
theorem flat_ids' {p : Nat → Bool} {l : List (List V)} (h : ∀ xs ∈ l, V.idsL p xs = true) (m : Nat) : V.idsL p (l.take m).flatten = true := by
  refine idsL_of fun x hx => ?_
  obtain ⟨xs, h1, h2⟩ := List.mem_flatten.1 hx
  obtain ⟨i, hi, rfl⟩ := List.getElem_of_mem h2
  exact V.idsL_get (h xs (List.mem_of_mem_take h1)) i hi
theorem Y81_CE : type_of% (And.intro @F_ag_36 (And.intro @F_al_35 (And.intro @F_by_35 (And.intro @F_el_150 (And.intro @F_el_36 (And.intro @F_sz_35 (@F_sz_36))))))) := And.intro @F_ag_36 (And.intro @F_al_35 (And.intro @F_by_35 (And.intro @F_el_150 (And.intro @F_el_36 (And.intro @F_sz_35 (@F_sz_36))))))
theorem c_concatN {xss : List (List V)} (hl : xss.length ≤ 4194304) (hz : ∀ xs ∈ xss, allZ 1 xs = true) (hs : ∀ p, ∀ xs ∈ xss, V.idsL p xs = true) (hn : xss.flatten.length ≤ 16777216) : PC Tryz.prog 81 [.sl (xss.map fun l => V.sl l .ro) .ro] (.sl xss.flatten .ro) := by
  have hI : ∀ p m, V.idsL p (xss.take m).flatten = true := fun p m => flat_ids' (hs p) m
  have hK : ∀ p, V.idsL p xss.flatten = true := fun p => by have := hI p xss.length; rwa [List.take_length] at this
  have hJ : ∀ p, V.idsL p (xss.map fun l => V.sl l .ro) = true := fun p => idsL_map' xss fun x hx => by simp only [V.ids, Bool.and_true]; exact hs p x hx
  refine PC.enter 36 Tryz.func81 rfl (by decide) rfl rfl (s := [(0, .sl (xss.map fun l => V.sl l .ro) .ro)]) (by rfl) ?_
  refine wG Y81_CE @List.length_map.{0, 0} ?_
  refine AWp.loop ?_
  refine ALp.cutP 0 [(0, .sl (xss.map fun l => V.sl l .ro) .ro), (3, (.im (.int .i64 ((((xss.take (0)).flatten.length : Nat) : Int))))), (9, .sl (xss.map fun l => V.sl l .ro) .ro), (10, (.im (.int .i64 (xss.length)))), (11, (.im (.int .i64 ((((0 : Nat)) : Int)))))] [] (And.intro hI (And.intro hJ hK)) ?_
  refine ALp.upto xss.length (fun _ => True) (fun m => ⟨dn 36 [(0, .sl (xss.map fun l => V.sl l .ro) .ro), (3, (.im (.int .i64 ((((xss.take (m)).flatten.length : Nat) : Int))))), (9, .sl (xss.map fun l => V.sl l .ro) .ro), (10, (.im (.int .i64 (xss.length)))), (11, (.im (.int .i64 ((((m : Nat)) : Int)))))], ofl []⟩) ?_ 0 (Nat.zero_le _) trivial
  intro m hm _ hnext
  by_cases hlt : m < xss.length
  · have hlt' : (m : Int) < (xss.length : Int) := by omega
    have hm1 := wrap_succ hlt (by omega)
    have hg := get_some hlt
    have hln := flat_lenC hlt
    have hle := flat_le (l := xss) (m + 1)
    have hw : IntKind.i64.wrap (((xss.take m).flatten.length : Int) + (xss[m].length : Int)) = ((xss.take (m + 1)).flatten.length : Int) := by
      rw [wrap_in (by omega)]
      omega
    have hneg : ¬ ((xss.take (m + 1)).flatten.length : Int) < 0 := by omega
    refine wG Y81_CE (And.intro hlt' (And.intro hg (And.intro (@List.getElem?_map.{0, 0}) (And.intro (@Int.natCast_nonneg) (And.intro hw (And.intro hneg hm1)))))) ?_
    refine ALp.cutP 0 [(0, .sl (xss.map fun l => V.sl l .ro) .ro), (3, (.im (.int .i64 ((((xss.take (m + 1)).flatten.length : Nat) : Int))))), (9, .sl (xss.map fun l => V.sl l .ro) .ro), (10, (.im (.int .i64 (xss.length)))), (11, (.im (.int .i64 ((((m + 1 : Nat)) : Int)))))] [] (And.intro hI (And.intro hJ hK)) ?_
    exact hnext (m + 1) (by omega) (by omega) trivial
  obtain rfl : m = xss.length := by omega
  clear hnext
  rw [List.take_length]
  refine whG Y81_CE @Int.lt_irrefl ?_
  refine Blk'.here (Thn.n ?_)
  refine wG Y81_CE True.intro ?_
  by_cases h0 : xss.flatten.length = 0
  case' pos =>
    rw [h0]
    refine AR.callP c_growN0 @Int.natCast_zero (And.intro hI (And.intro hJ hK)) ?_
    refine goG Y81_CE @List.length_map.{0, 0} ?_
    refine wG Y81_CE @List.length_map.{0, 0} ?_
    refine AWp.loop ?_
    refine ALp.ghost 6 [] .nl 35 1 ?_
    refine ALp.cutP 1 [(6, .sl (xss.take (0)).flatten (.own 0)), (25, .sl (xss.map fun l => V.sl l .ro) .ro), (26, (.im (.int .i64 (xss.length)))), (27, (.im (.int .i64 ((((0 : Nat)) : Int)))))] [.tip 35 1 (xss.take (0)).flatten.length] (And.intro hI (And.intro hJ hK)) ?_
  case' neg =>
    have hg := c_growN xss.flatten.length (by omega) (by omega)
    refine AR.callSP [0] hg True.intro (And.intro hI (And.intro hJ hK)) True.intro ?_
    refine goG Y81_CE @List.length_map.{0, 0} ?_
    refine wG Y81_CE @List.length_map.{0, 0} ?_
    refine AWp.loop ?_
    refine ALp.cutP 1 [(6, .sl (xss.take (0)).flatten (.own 0)), (25, .sl (xss.map fun l => V.sl l .ro) .ro), (26, (.im (.int .i64 (xss.length)))), (27, (.im (.int .i64 ((((0 : Nat)) : Int)))))] [.tip 35 1 (xss.take (0)).flatten.length] (And.intro hI (And.intro hJ hK)) ?_
  all_goals
    refine ALp.upto xss.length (fun _ => True) (fun m => ⟨dn 36 [(6, .sl (xss.take (m)).flatten (.own 0)), (25, .sl (xss.map fun l => V.sl l .ro) .ro), (26, (.im (.int .i64 (xss.length)))), (27, (.im (.int .i64 ((((m : Nat)) : Int)))))], ofl [.tip 35 1 (xss.take (m)).flatten.length]⟩) ?_ 0 (Nat.zero_le _) trivial
    intro m hm _ hnext
    by_cases hlt : m < xss.length
    · have hlt' : (m : Int) < (xss.length : Int) := by omega
      have hm1 := wrap_succ hlt (by omega)
      have hg := get_some hlt
      have hln := flat_lenC hlt
      have hle := flat_le (l := xss) (m + 1)
      have hsn := flat_snoc hlt
      have hA : (xss.take (m + 1)).flatten.length * 24 ≤ 140737488355328 := by omega
      have hz' := hz xss[m] (List.getElem_mem hlt)
      refine wG Y81_CE (And.intro hlt' (And.intro hg (And.intro (@List.getElem?_map.{0, 0}) (And.intro (@Int.natCast_nonneg) (And.intro hA (And.intro hz' (And.intro hsn (And.intro hln hm1)))))))) ?_
      refine ALp.cutP 1 [(6, .sl (xss.take (m + 1)).flatten (.own 0)), (25, .sl (xss.map fun l => V.sl l .ro) .ro), (26, (.im (.int .i64 (xss.length)))), (27, (.im (.int .i64 ((((m + 1 : Nat)) : Int)))))] [.tip 35 1 (xss.take (m + 1)).flatten.length] (And.intro hI (And.intro hJ hK)) ?_
      exact hnext (m + 1) (by omega) (by omega) trivial
    obtain rfl : m = xss.length := by omega
    clear hnext
    rw [List.take_length]
    refine wG Y81_CE @Int.lt_irrefl ?_
    refine Fin.gen0 (rs := [.tmp 2]) rfl (by first | exact .inl rfl | exact .inr rfl) (finG Y81_CE) ?_
    all_goals exact wkG (And.intro hI (And.intro hJ hK))
end Go.Proofs.YtlbfgnpadggbgaaGreatDoor
namespace Go.Proofs.YtlbfgnpadggbgaaGreatDoor
set_option linter.unusedSimpArgs false
set_option linter.unusedVariables false
set_option linter.unnecessarySimpa false
open Go.RowKit
theorem nlV_eq (c : List Nd) : nlV c = .sl (c.map ndV) .ro := rfl
theorem nl_all (l : List (List Nd)) : allZ 1 (l.map nlV) = true := by
  unfold allZ
  rw [List.all_map]
  exact List.all_eq_true.2 fun x _ => rfl
theorem fit_subs {t : Nd} (h : fitN t) : (subs t).length ≤ 4194306 ∧ ∀ c ∈ subs t, fitNL c := by
  obtain ⟨_, _, _, h4, h5, h6, h7⟩ := fitN_inv h
  refine ⟨by simp [subs]; omega, fun c hc => ?_⟩
  unfold subs at hc
  rcases List.mem_cons.1 hc with rfl | hc
  · exact h4
  · rcases List.mem_cons.1 hc with rfl | hc
    · exact h5
    · exact h7 c hc
theorem Y67_CF : type_of% (And.intro @F_ag_35 (And.intro @F_ag_36 (And.intro @F_al_35 (And.intro @F_al_36 (And.intro @F_el_150 (And.intro @F_el_36 (And.intro @F_fl_38_4 (And.intro @F_fl_38_5 (And.intro @F_fl_38_6 (And.intro @F_sz_35 (@F_sz_36))))))))))) := And.intro @F_ag_35 (And.intro @F_ag_36 (And.intro @F_al_35 (And.intro @F_al_36 (And.intro @F_el_150 (And.intro @F_el_36 (And.intro @F_fl_38_4 (And.intro @F_fl_38_5 (And.intro @F_fl_38_6 (And.intro @F_sz_35 (@F_sz_36))))))))))
theorem c_lists (t : Nd) (ht : t.cs.length ≤ 4194304) : PC Tryz.prog 67 [ndV t] (.sl ((subs t).map nlV) .ro) := by
  obtain ⟨k, w, n, e, l, el, cs⟩ := t
  have ht : cs.length ≤ 4194304 := ht
  have h := c_concatN (xss := [[nlV l, nlV el], cs.map nlV]) (by simp) (by
    intro xs hx
    simp only [List.mem_cons, List.not_mem_nil, or_false] at hx
    rcases hx with rfl | rfl
    · rfl
    · exact nl_all cs) (by
    intro p xs hx
    simp only [List.mem_cons, List.not_mem_nil, or_false] at hx
    rcases hx with rfl | rfl
    · simp only [V.idsL, nlV_id, Bool.and_self]
    · exact nlVs_id p cs) (by simp; omega)
  have e1 : [[nlV l, nlV el], cs.map nlV].flatten = (subs (.mk k w n e l el cs)).map nlV := by simp [subs, Nd.l, Nd.el, Nd.cs]
  rw [e1] at h
  simp only [List.map_cons, List.map_nil] at h
  refine PC.enter 12 Tryz.func67 rfl (by decide) rfl rfl (s := [(0, ndV (.mk k w n e l el cs))]) (by rfl) ?_
  rw [ndV_mk]
  refine wG Y67_CF True.intro ?_
  refine AR.callW h True.intro (And.intro ndV_id (And.intro ndLs_id (And.intro nlVs_id nlV_id))) ?_
  refine goG Y67_CF True.intro ?_
  refine wG Y67_CF True.intro ?_
  refine Fin.gen0 (rs := [.tmp 2]) rfl (by first | exact .inl rfl | exact .inr rfl) (finG Y67_CF) ?_
  all_goals exact wkG (And.intro ndV_id (And.intro ndLs_id (And.intro nlVs_id nlV_id)))
theorem max_mx {α : Type} (f : α → Int) {l : List α} {m : Nat} (h : m < l.length) : (if f l[m] > mx ((l.take m).map f) then f l[m] else mx ((l.take m).map f)) = mx ((l.take (m + 1)).map f) := by
  rw [← mx_take f h]
  split <;> omega
theorem max_mx1 {α : Type} (f : α → Int) {l : List α} {m : Nat} (h : m < l.length) : (if 1 + f l[m] > 1 + mx ((l.take m).map f) then 1 + f l[m] else 1 + mx ((l.take m).map f)) = 1 + mx ((l.take (m + 1)).map f) := by
  rw [← mx_take f h]
  split <;> omega
theorem Y47_CF : type_of% (And.intro @F_ag_35 (And.intro @F_ag_38 (And.intro @F_al_38 (And.intro @F_el_35 (And.intro @F_el_36 (And.intro @F_sz_35 (@F_sz_38))))))) := And.intro @F_ag_35 (And.intro @F_ag_38 (And.intro @F_al_38 (And.intro @F_el_35 (And.intro @F_el_36 (And.intro @F_sz_35 (@F_sz_38))))))
theorem c_depth : ∀ l : List Nd, fitNL l → cnt l ≤ 4194304 → PC Tryz.prog 47 [.sl (l.map ndV) .ro] (.im (.int .i64 (dep l))) := by
  refine subs_induct fun l hl hf hc => ?_
  have hl1 := hf.1
  show PC _ _ _ (.im (.int .i64 (mx (l.map depT))))
  refine PC.enter 33 Tryz.func47 rfl (by decide) rfl rfl (s := [(0, .sl (l.map ndV) .ro)]) (by rfl) ?_
  refine wG Y47_CF True.intro ?_
  refine AWp.loop ?_
  refine ALp.cutP 0 [(3, (.im (.int .i64 (mx ((l.take (0)).map depT))))), (9, .sl (l.map ndV) .ro), (10, (.im (.int .i64 (l.length)))), (11, (.im (.int .i64 ((((0 : Nat)) : Int)))))] [] (And.intro ndV_id (And.intro ndLs_id (And.intro nlVs_id nlV_id))) ?_
  refine ALp.upto l.length (fun _ => True) (fun m => ⟨dn 33 [(3, (.im (.int .i64 (mx ((l.take (m)).map depT))))), (9, .sl (l.map ndV) .ro), (10, (.im (.int .i64 (l.length)))), (11, (.im (.int .i64 ((((m : Nat)) : Int)))))], ofl []⟩) ?_ 0 (Nat.zero_le _) trivial
  intro m hm _ hnext
  by_cases hlt : m < l.length
  · have hlt' : (m : Int) < (l.length : Int) := by omega
    have hm1 := wrap_succ hlt (by omega)
    have hg := get_some hlt
    have ht := hf.2 _ (List.getElem_mem hlt)
    have hx := c_lists l[m] (fitN_inv ht).2.2.2.2.2.1
    obtain ⟨hs1, hs2⟩ := fit_subs ht
    have hcs : ∀ c ∈ subs l[m], 1 + cnt c ≤ cnt l := fun c hc => cnt_sub (List.getElem_mem hlt) hc
    have hR := fun c hc' => hl l[m] (List.getElem_mem hlt) c hc' (hs2 c hc') (by have := hcs c hc'; omega)
    have hmx := max_mx depT hlt
    rw [depT_eq] at hmx
    generalize subs l[m] = sb at hx hs1 hs2 hcs hR hmx
    refine wG Y47_CF (And.intro hlt' (And.intro hg ND)) ?_
    refine AR.callP hx ndV_eq (And.intro ndV_id (And.intro ndLs_id (And.intro nlVs_id nlV_id))) ?_
    refine goG Y47_CF @List.length_map.{0, 0} ?_
    refine wG Y47_CF @List.length_map.{0, 0} ?_
    refine AWp.loop ?_
    refine ALp.cutP 0 [(3, (.im (.int .i64 (mx ((l.take m).map depT))))), (6, (.im (.int .i64 (1 + mx ((sb.take (0)).map dep))))), (9, .sl (l.map ndV) .ro), (10, (.im (.int .i64 (l.length)))), (11, (.im (.int .i64 ((m : Int))))), (16, .sl (sb.map nlV) .ro), (17, (.im (.int .i64 (sb.length)))), (18, (.im (.int .i64 ((((0 : Nat)) : Int)))))] [] (And.intro ndV_id (And.intro ndLs_id (And.intro nlVs_id nlV_id))) ?_
    refine ALp.upto sb.length (fun _ => True) (fun j => ⟨dn 33 [(3, (.im (.int .i64 (mx ((l.take m).map depT))))), (6, (.im (.int .i64 (1 + mx ((sb.take (j)).map dep))))), (9, .sl (l.map ndV) .ro), (10, (.im (.int .i64 (l.length)))), (11, (.im (.int .i64 ((m : Int))))), (16, .sl (sb.map nlV) .ro), (17, (.im (.int .i64 (sb.length)))), (18, (.im (.int .i64 ((((j : Nat)) : Int)))))], ofl []⟩) ?_ 0 (Nat.zero_le _) trivial
    intro j hj _ hnext2
    by_cases hlu : j < sb.length
    · have hlu' : (j : Int) < (sb.length : Int) := by omega
      have hj1 := wrap_succ hlu (by omega)
      have hg2 := get_some hlu
      have hc2 := hR sb[j] (List.getElem_mem hlu)
      have hd0 := dep_nonneg sb[j]
      have hd1 := dep_le_cnt sb[j]
      have hd2 := hcs sb[j] (List.getElem_mem hlu)
      have hw : IntKind.i64.wrap (1 + dep sb[j]) = 1 + dep sb[j] := wrap_in (by omega)
      have hmx2 := max_mx1 dep hlu
      refine wG Y47_CF (And.intro hlu' (And.intro hg2 ND)) ?_
      refine AR.callP hc2 nlV_eq (And.intro ndV_id (And.intro ndLs_id (And.intro nlVs_id nlV_id))) ?_
      refine goG Y47_CF (And.intro hw hmx2) ?_
      refine wG Y47_CF hj1 ?_
      refine ALp.cutP 0 [(3, (.im (.int .i64 (mx ((l.take m).map depT))))), (6, (.im (.int .i64 (1 + mx ((sb.take (j + 1)).map dep))))), (9, .sl (l.map ndV) .ro), (10, (.im (.int .i64 (l.length)))), (11, (.im (.int .i64 ((m : Int))))), (16, .sl (sb.map nlV) .ro), (17, (.im (.int .i64 (sb.length)))), (18, (.im (.int .i64 ((((j + 1 : Nat)) : Int)))))] [] (And.intro ndV_id (And.intro ndLs_id (And.intro nlVs_id nlV_id))) ?_
      exact hnext2 (j + 1) (by omega) (by omega) trivial
    obtain rfl : j = sb.length := by omega
    clear hnext2
    rw [List.take_length]
    refine whG Y47_CF @Int.lt_irrefl ?_
    refine Blk'.here (Thn.n ?_)
    refine wG Y47_CF (And.intro hmx hm1) ?_
    refine ALp.cutP 0 [(3, (.im (.int .i64 (mx ((l.take (m + 1)).map depT))))), (9, .sl (l.map ndV) .ro), (10, (.im (.int .i64 (l.length)))), (11, (.im (.int .i64 ((((m + 1 : Nat)) : Int)))))] [] (And.intro ndV_id (And.intro ndLs_id (And.intro nlVs_id nlV_id))) ?_
    exact hnext (m + 1) (by omega) (by omega) trivial
  obtain rfl : m = l.length := by omega
  clear hnext
  rw [List.take_length]
  refine wG Y47_CF @Int.lt_irrefl ?_
  exact Fin.oneP
end Go.Proofs.YtlbfgnpadggbgaaGreatDoor
namespace Go.Proofs.YtlbfgnpadggbgaaGreatDoor
set_option linter.unusedSimpArgs false
set_option linter.unusedVariables false
set_option linter.unnecessarySimpa false
open Go.RowKit
/-- A statement, and whether it is in a loop. -/
def plV (p : Nd × Bool) : V := .ag [.im (.int .i64 p.1.kind), .im (.int .i64 p.1.width), .im (.string p.1.name), .sl (p.1.e.map exV) .ro, .sl (p.1.l.map ndV) .ro, .sl (p.1.el.map ndV) .ro, .sl (p.1.cs.map nlV) .ro, .im (.bool p.2)]
theorem plV_eq (p : Nd × Bool) : plV p = .ag [.im (.int .i64 p.1.kind), .im (.int .i64 p.1.width), .im (.string p.1.name), .sl (p.1.e.map exV) .ro, .sl (p.1.l.map ndV) .ro, .sl (p.1.el.map ndV) .ro, .sl (p.1.cs.map nlV) .ro, .im (.bool p.2)] := rfl
theorem plV_live (p : Nd × Bool) : (plV p).live = true := rfl
theorem plV_size (p : Nd × Bool) : (plV p).size = 8 := rfl
theorem plV_isAg (p : Nd × Bool) : (plV p).isAg = true := rfl
theorem plV_firm (p : Nd × Bool) : (plV p).firm = true := rfl
theorem plV_strip (g : Bool) (p : Nd × Bool) : strip g (plV p) = plV p := rfl
theorem plV_cells (p : Nd × Bool) : (plV p).cells = [.im (.int .i64 p.1.kind), .im (.int .i64 p.1.width), .im (.string p.1.name), .sl (p.1.e.map exV) .ro, .sl (p.1.l.map ndV) .ro, .sl (p.1.el.map ndV) .ro, .sl (p.1.cs.map nlV) .ro, .im (.bool p.2)] := rfl
theorem plV_id (p : Nat → Bool) (x : Nd × Bool) : (plV x).ids p = true := by simp [plV, V.ids, V.idsL, exL_id, ndLs_id, nlVs_id]
theorem plVs_id (p : Nat → Bool) (l : List (Nd × Bool)) : V.idsL p (l.map plV) = true := idsL_map (plV_id p) l
theorem plVs_all (l : List (Nd × Bool)) : allZ 8 (l.map plV) = true := by
  unfold allZ
  rw [List.all_map]
  exact List.all_eq_true.2 fun x _ => rfl
theorem flatMap_snoc {α β : Type} (f : α → List β) {l : List α} {m : Nat} (h : m < l.length) : (l.take m).flatMap f ++ f l[m] = (l.take (m + 1)).flatMap f := by
  rw [List.take_succ_eq_append_getElem h, List.flatMap_append]
  simp
theorem flatMap_le {α β : Type} (f : α → List β) (l : List α) (m : Nat) : ((l.take m).flatMap f).length ≤ (l.flatMap f).length := by
  have h : l.flatMap f = (l.take m).flatMap f ++ (l.drop m).flatMap f := by rw [← List.flatMap_append, List.take_append_drop]
  rw [h, List.length_append]
  omega
theorem Y49_CG : type_of% (And.intro @F_ag_3 (And.intro @F_ag_35 (And.intro @F_ag_38 (And.intro @F_al_38 (And.intro @F_al_85 (And.intro @F_by_85 (And.intro @F_el_35 (And.intro @F_el_36 (And.intro @F_el_82 (And.intro @F_fl_38_0 (And.intro @F_st_85 (And.intro @F_sz_3 (And.intro @F_sz_35 (And.intro @F_sz_38 (@F_sz_85))))))))))))))) := And.intro @F_ag_3 (And.intro @F_ag_35 (And.intro @F_ag_38 (And.intro @F_al_38 (And.intro @F_al_85 (And.intro @F_by_85 (And.intro @F_el_35 (And.intro @F_el_36 (And.intro @F_el_82 (And.intro @F_fl_38_0 (And.intro @F_st_85 (And.intro @F_sz_3 (And.intro @F_sz_35 (And.intro @F_sz_38 (@F_sz_85))))))))))))))
theorem c_all : ∀ l : List Nd, fitNL l → cnt l ≤ 4194304 → ∀ lp : Bool, PC Tryz.prog 49 [.sl (l.map ndV) .ro, (.im (.bool (lp)))] (.sl ((allL l lp).map plV) .ro) := by
  refine subs_induct fun l hl hf hc lp => ?_
  have hl1 := hf.1
  have hlen := allL_len l lp
  unfold allL at hlen ⊢
  refine PC.enter 47 Tryz.func49 rfl (by decide) rfl rfl (s := [(0, .sl (l.map ndV) .ro), (1, (.im (.bool (lp))))]) (by rfl) ?_
  refine wG Y49_CG True.intro ?_
  refine AWp.loop ?_
  refine ALp.ghost 5 [] .nl 85 8 ?_
  refine ALp.cutP 1 [(1, (.im (.bool (lp)))), (5, .sl (((l.take (0)).flatMap fun t => allT t lp).map plV) (.own 0)), (10, .sl (l.map ndV) .ro), (11, (.im (.int .i64 (l.length)))), (12, (.im (.int .i64 ((((0 : Nat)) : Int)))))] [.tip 85 8 ((l.take (0)).flatMap fun t => allT t lp).length] (And.intro ndV_id (And.intro ndLs_id (And.intro nlVs_id (And.intro nlV_id (And.intro plV_id (And.intro plVs_id @exL_id)))))) ?_
  refine ALp.upto l.length (fun _ => True) (fun m => ⟨dn 47 [(1, (.im (.bool (lp)))), (5, .sl (((l.take (m)).flatMap fun t => allT t lp).map plV) (.own 0)), (10, .sl (l.map ndV) .ro), (11, (.im (.int .i64 (l.length)))), (12, (.im (.int .i64 ((((m : Nat)) : Int)))))], ofl [.tip 85 8 ((l.take (m)).flatMap fun t => allT t lp).length]⟩) ?_ 0 (Nat.zero_le _) trivial
  intro m hm _ hnext
  by_cases hlt : m < l.length
  · have hlt' : (m : Int) < (l.length : Int) := by omega
    have hm1 := wrap_succ hlt (by omega)
    have hg := get_some hlt
    have ht := hf.2 _ (List.getElem_mem hlt)
    have hx := c_lists l[m] (fitN_inv ht).2.2.2.2.2.1
    obtain ⟨hs1, hs2⟩ := fit_subs ht
    have hcs : ∀ c ∈ subs l[m], 1 + cnt c ≤ cnt l := fun c hc => cnt_sub (List.getElem_mem hlt) hc
    have hR := fun c hc' => hl l[m] (List.getElem_mem hlt) c hc' (hs2 c hc') (by have := hcs c hc'; omega) (inL l[m] lp)
    have hsn := flatMap_snoc (fun t => allT t lp) hlt
    have hle := flatMap_le (fun t => allT t lp) l (m + 1)
    have hle0 := flatMap_le (fun t => allT t lp) l m
    simp only [allT_eq l[m]] at hsn
    generalize hA : (l.take m).flatMap (fun t => allT t lp) = A at hsn hle0 ⊢
    generalize hsb : subs l[m] = sb at hx hs1 hs2 hcs hR hsn
    obtain ⟨Bf, hBf⟩ : ∃ Bf : Nat → List (Nd × Bool), ∀ j, Bf j = A ++ (l[m], lp) :: (sb.take j).flatMap fun c => allL c (inL l[m] lp) := ⟨_, fun _ => rfl⟩
    have hap : A.map plV ++ [.ag [.im (.int .i64 l[m].kind), .im (.int .i64 l[m].width), .im (.string l[m].name), .sl (l[m].e.map exV) .ro, .sl (l[m].l.map ndV) .ro, .sl (l[m].el.map ndV) .ro, .sl (l[m].cs.map nlV) .ro, .im (.bool lp)]] = (Bf 0).map plV := by
      rw [hBf]; simp [plV]
    have hone : A.length + 1 = (Bf 0).length := by rw [hBf]; simp
    have hend : Bf sb.length = (l.take (m + 1)).flatMap fun t => allT t lp := by
      rw [hBf, List.take_length, ← hsn]
    have hstep : ∀ j (hj : j < sb.length), Bf j ++ allL sb[j] (inL l[m] lp) = Bf (j + 1) := fun j hj => by
      rw [hBf, hBf, ← flatMap_snoc _ hj, List.append_assoc, List.cons_append]
    have hlen2 : ∀ j, (Bf j).length ≤ (Bf sb.length).length := fun j => by
      rw [hBf, hBf, List.length_append, List.length_append, List.length_cons, List.length_cons, List.take_length]
      have := flatMap_le (fun c => allL c (inL l[m] lp)) sb j
      omega
    rw [hend] at hlen2
    have hb : (A.length + 1) * 136 ≤ 140737488355328 := by omega
    have hb0 : (Bf 0).length * 136 ≤ 140737488355328 := by have := hlen2 0; omega
    refine wG Y49_CG (And.intro hlt' (And.intro hg (And.intro hb (And.intro hb0 (And.intro hap (And.intro hone ND)))))) ?_
    refine AR.callP hx ndV_eq (And.intro ndV_id (And.intro ndLs_id (And.intro nlVs_id (And.intro nlV_id (And.intro plV_id (And.intro plVs_id @exL_id)))))) ?_
    refine goG Y49_CG (And.intro (@List.length_map.{0, 0}) ND) ?_
    refine wG Y49_CG (And.intro (@List.length_map.{0, 0}) ND) ?_
    refine AWp.loop ?_
    refine ALp.cutP 2 [(1, (.im (.bool (lp)))), (5, .sl ((Bf (0)).map plV) (.own 0)), (7, .pt 1 0), (10, .sl (l.map ndV) .ro), (11, (.im (.int .i64 (l.length)))), (12, (.im (.int .i64 ((m : Int))))), (23, .sl (sb.map nlV) .ro), (24, (.im (.int .i64 (sb.length)))), (25, (.im (.int .i64 ((((0 : Nat)) : Int)))))] [.tip 85 8 (Bf (0)).length, .box [.im (.int .i64 l[m].kind), .im (.int .i64 l[m].width), .im (.string l[m].name), .sl (l[m].e.map exV) .ro, .sl (l[m].l.map ndV) .ro, .sl (l[m].el.map ndV) .ro, .sl (l[m].cs.map nlV) .ro]] (And.intro ndV_id (And.intro ndLs_id (And.intro nlVs_id (And.intro nlV_id (And.intro plV_id (And.intro plVs_id @exL_id)))))) ?_
    refine ALp.upto sb.length (fun _ => True) (fun j => ⟨dn 47 [(1, (.im (.bool (lp)))), (5, .sl ((Bf (j)).map plV) (.own 0)), (7, .pt 1 0), (10, .sl (l.map ndV) .ro), (11, (.im (.int .i64 (l.length)))), (12, (.im (.int .i64 ((m : Int))))), (23, .sl (sb.map nlV) .ro), (24, (.im (.int .i64 (sb.length)))), (25, (.im (.int .i64 ((((j : Nat)) : Int)))))], ofl [.tip 85 8 (Bf (j)).length, .box [.im (.int .i64 l[m].kind), .im (.int .i64 l[m].width), .im (.string l[m].name), .sl (l[m].e.map exV) .ro, .sl (l[m].l.map ndV) .ro, .sl (l[m].el.map ndV) .ro, .sl (l[m].cs.map nlV) .ro]]⟩) ?_ 0 (Nat.zero_le _) trivial
    intro j hj _ hnext2
    by_cases hlu : j < sb.length
    · have hlu' : (j : Int) < (sb.length : Int) := by omega
      have hj1 := wrap_succ hlu (by omega)
      have hg2 := get_some hlu
      have hc2 := hR sb[j] (List.getElem_mem hlu)
      have hs3 := congrArg (List.map plV) (hstep j hlu)
      rw [List.map_append] at hs3
      have hs4 := congrArg List.length (hstep j hlu)
      rw [List.length_append] at hs4
      have hb1 : (Bf (j + 1)).length * 136 ≤ 140737488355328 := by have := hlen2 (j + 1); omega
      refine wG Y49_CG (And.intro hlu' (And.intro hg2 ND)) ?_
      have hin : inL l[m] lp = (lp || decide (l[m].kind = 7) || decide (l[m].kind = 8)) := rfl
      refine AR.callP hc2 (And.intro nlV_eq hin) (And.intro ndV_id (And.intro ndLs_id (And.intro nlVs_id (And.intro nlV_id (And.intro plV_id (And.intro plVs_id @exL_id)))))) ?_
      refine goG Y49_CG (And.intro hs3 (And.intro hs4 (And.intro hb1 (And.intro plVs_all @List.length_map.{0, 0})))) ?_
      refine wG Y49_CG hj1 ?_
      refine ALp.cutP 2 [(1, (.im (.bool (lp)))), (5, .sl ((Bf (j + 1)).map plV) (.own 0)), (7, .pt 1 0), (10, .sl (l.map ndV) .ro), (11, (.im (.int .i64 (l.length)))), (12, (.im (.int .i64 ((m : Int))))), (23, .sl (sb.map nlV) .ro), (24, (.im (.int .i64 (sb.length)))), (25, (.im (.int .i64 ((((j + 1 : Nat)) : Int)))))] [.tip 85 8 (Bf (j + 1)).length, .box [.im (.int .i64 l[m].kind), .im (.int .i64 l[m].width), .im (.string l[m].name), .sl (l[m].e.map exV) .ro, .sl (l[m].l.map ndV) .ro, .sl (l[m].el.map ndV) .ro, .sl (l[m].cs.map nlV) .ro]] (And.intro ndV_id (And.intro ndLs_id (And.intro nlVs_id (And.intro nlV_id (And.intro plV_id (And.intro plVs_id @exL_id)))))) ?_
      exact hnext2 (j + 1) (by omega) (by omega) trivial
    obtain rfl : j = sb.length := by omega
    clear hnext2
    rw [hend]
    refine whG Y49_CG @Int.lt_irrefl ?_
    refine Blk'.here (Thn.n ?_)
    refine wG Y49_CG hm1 ?_
    refine ALp.cutP 1 [(1, (.im (.bool (lp)))), (5, .sl (((l.take (m + 1)).flatMap fun t => allT t lp).map plV) (.own 0)), (10, .sl (l.map ndV) .ro), (11, (.im (.int .i64 (l.length)))), (12, (.im (.int .i64 ((((m + 1 : Nat)) : Int)))))] [.tip 85 8 ((l.take (m + 1)).flatMap fun t => allT t lp).length] (And.intro ndV_id (And.intro ndLs_id (And.intro nlVs_id (And.intro nlV_id (And.intro plV_id (And.intro plVs_id @exL_id)))))) ?_
    exact hnext (m + 1) (by omega) (by omega) trivial
  obtain rfl : m = l.length := by omega
  clear hnext
  rw [List.take_length]
  refine wG Y49_CG @Int.lt_irrefl ?_
  refine Fin.gen0 (rs := [.tmp 4]) rfl (by first | exact .inl rfl | exact .inr rfl) (finG Y49_CG) ?_
  all_goals exact wkG (And.intro ndV_id (And.intro ndLs_id (And.intro nlVs_id (And.intro nlV_id (And.intro plV_id (And.intro plVs_id @exL_id))))))
end Go.Proofs.YtlbfgnpadggbgaaGreatDoor
