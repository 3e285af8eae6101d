/- Walks: tokens are printed; the place of a token. -/
import Derived.Test.YtjilcaemoebloaaDoorHv
import Derived.Test.YtjilcaemoebloaaDoorT18
import Derived.Test.YtjilcaemoebloaaDoorSk
import Derived.Test.YtjilcaemoebloaaDoorTd
import Derived.Lib.SmallJoins
namespace Go.Proofs.YtjilcaemoebloaaDoor
set_option linter.unusedSimpArgs false
set_option linter.unusedVariables false
set_option linter.unnecessarySimpa false
open Go.RowKit
theorem joinB_cons (x : Bs) (r : List Bs) : joinB (x :: r) = x ++ (r.map ([32] ++ ·)).flatten := by
  induction r generalizing x with
  | nil => simp [joinB]
  | cons y r ih =>
    rw [show joinB (x :: y :: r) = x ++ 32 :: joinB (y :: r) from rfl, ih y]
    simp
theorem joinB_join (l : List Bs) : Lib.join l [32] = joinB l := by
  cases l with
  | nil => rfl
  | cons x r => rw [Lib.join_cons, joinB_cons]; rfl
def sV (b : Bs) : V := .im (.string ⟨b.toArray⟩)
theorem cell_spot {w : World} {a : Addr} {v : Value} (h : w.cell? a = some v) : a.spot = none ∧ a.block < w.heap.size := by
  unfold World.cell? at h
  split at h
  · rename_i hb
    split at h
    · cases h
    · rename_i hs
      refine ⟨by simpa using hs, ?_⟩
      exact (Array.getElem?_eq_some_iff.1 hb).1
  · cases h
theorem c_join (l : List Bs) (hN : l.length ≤ 140737488355328) (hlen : (joinB l).length ≤ 140737488355328) : PC Tryd.prog 28 [.sl (l.map sV) .ro, .im (.string ⟨([32]).toArray⟩)] (.im (.string ⟨(joinB l).toArray⟩)) := by
  refine PC.ofBelow (by kernel_rfl) fun C vs hC hsz hR => ?_
  obtain ⟨v0, v1, rfl⟩ : ∃ v0 v1, vs = #[v0, v1] := Go.Joins.array2 hsz
  have h1 : R C (.im (.string ⟨([32]).toArray⟩)) v1 := hR 1 (by simp)
  have h0 : R C (.sl (l.map sV) .ro) v0 := hR 0 (by simp)
  obtain rfl : v1 = .string ⟨#[32]⟩ := h1.im_eq
  cases h0 with
  | @sl _ _ a cap z u hc hm hz h hr hk =>
    cases l with
    | nil =>
      refine (Tryd.strings_Join_none a cap ⟨#[32]⟩ C.w).mono ?_
      rintro e w' ⟨rfl, rfl⟩
      exact ⟨_, rfl, fun _ => .im rfl, Below.refl _ _⟩
    | cons x r =>
      have hz1 : z = 1 := ((hz 0 (by simp)).1).symm
      subst hz1
      have hu : ∀ j (hj : j < ((x :: r).map sV).length), u j = .string ⟨((x :: r)[j]'(by simpa using hj)).toArray⟩ := fun j hj => by
        have h2 := h j hj
        rw [List.getElem_map] at h2
        exact h2.im_eq
      obtain ⟨ad, rfl, h3⟩ := hr 0 (by simp)
      have hrd : ∀ j (hj : j < ((x :: r).map sV).length), C.w.cell? ((ad.add (j * 1)).add 0) = some (.string ⟨((x :: r)[j]'(by simpa using hj)).toArray⟩) := fun j hj => by
        obtain ⟨ad', e1, h4⟩ := hr j hj
        cases e1
        exact (h4 0 _ (by rw [hu j hj]; rfl)).1
      have h4 := cell_spot (hrd 0 (by simp))
      obtain ⟨bk, o, sp⟩ := ad
      have hsp : sp = none := h4.1
      subst hsp
      have := Tryd.strings_Join bk o cap ((x :: r).map fun b => ⟨b.toArray⟩) ⟨#[32]⟩ C.w (fun j y hj => ?_) h4.2 (by rw [List.length_map]; exact hN) (by simpa using hc) (by
        rw [List.map_map, show List.map ((fun b : ByteArray => b.data.toList) ∘ fun b : Bs => (⟨b.toArray⟩ : ByteArray)) (x :: r) = x :: r from List.map_id' _, show (ByteArray.mk #[32]).data.toList = [32] from rfl, joinB_join]; exact hlen)
      · rw [List.map_map, show List.map ((fun b : ByteArray => b.data.toList) ∘ fun b : Bs => (⟨b.toArray⟩ : ByteArray)) (x :: r) = x :: r from List.map_id' _, show (ByteArray.mk #[32]).data.toList = [32] from rfl, joinB_join] at this
        rw [List.length_map] at this ⊢
        refine this.mono ?_
        rintro e w' ⟨rfl, hb⟩
        exact ⟨_, rfl, fun _ => .im rfl, hb⟩
      · obtain ⟨hlt, rfl⟩ := List.getElem?_eq_some_iff.1 hj
        have h5 := hrd j (by simpa using hlt)
        rw [Addr.add_lit, Addr.add_lit, Nat.mul_one] at h5
        rw [List.getElem_map]
        exact h5
theorem sV_live (v : Bs) : (sV v).live = true := rfl
theorem sV_size (v : Bs) : (sV v).size = 1 := rfl
theorem sV_isAg (v : Bs) : (sV v).isAg = false := rfl
theorem sV_firm (v : Bs) : (sV v).firm = true := rfl
theorem sV_strip (g : Bool) (v : Bs) : strip g (sV v) = sV v := rfl
theorem sV_cells (t : Bs) : (sV t).cells = [.im (.string ⟨(t).toArray⟩)] := rfl
theorem sL_id (p : Nat → Bool) (l : List Bs) : V.idsL p (l.map sV) = true := idsL_map (fun _ => rfl) l
theorem sL_ren (g : Nat → Nat) (l : List Bs) : V.renL g (l.map sV) = l.map sV := V.renL_id g _ (sL_id _ l)
/-- What Print says of tokens. -/
theorem shwR_some {t : Tk} {s : Bs} (h : shw t = some s) : shwR t = (s, true) := by unfold shwR; rw [h]
theorem shwR_none {t : Tk} (h : shw t = none) : shwR t = ([], false) := by unfold shwR; rw [h]
theorem filterMap_take {l : List Tk} {m : Nat} (h : m < l.length) : (l.take (m + 1)).filterMap shw = (l.take m).filterMap shw ++ (shw l[m]).toList := by
  rw [List.take_succ_eq_append_getElem h, List.filterMap_append]
  congr 1
theorem Y14_T19 : type_of% (And.intro @F_ag_30 (And.intro @F_al_30 (And.intro @F_al_9 (And.intro @F_by_9 (And.intro @F_el_24 (And.intro @F_el_53 (And.intro @F_sz_30 (@F_sz_9)))))))) := And.intro @F_ag_30 (And.intro @F_al_30 (And.intro @F_al_9 (And.intro @F_by_9 (And.intro @F_el_24 (And.intro @F_el_53 (And.intro @F_sz_30 (@F_sz_9)))))))
set_option maxHeartbeats 1000000 in
theorem c_Print (l : List Tk) (hl : l.length ≤ 4194304) (ht : ∀ t ∈ l, TkOk t) (hp : (prn l).length ≤ 140737488355328) : PC Tryd.prog 14 [.sl (l.map tkV) .ro] (.im (.string ⟨(prn l).toArray⟩)) := by
  refine PC.enter 27 Tryd.func14 rfl (by decide) rfl rfl (s := [(0, .sl (l.map tkV) .ro)]) (by rfl) ?_
  refine wG Y14_T19 TKT ?_
  refine AWp.loop ?_
  refine ALp.ghost 3 [] .nl 9 1 ?_
  suffices H : ∀ (k m : Nat) (A : List Bs), l.length - m = k → m ≤ l.length → A = (l.take m).filterMap shw → A.length ≤ m → ALp _ _ _ _ _ ⟨dn 27 [(3, .sl (A.map sV) (.own 0)), (8, .sl (l.map tkV) .ro), (9, (.im (.int .i64 (l.length)))), (10, (.im (.int .i64 ((((m : Nat)) : Int)))))], ofl [.tip 9 1 A.length]⟩ by
    refine ALp.cutP 1 [(3, .sl (([] : List Bs).map sV) (.own 0)), (8, .sl (l.map tkV) .ro), (9, (.im (.int .i64 (l.length)))), (10, (.im (.int .i64 ((((0 : Nat)) : Int)))))] [.tip 9 1 ([] : List Bs).length] (And.intro tkL_id (And.intro tkV_id (And.intro byL_id sL_id))) ?_
    exact H _ 0 [] rfl (Nat.zero_le _) rfl (Nat.zero_le _)
  intro k
  induction k using Nat.strongRecOn with
  | _ k ih =>
  intro m A hk hm hA hAl
  refine ALp.round ?_
  by_cases hlt : m < l.length
  case neg =>
    obtain rfl : m = l.length := by omega
    have hn : ¬ (l.length : Int) < (l.length : Int) := by omega
    rw [List.take_length] at hA
    have hE : prn l = joinB A := by rw [hA]; rfl
    rw [hE] at hp ⊢
    have qj := c_join A (by omega) hp
    clear ih
    refine wG Y14_T19 hn ?_
    refine AR.callW qj True.intro (And.intro tkL_id (And.intro tkV_id (And.intro byL_id sL_id))) ?_
    refine goG Y14_T19 True.intro ?_
    refine wG Y14_T19 True.intro ?_
    refine Fin.gen0 (rs := [.tmp 2]) rfl (by first | exact .inl rfl | exact .inr rfl) (by simp only [resX, resA, ↓accU_f, ↓reduceIte, SA, SB, SC, SD, Y14_T19, valG, fpsG, evO, evB, evA, evA1, nilK, eqF, eqC, apOk, intOf, slB, slK,  gd, St.ev, putA, ofl, wrl, putE, V.ofVal, V.ofCell, bin2, un1, seg, fillV, partsOk, Value.oneCell', Nat.reduceBEq, Nat.reduceLT, Nat.reduceSub, Nat.reduceAdd, Nat.reduceMul, Nat.reduceLeDiff, Nat.reduceEqDiff, reduceCtorEq, Int.reduceLT, Int.reduceLE, Int.reduceEq, Int.reduceNe, Int.reduceBEq, Int.reduceBNe, Int.reduceAdd, Int.reduceSub, Int.reduceMul, Int.reduceToNat]; with_reducible exact rfl) ?_
    repeat (first | exact WkF.of (Wk.refl _) (by first | rfl | simp only [List.length_cons, List.length_nil, Nat.reduceAdd, V.ids, V.idsL, idsA, entOk, List.all_cons, List.all_nil, Bool.and_self, Bool.and_true, Bool.true_and, ltB, noId, Nat.reduceLT, decide_true, Bool.true_eq_false, tyV_id, fdV_id, tyL_id, fdL_id, tkL_id, tkV_id, byL_id, sL_id]) | exact WkF.of (Wk.ro _ _) (by first | rfl | simp only [List.length_cons, List.length_nil, Nat.reduceAdd, V.ids, V.idsL, idsA, entOk, List.all_cons, List.all_nil, Bool.and_self, Bool.and_true, Bool.true_and, ltB, noId, Nat.reduceLT, decide_true, Bool.true_eq_false, tyV_id, fdV_id, tyL_id, fdL_id, tkL_id, tkV_id, byL_id, sL_id]) | refine WkF.tu ?_ | refine WkF.ag ?_ | refine WkFL.cons ?_ ?_ | exact WkFL.nil)
  have hlt' : (m : Int) < (l.length : Int) := by omega
  have hw1 := wrap_succ hlt (by omega)
  have hg : l[m]? = some l[m] := List.getElem?_eq_getElem hlt
  have hst := filterMap_take hlt
  have hok := ht l[m] (List.getElem_mem hlt)
  have qs := c_show l[m] hok.1 hok.2
  generalize l[m] = t at hg hst qs
  cases hs : shw t with
  | none =>
    rw [shwR_none hs] at qs
    rw [hs] at hst
    have hI := ih (l.length - (m + 1)) (by omega) (m + 1) A rfl (by omega) (by rw [hst, hA]; simp) (by omega)
    clear ih hst
    refine wG Y14_T19 (And.intro TKT (And.intro hlt' hg)) ?_
    refine AR.callP qs tkV_eq (And.intro tkL_id (And.intro tkV_id (And.intro byL_id sL_id))) ?_
    refine goG Y14_T19 (And.intro TKT hw1) ?_
    refine wG Y14_T19 hw1 ?_
    refine ALp.cutP 1 [(3, .sl (A.map sV) (.own 0)), (8, .sl (l.map tkV) .ro), (9, (.im (.int .i64 (l.length)))), (10, (.im (.int .i64 ((((m + 1 : Nat)) : Int)))))] [.tip 9 1 A.length] (And.intro tkL_id (And.intro tkV_id (And.intro byL_id sL_id))) ?_
    exact hI
  | some s =>
    rw [shwR_some hs] at qs
    rw [hs] at hst
    obtain ⟨B, hB⟩ : ∃ B, B = A ++ [s] := ⟨_, rfl⟩
    have hI := ih (l.length - (m + 1)) (by omega) (m + 1) B rfl (by omega) (by rw [hst, hB, hA]; simp) (by rw [hB]; simp; omega)
    have hAs : A.map sV ++ [.im (.string ⟨(s).toArray⟩)] = B.map sV := by rw [hB, List.map_append]; rfl
    have hAk : A.length + 1 = B.length := by rw [hB]; simp
    have hbl : B.length ≤ 140737488355328 := by omega
    have hbl2 : B.length * 16 ≤ 140737488355328 := by omega
    clear ih hst hB
    refine wG Y14_T19 (And.intro TKT (And.intro hlt' hg)) ?_
    refine AR.callP qs tkV_eq (And.intro tkL_id (And.intro tkV_id (And.intro byL_id sL_id))) ?_
    refine goG Y14_T19 (And.intro TKT hw1) ?_
    refine wG Y14_T19 (And.intro hw1 (And.intro hAs (And.intro hAk (And.intro hbl (And.intro hbl2 (And.intro (@List.length_map.{0, 0}) @Nat.mul_one)))))) ?_
    refine ALp.cutP 1 [(3, .sl (B.map sV) (.own 0)), (8, .sl (l.map tkV) .ro), (9, (.im (.int .i64 (l.length)))), (10, (.im (.int .i64 ((((m + 1 : Nat)) : Int)))))] [.tip 9 1 B.length] (And.intro tkL_id (And.intro tkV_id (And.intro byL_id sL_id))) ?_
    exact hI
/-- What Position gives. -/
def posR (l : List Tk) (k : Int) : Int × Int := if k < 0 then (1, 1) else match l[min k.toNat (l.length - 1)]? with
  | some t => (t.line, t.col)
  | none => (1, 1)
theorem Y22_T19 : type_of% (And.intro @F_ag_3 (And.intro @F_ag_30 (And.intro @F_al_30 (And.intro @F_el_24 (And.intro @F_fl_30_3 (And.intro @F_fl_30_4 (And.intro @F_sz_3 (@F_sz_30)))))))) := And.intro @F_ag_3 (And.intro @F_ag_30 (And.intro @F_al_30 (And.intro @F_el_24 (And.intro @F_fl_30_3 (And.intro @F_fl_30_4 (And.intro @F_sz_3 (@F_sz_30)))))))
theorem c_Position (l : List Tk) (k : Int) (hl : l.length ≤ 4194304) : PC Tryd.prog 22 [.sl (l.map tkV) .ro, (.im (.int .i64 (k)))] (.tu [(.im (.int .i64 ((posR l k).1))), (.im (.int .i64 ((posR l k).2)))]) := by
  by_cases h0 : k < 0
  · rw [show posR l k = (1, 1) from if_pos h0]
    refine PC.enter 26 Tryd.func22 rfl (by decide) rfl rfl (s := [(0, .sl (l.map tkV) .ro), (1, (.im (.int .i64 (k))))]) (by rfl) ?_
    refine wG Y22_T19 (And.intro TKT h0) ?_
    refine Fin.gen0 (rs := [.tmp 4, .tmp 5]) rfl (by first | exact .inl rfl | exact .inr rfl) (by simp only [resX, resA, ↓accU_f, ↓reduceIte, SA, SB, SC, SD, Y22_T19, valG, fpsG, evO, evB, evA, evA1, nilK, eqF, eqC, apOk, intOf, slB, slK,  gd, St.ev, putA, ofl, wrl, putE, V.ofVal, V.ofCell, bin2, un1, seg, fillV, partsOk, Value.oneCell', Nat.reduceBEq, Nat.reduceLT, Nat.reduceSub, Nat.reduceAdd, Nat.reduceMul, Nat.reduceLeDiff, Nat.reduceEqDiff, reduceCtorEq, Int.reduceLT, Int.reduceLE, Int.reduceEq, Int.reduceNe, Int.reduceBEq, Int.reduceBNe, Int.reduceAdd, Int.reduceSub, Int.reduceMul, Int.reduceToNat]; with_reducible exact rfl) ?_
    repeat (first | exact WkF.of (Wk.refl _) (by first | rfl | simp only [List.length_cons, List.length_nil, Nat.reduceAdd, V.ids, V.idsL, idsA, entOk, List.all_cons, List.all_nil, Bool.and_self, Bool.and_true, Bool.true_and, ltB, noId, Nat.reduceLT, decide_true, Bool.true_eq_false, tyV_id, fdV_id, tyL_id, fdL_id, tkL_id, tkV_id, byL_id, sL_id]) | exact WkF.of (Wk.ro _ _) (by first | rfl | simp only [List.length_cons, List.length_nil, Nat.reduceAdd, V.ids, V.idsL, idsA, entOk, List.all_cons, List.all_nil, Bool.and_self, Bool.and_true, Bool.true_and, ltB, noId, Nat.reduceLT, decide_true, Bool.true_eq_false, tyV_id, fdV_id, tyL_id, fdL_id, tkL_id, tkV_id, byL_id, sL_id]) | refine WkF.tu ?_ | refine WkF.ag ?_ | refine WkFL.cons ?_ ?_ | exact WkFL.nil)
  cases hE : l with
  | nil =>
    rw [show posR [] k = (1, 1) by unfold posR; split <;> rfl]
    refine PC.enter 26 Tryd.func22 rfl (by decide) rfl rfl (s := [(0, .sl (([] : List Tk).map tkV) .ro), (1, (.im (.int .i64 (k))))]) (by rfl) ?_
    refine wG Y22_T19 (And.intro TKT h0) ?_
    refine Fin.gen0 (rs := [.tmp 4, .tmp 5]) rfl (by first | exact .inl rfl | exact .inr rfl) (by simp only [resX, resA, ↓accU_f, ↓reduceIte, SA, SB, SC, SD, Y22_T19, valG, fpsG, evO, evB, evA, evA1, nilK, eqF, eqC, apOk, intOf, slB, slK,  gd, St.ev, putA, ofl, wrl, putE, V.ofVal, V.ofCell, bin2, un1, seg, fillV, partsOk, Value.oneCell', Nat.reduceBEq, Nat.reduceLT, Nat.reduceSub, Nat.reduceAdd, Nat.reduceMul, Nat.reduceLeDiff, Nat.reduceEqDiff, reduceCtorEq, Int.reduceLT, Int.reduceLE, Int.reduceEq, Int.reduceNe, Int.reduceBEq, Int.reduceBNe, Int.reduceAdd, Int.reduceSub, Int.reduceMul, Int.reduceToNat]; with_reducible exact rfl) ?_
    repeat (first | exact WkF.of (Wk.refl _) (by first | rfl | simp only [List.length_cons, List.length_nil, Nat.reduceAdd, V.ids, V.idsL, idsA, entOk, List.all_cons, List.all_nil, Bool.and_self, Bool.and_true, Bool.true_and, ltB, noId, Nat.reduceLT, decide_true, Bool.true_eq_false, tyV_id, fdV_id, tyL_id, fdL_id, tkL_id, tkV_id, byL_id, sL_id]) | exact WkF.of (Wk.ro _ _) (by first | rfl | simp only [List.length_cons, List.length_nil, Nat.reduceAdd, V.ids, V.idsL, idsA, entOk, List.all_cons, List.all_nil, Bool.and_self, Bool.and_true, Bool.true_and, ltB, noId, Nat.reduceLT, decide_true, Bool.true_eq_false, tyV_id, fdV_id, tyL_id, fdL_id, tkL_id, tkV_id, byL_id, sL_id]) | refine WkF.tu ?_ | refine WkF.ag ?_ | refine WkFL.cons ?_ ?_ | exact WkFL.nil)
  | cons x r =>
  rw [← hE]
  have hpos : 1 ≤ l.length := by rw [hE]; simp
  clear hE
  have hne : ¬ (l.length : Int) = 0 := by omega
  have hw : IntKind.i64.wrap ((l.length : Int) - 1) = ((l.length - 1 : Nat) : Int) := by rw [wrap_in (by omega)]; omega
  obtain ⟨j, hj⟩ : ∃ j, j = min k.toNat (l.length - 1) := ⟨_, rfl⟩
  have hjl : j < l.length := by omega
  have hg : l[j]? = some l[j] := List.getElem?_eq_getElem hjl
  have hR : posR l k = (l[j].line, l[j].col) := by
    unfold posR
    rw [if_neg h0, ← hj, hg]
  rw [hR]
  clear hR
  generalize l[j] = t at hg
  have hmin : (if ((l.length - 1 : Nat) : Int) < k then ((l.length - 1 : Nat) : Int) else k) = (j : Int) := by split <;> omega
  refine PC.enter 26 Tryd.func22 rfl (by decide) rfl rfl (s := [(0, .sl (l.map tkV) .ro), (1, (.im (.int .i64 (k))))]) (by rfl) ?_
  refine wG Y22_T19 (And.intro TKT (And.intro h0 hne)) ?_
  refine wdG Y22_T19 (And.intro TKT (And.intro h0 (And.intro hne (And.intro hw (And.intro hg (And.intro hmin @Int.toNat_natCast)))))) ?_
  refine Fin.gen0 (rs := [.tmp 4, .tmp 5]) rfl (by first | exact .inl rfl | exact .inr rfl) (by simp only [resX, resA, ↓accU_f, ↓reduceIte, SA, SB, SC, SD, Y22_T19, valG, fpsG, evO, evB, evA, evA1, nilK, eqF, eqC, apOk, intOf, slB, slK,  gd, St.ev, putA, ofl, wrl, putE, V.ofVal, V.ofCell, bin2, un1, seg, fillV, partsOk, Value.oneCell', Nat.reduceBEq, Nat.reduceLT, Nat.reduceSub, Nat.reduceAdd, Nat.reduceMul, Nat.reduceLeDiff, Nat.reduceEqDiff, reduceCtorEq, Int.reduceLT, Int.reduceLE, Int.reduceEq, Int.reduceNe, Int.reduceBEq, Int.reduceBNe, Int.reduceAdd, Int.reduceSub, Int.reduceMul, Int.reduceToNat]; with_reducible exact rfl) ?_
  repeat (first | exact WkF.of (Wk.refl _) (by first | rfl | simp only [List.length_cons, List.length_nil, Nat.reduceAdd, V.ids, V.idsL, idsA, entOk, List.all_cons, List.all_nil, Bool.and_self, Bool.and_true, Bool.true_and, ltB, noId, Nat.reduceLT, decide_true, Bool.true_eq_false, tyV_id, fdV_id, tyL_id, fdL_id, tkL_id, tkV_id, byL_id, sL_id]) | exact WkF.of (Wk.ro _ _) (by first | rfl | simp only [List.length_cons, List.length_nil, Nat.reduceAdd, V.ids, V.idsL, idsA, entOk, List.all_cons, List.all_nil, Bool.and_self, Bool.and_true, Bool.true_and, ltB, noId, Nat.reduceLT, decide_true, Bool.true_eq_false, tyV_id, fdV_id, tyL_id, fdL_id, tkL_id, tkV_id, byL_id, sL_id]) | refine WkF.tu ?_ | refine WkF.ag ?_ | refine WkFL.cons ?_ ?_ | exact WkFL.nil)
end Go.Proofs.YtjilcaemoebloaaDoor

