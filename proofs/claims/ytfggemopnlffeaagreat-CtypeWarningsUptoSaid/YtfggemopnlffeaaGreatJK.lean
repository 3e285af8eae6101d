import Derived.Test.YtfggemopnlffeaaGreatHv
import Derived.Test.YtfggemopnlffeaaGreatGr
import Derived.Test.YtfggemopnlffeaaGreatNv
import Derived.Test.YtfggemopnlffeaaGreatNe
namespace Go.Proofs.YtfggemopnlffeaaGreat
set_option linter.unusedSimpArgs false
set_option linter.unusedVariables false
set_option linter.unnecessarySimpa false
open Go.RowKit
theorem flat_len {α : Type} {l : List (List α)} {m : Nat} (h : m < l.length) : (l.take m).flatten.length + l[m].length = (l.take (m + 1)).flatten.length := by
  rw [List.take_succ_eq_append_getElem h, List.flatten_append, List.length_append]
  simp
theorem flat_snoc {α : Type} {l : List (List α)} {m : Nat} (h : m < l.length) : (l.take m).flatten ++ l[m] = (l.take (m + 1)).flatten := by
  rw [List.take_succ_eq_append_getElem h, List.flatten_append]
  simp
theorem flat_le {α : Type} {l : List (List α)} (m : Nat) : (l.take m).flatten.length ≤ l.flatten.length := by
  have := List.take_append_drop m l
  have h2 : l.flatten.length = (l.take m).flatten.length + (l.drop m).flatten.length := by
    rw [← List.length_append, ← List.flatten_append, this]
  omega
theorem flat_ids' {p : Nat → Bool} {l : List (List V)} (h : ∀ xs ∈ l, V.idsL p xs = true) (m : Nat) : V.idsL p (l.take m).flatten = true := by
  refine idsL_of fun x hx => ?_
  obtain ⟨xs, h1, h2⟩ := List.mem_flatten.1 hx
  obtain ⟨i, hi, rfl⟩ := List.getElem_of_mem h2
  exact V.idsL_get (h xs (List.mem_of_mem_take h1)) i hi
theorem Y123_CE : type_of% (AI @F_ag_57 (AI @F_al_35 (AI @F_by_35 (AI @F_el_147 (AI @F_el_57 (AI @F_sz_35 (@F_sz_57))))))) := AI @F_ag_57 (AI @F_al_35 (AI @F_by_35 (AI @F_el_147 (AI @F_el_57 (AI @F_sz_35 (@F_sz_57))))))
theorem c_concatN {xss : List (List V)} (hl : xss.length ≤ 4194304) (hz : ∀ xs ∈ xss, allZ 1 xs = true) (hs : ∀ p, ∀ xs ∈ xss, V.idsL p xs = true) (hn : xss.flatten.length ≤ 16777216) : PC Tryz.prog 123 [.sl (xss.map fun l => V.sl l .ro) .ro] (.sl xss.flatten .ro) := by
  have hI : ∀ p m, V.idsL p (xss.take m).flatten = true := fun p m => flat_ids' (hs p) m
  have hK : ∀ p, V.idsL p xss.flatten = true := fun p => by have := hI p xss.length; rwa [List.take_length] at this
  have hJ : ∀ p, V.idsL p (xss.map fun l => V.sl l .ro) = true := fun p => idsL_map' xss fun x hx => by simp only [V.ids, Bool.and_true]; exact hs p x hx
  refine PC.enter 36 Tryz.func123 rfl (by decide) rfl rfl (s := [(0, .sl (xss.map fun l => V.sl l .ro) .ro)]) (by rfl) ?_
  refine wG Y123_CE @List.length_map.{0, 0} ?_
  refine AWp.loop ?_
  refine ALp.cutP 0 [(0, .sl (xss.map fun l => V.sl l .ro) .ro), (3, (.im (.int .i64 ((((xss.take (0)).flatten.length : Nat) : Int))))), (9, .sl (xss.map fun l => V.sl l .ro) .ro), (10, (.im (.int .i64 (xss.length)))), (11, (.im (.int .i64 ((((0 : Nat)) : Int)))))] [] (AI hI (AI hJ hK)) ?_
  refine ALp.upto xss.length (fun _ => True) (fun m => ⟨dn 36 [(0, .sl (xss.map fun l => V.sl l .ro) .ro), (3, (.im (.int .i64 ((((xss.take (m)).flatten.length : Nat) : Int))))), (9, .sl (xss.map fun l => V.sl l .ro) .ro), (10, (.im (.int .i64 (xss.length)))), (11, (.im (.int .i64 ((((m : Nat)) : Int)))))], ofl []⟩) ?_ 0 (Nat.zero_le _) trivial
  intro m hm _ hnext
  by_cases hlt : m < xss.length
  · have hlt' : (m : Int) < (xss.length : Int) := by omega
    have hm1 := wrap_succ hlt (by omega)
    have hg := get_some hlt
    have hln := flat_len hlt
    have hle := flat_le (l := xss) (m + 1)
    have hw : IntKind.i64.wrap (((xss.take m).flatten.length : Int) + (xss[m].length : Int)) = ((xss.take (m + 1)).flatten.length : Int) := by
      rw [wrap_in (by omega)]
      omega
    have hneg : ¬ ((xss.take (m + 1)).flatten.length : Int) < 0 := by omega
    refine wG Y123_CE (AI hlt' (AI hg (AI (@List.getElem?_map.{0, 0}) (AI (@Int.natCast_nonneg) (AI hw (AI hneg hm1)))))) ?_
    refine ALp.cutP 0 [(0, .sl (xss.map fun l => V.sl l .ro) .ro), (3, (.im (.int .i64 ((((xss.take (m + 1)).flatten.length : Nat) : Int))))), (9, .sl (xss.map fun l => V.sl l .ro) .ro), (10, (.im (.int .i64 (xss.length)))), (11, (.im (.int .i64 ((((m + 1 : Nat)) : Int)))))] [] (AI hI (AI hJ hK)) ?_
    exact hnext (m + 1) (by omega) (by omega) trivial
  obtain rfl : m = xss.length := by omega
  clear hnext
  rw [List.take_length]
  refine whG Y123_CE @Int.lt_irrefl ?_
  refine Blk'.here (Thn.n ?_)
  refine wG Y123_CE True.intro ?_
  by_cases h0 : xss.flatten.length = 0
  case' pos =>
    rw [h0]
    refine AR.callP c_growN0 @Int.natCast_zero (AI hI (AI hJ hK)) ?_
    refine goG Y123_CE @List.length_map.{0, 0} ?_
    refine wG Y123_CE @List.length_map.{0, 0} ?_
    refine AWp.loop ?_
    refine ALp.ghost 6 [] .nl 35 1 ?_
    refine ALp.cutP 1 [(6, .sl (xss.take (0)).flatten (.own 0)), (25, .sl (xss.map fun l => V.sl l .ro) .ro), (26, (.im (.int .i64 (xss.length)))), (27, (.im (.int .i64 ((((0 : Nat)) : Int)))))] [.tip 35 1 (xss.take (0)).flatten.length] (AI hI (AI hJ hK)) ?_
  case' neg =>
    have hg := c_growN xss.flatten.length (by omega) (by omega)
    refine AR.callS [0] hg rfl rfl (by first | (simp only [SR]; done) | (simp only [SR]; with_reducible exact rfl)) (by first | (simp only [SR]; done) | (simp only [SR]; with_reducible exact rfl)) (WkL.of_eq (by simp only [St.ev, V.ofVal, V.ofCell, V.size_im, getD_dn, look_cons, look_nil, Nat.reduceLT, Nat.reduceEqDiff, reduceIte, if_true, if_false, List.map_cons, List.map_nil, List.nil_append, List.cons_append, List.append_nil])) (by first | rfl | simp only [List.length_cons, List.length_nil, Nat.reduceAdd, V.ids, V.idsL, idsA, entOk, List.all_cons, List.all_nil, Bool.and_self, Bool.and_true, Bool.true_and, ltB, noId, Nat.reduceLT, decide_true, Bool.true_eq_false, tyV_id, fdV_id, tyL_id, fdL_id, hI, hJ, hK]) rfl rfl rfl (by first | rfl | simp only [List.length_cons, List.length_nil, Nat.reduceAdd, V.ids, V.idsL, idsA, entOk, List.all_cons, List.all_nil, Bool.and_self, Bool.and_true, Bool.true_and, ltB, noId, Nat.reduceLT, decide_true, Bool.true_eq_false, tyV_id, fdV_id, tyL_id, fdL_id, hI, hJ, hK]) (by intro p hp; simp only [renE, SR, Ent.ren, List.mem_cons, List.not_mem_nil, or_false] at hp; rcases hp with rfl <;> rfl) (by simp only [renE, Ent.ren, SR, wrl, putE, SC, SD, Nat.reduceBEq, Nat.reduceLT, Nat.reduceSub, Nat.reduceAdd, Nat.reduceMul, Nat.reduceLeDiff, Nat.reduceEqDiff, reduceCtorEq, Int.reduceLT, Int.reduceLE, Int.reduceEq, Int.reduceNe, Int.reduceBEq, Int.reduceBNe, Int.reduceAdd, Int.reduceSub, Int.reduceMul, Int.reduceToNat]; with_reducible exact rfl) ?_
    refine goG Y123_CE @List.length_map.{0, 0} ?_
    refine wG Y123_CE @List.length_map.{0, 0} ?_
    refine AWp.loop ?_
    refine ALp.cutP 1 [(6, .sl (xss.take (0)).flatten (.own 0)), (25, .sl (xss.map fun l => V.sl l .ro) .ro), (26, (.im (.int .i64 (xss.length)))), (27, (.im (.int .i64 ((((0 : Nat)) : Int)))))] [.tip 35 1 (xss.take (0)).flatten.length] (AI hI (AI hJ hK)) ?_
  all_goals
    refine ALp.upto xss.length (fun _ => True) (fun m => ⟨dn 36 [(6, .sl (xss.take (m)).flatten (.own 0)), (25, .sl (xss.map fun l => V.sl l .ro) .ro), (26, (.im (.int .i64 (xss.length)))), (27, (.im (.int .i64 ((((m : Nat)) : Int)))))], ofl [.tip 35 1 (xss.take (m)).flatten.length]⟩) ?_ 0 (Nat.zero_le _) trivial
    intro m hm _ hnext
    by_cases hlt : m < xss.length
    · have hlt' : (m : Int) < (xss.length : Int) := by omega
      have hm1 := wrap_succ hlt (by omega)
      have hg := get_some hlt
      have hln := flat_len hlt
      have hle := flat_le (l := xss) (m + 1)
      have hsn := flat_snoc hlt
      have hA : (xss.take (m + 1)).flatten.length * 24 ≤ 140737488355328 := by omega
      have hz' := hz xss[m] (List.getElem_mem hlt)
      refine wG Y123_CE (AI hlt' (AI hg (AI (@List.getElem?_map.{0, 0}) (AI (@Int.natCast_nonneg) (AI hA (AI hz' (AI hsn (AI hln hm1)))))))) ?_
      refine ALp.cutP 1 [(6, .sl (xss.take (m + 1)).flatten (.own 0)), (25, .sl (xss.map fun l => V.sl l .ro) .ro), (26, (.im (.int .i64 (xss.length)))), (27, (.im (.int .i64 ((((m + 1 : Nat)) : Int)))))] [.tip 35 1 (xss.take (m + 1)).flatten.length] (AI hI (AI hJ hK)) ?_
      exact hnext (m + 1) (by omega) (by omega) trivial
    obtain rfl : m = xss.length := by omega
    clear hnext
    rw [List.take_length]
    refine wG Y123_CE @Int.lt_irrefl ?_
    refine Fin.gen0 (rs := [.tmp 2]) rfl (by first | exact .inl rfl | exact .inr rfl) (by simp only [resX, resA, ↓accU_f, ↓reduceIte, SA, SB, SC, SD, Y123_CE, valG, fpsG, evO, evB, evA, evA1, nilK, eqF, eqC, apOk, intOf, slB, slK,  gd, St.ev, putA, ofl, wrl, putE, V.ofVal, V.ofCell, bin2, un1, seg, fillV, partsOk, Value.oneCell', Nat.reduceBEq, Nat.reduceLT, Nat.reduceSub, Nat.reduceAdd, Nat.reduceMul, Nat.reduceLeDiff, Nat.reduceEqDiff, reduceCtorEq, Int.reduceLT, Int.reduceLE, Int.reduceEq, Int.reduceNe, Int.reduceBEq, Int.reduceBNe, Int.reduceAdd, Int.reduceSub, Int.reduceMul, Int.reduceToNat]; with_reducible exact rfl) ?_
    repeat (first | exact WkF.of (Wk.refl _) (by first | rfl | simp only [List.length_cons, List.length_nil, Nat.reduceAdd, V.ids, V.idsL, idsA, entOk, List.all_cons, List.all_nil, Bool.and_self, Bool.and_true, Bool.true_and, ltB, noId, Nat.reduceLT, decide_true, Bool.true_eq_false, tyV_id, fdV_id, tyL_id, fdL_id, hI, hJ, hK]) | exact WkF.of (Wk.ro _ _) (by first | rfl | simp only [List.length_cons, List.length_nil, Nat.reduceAdd, V.ids, V.idsL, idsA, entOk, List.all_cons, List.all_nil, Bool.and_self, Bool.and_true, Bool.true_and, ltB, noId, Nat.reduceLT, decide_true, Bool.true_eq_false, tyV_id, fdV_id, tyL_id, fdL_id, hI, hJ, hK]) | refine WkF.tu ?_ | refine WkF.ag ?_ | refine WkFL.cons ?_ ?_ | exact WkFL.nil)
theorem Y70_CE : type_of% (AI @F_ag_22 (AI @F_al_44 (AI @F_by_44 (AI @F_el_126 (AI @F_el_22 (AI @F_sz_22 (@F_sz_44))))))) := AI @F_ag_22 (AI @F_al_44 (AI @F_by_44 (AI @F_el_126 (AI @F_el_22 (AI @F_sz_22 (@F_sz_44))))))
theorem c_concatV {xss : List (List V)} (hl : xss.length ≤ 4194304) (hz : ∀ xs ∈ xss, allZ 6 xs = true) (hs : ∀ p, ∀ xs ∈ xss, V.idsL p xs = true) (hn : xss.flatten.length ≤ 16777216) : PC Tryz.prog 70 [.sl (xss.map fun l => V.sl l .ro) .ro] (.sl xss.flatten .ro) := by
  have hI : ∀ p m, V.idsL p (xss.take m).flatten = true := fun p m => flat_ids' (hs p) m
  have hK : ∀ p, V.idsL p xss.flatten = true := fun p => by have := hI p xss.length; rwa [List.take_length] at this
  have hJ : ∀ p, V.idsL p (xss.map fun l => V.sl l .ro) = true := fun p => idsL_map' xss fun x hx => by simp only [V.ids, Bool.and_true]; exact hs p x hx
  refine PC.enter 36 Tryz.func70 rfl (by decide) rfl rfl (s := [(0, .sl (xss.map fun l => V.sl l .ro) .ro)]) (by rfl) ?_
  refine wG Y70_CE @List.length_map.{0, 0} ?_
  refine AWp.loop ?_
  refine ALp.cutP 0 [(0, .sl (xss.map fun l => V.sl l .ro) .ro), (3, (.im (.int .i64 ((((xss.take (0)).flatten.length : Nat) : Int))))), (9, .sl (xss.map fun l => V.sl l .ro) .ro), (10, (.im (.int .i64 (xss.length)))), (11, (.im (.int .i64 ((((0 : Nat)) : Int)))))] [] (AI hI (AI hJ hK)) ?_
  refine ALp.upto xss.length (fun _ => True) (fun m => ⟨dn 36 [(0, .sl (xss.map fun l => V.sl l .ro) .ro), (3, (.im (.int .i64 ((((xss.take (m)).flatten.length : Nat) : Int))))), (9, .sl (xss.map fun l => V.sl l .ro) .ro), (10, (.im (.int .i64 (xss.length)))), (11, (.im (.int .i64 ((((m : Nat)) : Int)))))], ofl []⟩) ?_ 0 (Nat.zero_le _) trivial
  intro m hm _ hnext
  by_cases hlt : m < xss.length
  · have hlt' : (m : Int) < (xss.length : Int) := by omega
    have hm1 := wrap_succ hlt (by omega)
    have hg := get_some hlt
    have hln := flat_len hlt
    have hle := flat_le (l := xss) (m + 1)
    have hw : IntKind.i64.wrap (((xss.take m).flatten.length : Int) + (xss[m].length : Int)) = ((xss.take (m + 1)).flatten.length : Int) := by
      rw [wrap_in (by omega)]
      omega
    have hneg : ¬ ((xss.take (m + 1)).flatten.length : Int) < 0 := by omega
    refine wG Y70_CE (AI hlt' (AI hg (AI (@List.getElem?_map.{0, 0}) (AI (@Int.natCast_nonneg) (AI hw (AI hneg hm1)))))) ?_
    refine ALp.cutP 0 [(0, .sl (xss.map fun l => V.sl l .ro) .ro), (3, (.im (.int .i64 ((((xss.take (m + 1)).flatten.length : Nat) : Int))))), (9, .sl (xss.map fun l => V.sl l .ro) .ro), (10, (.im (.int .i64 (xss.length)))), (11, (.im (.int .i64 ((((m + 1 : Nat)) : Int)))))] [] (AI hI (AI hJ hK)) ?_
    exact hnext (m + 1) (by omega) (by omega) trivial
  obtain rfl : m = xss.length := by omega
  clear hnext
  rw [List.take_length]
  refine whG Y70_CE @Int.lt_irrefl ?_
  refine Blk'.here (Thn.n ?_)
  refine wG Y70_CE True.intro ?_
  by_cases h0 : xss.flatten.length = 0
  case' pos =>
    rw [h0]
    refine AR.callP c_growV0 @Int.natCast_zero (AI hI (AI hJ hK)) ?_
    refine goG Y70_CE @List.length_map.{0, 0} ?_
    refine wG Y70_CE @List.length_map.{0, 0} ?_
    refine AWp.loop ?_
    refine ALp.ghost 6 [] .nl 44 6 ?_
    refine ALp.cutP 1 [(6, .sl (xss.take (0)).flatten (.own 0)), (25, .sl (xss.map fun l => V.sl l .ro) .ro), (26, (.im (.int .i64 (xss.length)))), (27, (.im (.int .i64 ((((0 : Nat)) : Int)))))] [.tip 44 6 (xss.take (0)).flatten.length] (AI hI (AI hJ hK)) ?_
  case' neg =>
    have hg := c_growV xss.flatten.length (by omega) (by omega)
    refine AR.callS [0] hg rfl rfl (by first | (simp only [SR]; done) | (simp only [SR]; with_reducible exact rfl)) (by first | (simp only [SR]; done) | (simp only [SR]; with_reducible exact rfl)) (WkL.of_eq (by simp only [St.ev, V.ofVal, V.ofCell, V.size_im, getD_dn, look_cons, look_nil, Nat.reduceLT, Nat.reduceEqDiff, reduceIte, if_true, if_false, List.map_cons, List.map_nil, List.nil_append, List.cons_append, List.append_nil])) (by first | rfl | simp only [List.length_cons, List.length_nil, Nat.reduceAdd, V.ids, V.idsL, idsA, entOk, List.all_cons, List.all_nil, Bool.and_self, Bool.and_true, Bool.true_and, ltB, noId, Nat.reduceLT, decide_true, Bool.true_eq_false, tyV_id, fdV_id, tyL_id, fdL_id, hI, hJ, hK]) rfl rfl rfl (by first | rfl | simp only [List.length_cons, List.length_nil, Nat.reduceAdd, V.ids, V.idsL, idsA, entOk, List.all_cons, List.all_nil, Bool.and_self, Bool.and_true, Bool.true_and, ltB, noId, Nat.reduceLT, decide_true, Bool.true_eq_false, tyV_id, fdV_id, tyL_id, fdL_id, hI, hJ, hK]) (by intro p hp; simp only [renE, SR, Ent.ren, List.mem_cons, List.not_mem_nil, or_false] at hp; rcases hp with rfl <;> rfl) (by simp only [renE, Ent.ren, SR, wrl, putE, SC, SD, Nat.reduceBEq, Nat.reduceLT, Nat.reduceSub, Nat.reduceAdd, Nat.reduceMul, Nat.reduceLeDiff, Nat.reduceEqDiff, reduceCtorEq, Int.reduceLT, Int.reduceLE, Int.reduceEq, Int.reduceNe, Int.reduceBEq, Int.reduceBNe, Int.reduceAdd, Int.reduceSub, Int.reduceMul, Int.reduceToNat]; with_reducible exact rfl) ?_
    refine goG Y70_CE @List.length_map.{0, 0} ?_
    refine wG Y70_CE @List.length_map.{0, 0} ?_
    refine AWp.loop ?_
    refine ALp.cutP 1 [(6, .sl (xss.take (0)).flatten (.own 0)), (25, .sl (xss.map fun l => V.sl l .ro) .ro), (26, (.im (.int .i64 (xss.length)))), (27, (.im (.int .i64 ((((0 : Nat)) : Int)))))] [.tip 44 6 (xss.take (0)).flatten.length] (AI hI (AI hJ hK)) ?_
  all_goals
    refine ALp.upto xss.length (fun _ => True) (fun m => ⟨dn 36 [(6, .sl (xss.take (m)).flatten (.own 0)), (25, .sl (xss.map fun l => V.sl l .ro) .ro), (26, (.im (.int .i64 (xss.length)))), (27, (.im (.int .i64 ((((m : Nat)) : Int)))))], ofl [.tip 44 6 (xss.take (m)).flatten.length]⟩) ?_ 0 (Nat.zero_le _) trivial
    intro m hm _ hnext
    by_cases hlt : m < xss.length
    · have hlt' : (m : Int) < (xss.length : Int) := by omega
      have hm1 := wrap_succ hlt (by omega)
      have hg := get_some hlt
      have hln := flat_len hlt
      have hle := flat_le (l := xss) (m + 1)
      have hsn := flat_snoc hlt
      have hA : (xss.take (m + 1)).flatten.length * 88 ≤ 140737488355328 := by omega
      have hz' := hz xss[m] (List.getElem_mem hlt)
      refine wG Y70_CE (AI hlt' (AI hg (AI (@List.getElem?_map.{0, 0}) (AI (@Int.natCast_nonneg) (AI hA (AI hz' (AI hsn (AI hln hm1)))))))) ?_
      refine ALp.cutP 1 [(6, .sl (xss.take (m + 1)).flatten (.own 0)), (25, .sl (xss.map fun l => V.sl l .ro) .ro), (26, (.im (.int .i64 (xss.length)))), (27, (.im (.int .i64 ((((m + 1 : Nat)) : Int)))))] [.tip 44 6 (xss.take (m + 1)).flatten.length] (AI hI (AI hJ hK)) ?_
      exact hnext (m + 1) (by omega) (by omega) trivial
    obtain rfl : m = xss.length := by omega
    clear hnext
    rw [List.take_length]
    refine wG Y70_CE @Int.lt_irrefl ?_
    refine Fin.gen0 (rs := [.tmp 2]) rfl (by first | exact .inl rfl | exact .inr rfl) (by simp only [resX, resA, ↓accU_f, ↓reduceIte, SA, SB, SC, SD, Y70_CE, valG, fpsG, evO, evB, evA, evA1, nilK, eqF, eqC, apOk, intOf, slB, slK,  gd, St.ev, putA, ofl, wrl, putE, V.ofVal, V.ofCell, bin2, un1, seg, fillV, partsOk, Value.oneCell', Nat.reduceBEq, Nat.reduceLT, Nat.reduceSub, Nat.reduceAdd, Nat.reduceMul, Nat.reduceLeDiff, Nat.reduceEqDiff, reduceCtorEq, Int.reduceLT, Int.reduceLE, Int.reduceEq, Int.reduceNe, Int.reduceBEq, Int.reduceBNe, Int.reduceAdd, Int.reduceSub, Int.reduceMul, Int.reduceToNat]; with_reducible exact rfl) ?_
    repeat (first | exact WkF.of (Wk.refl _) (by first | rfl | simp only [List.length_cons, List.length_nil, Nat.reduceAdd, V.ids, V.idsL, idsA, entOk, List.all_cons, List.all_nil, Bool.and_self, Bool.and_true, Bool.true_and, ltB, noId, Nat.reduceLT, decide_true, Bool.true_eq_false, tyV_id, fdV_id, tyL_id, fdL_id, hI, hJ, hK]) | exact WkF.of (Wk.ro _ _) (by first | rfl | simp only [List.length_cons, List.length_nil, Nat.reduceAdd, V.ids, V.idsL, idsA, entOk, List.all_cons, List.all_nil, Bool.and_self, Bool.and_true, Bool.true_and, ltB, noId, Nat.reduceLT, decide_true, Bool.true_eq_false, tyV_id, fdV_id, tyL_id, fdL_id, hI, hJ, hK]) | refine WkF.tu ?_ | refine WkF.ag ?_ | refine WkFL.cons ?_ ?_ | exact WkFL.nil)
end Go.Proofs.YtfggemopnlffeaaGreat
namespace Go.Proofs.YtfggemopnlffeaaGreat
set_option linter.unusedSimpArgs false
set_option linter.unusedVariables false
set_option linter.unnecessarySimpa false
open Go.RowKit
theorem nlV_eq (c : List Nd) : nlV c = .sl (c.map ndV) .ro := rfl
theorem nl_all (l : List (List Nd)) : allZ 1 (l.map nlV) = true := by
  unfold allZ
  rw [List.all_map]
  exact List.all_eq_true.2 fun x _ => rfl
theorem fit_subs {t : Nd} (h : fitN t) : (subs t).length ≤ 4194306 ∧ ∀ c ∈ subs t, fitNL c := by
  obtain ⟨_, _, _, h4, h5, h6, h7⟩ := fitN_inv h
  refine ⟨by simp [subs]; omega, fun c hc => ?_⟩
  unfold subs at hc
  rcases List.mem_cons.1 hc with rfl | hc
  · exact h4
  · rcases List.mem_cons.1 hc with rfl | hc
    · exact h5
    · exact h7 c hc
theorem Y103_CF : type_of% (AI @F_ag_35 (AI @F_ag_57 (AI @F_al_35 (AI @F_al_57 (AI @F_el_147 (AI @F_el_57 (AI @F_fl_59_4 (AI @F_fl_59_5 (AI @F_fl_59_6 (AI @F_sz_35 (@F_sz_57))))))))))) := AI @F_ag_35 (AI @F_ag_57 (AI @F_al_35 (AI @F_al_57 (AI @F_el_147 (AI @F_el_57 (AI @F_fl_59_4 (AI @F_fl_59_5 (AI @F_fl_59_6 (AI @F_sz_35 (@F_sz_57))))))))))
theorem c_lists (t : Nd) (ht : t.cs.length ≤ 4194304) : PC Tryz.prog 103 [ndV t] (.sl ((subs t).map nlV) .ro) := by
  obtain ⟨k, w, n, e, l, el, cs⟩ := t
  have ht : cs.length ≤ 4194304 := ht
  have h := c_concatN (xss := [[nlV l, nlV el], cs.map nlV]) (by simp) (by
    intro xs hx
    simp only [List.mem_cons, List.not_mem_nil, or_false] at hx
    rcases hx with rfl | rfl
    · rfl
    · exact nl_all cs) (by
    intro p xs hx
    simp only [List.mem_cons, List.not_mem_nil, or_false] at hx
    rcases hx with rfl | rfl
    · simp only [V.idsL, nlV_id, Bool.and_self]
    · exact nlVs_id p cs) (by simp; omega)
  have e1 : [[nlV l, nlV el], cs.map nlV].flatten = (subs (.mk k w n e l el cs)).map nlV := by simp [subs, Nd.l, Nd.el, Nd.cs]
  rw [e1] at h
  simp only [List.map_cons, List.map_nil] at h
  refine PC.enter 12 Tryz.func103 rfl (by decide) rfl rfl (s := [(0, ndV (.mk k w n e l el cs))]) (by rfl) ?_
  rw [ndV_mk]
  refine wG Y103_CF True.intro ?_
  refine AR.callW h True.intro (AI ndV_id (AI ndLs_id (AI nlVs_id nlV_id))) ?_
  refine goG Y103_CF True.intro ?_
  refine wG Y103_CF True.intro ?_
  refine Fin.gen0 (rs := [.tmp 2]) rfl (by first | exact .inl rfl | exact .inr rfl) (by simp only [resX, resA, ↓accU_f, ↓reduceIte, SA, SB, SC, SD, Y103_CF, valG, fpsG, evO, evB, evA, evA1, nilK, eqF, eqC, apOk, intOf, slB, slK,  gd, St.ev, putA, ofl, wrl, putE, V.ofVal, V.ofCell, bin2, un1, seg, fillV, partsOk, Value.oneCell', Nat.reduceBEq, Nat.reduceLT, Nat.reduceSub, Nat.reduceAdd, Nat.reduceMul, Nat.reduceLeDiff, Nat.reduceEqDiff, reduceCtorEq, Int.reduceLT, Int.reduceLE, Int.reduceEq, Int.reduceNe, Int.reduceBEq, Int.reduceBNe, Int.reduceAdd, Int.reduceSub, Int.reduceMul, Int.reduceToNat]; with_reducible exact rfl) ?_
  repeat (first | exact WkF.of (Wk.refl _) (by first | rfl | simp only [List.length_cons, List.length_nil, Nat.reduceAdd, V.ids, V.idsL, idsA, entOk, List.all_cons, List.all_nil, Bool.and_self, Bool.and_true, Bool.true_and, ltB, noId, Nat.reduceLT, decide_true, Bool.true_eq_false, tyV_id, fdV_id, tyL_id, fdL_id, ndV_id, ndLs_id, nlVs_id, nlV_id]) | exact WkF.of (Wk.ro _ _) (by first | rfl | simp only [List.length_cons, List.length_nil, Nat.reduceAdd, V.ids, V.idsL, idsA, entOk, List.all_cons, List.all_nil, Bool.and_self, Bool.and_true, Bool.true_and, ltB, noId, Nat.reduceLT, decide_true, Bool.true_eq_false, tyV_id, fdV_id, tyL_id, fdL_id, ndV_id, ndLs_id, nlVs_id, nlV_id]) | refine WkF.tu ?_ | refine WkF.ag ?_ | refine WkFL.cons ?_ ?_ | exact WkFL.nil)
theorem max_mx {α : Type} (f : α → Int) {l : List α} {m : Nat} (h : m < l.length) : (if f l[m] > mx ((l.take m).map f) then f l[m] else mx ((l.take m).map f)) = mx ((l.take (m + 1)).map f) := by
  rw [← mx_take f h]
  split <;> omega
theorem max_mx1 {α : Type} (f : α → Int) {l : List α} {m : Nat} (h : m < l.length) : (if 1 + f l[m] > 1 + mx ((l.take m).map f) then 1 + f l[m] else 1 + mx ((l.take m).map f)) = 1 + mx ((l.take (m + 1)).map f) := by
  rw [← mx_take f h]
  split <;> omega
theorem Y68_CF : type_of% (AI @F_ag_35 (AI @F_ag_59 (AI @F_al_59 (AI @F_el_35 (AI @F_el_57 (AI @F_sz_35 (@F_sz_59))))))) := AI @F_ag_35 (AI @F_ag_59 (AI @F_al_59 (AI @F_el_35 (AI @F_el_57 (AI @F_sz_35 (@F_sz_59))))))
theorem c_depth : ∀ l : List Nd, fitNL l → cnt l ≤ 4194304 → PC Tryz.prog 68 [.sl (l.map ndV) .ro] (.im (.int .i64 (dep l))) := by
  refine subs_induct fun l hl hf hc => ?_
  have hl1 := hf.1
  show PC _ _ _ (.im (.int .i64 (mx (l.map depT))))
  refine PC.enter 33 Tryz.func68 rfl (by decide) rfl rfl (s := [(0, .sl (l.map ndV) .ro)]) (by rfl) ?_
  refine wG Y68_CF True.intro ?_
  refine AWp.loop ?_
  refine ALp.cutP 0 [(3, (.im (.int .i64 (mx ((l.take (0)).map depT))))), (9, .sl (l.map ndV) .ro), (10, (.im (.int .i64 (l.length)))), (11, (.im (.int .i64 ((((0 : Nat)) : Int)))))] [] (AI ndV_id (AI ndLs_id (AI nlVs_id nlV_id))) ?_
  refine ALp.upto l.length (fun _ => True) (fun m => ⟨dn 33 [(3, (.im (.int .i64 (mx ((l.take (m)).map depT))))), (9, .sl (l.map ndV) .ro), (10, (.im (.int .i64 (l.length)))), (11, (.im (.int .i64 ((((m : Nat)) : Int)))))], ofl []⟩) ?_ 0 (Nat.zero_le _) trivial
  intro m hm _ hnext
  by_cases hlt : m < l.length
  · have hlt' : (m : Int) < (l.length : Int) := by omega
    have hm1 := wrap_succ hlt (by omega)
    have hg := get_some hlt
    have ht := hf.2 _ (List.getElem_mem hlt)
    have hx := c_lists l[m] (fitN_inv ht).2.2.2.2.2.1
    obtain ⟨hs1, hs2⟩ := fit_subs ht
    have hcs : ∀ c ∈ subs l[m], 1 + cnt c ≤ cnt l := fun c hc => cnt_sub (List.getElem_mem hlt) hc
    have hR := fun c hc' => hl l[m] (List.getElem_mem hlt) c hc' (hs2 c hc') (by have := hcs c hc'; omega)
    have hmx := max_mx depT hlt
    rw [depT_eq] at hmx
    generalize subs l[m] = sb at hx hs1 hs2 hcs hR hmx
    refine wG Y68_CF (AI hlt' (AI hg ND)) ?_
    refine AR.callP hx ndV_eq (AI ndV_id (AI ndLs_id (AI nlVs_id nlV_id))) ?_
    refine goG Y68_CF @List.length_map.{0, 0} ?_
    refine wG Y68_CF @List.length_map.{0, 0} ?_
    refine AWp.loop ?_
    refine ALp.cutP 0 [(3, (.im (.int .i64 (mx ((l.take m).map depT))))), (6, (.im (.int .i64 (1 + mx ((sb.take (0)).map dep))))), (9, .sl (l.map ndV) .ro), (10, (.im (.int .i64 (l.length)))), (11, (.im (.int .i64 ((m : Int))))), (16, .sl (sb.map nlV) .ro), (17, (.im (.int .i64 (sb.length)))), (18, (.im (.int .i64 ((((0 : Nat)) : Int)))))] [] (AI ndV_id (AI ndLs_id (AI nlVs_id nlV_id))) ?_
    refine ALp.upto sb.length (fun _ => True) (fun j => ⟨dn 33 [(3, (.im (.int .i64 (mx ((l.take m).map depT))))), (6, (.im (.int .i64 (1 + mx ((sb.take (j)).map dep))))), (9, .sl (l.map ndV) .ro), (10, (.im (.int .i64 (l.length)))), (11, (.im (.int .i64 ((m : Int))))), (16, .sl (sb.map nlV) .ro), (17, (.im (.int .i64 (sb.length)))), (18, (.im (.int .i64 ((((j : Nat)) : Int)))))], ofl []⟩) ?_ 0 (Nat.zero_le _) trivial
    intro j hj _ hnext2
    by_cases hlu : j < sb.length
    · have hlu' : (j : Int) < (sb.length : Int) := by omega
      have hj1 := wrap_succ hlu (by omega)
      have hg2 := get_some hlu
      have hc2 := hR sb[j] (List.getElem_mem hlu)
      have hd0 := dep_nonneg sb[j]
      have hd1 := dep_le_cnt sb[j]
      have hd2 := hcs sb[j] (List.getElem_mem hlu)
      have hw : IntKind.i64.wrap (1 + dep sb[j]) = 1 + dep sb[j] := wrap_in (by omega)
      have hmx2 := max_mx1 dep hlu
      refine wG Y68_CF (AI hlu' (AI hg2 ND)) ?_
      refine AR.callP hc2 nlV_eq (AI ndV_id (AI ndLs_id (AI nlVs_id nlV_id))) ?_
      refine goG Y68_CF (AI hw hmx2) ?_
      refine wG Y68_CF hj1 ?_
      refine ALp.cutP 0 [(3, (.im (.int .i64 (mx ((l.take m).map depT))))), (6, (.im (.int .i64 (1 + mx ((sb.take (j + 1)).map dep))))), (9, .sl (l.map ndV) .ro), (10, (.im (.int .i64 (l.length)))), (11, (.im (.int .i64 ((m : Int))))), (16, .sl (sb.map nlV) .ro), (17, (.im (.int .i64 (sb.length)))), (18, (.im (.int .i64 ((((j + 1 : Nat)) : Int)))))] [] (AI ndV_id (AI ndLs_id (AI nlVs_id nlV_id))) ?_
      exact hnext2 (j + 1) (by omega) (by omega) trivial
    obtain rfl : j = sb.length := by omega
    clear hnext2
    rw [List.take_length]
    refine whG Y68_CF @Int.lt_irrefl ?_
    refine Blk'.here (Thn.n ?_)
    refine wG Y68_CF (AI hmx hm1) ?_
    refine ALp.cutP 0 [(3, (.im (.int .i64 (mx ((l.take (m + 1)).map depT))))), (9, .sl (l.map ndV) .ro), (10, (.im (.int .i64 (l.length)))), (11, (.im (.int .i64 ((((m + 1 : Nat)) : Int)))))] [] (AI ndV_id (AI ndLs_id (AI nlVs_id nlV_id))) ?_
    exact hnext (m + 1) (by omega) (by omega) trivial
  obtain rfl : m = l.length := by omega
  clear hnext
  rw [List.take_length]
  refine wG Y68_CF @Int.lt_irrefl ?_
  exact Fin.oneP
end Go.Proofs.YtfggemopnlffeaaGreat
namespace Go.Proofs.YtfggemopnlffeaaGreat
set_option linter.unusedSimpArgs false
set_option linter.unusedVariables false
set_option linter.unnecessarySimpa false
open Go.RowKit
def plV (p : Nd × Bool) : V := .ag [.im (.int .i64 p.1.kind), .im (.int .i64 p.1.width), .im (.string p.1.name), .sl (p.1.e.map exV) .ro, .sl (p.1.l.map ndV) .ro, .sl (p.1.el.map ndV) .ro, .sl (p.1.cs.map nlV) .ro, .im (.bool p.2)]
theorem plV_eq (p : Nd × Bool) : plV p = .ag [.im (.int .i64 p.1.kind), .im (.int .i64 p.1.width), .im (.string p.1.name), .sl (p.1.e.map exV) .ro, .sl (p.1.l.map ndV) .ro, .sl (p.1.el.map ndV) .ro, .sl (p.1.cs.map nlV) .ro, .im (.bool p.2)] := rfl
theorem plV_live (p : Nd × Bool) : (plV p).live = true := rfl
theorem plV_size (p : Nd × Bool) : (plV p).size = 8 := rfl
theorem plV_isAg (p : Nd × Bool) : (plV p).isAg = true := rfl
theorem plV_firm (p : Nd × Bool) : (plV p).firm = true := rfl
theorem plV_strip (g : Bool) (p : Nd × Bool) : strip g (plV p) = plV p := rfl
theorem plV_cells (p : Nd × Bool) : (plV p).cells = [.im (.int .i64 p.1.kind), .im (.int .i64 p.1.width), .im (.string p.1.name), .sl (p.1.e.map exV) .ro, .sl (p.1.l.map ndV) .ro, .sl (p.1.el.map ndV) .ro, .sl (p.1.cs.map nlV) .ro, .im (.bool p.2)] := rfl
theorem plV_id (p : Nat → Bool) (x : Nd × Bool) : (plV x).ids p = true := by simp [plV, V.ids, V.idsL, exL_id, ndLs_id, nlVs_id]
theorem plVs_id (p : Nat → Bool) (l : List (Nd × Bool)) : V.idsL p (l.map plV) = true := idsL_map (plV_id p) l
theorem plVs_all (l : List (Nd × Bool)) : allZ 8 (l.map plV) = true := by
  unfold allZ
  rw [List.all_map]
  exact List.all_eq_true.2 fun x _ => rfl
theorem flatMap_snoc {α β : Type} (f : α → List β) {l : List α} {m : Nat} (h : m < l.length) : (l.take m).flatMap f ++ f l[m] = (l.take (m + 1)).flatMap f := by
  rw [List.take_succ_eq_append_getElem h, List.flatMap_append]
  simp
theorem flatMap_le {α β : Type} (f : α → List β) (l : List α) (m : Nat) : ((l.take m).flatMap f).length ≤ (l.flatMap f).length := by
  have h : l.flatMap f = (l.take m).flatMap f ++ (l.drop m).flatMap f := by rw [← List.flatMap_append, List.take_append_drop]
  rw [h, List.length_append]
  omega
theorem Y69_CG : type_of% (AI @F_ag_3 (AI @F_ag_35 (AI @F_ag_59 (AI @F_al_104 (AI @F_al_59 (AI @F_by_104 (AI @F_el_35 (AI @F_el_57 (AI @F_el_97 (AI @F_fl_59_0 (AI @F_st_104 (AI @F_sz_104 (AI @F_sz_3 (AI @F_sz_35 (@F_sz_59))))))))))))))) := AI @F_ag_3 (AI @F_ag_35 (AI @F_ag_59 (AI @F_al_104 (AI @F_al_59 (AI @F_by_104 (AI @F_el_35 (AI @F_el_57 (AI @F_el_97 (AI @F_fl_59_0 (AI @F_st_104 (AI @F_sz_104 (AI @F_sz_3 (AI @F_sz_35 (@F_sz_59))))))))))))))
theorem c_all : ∀ l : List Nd, fitNL l → cnt l ≤ 4194304 → ∀ lp : Bool, PC Tryz.prog 69 [.sl (l.map ndV) .ro, (.im (.bool (lp)))] (.sl ((allL l lp).map plV) .ro) := by
  refine subs_induct fun l hl hf hc lp => ?_
  have hl1 := hf.1
  have hlen := allL_len l lp
  unfold allL at hlen ⊢
  refine PC.enter 47 Tryz.func69 rfl (by decide) rfl rfl (s := [(0, .sl (l.map ndV) .ro), (1, (.im (.bool (lp))))]) (by rfl) ?_
  refine wG Y69_CG True.intro ?_
  refine AWp.loop ?_
  refine ALp.ghost 5 [] .nl 104 8 ?_
  refine ALp.cutP 1 [(1, (.im (.bool (lp)))), (5, .sl (((l.take (0)).flatMap fun t => allT t lp).map plV) (.own 0)), (10, .sl (l.map ndV) .ro), (11, (.im (.int .i64 (l.length)))), (12, (.im (.int .i64 ((((0 : Nat)) : Int)))))] [.tip 104 8 ((l.take (0)).flatMap fun t => allT t lp).length] (AI ndV_id (AI ndLs_id (AI nlVs_id (AI nlV_id (AI plV_id (AI plVs_id @exL_id)))))) ?_
  refine ALp.upto l.length (fun _ => True) (fun m => ⟨dn 47 [(1, (.im (.bool (lp)))), (5, .sl (((l.take (m)).flatMap fun t => allT t lp).map plV) (.own 0)), (10, .sl (l.map ndV) .ro), (11, (.im (.int .i64 (l.length)))), (12, (.im (.int .i64 ((((m : Nat)) : Int)))))], ofl [.tip 104 8 ((l.take (m)).flatMap fun t => allT t lp).length]⟩) ?_ 0 (Nat.zero_le _) trivial
  intro m hm _ hnext
  by_cases hlt : m < l.length
  · have hlt' : (m : Int) < (l.length : Int) := by omega
    have hm1 := wrap_succ hlt (by omega)
    have hg := get_some hlt
    have ht := hf.2 _ (List.getElem_mem hlt)
    have hx := c_lists l[m] (fitN_inv ht).2.2.2.2.2.1
    obtain ⟨hs1, hs2⟩ := fit_subs ht
    have hcs : ∀ c ∈ subs l[m], 1 + cnt c ≤ cnt l := fun c hc => cnt_sub (List.getElem_mem hlt) hc
    have hR := fun c hc' => hl l[m] (List.getElem_mem hlt) c hc' (hs2 c hc') (by have := hcs c hc'; omega) (inL l[m] lp)
    have hsn := flatMap_snoc (fun t => allT t lp) hlt
    have hle := flatMap_le (fun t => allT t lp) l (m + 1)
    have hle0 := flatMap_le (fun t => allT t lp) l m
    simp only [allT_eq l[m]] at hsn
    generalize hA : (l.take m).flatMap (fun t => allT t lp) = A at hsn hle0 ⊢
    generalize hsb : subs l[m] = sb at hx hs1 hs2 hcs hR hsn
    obtain ⟨Bf, hBf⟩ : ∃ Bf : Nat → List (Nd × Bool), ∀ j, Bf j = A ++ (l[m], lp) :: (sb.take j).flatMap fun c => allL c (inL l[m] lp) := ⟨_, fun _ => rfl⟩
    have hap : A.map plV ++ [.ag [.im (.int .i64 l[m].kind), .im (.int .i64 l[m].width), .im (.string l[m].name), .sl (l[m].e.map exV) .ro, .sl (l[m].l.map ndV) .ro, .sl (l[m].el.map ndV) .ro, .sl (l[m].cs.map nlV) .ro, .im (.bool lp)]] = (Bf 0).map plV := by
      rw [hBf]; simp [plV]
    have hone : A.length + 1 = (Bf 0).length := by rw [hBf]; simp
    have hend : Bf sb.length = (l.take (m + 1)).flatMap fun t => allT t lp := by
      rw [hBf, List.take_length, ← hsn]
    have hstep : ∀ j (hj : j < sb.length), Bf j ++ allL sb[j] (inL l[m] lp) = Bf (j + 1) := fun j hj => by
      rw [hBf, hBf, ← flatMap_snoc _ hj, List.append_assoc, List.cons_append]
    have hlen2 : ∀ j, (Bf j).length ≤ (Bf sb.length).length := fun j => by
      rw [hBf, hBf, List.length_append, List.length_append, List.length_cons, List.length_cons, List.take_length]
      have := flatMap_le (fun c => allL c (inL l[m] lp)) sb j
      omega
    rw [hend] at hlen2
    have hb : (A.length + 1) * 136 ≤ 140737488355328 := by omega
    have hb0 : (Bf 0).length * 136 ≤ 140737488355328 := by have := hlen2 0; omega
    refine wG Y69_CG (AI hlt' (AI hg (AI hb (AI hb0 (AI hap (AI hone ND)))))) ?_
    refine AR.callP hx ndV_eq (AI ndV_id (AI ndLs_id (AI nlVs_id (AI nlV_id (AI plV_id (AI plVs_id @exL_id)))))) ?_
    refine goG Y69_CG (AI (@List.length_map.{0, 0}) ND) ?_
    refine wG Y69_CG (AI (@List.length_map.{0, 0}) ND) ?_
    refine AWp.loop ?_
    refine ALp.cutP 2 [(1, (.im (.bool (lp)))), (5, .sl ((Bf (0)).map plV) (.own 0)), (7, .pt 1 0), (10, .sl (l.map ndV) .ro), (11, (.im (.int .i64 (l.length)))), (12, (.im (.int .i64 ((m : Int))))), (23, .sl (sb.map nlV) .ro), (24, (.im (.int .i64 (sb.length)))), (25, (.im (.int .i64 ((((0 : Nat)) : Int)))))] [.tip 104 8 (Bf (0)).length, .box [.im (.int .i64 l[m].kind), .im (.int .i64 l[m].width), .im (.string l[m].name), .sl (l[m].e.map exV) .ro, .sl (l[m].l.map ndV) .ro, .sl (l[m].el.map ndV) .ro, .sl (l[m].cs.map nlV) .ro]] (AI ndV_id (AI ndLs_id (AI nlVs_id (AI nlV_id (AI plV_id (AI plVs_id @exL_id)))))) ?_
    refine ALp.upto sb.length (fun _ => True) (fun j => ⟨dn 47 [(1, (.im (.bool (lp)))), (5, .sl ((Bf (j)).map plV) (.own 0)), (7, .pt 1 0), (10, .sl (l.map ndV) .ro), (11, (.im (.int .i64 (l.length)))), (12, (.im (.int .i64 ((m : Int))))), (23, .sl (sb.map nlV) .ro), (24, (.im (.int .i64 (sb.length)))), (25, (.im (.int .i64 ((((j : Nat)) : Int)))))], ofl [.tip 104 8 (Bf (j)).length, .box [.im (.int .i64 l[m].kind), .im (.int .i64 l[m].width), .im (.string l[m].name), .sl (l[m].e.map exV) .ro, .sl (l[m].l.map ndV) .ro, .sl (l[m].el.map ndV) .ro, .sl (l[m].cs.map nlV) .ro]]⟩) ?_ 0 (Nat.zero_le _) trivial
    intro j hj _ hnext2
    by_cases hlu : j < sb.length
    · have hlu' : (j : Int) < (sb.length : Int) := by omega
      have hj1 := wrap_succ hlu (by omega)
      have hg2 := get_some hlu
      have hc2 := hR sb[j] (List.getElem_mem hlu)
      have hs3 := congrArg (List.map plV) (hstep j hlu)
      rw [List.map_append] at hs3
      have hs4 := congrArg List.length (hstep j hlu)
      rw [List.length_append] at hs4
      have hb1 : (Bf (j + 1)).length * 136 ≤ 140737488355328 := by have := hlen2 (j + 1); omega
      refine wG Y69_CG (AI hlu' (AI hg2 ND)) ?_
      have hin : inL l[m] lp = (lp || decide (l[m].kind = 7) || decide (l[m].kind = 8)) := rfl
      refine AR.callP hc2 (AI nlV_eq hin) (AI ndV_id (AI ndLs_id (AI nlVs_id (AI nlV_id (AI plV_id (AI plVs_id @exL_id)))))) ?_
      refine goG Y69_CG (AI hs3 (AI hs4 (AI hb1 (AI plVs_all @List.length_map.{0, 0})))) ?_
      refine wG Y69_CG hj1 ?_
      refine ALp.cutP 2 [(1, (.im (.bool (lp)))), (5, .sl ((Bf (j + 1)).map plV) (.own 0)), (7, .pt 1 0), (10, .sl (l.map ndV) .ro), (11, (.im (.int .i64 (l.length)))), (12, (.im (.int .i64 ((m : Int))))), (23, .sl (sb.map nlV) .ro), (24, (.im (.int .i64 (sb.length)))), (25, (.im (.int .i64 ((((j + 1 : Nat)) : Int)))))] [.tip 104 8 (Bf (j + 1)).length, .box [.im (.int .i64 l[m].kind), .im (.int .i64 l[m].width), .im (.string l[m].name), .sl (l[m].e.map exV) .ro, .sl (l[m].l.map ndV) .ro, .sl (l[m].el.map ndV) .ro, .sl (l[m].cs.map nlV) .ro]] (AI ndV_id (AI ndLs_id (AI nlVs_id (AI nlV_id (AI plV_id (AI plVs_id @exL_id)))))) ?_
      exact hnext2 (j + 1) (by omega) (by omega) trivial
    obtain rfl : j = sb.length := by omega
    clear hnext2
    rw [hend]
    refine whG Y69_CG @Int.lt_irrefl ?_
    refine Blk'.here (Thn.n ?_)
    refine wG Y69_CG hm1 ?_
    refine ALp.cutP 1 [(1, (.im (.bool (lp)))), (5, .sl (((l.take (m + 1)).flatMap fun t => allT t lp).map plV) (.own 0)), (10, .sl (l.map ndV) .ro), (11, (.im (.int .i64 (l.length)))), (12, (.im (.int .i64 ((((m + 1 : Nat)) : Int)))))] [.tip 104 8 ((l.take (m + 1)).flatMap fun t => allT t lp).length] (AI ndV_id (AI ndLs_id (AI nlVs_id (AI nlV_id (AI plV_id (AI plVs_id @exL_id)))))) ?_
    exact hnext (m + 1) (by omega) (by omega) trivial
  obtain rfl : m = l.length := by omega
  clear hnext
  rw [List.take_length]
  refine wG Y69_CG @Int.lt_irrefl ?_
  refine Fin.gen0 (rs := [.tmp 4]) rfl (by first | exact .inl rfl | exact .inr rfl) (by simp only [resX, resA, ↓accU_f, ↓reduceIte, SA, SB, SC, SD, Y69_CG, valG, fpsG, evO, evB, evA, evA1, nilK, eqF, eqC, apOk, intOf, slB, slK,  gd, St.ev, putA, ofl, wrl, putE, V.ofVal, V.ofCell, bin2, un1, seg, fillV, partsOk, Value.oneCell', Nat.reduceBEq, Nat.reduceLT, Nat.reduceSub, Nat.reduceAdd, Nat.reduceMul, Nat.reduceLeDiff, Nat.reduceEqDiff, reduceCtorEq, Int.reduceLT, Int.reduceLE, Int.reduceEq, Int.reduceNe, Int.reduceBEq, Int.reduceBNe, Int.reduceAdd, Int.reduceSub, Int.reduceMul, Int.reduceToNat]; with_reducible exact rfl) ?_
  repeat (first | exact WkF.of (Wk.refl _) (by first | rfl | simp only [List.length_cons, List.length_nil, Nat.reduceAdd, V.ids, V.idsL, idsA, entOk, List.all_cons, List.all_nil, Bool.and_self, Bool.and_true, Bool.true_and, ltB, noId, Nat.reduceLT, decide_true, Bool.true_eq_false, tyV_id, fdV_id, tyL_id, fdL_id, ndV_id, ndLs_id, nlVs_id, nlV_id, plV_id, plVs_id, exL_id]) | exact WkF.of (Wk.ro _ _) (by first | rfl | simp only [List.length_cons, List.length_nil, Nat.reduceAdd, V.ids, V.idsL, idsA, entOk, List.all_cons, List.all_nil, Bool.and_self, Bool.and_true, Bool.true_and, ltB, noId, Nat.reduceLT, decide_true, Bool.true_eq_false, tyV_id, fdV_id, tyL_id, fdL_id, ndV_id, ndLs_id, nlVs_id, nlV_id, plV_id, plVs_id, exL_id]) | refine WkF.tu ?_ | refine WkF.ag ?_ | refine WkFL.cons ?_ ?_ | exact WkFL.nil)
end Go.Proofs.YtfggemopnlffeaaGreat
