import Derived.Test.YtfggemopnlffeaaGreatHv
import Derived.Test.YtfggemopnlffeaaGreatD6
import Derived.Test.YtfggemopnlffeaaGreatJO
namespace Go.Proofs.YtfggemopnlffeaaGreat
set_option linter.unusedSimpArgs false
set_option linter.unusedVariables false
set_option linter.unnecessarySimpa false
open Go.RowKit
theorem vErr_ok : ∀ {l bs : List Va}, vErr bs l = 0 → ∀ v ∈ l, nameT v.name = true
  | [], _, _, v, hv => by cases hv
  | w :: r, bs, h, v, hv => by
    rw [vErr] at h
    cases b : nameT w.name with
    | false => rw [b] at h; simp at h
    | true =>
      rw [b] at h
      simp only [Bool.not_true, Bool.false_eq_true, if_false] at h
      split at h
      · cases h
      split at h
      · rename_i h2; exact absurd h h2
      rcases List.mem_cons.1 hv with rfl | hv
      · exact b
      · exact vErr_ok h v hv
theorem fnE_ok : ∀ {l : List Fun} {sn : List ByteArray}, fnE sn l = 0 → ∀ f ∈ l, nameT f.name = true
  | [], _, _, v, hv => by cases hv
  | w :: r, sn, h, v, hv => by
    rw [fnE] at h
    cases b : nameT w.name with
    | false => rw [b] at h; simp at h
    | true =>
      rw [b] at h
      simp only [Bool.not_true, Bool.false_eq_true, if_false] at h
      split at h
      · cases h
      rcases List.mem_cons.1 hv with rfl | hv
      · exact b
      · exact fnE_ok h v hv
theorem nameT_size {s : ByteArray} (h : nameT s = true) : s.size ≤ 32 := by
  unfold nameT at h
  simp only [Bool.and_eq_true, decide_eq_true_eq] at h
  omega
theorem bodyE_vars {gs : List Va} {f : Fun} {fs : List ByteArray} (h : bodyE gs f fs = 0) : gs.length + f.vars.length ≤ 256 ∧ vErr gs f.vars = 0 := by
  unfold bodyE at h
  split at h
  · cases h
  split at h
  · rename_i h2; exact absurd h h2
  rename_i h1 h2
  exact ⟨by omega, Classical.byContradiction h2⟩
theorem unE_names {u : Un} (h : unE u = 0) : u.globals.length ≤ 256 ∧ u.funcs.length ≤ 64 ∧ (∀ v ∈ u.globals, v.name.size ≤ 32) ∧ ∀ f ∈ u.funcs, f.name.size ≤ 32 ∧ f.vars.length ≤ 256 ∧ ∀ v ∈ f.vars, v.name.size ≤ 32 := by
  unfold unE at h
  split at h
  · cases h
  rename_i h1
  split at h
  · cases h
  split at h
  · rename_i h2; exact absurd h h2
  rename_i h2
  split at h
  · rename_i h3; exact absurd h h3
  split at h
  · rename_i h3; exact absurd h h3
  rename_i h3
  refine ⟨by omega, by omega, fun v hv => nameT_size (vErr_ok (Classical.byContradiction h2) v hv), fun f hf => ?_⟩
  obtain ⟨k1, k2⟩ := bodyE_vars (bdE_ok h f hf)
  exact ⟨nameT_size (fnE_ok (Classical.byContradiction h3) f hf), by omega, fun v hv => nameT_size (vErr_ok k2 v hv)⟩
def wrG (v : Va) : List ByteArray := if v.ty.kind == 6 then [v.name ++ ({ data := #[32, 105, 115, 32, 97, 110, 121] } : ByteArray)] else []
def wrV (f : Fun) (v : Va) : List ByteArray := if v.ty.kind == 6 then [f.name ++ ({ data := #[58, 32] } : ByteArray) ++ v.name ++ ({ data := #[32, 105, 115, 32, 97, 110, 121] } : ByteArray)] else []
def wrF (f : Fun) : List ByteArray := f.vars.flatMap (wrV f)
def wrE (u : Un) : List ByteArray := if unE u = 0 then u.globals.flatMap wrG ++ u.funcs.flatMap wrF else []
theorem flat1_len {α β : Type} {f : α → List β} (h : ∀ x, (f x).length ≤ 1) (l : List α) : (l.flatMap f).length ≤ l.length := by
  induction l with
  | nil => exact Nat.le_refl _
  | cons x l ih => have := h x; rw [List.flatMap_cons, List.length_append, List.length_cons]; omega
theorem flatn_len {α β : Type} {f : α → List β} {n : Nat} (l : List α) (h : ∀ x ∈ l, (f x).length ≤ n) : (l.flatMap f).length ≤ n * l.length := by
  induction l with
  | nil => simp
  | cons x l ih =>
    have := h x (by simp)
    have h2 := ih fun y hy => h y (by simp [hy])
    rw [List.flatMap_cons, List.length_append, List.length_cons, Nat.mul_succ]; omega
theorem wrG_len (v : Va) : (wrG v).length ≤ 1 := by unfold wrG; split <;> simp
theorem wrV_len (f : Fun) (v : Va) : (wrV f v).length ≤ 1 := by unfold wrV; split <;> simp
theorem tsL_allS (l : List ByteArray) : allS 1 (l.map tsV) = true := by
  unfold allS
  rw [List.all_map]
  exact List.all_eq_true.2 fun x _ => rfl
theorem Y7_D9 : type_of% (AI @F_ag_22 (AI @F_ag_24 (AI @F_ag_26 (AI @F_ag_3 (AI @F_ag_37 (AI @F_ag_41 (AI @F_ag_44 (AI @F_ag_9 (AI @F_al_37 (AI @F_al_44 (AI @F_al_9 (AI @F_by_9 (AI @F_el_22 (AI @F_el_24 (AI @F_el_29 (AI @F_fl_26_0 (AI @F_fl_26_2 (AI @F_fl_37_0 (AI @F_fl_37_1 (AI @F_fl_41_0 (AI @F_fl_44_0 (AI @F_fl_44_1 (AI @F_sz_22 (AI @F_sz_24 (AI @F_sz_26 (AI @F_sz_3 (AI @F_sz_37 (AI @F_sz_41 (AI @F_sz_44 (@F_sz_9)))))))))))))))))))))))))))))) := AI @F_ag_22 (AI @F_ag_24 (AI @F_ag_26 (AI @F_ag_3 (AI @F_ag_37 (AI @F_ag_41 (AI @F_ag_44 (AI @F_ag_9 (AI @F_al_37 (AI @F_al_44 (AI @F_al_9 (AI @F_by_9 (AI @F_el_22 (AI @F_el_24 (AI @F_el_29 (AI @F_fl_26_0 (AI @F_fl_26_2 (AI @F_fl_37_0 (AI @F_fl_37_1 (AI @F_fl_41_0 (AI @F_fl_44_0 (AI @F_fl_44_1 (AI @F_sz_22 (AI @F_sz_24 (AI @F_sz_26 (AI @F_sz_3 (AI @F_sz_37 (AI @F_sz_41 (AI @F_sz_44 (@F_sz_9)))))))))))))))))))))))))))))
set_option maxHeartbeats 4000000 in
theorem c_Warnings (u : Un) (hu : fitU u) : PC Tryz.prog 7 [unV u] (.sl ((wrE u).map tsV) .ro) := by
  have h1 := c_CheckUnit u hu
  unfold wrE
  refine PC.enter 62 Tryz.func7 rfl (by decide) rfl rfl (s := [(0, unV u)]) (by rfl) ?_
  rw [unV_eq]
  refine wG Y7_D9 True.intro ?_
  refine AR.callP h1 unV_eq (AI (@exL_id) (AI (@vaL_id) (AI (@exV_id) (AI (@vaV_id) (AI tsL_id (AI ndLs_id (AI nlVs_id (AI ndV_id (AI scL_id (AI fnL_id (AI unV_id fnV_id))))))))))) ?_
  by_cases b : unE u = 0
  case neg =>
    rw [if_neg b]
    refine goG Y7_D9 b ?_
    refine wG Y7_D9 b ?_
    refine Fin.gen0 (rs := [.tmp 2]) rfl (by first | exact .inl rfl | exact .inr rfl) (by simp only [resX, resA, ↓accU_f, ↓reduceIte, SA, SB, SC, SD, Y7_D9, valG, fpsG, evO, evB, evA, evA1, nilK, eqF, eqC, apOk, intOf, slB, slK,  gd, St.ev, putA, ofl, wrl, putE, V.ofVal, V.ofCell, bin2, un1, seg, fillV, partsOk, Value.oneCell', Nat.reduceBEq, Nat.reduceLT, Nat.reduceSub, Nat.reduceAdd, Nat.reduceMul, Nat.reduceLeDiff, Nat.reduceEqDiff, reduceCtorEq, Int.reduceLT, Int.reduceLE, Int.reduceEq, Int.reduceNe, Int.reduceBEq, Int.reduceBNe, Int.reduceAdd, Int.reduceSub, Int.reduceMul, Int.reduceToNat]; with_reducible exact rfl) ?_
    repeat (first | exact WkF.of (Wk.refl _) (by first | rfl | simp only [List.length_cons, List.length_nil, Nat.reduceAdd, V.ids, V.idsL, idsA, entOk, List.all_cons, List.all_nil, Bool.and_self, Bool.and_true, Bool.true_and, ltB, noId, Nat.reduceLT, decide_true, Bool.true_eq_false, tyV_id, fdV_id, tyL_id, fdL_id, exL_id, vaL_id, exV_id, vaV_id, tsL_id, ndLs_id, nlVs_id, ndV_id, scL_id, fnL_id, unV_id, fnV_id]) | exact WkF.of (Wk.ro _ _) (by first | rfl | simp only [List.length_cons, List.length_nil, Nat.reduceAdd, V.ids, V.idsL, idsA, entOk, List.all_cons, List.all_nil, Bool.and_self, Bool.and_true, Bool.true_and, ltB, noId, Nat.reduceLT, decide_true, Bool.true_eq_false, tyV_id, fdV_id, tyL_id, fdL_id, exL_id, vaL_id, exV_id, vaV_id, tsL_id, ndLs_id, nlVs_id, ndV_id, scL_id, fnL_id, unV_id, fnV_id]) | refine WkF.tu ?_ | refine WkF.ag ?_ | refine WkFL.cons ?_ ?_ | exact WkFL.nil)
  rw [if_pos b]
  obtain ⟨hg1, hf1, hgn, hfn⟩ := unE_names b
  refine goG Y7_D9 b ?_
  refine wG Y7_D9 @List.length_map.{0, 0} ?_
  clear h1 b
  refine AWp.loop ?_
  refine ALp.ghost 3 [] .nl 9 1 ?_
  refine ALp.cutP 2 [(1, .pt 0 0), (3, .sl (((u.globals.take (0)).flatMap wrG).map tsV) (.own 1)), (14, .sl (u.globals.map vaV) .ro), (15, (.im (.int .i64 (u.globals.length)))), (16, (.im (.int .i64 ((((0 : Nat)) : Int)))))] [.box [.sl (u.globals.map vaV) .ro, .sl (u.data.map scV) .ro, .sl (u.funcs.map fnV) .ro], .tip 9 1 ((u.globals.take (0)).flatMap wrG).length] (AI (@exL_id) (AI (@vaL_id) (AI (@exV_id) (AI (@vaV_id) (AI tsL_id (AI ndLs_id (AI nlVs_id (AI ndV_id (AI scL_id (AI fnL_id (AI unV_id fnV_id))))))))))) ?_
  refine ALp.upto u.globals.length (fun _ => True) (fun m => ⟨dn 62 [(1, .pt 0 0), (3, .sl (((u.globals.take (m)).flatMap wrG).map tsV) (.own 1)), (14, .sl (u.globals.map vaV) .ro), (15, (.im (.int .i64 (u.globals.length)))), (16, (.im (.int .i64 ((((m : Nat)) : Int)))))], ofl [.box [.sl (u.globals.map vaV) .ro, .sl (u.data.map scV) .ro, .sl (u.funcs.map fnV) .ro], .tip 9 1 ((u.globals.take (m)).flatMap wrG).length]⟩) ?_ 0 (Nat.zero_le _) trivial
  intro m hm _ hnext
  by_cases hlt : m < u.globals.length
  · have hlt' : (m : Int) < (u.globals.length : Int) := by omega
    have hm1 := wrap_succ hlt (by omega)
    have hg := get_some hlt
    have hnm := hgn _ (List.getElem_mem hlt)
    have hsn := flatMap_snoc wrG hlt
    have hle := flat1_len wrG_len (u.globals.take (m + 1))
    rw [List.length_take] at hle
    have hn2 := hnext (m + 1) (by omega) (by omega) trivial
    clear hnext
    by_cases k6 : u.globals[m].ty.kind = 6
    · rw [show wrG u.globals[m] = [u.globals[m].name ++ ({ data := #[32, 105, 115, 32, 97, 110, 121] } : ByteArray)] by unfold wrG; rw [if_pos (by simp [k6])]] at hsn
      have a1 : u.globals[m].name.size + (({ data := #[32, 105, 115, 32, 97, 110, 121] } : ByteArray)).size ≤ 9223372036854775807 := by
        show u.globals[m].name.size + 7 ≤ _
        omega
      have hap : ((u.globals.take (m)).flatMap wrG).map tsV ++ [.im (.string (u.globals[m].name ++ ({ data := #[32, 105, 115, 32, 97, 110, 121] } : ByteArray)))] = ((u.globals.take (m + 1)).flatMap wrG).map tsV := by rw [← hsn]; simp [tsV]
      have hln : ((u.globals.take (m)).flatMap wrG).length + 1 = ((u.globals.take (m + 1)).flatMap wrG).length := by rw [← hsn]; simp
      have hA : ((u.globals.take (m + 1)).flatMap wrG).length * 16 ≤ 140737488355328 := by omega
      generalize ((u.globals.take (m)).flatMap wrG) = w0 at hap hln ⊢
      generalize ((u.globals.take (m + 1)).flatMap wrG) = w1 at hap hln hA hn2
      clear hsn hle
      refine wG Y7_D9 (AI hlt' (AI hg (AI k6 (AI a1 (AI hap (AI hln (AI hA (AI hm1 (AI (@List.length_map.{0, 0}) VA))))))))) ?_
      refine ALp.cutP 2 [(1, .pt 0 0), (3, .sl (w1.map tsV) (.own 1)), (14, .sl (u.globals.map vaV) .ro), (15, (.im (.int .i64 (u.globals.length)))), (16, (.im (.int .i64 ((((m + 1 : Nat)) : Int)))))] [.box [.sl (u.globals.map vaV) .ro, .sl (u.data.map scV) .ro, .sl (u.funcs.map fnV) .ro], .tip 9 1 w1.length] (AI (@exL_id) (AI (@vaL_id) (AI (@exV_id) (AI (@vaV_id) (AI tsL_id (AI ndLs_id (AI nlVs_id (AI ndV_id (AI scL_id (AI fnL_id (AI unV_id fnV_id))))))))))) ?_
      exact hn2
    · rw [show wrG u.globals[m] = [] by unfold wrG; rw [if_neg (by simp [k6])], List.append_nil] at hsn
      rw [hsn]
      refine wG Y7_D9 (AI hlt' (AI hg (AI k6 (AI hm1 VA)))) ?_
      refine ALp.cutP 2 [(1, .pt 0 0), (3, .sl (((u.globals.take (m + 1)).flatMap wrG).map tsV) (.own 1)), (14, .sl (u.globals.map vaV) .ro), (15, (.im (.int .i64 (u.globals.length)))), (16, (.im (.int .i64 ((((m + 1 : Nat)) : Int)))))] [.box [.sl (u.globals.map vaV) .ro, .sl (u.data.map scV) .ro, .sl (u.funcs.map fnV) .ro], .tip 9 1 ((u.globals.take (m + 1)).flatMap wrG).length] (AI (@exL_id) (AI (@vaL_id) (AI (@exV_id) (AI (@vaV_id) (AI tsL_id (AI ndLs_id (AI nlVs_id (AI ndV_id (AI scL_id (AI fnL_id (AI unV_id fnV_id))))))))))) ?_
      exact hn2
  obtain rfl : m = u.globals.length := by omega
  clear hnext
  have hl0 := flat1_len wrG_len u.globals
  rw [List.take_length]
  generalize u.globals.flatMap wrG = g0 at hl0 ⊢
  refine whG Y7_D9 @Int.lt_irrefl ?_
  refine Blk'.here (Thn.n ?_)
  refine wG Y7_D9 @List.length_map.{0, 0} ?_
  refine AWp.loop ?_
  have hz : (g0 ++ (u.funcs.take (0)).flatMap wrF) = g0 := by simp
  rw [← hz]
  refine ALp.cutP 2 [(1, .pt 0 0), (3, .sl ((g0 ++ (u.funcs.take (0)).flatMap wrF).map tsV) (.own 1)), (32, .sl (u.funcs.map fnV) .ro), (33, (.im (.int .i64 (u.funcs.length)))), (34, (.im (.int .i64 ((((0 : Nat)) : Int)))))] [.box [.sl (u.globals.map vaV) .ro, .sl (u.data.map scV) .ro, .sl (u.funcs.map fnV) .ro], .tip 9 1 (g0 ++ (u.funcs.take (0)).flatMap wrF).length] (AI (@exL_id) (AI (@vaL_id) (AI (@exV_id) (AI (@vaV_id) (AI tsL_id (AI ndLs_id (AI nlVs_id (AI ndV_id (AI scL_id (AI fnL_id (AI unV_id fnV_id))))))))))) ?_
  refine ALp.upto u.funcs.length (fun _ => True) (fun m => ⟨dn 62 [(1, .pt 0 0), (3, .sl ((g0 ++ (u.funcs.take (m)).flatMap wrF).map tsV) (.own 1)), (32, .sl (u.funcs.map fnV) .ro), (33, (.im (.int .i64 (u.funcs.length)))), (34, (.im (.int .i64 ((((m : Nat)) : Int)))))], ofl [.box [.sl (u.globals.map vaV) .ro, .sl (u.data.map scV) .ro, .sl (u.funcs.map fnV) .ro], .tip 9 1 (g0 ++ (u.funcs.take (m)).flatMap wrF).length]⟩) ?_ 0 (Nat.zero_le _) trivial
  intro m hm _ hnext
  by_cases hlt : m < u.funcs.length
  case neg =>
    obtain rfl : m = u.funcs.length := by omega
    clear hnext
    rw [hz, List.take_length]
    refine wG Y7_D9 @Int.lt_irrefl ?_
    refine Fin.gen0 (rs := [.tmp 2]) rfl (by first | exact .inl rfl | exact .inr rfl) (by simp only [resX, resA, ↓accU_f, ↓reduceIte, SA, SB, SC, SD, Y7_D9, valG, fpsG, evO, evB, evA, evA1, nilK, eqF, eqC, apOk, intOf, slB, slK,  gd, St.ev, putA, ofl, wrl, putE, V.ofVal, V.ofCell, bin2, un1, seg, fillV, partsOk, Value.oneCell', Nat.reduceBEq, Nat.reduceLT, Nat.reduceSub, Nat.reduceAdd, Nat.reduceMul, Nat.reduceLeDiff, Nat.reduceEqDiff, reduceCtorEq, Int.reduceLT, Int.reduceLE, Int.reduceEq, Int.reduceNe, Int.reduceBEq, Int.reduceBNe, Int.reduceAdd, Int.reduceSub, Int.reduceMul, Int.reduceToNat]; with_reducible exact rfl) ?_
    repeat (first | exact WkF.of (Wk.refl _) (by first | rfl | simp only [List.length_cons, List.length_nil, Nat.reduceAdd, V.ids, V.idsL, idsA, entOk, List.all_cons, List.all_nil, Bool.and_self, Bool.and_true, Bool.true_and, ltB, noId, Nat.reduceLT, decide_true, Bool.true_eq_false, tyV_id, fdV_id, tyL_id, fdL_id, exL_id, vaL_id, exV_id, vaV_id, tsL_id, ndLs_id, nlVs_id, ndV_id, scL_id, fnL_id, unV_id, fnV_id]) | exact WkF.of (Wk.ro _ _) (by first | rfl | simp only [List.length_cons, List.length_nil, Nat.reduceAdd, V.ids, V.idsL, idsA, entOk, List.all_cons, List.all_nil, Bool.and_self, Bool.and_true, Bool.true_and, ltB, noId, Nat.reduceLT, decide_true, Bool.true_eq_false, tyV_id, fdV_id, tyL_id, fdL_id, exL_id, vaL_id, exV_id, vaV_id, tsL_id, ndLs_id, nlVs_id, ndV_id, scL_id, fnL_id, unV_id, fnV_id]) | refine WkF.tu ?_ | refine WkF.ag ?_ | refine WkFL.cons ?_ ?_ | exact WkFL.nil)
  have hlt' : (m : Int) < (u.funcs.length : Int) := by omega
  have hm1 := wrap_succ hlt (by omega)
  have hg := get_some hlt
  obtain ⟨hfs, hvl, hvn⟩ := hfn _ (List.getElem_mem hlt)
  have hsn := flatMap_snoc wrF hlt
  have hfl : ((u.funcs.take m).flatMap wrF).length ≤ 256 * (u.funcs.take m).length := flatn_len _ fun f hf => by
    have := flat1_len (wrV_len f) f.vars
    have h2 := (hfn f (List.mem_of_mem_take hf)).2.1
    unfold wrF
    omega
  rw [List.length_take] at hfl
  obtain ⟨Bf, hBf⟩ : ∃ Bf : Nat → List ByteArray, ∀ j, Bf j = (g0 ++ (u.funcs.take (m)).flatMap wrF) ++ (u.funcs[m].vars.take j).flatMap (wrV u.funcs[m]) := ⟨_, fun _ => rfl⟩
  have hB0 : Bf 0 = (g0 ++ (u.funcs.take (m)).flatMap wrF) := by rw [hBf]; simp
  have hBe : Bf u.funcs[m].vars.length = (g0 ++ (u.funcs.take (m + 1)).flatMap wrF) := by rw [hBf, List.take_length, ← hsn, List.append_assoc]; rfl
  have hBl : ∀ j, (Bf j).length ≤ 4194304 := fun j => by
    have := flat1_len (wrV_len u.funcs[m]) (u.funcs[m].vars.take j)
    rw [List.length_take] at this
    rw [hBf, List.length_append, List.length_append]
    omega
  have hst : ∀ j (hj : j < u.funcs[m].vars.length), Bf j ++ wrV u.funcs[m] u.funcs[m].vars[j] = Bf (j + 1) := fun j hj => by
    rw [hBf, hBf, ← flatMap_snoc _ hj, List.append_assoc]
  have hn2 := hnext (m + 1) (by omega) (by omega) trivial
  rw [← hBe] at hn2
  rw [← hB0]
  clear hnext hsn hfl hBe hBf hB0
  refine wG Y7_D9 (AI hlt' (AI hg (AI (@List.length_map.{0, 0}) FU))) ?_
  refine AWp.loop ?_
  refine ALp.cutP 3 [(1, .pt 0 0), (3, .sl ((Bf (0)).map tsV) (.own 1)), (7, .pt 2 0), (32, .sl (u.funcs.map fnV) .ro), (33, (.im (.int .i64 (u.funcs.length)))), (34, (.im (.int .i64 ((m : Int))))), (39, .sl (u.funcs[m].vars.map vaV) .ro), (40, (.im (.int .i64 (u.funcs[m].vars.length)))), (41, (.im (.int .i64 ((((0 : Nat)) : Int)))))] [.box [.sl (u.globals.map vaV) .ro, .sl (u.data.map scV) .ro, .sl (u.funcs.map fnV) .ro], .tip 9 1 (Bf (0)).length, .box [.im (.string u.funcs[m].name), .sl (u.funcs[m].vars.map vaV) .ro, .sl (u.funcs[m].body.map ndV) .ro]] (AI (@exL_id) (AI (@vaL_id) (AI (@exV_id) (AI (@vaV_id) (AI tsL_id (AI ndLs_id (AI nlVs_id (AI ndV_id (AI scL_id (AI fnL_id (AI unV_id fnV_id))))))))))) ?_
  refine ALp.upto u.funcs[m].vars.length (fun _ => True) (fun j => ⟨dn 62 [(1, .pt 0 0), (3, .sl ((Bf (j)).map tsV) (.own 1)), (7, .pt 2 0), (32, .sl (u.funcs.map fnV) .ro), (33, (.im (.int .i64 (u.funcs.length)))), (34, (.im (.int .i64 ((m : Int))))), (39, .sl (u.funcs[m].vars.map vaV) .ro), (40, (.im (.int .i64 (u.funcs[m].vars.length)))), (41, (.im (.int .i64 ((((j : Nat)) : Int)))))], ofl [.box [.sl (u.globals.map vaV) .ro, .sl (u.data.map scV) .ro, .sl (u.funcs.map fnV) .ro], .tip 9 1 (Bf (j)).length, .box [.im (.string u.funcs[m].name), .sl (u.funcs[m].vars.map vaV) .ro, .sl (u.funcs[m].body.map ndV) .ro]]⟩) ?_ 0 (Nat.zero_le _) trivial
  intro j hj _ hnext2
  by_cases hlu : j < u.funcs[m].vars.length
  case neg =>
    obtain rfl : j = u.funcs[m].vars.length := by omega
    clear hnext2
    refine whG Y7_D9 @Int.lt_irrefl ?_
    refine Blk'.here (Thn.n ?_)
    refine wG Y7_D9 hm1 ?_
    refine ALp.cutP 2 [(1, .pt 0 0), (3, .sl ((Bf u.funcs[m].vars.length).map tsV) (.own 1)), (32, .sl (u.funcs.map fnV) .ro), (33, (.im (.int .i64 (u.funcs.length)))), (34, (.im (.int .i64 ((((m + 1 : Nat)) : Int)))))] [.box [.sl (u.globals.map vaV) .ro, .sl (u.data.map scV) .ro, .sl (u.funcs.map fnV) .ro], .tip 9 1 (Bf u.funcs[m].vars.length).length] (AI (@exL_id) (AI (@vaL_id) (AI (@exV_id) (AI (@vaV_id) (AI tsL_id (AI ndLs_id (AI nlVs_id (AI ndV_id (AI scL_id (AI fnL_id (AI unV_id fnV_id))))))))))) ?_
    exact hn2
  have hlu' : (j : Int) < (u.funcs[m].vars.length : Int) := by omega
  have hj1 := wrap_succ hlu (by omega)
  have hg2 := get_some hlu
  have hnm := hvn _ (List.getElem_mem hlu)
  have hs := hst j hlu
  have hn3 := hnext2 (j + 1) (by omega) (by omega) trivial
  clear hnext2 hn2 hst
  by_cases k6 : u.funcs[m].vars[j].ty.kind = 6
  · rw [show wrV u.funcs[m] u.funcs[m].vars[j] = [u.funcs[m].name ++ ({ data := #[58, 32] } : ByteArray) ++ u.funcs[m].vars[j].name ++ ({ data := #[32, 105, 115, 32, 97, 110, 121] } : ByteArray)] by unfold wrV; rw [if_pos (by simp [k6])]] at hs
    have a1 : u.funcs[m].name.size + (({ data := #[58, 32] } : ByteArray)).size ≤ 9223372036854775807 := by
      show u.funcs[m].name.size + 2 ≤ _
      omega
    have a2 : (u.funcs[m].name ++ ({ data := #[58, 32] } : ByteArray)).size + u.funcs[m].vars[j].name.size ≤ 9223372036854775807 := by
      rw [ByteArray.size_append]
      show u.funcs[m].name.size + 2 + _ ≤ _
      omega
    have a3 : (u.funcs[m].name ++ ({ data := #[58, 32] } : ByteArray) ++ u.funcs[m].vars[j].name).size + (({ data := #[32, 105, 115, 32, 97, 110, 121] } : ByteArray)).size ≤ 9223372036854775807 := by
      rw [ByteArray.size_append, ByteArray.size_append]
      show u.funcs[m].name.size + 2 + _ + 7 ≤ _
      omega
    have hap : (Bf j).map tsV ++ [.im (.string (u.funcs[m].name ++ ({ data := #[58, 32] } : ByteArray) ++ u.funcs[m].vars[j].name ++ ({ data := #[32, 105, 115, 32, 97, 110, 121] } : ByteArray)))] = (Bf (j + 1)).map tsV := by rw [← hs]; simp [tsV]
    have hln : (Bf j).length + 1 = (Bf (j + 1)).length := by rw [← hs]; simp
    have hA : (Bf (j + 1)).length * 16 ≤ 140737488355328 := by have := hBl (j + 1); omega
    refine wdG Y7_D9 (AI hlu' (AI hg2 (AI k6 (AI a1 (AI a2 (AI a3 (AI hap (AI hln (AI hA (AI hj1 (AI (@List.length_map.{0, 0}) VA))))))))))) ?_
    refine ALp.cutP 3 [(1, .pt 0 0), (3, .sl ((Bf (j + 1)).map tsV) (.own 1)), (7, .pt 2 0), (32, .sl (u.funcs.map fnV) .ro), (33, (.im (.int .i64 (u.funcs.length)))), (34, (.im (.int .i64 ((m : Int))))), (39, .sl (u.funcs[m].vars.map vaV) .ro), (40, (.im (.int .i64 (u.funcs[m].vars.length)))), (41, (.im (.int .i64 ((((j + 1 : Nat)) : Int)))))] [.box [.sl (u.globals.map vaV) .ro, .sl (u.data.map scV) .ro, .sl (u.funcs.map fnV) .ro], .tip 9 1 (Bf (j + 1)).length, .box [.im (.string u.funcs[m].name), .sl (u.funcs[m].vars.map vaV) .ro, .sl (u.funcs[m].body.map ndV) .ro]] (AI (@exL_id) (AI (@vaL_id) (AI (@exV_id) (AI (@vaV_id) (AI tsL_id (AI ndLs_id (AI nlVs_id (AI ndV_id (AI scL_id (AI fnL_id (AI unV_id fnV_id))))))))))) ?_
    exact hn3
  · rw [show wrV u.funcs[m] u.funcs[m].vars[j] = [] by unfold wrV; rw [if_neg (by simp [k6])], List.append_nil] at hs
    rw [hs]
    refine wdG Y7_D9 (AI hlu' (AI hg2 (AI k6 (AI hj1 VA)))) ?_
    refine ALp.cutP 3 [(1, .pt 0 0), (3, .sl ((Bf (j + 1)).map tsV) (.own 1)), (7, .pt 2 0), (32, .sl (u.funcs.map fnV) .ro), (33, (.im (.int .i64 (u.funcs.length)))), (34, (.im (.int .i64 ((m : Int))))), (39, .sl (u.funcs[m].vars.map vaV) .ro), (40, (.im (.int .i64 (u.funcs[m].vars.length)))), (41, (.im (.int .i64 ((((j + 1 : Nat)) : Int)))))] [.box [.sl (u.globals.map vaV) .ro, .sl (u.data.map scV) .ro, .sl (u.funcs.map fnV) .ro], .tip 9 1 (Bf (j + 1)).length, .box [.im (.string u.funcs[m].name), .sl (u.funcs[m].vars.map vaV) .ro, .sl (u.funcs[m].body.map ndV) .ro]] (AI (@exL_id) (AI (@vaL_id) (AI (@exV_id) (AI (@vaV_id) (AI tsL_id (AI ndLs_id (AI nlVs_id (AI ndV_id (AI scL_id (AI fnL_id (AI unV_id fnV_id))))))))))) ?_
    exact hn3
theorem Y8_D9 : type_of% (AI @F_ag_22 (AI @F_ag_24 (AI @F_ag_26 (AI @F_ag_3 (AI @F_ag_37 (AI @F_ag_41 (AI @F_ag_9 (AI @F_al_37 (AI @F_al_9 (AI @F_by_9 (AI @F_el_22 (AI @F_el_24 (AI @F_el_29 (AI @F_fl_26_0 (AI @F_fl_26_2 (AI @F_fl_37_0 (AI @F_fl_37_1 (AI @F_fl_41_0 (AI @F_fl_44_0 (AI @F_fl_44_1 (AI @F_sz_22 (AI @F_sz_24 (AI @F_sz_26 (AI @F_sz_3 (AI @F_sz_37 (AI @F_sz_41 (AI @F_sz_44 (@F_sz_9)))))))))))))))))))))))))))) := AI @F_ag_22 (AI @F_ag_24 (AI @F_ag_26 (AI @F_ag_3 (AI @F_ag_37 (AI @F_ag_41 (AI @F_ag_9 (AI @F_al_37 (AI @F_al_9 (AI @F_by_9 (AI @F_el_22 (AI @F_el_24 (AI @F_el_29 (AI @F_fl_26_0 (AI @F_fl_26_2 (AI @F_fl_37_0 (AI @F_fl_37_1 (AI @F_fl_41_0 (AI @F_fl_44_0 (AI @F_fl_44_1 (AI @F_sz_22 (AI @F_sz_24 (AI @F_sz_26 (AI @F_sz_3 (AI @F_sz_37 (AI @F_sz_41 (AI @F_sz_44 (@F_sz_9)))))))))))))))))))))))))))
set_option maxHeartbeats 4000000 in
theorem c_WarningsR (u : Un) (hu : fitU u) : PC Tryz.prog 8 [unV u] (.sl ((wrE u).map tsV) .ro) := by
  have h1 := c_CheckUnitR u hu
  unfold wrE
  refine PC.enter 79 Tryz.func8 rfl (by decide) rfl rfl (s := [(0, unV u)]) (by rfl) ?_
  rw [unV_eq]
  refine wG Y8_D9 True.intro ?_
  refine AR.callP h1 unV_eq (AI (@exL_id) (AI (@vaL_id) (AI (@exV_id) (AI (@vaV_id) (AI tsL_id (AI ndLs_id (AI nlVs_id (AI ndV_id (AI scL_id (AI fnL_id (AI unV_id fnV_id))))))))))) ?_
  by_cases b : unE u = 0
  case neg =>
    rw [if_neg b]
    refine goG Y8_D9 b ?_
    refine wG Y8_D9 b ?_
    refine Fin.gen0 (rs := [.tmp 2]) rfl (by first | exact .inl rfl | exact .inr rfl) (by simp only [resX, resA, ↓accU_f, ↓reduceIte, SA, SB, SC, SD, Y8_D9, valG, fpsG, evO, evB, evA, evA1, nilK, eqF, eqC, apOk, intOf, slB, slK,  gd, St.ev, putA, ofl, wrl, putE, V.ofVal, V.ofCell, bin2, un1, seg, fillV, partsOk, Value.oneCell', Nat.reduceBEq, Nat.reduceLT, Nat.reduceSub, Nat.reduceAdd, Nat.reduceMul, Nat.reduceLeDiff, Nat.reduceEqDiff, reduceCtorEq, Int.reduceLT, Int.reduceLE, Int.reduceEq, Int.reduceNe, Int.reduceBEq, Int.reduceBNe, Int.reduceAdd, Int.reduceSub, Int.reduceMul, Int.reduceToNat]; with_reducible exact rfl) ?_
    repeat (first | exact WkF.of (Wk.refl _) (by first | rfl | simp only [List.length_cons, List.length_nil, Nat.reduceAdd, V.ids, V.idsL, idsA, entOk, List.all_cons, List.all_nil, Bool.and_self, Bool.and_true, Bool.true_and, ltB, noId, Nat.reduceLT, decide_true, Bool.true_eq_false, tyV_id, fdV_id, tyL_id, fdL_id, exL_id, vaL_id, exV_id, vaV_id, tsL_id, ndLs_id, nlVs_id, ndV_id, scL_id, fnL_id, unV_id, fnV_id]) | exact WkF.of (Wk.ro _ _) (by first | rfl | simp only [List.length_cons, List.length_nil, Nat.reduceAdd, V.ids, V.idsL, idsA, entOk, List.all_cons, List.all_nil, Bool.and_self, Bool.and_true, Bool.true_and, ltB, noId, Nat.reduceLT, decide_true, Bool.true_eq_false, tyV_id, fdV_id, tyL_id, fdL_id, exL_id, vaL_id, exV_id, vaV_id, tsL_id, ndLs_id, nlVs_id, ndV_id, scL_id, fnL_id, unV_id, fnV_id]) | refine WkF.tu ?_ | refine WkF.ag ?_ | refine WkFL.cons ?_ ?_ | exact WkFL.nil)
  rw [if_pos b]
  obtain ⟨hg1, hf1, hgn, hfn⟩ := unE_names b
  refine goG Y8_D9 b ?_
  refine wG Y8_D9 @List.length_map.{0, 0} ?_
  clear h1 b
  refine AWp.loop ?_
  refine ALp.ghost 3 [] .nl 9 1 ?_
  refine ALp.cutP 2 [(1, .pt 0 0), (3, .sl (((u.globals.take (0)).flatMap wrG).map tsV) (.own 1)), (4, (.im (.int .i64 (((0 : Nat) : Int)))))] [.box [.sl (u.globals.map vaV) .ro, .sl (u.data.map scV) .ro, .sl (u.funcs.map fnV) .ro], .tip 9 1 ((u.globals.take (0)).flatMap wrG).length] (AI (@exL_id) (AI (@vaL_id) (AI (@exV_id) (AI (@vaV_id) (AI tsL_id (AI ndLs_id (AI nlVs_id (AI ndV_id (AI scL_id (AI fnL_id (AI unV_id fnV_id))))))))))) ?_
  refine ALp.upto u.globals.length (fun _ => True) (fun m => ⟨dn 79 [(1, .pt 0 0), (3, .sl (((u.globals.take (m)).flatMap wrG).map tsV) (.own 1)), (4, (.im (.int .i64 (((m : Nat) : Int)))))], ofl [.box [.sl (u.globals.map vaV) .ro, .sl (u.data.map scV) .ro, .sl (u.funcs.map fnV) .ro], .tip 9 1 ((u.globals.take (m)).flatMap wrG).length]⟩) ?_ 0 (Nat.zero_le _) trivial
  intro m hm _ hnext
  by_cases hlt : m < u.globals.length
  · have hlt' : (m : Int) < (u.globals.length : Int) := by omega
    have hm1 := wrap_succ hlt (by omega)
    have hg := get_some hlt
    have hnm := hgn _ (List.getElem_mem hlt)
    have hsn := flatMap_snoc wrG hlt
    have hle := flat1_len wrG_len (u.globals.take (m + 1))
    rw [List.length_take] at hle
    have hn2 := hnext (m + 1) (by omega) (by omega) trivial
    clear hnext
    by_cases k6 : u.globals[m].ty.kind = 6
    · rw [show wrG u.globals[m] = [u.globals[m].name ++ ({ data := #[32, 105, 115, 32, 97, 110, 121] } : ByteArray)] by unfold wrG; rw [if_pos (by simp [k6])]] at hsn
      have a1 : u.globals[m].name.size + (({ data := #[32, 105, 115, 32, 97, 110, 121] } : ByteArray)).size ≤ 9223372036854775807 := by
        show u.globals[m].name.size + 7 ≤ _
        omega
      have hap : ((u.globals.take (m)).flatMap wrG).map tsV ++ [.im (.string (u.globals[m].name ++ ({ data := #[32, 105, 115, 32, 97, 110, 121] } : ByteArray)))] = ((u.globals.take (m + 1)).flatMap wrG).map tsV := by rw [← hsn]; simp [tsV]
      have hln : ((u.globals.take (m)).flatMap wrG).length + 1 = ((u.globals.take (m + 1)).flatMap wrG).length := by rw [← hsn]; simp
      have hA : ((u.globals.take (m + 1)).flatMap wrG).length * 16 ≤ 140737488355328 := by omega
      generalize ((u.globals.take (m)).flatMap wrG) = w0 at hap hln ⊢
      generalize ((u.globals.take (m + 1)).flatMap wrG) = w1 at hap hln hA hn2
      clear hsn hle
      refine wG Y8_D9 (AI hlt' (AI hg (AI k6 (AI a1 (AI hap (AI hln (AI hA (AI hm1 (AI (@List.length_map.{0, 0}) VA))))))))) ?_
      refine ALp.cutP 2 [(1, .pt 0 0), (3, .sl (w1.map tsV) (.own 1)), (4, (.im (.int .i64 ((((m + 1 : Nat)) : Int)))))] [.box [.sl (u.globals.map vaV) .ro, .sl (u.data.map scV) .ro, .sl (u.funcs.map fnV) .ro], .tip 9 1 w1.length] (AI (@exL_id) (AI (@vaL_id) (AI (@exV_id) (AI (@vaV_id) (AI tsL_id (AI ndLs_id (AI nlVs_id (AI ndV_id (AI scL_id (AI fnL_id (AI unV_id fnV_id))))))))))) ?_
      exact hn2
    · rw [show wrG u.globals[m] = [] by unfold wrG; rw [if_neg (by simp [k6])], List.append_nil] at hsn
      rw [hsn]
      refine wG Y8_D9 (AI hlt' (AI hg (AI k6 (AI hm1 (AI (@List.length_map.{0, 0}) VA))))) ?_
      refine ALp.cutP 2 [(1, .pt 0 0), (3, .sl (((u.globals.take (m + 1)).flatMap wrG).map tsV) (.own 1)), (4, (.im (.int .i64 ((((m + 1 : Nat)) : Int)))))] [.box [.sl (u.globals.map vaV) .ro, .sl (u.data.map scV) .ro, .sl (u.funcs.map fnV) .ro], .tip 9 1 ((u.globals.take (m + 1)).flatMap wrG).length] (AI (@exL_id) (AI (@vaL_id) (AI (@exV_id) (AI (@vaV_id) (AI tsL_id (AI ndLs_id (AI nlVs_id (AI ndV_id (AI scL_id (AI fnL_id (AI unV_id fnV_id))))))))))) ?_
      exact hn2
  obtain rfl : m = u.globals.length := by omega
  clear hnext
  have hl0 := flat1_len wrG_len u.globals
  rw [List.take_length]
  generalize u.globals.flatMap wrG = g0 at hl0 ⊢
  refine whG Y8_D9 (AI (@Int.lt_irrefl) @List.length_map.{0, 0}) ?_
  refine Blk'.here (Thn.n ?_)
  refine wG Y8_D9 @List.length_map.{0, 0} ?_
  refine AWp.loop ?_
  have hz : (g0 ++ (u.funcs.take (0)).flatMap wrF) = g0 := by simp
  rw [← hz]
  refine ALp.cutP 2 [(1, .pt 0 0), (3, .sl ((g0 ++ (u.funcs.take (0)).flatMap wrF).map tsV) (.own 1)), (5, (.im (.int .i64 ((((0 : Nat)) : Int)))))] [.box [.sl (u.globals.map vaV) .ro, .sl (u.data.map scV) .ro, .sl (u.funcs.map fnV) .ro], .tip 9 1 (g0 ++ (u.funcs.take (0)).flatMap wrF).length] (AI (@exL_id) (AI (@vaL_id) (AI (@exV_id) (AI (@vaV_id) (AI tsL_id (AI ndLs_id (AI nlVs_id (AI ndV_id (AI scL_id (AI fnL_id (AI unV_id fnV_id))))))))))) ?_
  refine ALp.upto u.funcs.length (fun _ => True) (fun m => ⟨dn 79 [(1, .pt 0 0), (3, .sl ((g0 ++ (u.funcs.take (m)).flatMap wrF).map tsV) (.own 1)), (5, (.im (.int .i64 ((((m : Nat)) : Int)))))], ofl [.box [.sl (u.globals.map vaV) .ro, .sl (u.data.map scV) .ro, .sl (u.funcs.map fnV) .ro], .tip 9 1 (g0 ++ (u.funcs.take (m)).flatMap wrF).length]⟩) ?_ 0 (Nat.zero_le _) trivial
  intro m hm _ hnext
  by_cases hlt : m < u.funcs.length
  case neg =>
    obtain rfl : m = u.funcs.length := by omega
    clear hnext
    rw [hz, List.take_length]
    refine wG Y8_D9 (AI (@Int.lt_irrefl) @List.length_map.{0, 0}) ?_
    refine Fin.gen0 (rs := [.tmp 2]) rfl (by first | exact .inl rfl | exact .inr rfl) (by simp only [resX, resA, ↓accU_f, ↓reduceIte, SA, SB, SC, SD, Y8_D9, valG, fpsG, evO, evB, evA, evA1, nilK, eqF, eqC, apOk, intOf, slB, slK,  gd, St.ev, putA, ofl, wrl, putE, V.ofVal, V.ofCell, bin2, un1, seg, fillV, partsOk, Value.oneCell', Nat.reduceBEq, Nat.reduceLT, Nat.reduceSub, Nat.reduceAdd, Nat.reduceMul, Nat.reduceLeDiff, Nat.reduceEqDiff, reduceCtorEq, Int.reduceLT, Int.reduceLE, Int.reduceEq, Int.reduceNe, Int.reduceBEq, Int.reduceBNe, Int.reduceAdd, Int.reduceSub, Int.reduceMul, Int.reduceToNat]; with_reducible exact rfl) ?_
    repeat (first | exact WkF.of (Wk.refl _) (by first | rfl | simp only [List.length_cons, List.length_nil, Nat.reduceAdd, V.ids, V.idsL, idsA, entOk, List.all_cons, List.all_nil, Bool.and_self, Bool.and_true, Bool.true_and, ltB, noId, Nat.reduceLT, decide_true, Bool.true_eq_false, tyV_id, fdV_id, tyL_id, fdL_id, exL_id, vaL_id, exV_id, vaV_id, tsL_id, ndLs_id, nlVs_id, ndV_id, scL_id, fnL_id, unV_id, fnV_id]) | exact WkF.of (Wk.ro _ _) (by first | rfl | simp only [List.length_cons, List.length_nil, Nat.reduceAdd, V.ids, V.idsL, idsA, entOk, List.all_cons, List.all_nil, Bool.and_self, Bool.and_true, Bool.true_and, ltB, noId, Nat.reduceLT, decide_true, Bool.true_eq_false, tyV_id, fdV_id, tyL_id, fdL_id, exL_id, vaL_id, exV_id, vaV_id, tsL_id, ndLs_id, nlVs_id, ndV_id, scL_id, fnL_id, unV_id, fnV_id]) | refine WkF.tu ?_ | refine WkF.ag ?_ | refine WkFL.cons ?_ ?_ | exact WkFL.nil)
  have hlt' : (m : Int) < (u.funcs.length : Int) := by omega
  have hm1 := wrap_succ hlt (by omega)
  have hg := get_some hlt
  obtain ⟨hfs, hvl, hvn⟩ := hfn _ (List.getElem_mem hlt)
  have hsn := flatMap_snoc wrF hlt
  have hfl : ((u.funcs.take m).flatMap wrF).length ≤ 256 * (u.funcs.take m).length := flatn_len _ fun f hf => by
    have := flat1_len (wrV_len f) f.vars
    have h2 := (hfn f (List.mem_of_mem_take hf)).2.1
    unfold wrF
    omega
  rw [List.length_take] at hfl
  obtain ⟨Bf, hBf⟩ : ∃ Bf : Nat → List ByteArray, ∀ j, Bf j = (g0 ++ (u.funcs.take (m)).flatMap wrF) ++ (u.funcs[m].vars.take j).flatMap (wrV u.funcs[m]) := ⟨_, fun _ => rfl⟩
  have hB0 : Bf 0 = (g0 ++ (u.funcs.take (m)).flatMap wrF) := by rw [hBf]; simp
  have hBe : Bf u.funcs[m].vars.length = (g0 ++ (u.funcs.take (m + 1)).flatMap wrF) := by rw [hBf, List.take_length, ← hsn, List.append_assoc]; rfl
  have hBl : ∀ j, (Bf j).length ≤ 4194304 := fun j => by
    have := flat1_len (wrV_len u.funcs[m]) (u.funcs[m].vars.take j)
    rw [List.length_take] at this
    rw [hBf, List.length_append, List.length_append]
    omega
  have hst : ∀ j (hj : j < u.funcs[m].vars.length), Bf j ++ wrV u.funcs[m] u.funcs[m].vars[j] = Bf (j + 1) := fun j hj => by
    rw [hBf, hBf, ← flatMap_snoc _ hj, List.append_assoc]
  have hn2 := hnext (m + 1) (by omega) (by omega) trivial
  rw [← hBe] at hn2
  rw [← hB0]
  clear hnext hsn hfl hBe hBf hB0
  refine wG Y8_D9 (AI hlt' (AI hg (AI (@List.length_map.{0, 0}) FU))) ?_
  refine AWp.loop ?_
  refine ALp.cutP 3 [(1, .pt 0 0), (3, .sl ((Bf (0)).map tsV) (.own 1)), (5, (.im (.int .i64 ((m : Int))))), (6, .pt 2 0), (7, (.im (.int .i64 ((((0 : Nat)) : Int)))))] [.box [.sl (u.globals.map vaV) .ro, .sl (u.data.map scV) .ro, .sl (u.funcs.map fnV) .ro], .tip 9 1 (Bf (0)).length, .box [.im (.string u.funcs[m].name), .sl (u.funcs[m].vars.map vaV) .ro, .sl (u.funcs[m].body.map ndV) .ro]] (AI (@exL_id) (AI (@vaL_id) (AI (@exV_id) (AI (@vaV_id) (AI tsL_id (AI ndLs_id (AI nlVs_id (AI ndV_id (AI scL_id (AI fnL_id (AI unV_id fnV_id))))))))))) ?_
  refine ALp.upto u.funcs[m].vars.length (fun _ => True) (fun j => ⟨dn 79 [(1, .pt 0 0), (3, .sl ((Bf (j)).map tsV) (.own 1)), (5, (.im (.int .i64 ((m : Int))))), (6, .pt 2 0), (7, (.im (.int .i64 ((((j : Nat)) : Int)))))], ofl [.box [.sl (u.globals.map vaV) .ro, .sl (u.data.map scV) .ro, .sl (u.funcs.map fnV) .ro], .tip 9 1 (Bf (j)).length, .box [.im (.string u.funcs[m].name), .sl (u.funcs[m].vars.map vaV) .ro, .sl (u.funcs[m].body.map ndV) .ro]]⟩) ?_ 0 (Nat.zero_le _) trivial
  intro j hj _ hnext2
  by_cases hlu : j < u.funcs[m].vars.length
  case neg =>
    obtain rfl : j = u.funcs[m].vars.length := by omega
    clear hnext2
    refine whG Y8_D9 (AI (@Int.lt_irrefl) @List.length_map.{0, 0}) ?_
    refine Blk'.here (Thn.n ?_)
    refine wG Y8_D9 hm1 ?_
    refine ALp.cutP 2 [(1, .pt 0 0), (3, .sl ((Bf u.funcs[m].vars.length).map tsV) (.own 1)), (5, (.im (.int .i64 ((((m + 1 : Nat)) : Int)))))] [.box [.sl (u.globals.map vaV) .ro, .sl (u.data.map scV) .ro, .sl (u.funcs.map fnV) .ro], .tip 9 1 (Bf u.funcs[m].vars.length).length] (AI (@exL_id) (AI (@vaL_id) (AI (@exV_id) (AI (@vaV_id) (AI tsL_id (AI ndLs_id (AI nlVs_id (AI ndV_id (AI scL_id (AI fnL_id (AI unV_id fnV_id))))))))))) ?_
    exact hn2
  have hlu' : (j : Int) < (u.funcs[m].vars.length : Int) := by omega
  have hj1 := wrap_succ hlu (by omega)
  have hg2 := get_some hlu
  have hnm := hvn _ (List.getElem_mem hlu)
  have hs := hst j hlu
  have hn3 := hnext2 (j + 1) (by omega) (by omega) trivial
  clear hnext2 hn2 hst
  by_cases k6 : u.funcs[m].vars[j].ty.kind = 6
  · rw [show wrV u.funcs[m] u.funcs[m].vars[j] = [u.funcs[m].name ++ ({ data := #[58, 32] } : ByteArray) ++ u.funcs[m].vars[j].name ++ ({ data := #[32, 105, 115, 32, 97, 110, 121] } : ByteArray)] by unfold wrV; rw [if_pos (by simp [k6])]] at hs
    have a1 : u.funcs[m].name.size + (({ data := #[58, 32] } : ByteArray)).size ≤ 9223372036854775807 := by
      show u.funcs[m].name.size + 2 ≤ _
      omega
    have a2 : (u.funcs[m].name ++ ({ data := #[58, 32] } : ByteArray)).size + u.funcs[m].vars[j].name.size ≤ 9223372036854775807 := by
      rw [ByteArray.size_append]
      show u.funcs[m].name.size + 2 + _ ≤ _
      omega
    have a3 : (u.funcs[m].name ++ ({ data := #[58, 32] } : ByteArray) ++ u.funcs[m].vars[j].name).size + (({ data := #[32, 105, 115, 32, 97, 110, 121] } : ByteArray)).size ≤ 9223372036854775807 := by
      rw [ByteArray.size_append, ByteArray.size_append]
      show u.funcs[m].name.size + 2 + _ + 7 ≤ _
      omega
    have hap : (Bf j).map tsV ++ [.im (.string (u.funcs[m].name ++ ({ data := #[58, 32] } : ByteArray) ++ u.funcs[m].vars[j].name ++ ({ data := #[32, 105, 115, 32, 97, 110, 121] } : ByteArray)))] = (Bf (j + 1)).map tsV := by rw [← hs]; simp [tsV]
    have hln : (Bf j).length + 1 = (Bf (j + 1)).length := by rw [← hs]; simp
    have hA : (Bf (j + 1)).length * 16 ≤ 140737488355328 := by have := hBl (j + 1); omega
    refine wdG Y8_D9 (AI hlu' (AI hg2 (AI k6 (AI a1 (AI a2 (AI a3 (AI hap (AI hln (AI hA (AI hj1 (AI (@List.length_map.{0, 0}) VA))))))))))) ?_
    refine ALp.cutP 3 [(1, .pt 0 0), (3, .sl ((Bf (j + 1)).map tsV) (.own 1)), (5, (.im (.int .i64 ((m : Int))))), (6, .pt 2 0), (7, (.im (.int .i64 ((((j + 1 : Nat)) : Int)))))] [.box [.sl (u.globals.map vaV) .ro, .sl (u.data.map scV) .ro, .sl (u.funcs.map fnV) .ro], .tip 9 1 (Bf (j + 1)).length, .box [.im (.string u.funcs[m].name), .sl (u.funcs[m].vars.map vaV) .ro, .sl (u.funcs[m].body.map ndV) .ro]] (AI (@exL_id) (AI (@vaL_id) (AI (@exV_id) (AI (@vaV_id) (AI tsL_id (AI ndLs_id (AI nlVs_id (AI ndV_id (AI scL_id (AI fnL_id (AI unV_id fnV_id))))))))))) ?_
    exact hn3
  · rw [show wrV u.funcs[m] u.funcs[m].vars[j] = [] by unfold wrV; rw [if_neg (by simp [k6])], List.append_nil] at hs
    rw [hs]
    refine wdG Y8_D9 (AI hlu' (AI hg2 (AI k6 (AI hj1 (AI (@List.length_map.{0, 0}) VA))))) ?_
    refine ALp.cutP 3 [(1, .pt 0 0), (3, .sl ((Bf (j + 1)).map tsV) (.own 1)), (5, (.im (.int .i64 ((m : Int))))), (6, .pt 2 0), (7, (.im (.int .i64 ((((j + 1 : Nat)) : Int)))))] [.box [.sl (u.globals.map vaV) .ro, .sl (u.data.map scV) .ro, .sl (u.funcs.map fnV) .ro], .tip 9 1 (Bf (j + 1)).length, .box [.im (.string u.funcs[m].name), .sl (u.funcs[m].vars.map vaV) .ro, .sl (u.funcs[m].body.map ndV) .ro]] (AI (@exL_id) (AI (@vaL_id) (AI (@exV_id) (AI (@vaV_id) (AI tsL_id (AI ndLs_id (AI nlVs_id (AI ndV_id (AI scL_id (AI fnL_id (AI unV_id fnV_id))))))))))) ?_
    exact hn3
theorem Y3_D9 : type_of% (AI @F_ag_26 (AI @F_ag_9 (AI @F_el_29 (AI @F_sz_26 (@F_sz_9))))) := AI @F_ag_26 (AI @F_ag_9 (AI @F_el_29 (AI @F_sz_26 (@F_sz_9))))
set_option maxHeartbeats 2000000 in
theorem c_law5 (u : Un) (hu : fitU u) : PC Tryz.prog 3 [unV u] (.im (.bool (true))) := by
  have h1 := c_large u hu
  have h2 := c_example
  have h3 := c_Warnings u hu
  have h4 := c_WarningsR u hu
  have hwl : (wrE u).length ≤ 4194304 := by
    unfold wrE
    split
    · rename_i b
      obtain ⟨hg1, hf1, hgn, hfn⟩ := unE_names b
      have k1 := flat1_len wrG_len u.globals
      have k2 : (u.funcs.flatMap wrF).length ≤ 256 * u.funcs.length := flatn_len _ fun f hf => by
        have := flat1_len (wrV_len f) f.vars
        have h2 := (hfn f hf).2.1
        unfold wrF
        omega
      rw [List.length_append]
      omega
    · simp
  generalize lgE u = lg at h1
  generalize wrE u = ws at h3 h4 hwl
  refine PC.enter 34 Tryz.func3 rfl (by decide) rfl rfl (s := [(0, unV u)]) (by rfl) ?_
  rw [unV_eq]
  refine wG Y3_D9 True.intro ?_
  refine AR.callP h1 unV_eq (AI (@exL_id) (AI (@vaL_id) (AI (@exV_id) (AI (@vaV_id) (AI tsL_id (AI ndLs_id (AI nlVs_id (AI ndV_id (AI scL_id (AI fnL_id (AI unV_id fnV_id))))))))))) ?_
  cases lg with
  | true =>
    refine goG Y3_D9 True.intro ?_
    refine wG Y3_D9 True.intro ?_
    refine AR.callP h2 True.intro (AI (@exL_id) (AI (@vaL_id) (AI (@exV_id) (AI (@vaV_id) (AI tsL_id (AI ndLs_id (AI nlVs_id (AI ndV_id (AI scL_id (AI fnL_id (AI unV_id fnV_id))))))))))) ?_
    refine goG Y3_D9 True.intro ?_
    refine wG Y3_D9 True.intro ?_
    exact Fin.oneP
  | false =>
  refine goG Y3_D9 True.intro ?_
  refine wdG Y3_D9 True.intro ?_
  refine AR.callP h3 unV_eq (AI (@exL_id) (AI (@vaL_id) (AI (@exV_id) (AI (@vaV_id) (AI tsL_id (AI ndLs_id (AI nlVs_id (AI ndV_id (AI scL_id (AI fnL_id (AI unV_id fnV_id))))))))))) ?_
  refine goG Y3_D9 True.intro ?_
  refine AR.callP h4 unV_eq (AI (@exL_id) (AI (@vaL_id) (AI (@exV_id) (AI (@vaV_id) (AI tsL_id (AI ndLs_id (AI nlVs_id (AI ndV_id (AI scL_id (AI fnL_id (AI unV_id fnV_id))))))))))) ?_
  refine goG Y3_D9 True.intro ?_
  refine wdG Y3_D9 @List.length_map.{0, 0} ?_
  refine AWp.loop ?_
  refine ALp.cutP 0 [(3, .sl (ws.map tsV) .ro), (4, .sl (ws.map tsV) .ro), (5, (.im (.int .i64 ((((0 : Nat)) : Int)))))] [] (AI (@exL_id) (AI (@vaL_id) (AI (@exV_id) (AI (@vaV_id) (AI tsL_id (AI ndLs_id (AI nlVs_id (AI ndV_id (AI scL_id (AI fnL_id (AI unV_id fnV_id))))))))))) ?_
  refine ALp.upto ws.length (fun _ => True) (fun m => ⟨dn 34 [(3, .sl (ws.map tsV) .ro), (4, .sl (ws.map tsV) .ro), (5, (.im (.int .i64 ((((m : Nat)) : Int)))))], ofl []⟩) ?_ 0 (Nat.zero_le _) trivial
  intro m hm _ hnext
  by_cases hlt : m < ws.length
  case neg =>
    obtain rfl : m = ws.length := by omega
    clear hnext
    refine wG Y3_D9 (AI (@Int.lt_irrefl) @List.length_map.{0, 0}) ?_
    refine AR.callP h2 True.intro (AI (@exL_id) (AI (@vaL_id) (AI (@exV_id) (AI (@vaV_id) (AI tsL_id (AI ndLs_id (AI nlVs_id (AI ndV_id (AI scL_id (AI fnL_id (AI unV_id fnV_id))))))))))) ?_
    refine goG Y3_D9 True.intro ?_
    refine wG Y3_D9 True.intro ?_
    exact Fin.oneP
  have hlt' : (m : Int) < (ws.length : Int) := by omega
  have hm1 := wrap_succ hlt (by omega)
  have hg := get_some hlt
  have hts : ∀ x, tsV x = .im (.string x) := fun _ => rfl
  refine wdG Y3_D9 (AI hlt' (AI hg (AI hm1 (AI hts (AI (@List.length_map.{0, 0}) (AI (@List.getElem?_map.{0, 0}) @Int.natCast_nonneg)))))) ?_
  refine ALp.cutP 0 [(3, .sl (ws.map tsV) .ro), (4, .sl (ws.map tsV) .ro), (5, (.im (.int .i64 ((((m + 1 : Nat)) : Int)))))] [] (AI (@exL_id) (AI (@vaL_id) (AI (@exV_id) (AI (@vaV_id) (AI tsL_id (AI ndLs_id (AI nlVs_id (AI ndV_id (AI scL_id (AI fnL_id (AI unV_id fnV_id))))))))))) ?_
  exact hnext (m + 1) (by omega) (by omega) trivial
end Go.Proofs.YtfggemopnlffeaaGreat
