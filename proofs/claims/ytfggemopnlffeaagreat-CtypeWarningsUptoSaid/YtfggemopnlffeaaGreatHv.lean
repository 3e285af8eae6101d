import Derived.Test.YtfggemopnlffeaaGreatLe
namespace Go.Proofs.YtfggemopnlffeaaGreat
set_option linter.unusedSimpArgs false
set_option linter.unusedVariables false
set_option linter.unnecessarySimpa false
open Go.RowKit
theorem wnG {T F H G : Prop} (t : T) (f : F) (n : H) (step : T → F → H → G := by
  intro t f h
  repeat (first
    | (with_reducible first | refine AWp.seq ?_ | refine AR.end ?_ | refine Thn.n ?_ | refine Thn.r ?_ | refine Thn.x ?_ | refine Blk'.n ?_ | refine Blk'.r ?_ | refine Blk'.here ?_ | refine Rnd.n ?_ | refine Rnd.r ?_ | refine Rnd.x ?_ | refine Blk'.past (by decide) ?_ | refine AWp.skip ?_ | refine AWp.ret ?_ | refine AWp.exit ?_)
    | ((with_reducible apply AWp.condAT); (case ht => rfl); (case hc => rfl))
    | ((with_reducible apply AWp.condAF); (case ht => rfl); (case hc => rfl))
    | ((with_reducible apply AWp.regionE); (case h => (simp only [↓accU_f, ↓reduceIte, SA, SB, SC, SD, t, valG, fpsG, evO, evB, evA, evA1, nilK, eqF, eqC, apOk, intOf, slB, slK,  gd, St.ev, putA, ofl, wrl, putE, V.ofVal, V.ofCell, bin2, un1, seg, fillV, partsOk, Value.oneCell', Nat.reduceBEq, Nat.reduceLT, Nat.reduceSub, Nat.reduceAdd, Nat.reduceMul, Nat.reduceLeDiff, Nat.reduceEqDiff, reduceCtorEq, Int.reduceLT, Int.reduceLE, Int.reduceEq, Int.reduceNe, Int.reduceBEq, Int.reduceBNe, Int.reduceAdd, Int.reduceSub, Int.reduceMul, Int.reduceToNat, f]; with_reducible exact rfl)))
    | ((with_reducible apply AWp.regionES); (case h => (simp only [↓accU_f, ↓reduceIte, SA, SB, SC, SD, t, valG, fpsG, evO, evB, evA, evA1, nilK, eqF, eqC, apOk, intOf, slB, slK,  gd, St.ev, putA, ofl, wrl, putE, V.ofVal, V.ofCell, bin2, un1, seg, fillV, partsOk, Value.oneCell', Nat.reduceBEq, Nat.reduceLT, Nat.reduceSub, Nat.reduceAdd, Nat.reduceMul, Nat.reduceLeDiff, Nat.reduceEqDiff, reduceCtorEq, Int.reduceLT, Int.reduceLE, Int.reduceEq, Int.reduceNe, Int.reduceBEq, Int.reduceBNe, Int.reduceAdd, Int.reduceSub, Int.reduceMul, Int.reduceToNat, f]; with_reducible exact rfl))))
  exact h) : G := step t f n
theorem wG {T F H G : Prop} (t : T) (f : F) (n : H) (step : T → F → H → G := by
  intro t f h
  repeat (first
    | (with_reducible first | refine AWp.seq ?_ | refine AR.end ?_ | refine Thn.n ?_ | refine Thn.r ?_ | refine Thn.x ?_ | refine Blk'.n ?_ | refine Blk'.r ?_ | refine Blk'.here ?_ | refine Rnd.n ?_ | refine Rnd.r ?_ | refine Rnd.x ?_ | refine Blk'.past (by decide) ?_ | refine AWp.block ?_ | refine AWp.skip ?_ | refine AWp.ret ?_ | refine AWp.exit ?_)
    | ((with_reducible apply AWp.condAT); (case ht => rfl); (case hc => rfl))
    | ((with_reducible apply AWp.condAF); (case ht => rfl); (case hc => rfl))
    | ((with_reducible apply AWp.regionE); (case h => (simp only [↓accU_f, ↓reduceIte, SA, SB, SC, SD, t, valG, fpsG, evO, evB, evA, evA1, nilK, eqF, eqC, apOk, intOf, slB, slK,  gd, St.ev, putA, ofl, wrl, putE, V.ofVal, V.ofCell, bin2, un1, seg, fillV, partsOk, Value.oneCell', Nat.reduceBEq, Nat.reduceLT, Nat.reduceSub, Nat.reduceAdd, Nat.reduceMul, Nat.reduceLeDiff, Nat.reduceEqDiff, reduceCtorEq, Int.reduceLT, Int.reduceLE, Int.reduceEq, Int.reduceNe, Int.reduceBEq, Int.reduceBNe, Int.reduceAdd, Int.reduceSub, Int.reduceMul, Int.reduceToNat, f]; with_reducible exact rfl)))
    | ((with_reducible apply AWp.regionES); (case h => (simp only [↓accU_f, ↓reduceIte, SA, SB, SC, SD, t, valG, fpsG, evO, evB, evA, evA1, nilK, eqF, eqC, apOk, intOf, slB, slK,  gd, St.ev, putA, ofl, wrl, putE, V.ofVal, V.ofCell, bin2, un1, seg, fillV, partsOk, Value.oneCell', Nat.reduceBEq, Nat.reduceLT, Nat.reduceSub, Nat.reduceAdd, Nat.reduceMul, Nat.reduceLeDiff, Nat.reduceEqDiff, reduceCtorEq, Int.reduceLT, Int.reduceLE, Int.reduceEq, Int.reduceNe, Int.reduceBEq, Int.reduceBNe, Int.reduceAdd, Int.reduceSub, Int.reduceMul, Int.reduceToNat, f]; with_reducible exact rfl))))
  exact h) : G := step t f n
theorem wdG {T F H G : Prop} (t : T) (f : F) (n : H) (step : T → F → H → G := by
  intro t f h
  repeat (first
    | (with_reducible first | refine AWp.seq ?_ | refine AR.end ?_ | refine Thn.n ?_ | refine Thn.r ?_ | refine Thn.x ?_ | refine Blk'.n ?_ | refine Blk'.r ?_ | refine Blk'.here ?_ | refine Rnd.n ?_ | refine Rnd.r ?_ | refine Rnd.x ?_ | refine Blk'.past (by decide) ?_ | refine AWp.block ?_ | refine AWp.skip ?_ | refine AWp.ret ?_ | refine AWp.exit ?_)
    | ((with_reducible apply AWp.condAT); (case ht => rfl); (case hc => rfl))
    | ((with_reducible apply AWp.condAF); (case ht => rfl); (case hc => rfl))
    | ((first | (with_reducible apply AWp.regionE) | ((with_reducible apply AWp.regionDE); (case hm => kernel_rfl))); (case h => (simp only [↓accU_f, ↓reduceIte, SA, SB, SC, SD, t, valG, fpsG, evO, evB, evA, evA1, nilK, eqF, eqC, apOk, intOf, slB, slK,  gd, St.ev, putA, ofl, wrl, putE, V.ofVal, V.ofCell, bin2, un1, seg, fillV, partsOk, Value.oneCell', Nat.reduceBEq, Nat.reduceLT, Nat.reduceSub, Nat.reduceAdd, Nat.reduceMul, Nat.reduceLeDiff, Nat.reduceEqDiff, reduceCtorEq, Int.reduceLT, Int.reduceLE, Int.reduceEq, Int.reduceNe, Int.reduceBEq, Int.reduceBNe, Int.reduceAdd, Int.reduceSub, Int.reduceMul, Int.reduceToNat, f]; with_reducible exact rfl)))
    | ((first | (with_reducible apply AWp.regionES) | ((with_reducible apply AWp.regionDES); (case hm => kernel_rfl))); (case h => (simp only [↓accU_f, ↓reduceIte, SA, SB, SC, SD, t, valG, fpsG, evO, evB, evA, evA1, nilK, eqF, eqC, apOk, intOf, slB, slK,  gd, St.ev, putA, ofl, wrl, putE, V.ofVal, V.ofCell, bin2, un1, seg, fillV, partsOk, Value.oneCell', Nat.reduceBEq, Nat.reduceLT, Nat.reduceSub, Nat.reduceAdd, Nat.reduceMul, Nat.reduceLeDiff, Nat.reduceEqDiff, reduceCtorEq, Int.reduceLT, Int.reduceLE, Int.reduceEq, Int.reduceNe, Int.reduceBEq, Int.reduceBNe, Int.reduceAdd, Int.reduceSub, Int.reduceMul, Int.reduceToNat, f]; with_reducible exact rfl)))
    | ((with_reducible apply AR.endD); (case hc => kernel_rfl)))
  exact h) : G := step t f n
theorem whG {T F H G : Prop} (t : T) (f : F) (n : H) (step : T → F → H → G := by
  intro t f h
  repeat (first
    | (with_reducible first | refine AWp.seq ?_ | refine AR.end ?_ | refine Thn.n ?_ | refine Thn.r ?_ | refine Thn.x ?_ | refine Blk'.n ?_ | refine Blk'.r ?_ | refine Rnd.n ?_ | refine Rnd.r ?_ | refine Rnd.x ?_ | refine Blk'.past (by decide) ?_ | refine AWp.block ?_ | refine AWp.skip ?_ | refine AWp.ret ?_ | refine AWp.exit ?_)
    | ((with_reducible apply AWp.condAT); (case ht => rfl); (case hc => rfl))
    | ((with_reducible apply AWp.condAF); (case ht => rfl); (case hc => rfl))
    | ((with_reducible apply AWp.regionE); (case h => (simp only [↓accU_f, ↓reduceIte, SA, SB, SC, SD, t, valG, fpsG, evO, evB, evA, evA1, nilK, eqF, eqC, apOk, intOf, slB, slK,  gd, St.ev, putA, ofl, wrl, putE, V.ofVal, V.ofCell, bin2, un1, seg, fillV, partsOk, Value.oneCell', Nat.reduceBEq, Nat.reduceLT, Nat.reduceSub, Nat.reduceAdd, Nat.reduceMul, Nat.reduceLeDiff, Nat.reduceEqDiff, reduceCtorEq, Int.reduceLT, Int.reduceLE, Int.reduceEq, Int.reduceNe, Int.reduceBEq, Int.reduceBNe, Int.reduceAdd, Int.reduceSub, Int.reduceMul, Int.reduceToNat, f]; with_reducible exact rfl)))
    | ((with_reducible apply AWp.regionES); (case h => (simp only [↓accU_f, ↓reduceIte, SA, SB, SC, SD, t, valG, fpsG, evO, evB, evA, evA1, nilK, eqF, eqC, apOk, intOf, slB, slK,  gd, St.ev, putA, ofl, wrl, putE, V.ofVal, V.ofCell, bin2, un1, seg, fillV, partsOk, Value.oneCell', Nat.reduceBEq, Nat.reduceLT, Nat.reduceSub, Nat.reduceAdd, Nat.reduceMul, Nat.reduceLeDiff, Nat.reduceEqDiff, reduceCtorEq, Int.reduceLT, Int.reduceLE, Int.reduceEq, Int.reduceNe, Int.reduceBEq, Int.reduceBNe, Int.reduceAdd, Int.reduceSub, Int.reduceMul, Int.reduceToNat, f]; with_reducible exact rfl))))
  exact h) : G := step t f n
theorem wdhG {T F H G : Prop} (t : T) (f : F) (n : H) (step : T → F → H → G := by
  intro t f h
  repeat (first
    | (with_reducible first | refine AWp.seq ?_ | refine AR.end ?_ | refine Thn.n ?_ | refine Thn.r ?_ | refine Thn.x ?_ | refine Blk'.n ?_ | refine Blk'.r ?_ | refine Rnd.n ?_ | refine Rnd.r ?_ | refine Rnd.x ?_ | refine Blk'.past (by decide) ?_ | refine AWp.block ?_ | refine AWp.skip ?_ | refine AWp.ret ?_ | refine AWp.exit ?_)
    | ((with_reducible apply AWp.condAT); (case ht => rfl); (case hc => rfl))
    | ((with_reducible apply AWp.condAF); (case ht => rfl); (case hc => rfl))
    | ((first | (with_reducible apply AWp.regionE) | ((with_reducible apply AWp.regionDE); (case hm => kernel_rfl))); (case h => (simp only [↓accU_f, ↓reduceIte, SA, SB, SC, SD, t, valG, fpsG, evO, evB, evA, evA1, nilK, eqF, eqC, apOk, intOf, slB, slK,  gd, St.ev, putA, ofl, wrl, putE, V.ofVal, V.ofCell, bin2, un1, seg, fillV, partsOk, Value.oneCell', Nat.reduceBEq, Nat.reduceLT, Nat.reduceSub, Nat.reduceAdd, Nat.reduceMul, Nat.reduceLeDiff, Nat.reduceEqDiff, reduceCtorEq, Int.reduceLT, Int.reduceLE, Int.reduceEq, Int.reduceNe, Int.reduceBEq, Int.reduceBNe, Int.reduceAdd, Int.reduceSub, Int.reduceMul, Int.reduceToNat, f]; with_reducible exact rfl)))
    | ((first | (with_reducible apply AWp.regionES) | ((with_reducible apply AWp.regionDES); (case hm => kernel_rfl))); (case h => (simp only [↓accU_f, ↓reduceIte, SA, SB, SC, SD, t, valG, fpsG, evO, evB, evA, evA1, nilK, eqF, eqC, apOk, intOf, slB, slK,  gd, St.ev, putA, ofl, wrl, putE, V.ofVal, V.ofCell, bin2, un1, seg, fillV, partsOk, Value.oneCell', Nat.reduceBEq, Nat.reduceLT, Nat.reduceSub, Nat.reduceAdd, Nat.reduceMul, Nat.reduceLeDiff, Nat.reduceEqDiff, reduceCtorEq, Int.reduceLT, Int.reduceLE, Int.reduceEq, Int.reduceNe, Int.reduceBEq, Int.reduceBNe, Int.reduceAdd, Int.reduceSub, Int.reduceMul, Int.reduceToNat, f]; with_reducible exact rfl)))
    | ((with_reducible apply AR.endD); (case hc => kernel_rfl)))
  exact h) : G := step t f n
theorem goG {T F H G : Prop} (t : T) (f : F) (n : H) (step : T → F → H → G := by
  intro t f h
  (first | ((with_reducible apply AR.go); (case h => (simp only [↓accU_f, ↓reduceIte, SA, SB, SC, SD, t, valG, fpsG, evO, evB, evA, evA1, nilK, eqF, eqC, apOk, intOf, slB, slK,  gd, St.ev, putA, ofl, wrl, putE, V.ofVal, V.ofCell, bin2, un1, seg, fillV, partsOk, Value.oneCell', Nat.reduceBEq, Nat.reduceLT, Nat.reduceSub, Nat.reduceAdd, Nat.reduceMul, Nat.reduceLeDiff, Nat.reduceEqDiff, reduceCtorEq, Int.reduceLT, Int.reduceLE, Int.reduceEq, Int.reduceNe, Int.reduceBEq, Int.reduceBNe, Int.reduceAdd, Int.reduceSub, Int.reduceMul, Int.reduceToNat, f]; with_reducible exact rfl))) | ((with_reducible apply AR.goS); (case h => (simp only [↓accU_f, ↓reduceIte, SA, SB, SC, SD, t, valG, fpsG, evO, evB, evA, evA1, nilK, eqF, eqC, apOk, intOf, slB, slK,  gd, St.ev, putA, ofl, wrl, putE, V.ofVal, V.ofCell, bin2, un1, seg, fillV, partsOk, Value.oneCell', Nat.reduceBEq, Nat.reduceLT, Nat.reduceSub, Nat.reduceAdd, Nat.reduceMul, Nat.reduceLeDiff, Nat.reduceEqDiff, reduceCtorEq, Int.reduceLT, Int.reduceLE, Int.reduceEq, Int.reduceNe, Int.reduceBEq, Int.reduceBNe, Int.reduceAdd, Int.reduceSub, Int.reduceMul, Int.reduceToNat, f]; with_reducible exact rfl))))
  exact h) : G := step t f n
theorem TY : type_of% (AI @tyV_live (AI @tyV_size (AI @tyV_isAg (AI @tyV_cells (AI @fdV_live (AI @fdV_size (AI @fdV_isAg (AI @fdV_cells (AI @List.getElem?_map.{0, 0} (AI @Int.natCast_nonneg (AI @tyV_firm (AI @fdV_firm (AI @tyV_strip (@fdV_strip)))))))))))))) := AI @tyV_live (AI @tyV_size (AI @tyV_isAg (AI @tyV_cells (AI @fdV_live (AI @fdV_size (AI @fdV_isAg (AI @fdV_cells (AI @List.getElem?_map.{0, 0} (AI @Int.natCast_nonneg (AI @tyV_firm (AI @fdV_firm (AI @tyV_strip (@fdV_strip)))))))))))))
theorem EX : type_of% (AI @exV_firm (AI @exV_strip (AI @exV_live (AI @exV_size (AI @exV_isAg (AI @exV_cells (AI @List.getElem?_map.{0, 0} (@Int.natCast_nonneg)))))))) := AI @exV_firm (AI @exV_strip (AI @exV_live (AI @exV_size (AI @exV_isAg (AI @exV_cells (AI @List.getElem?_map.{0, 0} (@Int.natCast_nonneg)))))))
theorem VA : type_of% (AI @vaV_firm (AI @vaV_strip (AI @vaV_live (AI @vaV_size (AI @vaV_isAg (AI @vaV_cells (AI @List.getElem?_map.{0, 0} (@Int.natCast_nonneg)))))))) := AI @vaV_firm (AI @vaV_strip (AI @vaV_live (AI @vaV_size (AI @vaV_isAg (AI @vaV_cells (AI @List.getElem?_map.{0, 0} (@Int.natCast_nonneg)))))))
end Go.Proofs.YtfggemopnlffeaaGreat
