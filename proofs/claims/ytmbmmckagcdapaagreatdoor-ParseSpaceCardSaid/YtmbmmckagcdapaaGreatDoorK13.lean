import Derived.Laws.Strings
import Derived.Test.YtmbmmckagcdapaaGreatDoorK10
import Derived.Test.YtmbmmckagcdapaaGreatDoorK05
import Derived.Lib.AppendZeros
import Derived.Lib.SliceRun
import Derived.Lib.Walk
import Derived.Shelf.RegionOpenPlain
import Derived.Lib.SmallJoins
set_option linter.unusedSimpArgs false
set_option linter.unusedVariables false
set_option linter.unnecessarySimpa false
namespace Go.Proofs.YtmbmmckagcdapaaGreatDoor
open Go.RowKit
theorem bS_size (l : Bs) : (ByteArray.mk l.toArray).size = l.length := by simp [ByteArray.size]
theorem bS_toList (l : Bs) : (ByteArray.mk l.toArray).toList = l := by rw [ByteArray.toList_eq]
theorem bS_get (l : Bs) (i : Nat) : (ByteArray.mk l.toArray)[i]? = l[i]? := by
  simp only [getElem?_def, ByteArray.size, List.size_toArray]
  split
  · simp [ByteArray.getElem_eq_getElem_data]
  · rfl
theorem bS_append (a b : Bs) : ByteArray.mk a.toArray ++ ByteArray.mk b.toArray = ByteArray.mk (a ++ b).toArray := by
  apply ByteArray.ext
  simp [ByteArray.data_append]
theorem bS_extract (l : Bs) (i j : Nat) : (ByteArray.mk l.toArray).extract i j = ByteArray.mk ((l.drop i).take (j - i)).toArray := by
  apply ByteArray.ext
  apply Array.toList_inj.1
  simp [ByteArray.data_extract]
def byB (b : UInt8) : V := .im (.int .u8 b.toNat)
theorem byV_bS (l : Bs) : byV (ByteArray.mk l.toArray) = l.map byB := by simp [byV, byB]
theorem bytesOf_map (l : Bs) : bytesOf (l.map byB) = some l := by
  induction l with
  | nil => rfl
  | cons c l ih =>
    have hc := c.toNat_lt; simp only [List.map_cons, byB, bytesOf]; rw [if_pos ⟨by omega, by omega⟩, show bytesOf (List.map byB l) = some l from ih]
    simp
theorem byB_live (b : UInt8) : (byB b).live = true := rfl
theorem byB_size (b : UInt8) : (byB b).size = 1 := rfl
theorem byB_isAg (b : UInt8) : (byB b).isAg = false := rfl
theorem byB_cells (b : UInt8) : (byB b).cells = [.im (.int .u8 b.toNat)] := rfl
theorem byB_firm (b : UInt8) : (byB b).firm = true := rfl
theorem byB_strip (g : Bool) (b : UInt8) : strip g (byB b) = byB b := rfl
theorem byL_id (p : Nat → Bool) (l : Bs) : V.idsL p (l.map byB) = true := idsL_map (fun _ => rfl) l
theorem byL_ren (g : Nat → Nat) (l : Bs) : V.renL g (l.map byB) = l.map byB := V.renL_id g _ (byL_id _ l)
def tkV (t : Tk) : V := .ag [.im (.int .i64 t.kind), .im (.string ⟨t.text.toArray⟩), .im (.int .u32 t.n), .im (.int .i64 t.line), .im (.int .i64 t.col)]
theorem tkV_eq (t : Tk) : tkV t = .ag [.im (.int .i64 t.kind), .im (.string ⟨t.text.toArray⟩), .im (.int .u32 t.n), .im (.int .i64 t.line), .im (.int .i64 t.col)] := rfl
theorem tkV_live (v : Tk) : (tkV v).live = true := rfl
theorem tkV_size (v : Tk) : (tkV v).size = 5 := rfl
theorem tkV_isAg (v : Tk) : (tkV v).isAg = true := rfl
theorem tkV_firm (v : Tk) : (tkV v).firm = true := rfl
theorem tkV_strip (g : Bool) (v : Tk) : strip g (tkV v) = tkV v := rfl
theorem tkV_cells (t : Tk) : (tkV t).cells = [.im (.int .i64 t.kind), .im (.string ⟨t.text.toArray⟩), .im (.int .u32 t.n), .im (.int .i64 t.line), .im (.int .i64 t.col)] := rfl
theorem tkV_id (p : Nat → Bool) (v : Tk) : (tkV v).ids p = true := rfl
theorem tkL_id (p : Nat → Bool) (l : List Tk) : V.idsL p (l.map tkV) = true := idsL_map (tkV_id p) l
theorem tkV_ren (g : Nat → Nat) (t : Tk) : V.ren g (tkV t) = tkV t := V.ren_id g _ (tkV_id _ t)
theorem tkL_ren (g : Nat → Nat) (l : List Tk) : V.renL g (l.map tkV) = l.map tkV := V.renL_id g _ (tkL_id _ l)
theorem BY : type_of% (AI @bS_size (AI @bS_toList (AI @bS_get (AI @bS_extract (AI @byV_bS (AI @bytesOf_map (AI @byB_live (AI @byB_size (AI @byB_isAg (AI @byB_cells (AI @byB_firm (AI @byB_strip (AI @List.getElem?_map.{0, 0} (AI @List.length_map.{0, 0} @Int.natCast_nonneg)))))))))))))) :=
  AI @bS_size (AI @bS_toList (AI @bS_get (AI @bS_extract (AI @byV_bS (AI @bytesOf_map (AI @byB_live (AI @byB_size (AI @byB_isAg (AI @byB_cells (AI @byB_firm (AI @byB_strip (AI @List.getElem?_map.{0, 0} (AI @List.length_map.{0, 0} @Int.natCast_nonneg)))))))))))))
theorem TKT : type_of% (AI @tkV_firm (AI @tkV_strip (AI @tkV_live (AI @tkV_size (AI @tkV_isAg (AI @tkV_cells (AI @List.getElem?_map.{0, 0} (AI @List.length_map.{0, 0} @Int.natCast_nonneg)))))))) :=
  AI @tkV_firm (AI @tkV_strip (AI @tkV_live (AI @tkV_size (AI @tkV_isAg (AI @tkV_cells (AI @List.getElem?_map.{0, 0} (AI @List.length_map.{0, 0} @Int.natCast_nonneg)))))))
theorem GDS : type_of% (AI (@Option.getD_none.{0}) (AI (@Option.getD_some.{0}) (AI Int.toNat_natCast (AI Int.toNat_zero (AI Nat.sub_zero (AI (@List.drop_zero.{0}) (AI Int.natCast_nonneg Int.le_refl))))))) := AI (@Option.getD_none.{0}) (AI (@Option.getD_some.{0}) (AI Int.toNat_natCast (AI Int.toNat_zero (AI Nat.sub_zero (AI (@List.drop_zero.{0}) (AI Int.natCast_nonneg Int.le_refl))))))
theorem Y157_B1 : type_of% (AI @F_ag_218 (AI @F_ag_91 (AI @F_ag_92 (AI @F_ag_94 (AI @F_al_218 (AI @F_al_94 (AI @F_el_91 (AI @F_el_92 (AI @F_fl_218_1 (AI @F_fl_94_3 (AI @F_fl_94_4 (AI @F_sz_218 (AI @F_sz_91 (AI @F_sz_92 (@F_sz_94))))))))))))))) := AI @F_ag_218 (AI @F_ag_91 (AI @F_ag_92 (AI @F_ag_94 (AI @F_al_218 (AI @F_al_94 (AI @F_el_91 (AI @F_el_92 (AI @F_fl_218_1 (AI @F_fl_94_3 (AI @F_fl_94_4 (AI @F_sz_218 (AI @F_sz_91 (AI @F_sz_92 (@F_sz_94))))))))))))))
set_option maxHeartbeats 400000 in
theorem c_shallow : ∀ (t : Ty), fit t → ∀ (n : Int), I64 n → PC Tryz.prog 157 [tyV t, (.im (.int .i64 (n)))] (.im (.bool (shal t n))) := by
  refine Ty.induct fun o k s c es fs hE hF => ?_
  intro hfit n hn
  unfold I64 at hn
  obtain ⟨hl1, hl2, hfE, hfF⟩ := fit_mk hfit
  refine PC.enter 38 Tryz.func157 rfl (by decide) rfl rfl (s := [(0, tyV (.mk o k s c es fs)), (1, (.im (.int .i64 (n))))]) (by rfl) ?_
  simp only [tyV_mk]
  by_cases h1 : n < 1
  · have hr : shal (.mk o k s c es fs) n = false := by
      rw [shal_mk]; have : decide (1 ≤ n) = false := by simp; omega
      simp [this]
    rw [hr]; refine wG Y157_B1 h1 ?_; exact Fin.oneP
  · have hn1 : IntKind.i64.wrap (n - 1) = n - 1 := wrap_in (by omega)
    refine wG Y157_B1 h1 ?_; refine AWp.loop ?_; refine ALp.cutP 1 [(0, .ag [.im (.int .i64 k), .im (.int .i64 s), .im (.int .i64 c), .sl (es.map tyV) .ro, .sl (fs.map fdV) .ro]), (1, (.im (.int .i64 (n)))), (2, .pt 0 0), (4, .im (.bool false)), (12, .sl (es.map tyV) .ro), (13, (.im (.int .i64 (es.length)))), (14, (.im (.int .i64 (0))))] [.box [.im (.int .i64 k), .im (.int .i64 s), .im (.int .i64 c), .sl (es.map tyV) .ro, .sl (fs.map fdV) .ro]] True.intro ?_; refine ALp.upto es.length (AllTo (fun t => shal t (n - 1)) es) (fun m => ⟨dn 38 [(0, .ag [.im (.int .i64 k), .im (.int .i64 s), .im (.int .i64 c), .sl (es.map tyV) .ro, .sl (fs.map fdV) .ro]), (1, (.im (.int .i64 (n)))), (2, .pt 0 0), (4, .im (.bool false)), (12, .sl (es.map tyV) .ro), (13, (.im (.int .i64 (es.length)))), (14, (.im (.int .i64 (m))))], ofl [.box [.im (.int .i64 k), .im (.int .i64 s), .im (.int .i64 c), .sl (es.map tyV) .ro, .sl (fs.map fdV) .ro]]⟩) ?_ 0 (Nat.zero_le _) (AllTo.zero _ _)
    intro m hm hI hnext
    by_cases hlt : m < es.length
    · have hlt' : (m : Int) < (es.length : Int) := by omega
      have hg := get_some hlt; have hm1 := wrap_succ hlt (by omega)
      have hc := hE es[m] (List.getElem_mem hlt) (hfE _ (List.getElem_mem hlt)) (n - 1) (by unfold I64; omega)
      refine wG Y157_B1 (AI (@tyV_firm) (AI (@fdV_firm) (AI (@tyV_strip) (AI (@fdV_strip) (AI (@tyV_live) (AI (@tyV_size) (AI (@tyV_isAg) (AI (@tyV_cells) (AI (@fdV_live) (AI (@fdV_size) (AI (@fdV_isAg) (AI (@fdV_cells) (AI (@List.getElem?_map.{0, 0}) (AI (@Int.natCast_nonneg) (AI hlt' (AI hg (AI hn1 hm1))))))))))))))))) ?_; refine AR.callP hc @tyV_eq True.intro ?_
      by_cases hsh : shal es[m] (n - 1) = true
      · refine goG Y157_B1 hsh ?_
        refine wG Y157_B1 hm1 ?_; refine ALp.cutP 1 [(0, .ag [.im (.int .i64 k), .im (.int .i64 s), .im (.int .i64 c), .sl (es.map tyV) .ro, .sl (fs.map fdV) .ro]), (1, (.im (.int .i64 (n)))), (2, .pt 0 0), (4, .im (.bool false)), (12, .sl (es.map tyV) .ro), (13, (.im (.int .i64 (es.length)))), (14, (.im (.int .i64 (((m + 1 : Nat) : Int)))))] [.box [.im (.int .i64 k), .im (.int .i64 s), .im (.int .i64 c), .sl (es.map tyV) .ro, .sl (fs.map fdV) .ro]] True.intro ?_; exact hnext (m + 1) (by omega) (by omega) (hI.succ hlt hsh)
      · have hsh : shal es[m] (n - 1) = false := by simpa using hsh
        refine goG Y157_B1 hsh ?_; refine wG Y157_B1 hm1 ?_; rw [shal_mk, not_all_of hlt hsh]; simp only [Bool.and_false, Bool.false_and]; exact Fin.oneP
    · have hall1 := hI.done (by omega)
      have hlt' : ¬ (m : Int) < (es.length : Int) := by omega
      clear hnext hI hm hlt; refine wG Y157_B1 hlt' ?_; clear hlt'; refine AWp.loop ?_; refine ALp.cutP 1 [(0, .ag [.im (.int .i64 k), .im (.int .i64 s), .im (.int .i64 c), .sl (es.map tyV) .ro, .sl (fs.map fdV) .ro]), (1, (.im (.int .i64 (n)))), (2, .pt 0 0), (4, .im (.bool false)), (25, .sl (fs.map fdV) .ro), (26, (.im (.int .i64 (fs.length)))), (27, (.im (.int .i64 (0))))] [.box [.im (.int .i64 k), .im (.int .i64 s), .im (.int .i64 c), .sl (es.map tyV) .ro, .sl (fs.map fdV) .ro]] True.intro ?_; refine ALp.upto fs.length (AllTo (fun t => shal t (n - 1)) fs) (fun m => ⟨dn 38 [(0, .ag [.im (.int .i64 k), .im (.int .i64 s), .im (.int .i64 c), .sl (es.map tyV) .ro, .sl (fs.map fdV) .ro]), (1, (.im (.int .i64 (n)))), (2, .pt 0 0), (4, .im (.bool false)), (25, .sl (fs.map fdV) .ro), (26, (.im (.int .i64 (fs.length)))), (27, (.im (.int .i64 (m))))], ofl [.box [.im (.int .i64 k), .im (.int .i64 s), .im (.int .i64 c), .sl (es.map tyV) .ro, .sl (fs.map fdV) .ro]]⟩) ?_ 0 (Nat.zero_le _) (AllTo.zero _ _)
      intro m hm hI hnext
      by_cases hlt : m < fs.length
      · have hlt' : (m : Int) < (fs.length : Int) := by omega
        have hg := get_some hlt; have hm1 := wrap_succ hlt (by omega)
        have hc := hF fs[m] (List.getElem_mem hlt) (hfF _ (List.getElem_mem hlt)) (n - 1) (by unfold I64; omega)
        refine wG Y157_B1 (AI (@tyV_firm) (AI (@fdV_firm) (AI (@tyV_strip) (AI (@fdV_strip) (AI (@tyV_live) (AI (@tyV_size) (AI (@tyV_isAg) (AI (@tyV_cells) (AI (@fdV_live) (AI (@fdV_size) (AI (@fdV_isAg) (AI (@fdV_cells) (AI (@List.getElem?_map.{0, 0}) (AI (@Int.natCast_nonneg) (AI hlt' (AI hg (AI hn1 hm1))))))))))))))))) ?_; refine AR.callP hc @tyV_eq True.intro ?_
        by_cases hsh : shal fs[m] (n - 1) = true
        · refine goG Y157_B1 hsh ?_
          refine wG Y157_B1 hm1 ?_; refine ALp.cutP 1 [(0, .ag [.im (.int .i64 k), .im (.int .i64 s), .im (.int .i64 c), .sl (es.map tyV) .ro, .sl (fs.map fdV) .ro]), (1, (.im (.int .i64 (n)))), (2, .pt 0 0), (4, .im (.bool false)), (25, .sl (fs.map fdV) .ro), (26, (.im (.int .i64 (fs.length)))), (27, (.im (.int .i64 (((m + 1 : Nat) : Int)))))] [.box [.im (.int .i64 k), .im (.int .i64 s), .im (.int .i64 c), .sl (es.map tyV) .ro, .sl (fs.map fdV) .ro]] True.intro ?_; exact hnext (m + 1) (by omega) (by omega) (hI.succ hlt hsh)
        · have hsh : shal fs[m] (n - 1) = false := by simpa using hsh
          refine goG Y157_B1 hsh ?_; refine wG Y157_B1 hm1 ?_; rw [shal_mk, not_all_of hlt hsh]; simp only [Bool.and_false]; exact Fin.oneP
      · have hall2 := hI.done (by omega)
        have hlt' : ¬ (m : Int) < (fs.length : Int) := by omega
        clear hnext hI hm hlt; refine wG Y157_B1 hlt' ?_; rw [shal_mk, hall1, hall2]; have : decide (1 ≤ n) = true := by simp; omega
        rw [this]; simp only [Bool.and_self]; exact Fin.oneP
theorem go_min (a b : Int) : (if b < a then b else a) = min a b := by omega
theorem go_max (a b : Int) : (if b > a then b else a) = max a b := by omega
def ends (fs : List Ty) (m : Nat) : Int := ((fs.take m).map fun f => f.off + siz f).foldl max 0
theorem ends_succ {fs : List Ty} {m : Nat} (h : m < fs.length) : ends fs (m + 1) = max (ends fs m) (fs[m].off + siz fs[m]) := by
  unfold ends
  rw [List.take_succ_eq_append_getElem h, List.map_append, List.foldl_append]
  rfl
theorem ends_all (fs : List Ty) : ends fs fs.length = (fs.map fun f => f.off + siz f).foldl max 0 := by
  unfold ends
  rw [List.take_length]
theorem Y212_B2 : type_of% (AI @F_ag_218 (AI @F_ag_3 (AI @F_ag_91 (AI @F_ag_92 (AI @F_ag_94 (AI @F_al_218 (AI @F_el_91 (AI @F_el_92 (AI @F_fl_218_0 (AI @F_fl_218_1 (AI @F_fl_94_0 (AI @F_fl_94_1 (AI @F_fl_94_2 (AI @F_fl_94_3 (AI @F_fl_94_4 (AI @F_sz_218 (AI @F_sz_3 (AI @F_sz_91 (AI @F_sz_92 (@F_sz_94)))))))))))))))))))) := AI @F_ag_218 (AI @F_ag_3 (AI @F_ag_91 (AI @F_ag_92 (AI @F_ag_94 (AI @F_al_218 (AI @F_el_91 (AI @F_el_92 (AI @F_fl_218_0 (AI @F_fl_218_1 (AI @F_fl_94_0 (AI @F_fl_94_1 (AI @F_fl_94_2 (AI @F_fl_94_3 (AI @F_fl_94_4 (AI @F_sz_218 (AI @F_sz_3 (AI @F_sz_91 (AI @F_sz_92 (@F_sz_94)))))))))))))))))))
set_option maxHeartbeats 400000 in
theorem c_size : ∀ (t : Ty), fit t → frm t = true → PC Tryz.prog 212 [tyV t] (.im (.int .i64 (siz t))) := by
  refine Ty.induct fun o k s c es fs hE hF => ?_
  intro hfit hfrm
  obtain ⟨hl1, hl2, hfE, hfF⟩ := fit_mk hfit
  obtain ⟨hb, hof, hfs, hes⟩ := frm_inv hfrm
  refine PC.enter 45 Tryz.func212 rfl (by decide) rfl rfl (s := [(0, tyV (.mk o k s c es fs))]) (by rfl) ?_
  simp only [tyV_mk]
  rw [siz_mk]
  rcases base_cases hb with h1 | h1 | h1 | h1 | h1
  · obtain ⟨h1, rfl, rfl, _, _⟩ := h1
    rcases h1 with rfl | rfl
    all_goals
      refine wG Y212_B2 True.intro ?_; exact Fin.oneP
  · obtain ⟨h1, h2, rfl, _, _⟩ := h1
    have e : min s 65537 = s := by omega
    have hs : ¬ (65537 : Int) < s := by omega
    rcases h1 with rfl | rfl
    · refine wG Y212_B2 hs ?_
      simp only [Int.reduceBEq, Bool.true_or, Bool.or_true, if_true, e]; exact Fin.oneP
    · refine wG Y212_B2 hs ?_
      simp only [Int.reduceBEq, Bool.true_or, Bool.or_true, if_true, e]; exact Fin.oneP
  · obtain ⟨rfl, rfl, rfl, _, _⟩ := h1
    refine wG Y212_B2 True.intro ?_; exact Fin.oneP
  · obtain ⟨rfl, rfl, h2, h3, h4, _⟩ := h1
    obtain ⟨x, rfl⟩ := List.length_eq_one_iff.1 h4; have hc := hE x (by simp) (hfE x (by simp)) (hes x (by simp))
    have hx0 := siz_nonneg x (hes x (by simp))
    have hx1 := siz_le x
    have hw : IntKind.i64.wrap (c * siz x) = c * siz x := wrap_in (by
      have h5 : 0 ≤ c * siz x := Int.mul_nonneg (by omega) hx0
      have h6 : c * siz x ≤ 65536 * 65537 := Int.mul_le_mul h3 hx1 hx0 (by omega)
      omega)
    refine wdG Y212_B2 BN03 ?_; refine AR.callP hc @tyV_eq True.intro ?_; refine goG Y212_B2 hw ?_; refine wdG Y212_B2 (AI hw go_min) ?_; simp only [Int.reduceBEq, Bool.or_self, Bool.false_eq_true, if_false, if_true, List.map_cons, List.headD_cons]; exact Fin.oneP
  · obtain ⟨rfl, rfl, rfl, _⟩ := h1
    have hoff : ∀ i, (hi : i < fs.length) → 0 ≤ fs[i].off ∧ fs[i].off < 65536 := fun i hi => fok_off hi (hof i hi)
    refine wdG Y212_B2 BN03 ?_; refine AWp.loop ?_; refine ALp.cutP 1 [(0, .ag [.im (.int .i64 5), .im (.int .i64 0), .im (.int .i64 0), .sl (es.map tyV) .ro, .sl (fs.map fdV) .ro]), (1, .pt 0 0), (2, (.im (.int .i64 (0)))), (3, (.im (.int .i64 (ends fs (0))))), (28, .sl (fs.map fdV) .ro), (29, (.im (.int .i64 (fs.length)))), (30, (.im (.int .i64 (((0 : Nat) : Int)))))] [.box [.im (.int .i64 5), .im (.int .i64 0), .im (.int .i64 0), .sl (es.map tyV) .ro, .sl (fs.map fdV) .ro]] True.intro ?_; refine ALp.upto fs.length (fun _ => True) (fun m => ⟨dn 45 [(0, .ag [.im (.int .i64 5), .im (.int .i64 0), .im (.int .i64 0), .sl (es.map tyV) .ro, .sl (fs.map fdV) .ro]), (1, .pt 0 0), (2, (.im (.int .i64 (0)))), (3, (.im (.int .i64 (ends fs (m))))), (28, .sl (fs.map fdV) .ro), (29, (.im (.int .i64 (fs.length)))), (30, (.im (.int .i64 (((m : Nat) : Int)))))], ofl [.box [.im (.int .i64 5), .im (.int .i64 0), .im (.int .i64 0), .sl (es.map tyV) .ro, .sl (fs.map fdV) .ro]]⟩) ?_ 0 (Nat.zero_le _) trivial
    intro m hm _ hnext
    by_cases hlt : m < fs.length
    · have hlt' : (m : Int) < (fs.length : Int) := by omega
      have hg := get_some hlt; have hm1 := wrap_succ hlt (by omega)
      have hc := hF fs[m] (List.getElem_mem hlt) (hfF _ (List.getElem_mem hlt)) (hfs _ (List.getElem_mem hlt)); have ho := hoff m hlt; have hx0 := siz_nonneg fs[m] (hfs _ (List.getElem_mem hlt)); have hx1 := siz_le fs[m]; have hw : IntKind.i64.wrap (fs[m].off + siz fs[m]) = fs[m].off + siz fs[m] := wrap_in (by omega)
      have he := (ends_succ hlt).symm; refine wdG Y212_B2 (AI (@tyV_firm) (AI (@fdV_firm) (AI (@tyV_strip) (AI (@fdV_strip) (AI (@tyV_live) (AI (@tyV_size) (AI (@tyV_isAg) (AI (@tyV_cells) (AI (@fdV_live) (AI (@fdV_size) (AI (@fdV_isAg) (AI (@fdV_cells) (AI (@List.getElem?_map.{0, 0}) (AI (@Int.natCast_nonneg) (AI hlt' (AI hg hm1)))))))))))))))) ?_; refine AR.callP hc @tyV_eq True.intro ?_; refine goG Y212_B2 (AI hw (AI go_max he)) ?_; refine wdG Y212_B2 hm1 ?_; refine ALp.cutP 1 [(0, .ag [.im (.int .i64 5), .im (.int .i64 0), .im (.int .i64 0), .sl (es.map tyV) .ro, .sl (fs.map fdV) .ro]), (1, .pt 0 0), (2, (.im (.int .i64 (0)))), (3, (.im (.int .i64 (ends fs (m + 1))))), (28, .sl (fs.map fdV) .ro), (29, (.im (.int .i64 (fs.length)))), (30, (.im (.int .i64 (((m + 1 : Nat) : Int)))))] [.box [.im (.int .i64 5), .im (.int .i64 0), .im (.int .i64 0), .sl (es.map tyV) .ro, .sl (fs.map fdV) .ro]] True.intro ?_; exact hnext (m + 1) (by omega) (by omega) trivial
    · obtain rfl : m = fs.length := by omega
      have hlt' : ¬ (fs.length : Int) < (fs.length : Int) := by omega
      clear hnext; refine wdG Y212_B2 (AI hlt' go_min) ?_; simp only [Int.reduceBEq, Bool.or_self, Bool.false_eq_true, if_false, if_true, ← ends_all]; exact Fin.oneP
end Go.Proofs.YtmbmmckagcdapaaGreatDoor
namespace Go.Proofs.YtmbmmckagcdapaaGreatDoor
open Go.RowKit Go.Lib
def Cf.newTip (C : Cf) (e : TypeId) (z : Nat) (cs : Array Value) : Cf := ⟨fun i => if i = 0 then some C.w.heap.size else C.σ i, ofl [.tip e z 0], C.av, C.w.drew.alloc (.cells cs e)⟩
theorem newTip_st {e : TypeId} {z i : Nat} (h : ofl [.tip e z 0] i ≠ .free) : i = 0 := by
  cases i with
  | zero => rfl
  | succ i => exact absurd (by simp [ofl, List.getD]) h
theorem newTip_old {C : Cf} {e : TypeId} {z : Nat} {cs : Array Value} {b : Nat} (hb : b < C.w.heap.size) : (C.newTip e z cs).w.heap[b]? = C.w.heap[b]? := by
  show (C.w.drew.heap.push _)[b]? = _
  rw [Array.getElem?_push]
  have : b ≠ C.w.drew.heap.size := Nat.ne_of_lt hb
  rw [if_neg this]
  rfl
theorem Ev.newTip {C : Cf} {e : TypeId} {z : Nat} {cs : Array Value} (hst : C.st = stF) : Ev C (C.newTip e z cs) where
  os := rfl
  tape := rfl
  output := rfl
  size := by show C.w.heap.size ≤ (C.w.drew.heap.push _).size; rw [Array.size_push]; exact Nat.le_succ _
  av := rfl
  rd := fun a v h => by
    have hb : a.block < C.w.heap.size := by
      have h1 := h.1; refine Nat.lt_of_not_le fun hle => ?_
      have : C.w.heap[a.block]? = none := Array.getElem?_eq_none hle; simp [World.cell?, this] at h1
    refine ⟨?_, h.2.1, fun i hi => ?_⟩
    · rw [← h.1]
      exact World.cell?_of_block (w := C.w) (newTip_old hb)
    · by_cases h0 : i = 0
      · subst h0
        have : C.w.heap.size = a.block := Option.some.inj hi; omega
      · exact .inl (Classical.byContradiction fun hn => h0 (newTip_st hn))
  box := fun i cs hb => by rw [hst] at hb; cases hb
  tip := fun i e z n hb => by rw [hst] at hb; cases hb
  itr := fun i s p hb => by rw [hst] at hb; cases hb
  keep := fun b hb _ => newTip_old hb
  shp := fun i cs g bs t hb => by rw [hst] at hb; cases hb
  fresh := fun i b hi hs => by
    obtain rfl := newTip_st hi; have : C.w.heap.size = b := Option.some.inj hs; exact .inr (Nat.le_of_eq this)
theorem Ok.newTip {C : Cf} {e : TypeId} {z : Nat} {cs : Array Value} (hC : Ok C) (hst : C.st = stF) : Ok (C.newTip e z cs) where
  box := fun i cs' hb => by
    have h0 : i = 0 := newTip_st (e := e) (z := z) (by show (C.newTip e z cs).st i ≠ _; rw [hb]; simp)
    subst h0; cases hb
  tip := fun i e' z' n g hb hs => by
    have h0 : i = 0 := newTip_st (e := e) (z := z) (by show (C.newTip e z cs).st i ≠ _; rw [hb]; simp)
    subst h0; cases hb
    have : C.w.heap.size = g := Option.some.inj hs; subst this; refine ⟨cs, ?_, by omega, fun o ho => ?_⟩
    · show (C.w.drew.heap.push _)[C.w.heap.size]? = _
      rw [Array.getElem?_push]; exact if_pos rfl
    · exact absurd (hC.avl _ o ho) (Nat.lt_irrefl _)
  iter := fun i s p hb => by
    have h0 : i = 0 := newTip_st (e := e) (z := z) (by show (C.newTip e z cs).st i ≠ _; rw [hb]; simp)
    subst h0; cases hb
  inj := fun i j g hi hj _ _ => (newTip_st hi).trans (newTip_st hj).symm
  avl := fun b o h => by
    have := hC.avl b o h; show b < (C.w.drew.heap.push _).size
    rw [Array.size_push]; exact Nat.lt_succ_of_lt this
  bav := fun i cs' g o hb => by
    have h0 : i = 0 := newTip_st (e := e) (z := z) (by show (C.newTip e z cs).st i ≠ _; rw [hb]; simp)
    subst h0; cases hb
  gl := hC.gl.mono (Ev.newTip hst)
theorem grown_acalls {P : Program} {f : FuncId} {e : TypeId} {z : Nat} {xs : List V} (hf : goFn P f = true) (hz : 0 < z)
    (h : ∀ (C : Cf) (vs : Array Value), C.st = stF → Ok C → vs.size = xs.length → (∀ i (h : i < xs.length), R C xs[i] (vs.getD i undef)) →
      ∃ (cap : Nat) (cs : Array Value), cap ≤ maxLen ∧ cs.size = cap * z ∧ Calls P f vs C.w fun e' w' => e' = .returned (.slice (some ⟨C.w.heap.size, 0, none⟩) 0 cap) ∧ w' = C.w.drew.alloc (.cells cs e)) :
    DC P f xs [.free] (.sl [] (.own 0)) [.tip e z 0] := by
  refine ⟨hf, fun C vs hst hC hl hR => ?_⟩
  have hst' : C.st = stF := by
    rw [hst]; funext i; unfold ofl stF; cases i with
    | zero => rfl
    | succ i => simp [List.getD]
  obtain ⟨cap, cs, hcap, hcs, hc⟩ := h C vs hst' hC hl hR
  refine hc.mono ?_
  rintro e' w' ⟨rfl, rfl⟩
  refine ⟨_, _, _, rfl, ⟨rfl, rfl⟩, C.newTip e z cs, rfl, rfl, Ok.newTip hC hst', Ev.newTip hst', ?_⟩
  · refine .sl (z := z) (u := fun _ => undef) (Nat.zero_le _) hcap (fun i hi => absurd hi (Nat.not_lt_zero _)) (fun i hi => absurd hi (Nat.not_lt_zero _)) (fun i hi => absurd hi (Nat.not_lt_zero _))
      ⟨e, 0, rfl, Nat.le_refl _, fun _ => .inr ⟨_, cs, rfl, rfl, ?_, hcs⟩⟩
    show (C.w.drew.heap.push _)[C.w.heap.size]? = _
    rw [Array.getElem?_push]; exact if_pos rfl
theorem growN_run (n : Nat) (h0 : 0 < n) (hb : n ≤ 4194304 * 4) (w : World) : ∃ (cap : Nat) (cs : Array Value), cap ≤ maxLen ∧ cs.size = cap * 1 ∧ Calls Tryz.prog 256 #[.slice none 0 0, .int .i64 n] w fun e w' => e = .returned (.slice (some ⟨w.heap.size, 0, none⟩) 0 cap) ∧ w' = w.drew.alloc (.cells cs 35) := by
  obtain ⟨i0, hi, hz0, hz1, hz2⟩ := info_parts (show (Tryz.prog.info? 35).map (fun i => (i.zero, i.size, i.bytes)) = some (some (.slice none 0 0), 1, 24) by kernel_rfl)
  have h1 : ¬ ((n : Int) < 0) := by omega
  have h4 : (n : Int) > 0 := by omega
  have hrz : ∀ ty, (Builtin.append_ #[163, 3] ty #[.slice none 0 0, .int .i64 n]).run Tryz.prog w = _ := fun ty => run_append_nil_zeros w 163 3 ty 35 i0 _ .i64 .i64 Tryz.underlying163 Tryz.underlying3 hi hz0 n h0 (by rw [hz1]; decide) (by omega) (by rw [hz2]; omega)
  have hGn : n ≤ grownCap w n 0 35 := grownCap_ge w _ _ _
  have hG63 := grownCap_le_maxLen w n 0 35 (by unfold maxLen; omega)
  generalize grownCap w n 0 35 = G at hrz hGn hG63
  refine ⟨G, Builtin.zeroCells (Value.cells (.slice none 0 0)) n ++ Builtin.zeroCells (Value.cells (.slice none 0 0)) (G - n), hG63, ?_, ?_⟩
  rotate_left
  · go_enter Tryz.func256, Tryz.ntmps256
    go_wp2_with (at_builtin; refine Lib.wpList_append_run _ rfl _ _ _ _ rfl _ _ rfl rfl _ _ (hrz _) ?_)
    all_goals (go_ret; exact ⟨rfl, rfl⟩)
  · simp [Builtin.zeroCells, Value.cells]; omega
theorem c_growN (n : Nat) (h0 : 0 < n) (hb : n ≤ 4194304 * 4) : DC Tryz.prog 256 [.sl [] .nl, .im (.int .i64 n)] [.free] (.sl [] (.own 0)) [.tip 35 1 0] := by
  refine grown_acalls (by kernel_rfl) (by decide) fun C vs _ _ hl hR => ?_
  obtain ⟨v0, v1, rfl⟩ : ∃ v0 v1, vs = #[v0, v1] := Go.Joins.array2 hl
  have h1 := hR 0 (by simp)
  have h2 := hR 1 (by simp)
  obtain rfl : v0 = .slice none 0 0 := by
    have h1 : R C (.sl [] .nl) v0 := h1; cases h1 with
    | sl _ _ _ _ _ hk => obtain ⟨rfl, rfl⟩ := hk; rfl
  obtain rfl : v1 = .int .i64 n := by
    have h2 : R C (.im (.int .i64 n)) v1 := h2; cases h2 with
    | im => rfl
  exact growN_run n h0 hb C.w
theorem c_growN0 : PC Tryz.prog 256 [.sl [] .nl, .im (.int .i64 0)] (.sl [] .nl) := by
  refine ⟨by kernel_rfl, fun C vs hst hC hl hR => ?_⟩
  obtain ⟨v0, v1, rfl⟩ : ∃ v0 v1, vs = #[v0, v1] := Go.Joins.array2 hl
  have h1 := hR 0 (by simp)
  have h2 := hR 1 (by simp)
  obtain rfl : v0 = .slice none 0 0 := by
    have h1 : R C (.sl [] .nl) v0 := h1; cases h1 with
    | sl _ _ _ _ _ hk => obtain ⟨rfl, rfl⟩ := hk; rfl
  obtain rfl : v1 = .int .i64 0 := by
    have h2 : R C (.im (.int .i64 0)) v1 := h2; cases h2 with
    | im => rfl
  have hc : Calls Tryz.prog 256 #[.slice none 0 0, .int .i64 0] C.w fun e w' => e = .returned (.slice none 0 0) ∧ w' = C.w := by
    go_enter Tryz.func256, Tryz.ntmps256
    go_wp2
    go_ret
    exact ⟨rfl, rfl⟩
  refine hc.mono ?_
  rintro e' w' ⟨rfl, rfl⟩
  exact ⟨_, _, _, rfl, ⟨rfl, rfl⟩, C, rfl, hst, hC, Ev.refl C, h1⟩
theorem growV_run (n : Nat) (h0 : 0 < n) (hb : n ≤ 4194304 * 4) (w : World) : ∃ (cap : Nat) (cs : Array Value), cap ≤ maxLen ∧ cs.size = cap * 6 ∧ Calls Tryz.prog 162 #[.slice none 0 0, .int .i64 n] w fun e w' => e = .returned (.slice (some ⟨w.heap.size, 0, none⟩) 0 cap) ∧ w' = w.drew.alloc (.cells cs 96) := by
  obtain ⟨i0, hi, hz0, hz1, hz2⟩ := info_parts (show (Tryz.prog.info? 96).map (fun i => (i.zero, i.size, i.bytes)) = some (some (.agg #[.string .empty, .int .i64 0, .int .i64 0, .int .i64 0, .slice none 0 0, .slice none 0 0]), 6, 88) by kernel_rfl)
  have h1 : ¬ ((n : Int) < 0) := by omega
  have h4 : (n : Int) > 0 := by omega
  have hrz : ∀ ty, (Builtin.append_ #[23, 3] ty #[.slice none 0 0, .int .i64 n]).run Tryz.prog w = _ := fun ty => run_append_nil_zeros w 23 3 ty 96 i0 _ .i64 .i64 Tryz.underlying23 Tryz.underlying3 hi hz0 n h0 (by rw [hz1]; decide) (by omega) (by rw [hz2]; omega)
  have hGn : n ≤ grownCap w n 0 96 := grownCap_ge w _ _ _
  have hG63 := grownCap_le_maxLen w n 0 96 (by unfold maxLen; omega)
  generalize grownCap w n 0 96 = G at hrz hGn hG63
  refine ⟨G, Builtin.zeroCells (Value.cells (.agg #[.string .empty, .int .i64 0, .int .i64 0, .int .i64 0, .slice none 0 0, .slice none 0 0])) n ++ Builtin.zeroCells (Value.cells (.agg #[.string .empty, .int .i64 0, .int .i64 0, .int .i64 0, .slice none 0 0, .slice none 0 0])) (G - n), hG63, ?_, ?_⟩
  rotate_left
  · go_enter Tryz.func162, Tryz.ntmps162
    go_wp2_with (at_builtin; refine Lib.wpList_append_run _ rfl _ _ _ _ rfl _ _ rfl rfl _ _ (hrz _) ?_)
    all_goals (go_ret; exact ⟨rfl, rfl⟩)
  · simp [Builtin.zeroCells, Value.cells]; omega
theorem c_growV (n : Nat) (h0 : 0 < n) (hb : n ≤ 4194304 * 4) : DC Tryz.prog 162 [.sl [] .nl, .im (.int .i64 n)] [.free] (.sl [] (.own 0)) [.tip 96 6 0] := by
  refine grown_acalls (by kernel_rfl) (by decide) fun C vs _ _ hl hR => ?_
  obtain ⟨v0, v1, rfl⟩ : ∃ v0 v1, vs = #[v0, v1] := Go.Joins.array2 hl
  have h1 := hR 0 (by simp)
  have h2 := hR 1 (by simp)
  obtain rfl : v0 = .slice none 0 0 := by
    have h1 : R C (.sl [] .nl) v0 := h1; cases h1 with
    | sl _ _ _ _ _ hk => obtain ⟨rfl, rfl⟩ := hk; rfl
  obtain rfl : v1 = .int .i64 n := by
    have h2 : R C (.im (.int .i64 n)) v1 := h2; cases h2 with
    | im => rfl
  exact growV_run n h0 hb C.w
theorem c_growV0 : PC Tryz.prog 162 [.sl [] .nl, .im (.int .i64 0)] (.sl [] .nl) := by
  refine ⟨by kernel_rfl, fun C vs hst hC hl hR => ?_⟩
  obtain ⟨v0, v1, rfl⟩ : ∃ v0 v1, vs = #[v0, v1] := Go.Joins.array2 hl
  have h1 := hR 0 (by simp)
  have h2 := hR 1 (by simp)
  obtain rfl : v0 = .slice none 0 0 := by
    have h1 : R C (.sl [] .nl) v0 := h1; cases h1 with
    | sl _ _ _ _ _ hk => obtain ⟨rfl, rfl⟩ := hk; rfl
  obtain rfl : v1 = .int .i64 0 := by
    have h2 : R C (.im (.int .i64 0)) v1 := h2; cases h2 with
    | im => rfl
  have hc : Calls Tryz.prog 162 #[.slice none 0 0, .int .i64 0] C.w fun e w' => e = .returned (.slice none 0 0) ∧ w' = C.w := by
    go_enter Tryz.func162, Tryz.ntmps162
    go_wp2
    go_ret
    exact ⟨rfl, rfl⟩
  refine hc.mono ?_
  rintro e' w' ⟨rfl, rfl⟩
  exact ⟨_, _, _, rfl, ⟨rfl, rfl⟩, C, rfl, hst, hC, Ev.refl C, h1⟩
end Go.Proofs.YtmbmmckagcdapaaGreatDoor
