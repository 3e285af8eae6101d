import Derived.Test.YtmbmmckagcdapaaGreatDoorK10
import Derived.Test.YtmbmmckagcdapaaGreatDoorK21
import Derived.Test.YtmbmmckagcdapaaGreatDoorK12
set_option linter.unusedSimpArgs false
set_option linter.unusedVariables false
set_option linter.unnecessarySimpa false
namespace Go.Proofs.YtmbmmckagcdapaaGreatDoor
open Go.RowKit
def stV (x : List (List Nd)) : V := ndV (theS x)
def liV (x : List (List Nd)) : V := nlV (x.headD [])
def caV (x : List (List Nd)) : V := .sl (x.map nlV) .ro
theorem stV_one (s : Nd) : stV (oneS s) = ndV s := rfl
theorem nlV_ren (g : Nat → Nat) (c : List Nd) : V.ren g (nlV c) = nlV c := V.ren_id g _ (nlV_id _ c)
theorem liV_ren (g : Nat → Nat) (x : List (List Nd)) : V.ren g (liV x) = liV x := V.ren_id g _ (nlV_id _ _)
theorem liV_id (p : Nat → Bool) (x : List (List Nd)) : (liV x).ids p = true := nlV_id _ _
theorem stV_ren (g : Nat → Nat) (x : List (List Nd)) : V.ren g (stV x) = stV x := V.ren_id g _ (ndV_id _ _)
theorem stV_id (p : Nat → Bool) (x : List (List Nd)) : (stV x).ids p = true := ndV_id _ _
theorem caV_id (p : Nat → Bool) (x : List (List Nd)) : (caV x).ids p = true := by simp only [caV, V.ids, Bool.and_true]; exact nlVs_id p x
theorem caV_ren (g : Nat → Nat) (x : List (List Nd)) : V.ren g (caV x) = caV x := V.ren_id g _ (caV_id _ _)
theorem liV_live (c : List (List Nd)) : (liV c).live = true := rfl
theorem liV_size (c : List (List Nd)) : (liV c).size = 1 := rfl
theorem liV_isAg (c : List (List Nd)) : (liV c).isAg = false := rfl
theorem liV_cells (c : List (List Nd)) : (liV c).cells = [liV c] := rfl
theorem caV_live (c : List (List Nd)) : (caV c).live = true := rfl
theorem caV_size (c : List (List Nd)) : (caV c).size = 1 := rfl
theorem caV_isAg (c : List (List Nd)) : (caV c).isAg = false := rfl
theorem caV_cells (c : List (List Nd)) : (caV c).cells = [caV c] := rfl
theorem stV_live (c : List (List Nd)) : (stV c).live = true := ndV_live _
theorem stV_size (c : List (List Nd)) : (stV c).size = 7 := ndV_size _
theorem stV_isAg (c : List (List Nd)) : (stV c).isAg = true := ndV_isAg _
theorem stV_cells (c : List (List Nd)) : (stV c).cells = [.im (.int .i64 (theS c).kind), .im (.int .i64 (theS c).width), .im (.string (theS c).name), .sl ((theS c).e.map exV) .ro, .sl ((theS c).l.map ndV) .ro, .sl ((theS c).el.map ndV) .ro, .sl ((theS c).cs.map nlV) .ro] := ndV_cells _
theorem LIT : type_of% (AI @liV_live (AI @liV_size (AI @liV_isAg (AI @liV_cells (AI @caV_live (AI @caV_size (AI @caV_isAg (AI @caV_cells (AI @stV_live (AI @stV_size (AI @stV_isAg @stV_cells))))))))))) :=
  AI @liV_live (AI @liV_size (AI @liV_isAg (AI @liV_cells (AI @caV_live (AI @caV_size (AI @caV_isAg (AI @caV_cells (AI @stV_live (AI @stV_size (AI @stV_isAg @stV_cells))))))))))
theorem Y215_ZA8 : type_of% (AI @F_ag_165 (AI @F_ag_3 (AI @F_ag_44 (AI @F_al_165 (AI @F_al_46 (AI @F_el_44 (AI @F_fl_165_0 (AI @F_fl_165_3 (AI @F_st_165 (AI @F_sz_165 (AI @F_sz_3 (AI @F_sz_44 (@F_sz_46))))))))))))) := AI @F_ag_165 (AI @F_ag_3 (AI @F_ag_44 (AI @F_al_165 (AI @F_al_46 (AI @F_el_44 (AI @F_fl_165_0 (AI @F_fl_165_3 (AI @F_st_165 (AI @F_sz_165 (AI @F_sz_3 (AI @F_sz_44 (@F_sz_46))))))))))))
theorem I1_ZA8 : type_of% (AI tkV_id (AI tkL_id (AI (@exV_id) (AI (@exL_id) (AI ndV_id (AI ndLs_id (AI nlV_id nlVs_id))))))) := (AI tkV_id (AI tkL_id (AI (@exV_id) (AI (@exL_id) (AI ndV_id (AI ndLs_id (AI nlV_id nlVs_id)))))))
theorem N1_ZA8 : type_of% (AI tkV_ren (AI tkL_ren (AI (@exV_ren) (AI (@exL_ren) (AI ndV_ren (AI ndLs_ren nlVs_ren)))))) := (AI tkV_ren (AI tkL_ren (AI (@exV_ren) (AI (@exL_ren) (AI ndV_ren (AI ndLs_ren nlVs_ren))))))
set_option maxHeartbeats 4000000 in
theorem c_namedP {ts : List Tk} {f : Nat} (hts : ts.length ≤ 4194304) (a o : Nat) (ho : o ≤ 256) (r : Rs (List (List Nd))) (h : namM ts f a o = some r) : XC Tryz.prog 215 [.pt 0 0] ts a o stV r := by
  unfold namM at h
  refine XC.enter 24 Tryz.func215 rfl (by decide) rfl rfl (s := [(0, .pt 0 0)]) (by rfl) ?_
  refine wG Y215_ZA8 True.intro ?_
  rcases rb_some h with ⟨b1, e1, h1, rfl⟩ | ⟨nm, a1, o1, h1, h⟩
  · exact PA.callP [0] ((c_nameP ts a o hts _ h1).fails) True.intro I1_ZA8 N1_ZA8 (fun _ => PFin.i rfl rfl)
  refine AR.callSP [0] (((c_nameP ts a o hts _ h1).good)) True.intro I1_ZA8 N1_ZA8 ?_
  refine goG Y215_ZA8 True.intro ?_
  obtain ⟨_, rfl, hoe, hlt⟩ := nmM_ok h1
  subst o1
  clear h1
  refine wG Y215_ZA8 True.intro ?_
  have hq := c_accept ts (a + 1) o [58] hts
  rcases ite_or h with ⟨hk, h⟩ | ⟨hk, h⟩
  · rw [if_pos hk, hk] at hq
    cases h
    refine AR.callSP [0] hq True.intro I1_ZA8 N1_ZA8 ?_; refine goG Y215_ZA8 True.intro ?_; refine wG Y215_ZA8 True.intro ?_; refine Fin.gen (rs := [.cell 2 165]) rfl (by first | exact .inl rfl | exact .inr rfl) (finG Y215_ZA8) ?_ rfl (idG I1_ZA8)
    simp only [stV_one, ndV_mk, List.map_nil]
    all_goals exact wkG I1_ZA8
  rw [if_neg hk] at hq
  rw [Bool.not_eq_true] at hk
  rw [hk] at hq
  refine AR.callSP [0] hq True.intro I1_ZA8 N1_ZA8 ?_
  refine goG Y215_ZA8 True.intro ?_
  refine wG Y215_ZA8 True.intro ?_
  rcases rb_some h with ⟨b1, e1, h1, rfl⟩ | ⟨_, a2, o2, h1, h⟩
  · exact PA.callP [0] ((c_expect ts (a + 1) o [61] hts _ h1).fails) True.intro I1_ZA8 N1_ZA8 (fun _ => PFin.i rfl rfl)
  refine AR.callSP [0] (((c_expect ts (a + 1) o [61] hts _ h1).good)) True.intro I1_ZA8 N1_ZA8 ?_
  refine goG Y215_ZA8 True.intro ?_
  obtain ⟨_, rfl, hoe⟩ := expM_ok h1
  subst o2
  clear h1
  refine wG Y215_ZA8 True.intro ?_
  have hq := c_accept ts (a + 1 + 1) o [105, 110] hts
  rcases ite_or h with ⟨hk2, h⟩ | ⟨hk2, h⟩
  · rw [if_pos hk2, hk2] at hq
    refine AR.callSP [0] hq True.intro I1_ZA8 N1_ZA8 ?_; refine goG Y215_ZA8 True.intro ?_; refine wG Y215_ZA8 True.intro ?_; rcases rb_some h with ⟨b1, e1, h1, rfl⟩ | ⟨_, a3, o3, h1, h⟩
    · exact PA.callP [0] ((c_expect ts (a + 1 + 1 + 1) o [59] hts _ h1).fails) True.intro I1_ZA8 N1_ZA8 (fun _ => PFin.i rfl rfl)
    refine AR.callSP [0] (((c_expect ts (a + 1 + 1 + 1) o [59] hts _ h1).good)) True.intro I1_ZA8 N1_ZA8 ?_; refine goG Y215_ZA8 True.intro ?_; cases h
    refine wG Y215_ZA8 True.intro ?_; refine Fin.gen (rs := [.cell 2 165]) rfl (by first | exact .inl rfl | exact .inr rfl) (finG Y215_ZA8) ?_ rfl (idG I1_ZA8)
    simp only [stV_one, ndV_mk, List.map_nil]
    all_goals exact wkG I1_ZA8
  rw [if_neg hk2] at hq
  rw [Bool.not_eq_true] at hk2
  rw [hk2] at hq
  refine AR.callSP [0] hq True.intro I1_ZA8 N1_ZA8 ?_
  refine goG Y215_ZA8 True.intro ?_
  refine wG Y215_ZA8 True.intro ?_
  rcases rb_some h with ⟨b1, e1, h1, rfl⟩ | ⟨x, a3, o3, h1, h⟩
  · exact PA.callP [0] ((c_ex hts f 1 (a + 1 + 1) o (by decide) ho _ h1).fails) i1 I1_ZA8 N1_ZA8 (fun _ => PFin.i rfl rfl)
  refine AR.callSP [0] (((c_ex hts f 1 (a + 1 + 1) o (by decide) ho _ h1).good)) i1 I1_ZA8 N1_ZA8 ?_
  refine goG Y215_ZA8 BN02 ?_
  have hoe := (exM_open ts _ _ _ _ _ _ _ h1).1
  subst o3
  refine wG Y215_ZA8 BN02 ?_
  rcases rb_some h with ⟨b1, e1, h1, rfl⟩ | ⟨_, a4, o4, h1, h⟩
  · exact PA.callP [0] ((c_expect ts a3 o [59] hts _ h1).fails) True.intro I1_ZA8 N1_ZA8 (fun _ => PFin.i rfl rfl)
  refine AR.callSP [0] (((c_expect ts a3 o [59] hts _ h1).good)) True.intro I1_ZA8 N1_ZA8 ?_
  refine goG Y215_ZA8 True.intro ?_
  cases h
  refine wG Y215_ZA8 BN02 ?_
  refine Fin.gen (rs := [.cell 2 165]) rfl (by first | exact .inl rfl | exact .inr rfl) (finG Y215_ZA8) ?_ rfl (idG I1_ZA8)
  simp only [stV_one, ndV_mk, List.map_nil, List.map_cons]; rw [exV_eq x]
  all_goals exact wkG I1_ZA8
theorem Y216_ZA8 : type_of% (AI @F_ag_165 (AI @F_ag_44 (AI @F_ag_46 (AI @F_al_165 (AI @F_al_46 (AI @F_el_44 (AI @F_fl_165_3 (AI @F_st_165 (AI @F_sz_165 (AI @F_sz_44 (@F_sz_46))))))))))) := AI @F_ag_165 (AI @F_ag_44 (AI @F_ag_46 (AI @F_al_165 (AI @F_al_46 (AI @F_el_44 (AI @F_fl_165_3 (AI @F_st_165 (AI @F_sz_165 (AI @F_sz_44 (@F_sz_46))))))))))
set_option maxHeartbeats 4000000 in
theorem c_store {ts : List Tk} {f : Nat} (hts : ts.length ≤ 4194304) (w : Int) (a o : Nat) (ho : o ≤ 256) (r : Rs (List (List Nd))) (h : storM ts f w a o = some r) : XC Tryz.prog 216 [.pt 0 0, (.im (.int .i64 (w)))] ts a o stV r := by
  unfold storM at h
  refine XC.enter 27 Tryz.func216 rfl (by decide) rfl rfl (s := [(0, .pt 0 0), (1, (.im (.int .i64 (w))))]) (by rfl) ?_
  refine wG Y216_ZA8 True.intro ?_
  rcases rb_some h with ⟨b1, e1, h1, rfl⟩ | ⟨_, a1, o1, h1, h⟩
  · exact PA.callP [0] ((c_begin ts a o [40] hts _ h1).fails) True.intro I1_ZA8 N1_ZA8 (fun _ => PFin.i rfl rfl)
  refine AR.callSP [0] (((c_begin ts a o [40] hts _ h1).good)) True.intro I1_ZA8 N1_ZA8 ?_
  refine goG Y216_ZA8 True.intro ?_
  obtain ⟨_, ho1, rfl, rfl⟩ := begM_ok h1
  clear h1
  refine wG Y216_ZA8 True.intro ?_
  rcases rb_some h with ⟨b1, e1, h1, rfl⟩ | ⟨x, a2, o2, h1, h⟩
  · exact PA.callP [0] ((c_ex hts f 1 (a + 1) (o + 1) (by decide) (by omega) _ h1).fails) i1 I1_ZA8 N1_ZA8 (fun _ => PFin.i rfl rfl)
  refine AR.callSP [0] (((c_ex hts f 1 (a + 1) (o + 1) (by decide) (by omega) _ h1).good)) i1 I1_ZA8 N1_ZA8 ?_
  refine goG Y216_ZA8 BN02 ?_
  obtain ⟨rfl, _⟩ := exM_open ts _ _ _ _ _ _ _ h1
  clear h1
  refine wG Y216_ZA8 BN02 ?_
  rcases rb_some h with ⟨b1, e1, h1, rfl⟩ | ⟨_, a3, o3, h1, h⟩
  · exact PA.callP [0] ((c_expect ts a2 (o + 1) [44] hts _ h1).fails) True.intro I1_ZA8 N1_ZA8 (fun _ => PFin.i rfl rfl)
  refine AR.callSP [0] (((c_expect ts a2 (o + 1) [44] hts _ h1).good)) True.intro I1_ZA8 N1_ZA8 ?_
  refine goG Y216_ZA8 True.intro ?_
  obtain ⟨_, rfl, rfl⟩ := expM_ok h1
  clear h1
  refine wG Y216_ZA8 True.intro ?_
  rcases rb_some h with ⟨b1, e1, h1, rfl⟩ | ⟨y, a4, o4, h1, h⟩
  · exact PA.callP [0] ((c_ex hts f 1 (a2 + 1) (o + 1) (by decide) (by omega) _ h1).fails) i1 I1_ZA8 N1_ZA8 (fun _ => PFin.i rfl rfl)
  refine AR.callSP [0] (((c_ex hts f 1 (a2 + 1) (o + 1) (by decide) (by omega) _ h1).good)) i1 I1_ZA8 N1_ZA8 ?_
  refine goG Y216_ZA8 BN02 ?_
  obtain ⟨rfl, _⟩ := exM_open ts _ _ _ _ _ _ _ h1
  clear h1
  refine wG Y216_ZA8 BN02 ?_
  rcases rb_some h with ⟨b1, e1, h1, rfl⟩ | ⟨_, a5, o5, h1, h⟩
  · exact PA.callP [0] ((c_end ts a4 (o + 1) [41] hts (by omega) (by omega) _ h1).fails) True.intro I1_ZA8 N1_ZA8 (fun _ => PFin.i rfl rfl)
  refine AR.callSP [0] (((c_end ts a4 (o + 1) [41] hts (by omega) (by omega) _ h1).good)) True.intro I1_ZA8 N1_ZA8 ?_
  refine goG Y216_ZA8 True.intro ?_
  obtain ⟨_, rfl, hoe⟩ := endM_ok h1
  rw [Nat.add_sub_cancel] at hoe
  subst o5
  clear h1
  refine wG Y216_ZA8 True.intro ?_
  rcases rb_some h with ⟨b1, e1, h1, rfl⟩ | ⟨_, a6, o6, h1, h⟩
  · exact PA.callP [0] ((c_expect ts (a4 + 1) o [59] hts _ h1).fails) True.intro I1_ZA8 N1_ZA8 (fun _ => PFin.i rfl rfl)
  refine AR.callSP [0] (((c_expect ts (a4 + 1) o [59] hts _ h1).good)) True.intro I1_ZA8 N1_ZA8 ?_
  refine goG Y216_ZA8 True.intro ?_
  cases h
  refine wG Y216_ZA8 BN02 ?_
  refine Fin.gen (rs := [.cell 4 165]) rfl (by first | exact .inl rfl | exact .inr rfl) (finG Y216_ZA8) ?_ rfl (idG I1_ZA8)
  simp only [stV_one, ndV_mk, List.map_nil, List.map_cons]; rw [exV_eq x, exV_eq y]
  all_goals exact wkG I1_ZA8
theorem Y219_ZA8 : type_of% (AI @F_ag_165 (AI @F_al_165 (AI @F_st_165 (@F_sz_165)))) := AI @F_ag_165 (AI @F_al_165 (AI @F_st_165 (@F_sz_165)))
theorem c_simpleP {ts : List Tk} (hts : ts.length ≤ 4194304) (k : Int) (a o : Nat) (ho : o ≤ 256) (r : Rs (List (List Nd))) (h : simpM ts k a o = some r) : XC Tryz.prog 219 [.pt 0 0, (.im (.int .i64 (k)))] ts a o stV r := by
  unfold simpM at h
  refine XC.enter 9 Tryz.func219 rfl (by decide) rfl rfl (s := [(0, .pt 0 0), (1, (.im (.int .i64 (k))))]) (by rfl) ?_
  refine wG Y219_ZA8 True.intro ?_
  rcases rb_some h with ⟨b1, e1, h1, rfl⟩ | ⟨_, a1, o1, h1, h⟩
  · exact PA.callP [0] ((c_expect ts a o [59] hts _ h1).fails) True.intro I1_ZA8 N1_ZA8 (fun _ => PFin.i rfl rfl)
  refine AR.callSP [0] (((c_expect ts a o [59] hts _ h1).good)) True.intro I1_ZA8 N1_ZA8 ?_
  refine goG Y219_ZA8 True.intro ?_
  cases h
  refine wG Y219_ZA8 True.intro ?_
  refine Fin.gen (rs := [.cell 4 165]) rfl (by first | exact .inl rfl | exact .inr rfl) (finG Y219_ZA8) ?_ rfl (idG I1_ZA8)
  simp only [stV_one, ndV_mk, List.map_nil]
  all_goals exact wkG I1_ZA8
theorem BN08 : type_of% (AI LIT (AI (@exV_firm) (AI (@exV_strip) (AI (@exV_live) (AI (@exV_size) (AI (@exV_isAg) (AI (@exV_cells) (AI (@List.getElem?_map.{0, 0}) @Int.natCast_nonneg)))))))) := (AI LIT (AI (@exV_firm) (AI (@exV_strip) (AI (@exV_live) (AI (@exV_size) (AI (@exV_isAg) (AI (@exV_cells) (AI (@List.getElem?_map.{0, 0}) @Int.natCast_nonneg))))))))
def StC (ts : List Tk) (f : Nat) : Prop := ∀ a o : Nat, o ≤ 256 → ∀ r, stM ts f .st a o = some r → XC Tryz.prog 168 [.pt 0 0] ts a o stV r
def LiC (ts : List Tk) (f : Nat) : Prop := ∀ a o : Nat, o ≤ 256 → ∀ r, stM ts f (.li []) a o = some r → XC Tryz.prog 107 [.pt 0 0] ts a o liV r
def BrC (ts : List Tk) (f : Nat) : Prop := ∀ a o : Nat, o ≤ 256 → ∀ r, stM ts f .br a o = some r → XC Tryz.prog 217 [.pt 0 0] ts a o liV r
def CaC (ts : List Tk) (f : Nat) : Prop := ∀ a o : Nat, o ≤ 256 → ∀ r, rb (begM ts [123] a o) (fun _ a o => stM ts f (.ca []) a o) = some r → XC Tryz.prog 218 [.pt 0 0] ts a o caV r
theorem wrap_u64 {n : Int} (h : 0 ≤ n ∧ n ≤ 9223372036854775807) : IntKind.u64.wrap n = n := by
  show n % 18446744073709551616 = n
  omega
theorem nd_all (l : List Nd) : allZ 7 (l.map ndV) = true := by
  unfold allZ
  rw [List.all_map]
  exact List.all_eq_true.2 fun x _ => by simp [ndV_size, ndV_live]
theorem nl_allP (l : List (List Nd)) : allZ 1 (l.map nlV) = true := by
  unfold allZ
  rw [List.all_map]
  exact List.all_eq_true.2 fun x _ => rfl
theorem Y107_ZA9 : type_of% (AI @F_al_165 (AI @F_by_165 (AI @F_el_35 (@F_sz_165)))) := AI @F_al_165 (AI @F_by_165 (AI @F_el_35 (@F_sz_165)))
theorem I1_ZA9 : type_of% (AI tkV_id (AI tkL_id (AI (@exV_id) (AI (@exL_id) (AI ndV_id (AI ndLs_id (AI nlV_id (AI nlVs_id (AI liV_id (AI stV_id caV_id)))))))))) := (AI tkV_id (AI tkL_id (AI (@exV_id) (AI (@exL_id) (AI ndV_id (AI ndLs_id (AI nlV_id (AI nlVs_id (AI liV_id (AI stV_id caV_id))))))))))
theorem N1_ZA9 : type_of% (AI tkV_ren (AI tkL_ren (AI (@exV_ren) (AI (@exL_ren) (AI ndV_ren (AI ndLs_ren (AI nlVs_ren (AI nlV_ren (AI liV_ren (AI stV_ren caV_ren)))))))))) := (AI tkV_ren (AI tkL_ren (AI (@exV_ren) (AI (@exL_ren) (AI ndV_ren (AI ndLs_ren (AI nlVs_ren (AI nlV_ren (AI liV_ren (AI stV_ren caV_ren))))))))))
set_option maxHeartbeats 4000000 in
theorem c_list {ts : List Tk} (hts : ts.length ≤ 4194304) (F : Nat) (hS : ∀ f, f < F → StC ts f) : LiC ts F := by
  intro a o ho r h
  refine XC.enter 13 Tryz.func107 rfl (by decide) rfl rfl (s := [(0, .pt 0 0)]) (by rfl) ?_
  refine wG Y107_ZA9 True.intro ?_
  refine AWp.loop ?_
  refine ALp.ghost 3 [] .nl 165 7 ?_
  suffices H : ∀ (f : Nat), f ≤ F → ∀ (l : List Nd) (a : Nat), l.length ≤ a → stM ts f (.li l) a o = some r → ALp _ _ _ _ _ ⟨dn 13 [(0, .pt 0 0), (3, .sl ((l).map ndV) (.own 1))], ofl [.box [.sl (ts.map tkV) .ro, (.im (.int .i64 ((a : Nat)))), (.im (.int .i64 ((o : Nat))))], .tip 165 7 (l).length]⟩ by
    refine ALp.cutP 2 [(0, .pt 0 0), (3, .sl ((([] : List Nd)).map ndV) (.own 1))] [.box [.sl (ts.map tkV) .ro, (.im (.int .i64 ((a : Nat)))), (.im (.int .i64 ((o : Nat))))], .tip 165 7 (([] : List Nd)).length] I1_ZA9 ?_; exact H F (Nat.le_refl _) [] a (Nat.zero_le _) h
  clear h
  intro f
  induction f with
  | zero => intro _ l a _ h; cases h
  | succ f ih =>
  intro hf l a hla h
  rw [stM] at h
  have hs := c_sees ts a o [125]
  refine ALp.round ?_
  rcases ite_or h with ⟨hk, h⟩ | ⟨hk, h⟩
  · rw [hk] at hs
    cases h
    refine wG Y107_ZA9 True.intro ?_; refine AR.callSP [0] hs True.intro I1_ZA9 N1_ZA9 ?_; refine goG Y107_ZA9 True.intro ?_; refine wG Y107_ZA9 True.intro ?_; refine Fin.gen (rs := [.tmp 2]) rfl (by first | exact .inl rfl | exact .inr rfl) (finG Y107_ZA9) ?_ rfl (idG I1_ZA9)
    show WkF _ _ _ (.sl (l.map ndV) .ro)
    all_goals exact wkG I1_ZA9
  rw [Bool.not_eq_true] at hk
  rw [hk] at hs
  refine wG Y107_ZA9 True.intro ?_
  refine AR.callSP [0] hs True.intro I1_ZA9 N1_ZA9 ?_
  refine goG Y107_ZA9 True.intro ?_
  refine wG Y107_ZA9 True.intro ?_
  rcases rb_some h with ⟨b1, e1, h1, rfl⟩ | ⟨x, a1, o1, h1, hk2⟩
  · exact PA.callP [0] ((hS f (by omega) a o ho _ h1).fails) True.intro I1_ZA9 N1_ZA9 (fun _ => PFin.i rfl rfl)
  obtain ⟨hoe, hlt, hle⟩ := (stM_open ts f).1 _ _ _ _ _ h1
  have hc := (hS f (by omega) a o ho _ h1).good
  change DC _ _ _ _ (ndV (theS x)) _ at hc
  subst o1
  generalize theS x = s at hc hk2
  obtain ⟨B, hB⟩ : ∃ B, B = l ++ [s] := ⟨_, rfl⟩
  have hAs : l.map ndV ++ [ndV s] = B.map ndV := by rw [hB, List.map_append]; rfl
  have hAl : l.length + 1 = B.length := by rw [hB]; simp
  have hbl : B.length * 128 ≤ 140737488355328 := by omega
  have h4 : stM ts f (.li B) a1 o = some r := by rw [hB]; exact hk2
  refine AR.callSP [0] hc True.intro I1_ZA9 N1_ZA9 ?_
  refine goG Y107_ZA9 (AI ND (AI hAs (AI hAl (AI hbl (AI nd_all @List.length_map.{0, 0}))))) ?_
  refine wG Y107_ZA9 (AI ND (AI hAs (AI hAl (AI hbl (AI nd_all @List.length_map.{0, 0}))))) ?_
  refine ALp.cutP 2 [(0, .pt 0 0), (3, .sl ((B).map ndV) (.own 1))] [.box [.sl (ts.map tkV) .ro, (.im (.int .i64 ((a1 : Nat)))), (.im (.int .i64 ((o : Nat))))], .tip 165 7 (B).length] I1_ZA9 ?_
  exact ih (by omega) B a1 (by omega) h4
theorem c_braces {ts : List Tk} (hts : ts.length ≤ 4194304) (f : Nat) (hL : LiC ts f) : BrC ts (f + 1) := by
  intro a o ho r h
  rw [stM] at h
  refine XC.enter 11 Tryz.func217 rfl (by decide) rfl rfl (s := [(0, .pt 0 0)]) (by rfl) ?_
  refine wG True.intro True.intro ?_
  rcases rb_some h with ⟨b1, e1, h1, rfl⟩ | ⟨_, a1, o1, h1, h⟩
  · exact PA.callP [0] ((c_begin ts a o [123] hts _ h1).fails) True.intro I1_ZA9 N1_ZA9 (fun _ => PFin.i rfl rfl)
  refine AR.callSP [0] (((c_begin ts a o [123] hts _ h1).good)) True.intro I1_ZA9 N1_ZA9 ?_
  refine goG True.intro True.intro ?_
  obtain ⟨_, ho1, rfl, rfl⟩ := begM_ok h1
  clear h1
  refine wG True.intro True.intro ?_
  rcases rb_some h with ⟨b1, e1, h1, rfl⟩ | ⟨l, a2, o2, h1, h⟩
  · exact PA.callP [0] ((hL (a + 1) (o + 1) (by omega) _ h1).fails) True.intro I1_ZA9 N1_ZA9 (fun _ => PFin.i rfl rfl)
  refine AR.callSP [0] (((hL (a + 1) (o + 1) (by omega) _ h1).good)) True.intro I1_ZA9 N1_ZA9 ?_
  refine goG True.intro True.intro ?_
  obtain ⟨rfl, _, _⟩ := (stM_open ts f).2.1 _ _ _ _ _ _ h1
  clear h1
  refine wG True.intro True.intro ?_
  rcases rb_some h with ⟨b1, e1, h1, rfl⟩ | ⟨_, a3, o3, h1, h⟩
  · exact PA.callP [0] ((c_end ts a2 (o + 1) [125] hts (by omega) (by omega) _ h1).fails) True.intro I1_ZA9 N1_ZA9 (fun _ => PFin.i rfl rfl)
  refine AR.callSP [0] (((c_end ts a2 (o + 1) [125] hts (by omega) (by omega) _ h1).good)) True.intro I1_ZA9 N1_ZA9 ?_
  refine goG True.intro True.intro ?_
  cases h
  refine wG True.intro True.intro ?_
  refine Fin.gen (rs := [.tmp 2]) rfl (by first | exact .inl rfl | exact .inr rfl) (finG True.intro) ?_ rfl (idG I1_ZA9)
  all_goals exact wkG I1_ZA9
theorem Y218_ZA9 : type_of% (AI @F_ag_3 (AI @F_ag_43 (AI @F_al_122 (AI @F_al_35 (AI @F_by_35 (AI @F_el_163 (AI @F_fl_122_0 (AI @F_fl_122_2 (AI @F_fl_133_1 (AI @F_in_145 (AI @F_in_3 (AI @F_in_43 (AI @F_sz_122 (AI @F_sz_3 (AI @F_sz_35 (AI @F_sz_43 (AI @F_un_145 (AI @F_un_3 (@F_un_43))))))))))))))))))) := AI @F_ag_3 (AI @F_ag_43 (AI @F_al_122 (AI @F_al_35 (AI @F_by_35 (AI @F_el_163 (AI @F_fl_122_0 (AI @F_fl_122_2 (AI @F_fl_133_1 (AI @F_in_145 (AI @F_in_3 (AI @F_in_43 (AI @F_sz_122 (AI @F_sz_3 (AI @F_sz_35 (AI @F_sz_43 (AI @F_un_145 (AI @F_un_3 (@F_un_43))))))))))))))))))
set_option maxHeartbeats 4000000 in
theorem c_cases {ts : List Tk} (hts : ts.length ≤ 4194304) (hok : ∀ t ∈ ts, TkOk t) (F : Nat) (hB : ∀ f, f < F → BrC ts f) : CaC ts F := by
  intro a0 o ho r h
  refine XC.enter 40 Tryz.func218 rfl (by decide) rfl rfl (s := [(0, .pt 0 0)]) (by rfl) ?_
  refine wG Y218_ZA9 True.intro ?_
  rcases rb_some h with ⟨b1, e1, h1, rfl⟩ | ⟨_, a1, o1, h1, h⟩
  · exact PA.callP [0] ((c_begin ts a0 o [123] hts _ h1).fails) True.intro I1_ZA9 N1_ZA9 (fun _ => PFin.i rfl rfl)
  refine AR.callSP [0] (((c_begin ts a0 o [123] hts _ h1).good)) True.intro I1_ZA9 N1_ZA9 ?_
  refine goG Y218_ZA9 True.intro ?_
  obtain ⟨_, ho1, rfl, rfl⟩ := begM_ok h1
  clear h1
  refine wG Y218_ZA9 True.intro ?_
  refine AWp.loop ?_
  refine ALp.ghost 3 [] .nl 35 1 ?_
  suffices H : ∀ (f : Nat), f ≤ F → ∀ (l : List (List Nd)) (a : Nat), l.length ≤ a → stM ts f (.ca l) a (o + 1) = some r → ALp _ _ _ _ _ ⟨dn 40 [(0, .pt 0 0), (3, .sl ((l).map nlV) (.own 1))], ofl [.box [.sl (ts.map tkV) .ro, (.im (.int .i64 ((a : Nat)))), (.im (.int .i64 ((o + 1 : Nat))))], .tip 35 1 (l).length]⟩ by
    refine ALp.cutP 2 [(0, .pt 0 0), (3, .sl ((([] : List (List Nd))).map nlV) (.own 1))] [.box [.sl (ts.map tkV) .ro, (.im (.int .i64 ((a0 + 1 : Nat)))), (.im (.int .i64 ((o + 1 : Nat))))], .tip 35 1 (([] : List (List Nd))).length] I1_ZA9 ?_; exact H F (Nat.le_refl _) [] (a0 + 1) (Nat.zero_le _) h
  clear h
  intro f
  induction f with
  | zero => intro _ l a _ h; cases h
  | succ f ih =>
  intro hf l a hla h
  rw [stM] at h
  have hq := c_accept ts a (o + 1) [99, 97, 115, 101] hts
  refine ALp.round ?_
  rcases ite_or h with ⟨hk, h⟩ | ⟨hk, h⟩
  case inr =>
    rw [if_neg hk] at hq; rw [Bool.not_eq_true] at hk; rw [hk] at hq; refine wG Y218_ZA9 True.intro ?_; refine AR.callSP [0] hq True.intro I1_ZA9 N1_ZA9 ?_; refine goG Y218_ZA9 True.intro ?_; refine wG Y218_ZA9 True.intro ?_; rcases rb_some h with ⟨b1, e1, h1, rfl⟩ | ⟨_, a3, o3, h1, h⟩
    · exact PA.callP [0] ((c_end ts a (o + 1) [125] hts (by omega) (by omega) _ h1).fails) True.intro I1_ZA9 N1_ZA9 (fun _ => PFin.i rfl rfl)
    refine AR.callSP [0] (((c_end ts a (o + 1) [125] hts (by omega) (by omega) _ h1).good)) True.intro I1_ZA9 N1_ZA9 ?_
    refine goG Y218_ZA9 True.intro ?_; cases h
    refine wG Y218_ZA9 True.intro ?_; refine Fin.gen (rs := [.tmp 2]) rfl (by first | exact .inl rfl | exact .inr rfl) (finG Y218_ZA9) ?_ rfl (idG I1_ZA9)
    show WkF _ _ _ (.sl (l.map nlV) .ro)
    all_goals exact wkG I1_ZA9
  have hlt := sees_lt hk
  rw [if_pos hk, hk] at hq
  have hp := c_peek ts (a + 1) (o + 1)
  have hf := c_fail ts (a + 1) (o + 1) 3
  have hn := pk_ok hok (a + 1)
  have hkl := fun hh => pk_kind (ts := ts) (a := a + 1) (k := 3) hh (by decide)
  generalize pk ts (a + 1) = t at hp hn h hkl
  refine wG Y218_ZA9 True.intro ?_
  refine AR.callSP [0] hq True.intro I1_ZA9 N1_ZA9 ?_
  refine goG Y218_ZA9 True.intro ?_
  refine wG Y218_ZA9 True.intro ?_
  refine AR.callSP [0] hp True.intro I1_ZA9 N1_ZA9 ?_
  refine goG Y218_ZA9 TKT ?_
  have hw1 : IntKind.u64.wrap t.n = t.n := wrap_u64 (by omega)
  have hw2 : IntKind.u64.wrap (l.length : Int) = (l.length : Int) := wrap_u64 (by omega)
  by_cases k3 : t.kind = 3
  case neg =>
    rw [if_neg (fun hh => k3 hh.1)] at h
    cases h
    refine wG Y218_ZA9 (AI TKT (AI k3 (AI hw1 (AI hw2 @List.length_map.{0, 0})))) ?_; exact PA.callP [0] hf True.intro I1_ZA9 N1_ZA9 (fun _ => PFin.i rfl rfl)
  by_cases kn : t.n = l.length
  case neg =>
    rw [if_neg (fun hh => kn hh.2)] at h
    cases h
    refine wG Y218_ZA9 (AI TKT (AI k3 (AI kn (AI hw1 (AI hw2 @List.length_map.{0, 0}))))) ?_; exact PA.callP [0] hf True.intro I1_ZA9 N1_ZA9 (fun _ => PFin.i rfl rfl)
  rw [if_pos ⟨k3, kn⟩] at h
  have hlt2 := hkl k3
  have hw := wrap_succ (m := a + 1) (N := 4194304) (by omega) (by decide)
  refine wG Y218_ZA9 (AI TKT (AI k3 (AI kn (AI hw1 (AI hw2 (AI hw @List.length_map.{0, 0})))))) ?_
  rcases rb_some h with ⟨b1, e1, h1, rfl⟩ | ⟨x, a1, o1, h1, hk2⟩
  · exact PA.callP [0] ((hB f (by omega) (a + 2) (o + 1) (by omega) _ h1).fails) True.intro I1_ZA9 N1_ZA9 (fun _ => PFin.i rfl rfl)
  obtain ⟨hoe, hlt3, hle⟩ := (stM_open ts f).2.2.1 _ _ _ _ _ h1
  have hc := (hB f (by omega) (a + 2) (o + 1) (by omega) _ h1).good
  change DC _ _ _ _ (nlV (x.headD [])) _ at hc
  subst hoe
  generalize x.headD [] = s at hc hk2
  obtain ⟨B, hB⟩ : ∃ B, B = l ++ [s] := ⟨_, rfl⟩
  have hAs : l.map nlV ++ [nlV s] = B.map nlV := by rw [hB, List.map_append]; rfl
  have hAl : l.length + 1 = B.length := by rw [hB]; simp
  have hbl : B.length * 24 ≤ 140737488355328 := by omega
  have h4 : stM ts f (.ca B) a1 (o + 1) = some r := by rw [hB]; exact hk2
  refine AR.callSP [0] hc True.intro I1_ZA9 N1_ZA9 ?_
  refine goG Y218_ZA9 (AI ND (AI hAs (AI hAl (AI hbl (AI nl_allP @List.length_map.{0, 0}))))) ?_
  refine wG Y218_ZA9 (AI ND (AI hAs (AI hAl (AI hbl (AI nl_allP @List.length_map.{0, 0}))))) ?_
  refine ALp.cutP 2 [(0, .pt 0 0), (3, .sl ((B).map nlV) (.own 1))] [.box [.sl (ts.map tkV) .ro, (.im (.int .i64 ((a1 : Nat)))), (.im (.int .i64 ((o + 1 : Nat))))], .tip 35 1 (B).length] I1_ZA9 ?_
  exact ih (by omega) B a1 (by omega) h4
theorem rb_assoc {α β γ : Type} (r : Option (Rs α)) (k : α → Nat → Nat → Option (Rs β)) (k2 : β → Nat → Nat → Option (Rs γ)) : rb (rb r k) k2 = rb r fun x a o => rb (k x a o) k2 := by
  match r with
  | none => rfl
  | some (.bad a e) => rfl
  | some (.ok x a o) => rfl
theorem stV_eq (x : List (List Nd)) : stV x = .ag [.im (.int .i64 (theS x).kind), .im (.int .i64 (theS x).width), .im (.string (theS x).name), .sl ((theS x).e.map exV) .ro, .sl ((theS x).l.map ndV) .ro, .sl ((theS x).el.map ndV) .ro, .sl ((theS x).cs.map nlV) .ro] := ndV_eq _
theorem nl_get (l : List (List Nd)) : liV l = .sl ((l.headD []).map ndV) .ro := rfl
theorem Y168_ZAA : type_of% (AI @F_ag_163 (AI @F_ag_165 (AI @F_ag_3 (AI @F_ag_35 (AI @F_al_165 (AI @F_al_46 (AI @F_el_44 (AI @F_fl_122_0 (AI @F_fl_165_4 (AI @F_fl_165_5 (AI @F_fl_165_6 (AI @F_st_165 (AI @F_sz_163 (AI @F_sz_165 (AI @F_sz_3 (AI @F_sz_35 (@F_sz_46))))))))))))))))) := AI @F_ag_163 (AI @F_ag_165 (AI @F_ag_3 (AI @F_ag_35 (AI @F_al_165 (AI @F_al_46 (AI @F_el_44 (AI @F_fl_122_0 (AI @F_fl_165_4 (AI @F_fl_165_5 (AI @F_fl_165_6 (AI @F_st_165 (AI @F_sz_163 (AI @F_sz_165 (AI @F_sz_3 (AI @F_sz_35 (@F_sz_46))))))))))))))))
theorem I1_ZAA : type_of% (AI tkV_id (AI tkL_id (AI (@exV_id) (AI (@exL_id) (AI ndV_id (AI ndLs_id (AI nlV_id (AI nlVs_id (AI liV_id (AI stV_id caV_id)))))))))) := (AI tkV_id (AI tkL_id (AI (@exV_id) (AI (@exL_id) (AI ndV_id (AI ndLs_id (AI nlV_id (AI nlVs_id (AI liV_id (AI stV_id caV_id))))))))))
theorem N1_ZAA : type_of% (AI tkV_ren (AI tkL_ren (AI (@exV_ren) (AI (@exL_ren) (AI ndV_ren (AI ndLs_ren (AI nlVs_ren (AI nlV_ren (AI liV_ren (AI stV_ren caV_ren)))))))))) := (AI tkV_ren (AI tkL_ren (AI (@exV_ren) (AI (@exL_ren) (AI ndV_ren (AI ndLs_ren (AI nlVs_ren (AI nlV_ren (AI liV_ren (AI stV_ren caV_ren))))))))))
set_option maxHeartbeats 8000000 in
theorem c_stmtP {ts : List Tk} {f : Nat} (hts : ts.length ≤ 4194304) (hB : BrC ts f) (hC : CaC ts f) : StC ts (f + 1) := by
  intro a o ho r h
  have hp := c_peek ts a o
  have hf := c_fail ts a o 3
  rw [stM] at h
  refine XC.enter 126 Tryz.func168 rfl (by decide) rfl rfl (s := [(0, .pt 0 0)]) (by rfl) ?_
  refine wG Y168_ZAA True.intro ?_
  rcases ite_or h with ⟨hk, h⟩ | ⟨hk, h⟩
  · have hc := c_namedP hts a o ho r h
    generalize pk ts a = t at hp hk; refine AR.callSP [0] hp True.intro I1_ZAA N1_ZAA ?_; refine goG Y168_ZAA (AI TKT hk) ?_; refine wG Y168_ZAA (AI TKT hk) ?_; cases r with
    | bad b e1 =>
      exact PA.callP [0] hc.fails True.intro I1_ZAA N1_ZAA (fun _ => PFin.i rfl rfl)
    | ok x b p =>
      refine AR.callSP [0] hc.good True.intro I1_ZAA N1_ZAA ?_; refine goG Y168_ZAA LIT ?_; refine wG Y168_ZAA LIT ?_; refine Fin.gen (rs := [.cell 2 165]) rfl (by first | exact .inl rfl | exact .inr rfl) (finG Y168_ZAA) ?_ rfl (idG I1_ZAA)
      rw [stV_eq x]
      all_goals exact wkG I1_ZAA
  generalize pk ts a = t at hp hk
  refine AR.callSP [0] hp True.intro I1_ZAA N1_ZAA ?_
  refine goG Y168_ZAA (AI TKT hk) ?_
  refine wG Y168_ZAA (AI TKT hk) ?_
  clear hk hp
  have hq := c_accept ts a o [103, 111, 116, 111] hts
  rcases ite_or h with ⟨hk, h⟩ | ⟨hk, h⟩
  · rw [if_pos hk, hk] at hq
    refine AR.callSP [0] hq True.intro I1_ZAA N1_ZAA ?_; refine goG Y168_ZAA True.intro ?_; refine wG Y168_ZAA True.intro ?_; rcases rb_some h with ⟨b1, e1, h1, rfl⟩ | ⟨nm, a1, o1, h1, h⟩
    · exact PA.callP [0] ((c_nameP ts (a + 1) o hts _ h1).fails) True.intro I1_ZAA N1_ZAA (fun _ => PFin.i rfl rfl)
    refine AR.callSP [0] (((c_nameP ts (a + 1) o hts _ h1).good)) True.intro I1_ZAA N1_ZAA ?_; refine goG Y168_ZAA True.intro ?_; obtain ⟨_, rfl, hoe, hlt⟩ := nmM_ok h1; subst o1; clear h1; refine wG Y168_ZAA True.intro ?_; rcases rb_some h with ⟨b1, e1, h1, rfl⟩ | ⟨_, a2, o2, h1, h⟩
    · exact PA.callP [0] ((c_expect ts (a + 1 + 1) o [59] hts _ h1).fails) True.intro I1_ZAA N1_ZAA (fun _ => PFin.i rfl rfl)
    refine AR.callSP [0] (((c_expect ts (a + 1 + 1) o [59] hts _ h1).good)) True.intro I1_ZAA N1_ZAA ?_; refine goG Y168_ZAA True.intro ?_; cases h
    refine wG Y168_ZAA True.intro ?_; refine Fin.gen (rs := [.cell 2 165]) rfl (by first | exact .inl rfl | exact .inr rfl) (finG Y168_ZAA) ?_ rfl (idG I1_ZAA)
    simp only [stV_one, ndV_mk, List.map_nil]
    all_goals exact wkG I1_ZAA
  rw [if_neg hk] at hq
  rw [Bool.not_eq_true] at hk
  rw [hk] at hq
  refine AR.callSP [0] hq True.intro I1_ZAA N1_ZAA ?_
  refine goG Y168_ZAA True.intro ?_
  refine wG Y168_ZAA True.intro ?_
  clear hk hq
  have hq := c_accept ts a o [99, 97, 108, 108] hts
  rcases ite_or h with ⟨hk, h⟩ | ⟨hk, h⟩
  · rw [if_pos hk, hk] at hq
    refine AR.callSP [0] hq True.intro I1_ZAA N1_ZAA ?_; refine goG Y168_ZAA True.intro ?_; refine wG Y168_ZAA True.intro ?_; rcases rb_some h with ⟨b1, e1, h1, rfl⟩ | ⟨nm, a1, o1, h1, h⟩
    · exact PA.callP [0] ((c_nameP ts (a + 1) o hts _ h1).fails) True.intro I1_ZAA N1_ZAA (fun _ => PFin.i rfl rfl)
    refine AR.callSP [0] (((c_nameP ts (a + 1) o hts _ h1).good)) True.intro I1_ZAA N1_ZAA ?_; refine goG Y168_ZAA True.intro ?_; obtain ⟨_, rfl, hoe, hlt⟩ := nmM_ok h1; subst o1; clear h1; refine wG Y168_ZAA True.intro ?_; rcases rb_some h with ⟨b1, e1, h1, rfl⟩ | ⟨_, a2, o2, h1, h⟩
    · exact PA.callP [0] ((c_expect ts (a + 1 + 1) o [59] hts _ h1).fails) True.intro I1_ZAA N1_ZAA (fun _ => PFin.i rfl rfl)
    refine AR.callSP [0] (((c_expect ts (a + 1 + 1) o [59] hts _ h1).good)) True.intro I1_ZAA N1_ZAA ?_; refine goG Y168_ZAA True.intro ?_; cases h
    refine wG Y168_ZAA True.intro ?_; refine Fin.gen (rs := [.cell 2 165]) rfl (by first | exact .inl rfl | exact .inr rfl) (finG Y168_ZAA) ?_ rfl (idG I1_ZAA)
    simp only [stV_one, ndV_mk, List.map_nil]
    all_goals exact wkG I1_ZAA
  rw [if_neg hk] at hq
  rw [Bool.not_eq_true] at hk
  rw [hk] at hq
  refine AR.callSP [0] hq True.intro I1_ZAA N1_ZAA ?_
  refine goG Y168_ZAA True.intro ?_
  refine wG Y168_ZAA True.intro ?_
  clear hk hq
  have hq := c_accept ts a o [115, 116, 111, 114, 101, 49] hts
  rcases ite_or h with ⟨hk, h⟩ | ⟨hk, h⟩
  · rw [if_pos hk, hk] at hq
    refine AR.callSP [0] hq True.intro I1_ZAA N1_ZAA ?_; refine goG Y168_ZAA True.intro ?_; refine wG Y168_ZAA True.intro ?_; have hc := c_store hts 1 (a + 1) o ho r h; cases r with
    | bad b e1 =>
      exact PA.callP [0] hc.fails True.intro I1_ZAA N1_ZAA (fun _ => PFin.i rfl rfl)
    | ok x b p =>
      refine AR.callSP [0] hc.good True.intro I1_ZAA N1_ZAA ?_; refine goG Y168_ZAA LIT ?_; refine wG Y168_ZAA LIT ?_; refine Fin.gen (rs := [.cell 2 165]) rfl (by first | exact .inl rfl | exact .inr rfl) (finG Y168_ZAA) ?_ rfl (idG I1_ZAA)
      rw [stV_eq x]
      all_goals exact wkG I1_ZAA
  rw [if_neg hk] at hq
  rw [Bool.not_eq_true] at hk
  rw [hk] at hq
  refine AR.callSP [0] hq True.intro I1_ZAA N1_ZAA ?_
  refine goG Y168_ZAA True.intro ?_
  refine wG Y168_ZAA True.intro ?_
  clear hk hq
  have hq := c_accept ts a o [115, 116, 111, 114, 101, 50] hts
  rcases ite_or h with ⟨hk, h⟩ | ⟨hk, h⟩
  · rw [if_pos hk, hk] at hq
    refine AR.callSP [0] hq True.intro I1_ZAA N1_ZAA ?_; refine goG Y168_ZAA True.intro ?_; refine wG Y168_ZAA True.intro ?_; have hc := c_store hts 2 (a + 1) o ho r h; cases r with
    | bad b e1 =>
      exact PA.callP [0] hc.fails True.intro I1_ZAA N1_ZAA (fun _ => PFin.i rfl rfl)
    | ok x b p =>
      refine AR.callSP [0] hc.good True.intro I1_ZAA N1_ZAA ?_; refine goG Y168_ZAA LIT ?_; refine wG Y168_ZAA LIT ?_; refine Fin.gen (rs := [.cell 2 165]) rfl (by first | exact .inl rfl | exact .inr rfl) (finG Y168_ZAA) ?_ rfl (idG I1_ZAA)
      rw [stV_eq x]
      all_goals exact wkG I1_ZAA
  rw [if_neg hk] at hq
  rw [Bool.not_eq_true] at hk
  rw [hk] at hq
  refine AR.callSP [0] hq True.intro I1_ZAA N1_ZAA ?_
  refine goG Y168_ZAA True.intro ?_
  refine wG Y168_ZAA True.intro ?_
  clear hk hq
  have hq := c_accept ts a o [115, 116, 111, 114, 101, 52] hts
  rcases ite_or h with ⟨hk, h⟩ | ⟨hk, h⟩
  · rw [if_pos hk, hk] at hq
    refine AR.callSP [0] hq True.intro I1_ZAA N1_ZAA ?_; refine goG Y168_ZAA True.intro ?_; refine wG Y168_ZAA True.intro ?_; have hc := c_store hts 4 (a + 1) o ho r h; cases r with
    | bad b e1 =>
      exact PA.callP [0] hc.fails True.intro I1_ZAA N1_ZAA (fun _ => PFin.i rfl rfl)
    | ok x b p =>
      refine AR.callSP [0] hc.good True.intro I1_ZAA N1_ZAA ?_; refine goG Y168_ZAA LIT ?_; refine wG Y168_ZAA LIT ?_; refine Fin.gen (rs := [.cell 2 165]) rfl (by first | exact .inl rfl | exact .inr rfl) (finG Y168_ZAA) ?_ rfl (idG I1_ZAA)
      rw [stV_eq x]
      all_goals exact wkG I1_ZAA
  rw [if_neg hk] at hq
  rw [Bool.not_eq_true] at hk
  rw [hk] at hq
  refine AR.callSP [0] hq True.intro I1_ZAA N1_ZAA ?_
  refine goG Y168_ZAA True.intro ?_
  refine wG Y168_ZAA True.intro ?_
  clear hk hq
  have hq := c_accept ts a o [111, 117, 116] hts
  rcases ite_or h with ⟨hk, h⟩ | ⟨hk, h⟩
  · rw [if_pos hk, hk] at hq
    refine AR.callSP [0] hq True.intro I1_ZAA N1_ZAA ?_; refine goG Y168_ZAA True.intro ?_; refine wG Y168_ZAA True.intro ?_; rcases rb_some h with ⟨b1, e1, h1, rfl⟩ | ⟨x, a1, o1, h1, h⟩
    · exact PA.callP [0] ((c_ex hts f 1 (a + 1) o (by decide) ho _ h1).fails) i1 I1_ZAA N1_ZAA (fun _ => PFin.i rfl rfl)
    refine AR.callSP [0] (((c_ex hts f 1 (a + 1) o (by decide) ho _ h1).good)) i1 I1_ZAA N1_ZAA ?_
    refine goG Y168_ZAA BN02 ?_; obtain ⟨hoe, _⟩ := exM_open ts _ _ _ _ _ _ _ h1; subst o1; clear h1; refine wG Y168_ZAA BN02 ?_; rcases rb_some h with ⟨b1, e1, h1, rfl⟩ | ⟨_, a2, o2, h1, h⟩
    · exact PA.callP [0] ((c_expect ts a1 o [59] hts _ h1).fails) True.intro I1_ZAA N1_ZAA (fun _ => PFin.i rfl rfl)
    refine AR.callSP [0] (((c_expect ts a1 o [59] hts _ h1).good)) True.intro I1_ZAA N1_ZAA ?_; refine goG Y168_ZAA True.intro ?_; cases h
    refine wG Y168_ZAA BN02 ?_; refine Fin.gen (rs := [.cell 2 165]) rfl (by first | exact .inl rfl | exact .inr rfl) (finG Y168_ZAA) ?_ rfl (idG I1_ZAA)
    simp only [stV_one, ndV_mk, List.map_nil, List.map_cons]; rw [exV_eq x]
    all_goals exact wkG I1_ZAA
  rw [if_neg hk] at hq
  rw [Bool.not_eq_true] at hk
  rw [hk] at hq
  refine AR.callSP [0] hq True.intro I1_ZAA N1_ZAA ?_
  refine goG Y168_ZAA True.intro ?_
  refine wG Y168_ZAA True.intro ?_
  clear hk hq
  have hq := c_accept ts a o [105, 102] hts
  rcases ite_or h with ⟨hk, h⟩ | ⟨hk, h⟩
  · rw [if_pos hk, hk] at hq
    refine AR.callSP [0] hq True.intro I1_ZAA N1_ZAA ?_; refine goG Y168_ZAA True.intro ?_; refine wG Y168_ZAA True.intro ?_; rcases rb_some h with ⟨b1, e1, h1, rfl⟩ | ⟨x, a1, o1, h1, h⟩
    · exact PA.callP [0] ((c_ex hts f 1 (a + 1) o (by decide) ho _ h1).fails) i1 I1_ZAA N1_ZAA (fun _ => PFin.i rfl rfl)
    refine AR.callSP [0] (((c_ex hts f 1 (a + 1) o (by decide) ho _ h1).good)) i1 I1_ZAA N1_ZAA ?_
    refine goG Y168_ZAA BN02 ?_; obtain ⟨hoe, _⟩ := exM_open ts _ _ _ _ _ _ _ h1; subst o1; clear h1; refine wG Y168_ZAA BN02 ?_; rcases rb_some h with ⟨b1, e1, h1, rfl⟩ | ⟨l, a2, o2, h1, h⟩
    · exact PA.callP [0] ((hB a1 o ho _ h1).fails) True.intro I1_ZAA N1_ZAA (fun _ => PFin.i rfl rfl)
    refine AR.callSP [0] (((hB a1 o ho _ h1).good)) True.intro I1_ZAA N1_ZAA ?_; refine goG Y168_ZAA LIT ?_; obtain ⟨hoe, _, _⟩ := (stM_open ts f).2.2.1 _ _ _ _ _ h1; subst o2; clear h1; refine wG Y168_ZAA BN08 ?_; have hq := c_accept ts a2 o [101, 108, 115, 101] hts; rcases ite_or h with ⟨hk, h⟩ | ⟨hk, h⟩
    · rw [if_pos hk, hk] at hq
      refine AR.callSP [0] hq True.intro I1_ZAA N1_ZAA ?_; refine goG Y168_ZAA True.intro ?_; refine wG Y168_ZAA True.intro ?_; rcases rb_some h with ⟨b1, e1, h1, rfl⟩ | ⟨el, a3, o2, h1, h⟩
      · exact PA.callP [0] ((hB (a2 + 1) o ho _ h1).fails) True.intro I1_ZAA N1_ZAA (fun _ => PFin.i rfl rfl)
      refine AR.callSP [0] (((hB (a2 + 1) o ho _ h1).good)) True.intro I1_ZAA N1_ZAA ?_; refine goG Y168_ZAA LIT ?_; obtain ⟨hoe, _, _⟩ := (stM_open ts f).2.2.1 _ _ _ _ _ h1; subst o2; clear h1; refine wG Y168_ZAA BN08 ?_; cases h
      refine wG Y168_ZAA BN08 ?_; refine Fin.gen (rs := [.cell 2 165]) rfl (by first | exact .inl rfl | exact .inr rfl) (finG Y168_ZAA) ?_ rfl (idG I1_ZAA)
      simp only [stV_one, ndV_mk, List.map_nil, List.map_cons, nl_get]; rw [exV_eq x]
      all_goals exact wkG I1_ZAA
    rw [if_neg hk] at hq; rw [Bool.not_eq_true] at hk; rw [hk] at hq; refine AR.callSP [0] hq True.intro I1_ZAA N1_ZAA ?_; refine goG Y168_ZAA True.intro ?_; cases h
    refine wG Y168_ZAA BN08 ?_; refine Fin.gen (rs := [.cell 2 165]) rfl (by first | exact .inl rfl | exact .inr rfl) (finG Y168_ZAA) ?_ rfl (idG I1_ZAA)
    simp only [stV_one, ndV_mk, List.map_nil, List.map_cons, nl_get]; rw [exV_eq x]
    all_goals exact wkG I1_ZAA
  rw [if_neg hk] at hq
  rw [Bool.not_eq_true] at hk
  rw [hk] at hq
  refine AR.callSP [0] hq True.intro I1_ZAA N1_ZAA ?_
  refine goG Y168_ZAA True.intro ?_
  refine wG Y168_ZAA True.intro ?_
  clear hk hq
  have hq := c_accept ts a o [119, 104, 105, 108, 101] hts
  rcases ite_or h with ⟨hk, h⟩ | ⟨hk, h⟩
  · rw [if_pos hk, hk] at hq
    refine AR.callSP [0] hq True.intro I1_ZAA N1_ZAA ?_; refine goG Y168_ZAA True.intro ?_; refine wG Y168_ZAA True.intro ?_; rcases rb_some h with ⟨b1, e1, h1, rfl⟩ | ⟨x, a1, o1, h1, h⟩
    · exact PA.callP [0] ((c_ex hts f 1 (a + 1) o (by decide) ho _ h1).fails) i1 I1_ZAA N1_ZAA (fun _ => PFin.i rfl rfl)
    refine AR.callSP [0] (((c_ex hts f 1 (a + 1) o (by decide) ho _ h1).good)) i1 I1_ZAA N1_ZAA ?_
    refine goG Y168_ZAA BN02 ?_; obtain ⟨hoe, _⟩ := exM_open ts _ _ _ _ _ _ _ h1; subst o1; clear h1; refine wG Y168_ZAA BN02 ?_; rcases rb_some h with ⟨b1, e1, h1, rfl⟩ | ⟨l, a2, o2, h1, h⟩
    · exact PA.callP [0] ((hB a1 o ho _ h1).fails) True.intro I1_ZAA N1_ZAA (fun _ => PFin.i rfl rfl)
    refine AR.callSP [0] (((hB a1 o ho _ h1).good)) True.intro I1_ZAA N1_ZAA ?_; refine goG Y168_ZAA LIT ?_; obtain ⟨hoe, _, _⟩ := (stM_open ts f).2.2.1 _ _ _ _ _ h1; subst o2; clear h1; refine wG Y168_ZAA BN08 ?_; cases h
    refine Fin.gen (rs := [.cell 2 165]) rfl (by first | exact .inl rfl | exact .inr rfl) (finG Y168_ZAA) ?_ rfl (idG I1_ZAA)
    simp only [stV_one, ndV_mk, List.map_nil, List.map_cons, nl_get]; rw [exV_eq x]
    all_goals exact wkG I1_ZAA
  rw [if_neg hk] at hq
  rw [Bool.not_eq_true] at hk
  rw [hk] at hq
  refine AR.callSP [0] hq True.intro I1_ZAA N1_ZAA ?_
  refine goG Y168_ZAA True.intro ?_
  refine wG Y168_ZAA True.intro ?_
  clear hk hq
  have hq := c_accept ts a o [108, 111, 111, 112] hts
  rcases ite_or h with ⟨hk, h⟩ | ⟨hk, h⟩
  · rw [if_pos hk, hk] at hq
    refine AR.callSP [0] hq True.intro I1_ZAA N1_ZAA ?_; refine goG Y168_ZAA True.intro ?_; refine wG Y168_ZAA True.intro ?_; rcases rb_some h with ⟨b1, e1, h1, rfl⟩ | ⟨l, a2, o2, h1, h⟩
    · exact PA.callP [0] ((hB (a + 1) o ho _ h1).fails) True.intro I1_ZAA N1_ZAA (fun _ => PFin.i rfl rfl)
    refine AR.callSP [0] (((hB (a + 1) o ho _ h1).good)) True.intro I1_ZAA N1_ZAA ?_; refine goG Y168_ZAA LIT ?_; obtain ⟨hoe, _, _⟩ := (stM_open ts f).2.2.1 _ _ _ _ _ h1; subst o2; clear h1; refine wG Y168_ZAA BN08 ?_; cases h
    refine Fin.gen (rs := [.cell 2 165]) rfl (by first | exact .inl rfl | exact .inr rfl) (finG Y168_ZAA) ?_ rfl (idG I1_ZAA)
    simp only [stV_one, ndV_mk, List.map_nil, List.map_cons, nl_get]
    all_goals exact wkG I1_ZAA
  rw [if_neg hk] at hq
  rw [Bool.not_eq_true] at hk
  rw [hk] at hq
  refine AR.callSP [0] hq True.intro I1_ZAA N1_ZAA ?_
  refine goG Y168_ZAA True.intro ?_
  refine wG Y168_ZAA True.intro ?_
  clear hk hq
  have hq := c_accept ts a o [115, 119, 105, 116, 99, 104] hts
  rcases ite_or h with ⟨hk, h⟩ | ⟨hk, h⟩
  · rw [if_pos hk, hk] at hq
    refine AR.callSP [0] hq True.intro I1_ZAA N1_ZAA ?_; refine goG Y168_ZAA True.intro ?_; refine wG Y168_ZAA True.intro ?_; rcases rb_some h with ⟨b1, e1, h1, rfl⟩ | ⟨x, a1, o1, h1, h⟩
    · exact PA.callP [0] ((c_ex hts f 1 (a + 1) o (by decide) ho _ h1).fails) i1 I1_ZAA N1_ZAA (fun _ => PFin.i rfl rfl)
    refine AR.callSP [0] (((c_ex hts f 1 (a + 1) o (by decide) ho _ h1).good)) i1 I1_ZAA N1_ZAA ?_
    refine goG Y168_ZAA BN02 ?_; obtain ⟨hoe, _⟩ := exM_open ts _ _ _ _ _ _ _ h1; subst o1; clear h1; refine wG Y168_ZAA BN02 ?_; rw [← rb_assoc] at h; rcases rb_some h with ⟨b1, e1, h1, rfl⟩ | ⟨l, a2, o2, h1, h⟩
    · exact PA.callP [0] ((hC a1 o ho _ h1).fails) True.intro I1_ZAA N1_ZAA (fun _ => PFin.i rfl rfl)
    refine AR.callSP [0] (((hC a1 o ho _ h1).good)) True.intro I1_ZAA N1_ZAA ?_; refine goG Y168_ZAA LIT ?_; clear h1; refine wG Y168_ZAA BN08 ?_; cases h
    refine Fin.gen (rs := [.cell 2 165]) rfl (by first | exact .inl rfl | exact .inr rfl) (finG Y168_ZAA) ?_ rfl (idG I1_ZAA)
    simp only [stV_one, ndV_mk, List.map_nil, List.map_cons, caV]; rw [exV_eq x]
    all_goals exact wkG I1_ZAA
  rw [if_neg hk] at hq
  rw [Bool.not_eq_true] at hk
  rw [hk] at hq
  refine AR.callSP [0] hq True.intro I1_ZAA N1_ZAA ?_
  refine goG Y168_ZAA True.intro ?_
  refine wG Y168_ZAA True.intro ?_
  clear hk hq
  have hq := c_accept ts a o [98, 114, 101, 97, 107] hts
  rcases ite_or h with ⟨hk, h⟩ | ⟨hk, h⟩
  · rw [if_pos hk, hk] at hq
    refine AR.callSP [0] hq True.intro I1_ZAA N1_ZAA ?_; refine goG Y168_ZAA True.intro ?_; refine wG Y168_ZAA True.intro ?_; have hc := c_simpleP hts 10 (a + 1) o ho r h; cases r with
    | bad b e1 =>
      exact PA.callP [0] hc.fails True.intro I1_ZAA N1_ZAA (fun _ => PFin.i rfl rfl)
    | ok x b p =>
      refine AR.callSP [0] hc.good True.intro I1_ZAA N1_ZAA ?_; refine goG Y168_ZAA LIT ?_; refine wG Y168_ZAA LIT ?_; refine Fin.gen (rs := [.cell 2 165]) rfl (by first | exact .inl rfl | exact .inr rfl) (finG Y168_ZAA) ?_ rfl (idG I1_ZAA)
      rw [stV_eq x]
      all_goals exact wkG I1_ZAA
  rw [if_neg hk] at hq
  rw [Bool.not_eq_true] at hk
  rw [hk] at hq
  refine AR.callSP [0] hq True.intro I1_ZAA N1_ZAA ?_
  refine goG Y168_ZAA True.intro ?_
  refine wG Y168_ZAA True.intro ?_
  clear hk hq
  have hq := c_accept ts a o [99, 111, 110, 116, 105, 110, 117, 101] hts
  rcases ite_or h with ⟨hk, h⟩ | ⟨hk, h⟩
  · rw [if_pos hk, hk] at hq
    refine AR.callSP [0] hq True.intro I1_ZAA N1_ZAA ?_; refine goG Y168_ZAA True.intro ?_; refine wG Y168_ZAA True.intro ?_; have hc := c_simpleP hts 11 (a + 1) o ho r h; cases r with
    | bad b e1 =>
      exact PA.callP [0] hc.fails True.intro I1_ZAA N1_ZAA (fun _ => PFin.i rfl rfl)
    | ok x b p =>
      refine AR.callSP [0] hc.good True.intro I1_ZAA N1_ZAA ?_; refine goG Y168_ZAA LIT ?_; refine wG Y168_ZAA LIT ?_; refine Fin.gen (rs := [.cell 2 165]) rfl (by first | exact .inl rfl | exact .inr rfl) (finG Y168_ZAA) ?_ rfl (idG I1_ZAA)
      rw [stV_eq x]
      all_goals exact wkG I1_ZAA
  rw [if_neg hk] at hq
  rw [Bool.not_eq_true] at hk
  rw [hk] at hq
  refine AR.callSP [0] hq True.intro I1_ZAA N1_ZAA ?_
  refine goG Y168_ZAA True.intro ?_
  refine wG Y168_ZAA True.intro ?_
  clear hk hq
  have hq := c_accept ts a o [114, 101, 116, 117, 114, 110] hts
  rcases ite_or h with ⟨hk, h⟩ | ⟨hk, h⟩
  · rw [if_pos hk, hk] at hq
    refine AR.callSP [0] hq True.intro I1_ZAA N1_ZAA ?_; refine goG Y168_ZAA True.intro ?_; refine wG Y168_ZAA True.intro ?_; have hc := c_simpleP hts 14 (a + 1) o ho r h; cases r with
    | bad b e1 =>
      exact PA.callP [0] hc.fails True.intro I1_ZAA N1_ZAA (fun _ => PFin.i rfl rfl)
    | ok x b p =>
      refine AR.callSP [0] hc.good True.intro I1_ZAA N1_ZAA ?_; refine goG Y168_ZAA LIT ?_; refine wG Y168_ZAA LIT ?_; refine Fin.gen (rs := [.cell 2 165]) rfl (by first | exact .inl rfl | exact .inr rfl) (finG Y168_ZAA) ?_ rfl (idG I1_ZAA)
      rw [stV_eq x]
      all_goals exact wkG I1_ZAA
  rw [if_neg hk] at hq
  rw [Bool.not_eq_true] at hk
  rw [hk] at hq
  refine AR.callSP [0] hq True.intro I1_ZAA N1_ZAA ?_
  refine goG Y168_ZAA True.intro ?_
  refine wG Y168_ZAA True.intro ?_
  clear hk hq
  have hq := c_accept ts a o [104, 97, 108, 116] hts
  rcases ite_or h with ⟨hk, h⟩ | ⟨hk, h⟩
  · rw [if_pos hk, hk] at hq
    refine AR.callSP [0] hq True.intro I1_ZAA N1_ZAA ?_; refine goG Y168_ZAA True.intro ?_; refine wG Y168_ZAA True.intro ?_; have hc := c_simpleP hts 15 (a + 1) o ho r h; cases r with
    | bad b e1 =>
      exact PA.callP [0] hc.fails True.intro I1_ZAA N1_ZAA (fun _ => PFin.i rfl rfl)
    | ok x b p =>
      refine AR.callSP [0] hc.good True.intro I1_ZAA N1_ZAA ?_; refine goG Y168_ZAA LIT ?_; refine wG Y168_ZAA LIT ?_; refine Fin.gen (rs := [.cell 2 165]) rfl (by first | exact .inl rfl | exact .inr rfl) (finG Y168_ZAA) ?_ rfl (idG I1_ZAA)
      rw [stV_eq x]
      all_goals exact wkG I1_ZAA
  rw [if_neg hk] at hq
  rw [Bool.not_eq_true] at hk
  rw [hk] at hq
  refine AR.callSP [0] hq True.intro I1_ZAA N1_ZAA ?_
  refine goG Y168_ZAA True.intro ?_
  refine wG Y168_ZAA True.intro ?_
  clear hk hq
  cases h
  exact PA.callP [0] hf True.intro I1_ZAA N1_ZAA (fun _ => PFin.i rfl rfl)
theorem c_sts {ts : List Tk} (hts : ts.length ≤ 4194304) (hok : ∀ t ∈ ts, TkOk t) : ∀ F f, f ≤ F → StC ts f ∧ BrC ts f := by
  intro F
  induction F with
  | zero =>
    intro f hf; obtain rfl : f = 0 := by omega
    exact ⟨(fun a o _ r h => by cases h), (fun a o _ r h => by cases h)⟩
  | succ F ih =>
    intro f hf
    by_cases hle : f ≤ F
    · exact ih f hle
    obtain rfl : f = F + 1 := by omega
    exact ⟨c_stmtP hts (ih F (Nat.le_refl _)).2 (c_cases hts hok F fun f hf => (ih f (by omega)).2), c_braces hts F (c_list hts F fun f hf => (ih f (by omega)).1)⟩
theorem c_lst {ts : List Tk} (hts : ts.length ≤ 4194304) (hok : ∀ t ∈ ts, TkOk t) (F : Nat) : LiC ts F := c_list hts F fun f _ => (c_sts hts hok F f (by omega)).1
end Go.Proofs.YtmbmmckagcdapaaGreatDoor
