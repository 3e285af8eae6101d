import Derived.Test.YtmbmmckagcdapaaGreatDoorK10
import Derived.Test.YtmbmmckagcdapaaGreatDoorK27
import Derived.Test.YtmbmmckagcdapaaGreatDoorK21
import Derived.Test.YtmbmmckagcdapaaGreatDoorK11
import Derived.Test.YtmbmmckagcdapaaGreatDoorK12
import Derived.Test.YtmbmmckagcdapaaGreatDoorK02
import Derived.Test.YtmbmmckagcdapaaGreatDoorK32
set_option linter.unusedSimpArgs false
set_option linter.unusedVariables false
set_option linter.unnecessarySimpa false
namespace Go.Proofs.YtmbmmckagcdapaaGreatDoor
open Go.RowKit
theorem pk_len {ts : List Tk} (h : ∀ t ∈ ts, TkOk t) (a : Nat) : (pk ts a).text.length ≤ 4194304 := by
  by_cases hl : a < ts.length
  · exact (h _ (List.mem_of_getElem? (pk_lt hl))).2
  · rw [pk_ge (by omega)]; decide
theorem va_all (l : List Va) : allZ 6 (l.map vaV) = true := by
  unfold allZ
  rw [List.all_map]
  exact List.all_eq_true.2 fun x _ => rfl
theorem Y79_ZAB : type_of% (AI @F_ag_94 (AI @F_ag_96 (AI @F_al_96 (AI @F_fl_96_1 (AI @F_st_96 (AI @F_sz_94 (@F_sz_96))))))) := AI @F_ag_94 (AI @F_ag_96 (AI @F_al_96 (AI @F_fl_96_1 (AI @F_st_96 (AI @F_sz_94 (@F_sz_96))))))
theorem I1_ZAB : type_of% (AI tkV_id (AI tkL_id (AI (@tyV_id) (AI (@fdV_id) (AI (@tyL_id) (AI (@fdL_id) (AI (@vaV_id) (AI (@vaL_id) (AI ndV_id (AI ndLs_id (AI liV_id (AI by_id scV_id)))))))))))) := (AI tkV_id (AI tkL_id (AI (@tyV_id) (AI (@fdV_id) (AI (@tyL_id) (AI (@fdL_id) (AI (@vaV_id) (AI (@vaL_id) (AI ndV_id (AI ndLs_id (AI liV_id (AI by_id scV_id))))))))))))
theorem N1_ZAB : type_of% (AI tkV_ren (AI tkL_ren (AI (@tyV_ren) (AI (@fdV_ren) (AI (@tyL_ren) (AI (@fdL_ren) (AI (@vaV_ren) (AI (@vaL_ren) (AI ndV_ren (AI ndLs_ren (AI liV_ren (AI by_ren scV_ren)))))))))))) := (AI tkV_ren (AI tkL_ren (AI (@tyV_ren) (AI (@fdV_ren) (AI (@tyL_ren) (AI (@fdL_ren) (AI (@vaV_ren) (AI (@vaL_ren) (AI ndV_ren (AI ndLs_ren (AI liV_ren (AI by_ren scV_ren))))))))))))
theorem c_variable {ts : List Tk} {f : Nat} (hts : ts.length ≤ 4194304) (hok : ∀ t ∈ ts, TkOk t) (a o : Nat) (ho : o ≤ 256) (r : Rs Va) (h : varM ts f a o = some r) : XC Tryz.prog 79 [.pt 0 0] ts a o vaV r := by
  unfold varM at h
  refine XC.enter 17 Tryz.func79 rfl (by decide) rfl rfl (s := [(0, .pt 0 0)]) (by rfl) ?_
  refine wG Y79_ZAB True.intro ?_
  rcases rb_some h with ⟨b1, e1, h1, rfl⟩ | ⟨_, a1, o1, h1, h⟩
  · exact PA.callP [0] ((c_expect ts a o [118, 97, 114] hts _ h1).fails) True.intro I1_ZAB N1_ZAB (fun _ => PFin.i rfl rfl)
  refine AR.callSP [0] (((c_expect ts a o [118, 97, 114] hts _ h1).good)) True.intro I1_ZAB N1_ZAB ?_
  refine goG Y79_ZAB True.intro ?_
  obtain ⟨_, rfl, hoe⟩ := expM_ok h1
  subst o1
  clear h1
  refine wG Y79_ZAB True.intro ?_
  rcases rb_some h with ⟨b1, e1, h1, rfl⟩ | ⟨nm, a2, o2, h1, h⟩
  · exact PA.callP [0] ((c_nameP ts (a + 1) o hts _ h1).fails) True.intro I1_ZAB N1_ZAB (fun _ => PFin.i rfl rfl)
  refine AR.callSP [0] (((c_nameP ts (a + 1) o hts _ h1).good)) True.intro I1_ZAB N1_ZAB ?_
  refine goG Y79_ZAB True.intro ?_
  obtain ⟨_, rfl, hoe, hlt⟩ := nmM_ok h1
  subst o2
  clear h1
  refine wG Y79_ZAB True.intro ?_
  rcases rb_some h with ⟨b1, e1, h1, rfl⟩ | ⟨_, a3, o3, h1, h⟩
  · exact PA.callP [0] ((c_expect ts (a + 1 + 1) o [58] hts _ h1).fails) True.intro I1_ZAB N1_ZAB (fun _ => PFin.i rfl rfl)
  refine AR.callSP [0] (((c_expect ts (a + 1 + 1) o [58] hts _ h1).good)) True.intro I1_ZAB N1_ZAB ?_
  refine goG Y79_ZAB True.intro ?_
  obtain ⟨_, rfl, hoe⟩ := expM_ok h1
  subst o3
  clear h1
  refine wG Y79_ZAB True.intro ?_
  rcases rb_some h with ⟨b1, e1, h1, rfl⟩ | ⟨x, a4, o4, h1, h⟩
  · exact PA.callP [0] ((c_tys hts hok f f (Nat.le_refl _) (a + 1 + 1 + 1) o ho _ h1).fails) True.intro I1_ZAB N1_ZAB (fun _ => PFin.i rfl rfl)
  refine AR.callSP [0] (((c_tys hts hok f f (Nat.le_refl _) (a + 1 + 1 + 1) o ho _ h1).good)) True.intro I1_ZAB N1_ZAB ?_
  refine goG Y79_ZAB BN03 ?_
  obtain ⟨hoe, _, _⟩ := (tyM_open ts f).1 _ _ _ _ _ h1
  subst o4
  clear h1
  refine wG Y79_ZAB BN03 ?_
  rcases rb_some h with ⟨b1, e1, h1, rfl⟩ | ⟨_, a5, o5, h1, h⟩
  · exact PA.callP [0] ((c_expect ts a4 o [59] hts _ h1).fails) True.intro I1_ZAB N1_ZAB (fun _ => PFin.i rfl rfl)
  refine AR.callSP [0] (((c_expect ts a4 o [59] hts _ h1).good)) True.intro I1_ZAB N1_ZAB ?_
  refine goG Y79_ZAB True.intro ?_
  cases h
  refine wG Y79_ZAB BN03 ?_
  refine Fin.gen (rs := [.cell 2 96]) rfl (by first | exact .inl rfl | exact .inr rfl) (finG Y79_ZAB) ?_ rfl (idG I1_ZAB)
  rw [vaV_eq]
  all_goals exact wkG I1_ZAB
theorem Y80_ZAB : type_of% (AI @F_ag_4 (AI @F_ag_43 (AI @F_ag_69 (AI @F_ag_76 (AI @F_ag_9 (AI @F_al_76 (AI @F_el_69 (AI @F_fl_122_1 (AI @F_fl_122_2 (AI @F_fl_76_2 (AI @F_fl_76_3 (AI @F_fl_76_4 (AI @F_in_69 (AI @F_in_9 (AI @F_st_76 (AI @F_sz_4 (AI @F_sz_43 (AI @F_sz_69 (AI @F_sz_76 (AI @F_sz_9 (AI @F_un_5 (AI @F_un_69 (@F_un_9))))))))))))))))))))))) := AI @F_ag_4 (AI @F_ag_43 (AI @F_ag_69 (AI @F_ag_76 (AI @F_ag_9 (AI @F_al_76 (AI @F_el_69 (AI @F_fl_122_1 (AI @F_fl_122_2 (AI @F_fl_76_2 (AI @F_fl_76_3 (AI @F_fl_76_4 (AI @F_in_69 (AI @F_in_9 (AI @F_st_76 (AI @F_sz_4 (AI @F_sz_43 (AI @F_sz_69 (AI @F_sz_76 (AI @F_sz_9 (AI @F_un_5 (AI @F_un_69 (@F_un_9))))))))))))))))))))))
theorem c_datum {ts : List Tk} (hts : ts.length ≤ 4194304) (hok : ∀ t ∈ ts, TkOk t) (a o : Nat) (ho : o ≤ 256) (r : Rs Sec) (h : datM ts a o = some r) : XC Tryz.prog 80 [.pt 0 0] ts a o scV r := by
  unfold datM at h
  refine XC.enter 28 Tryz.func80 rfl (by decide) rfl rfl (s := [(0, .pt 0 0)]) (by rfl) ?_
  refine wG Y80_ZAB True.intro ?_
  rcases rb_some h with ⟨b1, e1, h1, rfl⟩ | ⟨_, a1, o1, h1, h⟩
  · exact PA.callP [0] ((c_expect ts a o [100, 97, 116, 97] hts _ h1).fails) True.intro I1_ZAB N1_ZAB (fun _ => PFin.i rfl rfl)
  refine AR.callSP [0] (((c_expect ts a o [100, 97, 116, 97] hts _ h1).good)) True.intro I1_ZAB N1_ZAB ?_
  refine goG Y80_ZAB True.intro ?_
  obtain ⟨_, rfl, hoe⟩ := expM_ok h1
  subst o1
  clear h1
  refine wG Y80_ZAB True.intro ?_
  rcases rb_some h with ⟨b1, e1, h1, rfl⟩ | ⟨nm, a2, o2, h1, h⟩
  · exact PA.callP [0] ((c_nameP ts (a + 1) o hts _ h1).fails) True.intro I1_ZAB N1_ZAB (fun _ => PFin.i rfl rfl)
  refine AR.callSP [0] (((c_nameP ts (a + 1) o hts _ h1).good)) True.intro I1_ZAB N1_ZAB ?_
  refine goG Y80_ZAB True.intro ?_
  obtain ⟨_, rfl, hoe, hlt⟩ := nmM_ok h1
  subst o2
  clear h1
  rcases rb_some h with ⟨b1, e1, h1, rfl⟩ | ⟨d, a3, o3, h1, h⟩
  · exact PA.callP [0] ((c_take ts (a + 1 + 1) o 3 (by decide) hts _ h1).fails) True.intro I1_ZAB N1_ZAB (fun _ => PFin.i rfl rfl)
  refine AR.callSP [0] (((c_take ts (a + 1 + 1) o 3 (by decide) hts _ h1).good)) True.intro I1_ZAB N1_ZAB ?_
  refine goG Y80_ZAB TKT ?_
  obtain ⟨_, _, rfl, hoe⟩ := takM_ok h1
  subst o3
  clear h1
  refine wG Y80_ZAB TKT ?_
  have hq := c_accept ts (a + 1 + 1 + 1) o [119, 114, 105, 116, 101] hts
  obtain ⟨w, a4, o4, h1, h⟩ : ∃ w a4 o4, accM ts [119, 114, 105, 116, 101] (a + 1 + 1 + 1) o = some (.ok w a4 o4) ∧ _ := by
    rcases rb_some h with ⟨b1, e1, h1, rfl⟩ | ⟨w, a4, o4, h1, h⟩
    · rcases ite_or h1 with ⟨_, h1⟩ | ⟨_, h1⟩ <;> cases h1
    · exact ⟨w, a4, o4, h1, h⟩
  obtain ⟨hoe, hle, hw, ha4⟩ := accM_ok h1
  rw [← ha4, ← hw] at hq
  subst o4
  clear h1 hw ha4
  refine AR.callSP [0] hq True.intro I1_ZAB N1_ZAB ?_
  refine goG Y80_ZAB True.intro ?_
  refine wG Y80_ZAB True.intro ?_
  clear hq
  have hq := c_accept ts a4 o [101, 120, 101, 99] hts
  obtain ⟨xe, a5, o5, h1, h⟩ : ∃ w a5 o5, accM ts [101, 120, 101, 99] a4 o = some (.ok w a5 o5) ∧ _ := by
    rcases rb_some h with ⟨b1, e1, h1, rfl⟩ | ⟨w, a5, o5, h1, h⟩
    · rcases ite_or h1 with ⟨_, h1⟩ | ⟨_, h1⟩ <;> cases h1
    · exact ⟨w, a5, o5, h1, h⟩
  obtain ⟨hoe, hle2, hw, ha5⟩ := accM_ok h1
  rw [← ha5, ← hw] at hq
  subst o5
  clear h1 hw ha5
  refine AR.callSP [0] hq True.intro I1_ZAB N1_ZAB ?_
  refine goG Y80_ZAB True.intro ?_
  refine wG Y80_ZAB True.intro ?_
  clear hq
  rcases rb_some h with ⟨b1, e1, h1, rfl⟩ | ⟨_, a6, o6, h1, h⟩
  · exact PA.callP [0] ((c_expect ts a5 o [61] hts _ h1).fails) True.intro I1_ZAB N1_ZAB (fun _ => PFin.i rfl rfl)
  refine AR.callSP [0] (((c_expect ts a5 o [61] hts _ h1).good)) True.intro I1_ZAB N1_ZAB ?_
  refine goG Y80_ZAB True.intro ?_
  obtain ⟨_, rfl, hoe⟩ := expM_ok h1
  subst o6
  clear h1
  refine wG Y80_ZAB True.intro ?_
  have hpk := pk_len hok (a5 + 1)
  rcases rb_some h with ⟨b1, e1, h1, rfl⟩ | ⟨t, a7, o7, h1, h⟩
  · exact PA.callP [0] ((c_take ts (a5 + 1) o 4 (by decide) hts _ h1).fails) True.intro I1_ZAB N1_ZAB (fun _ => PFin.i rfl rfl)
  obtain ⟨_, ht, ha7, hoe⟩ := takM_ok h1
  rw [← ht] at hpk
  have hsz : (ByteArray.mk t.text.toArray).size ≤ 140737488355328 := by show t.text.toArray.size ≤ _; rw [List.size_toArray]; omega
  have hbv : byV (ByteArray.mk t.text.toArray) = t.text.map fun b => V.im (.int .u8 b.toNat) := rfl
  refine AR.callSP [0] ((c_take ts (a5 + 1) o 4 (by decide) hts _ h1).good) True.intro I1_ZAB N1_ZAB ?_
  refine goG Y80_ZAB (AI TKT (AI hsz hbv)) ?_
  subst ha7
  subst o7
  clear h1
  refine wG Y80_ZAB TKT ?_
  rcases rb_some h with ⟨b1, e1, h1, rfl⟩ | ⟨_, a8, o8, h1, h⟩
  · exact PA.callP [0] ((c_expect ts (a5 + 1 + 1) o [59] hts _ h1).fails) True.intro I1_ZAB N1_ZAB (fun _ => PFin.i rfl rfl)
  refine AR.callSP [0] (((c_expect ts (a5 + 1 + 1) o [59] hts _ h1).good)) True.intro I1_ZAB N1_ZAB ?_
  refine goG Y80_ZAB True.intro ?_
  cases h
  refine wG Y80_ZAB True.intro ?_
  refine Fin.gen (rs := [.cell 2 76]) rfl (by first | exact .inl rfl | exact .inr rfl) (finG Y80_ZAB) ?_ rfl (idG I1_ZAB)
  rw [scV_eq]
  all_goals exact wkG I1_ZAB
theorem Y52_ZAB : type_of% (AI @F_ag_23 (AI @F_ag_35 (AI @F_ag_37 (AI @F_al_37 (AI @F_al_96 (AI @F_by_96 (AI @F_el_23 (AI @F_fl_37_1 (AI @F_fl_37_2 (AI @F_st_37 (AI @F_sz_23 (AI @F_sz_35 (AI @F_sz_37 (@F_sz_96)))))))))))))) := AI @F_ag_23 (AI @F_ag_35 (AI @F_ag_37 (AI @F_al_37 (AI @F_al_96 (AI @F_by_96 (AI @F_el_23 (AI @F_fl_37_1 (AI @F_fl_37_2 (AI @F_st_37 (AI @F_sz_23 (AI @F_sz_35 (AI @F_sz_37 (@F_sz_96)))))))))))))
set_option maxHeartbeats 4000000 in
theorem c_funcP {ts : List Tk} {f : Nat} (hts : ts.length ≤ 4194304) (hok : ∀ t ∈ ts, TkOk t) (a0 o : Nat) (ho : o ≤ 256) (r : Rs Fun) (h : funM ts f a0 o = some r) : XC Tryz.prog 52 [.pt 0 0] ts a0 o fnV r := by
  unfold funM at h
  refine XC.enter 26 Tryz.func52 rfl (by decide) rfl rfl (s := [(0, .pt 0 0)]) (by rfl) ?_
  refine wG Y52_ZAB True.intro ?_
  rcases rb_some h with ⟨b1, e1, h1, rfl⟩ | ⟨_, a1, o1, h1, h⟩
  · exact PA.callP [0] ((c_expect ts a0 o [102, 117, 110, 99] hts _ h1).fails) True.intro I1_ZAB N1_ZAB (fun _ => PFin.i rfl rfl)
  refine AR.callSP [0] (((c_expect ts a0 o [102, 117, 110, 99] hts _ h1).good)) True.intro I1_ZAB N1_ZAB ?_
  refine goG Y52_ZAB True.intro ?_
  obtain ⟨_, rfl, hoe⟩ := expM_ok h1
  subst o1
  clear h1
  refine wG Y52_ZAB True.intro ?_
  rcases rb_some h with ⟨b1, e1, h1, rfl⟩ | ⟨nm, a2, o2, h1, h⟩
  · exact PA.callP [0] ((c_nameP ts (a0 + 1) o hts _ h1).fails) True.intro I1_ZAB N1_ZAB (fun _ => PFin.i rfl rfl)
  refine AR.callSP [0] (((c_nameP ts (a0 + 1) o hts _ h1).good)) True.intro I1_ZAB N1_ZAB ?_
  refine goG Y52_ZAB True.intro ?_
  obtain ⟨_, rfl, hoe, hlt⟩ := nmM_ok h1
  subst o2
  clear h1
  refine wG Y52_ZAB True.intro ?_
  rcases rb_some h with ⟨b1, e1, h1, rfl⟩ | ⟨_, a3, o3, h1, h⟩
  · exact PA.callP [0] ((c_begin ts (a0 + 1 + 1) o [123] hts _ h1).fails) True.intro I1_ZAB N1_ZAB (fun _ => PFin.i rfl rfl)
  refine AR.callSP [0] (((c_begin ts (a0 + 1 + 1) o [123] hts _ h1).good)) True.intro I1_ZAB N1_ZAB ?_
  refine goG Y52_ZAB True.intro ?_
  obtain ⟨_, ho1, rfl, rfl⟩ := begM_ok h1
  clear h1
  refine wG Y52_ZAB True.intro ?_
  refine AWp.loop ?_
  refine ALp.round ?_
  refine AWp.ghostB 2 1 [.im (.string nm), .sl [] .nl, .sl [] .nl] 96 6 ?_
  suffices H : ∀ (F : Nat), F ≤ f → ∀ (l : List Va) (a : Nat), l.length ≤ a → (rb (vasM ts F l a (o + 1)) fun v a o => rb (stM ts f (.li []) a o) fun l a o => rb (endM ts [125] a o) fun _ a o => ret (Fun.mk nm v (l.headD [])) a o) = some r → AWpK _ _ _ _ _ ⟨dn 26 [(0, .pt 0 0), (2, .pt 1 0), (3, .pt 2 0)], ofl [.box [.sl (ts.map tkV) .ro, (.im (.int .i64 ((a : Nat)))), (.im (.int .i64 ((o + 1 : Nat))))], .box [.im (.string ByteArray.empty), .sl [] .nl, .sl [] .nl], .box [.im (.string nm), .sl ((l).map vaV) (.mine 3), .sl [] .nl], .tip 96 6 (l).length]⟩ by
    refine AWp.cutP 4 [(0, .pt 0 0), (2, .pt 1 0), (3, .pt 2 0)] [.box [.sl (ts.map tkV) .ro, (.im (.int .i64 ((a0 + 1 + 1 + 1 : Nat)))), (.im (.int .i64 ((o + 1 : Nat))))], .box [.im (.string ByteArray.empty), .sl [] .nl, .sl [] .nl], .box [.im (.string nm), .sl ((([] : List Va)).map vaV) (.mine 3), .sl [] .nl], .tip 96 6 (([] : List Va)).length] I1_ZAB ?_; exact H f (Nat.le_refl _) [] (a0 + 1 + 1 + 1) (by simp) h
  clear h
  intro F
  induction F with
  | zero => intro _ l a _ h; cases h
  | succ F ih =>
  intro hf l a hla h
  rw [vasM] at h
  have hs := c_sees ts a (o + 1) [118, 97, 114]
  by_cases hk : sees ts a [118, 97, 114] = true
  case neg =>
    rw [if_neg hk] at h; rw [Bool.not_eq_true] at hk; rw [hk] at hs; change (rb (stM ts f (.li []) a (o + 1)) fun b a o => rb (endM ts [125] a o) fun _ a o => ret (Fun.mk nm l (b.headD [])) a o) = some r at h
    refine wG Y52_ZAB True.intro ?_; refine AR.callSP [0] hs True.intro I1_ZAB N1_ZAB ?_; refine goG Y52_ZAB True.intro ?_; refine wG Y52_ZAB True.intro ?_; rcases rb_some h with ⟨b1, e1, h1, rfl⟩ | ⟨b, a4, o4, h1, h⟩
    · exact PA.callP [0] ((c_lst hts hok f a (o + 1) (by omega) _ h1).fails) True.intro I1_ZAB N1_ZAB (fun _ => PFin.i rfl rfl)
    refine AR.callSP [0] (((c_lst hts hok f a (o + 1) (by omega) _ h1).good)) True.intro I1_ZAB N1_ZAB ?_
    refine goG Y52_ZAB LIT ?_; obtain ⟨rfl, _, _⟩ := (stM_open ts f).2.1 _ _ _ _ _ _ h1; clear h1; refine wG Y52_ZAB LIT ?_; rcases rb_some h with ⟨b1, e1, h1, rfl⟩ | ⟨_, a5, o5, h1, h⟩
    · exact PA.callP [0] ((c_end ts a4 (o + 1) [125] hts (by omega) (by omega) _ h1).fails) True.intro I1_ZAB N1_ZAB (fun _ => PFin.i rfl rfl)
    refine AR.callSP [0] (((c_end ts a4 (o + 1) [125] hts (by omega) (by omega) _ h1).good)) True.intro I1_ZAB N1_ZAB ?_
    refine goG Y52_ZAB True.intro ?_; cases h
    refine wG Y52_ZAB LIT ?_; refine Fin.gen (rs := [.cell 2 37]) rfl (by first | exact .inl rfl | exact .inr rfl) (finG Y52_ZAB) ?_ rfl (idG I1_ZAB)
    rw [fnV_eq]; simp only [nl_get]
    all_goals exact wkG I1_ZAB
  rw [if_pos hk] at h
  rw [hk] at hs
  refine wG Y52_ZAB True.intro ?_
  refine AR.callSP [0] hs True.intro I1_ZAB N1_ZAB ?_
  refine goG Y52_ZAB True.intro ?_
  refine wdG Y52_ZAB True.intro ?_
  rw [rb_assoc] at h
  rcases rb_some h with ⟨b1, e1, h1, rfl⟩ | ⟨x, a4, o4, h1, hk2⟩
  · exact PA.callD [0] ((c_variable hts hok a (o + 1) (by omega) _ h1).fails) True.intro I1_ZAB N1_ZAB (fun _ => PFin.i rfl rfl) ⟨[⟨6, [], ⟨_, []⟩⟩], _, (.cons (late_fa (i := 6) rfl rfl F_fl_37_1 F_sz_23 (by decide)) .nil), by kernel_rfl⟩
  obtain ⟨hoe, hle, hle2⟩ := varM_ok h1
  subst hoe
  obtain ⟨B, hB⟩ : ∃ B, B = l ++ [x] := ⟨_, rfl⟩
  have hAs : l.map vaV ++ [vaV x] = B.map vaV := by rw [hB, List.map_append, List.map_singleton]
  have hAl : l.length + 1 = B.length := by rw [hB]; simp
  have hbl : B.length * 88 ≤ 140737488355328 := by omega
  have h4 : (rb (vasM ts F B a4 (o + 1)) fun v a o => rb (stM ts f (.li []) a o) fun l a o => rb (endM ts [125] a o) fun _ a o => ret (Fun.mk nm v (l.headD [])) a o) = some r := by rw [hB]; exact hk2
  refine AR.callSP [0] ((c_variable hts hok a (o + 1) (by omega) _ h1).good) True.intro I1_ZAB N1_ZAB ?_
  refine goG Y52_ZAB (AI VA (AI hAs (AI hAl (AI hbl (AI va_all @List.length_map.{0, 0}))))) ?_
  refine wdG Y52_ZAB (AI VA (AI hAs (AI hAl (AI hbl (AI va_all @List.length_map.{0, 0}))))) ?_
  refine ALp.round ?_
  refine AWp.cutP 4 [(0, .pt 0 0), (2, .pt 1 0), (3, .pt 2 0)] [.box [.sl (ts.map tkV) .ro, (.im (.int .i64 ((a4 : Nat)))), (.im (.int .i64 ((o + 1 : Nat))))], .box [.im (.string ByteArray.empty), .sl [] .nl, .sl [] .nl], .box [.im (.string nm), .sl ((B).map vaV) (.mine 3), .sl [] .nl], .tip 96 6 (B).length] I1_ZAB ?_
  exact ih (by omega) B a4 (by omega) h4
theorem Y34_ZAC : type_of% (AI @F_ag_23 (AI @F_ag_24 (AI @F_ag_25 (AI @F_ag_27 (AI @F_ag_3 (AI @F_ag_52 (AI @F_al_27 (AI @F_al_37 (AI @F_al_76 (AI @F_al_96 (AI @F_by_37 (AI @F_by_76 (AI @F_by_96 (AI @F_el_23 (AI @F_el_24 (AI @F_el_25 (AI @F_el_52 (AI @F_fl_133_0 (AI @F_fl_133_1 (AI @F_fl_27_0 (AI @F_fl_27_1 (AI @F_fl_27_2 (AI @F_sz_122 (AI @F_sz_23 (AI @F_sz_24 (AI @F_sz_25 (AI @F_sz_27 (AI @F_sz_3 (AI @F_sz_37 (AI @F_sz_52 (AI @F_sz_76 (@F_sz_96)))))))))))))))))))))))))))))))) := AI @F_ag_23 (AI @F_ag_24 (AI @F_ag_25 (AI @F_ag_27 (AI @F_ag_3 (AI @F_ag_52 (AI @F_al_27 (AI @F_al_37 (AI @F_al_76 (AI @F_al_96 (AI @F_by_37 (AI @F_by_76 (AI @F_by_96 (AI @F_el_23 (AI @F_el_24 (AI @F_el_25 (AI @F_el_52 (AI @F_fl_133_0 (AI @F_fl_133_1 (AI @F_fl_27_0 (AI @F_fl_27_1 (AI @F_fl_27_2 (AI @F_sz_122 (AI @F_sz_23 (AI @F_sz_24 (AI @F_sz_25 (AI @F_sz_27 (AI @F_sz_3 (AI @F_sz_37 (AI @F_sz_52 (AI @F_sz_76 (@F_sz_96)))))))))))))))))))))))))))))))
theorem I1_ZAC : type_of% (AI tkV_id (AI tkL_id (AI (@vaV_id) (AI (@vaL_id) (AI scV_id (AI scL_id (AI fnV_id fnL_id))))))) := (AI tkV_id (AI tkL_id (AI (@vaV_id) (AI (@vaL_id) (AI scV_id (AI scL_id (AI fnV_id fnL_id)))))))
theorem N1_ZAC : type_of% (AI tkV_ren (AI tkL_ren (AI (@vaV_ren) (AI (@vaL_ren) (AI scV_ren (AI scL_ren (AI fnV_ren fnL_ren))))))) := (AI tkV_ren (AI tkL_ren (AI (@vaV_ren) (AI (@vaL_ren) (AI scV_ren (AI scL_ren (AI fnV_ren fnL_ren)))))))
set_option maxHeartbeats 8000000 in
theorem c_unit {ts : List Tk} {f : Nat} (hts : ts.length ≤ 4194304) (hok : ∀ t ∈ ts, TkOk t) (r : Rs Un) (h : uniM ts f ⟨[], [], []⟩ 0 0 = some r) : XC Tryz.prog 34 [.pt 0 0] ts 0 0 unV r := by
  refine XC.enter 47 Tryz.func34 rfl (by decide) rfl rfl (s := [(0, .pt 0 0)]) (by rfl) ?_
  refine wG Y34_ZAC True.intro ?_
  refine AWp.loop ?_
  refine ALp.round ?_
  refine AWp.ghostB 2 0 [.sl [] .nl, .sl [] .nl, .sl [] .nl] 96 6 ?_
  refine AWp.ghostB 2 1 [.sl [] (.mine 3), .sl [] .nl, .sl [] .nl] 76 5 ?_
  refine AWp.ghostB 2 2 [.sl [] (.mine 3), .sl [] (.mine 4), .sl [] .nl] 37 3 ?_
  suffices H : ∀ (F : Nat), F ≤ f → ∀ (u : Un) (a : Nat), u.globals.length ≤ a → u.data.length ≤ a → u.funcs.length ≤ a → uniM ts F u a 0 = some r → AWpK _ _ _ _ _ ⟨dn 47 [(0, .pt 0 0), (2, .pt 1 0), (3, .pt 2 0)], ofl [.box [.sl (ts.map tkV) .ro, (.im (.int .i64 ((a : Nat)))), (.im (.int .i64 ((0 : Nat))))], .box [.sl [] .nl, .sl [] .nl, .sl [] .nl], .box [.sl ((u).globals.map vaV) (.mine 3), .sl ((u).data.map scV) (.mine 4), .sl ((u).funcs.map fnV) (.mine 5)], .tip 96 6 (u).globals.length, .tip 76 5 (u).data.length, .tip 37 3 (u).funcs.length]⟩ by
    refine AWp.cutP 6 [(0, .pt 0 0), (2, .pt 1 0), (3, .pt 2 0)] [.box [.sl (ts.map tkV) .ro, (.im (.int .i64 ((0 : Nat)))), (.im (.int .i64 ((0 : Nat))))], .box [.sl [] .nl, .sl [] .nl, .sl [] .nl], .box [.sl (((⟨[], [], []⟩ : Un)).globals.map vaV) (.mine 3), .sl (((⟨[], [], []⟩ : Un)).data.map scV) (.mine 4), .sl (((⟨[], [], []⟩ : Un)).funcs.map fnV) (.mine 5)], .tip 96 6 ((⟨[], [], []⟩ : Un)).globals.length, .tip 76 5 ((⟨[], [], []⟩ : Un)).data.length, .tip 37 3 ((⟨[], [], []⟩ : Un)).funcs.length] I1_ZAC ?_; exact H f (Nat.le_refl _) ⟨[], [], []⟩ 0 (by simp) (by simp) (by simp) h
  clear h
  intro F
  induction F with
  | zero => intro _ u a _ _ _ h; cases h
  | succ F ih =>
  intro hf u a hg hd hfn h
  rw [uniM] at h
  by_cases hlt : ts.length ≤ a
  · have hn : ¬ (a : Int) < (ts.length : Int) := by omega
    rw [if_pos hlt] at h; cases h
    refine wdG Y34_ZAC (AI hn @List.length_map.{0, 0}) ?_; refine Fin.gen (rs := [.cell 2 27]) rfl (by first | exact .inl rfl | exact .inr rfl) (finG Y34_ZAC) ?_ rfl (idG I1_ZAC)
    rw [unV_eq]
    all_goals exact wkG I1_ZAC
  have hn : (a : Int) < (ts.length : Int) := by omega
  rw [if_neg hlt] at h
  have hs1 := c_sees ts a 0 [118, 97, 114]
  have hs2 := c_sees ts a 0 [100, 97, 116, 97]
  have hs3 := c_sees ts a 0 [102, 117, 110, 99]
  have hfl := c_fail ts a 0 3
  refine wdG Y34_ZAC (AI hn @List.length_map.{0, 0}) ?_
  refine wG Y34_ZAC True.intro ?_
  rcases ite_or h with ⟨hk, h⟩ | ⟨hk, h⟩
  · rw [hk] at hs1
    refine AR.callSP [0] hs1 True.intro I1_ZAC N1_ZAC ?_; refine goG Y34_ZAC True.intro ?_; refine wdG Y34_ZAC True.intro ?_; rcases rb_some h with ⟨b1, e1, h1, rfl⟩ | ⟨x, a4, o4, h1, hk2⟩
    · exact PA.callD [0] ((c_variable hts hok a 0 (by omega) _ h1).fails) True.intro I1_ZAC N1_ZAC (fun _ => PFin.i rfl rfl) ⟨[⟨6, [], ⟨_, []⟩⟩], _, (.cons (late_fa (i := 6) rfl rfl F_fl_27_0 F_sz_23 (by decide)) .nil), by kernel_rfl⟩
    obtain ⟨hoe, hle, hle2⟩ := varM_ok h1; subst hoe; obtain ⟨B, hB⟩ : ∃ B, B = u.globals ++ [x] := ⟨_, rfl⟩
    have hAs : u.globals.map vaV ++ [vaV x] = B.map vaV := by rw [hB, List.map_append, List.map_singleton]
    have hAl : u.globals.length + 1 = B.length := by rw [hB]; simp
    have hbl : B.length * 88 ≤ 140737488355328 := by omega
    have h4 : uniM ts F ⟨B, u.data, u.funcs⟩ a4 0 = some r := by rw [hB]; exact hk2
    refine AR.callSP [0] ((c_variable hts hok a 0 (by omega) _ h1).good) True.intro I1_ZAC N1_ZAC ?_
    refine goG Y34_ZAC (AI VA (AI hAs (AI hAl (AI hbl (AI va_all @List.length_map.{0, 0}))))) ?_; refine wdG Y34_ZAC (AI VA (AI hAs (AI hAl (AI hbl (AI va_all @List.length_map.{0, 0}))))) ?_; refine ALp.round ?_; refine AWp.cutP 6 [(0, .pt 0 0), (2, .pt 1 0), (3, .pt 2 0)] [.box [.sl (ts.map tkV) .ro, (.im (.int .i64 ((a4 : Nat)))), (.im (.int .i64 ((0 : Nat))))], .box [.sl [] .nl, .sl [] .nl, .sl [] .nl], .box [.sl (((⟨B, u.data, u.funcs⟩ : Un)).globals.map vaV) (.mine 3), .sl (((⟨B, u.data, u.funcs⟩ : Un)).data.map scV) (.mine 4), .sl (((⟨B, u.data, u.funcs⟩ : Un)).funcs.map fnV) (.mine 5)], .tip 96 6 ((⟨B, u.data, u.funcs⟩ : Un)).globals.length, .tip 76 5 ((⟨B, u.data, u.funcs⟩ : Un)).data.length, .tip 37 3 ((⟨B, u.data, u.funcs⟩ : Un)).funcs.length] I1_ZAC ?_; exact ih (by omega) ⟨B, u.data, u.funcs⟩ a4 (by show B.length ≤ a4; omega) (by show u.data.length ≤ a4; omega) (by show u.funcs.length ≤ a4; omega) h4
  rw [Bool.not_eq_true] at hk
  rw [hk] at hs1
  refine AR.callSP [0] hs1 True.intro I1_ZAC N1_ZAC ?_
  refine goG Y34_ZAC True.intro ?_
  refine wG Y34_ZAC True.intro ?_
  clear hk
  rcases ite_or h with ⟨hk, h⟩ | ⟨hk, h⟩
  · rw [hk] at hs2
    refine AR.callSP [0] hs2 True.intro I1_ZAC N1_ZAC ?_; refine goG Y34_ZAC True.intro ?_; refine wdG Y34_ZAC True.intro ?_; rcases rb_some h with ⟨b1, e1, h1, rfl⟩ | ⟨x, a4, o4, h1, hk2⟩
    · exact PA.callD [0] ((c_datum hts hok a 0 (by omega) _ h1).fails) True.intro I1_ZAC N1_ZAC (fun _ => PFin.i rfl rfl) ⟨[⟨6, [], ⟨_, []⟩⟩], _, (.cons (late_fa (i := 6) rfl rfl F_fl_27_1 F_sz_24 (by decide)) .nil), by kernel_rfl⟩
    obtain ⟨hoe, hle, hle2⟩ := datM_ok h1; subst hoe; obtain ⟨B, hB⟩ : ∃ B, B = u.data ++ [x] := ⟨_, rfl⟩
    have hAs : u.data.map scV ++ [scV x] = B.map scV := by rw [hB, List.map_append, List.map_singleton]
    have hAl : u.data.length + 1 = B.length := by rw [hB]; simp
    have hbl : B.length * 56 ≤ 140737488355328 := by omega
    have h4 : uniM ts F ⟨u.globals, B, u.funcs⟩ a4 0 = some r := by rw [hB]; exact hk2
    refine AR.callSP [0] ((c_datum hts hok a 0 (by omega) _ h1).good) True.intro I1_ZAC N1_ZAC ?_
    refine goG Y34_ZAC (AI SCT (AI hAs (AI hAl (AI hbl (AI scL_all @List.length_map.{0, 0}))))) ?_; refine wdG Y34_ZAC (AI SCT (AI hAs (AI hAl (AI hbl (AI scL_all @List.length_map.{0, 0}))))) ?_; refine ALp.round ?_; refine AWp.cutP 6 [(0, .pt 0 0), (2, .pt 1 0), (3, .pt 2 0)] [.box [.sl (ts.map tkV) .ro, (.im (.int .i64 ((a4 : Nat)))), (.im (.int .i64 ((0 : Nat))))], .box [.sl [] .nl, .sl [] .nl, .sl [] .nl], .box [.sl (((⟨u.globals, B, u.funcs⟩ : Un)).globals.map vaV) (.mine 3), .sl (((⟨u.globals, B, u.funcs⟩ : Un)).data.map scV) (.mine 4), .sl (((⟨u.globals, B, u.funcs⟩ : Un)).funcs.map fnV) (.mine 5)], .tip 96 6 ((⟨u.globals, B, u.funcs⟩ : Un)).globals.length, .tip 76 5 ((⟨u.globals, B, u.funcs⟩ : Un)).data.length, .tip 37 3 ((⟨u.globals, B, u.funcs⟩ : Un)).funcs.length] I1_ZAC ?_; exact ih (by omega) ⟨u.globals, B, u.funcs⟩ a4 (by show u.globals.length ≤ a4; omega) (by show B.length ≤ a4; omega) (by show u.funcs.length ≤ a4; omega) h4
  rw [Bool.not_eq_true] at hk
  rw [hk] at hs2
  refine AR.callSP [0] hs2 True.intro I1_ZAC N1_ZAC ?_
  refine goG Y34_ZAC True.intro ?_
  refine wG Y34_ZAC True.intro ?_
  clear hk
  rcases ite_or h with ⟨hk, h⟩ | ⟨hk, h⟩
  · rw [hk] at hs3
    refine AR.callSP [0] hs3 True.intro I1_ZAC N1_ZAC ?_; refine goG Y34_ZAC True.intro ?_; refine wdG Y34_ZAC True.intro ?_; rcases rb_some h with ⟨b1, e1, h1, rfl⟩ | ⟨x, a4, o4, h1, hk2⟩
    · exact PA.callD [0] ((c_funcP hts hok a 0 (by omega) _ h1).fails) True.intro I1_ZAC N1_ZAC (fun _ => PFin.i rfl rfl) ⟨[⟨6, [], ⟨_, []⟩⟩], _, (.cons (late_fa (i := 6) rfl rfl F_fl_27_2 F_sz_25 (by decide)) .nil), by kernel_rfl⟩
    obtain ⟨hoe, hle, hle2⟩ := funM_ok h1; subst hoe; obtain ⟨B, hB⟩ : ∃ B, B = u.funcs ++ [x] := ⟨_, rfl⟩
    have hAs : u.funcs.map fnV ++ [fnV x] = B.map fnV := by rw [hB, List.map_append, List.map_singleton]
    have hAl : u.funcs.length + 1 = B.length := by rw [hB]; simp
    have hbl : B.length * 64 ≤ 140737488355328 := by omega
    have h4 : uniM ts F ⟨u.globals, u.data, B⟩ a4 0 = some r := by rw [hB]; exact hk2
    refine AR.callSP [0] ((c_funcP hts hok a 0 (by omega) _ h1).good) True.intro I1_ZAC N1_ZAC ?_
    refine goG Y34_ZAC (AI FU (AI hAs (AI hAl (AI hbl (AI fnL_all @List.length_map.{0, 0}))))) ?_; refine wdG Y34_ZAC (AI FU (AI hAs (AI hAl (AI hbl (AI fnL_all @List.length_map.{0, 0}))))) ?_; refine ALp.round ?_; refine AWp.cutP 6 [(0, .pt 0 0), (2, .pt 1 0), (3, .pt 2 0)] [.box [.sl (ts.map tkV) .ro, (.im (.int .i64 ((a4 : Nat)))), (.im (.int .i64 ((0 : Nat))))], .box [.sl [] .nl, .sl [] .nl, .sl [] .nl], .box [.sl (((⟨u.globals, u.data, B⟩ : Un)).globals.map vaV) (.mine 3), .sl (((⟨u.globals, u.data, B⟩ : Un)).data.map scV) (.mine 4), .sl (((⟨u.globals, u.data, B⟩ : Un)).funcs.map fnV) (.mine 5)], .tip 96 6 ((⟨u.globals, u.data, B⟩ : Un)).globals.length, .tip 76 5 ((⟨u.globals, u.data, B⟩ : Un)).data.length, .tip 37 3 ((⟨u.globals, u.data, B⟩ : Un)).funcs.length] I1_ZAC ?_; exact ih (by omega) ⟨u.globals, u.data, B⟩ a4 (by show u.globals.length ≤ a4; omega) (by show u.data.length ≤ a4; omega) (by show B.length ≤ a4; omega) h4
  rw [Bool.not_eq_true] at hk
  rw [hk] at hs3
  refine AR.callSP [0] hs3 True.intro I1_ZAC N1_ZAC ?_
  refine goG Y34_ZAC True.intro ?_
  refine wG Y34_ZAC True.intro ?_
  cases h
  exact PA.callP [0] hfl True.intro I1_ZAC N1_ZAC (fun _ => PFin.i rfl rfl)
theorem Y76_ZAD : type_of% (AI @F_ag_61 (AI @F_al_61 (@F_sz_61))) := AI @F_ag_61 (AI @F_al_61 (@F_sz_61))
theorem c_catch : Catch Tryz.prog 76 61 := by
  refine Catch.of (N := 19) Tryz.func76 rfl (by decide) rfl rfl rfl Tryz.results76 (fun u v a b => ?_) (fun u v => ?_)
  · refine wG Y76_ZAD True.intro ?_
    refine AR.eqI false ?_; refine goG Y76_ZAD True.intro ?_; refine wG Y76_ZAD True.intro ?_; refine AR.tassert ?_; refine goG Y76_ZAD True.intro ?_; refine wG Y76_ZAD True.intro ?_; exact ⟨rfl, rfl⟩
  · refine wG Y76_ZAD True.intro ?_
    refine AR.eqI true ?_; refine goG Y76_ZAD True.intro ?_; refine wG Y76_ZAD True.intro ?_; exact ⟨rfl, rfl⟩
def prsV {α : Type} (val : α → V) (zero : V) : Rs α → V
  | .ok x _ _ => .tu [val x, .ag [(.im (.int .i64 (0))), (.im (.int .i64 (0)))]]
  | .bad b e => .tu [zero, .ag [(.im (.int .i64 ((b : Nat)))), (.im (.int .i64 (e)))]]
theorem Y58_ZAD : type_of% (AI @F_ag_46 (AI @F_al_46 (@F_sz_46))) := AI @F_ag_46 (AI @F_al_46 (@F_sz_46))
theorem I2_ZAD : type_of% (AI tkV_id (AI tkL_id (AI (@exV_id) @exL_id))) := (AI tkV_id (AI tkL_id (AI (@exV_id) @exL_id)))
theorem N2_ZAD : type_of% (AI tkV_ren (AI tkL_ren (AI (@exV_ren) @exL_ren))) := (AI tkV_ren (AI tkL_ren (AI (@exV_ren) @exL_ren)))
theorem c_read1 {ts : List Tk} (hts : ts.length ≤ 4194304) (f : Nat) (r : Rs Ex) (h : exM ts f (.ex 1) 0 0 = some r) : XC Tryz.prog 58 [.pt 0 0] ts 0 0 exV r := by
  cases r with
  | bad b e =>
    refine XC.enter 5 Tryz.func58 rfl (by decide) rfl rfl (s := [(0, .pt 0 0)]) (by rfl) ?_
    refine wG Y58_ZAD True.intro ?_; exact PA.callP [0] ((c_ex hts f 1 0 0 (by decide) (by decide) _ h).fails) i1 I2_ZAD N2_ZAD (fun _ => PFin.i rfl rfl)
  | ok x b p =>
    refine XC.enter 5 Tryz.func58 rfl (by decide) rfl rfl (s := [(0, .pt 0 0)]) (by rfl) ?_
    refine wG Y58_ZAD True.intro ?_; refine AR.callSP [0] ((c_ex hts f 1 0 0 (by decide) (by decide) _ h).good) i1 I2_ZAD N2_ZAD ?_
    refine goG Y58_ZAD BN02 ?_; refine wG Y58_ZAD BN02 ?_; refine Fin.gen (rs := [.cell 2 46]) rfl (by first | exact .inl rfl | exact .inr rfl) (finG Y58_ZAD) ?_ rfl (idG I2_ZAD)
    rw [exV_eq x]
    all_goals exact wkG I2_ZAD
theorem Y57_ZAD : type_of% (AI @F_ag_3 (AI @F_ag_46 (AI @F_ag_61 (AI @F_al_133 (AI @F_al_46 (AI @F_al_61 (AI @F_el_52 (AI @F_fl_133_1 (AI @F_st_133 (AI @F_st_61 (AI @F_sz_122 (AI @F_sz_3 (AI @F_sz_46 (@F_sz_61)))))))))))))) := AI @F_ag_3 (AI @F_ag_46 (AI @F_ag_61 (AI @F_al_133 (AI @F_al_46 (AI @F_al_61 (AI @F_el_52 (AI @F_fl_133_1 (AI @F_st_133 (AI @F_st_61 (AI @F_sz_122 (AI @F_sz_3 (AI @F_sz_46 (@F_sz_61)))))))))))))
theorem c_parsedE {ts : List Tk} (hts : ts.length ≤ 4194304) (f : Nat) (z : Rs Ex) (hz : allM ts (exM ts f (.ex 1) 0 0) = some z) : PC Tryz.prog 57 [.sl (ts.map tkV) .ro, .fn (.func 58) [] []] (prsV exV (exV (.mk 0 0 ByteArray.empty 0 [])) z) := by
  refine PC.enterDf (s := [(0, .sl (ts.map tkV) .ro), (1, .fn (.func 58) [] [])]) (s1 := [(0, .sl (ts.map tkV) .ro), (1, .fn (.func 58) [] []), (4, .pt 0 0), (5, .pt 1 0)]) (l1 := [.box [(.im (.int .i64 (0))), .im (.int .u32 0), .im (.string ByteArray.empty), (.im (.int .i64 (0))), .sl [] .nl], .box [(.im (.int .i64 (0))), (.im (.int .i64 (0)))]]) 1 25 c_catch Tryz.func57 rfl (by decide) rfl rfl rfl ?_ rfl ?_
  · rw [stF_eq]
    refine goG Y57_ZAD True.intro ?_; exact ⟨(fun e => by cases e), rfl, rfl⟩
  rcases rb_some hz with ⟨b1, e1, h1, rfl⟩ | ⟨x, a1, o1, h1, h⟩
  · refine wG Y57_ZAD True.intro ?_
    refine PA.callS [2] ((c_read1 hts f _ h1).fails) True.intro I2_ZAD N2_ZAD ?_; show FinD _ _ _ _ _ _ ⟨_, ofl [.box [(.im (.int .i64 (0))), .im (.int .u32 0), .im (.string ByteArray.empty), (.im (.int .i64 (0))), .sl [] .nl], .box [(.im (.int .i64 (0))), (.im (.int .i64 (0)))], .box (List.replicate 3 .dead)]⟩
    refine FinD.pan 1 (by simp) rfl ?_
    refine Fin.gen0 (rs := [.cell 4 46, .cell 5 61]) rfl (by first | exact .inl rfl | exact .inr rfl) (finG Y57_ZAD) ?_
    all_goals exact wkG I2_ZAD
  refine wG Y57_ZAD True.intro ?_
  refine AR.callSP [2] ((c_read1 hts f _ h1).good) True.intro I2_ZAD N2_ZAD ?_
  refine goG Y57_ZAD BN02 ?_
  rcases ite_or h with ⟨hlt, h⟩ | ⟨hlt, h⟩
  · have hl : (a1 : Int) < (ts.length : Int) := by omega
    cases h
    refine wG Y57_ZAD (AI hl @List.length_map.{0, 0}) ?_; refine PA.callS [2] (c_fail ts a1 o1 3) True.intro I2_ZAD N2_ZAD ?_; show FinD _ _ _ _ _ _ ⟨_, ofl [.box [(.im (.int .i64 (0))), .im (.int .u32 0), .im (.string ByteArray.empty), (.im (.int .i64 (0))), .sl [] .nl], .box [(.im (.int .i64 (0))), (.im (.int .i64 (0)))], .box (List.replicate 3 .dead), _]⟩
    refine FinD.pan 1 (by simp) rfl ?_
    refine Fin.gen0 (rs := [.cell 4 46, .cell 5 61]) rfl (by first | exact .inl rfl | exact .inr rfl) (finG Y57_ZAD) ?_
    all_goals exact wkG I2_ZAD
  · have hl : ¬ (a1 : Int) < (ts.length : Int) := by omega
    cases h
    refine wG Y57_ZAD (AI hl (AI (@List.length_map.{0, 0}) BN02)) ?_; refine FinD.ret 1 rfl ?_; refine Fin.gen0 (rs := [.cell 4 46, .cell 5 61]) rfl (by first | exact .inl rfl | exact .inr rfl) (finG Y57_ZAD) ?_
    show WkF _ _ _ (.tu [exV x, .ag [(.im (.int .i64 (0))), (.im (.int .i64 (0)))]]); rw [exV_eq x]
    all_goals exact wkG I2_ZAD
theorem I3_ZAD : type_of% (AI tkV_id (AI tkL_id (AI (@vaV_id) (AI (@vaL_id) (AI scV_id (AI scL_id (AI fnV_id (AI fnL_id (AI ndLs_id unV_id))))))))) := (AI tkV_id (AI tkL_id (AI (@vaV_id) (AI (@vaL_id) (AI scV_id (AI scL_id (AI fnV_id (AI fnL_id (AI ndLs_id unV_id)))))))))
theorem N3_ZAD : type_of% (AI tkV_ren (AI tkL_ren (AI (@vaV_ren) (AI (@vaL_ren) (AI scV_ren (AI scL_ren (AI fnV_ren (AI fnL_ren (AI ndLs_ren unV_ren))))))))) := (AI tkV_ren (AI tkL_ren (AI (@vaV_ren) (AI (@vaL_ren) (AI scV_ren (AI scL_ren (AI fnV_ren (AI fnL_ren (AI ndLs_ren unV_ren)))))))))
theorem UNT : type_of% (AI @unV_firm (AI @unV_strip (AI @unV_live (AI @unV_size (AI @unV_isAg @unV_cells))))) := AI @unV_firm (AI @unV_strip (AI @unV_live (AI @unV_size (AI @unV_isAg @unV_cells))))
theorem Y33_ZAD : type_of% (AI @F_ag_27 (AI @F_ag_3 (AI @F_ag_61 (AI @F_al_133 (AI @F_al_27 (AI @F_al_61 (AI @F_el_52 (AI @F_fl_133_1 (AI @F_st_133 (AI @F_st_61 (AI @F_sz_122 (AI @F_sz_27 (AI @F_sz_3 (@F_sz_61)))))))))))))) := AI @F_ag_27 (AI @F_ag_3 (AI @F_ag_61 (AI @F_al_133 (AI @F_al_27 (AI @F_al_61 (AI @F_el_52 (AI @F_fl_133_1 (AI @F_st_133 (AI @F_st_61 (AI @F_sz_122 (AI @F_sz_27 (AI @F_sz_3 (@F_sz_61)))))))))))))
theorem c_parsedU {ts : List Tk} (hts : ts.length ≤ 4194304) (hok : ∀ t ∈ ts, TkOk t) (f : Nat) (z : Rs Un) (hz : allM ts (uniM ts f ⟨[], [], []⟩ 0 0) = some z) : PC Tryz.prog 33 [.sl (ts.map tkV) .ro, .fn (.func 34) [] []] (prsV unV (unV ⟨[], [], []⟩) z) := by
  refine PC.enterDf (s := [(0, .sl (ts.map tkV) .ro), (1, .fn (.func 34) [] [])]) (s1 := [(0, .sl (ts.map tkV) .ro), (1, .fn (.func 34) [] []), (4, .pt 0 0), (5, .pt 1 0)]) (l1 := [.box [.sl [] .nl, .sl [] .nl, .sl [] .nl], .box [(.im (.int .i64 (0))), (.im (.int .i64 (0)))]]) 1 25 c_catch Tryz.func33 rfl (by decide) rfl rfl rfl ?_ rfl ?_
  · rw [stF_eq]
    refine goG Y33_ZAD True.intro ?_; exact ⟨(fun e => by cases e), rfl, rfl⟩
  rcases rb_some hz with ⟨b1, e1, h1, rfl⟩ | ⟨x, a1, o1, h1, h⟩
  · refine wG Y33_ZAD True.intro ?_
    refine PA.callS [2] ((c_unit hts hok _ h1).fails) True.intro I3_ZAD N3_ZAD ?_; show FinD _ _ _ _ _ _ ⟨_, ofl [.box [.sl [] .nl, .sl [] .nl, .sl [] .nl], .box [(.im (.int .i64 (0))), (.im (.int .i64 (0)))], .box (List.replicate 3 .dead)]⟩
    refine FinD.pan 1 (by simp) rfl ?_
    refine Fin.gen0 (rs := [.cell 4 27, .cell 5 61]) rfl (by first | exact .inl rfl | exact .inr rfl) (finG Y33_ZAD) ?_
    all_goals exact wkG I3_ZAD
  refine wG Y33_ZAD True.intro ?_
  refine AR.callSP [2] ((c_unit hts hok _ h1).good) True.intro I3_ZAD N3_ZAD ?_
  refine goG Y33_ZAD UNT ?_
  rcases ite_or h with ⟨hlt, h⟩ | ⟨hlt, h⟩
  · have hl : (a1 : Int) < (ts.length : Int) := by omega
    cases h
    refine wG Y33_ZAD (AI hl @List.length_map.{0, 0}) ?_; refine PA.callS [2] (c_fail ts a1 o1 3) True.intro I3_ZAD N3_ZAD ?_; show FinD _ _ _ _ _ _ ⟨_, ofl [.box [.sl [] .nl, .sl [] .nl, .sl [] .nl], .box [(.im (.int .i64 (0))), (.im (.int .i64 (0)))], .box (List.replicate 3 .dead), _]⟩
    refine FinD.pan 1 (by simp) rfl ?_
    refine Fin.gen0 (rs := [.cell 4 27, .cell 5 61]) rfl (by first | exact .inl rfl | exact .inr rfl) (finG Y33_ZAD) ?_
    all_goals exact wkG I3_ZAD
  · have hl : ¬ (a1 : Int) < (ts.length : Int) := by omega
    cases h
    refine wG Y33_ZAD (AI hl (AI (@List.length_map.{0, 0}) UNT)) ?_; refine FinD.ret 1 rfl ?_; refine Fin.gen0 (rs := [.cell 4 27, .cell 5 61]) rfl (by first | exact .inl rfl | exact .inr rfl) (finG Y33_ZAD) ?_
    show WkF _ _ _ (.tu [unV x, .ag [(.im (.int .i64 (0))), (.im (.int .i64 (0)))]]); rw [unV_eq x]
    all_goals exact wkG I3_ZAD
end Go.Proofs.YtmbmmckagcdapaaGreatDoor
namespace Go.Proofs.YtmbmmckagcdapaaGreatDoor
theorem i64_s {n : Int} (h : 0 ≤ n ∧ n < 4294967296) : I64 n := ⟨by omega, by omega⟩
theorem fitE_of {o n : Int} {s : ByteArray} {w : Int} {l : List Ex} (h0 : I64 o) (h1 : 0 ≤ n ∧ n < 4294967296) (h2 : I64 w) (h3 : l.length ≤ 4194304) (h4 : s.size ≤ 9223372036854775807) (h5 : ∀ t ∈ l, fitE t) : fitE (.mk o n s w l) := by
  have e : fitEB (.mk o n s w l) = _ := Ex.para_mk _ o n s w l
  unfold fitE
  rw [e]
  simp only [Bool.and_eq_true, Ex.op, Ex.n, Ex.width, Ex.name, Ex.l, List.all_map, List.all_eq_true]
  exact ⟨⟨⟨decide_eq_true ⟨h0, ⟨h1.1, by omega⟩, h2⟩, decide_eq_true h3⟩, decide_eq_true h4⟩, h5⟩
theorem fit_of {o k s c : Int} {es fs : List Ty} (h0 : I64 o ∧ I64 k ∧ I64 s ∧ I64 c) (h1 : es.length ≤ 4194304) (h2 : fs.length ≤ 4194304) (hE : ∀ t ∈ es, fit t) (hF : ∀ t ∈ fs, fit t) : fit (.mk o k s c es fs) := by
  have e : fitB (.mk o k s c es fs) = _ := Ty.para_mk _ o k s c es fs
  unfold fit
  rw [e]
  simp only [Bool.and_eq_true, decide_eq_true_eq, Ty.elem, Ty.fields, Ty.off, Ty.kind, Ty.size, Ty.count, List.all_map, List.all_eq_true]
  exact ⟨⟨⟨⟨decide_eq_true h0, decide_eq_true h1⟩, decide_eq_true h2⟩, hE⟩, hF⟩
theorem fit_atO {t : Ty} (h : fit t) {o : Int} (ho : I64 o) : fit (t.at_ o) := by
  cases t
  exact fit_of ⟨ho, (fit_num h).2⟩ (fit_mk h).1 (fit_mk h).2.1 (fit_mk h).2.2.1 (fit_mk h).2.2.2
theorem fitN_of {k w : Int} {n : ByteArray} {e : List Ex} {l el : List Nd} {cs : List (List Nd)} (h0 : I64 k ∧ I64 w) (h1 : n.size ≤ 9223372036854775807) (h2 : e.length ≤ 4194304) (h3 : ∀ x ∈ e, fitE x) (h4 : fitNL l) (h5 : fitNL el) (h6 : cs.length ≤ 4194304) (h7 : ∀ c ∈ cs, fitNL c) : fitN (.mk k w n e l el cs) := by
  have q : fitNB (.mk k w n e l el cs) = _ := Nd.para_mk _ k w n e l el cs
  unfold fitN
  rw [q]
  simp only [Bool.and_eq_true, Nd.kind, Nd.width, Nd.name, Nd.e, Nd.l, Nd.el, Nd.cs, List.all_map, List.all_eq_true]
  refine ⟨⟨⟨⟨⟨⟨⟨decide_eq_true h0, decide_eq_true h1⟩, decide_eq_true ⟨h2, h4.1, h5.1, h6⟩⟩, h3⟩, fun c hc => decide_eq_true (h7 c hc).1⟩, h4.2⟩, h5.2⟩, fun c hc => ?_⟩
  simp only [Function.comp, List.all_map, List.all_eq_true]
  exact (h7 c hc).2
section
variable {ts : List Tk}
theorem tk_size (hok : ∀ t ∈ ts, TkOk t) (a : Nat) : (strA (pk ts a).text).size ≤ 9223372036854775807 := by
  have : (pk ts a).text.length ≤ 4194304 := by
    by_cases hl : a < ts.length
    · exact (hok _ (List.mem_of_getElem? (pk_lt hl))).2
    · rw [pk_ge (by omega)]; decide
  show (pk ts a).text.toArray.size ≤ _
  rw [List.size_toArray]
  omega
theorem opR_i (s : Bs) : I64 (opR s).1 := by
  have key : ∀ (c : Prop) [Decidable c] (x y : Int × Nat), I64 x.1 → I64 y.1 → I64 (if c then x else y).1 := fun c _ x y hx hy => by by_cases h : c <;> simp [h, hx, hy]
  unfold opR
  repeat (refine key _ _ _ (by decide) ?_)
  decide
theorem stR_i (t : Tk) : I64 (stR t).1 := by
  unfold stR
  split
  · exact opR_i _
  · decide
theorem accW_i {s : Bs} {k w : Int} (h : accW s = some (k, w)) : I64 k ∧ I64 w := by
  unfold accW at h
  rcases ite_or h with ⟨_, h⟩ | ⟨_, h⟩
  · cases h; decide
  rcases ite_or h with ⟨_, h⟩ | ⟨_, h⟩
  · cases h; decide
  rcases ite_or h with ⟨_, h⟩ | ⟨_, h⟩
  · cases h; decide
  rcases ite_or h with ⟨_, h⟩ | ⟨_, h⟩
  · cases h; decide
  rcases ite_or h with ⟨_, h⟩ | ⟨_, h⟩
  · cases h; decide
  · cases h
theorem intR_i {s : Bs} {k w : Int} (h : intR s = some (k, w)) : I64 k ∧ I64 w := by
  unfold intR at h
  rcases ite_or h with ⟨_, h⟩ | ⟨_, h⟩
  · cases h; decide
  rcases ite_or h with ⟨_, h⟩ | ⟨_, h⟩
  · cases h; decide
  rcases ite_or h with ⟨_, h⟩ | ⟨_, h⟩
  · cases h; decide
  rcases ite_or h with ⟨_, h⟩ | ⟨_, h⟩
  · cases h; decide
  rcases ite_or h with ⟨_, h⟩ | ⟨_, h⟩
  · cases h; decide
  rcases ite_or h with ⟨_, h⟩ | ⟨_, h⟩
  · cases h; decide
  rcases ite_or h with ⟨_, h⟩ | ⟨_, h⟩
  · cases h; decide
  · cases h
theorem fitE_one {o w : Int} {x : Ex} (ho : I64 o) (hw : I64 w) (hx : fitE x) : fitE (mkU o w x) :=
  fitE_of ho (by decide) hw (by simp) (by decide) (fun t ht => by simp at ht; rw [ht]; exact hx)
theorem exM_fit (hok : ∀ t ∈ ts, TkOk t) : ∀ f, (∀ a o x b p, exM ts f .op a o = some (.ok x b p) → fitE x) ∧ (∀ l a o x b p, exM ts f (.ex l) a o = some (.ok x b p) → fitE x) ∧ (∀ l y a o x b p, fitE y → exM ts f (.lo l y) a o = some (.ok x b p) → fitE x) := by
  intro f
  induction f with
  | zero => exact ⟨(fun _ _ _ _ _ h => by cases h), (fun _ _ _ _ _ _ h => by cases h), (fun _ _ _ _ _ _ _ _ h => by cases h)⟩
  | succ f ih =>
    obtain ⟨i1, i2, i3⟩ := ih
    have hin : ∀ q a o x b p, (∀ y, fitE y → fitE (q y)) → inn ts (exM ts f (.ex 1)) q a o = some (.ok x b p) → fitE x := fun q a o x b p hq h => by
      obtain ⟨_, a1, o1, h1, h⟩ := rb_ok h; obtain ⟨y, a2, o2, h2, h⟩ := rb_ok h; obtain ⟨_, a3, o3, h3, h⟩ := rb_ok h; cases h
      exact hq y (i2 _ _ _ _ _ _ h2)
    refine ⟨fun a o x b p h => ?_, fun l a o x b p h => ?_, fun l y a o x b p hy h => ?_⟩
    · rw [exM] at h
      rcases ite_or h with ⟨hk, h⟩ | ⟨_, h⟩
      · cases h; exact fitE_of (by decide) (pk_ok hok a) (by decide) (by simp) (by decide) (by simp)
      rcases ite_or h with ⟨hk, h⟩ | ⟨_, h⟩
      · cases h; exact fitE_of (by decide) (by decide) (by decide) (by simp) (tk_size hok a) (by simp)
      rcases ite_or h with ⟨hk, h⟩ | ⟨_, h⟩
      · cases hw : accW (pk ts a).text with
        | none => rw [hw] at h; cases h
        | some p => rw [hw] at h; exact hin _ _ _ _ _ _ (fun y hy => fitE_one (accW_i hw).1 (accW_i hw).2 hy) h
      rcases ite_or h with ⟨hk, h⟩ | ⟨_, h⟩
      · rcases ite_or h with ⟨_, h⟩ | ⟨_, h⟩
        · exact hin _ _ _ _ _ _ (fun y hy => hy) h
        rcases ite_or h with ⟨_, h⟩ | ⟨_, h⟩
        · obtain ⟨_, a1, o1, h1, h⟩ := rb_ok h
          obtain ⟨y, a2, o2, h2, h⟩ := rb_ok h; cases h
          exact fitE_one (by split <;> decide) (by decide) (i1 _ _ _ _ _ h2)
        · cases h
      · cases h
    · rw [exM] at h
      obtain ⟨y, a1, o1, h1, h⟩ := rb_ok h; exact i3 _ _ _ _ _ _ _ (i1 _ _ _ _ _ h1) h
    · rw [exM] at h
      rcases ite_or h with ⟨_, h⟩ | ⟨_, h⟩
      · cases h; exact hy
      · obtain ⟨z, a1, o1, h1, h⟩ := rb_ok h
        refine i3 _ _ _ _ _ _ _ (fitE_of (stR_i _) (by decide) (by decide) (by simp) (by decide) fun t ht => ?_) h
        simp at ht; rcases ht with rfl | rfl
        · exact hy
        · exact i2 _ _ _ _ _ _ h1
theorem tyM_fit (hok : ∀ t ∈ ts, TkOk t) (hts : ts.length ≤ 65536) : ∀ f, (∀ a o x b p, tyM ts f .ty a o = some (.ok x b p) → fit x) ∧ (∀ l a o x b p, l.length ≤ a → a ≤ ts.length → (∀ t ∈ l, fit t) → tyM ts f (.fl l) a o = some (.ok x b p) → fit x) := by
  intro f
  induction f with
  | zero => exact ⟨(fun _ _ _ _ _ h => by cases h), (fun _ _ _ _ _ _ _ _ _ h => by cases h)⟩
  | succ f ih =>
    obtain ⟨i1, i2⟩ := ih; refine ⟨fun a o x b p h => ?_, fun l a o x b p hl ha hf h => ?_⟩
    · rw [tyM] at h
      rcases ite_or h with ⟨hk, h⟩ | ⟨_, h⟩
      · cases hw : intR (pk ts a).text with
        | none => rw [hw] at h; cases h
        | some q =>
          rw [hw] at h; cases h
          exact fit_of ⟨by decide, (intR_i hw).1, (intR_i hw).2, by decide⟩ (by simp) (by simp) (by simp) (by simp)
      rcases ite_or h with ⟨hk, h⟩ | ⟨_, h⟩
      · cases h; exact fit_of (by decide) (by simp) (by simp) (by simp) (by simp)
      rcases ite_or h with ⟨hk, h⟩ | ⟨_, h⟩
      · obtain ⟨_, a1, o1, h1, h⟩ := rb_ok h
        obtain ⟨y, a2, o2, h2, h⟩ := rb_ok h; cases h
        exact fit_of (by decide) (by simp) (by simp) (fun t ht => by simp at ht; rw [ht]; exact i1 _ _ _ _ _ h2) (by simp)
      rcases ite_or h with ⟨hk, h⟩ | ⟨_, h⟩
      · obtain ⟨_, a1, o1, h1, h⟩ := rb_ok h
        obtain ⟨n, a2, o2, h2, h⟩ := rb_ok h; obtain ⟨_, a3, o3, h3, h⟩ := rb_ok h; obtain ⟨y, a4, o4, h4, h⟩ := rb_ok h; obtain ⟨_, rfl, _, _⟩ := takM_ok h2; cases h
        exact fit_of ⟨by decide, by decide, by decide, i64_s (pk_ok hok _)⟩ (by simp) (by simp) (fun t ht => by simp at ht; rw [ht]; exact i1 _ _ _ _ _ h4) (by simp)
      rcases ite_or h with ⟨hk, h⟩ | ⟨_, h⟩
      · obtain ⟨_, a1, o1, h1, h⟩ := rb_ok h
        have e1 := begM_ok h1; have := sees_lt e1.1; exact i2 _ _ _ _ _ _ (Nat.zero_le _) (by omega) (by simp) h
      · cases h
    · rw [tyM] at h
      rcases ite_or h with ⟨hk, h⟩ | ⟨_, h⟩
      · obtain ⟨_, a1, o1, h1, h⟩ := rb_ok h
        cases h
        exact fit_of (by decide) (by simp) (by omega) (by simp) hf
      · obtain ⟨_, a1, o1, h1, h⟩ := rb_ok h
        obtain ⟨n, a2, o2, h2, h⟩ := rb_ok h; obtain ⟨_, a3, o3, h3, h⟩ := rb_ok h; obtain ⟨y, a4, o4, h4, h⟩ := rb_ok h
        have e0 : a ≤ a1 := by
          rcases ite_or h1 with ⟨_, h1⟩ | ⟨_, h1⟩
          · have := expM_ok h1; omega
          · cases h1; omega
        obtain ⟨_, rfl, e2, _⟩ := takM_ok h2; have e3 := expM_ok h3; have e4 := (tyM_open ts f).1 _ _ _ _ _ h4; refine i2 _ _ _ _ _ _ (by simp; omega) (by omega) (fun t ht => ?_) h
        rcases List.mem_append.1 ht with ht | ht
        · exact hf t ht
        · simp at ht; rw [ht]; exact fit_atO (i1 _ _ _ _ _ h4) (i64_s (pk_ok hok _))
theorem fit0 : fitNL [] := ⟨by simp, by simp⟩
theorem cnt_app (l : List Nd) (t : Nd) : cnt (l ++ [t]) = cnt l + cntT t := by unfold cnt; rw [List.map_append, List.sum_append]; simp
theorem cnt_nil : cnt [] = 0 := rfl
theorem cnt_leaf (k w : Int) (n : ByteArray) (e : List Ex) : cntT (.mk k w n e [] [] []) = 1 := by rw [cntT_eq]; rfl
theorem fitN_leaf {k w : Int} {n : ByteArray} {e : List Ex} (hk : I64 k) (hw : I64 w) (hn : n.size ≤ 9223372036854775807) (he : e.length ≤ 4194304) (hx : ∀ x ∈ e, fitE x) : fitN (.mk k w n e [] [] []) := fitN_of ⟨hk, hw⟩ hn he hx fit0 fit0 (by simp) (by simp)
theorem stM_fit (hok : ∀ t ∈ ts, TkOk t) (hts : ts.length ≤ 65536) : ∀ f, (∀ a o x b p, stM ts f .st a o = some (.ok x b p) → fitN (theS x) ∧ cntT (theS x) + a ≤ b) ∧
    (∀ l a o x b p, l.length ≤ a → (∀ t ∈ l, fitN t) → stM ts f (.li l) a o = some (.ok x b p) → (∀ t ∈ x.headD [], fitN t) ∧ (x.headD []).length ≤ b ∧ cnt (x.headD []) + a ≤ cnt l + b) ∧
    (∀ a o x b p, stM ts f .br a o = some (.ok x b p) → fitNL (x.headD []) ∧ cnt (x.headD []) + a + 2 ≤ b) ∧
    (∀ c a o x b p, c.length ≤ a → (∀ l ∈ c, fitNL l) → stM ts f (.ca c) a o = some (.ok x b p) → (∀ l ∈ x, fitNL l) ∧ x.length ≤ b ∧ (x.map cnt).sum + a ≤ (c.map cnt).sum + b) := by
  intro f
  induction f with
  | zero => exact ⟨(fun _ _ _ _ _ h => by cases h), (fun _ _ _ _ _ _ _ _ h => by cases h), (fun _ _ _ _ _ h => by cases h), (fun _ _ _ _ _ _ _ _ h => by cases h)⟩
  | succ f ih =>
    obtain ⟨i1, i2, i3, i4⟩ := ih; have ex : ∀ l a o x b p, exM ts f (.ex l) a o = some (.ok x b p) → fitE x ∧ a < b := fun l a o x b p h => ⟨(exM_fit hok f).2.1 l a o x b p h, (exM_lt h).1⟩
    have one : ∀ {x : Ex}, fitE x → ∀ y ∈ [x], fitE y := fun hx y hy => by simp at hy; rw [hy]; exact hx
    have e0 : ∀ y ∈ ([] : List Ex), fitE y := by simp
    have z0 : (ByteArray.empty).size ≤ 9223372036854775807 := by decide
    refine ⟨fun a o x b p h => ?_, fun l a o x b p hl hf h => ?_, fun a o x b p h => ?_, fun c a o x b p hc hf h => ?_⟩
    · rw [stM] at h
      have leafN : ∀ (k : Int) (a1 o1 : Nat), I64 k → a ≤ a1 → (rb (nmM ts a1 o1) fun n a o => rb (expM ts [59] a o) fun _ a o => ret (oneS (.mk k 0 n [] [] [] [])) a o) = some (.ok x b p) → fitN (theS x) ∧ cntT (theS x) + a ≤ b := fun k a1 o1 hk ha h => by
        obtain ⟨n, a2, o2, h2, h⟩ := rb_ok h; obtain ⟨_, a3, o3, h3, h⟩ := rb_ok h; have q2 := nmM_ok h2; have q3 := expM_ok h3; cases h
        refine ⟨fitN_leaf hk (by decide) (by rw [q2.1]; exact tk_size hok _) (by simp) e0, ?_⟩
        show cntT (.mk k 0 n [] [] [] []) + a ≤ _
        rw [cnt_leaf]; omega
      have simp' : ∀ (k : Int) (a1 o1 : Nat), I64 k → a ≤ a1 → simpM ts k a1 o1 = some (.ok x b p) → fitN (theS x) ∧ cntT (theS x) + a ≤ b := fun k a1 o1 hk ha h => by
        obtain ⟨_, a2, o2, h2, h⟩ := rb_ok h; have q2 := expM_ok h2; cases h
        refine ⟨fitN_leaf hk (by decide) z0 (by simp) e0, ?_⟩
        show cntT (.mk k 0 ByteArray.empty [] [] [] []) + a ≤ _
        rw [cnt_leaf]; omega
      have sto : ∀ (w : Int) (a1 o1 : Nat), I64 w → a ≤ a1 → storM ts f w a1 o1 = some (.ok x b p) → fitN (theS x) ∧ cntT (theS x) + a ≤ b := fun w a1 o1 hw ha h => by
        obtain ⟨_, a2, o2, h2, h⟩ := rb_ok h; obtain ⟨y, a3, o3, h3, h⟩ := rb_ok h; obtain ⟨_, a4, o4, h4, h⟩ := rb_ok h; obtain ⟨z, a5, o5, h5, h⟩ := rb_ok h; obtain ⟨_, a6, o6, h6, h⟩ := rb_ok h; obtain ⟨_, a7, o7, h7, h⟩ := rb_ok h; have q2 := begM_ok h2; have q3 := ex _ _ _ _ _ _ h3; have q4 := expM_ok h4; have q5 := ex _ _ _ _ _ _ h5; have q6 := endM_ok h6; have q7 := expM_ok h7; cases h
        refine ⟨fitN_leaf (by decide) hw z0 (by simp) fun t ht => ?_, ?_⟩
        · simp at ht
          rcases ht with rfl | rfl
          · exact q3.1
          · exact q5.1
        · show cntT (.mk 2 w ByteArray.empty [y, z] [] [] []) + a ≤ _
          rw [cnt_leaf]; omega
      rcases ite_or h with ⟨hk, h⟩ | ⟨_, h⟩
      · obtain ⟨n, a2, o2, h2, h⟩ := rb_ok h
        have q2 := nmM_ok h2; have hn : n.size ≤ 9223372036854775807 := by rw [q2.1]; exact tk_size hok _
        rcases ite_or h with ⟨hk, h⟩ | ⟨_, h⟩
        · cases h
          refine ⟨fitN_leaf (by decide) (by decide) hn (by simp) e0, ?_⟩
          show cntT (.mk 13 0 n [] [] [] []) + a ≤ _
          rw [cnt_leaf]; omega
        obtain ⟨_, a3, o3, h3, h⟩ := rb_ok h; have q3 := expM_ok h3; rcases ite_or h with ⟨hk, h⟩ | ⟨_, h⟩
        · obtain ⟨_, a4, o4, h4, h⟩ := rb_ok h
          have q4 := expM_ok h4; cases h
          refine ⟨fitN_leaf (by decide) (by decide) hn (by simp) e0, ?_⟩
          show cntT (.mk 3 0 n [] [] [] []) + a ≤ _
          rw [cnt_leaf]; omega
        obtain ⟨y, a4, o4, h4, h⟩ := rb_ok h; obtain ⟨_, a5, o5, h5, h⟩ := rb_ok h; have q4 := ex _ _ _ _ _ _ h4; have q5 := expM_ok h5; cases h
        refine ⟨fitN_leaf (by decide) (by decide) hn (by simp) (one q4.1), ?_⟩
        show cntT (.mk 1 0 n [y] [] [] []) + a ≤ _
        rw [cnt_leaf]; omega
      rcases ite_or h with ⟨_, h⟩ | ⟨_, h⟩
      · exact leafN 12 _ _ (by decide) (by omega) h
      rcases ite_or h with ⟨_, h⟩ | ⟨_, h⟩
      · exact leafN 5 _ _ (by decide) (by omega) h
      rcases ite_or h with ⟨_, h⟩ | ⟨_, h⟩
      · exact sto 1 _ _ (by decide) (by omega) h
      rcases ite_or h with ⟨_, h⟩ | ⟨_, h⟩
      · exact sto 2 _ _ (by decide) (by omega) h
      rcases ite_or h with ⟨_, h⟩ | ⟨_, h⟩
      · exact sto 4 _ _ (by decide) (by omega) h
      rcases ite_or h with ⟨_, h⟩ | ⟨_, h⟩
      · obtain ⟨y, a2, o2, h2, h⟩ := rb_ok h
        obtain ⟨_, a3, o3, h3, h⟩ := rb_ok h; have q2 := ex _ _ _ _ _ _ h2; have q3 := expM_ok h3; cases h
        refine ⟨fitN_leaf (by decide) (by decide) z0 (by simp) (one q2.1), ?_⟩
        show cntT (.mk 4 0 ByteArray.empty [y] [] [] []) + a ≤ _
        rw [cnt_leaf]; omega
      rcases ite_or h with ⟨_, h⟩ | ⟨_, h⟩
      · obtain ⟨y, a2, o2, h2, h⟩ := rb_ok h
        obtain ⟨l, a3, o3, h3, h⟩ := rb_ok h; have q2 := ex _ _ _ _ _ _ h2; have q3 := i3 _ _ _ _ _ h3; rcases ite_or h with ⟨_, h⟩ | ⟨_, h⟩
        · obtain ⟨e, a4, o4, h4, h⟩ := rb_ok h
          have q4 := i3 _ _ _ _ _ h4; cases h
          refine ⟨fitN_of (by decide) z0 (by simp) (one q2.1) q3.1 q4.1 (by simp) (by simp), ?_⟩
          show cntT (.mk 6 0 ByteArray.empty [y] (l.headD []) (e.headD []) []) + a ≤ _
          rw [cntT_eq]; show 1 + ([cnt (l.headD []), cnt (e.headD [])] : List Nat).sum + a ≤ _
          simp only [List.sum_cons, List.sum_nil]; omega
        · cases h
          refine ⟨fitN_of (by decide) z0 (by simp) (one q2.1) q3.1 fit0 (by simp) (by simp), ?_⟩
          show cntT (.mk 6 0 ByteArray.empty [y] (l.headD []) [] []) + a ≤ _
          rw [cntT_eq]; show 1 + ([cnt (l.headD []), cnt []] : List Nat).sum + a ≤ _
          simp only [List.sum_cons, List.sum_nil, cnt_nil]; omega
      rcases ite_or h with ⟨_, h⟩ | ⟨_, h⟩
      · obtain ⟨y, a2, o2, h2, h⟩ := rb_ok h
        obtain ⟨l, a3, o3, h3, h⟩ := rb_ok h; have q2 := ex _ _ _ _ _ _ h2; have q3 := i3 _ _ _ _ _ h3; cases h
        refine ⟨fitN_of (by decide) z0 (by simp) (one q2.1) q3.1 fit0 (by simp) (by simp), ?_⟩
        show cntT (.mk 7 0 ByteArray.empty [y] (l.headD []) [] []) + a ≤ _
        rw [cntT_eq]; show 1 + ([cnt (l.headD []), cnt []] : List Nat).sum + a ≤ _
        simp only [List.sum_cons, List.sum_nil, cnt_nil]; omega
      rcases ite_or h with ⟨_, h⟩ | ⟨_, h⟩
      · obtain ⟨l, a3, o3, h3, h⟩ := rb_ok h
        have q3 := i3 _ _ _ _ _ h3; cases h
        refine ⟨fitN_of (by decide) z0 (by simp) e0 q3.1 fit0 (by simp) (by simp), ?_⟩
        show cntT (.mk 8 0 ByteArray.empty [] (l.headD []) [] []) + a ≤ _
        rw [cntT_eq]; show 1 + ([cnt (l.headD []), cnt []] : List Nat).sum + a ≤ _
        simp only [List.sum_cons, List.sum_nil, cnt_nil]; omega
      rcases ite_or h with ⟨_, h⟩ | ⟨_, h⟩
      · obtain ⟨y, a2, o2, h2, h⟩ := rb_ok h
        obtain ⟨_, a3, o3, h3, h⟩ := rb_ok h; obtain ⟨c, a4, o4, h4, h⟩ := rb_ok h; have q2 := ex _ _ _ _ _ _ h2; have q3 := begM_ok h3; have q4 := i4 _ _ _ _ _ _ (Nat.zero_le _) (by simp) h4
        have q5 := (stM_open ts f).2.2.2 _ _ _ _ _ _ h4; cases h
        simp only [List.map_nil, List.sum_nil] at q4; refine ⟨fitN_of (by decide) z0 (by simp) (one q2.1) fit0 fit0 (by omega) q4.1, ?_⟩
        show cntT (.mk 9 0 ByteArray.empty [y] [] [] c) + a ≤ _
        rw [cntT_eq]; show 1 + (cnt [] :: cnt [] :: c.map cnt).sum + a ≤ _
        simp only [List.sum_cons, cnt_nil]; omega
      rcases ite_or h with ⟨_, h⟩ | ⟨_, h⟩
      · exact simp' 10 _ _ (by decide) (by omega) h
      rcases ite_or h with ⟨_, h⟩ | ⟨_, h⟩
      · exact simp' 11 _ _ (by decide) (by omega) h
      rcases ite_or h with ⟨_, h⟩ | ⟨_, h⟩
      · exact simp' 14 _ _ (by decide) (by omega) h
      rcases ite_or h with ⟨_, h⟩ | ⟨_, h⟩
      · exact simp' 15 _ _ (by decide) (by omega) h
      · cases h
    · rw [stM] at h
      rcases ite_or h with ⟨_, h⟩ | ⟨_, h⟩
      · cases h
        exact ⟨hf, hl, by show cnt l + a ≤ _; omega⟩
      · obtain ⟨s, a1, o1, h1, h⟩ := rb_ok h
        have q1 := i1 _ _ _ _ _ h1; have q2 := (stM_open ts f).1 _ _ _ _ _ h1
        have q3 := i2 _ _ _ _ _ _ (by simp; omega) (fun t ht => by
          rcases List.mem_append.1 ht with ht | ht
          · exact hf t ht
          · simp at ht; rw [ht]; exact q1.1) h
        rw [cnt_app] at q3; exact ⟨q3.1, q3.2.1, by omega⟩
    · rw [stM] at h
      obtain ⟨_, a1, o1, h1, h⟩ := rb_ok h; obtain ⟨l, a2, o2, h2, h⟩ := rb_ok h; obtain ⟨_, a3, o3, h3, h⟩ := rb_ok h; have q1 := begM_ok h1; have q2 := i2 _ _ _ _ _ _ (Nat.zero_le _) (by simp) h2
      have q4 := (stM_open ts f).2.1 _ _ _ _ _ _ h2; have q3 := endM_ok h3; cases h
      rw [cnt_nil] at q2; exact ⟨⟨by omega, q2.1⟩, by omega⟩
    · rw [stM] at h
      rcases ite_or h with ⟨_, h⟩ | ⟨_, h⟩
      · rcases ite_or h with ⟨_, h⟩ | ⟨_, h⟩
        · obtain ⟨l, a1, o1, h1, h⟩ := rb_ok h
          have q1 := i3 _ _ _ _ _ h1
          have q3 := i4 _ _ _ _ _ _ (by simp; omega) (fun t ht => by
            rcases List.mem_append.1 ht with ht | ht
            · exact hf t ht
            · rw [List.mem_singleton.1 ht]; exact q1.1) h
          rw [List.map_append, List.sum_append] at q3; simp only [List.map_cons, List.map_nil, List.sum_cons, List.sum_nil] at q3; exact ⟨q3.1, q3.2.1, by omega⟩
        · cases h
      · obtain ⟨_, a1, o1, h1, h⟩ := rb_ok h
        have q1 := endM_ok h1; cases h
        exact ⟨hf, by omega, by omega⟩
theorem varM_fit (hok : ∀ t ∈ ts, TkOk t) (hts : ts.length ≤ 65536) {f a o : Nat} {v : Va} {b p : Nat} (h : varM ts f a o = some (.ok v b p)) : fit v.ty ∧ v.name.size ≤ 9223372036854775807 := by
  obtain ⟨_, a1, o1, h1, h⟩ := rb_ok h
  obtain ⟨n, a2, o2, h2, h⟩ := rb_ok h
  obtain ⟨_, a3, o3, h3, h⟩ := rb_ok h
  obtain ⟨t, a4, o4, h4, h⟩ := rb_ok h
  obtain ⟨_, a5, o5, h5, h⟩ := rb_ok h
  have e2 := nmM_ok h2
  cases h
  exact ⟨(tyM_fit hok hts f).1 _ _ _ _ _ h4, by show n.size ≤ _; rw [e2.1]; exact tk_size hok _⟩
theorem vasM_fit (hok : ∀ t ∈ ts, TkOk t) (hts : ts.length ≤ 65536) : ∀ (f : Nat) {l : List Va} {a o : Nat} {v : List Va} {b p : Nat}, l.length ≤ a → fitVN l → vasM ts f l a o = some (.ok v b p) → fitVN v ∧ v.length ≤ b := by
  intro f
  induction f with
  | zero => intro l a o v b p _ _ h; cases h
  | succ f ih =>
    intro l a o v b p hl hf h; rw [vasM] at h; rcases ite_or h with ⟨hk, h⟩ | ⟨hk, h⟩
    · obtain ⟨x, a1, o1, h1, h⟩ := rb_ok h
      have e1 := varM_ok h1; refine ih (by simp; omega) (fun y hy => ?_) h
      rcases List.mem_append.1 hy with hy | hy
      · exact hf y hy
      · simp at hy; rw [hy]; exact varM_fit hok hts h1
    · cases h; exact ⟨hf, hl⟩
theorem funM_fit (hok : ∀ t ∈ ts, TkOk t) (hts : ts.length ≤ 65536) {f a o : Nat} {v : Fun} {b p : Nat} (h : funM ts f a o = some (.ok v b p)) : fitFn v := by
  obtain ⟨_, a1, o1, h1, h⟩ := rb_ok h
  obtain ⟨n, a2, o2, h2, h⟩ := rb_ok h
  obtain ⟨_, a3, o3, h3, h⟩ := rb_ok h
  obtain ⟨l, a4, o4, h4, h⟩ := rb_ok h
  obtain ⟨s, a5, o5, h5, h⟩ := rb_ok h
  obtain ⟨_, a6, o6, h6, h⟩ := rb_ok h
  have e2 := nmM_ok h2
  have e4 := vasM_fit hok hts f (Nat.zero_le _) (by intro y hy; cases hy) h4
  have e5 := (stM_fit hok hts f).2.1 _ _ _ _ _ _ (Nat.zero_le _) (by simp) h5
  have e6 := (stM_open ts f).2.1 _ _ _ _ _ _ h5
  rw [cnt_nil] at e5
  cases h
  exact ⟨by show l.length ≤ _; omega, e4.1, ⟨by show (s.headD []).length ≤ _; omega, e5.1⟩, by show cnt (s.headD []) ≤ _; omega, by show n.size ≤ _; rw [e2.1]; exact tk_size hok _⟩
theorem datM_fit (hok : ∀ t ∈ ts, TkOk t) {a o : Nat} {v : Sec} {b p : Nat} (h : datM ts a o = some (.ok v b p)) : v.name.size ≤ 9223372036854775807 := by
  obtain ⟨_, a1, o1, h1, h⟩ := rb_ok h
  obtain ⟨n, a2, o2, h2, h⟩ := rb_ok h
  obtain ⟨_, a3, o3, h3, h⟩ := rb_ok h
  obtain ⟨_, a4, o4, h4, h⟩ := rb_ok h
  obtain ⟨_, a5, o5, h5, h⟩ := rb_ok h
  obtain ⟨_, a6, o6, h6, h⟩ := rb_ok h
  obtain ⟨_, a7, o7, h7, h⟩ := rb_ok h
  obtain ⟨_, a8, o8, h8, h⟩ := rb_ok h
  have e2 := nmM_ok h2
  cases h
  show n.size ≤ _
  rw [e2.1]
  exact tk_size hok _
theorem uniM_fit (hok : ∀ t ∈ ts, TkOk t) (hts : ts.length ≤ 65536) : ∀ (f : Nat) {u : Un} {a o : Nat} {v : Un} {b p : Nat}, a ≤ ts.length → u.globals.length ≤ a → u.data.length ≤ a → u.funcs.length ≤ a → fitU u → uniM ts f u a o = some (.ok v b p) → fitU v := by
  intro f
  induction f with
  | zero => intro u a o v b p _ _ _ _ _ h; cases h
  | succ f ih =>
    intro u a o v b p ha hg hd hn hf h; rw [uniM] at h; rcases ite_or h with ⟨hk, h⟩ | ⟨hk, h⟩
    · cases h; exact hf
    rcases ite_or h with ⟨hk, h⟩ | ⟨hk, h⟩
    · obtain ⟨x, a1, o1, h1, h⟩ := rb_ok h
      have e1 := varM_ok h1; refine ih (u := ⟨u.globals ++ [x], u.data, u.funcs⟩) (a := a1) (by omega) (by simp; omega) (by show u.data.length ≤ a1; omega) (by show u.funcs.length ≤ a1; omega) ⟨by simp; omega, fun y hy => ?_, hf.dl, hf.dn, hf.fl, hf.fn⟩ h
      rcases List.mem_append.1 hy with hy | hy
      · exact hf.gn y hy
      · simp at hy; rw [hy]; exact varM_fit hok hts h1
    rcases ite_or h with ⟨hk, h⟩ | ⟨hk, h⟩
    · obtain ⟨x, a1, o1, h1, h⟩ := rb_ok h
      have e1 := datM_ok h1; refine ih (u := ⟨u.globals, u.data ++ [x], u.funcs⟩) (a := a1) (by omega) (by show u.globals.length ≤ a1; omega) (by simp; omega) (by show u.funcs.length ≤ a1; omega) ⟨hf.gl, hf.gn, by simp; omega, fun y hy => ?_, hf.fl, hf.fn⟩ h
      rcases List.mem_append.1 hy with hy | hy
      · exact hf.dn y hy
      · simp at hy; rw [hy]; exact datM_fit hok h1
    rcases ite_or h with ⟨hk, h⟩ | ⟨hk, h⟩
    · obtain ⟨x, a1, o1, h1, h⟩ := rb_ok h
      have e1 := funM_ok h1; refine ih (u := ⟨u.globals, u.data, u.funcs ++ [x]⟩) (a := a1) (by omega) (by show u.globals.length ≤ a1; omega) (by show u.data.length ≤ a1; omega) (by simp; omega) ⟨hf.gl, hf.gn, hf.dl, hf.dn, by simp; omega, fun y hy => ?_⟩ h
      rcases List.mem_append.1 hy with hy | hy
      · exact hf.fn y hy
      · simp at hy; rw [hy]; exact funM_fit hok hts h1
    · cases h
theorem uniM_fit0 (hok : ∀ t ∈ ts, TkOk t) (hts : ts.length ≤ 65536) {f : Nat} {v : Un} {b p : Nat} (h : uniM ts f ⟨[], [], []⟩ 0 0 = some (.ok v b p)) : fitU v :=
  uniM_fit hok hts f (Nat.zero_le _) (Nat.le_refl _) (Nat.le_refl _) (Nat.le_refl _) ⟨by simp, (by intro y hy; cases hy), by simp, (by intro y hy; cases hy), by simp, by simp⟩ h
def Er {α : Type} (n : Nat) (r : Option (Rs α)) : Prop := ∀ b e, r = some (.bad b e) → (e = 3 ∨ e = 20) ∧ b ≤ n
theorem Er.rb {α β : Type} {n : Nat} {r : Option (Rs α)} {k : α → Nat → Nat → Option (Rs β)} (h : Er n r) (hk : ∀ x a o, r = some (.ok x a o) → Er n (k x a o)) : Er n (rb r k) := fun b e q => by
  rcases rb_bad q with q | ⟨x, a, o, h1, q⟩
  · exact h b e q
  · exact hk x a o h1 b e q
theorem Er.ite {α : Type} {n : Nat} {c : Prop} [Decidable c] {x y : Option (Rs α)} (hx : c → Er n x) (hy : ¬ c → Er n y) : Er n (if c then x else y) := by
  by_cases h : c
  · rw [if_pos h]; exact hx h
  · rw [if_neg h]; exact hy h
theorem Er.ret {α : Type} {n : Nat} (x : α) (a o : Nat) : Er n (ret x a o) := fun b e q => by cases q
theorem Er.bad {α : Type} {n a : Nat} (h : a ≤ n) : Er (α := α) n (some (.bad a 3)) := fun b e q => by cases q; exact ⟨.inl rfl, h⟩
theorem Er.beg {n : Nat} (s : Bs) {a : Nat} (o : Nat) (h : a ≤ n) : Er n (begM ts s a o) := fun b e q => by
  unfold begM at q
  rcases ite_or (Option.some.inj q) with ⟨_, q⟩ | ⟨_, q⟩
  · cases q; exact ⟨.inl rfl, h⟩
  rcases ite_or q with ⟨_, q⟩ | ⟨_, q⟩
  · cases q; exact ⟨.inr rfl, h⟩
  · cases q
theorem Er.exp {n : Nat} (s : Bs) {a : Nat} (o : Nat) (h : a ≤ n) : Er n (expM ts s a o) := fun b e q => by
  unfold expM at q
  rcases ite_or (Option.some.inj q) with ⟨_, q⟩ | ⟨_, q⟩
  · cases q; exact ⟨.inl rfl, h⟩
  · cases q
theorem Er.en {n : Nat} (s : Bs) {a : Nat} (o : Nat) (h : a ≤ n) : Er n (endM ts s a o) := fun b e q => by
  unfold endM at q
  rcases ite_or (Option.some.inj q) with ⟨_, q⟩ | ⟨_, q⟩
  · cases q; exact ⟨.inl rfl, h⟩
  · cases q
theorem Er.tak {n : Nat} (k : Int) {a : Nat} (o : Nat) (h : a ≤ n) : Er n (takM ts k a o) := fun b e q => by
  unfold takM at q
  rcases ite_or (Option.some.inj q) with ⟨_, q⟩ | ⟨_, q⟩
  · cases q; exact ⟨.inl rfl, h⟩
  · cases q
theorem Er.nm {n : Nat} {a : Nat} (o : Nat) (h : a ≤ n) : Er n (nmM ts a o) := Er.rb (Er.tak _ _ h) fun _ _ _ _ => Er.ret _ _ _
theorem exM_le : ∀ f, (∀ a o x b p, exM ts f .op a o = some (.ok x b p) → b ≤ ts.length) ∧ (∀ l a o x b p, exM ts f (.ex l) a o = some (.ok x b p) → b ≤ ts.length) ∧ (∀ l y a o x b p, a ≤ ts.length → exM ts f (.lo l y) a o = some (.ok x b p) → b ≤ ts.length) := by
  intro f
  induction f with
  | zero => exact ⟨(fun _ _ _ _ _ h => by cases h), (fun _ _ _ _ _ _ h => by cases h), (fun _ _ _ _ _ _ _ _ h => by cases h)⟩
  | succ f ih =>
    obtain ⟨i1, i2, i3⟩ := ih
    have hin : ∀ q a o x b p, inn ts (exM ts f (.ex 1)) q a o = some (.ok x b p) → b ≤ ts.length := fun q a o x b p h => by
      obtain ⟨_, a1, o1, h1, h⟩ := rb_ok h; obtain ⟨y, a2, o2, h2, h⟩ := rb_ok h; obtain ⟨_, a3, o3, h3, h⟩ := rb_ok h; have e3 := endM_ok' h3; cases h
      omega
    refine ⟨fun a o x b p h => ?_, fun l a o x b p h => ?_, fun l y a o x b p ha h => ?_⟩
    · rw [exM] at h
      rcases ite_or h with ⟨hk, h⟩ | ⟨_, h⟩
      · have := pk_kind hk (by decide)
        cases h; omega
      rcases ite_or h with ⟨hk, h⟩ | ⟨_, h⟩
      · have := pk_kind hk (by decide)
        cases h; omega
      rcases ite_or h with ⟨hk, h⟩ | ⟨_, h⟩
      · cases hw : accW (pk ts a).text with
        | none => rw [hw] at h; cases h
        | some p => rw [hw] at h; exact hin _ _ _ _ _ _ h
      rcases ite_or h with ⟨hk, h⟩ | ⟨_, h⟩
      · rcases ite_or h with ⟨_, h⟩ | ⟨_, h⟩
        · exact hin _ _ _ _ _ _ h
        rcases ite_or h with ⟨_, h⟩ | ⟨_, h⟩
        · obtain ⟨_, a1, o1, h1, h⟩ := rb_ok h
          obtain ⟨y, a2, o2, h2, h⟩ := rb_ok h; have := i1 _ _ _ _ _ h2; cases h
          exact this
        · cases h
      · cases h
    · rw [exM] at h
      obtain ⟨y, a1, o1, h1, h⟩ := rb_ok h; exact i3 _ _ _ _ _ _ _ (i1 _ _ _ _ _ h1) h
    · rw [exM] at h
      rcases ite_or h with ⟨_, h⟩ | ⟨_, h⟩
      · cases h; exact ha
      · obtain ⟨z, a1, o1, h1, h⟩ := rb_ok h
        exact i3 _ _ _ _ _ _ _ (i2 _ _ _ _ _ _ h1) h
theorem exM_er : ∀ f, (∀ a o, a ≤ ts.length → Er ts.length (exM ts f .op a o)) ∧ (∀ l a o, a ≤ ts.length → Er ts.length (exM ts f (.ex l) a o)) ∧ (∀ l x a o, a ≤ ts.length → Er ts.length (exM ts f (.lo l x) a o)) := by
  intro f
  induction f with
  | zero => exact ⟨(fun _ _ _ _ _ h => by cases h), (fun _ _ _ _ _ _ h => by cases h), (fun _ _ _ _ _ _ _ h => by cases h)⟩
  | succ f ih =>
    obtain ⟨i1, i2, i3⟩ := ih; obtain ⟨l1, l2, l3⟩ := exM_le (ts := ts) f
    have hin : ∀ q a o, a ≤ ts.length → Er ts.length (inn ts (exM ts f (.ex 1)) q a o) := fun q a o ha => by
      refine Er.rb (Er.beg _ _ ha) fun _ a1 o1 h1 => Er.rb ?_ fun _ a2 o2 h2 => Er.rb (Er.en _ _ (l2 _ _ _ _ _ _ h2)) fun _ _ _ _ => Er.ret _ _ _
      have e1 := begM_ok h1; have := sees_lt e1.1; exact i2 _ _ _ (by omega)
    refine ⟨fun a o ha => ?_, fun l a o ha => ?_, fun l x a o ha => ?_⟩
    · rw [exM]
      refine Er.ite (fun _ => Er.ret _ _ _) fun _ => Er.ite (fun _ => Er.ret _ _ _) fun _ => Er.ite (fun hk => ?_) fun _ => Er.ite (fun hk => ?_) fun _ => Er.bad ha
      · have hl := pk_kind hk (by decide)
        cases accW (pk ts a).text with
        | none => exact Er.bad ha
        | some p => exact hin _ _ _ (by omega)
      · refine Er.ite (fun _ => hin _ _ _ ha) fun _ => Er.ite (fun _ => ?_) fun _ => Er.bad ha
        refine Er.rb (Er.beg _ _ ha) fun _ a1 o1 h1 => Er.rb ?_ fun _ _ _ _ => Er.ret _ _ _
        have e1 := begM_ok h1; have := sees_lt e1.1; exact i1 _ _ (by omega)
    · rw [exM]
      exact Er.rb (i1 _ _ ha) fun x b p h1 => i3 _ _ _ _ (l1 _ _ _ _ _ h1)
    · rw [exM]
      refine Er.ite (fun _ => Er.ret _ _ _) fun hk => ?_
      have hl := stR_lt (ts := ts) (a := a) (fun e => hk (.inl e))
      exact Er.rb (i2 _ _ _ (by omega)) fun y b p h1 => i3 _ _ _ _ (l2 _ _ _ _ _ _ h1)
theorem tyM_er : ∀ f, (∀ a o, a ≤ ts.length → Er ts.length (tyM ts f .ty a o)) ∧ (∀ l a o, a ≤ ts.length → Er ts.length (tyM ts f (.fl l) a o)) := by
  intro f
  induction f with
  | zero => exact ⟨(fun _ _ _ _ _ h => by cases h), (fun _ _ _ _ _ _ h => by cases h)⟩
  | succ f ih =>
    obtain ⟨i1, i2⟩ := ih; obtain ⟨l1, l2⟩ := tyM_open ts f; refine ⟨fun a o ha => ?_, fun l a o ha => ?_⟩
    · rw [tyM]
      refine Er.ite (fun _ => ?_) fun _ => Er.ite (fun _ => Er.ret _ _ _) fun _ => Er.ite (fun hk => ?_) fun _ => Er.ite (fun hk => ?_) fun _ => Er.ite (fun hk => ?_) fun _ => Er.bad ha
      · cases intR (pk ts a).text with
        | none => exact Er.bad ha
        | some p => exact Er.ret _ _ _
      · have hl := sees_lt hk
        refine Er.rb (Er.beg _ _ ha) fun _ a1 o1 h1 => Er.rb (i1 _ _ ?_) fun _ _ _ _ => Er.ret _ _ _
        have := begM_ok h1; omega
      · have hl := sees_lt hk
        refine Er.rb (Er.beg _ _ ha) fun _ a1 o1 h1 => ?_
        have e1 := begM_ok h1; refine Er.rb (Er.tak _ _ (by omega)) fun _ a2 o2 h2 => ?_
        have e2 := takM_ok h2; have e4 := pk_kind e2.1 (by decide)
        refine Er.rb (Er.exp _ _ (by omega)) fun _ a3 o3 h3 => ?_
        have e3 := expM_ok' h3; exact Er.rb (i1 _ _ (by omega)) fun _ _ _ _ => Er.ret _ _ _
      · have hl := sees_lt hk
        refine Er.rb (Er.beg _ _ ha) fun _ a1 o1 h1 => i2 _ _ _ ?_
        have := begM_ok h1; omega
    · rw [tyM]
      refine Er.ite (fun _ => Er.rb (Er.en _ _ ha) fun _ _ _ _ => Er.ret _ _ _) fun _ => Er.rb (Er.ite (fun _ => Er.exp _ _ ha) fun _ => Er.ret _ _ _) fun _ a1 o1 h1 => ?_
      have e1 : a1 ≤ ts.length := by
        rcases ite_or h1 with ⟨_, h1⟩ | ⟨_, h1⟩
        · have := expM_ok' h1; omega
        · cases h1; exact ha
      refine Er.rb (Er.tak _ _ e1) fun _ a2 o2 h2 => ?_
      have e2 := takM_ok h2; have e4 := pk_kind e2.1 (by decide)
      refine Er.rb (Er.exp _ _ (by omega)) fun _ a3 o3 h3 => ?_
      have e3 := expM_ok' h3; exact Er.rb (i1 _ _ (by omega)) fun _ a5 o5 h5 => i2 _ _ _ (l1 _ _ _ _ _ h5).2.2
theorem stM_er : ∀ f, (∀ a o, a ≤ ts.length → Er ts.length (stM ts f .st a o)) ∧ (∀ l a o, a ≤ ts.length → Er ts.length (stM ts f (.li l) a o)) ∧ (∀ a o, a ≤ ts.length → Er ts.length (stM ts f .br a o)) ∧ (∀ c a o, a ≤ ts.length → Er ts.length (stM ts f (.ca c) a o)) := by
  intro f
  induction f with
  | zero => exact ⟨(fun _ _ _ _ _ h => by cases h), (fun _ _ _ _ _ _ h => by cases h), (fun _ _ _ _ _ h => by cases h), (fun _ _ _ _ _ _ h => by cases h)⟩
  | succ f ih =>
    obtain ⟨i1, i2, i3, i4⟩ := ih; obtain ⟨l1, l2, l3, l4⟩ := stM_open ts f; have ex : ∀ l a o, a ≤ ts.length → Er ts.length (exM ts f (.ex l) a o) := (exM_er f).2.1
    have exl : ∀ {l a o x b p}, exM ts f (.ex l) a o = some (.ok x b p) → b ≤ ts.length := fun h => (exM_le f).2.1 _ _ _ _ _ _ h
    refine ⟨fun a o ha => ?_, fun l a o ha => ?_, fun a o ha => ?_, fun c a o ha => ?_⟩
    · rw [stM]
      have sim : ∀ k a o, a ≤ ts.length → Er ts.length (simpM ts k a o) := fun k a o ha => Er.rb (Er.exp _ _ ha) fun _ _ _ _ => Er.ret _ _ _
      have sto : ∀ w a o, a ≤ ts.length → Er ts.length (storM ts f w a o) := fun w a o ha => by
        refine Er.rb (Er.beg _ _ ha) fun _ a1 o1 h1 => ?_
        have e1 := begM_ok h1; have := sees_lt e1.1; refine Er.rb (ex _ _ _ (by omega)) fun _ a2 o2 h2 => Er.rb (Er.exp _ _ (exl h2)) fun _ a3 o3 h3 => ?_
        have e3 := expM_ok' h3; refine Er.rb (ex _ _ _ (by omega)) fun _ a4 o4 h4 => Er.rb (Er.en _ _ (exl h4)) fun _ a5 o5 h5 => ?_
        have e5 := endM_ok' h5; exact Er.rb (Er.exp _ _ (by omega)) fun _ _ _ _ => Er.ret _ _ _
      have nam : ∀ k a o, a ≤ ts.length → Er ts.length (rb (nmM ts a o) fun n a o => rb (expM ts [59] a o) fun _ a o => ret (oneS (.mk k 0 n [] [] [] [])) a o) := fun k a o ha => by
        refine Er.rb (Er.nm _ ha) fun _ a1 o1 h1 => ?_
        have e1 := nmM_ok h1; exact Er.rb (Er.exp _ _ (by omega)) fun _ _ _ _ => Er.ret _ _ _
      refine Er.ite (fun hk => ?_) fun _ => Er.ite (fun hk => nam _ _ _ (by have := sees_lt hk; omega)) fun _ => Er.ite (fun hk => nam _ _ _ (by have := sees_lt hk; omega)) fun _ =>
        Er.ite (fun hk => sto _ _ _ (by have := sees_lt hk; omega)) fun _ => Er.ite (fun hk => sto _ _ _ (by have := sees_lt hk; omega)) fun _ => Er.ite (fun hk => sto _ _ _ (by have := sees_lt hk; omega)) fun _ => Er.ite (fun hk => ?_) fun _ => Er.ite (fun hk => ?_) fun _ => Er.ite (fun hk => ?_) fun _ => Er.ite (fun hk => ?_) fun _ => Er.ite (fun hk => ?_) fun _ =>
        Er.ite (fun hk => sim _ _ _ (by have := sees_lt hk; omega)) fun _ => Er.ite (fun hk => sim _ _ _ (by have := sees_lt hk; omega)) fun _ => Er.ite (fun hk => sim _ _ _ (by have := sees_lt hk; omega)) fun _ => Er.ite (fun hk => sim _ _ _ (by have := sees_lt hk; omega)) fun _ => Er.bad ha
      · have hl := pk_kind hk (by decide)
        refine Er.rb (Er.nm _ ha) fun _ a1 o1 h1 => ?_
        have e1 := nmM_ok h1; refine Er.ite (fun _ => Er.ret _ _ _) fun _ => Er.rb (Er.exp _ _ (by omega)) fun _ a2 o2 h2 => ?_
        have e2 := expM_ok' h2; refine Er.ite (fun hk => Er.rb (Er.exp _ _ (by have := sees_lt hk; omega)) fun _ _ _ _ => Er.ret _ _ _) fun _ => ?_
        exact Er.rb (ex _ _ _ (by omega)) fun _ _ _ h3 => Er.rb (Er.exp _ _ (exl h3)) fun _ _ _ _ => Er.ret _ _ _
      · have hl := sees_lt hk
        exact Er.rb (ex _ _ _ (by omega)) fun _ _ _ h3 => Er.rb (Er.exp _ _ (exl h3)) fun _ _ _ _ => Er.ret _ _ _
      · have hl := sees_lt hk
        refine Er.rb (ex _ _ _ (by omega)) fun _ a1 o1 h1 => Er.rb (i3 _ _ (exl h1)) fun _ a2 o2 h2 => Er.ite (fun hk => ?_) fun _ => Er.ret _ _ _
        have := sees_lt hk; exact Er.rb (i3 _ _ (by omega)) fun _ _ _ _ => Er.ret _ _ _
      · have hl := sees_lt hk
        exact Er.rb (ex _ _ _ (by omega)) fun _ a1 o1 h1 => Er.rb (i3 _ _ (exl h1)) fun _ a2 o2 h2 => Er.ret _ _ _
      · have hl := sees_lt hk
        exact Er.rb (i3 _ _ (by omega)) fun _ a2 o2 h2 => Er.ret _ _ _
      · have hl := sees_lt hk
        refine Er.rb (ex _ _ _ (by omega)) fun _ a1 o1 h1 => Er.rb (Er.beg _ _ (exl h1)) fun _ a2 o2 h2 => ?_
        have e2 := begM_ok h2; have := sees_lt e2.1; exact Er.rb (i4 _ _ _ (by omega)) fun _ _ _ _ => Er.ret _ _ _
    · rw [stM]
      exact Er.ite (fun _ => Er.ret _ _ _) fun _ => Er.rb (i1 _ _ ha) fun _ a1 o1 h1 => i2 _ _ _ (l1 _ _ _ _ _ h1).2.2
    · rw [stM]
      refine Er.rb (Er.beg _ _ ha) fun _ a1 o1 h1 => ?_
      have e1 := begM_ok h1; have := sees_lt e1.1; refine Er.rb (i2 _ _ _ (by omega)) fun _ a2 o2 h2 => ?_
      have e2 := l2 _ _ _ _ _ _ h2; exact Er.rb (Er.en _ _ (by omega)) fun _ _ _ _ => Er.ret _ _ _
    · rw [stM]
      refine Er.ite (fun hk => Er.ite (fun hn => ?_) fun _ => Er.bad (by have := sees_lt hk; omega)) fun _ => Er.rb (Er.en _ _ ha) fun _ _ _ _ => Er.ret _ _ _
      have hl := sees_lt hk; have hl2 := pk_kind hn.1 (by decide)
      exact Er.rb (i3 _ _ (by omega)) fun _ a1 o1 h1 => i4 _ _ _ (l3 _ _ _ _ _ h1).2.2
theorem Er.acc {n : Nat} (s : Bs) (a o : Nat) : Er n (accM ts s a o) := Er.ite (fun _ => Er.ret _ _ _) fun _ => Er.ret _ _ _
theorem acc_le {s : Bs} {a o : Nat} {w : Bool} {b p : Nat} (h : accM ts s a o = some (.ok w b p)) (ha : a ≤ ts.length) : b ≤ ts.length := by
  rcases ite_or h with ⟨hk, h⟩ | ⟨_, h⟩
  · have := sees_lt hk
    cases h; omega
  · cases h; exact ha
theorem varM_er {f a o : Nat} (ha : a ≤ ts.length) : Er ts.length (varM ts f a o) := by
  refine Er.rb (Er.exp _ _ ha) fun _ a1 o1 h1 => ?_
  have e1 := expM_ok' h1
  refine Er.rb (Er.nm _ (by omega)) fun _ a2 o2 h2 => ?_
  have e2 := nmM_ok h2
  refine Er.rb (Er.exp _ _ (by omega)) fun _ a3 o3 h3 => ?_
  have e3 := expM_ok' h3
  exact Er.rb ((tyM_er f).1 _ _ (by omega)) fun _ a4 o4 h4 => Er.rb (Er.exp _ _ ((tyM_open ts f).1 _ _ _ _ _ h4).2.2) fun _ _ _ _ => Er.ret _ _ _
theorem datM_er {a o : Nat} (ha : a ≤ ts.length) : Er ts.length (datM ts a o) := by
  refine Er.rb (Er.exp _ _ ha) fun _ a1 o1 h1 => ?_
  have e1 := expM_ok' h1
  refine Er.rb (Er.nm _ (by omega)) fun _ a2 o2 h2 => ?_
  have e2 := nmM_ok h2
  refine Er.rb (Er.tak _ _ (by omega)) fun _ a3 o3 h3 => ?_
  have e3 := takM_ok h3
  have q3 := pk_kind e3.1 (by decide)
  refine Er.rb (Er.acc _ _ _) fun _ a4 o4 h4 => Er.rb (Er.acc _ _ _) fun _ a5 o5 h5 => ?_
  have e5 := acc_le h5 (acc_le h4 (by omega))
  refine Er.rb (Er.exp _ _ e5) fun _ a6 o6 h6 => ?_
  have e6 := expM_ok' h6
  refine Er.rb (Er.tak _ _ (by omega)) fun _ a7 o7 h7 => ?_
  have e7 := takM_ok h7
  have q7 := pk_kind e7.1 (by decide)
  exact Er.rb (Er.exp _ _ (by omega)) fun _ _ _ _ => Er.ret _ _ _
theorem vasM_er : ∀ (f : Nat) (l : List Va) (a o : Nat), a ≤ ts.length → Er ts.length (vasM ts f l a o) := by
  intro f
  induction f with
  | zero => intro l a o _ b e h; cases h
  | succ f ih =>
    intro l a o ha; rw [vasM]; exact Er.ite (fun hk => Er.rb (varM_er ha) fun _ a1 o1 h1 => ih _ _ _ (varM_ok h1).2.2) fun _ => Er.ret _ _ _
theorem vasM_le : ∀ (f : Nat) {l : List Va} {a o : Nat} {v : List Va} {b p : Nat}, a ≤ ts.length → vasM ts f l a o = some (.ok v b p) → b ≤ ts.length := by
  intro f
  induction f with
  | zero => intro l a o v b p _ h; cases h
  | succ f ih =>
    intro l a o v b p ha h; rw [vasM] at h; rcases ite_or h with ⟨hk, h⟩ | ⟨hk, h⟩
    · obtain ⟨_, a1, o1, h1, h⟩ := rb_ok h
      exact ih (varM_ok h1).2.2 h
    · cases h; exact ha
theorem funM_er {f a o : Nat} (ha : a ≤ ts.length) : Er ts.length (funM ts f a o) := by
  refine Er.rb (Er.exp _ _ ha) fun _ a1 o1 h1 => ?_
  have e1 := expM_ok' h1
  refine Er.rb (Er.nm _ (by omega)) fun _ a2 o2 h2 => ?_
  have e2 := nmM_ok h2
  refine Er.rb (Er.beg _ _ (by omega)) fun _ a3 o3 h3 => ?_
  have e3 := begM_ok h3
  have q3 := sees_lt e3.1
  refine Er.rb (vasM_er _ _ _ _ (by omega)) fun _ a4 o4 h4 => ?_
  have e4 := vasM_le f (by omega) h4
  refine Er.rb ((stM_er f).2.1 _ _ _ e4) fun _ a5 o5 h5 => ?_
  have e5 := (stM_open ts f).2.1 _ _ _ _ _ _ h5
  exact Er.rb (Er.en _ _ (by omega)) fun _ _ _ _ => Er.ret _ _ _
theorem uniM_er : ∀ (f : Nat) (u : Un) (a o : Nat), a ≤ ts.length → Er ts.length (uniM ts f u a o) := by
  intro f
  induction f with
  | zero => intro u a o _ b e h; cases h
  | succ f ih =>
    intro u a o ha; rw [uniM]
    exact Er.ite (fun _ => Er.ret _ _ _) fun _ => Er.ite (fun hk => Er.rb (varM_er ha) fun _ a1 o1 h1 => ih _ _ _ (varM_ok h1).2.2) fun _ => Er.ite (fun hk => Er.rb (datM_er ha) fun _ a1 o1 h1 => ih _ _ _ (datM_ok h1).2.2) fun _ =>
      Er.ite (fun hk => Er.rb (funM_er ha) fun _ a1 o1 h1 => ih _ _ _ (funM_ok h1).2.2) fun _ => Er.bad ha
theorem Er.all {α : Type} {r : Option (Rs α)} (h : Er ts.length r) (hl : ∀ x a o, r = some (.ok x a o) → a ≤ ts.length) : Er ts.length (allM ts r) := Er.rb h fun x a o h1 => Er.ite (fun _ => Er.bad (hl x a o h1)) fun _ => Er.ret _ _ _
end
end Go.Proofs.YtmbmmckagcdapaaGreatDoor
