import Derived.Test.YtmbmmckagcdapaaGreatDoorJ11
import Derived.Test.YtmbmmckagcdapaaGreatDoorJ34
import Derived.Test.YtmbmmckagcdapaaGreatDoorJ13
import Derived.Test.YtmbmmckagcdapaaGreatDoorJ12
set_option linter.unusedSimpArgs false
set_option linter.unusedVariables false
set_option linter.unnecessarySimpa false
namespace Go.Proofs.YtmbmmckagcdapaaGreatDoor
open Go.RowKit
theorem pair_cond0 {m n : Nat} {a : Int} (h : (decide ((m : Int) < (n : Int)) && decide (a ≥ 0)) = true) : m < n ∧ 0 ≤ a := by
  simp only [Bool.and_eq_true, decide_eq_true_eq] at h
  exact ⟨by omega, by omega⟩
theorem pair_stop0 {α : Type} {f : α → Int → Int} {l : List α} {m : Nat} {n : Int} (hm : m ≤ l.length) (h : (decide ((m : Int) < (l.length : Int)) && decide (pfold f (l.take m) n ≥ 0)) = false) : pfold f (l.take m) n = pfold f l n := by
  simp only [Bool.and_eq_false_iff, decide_eq_false_iff_not] at h
  by_cases hp : 0 ≤ pfold f (l.take m) n
  · obtain rfl : m = l.length := by rcases h with h | h <;> omega
    rw [List.take_length]
  · exact (pfold_all hp).symm
theorem Y72_ZB1 : type_of% (AI @F_ag_44 (AI @F_ag_46 (AI @F_el_44 (AI @F_fl_46_4 (AI @F_sz_44 (@F_sz_46)))))) := AI @F_ag_44 (AI @F_ag_46 (AI @F_el_44 (AI @F_fl_46_4 (AI @F_sz_44 (@F_sz_46)))))
theorem I1_ZB1 : type_of% (AI (@exV_id) @exL_id) := (AI (@exV_id) @exL_id)
theorem c_eparts : ∀ (t : Ex), fitE t → ∀ most n : Int, 0 ≤ most → most ≤ 4194304 → 0 ≤ n → n ≤ 4194304 → PC Tryz.prog 72 [exV t, (.im (.int .i64 (most))), (.im (.int .i64 (n)))] (.im (.int .i64 (epa t most n))) := by
  refine Ex.induct fun o k s w l hE0 => ?_
  intro hfit most n hq hq2 hn hn2
  obtain ⟨hl1, hfE⟩ := fitE_mk hfit
  rw [epa_mk]
  refine PC.enter 44 Tryz.func72 rfl (by decide) rfl rfl (s := [(0, exV (.mk o k s w l)), (1, (.im (.int .i64 (most)))), (2, (.im (.int .i64 (n))))]) (by rfl) ?_
  simp only [exV_mk]
  refine wG Y72_ZB1 True.intro ?_
  refine AWp.condAB rfl rfl (fun hE => ?_) (fun hE => ?_)
  · simp only [Bool.or_eq_true, decide_eq_true_eq] at hE
    rw [if_pos (by omega)]
    refine wG Y72_ZB1 True.intro ?_; exact Fin.oneP
  simp only [Bool.or_eq_false_iff, decide_eq_false_iff_not] at hE
  have hw : IntKind.i64.wrap (n - 1) = n - 1 := wrap_in (by omega)
  have hv : IntKind.i64.wrap (most - 1) = most - 1 := wrap_in (by omega)
  rw [if_neg (by omega)]
  refine wG Y72_ZB1 hw ?_
  refine AWp.loop ?_
  refine ALp.cutP 1 [(1, (.im (.int .i64 (most)))), (3, .pt 0 0), (7, (.im (.int .i64 (pfold (fun x n => epa x (most - 1) n) (l.take (0)) (n - 1))))), (8, (.im (.int .i64 ((((0 : Nat)) : Int)))))] [.box [(.im (.int .i64 (o))), .im (.int .u32 k), .im (.string s), (.im (.int .i64 (w))), .sl (l.map exV) .ro]] I1_ZB1 ?_
  refine ALp.upto l.length (fun _ => True) (fun m => ⟨dn 44 [(1, (.im (.int .i64 (most)))), (3, .pt 0 0), (7, (.im (.int .i64 (pfold (fun x n => epa x (most - 1) n) (l.take (m)) (n - 1))))), (8, (.im (.int .i64 ((((m : Nat)) : Int)))))], ofl [.box [(.im (.int .i64 (o))), .im (.int .u32 k), .im (.string s), (.im (.int .i64 (w))), .sl (l.map exV) .ro]]⟩) ?_ 0 (Nat.zero_le _) trivial
  intro m hm _ hnext
  refine wG Y72_ZB1 @Int.natCast_nonneg ?_
  refine AWp.condAB rfl rfl (fun hE => ?_) (fun hE => ?_)
  · obtain ⟨hlt, hp⟩ := pair_cond0 hE
    have hlt' : (m : Int) < (l.length : Int) := by omega
    have hm1 := wrap_succ hlt (by omega)
    have hb := pfold_bound (f := fun x n => epa x (most - 1) n) (l := l.take m) (fun t _ n hn => epa_bound t _ n hn) (n - 1) (by omega)
    have hc := hE0 l[m] (List.getElem_mem hlt) (hfE _ (List.getElem_mem hlt)) (most - 1) _ (by omega) (by omega) hp (by omega)
    rw [← pfold_take (f := fun x n => epa x (most - 1) n) hlt hp] at hc
    have hg := get_some hlt; refine wG Y72_ZB1 (AI hlt' (AI hg (AI hv (AI (@Int.natCast_nonneg) BN01)))) ?_; refine AR.callP hc @exV_eq I1_ZB1 ?_; refine goG Y72_ZB1 BN01 ?_; refine wG Y72_ZB1 hm1 ?_; refine ALp.cutP 1 [(1, (.im (.int .i64 (most)))), (3, .pt 0 0), (7, (.im (.int .i64 (pfold (fun x n => epa x (most - 1) n) (l.take (m + 1)) (n - 1))))), (8, (.im (.int .i64 ((((m + 1 : Nat)) : Int)))))] [.box [(.im (.int .i64 (o))), .im (.int .u32 k), .im (.string s), (.im (.int .i64 (w))), .sl (l.map exV) .ro]] I1_ZB1 ?_
    exact hnext (m + 1) (by omega) (by omega) trivial
  rw [pair_stop0 hm hE]
  clear hnext hE
  refine wG Y72_ZB1 True.intro ?_
  exact Fin.oneP
theorem Y30_ZB1 : type_of% (AI @F_ag_46 (@F_sz_46)) := AI @F_ag_46 (@F_sz_46)
theorem c_smallE (e : Ex) (hf : fitE e) (most : Int) (h0 : 0 ≤ most) (h1 : most ≤ 4194304) : PC Tryz.prog 30 [exV e, (.im (.int .i64 (most)))] (.im (.bool (smE e most))) := by
  have hc := c_eparts e hf most 3000 h0 h1 (by decide) (by decide)
  unfold smE
  refine PC.enter 9 Tryz.func30 rfl (by decide) rfl rfl (s := [(0, exV e), (1, (.im (.int .i64 (most))))]) (by rfl) ?_
  simp only [exV_eq]
  refine wG Y30_ZB1 BN01 ?_
  refine AR.callP hc @exV_eq I1_ZB1 ?_
  refine goG Y30_ZB1 True.intro ?_
  refine wG Y30_ZB1 True.intro ?_
  exact Fin.oneP
end Go.Proofs.YtmbmmckagcdapaaGreatDoor
namespace Go.Proofs.YtmbmmckagcdapaaGreatDoor
inductive StF : Nd → Prop
  | asg (n : ByteArray) (a : Ex) (hn : nameT n = true) (ha : efm a = true) : StF (.mk 1 0 n [a] [] [] [])
  | sto (w : Int) (a b : Ex) (hw : w = 1 ∨ w = 2 ∨ w = 4) (ha : efm a = true) (hb : efm b = true) : StF (.mk 2 w ByteArray.empty [a, b] [] [] [])
  | inp (n : ByteArray) (hn : nameT n = true) : StF (.mk 3 0 n [] [] [] [])
  | out (a : Ex) (ha : efm a = true) : StF (.mk 4 0 ByteArray.empty [a] [] [] [])
  | nam (k : Int) (n : ByteArray) (hk : k = 5 ∨ k = 12) (hn : nameT n = true) : StF (.mk k 0 n [] [] [] [])
  | lab (n : ByteArray) (hn : nameT n = true) : StF (.mk 13 0 n [] [] [] [])
  | smp (k : Int) (hk : k = 10 ∨ k = 11 ∨ k = 14 ∨ k = 15) : StF (.mk k 0 ByteArray.empty [] [] [] [])
  | iff (a : Ex) (l el : List Nd) (ha : efm a = true) : StF (.mk 6 0 ByteArray.empty [a] l el [])
  | whl (a : Ex) (l : List Nd) (ha : efm a = true) : StF (.mk 7 0 ByteArray.empty [a] l [] [])
  | lop (l : List Nd) : StF (.mk 8 0 ByteArray.empty [] l [] [])
  | swi (a : Ex) (cs : List (List Nd)) (ha : efm a = true) (h1 : 1 ≤ cs.length) (h2 : cs.length ≤ 64) : StF (.mk 9 0 ByteArray.empty [a] [] [] cs)
end Go.Proofs.YtmbmmckagcdapaaGreatDoor
namespace Go.Proofs.YtmbmmckagcdapaaGreatDoor
section
variable {ts : List Tk}
def room (o : Nat) (d : Int) : Prop := (o : Int) + 2 * d + 62 ≤ 256
end
end Go.Proofs.YtmbmmckagcdapaaGreatDoor
namespace Go.Proofs.YtmbmmckagcdapaaGreatDoor
theorem rdX_is {α : Type} {ts : List Tk} {z x : α} {r : Nat → Option (Rs α)} {f0 F b o : Nat} (hm : ∀ f, Le (r f) (r (f + 1))) (hs : Sm (r f0)) (h2 : ∀ g, F ≤ g → allM ts (r g) = some (.ok x b o)) : rdX ts z (r f0) = (x, 0, 0) := by
  obtain ⟨y, hy⟩ := Sm.all (ts := ts) hs
  have hy2 := fuel_eq (r := fun f => allM ts (r f)) (fun f => Le.rb (hm f) fun _ _ _ => Le.refl _) hy h2
  unfold rdX
  rw [hy, hy2]
theorem scnR_Sc {s : Bs} {ts0 : List Tk} (hsz : s.length ≤ 65536) (h : Sc s ts0) : (scnR s).2 = 0 ∧ (scnR s).1.map core = ts0.map core := by
  obtain ⟨h1, h2⟩ := Sc.scan h
  unfold scnR
  rw [if_neg (by omega), scnB_scan]
  exact ⟨by show (if (scan s).2 then (0 : Int) else 3) = 0; rw [h1]; rfl, h2⟩
theorem expP_of {s : Bs} {ts0 : List Tk} {x : Ex} {F b o : Nat} (hsz : s.length ≤ 65536) (hsc : Sc s ts0) (hr : ∀ f, F ≤ f → allM ts0 (exM ts0 f (.ex 1) 0 0) = some (.ok x b o)) (he : esh x 64 = true) : expP s = (x, 0) := by
  obtain ⟨h0, h1⟩ := scnR_Sc hsz hsc
  have e : exR (scnR s).1 = (x, 0, 0) := rdX_is (r := fun f => exM (scnR s).1 f (.ex 1) 0 0) (exM_mono _ · _ _ _) ((exM_some _ _).2.1 _ _ _ (by unfold fu; omega)) (fun f hf => by rw [cz_all h1, cz_ex h1]; exact hr f hf)
  unfold expP
  rw [if_neg (by rw [h0]; decide), e, if_neg (show ¬ ((0 : Int) ≠ 0) by decide), if_pos he]
theorem rd_allP {ts : List Tk} {e : Ex} (hf : efm e = true) (hn : n32 e = true) (hg : gE e + 1 ≤ 256) (hd : ts = opT [40] :: (tkE e ++ [opT [41]])) : ∃ F, ∀ f, F ≤ f → allM ts (exM ts f (.ex 1) 0 0) = some (.ok e ts.length 0) := by
  have h0 : ts.drop 0 = opT [40] :: (tkE e ++ [opT [41]]) := by rw [List.drop_zero]; exact hd
  obtain ⟨k1, k2⟩ := rd_par (rd_ex e hf hn) (o := 0) h0 (by omega)
  have hx := ev_par (o := 0) h0 k1 k2 (by omega)
  have hl : ts.drop (0 + 1 + (tkE e).length + 1) = [] := drop_1 k2
  have hs : ∀ l, stp l (pk ts (0 + 1 + (tkE e).length + 1)) := fun l => by rw [pk_ge (List.drop_eq_nil_iff.1 hl)]; exact .inl (by decide)
  obtain ⟨F, hF⟩ := evx_ex hx (evx_stop (hs 1))
  refine ⟨F, fun f hf => ?_⟩
  rw [hF f hf]
  show (if _ < _ then _ else _) = _
  have e2 : 0 + 1 + (tkE e).length + 1 = ts.length := by rw [hd]; simp; omega
  rw [e2, if_neg (Nat.lt_irrefl _)]
  rfl
theorem prE_esh {e : Ex} (h : prE e ≠ []) : esh e 64 = true := by
  unfold prE at h
  cases q : esh e 64 with
  | true => rfl
  | false => rw [q] at h; exact absurd rfl h
theorem expP_print {x : Ex} (hn : n32 x = true) (h : prE x ≠ []) (hl : (prE x).length ≤ 65534) : expP (prE x) = (x, 0) ∧ expP ([40] ++ (prE x ++ [41])) = (x, 0) := by
  have he := prE_esh h
  obtain ⟨hf, ht⟩ := prE_inv h
  rw [ht] at hl ⊢
  have hg := (gE_le x hf 63 he).1
  have hsc := (sc_ex x hf hn).2
  constructor
  · obtain ⟨F, hF⟩ := rd_all hf hn (by omega) rfl
    have := hsc [] [] rfl Sc.nil; rw [List.append_nil, List.append_nil] at this; exact expP_of (by omega) this hF he
  · obtain ⟨F, hF⟩ := rd_allP hf hn (by omega) rfl
    refine expP_of (by simp only [List.length_append, List.length_cons, List.length_nil]; omega) ?_ hF he
    exact Sc.op (by decide) (hsc [41] [opT [41]] rfl (Sc.op (by decide) Sc.nil))
end Go.Proofs.YtmbmmckagcdapaaGreatDoor
namespace Go.Proofs.YtmbmmckagcdapaaGreatDoor
open Go.RowKit
theorem n32_fit : ∀ e : Ex, fitE e → n32 e = true := by
  refine Ex.induct fun o n s w l hl => ?_
  intro hf
  obtain ⟨_, h2⟩ := fitE_mk hf
  obtain ⟨_, h3, _⟩ := fitE_num hf
  rw [n32_mk, Bool.and_eq_true, decide_eq_true_eq, List.all_eq_true]
  exact ⟨by omega, fun t ht => hl t ht (h2 t ht)⟩
theorem Y10_ZB2 : type_of% (AI @F_ag_46 (AI @F_al_46 (AI @F_sz_46 (@F_un_9)))) := AI @F_ag_46 (AI @F_al_46 (AI @F_sz_46 (@F_un_9)))
theorem I1_ZB2 : type_of% (AI (@exV_id) @exL_id) := (AI (@exV_id) @exL_id)
theorem c_exrt (x : Ex) (hx : fitE x) : PC Tryz.prog 10 [exV x] (.im (.bool (true))) := by
  have qx := c_exH
  have q1 := c_smallE x hx 70 (by decide) (by decide)
  cases pa : smE x 70 with
  | false =>
    rw [pa] at q1; refine PC.enter 53 Tryz.func10 rfl (by decide) rfl rfl (s := [(0, exV x)]) (by rfl) ?_
    refine wG Y10_ZB2 EX ?_; refine AR.callP q1 @exV_eq I1_ZB2 ?_; refine goG Y10_ZB2 EX ?_; refine wG Y10_ZB2 EX ?_; refine AR.callP qx True.intro I1_ZB2 ?_; refine goG Y10_ZB2 True.intro ?_; refine wG Y10_ZB2 True.intro ?_; exact Fin.oneP
  | true =>
  rw [pa] at q1
  have la := smE_len (n32_fit x hx) pa
  have q3 := c_PrintExpr x hx (by omega)
  have hlaw := @expP_print x (n32_fit x hx)
  have qs := c_SameExpr x hx x hx
  rw [samE_refl] at qs
  generalize prE x = s at la q3 hlaw
  cases hs : (s == []) with
  | true =>
    refine PC.enter 53 Tryz.func10 rfl (by decide) rfl rfl (s := [(0, exV x)]) (by rfl) ?_
    refine wG Y10_ZB2 EX ?_; refine AR.callP q1 @exV_eq I1_ZB2 ?_; refine goG Y10_ZB2 EX ?_; refine wG Y10_ZB2 EX ?_; refine AR.callP q3 @exV_eq I1_ZB2 ?_; refine goG Y10_ZB2 (AI BY hs) ?_; refine wG Y10_ZB2 (AI BY hs) ?_; refine AR.callP qx True.intro I1_ZB2 ?_; refine goG Y10_ZB2 True.intro ?_; refine wG Y10_ZB2 True.intro ?_; exact Fin.oneP
  | false =>
  have hne : s ≠ [] := by intro e; rw [e] at hs; cases hs
  by_cases hl : 65534 < s.length
  · have hl' : ((s.length : Int) > 65534) := by omega
    refine PC.enter 53 Tryz.func10 rfl (by decide) rfl rfl (s := [(0, exV x)]) (by rfl) ?_
    refine wG Y10_ZB2 EX ?_; refine AR.callP q1 @exV_eq I1_ZB2 ?_; refine goG Y10_ZB2 EX ?_; refine wG Y10_ZB2 EX ?_; refine AR.callP q3 @exV_eq I1_ZB2 ?_; refine goG Y10_ZB2 (AI BY hs) ?_; refine wG Y10_ZB2 (AI BY (AI hs hl')) ?_; refine AR.callP qx True.intro I1_ZB2 ?_; refine goG Y10_ZB2 True.intro ?_; refine wG Y10_ZB2 True.intro ?_; exact Fin.oneP
  have hl' : ¬ ((s.length : Int) > 65534) := by omega
  obtain ⟨e1, e2⟩ := hlaw hne (by omega)
  have k1 := c_Expr s (by omega)
  have k2 := c_Expr ([40] ++ (s ++ [41])) (by simp only [List.length_append, List.length_cons, List.length_nil]; omega)
  rw [e1] at k1
  rw [e2] at k2
  refine PC.enter 53 Tryz.func10 rfl (by decide) rfl rfl (s := [(0, exV x)]) (by rfl) ?_
  refine wG Y10_ZB2 EX ?_
  refine AR.callP q1 @exV_eq I1_ZB2 ?_
  refine goG Y10_ZB2 EX ?_
  refine wG Y10_ZB2 EX ?_
  refine AR.callP q3 @exV_eq I1_ZB2 ?_
  refine goG Y10_ZB2 (AI BY hs) ?_
  refine wG Y10_ZB2 (AI BY (AI hs hl')) ?_
  simp only [exV_eq] at k1 k2
  have k2 : PC Tryz.prog 22 [.im (.string ⟨(40 :: (s ++ [41])).toArray⟩)] _ := k2
  have a1 : ByteArray.mk #[40] ++ ByteArray.mk s.toArray = ByteArray.mk (40 :: s).toArray := bS_append [40] s
  have a2 : ByteArray.mk (40 :: s).toArray ++ ByteArray.mk #[41] = ByteArray.mk (40 :: (s ++ [41])).toArray := bS_append (40 :: s) [41]
  have l1 : 1 + s.length ≤ 9223372036854775807 := by omega
  have l2 : s.length + 1 + 1 ≤ 9223372036854775807 := by omega
  refine AR.callP k1 True.intro I1_ZB2 ?_
  refine goG Y10_ZB2 EX ?_
  refine wG Y10_ZB2 (AI BY (AI a1 (AI a2 (AI l1 (AI l2 @List.length_cons.{0}))))) ?_
  refine AR.callP k2 True.intro I1_ZB2 ?_
  refine goG Y10_ZB2 EX ?_
  refine wdG Y10_ZB2 EX ?_
  refine AR.callP qs @exV_eq I1_ZB2 ?_
  refine goG Y10_ZB2 EX ?_
  refine AR.callP qs @exV_eq I1_ZB2 ?_
  refine goG Y10_ZB2 EX ?_
  refine AR.callP qx True.intro I1_ZB2 ?_
  refine goG Y10_ZB2 True.intro ?_
  refine wG Y10_ZB2 True.intro ?_
  exact Fin.oneP
end Go.Proofs.YtmbmmckagcdapaaGreatDoor
