/- Walks: operators, words, places of the reference; Scan of the reference; the law TokenScans. -/
import Derived.Test.YtjilcaemoebloaaDoorHv
import Derived.Test.YtjilcaemoebloaaDoorT29
namespace Go.Proofs.YtjilcaemoebloaaDoor
set_option linter.unusedSimpArgs false
set_option linter.unusedVariables false
set_option linter.unnecessarySimpa false
open Go.RowKit
/-- The operators in the order of the reference. -/
def opsR : List Bs := [[62, 62, 115], [61, 61], [33, 61], [60, 60], [60, 115], [62, 62]] ++ ops1.map fun c => [c]
def tstR (x op : Bs) : Bool := pre op x && ((op != [60, 115] && op != [62, 62, 115]) || nW (x.drop op.length))
theorem op_list : [V.im (.string ⟨#[62, 62, 115]⟩), V.im (.string ⟨#[61, 61]⟩), V.im (.string ⟨#[33, 61]⟩), V.im (.string ⟨#[60, 60]⟩), V.im (.string ⟨#[60, 115]⟩), V.im (.string ⟨#[62, 62]⟩), V.im (.string ⟨#[40]⟩), V.im (.string ⟨#[41]⟩), V.im (.string ⟨#[123]⟩), V.im (.string ⟨#[125]⟩), V.im (.string ⟨#[91]⟩), V.im (.string ⟨#[93]⟩), V.im (.string ⟨#[44]⟩), V.im (.string ⟨#[59]⟩), V.im (.string ⟨#[58]⟩), V.im (.string ⟨#[63]⟩), V.im (.string ⟨#[61]⟩), V.im (.string ⟨#[43]⟩), V.im (.string ⟨#[45]⟩), V.im (.string ⟨#[42]⟩), V.im (.string ⟨#[38]⟩), V.im (.string ⟨#[124]⟩), V.im (.string ⟨#[94]⟩), V.im (.string ⟨#[33]⟩), V.im (.string ⟨#[60]⟩)] = opsR.map sV := rfl
theorem find_one (c : UInt8) (r : Bs) (hc : ∀ d : UInt8, tstR (c :: r) [d] = (d == c)) : ∀ l : Bs, (l.map fun c => [c]).find? (tstR (c :: r)) = if l.contains c then some [c] else none
  | [] => rfl
  | d :: l => by
    rw [List.map_cons, List.find?_cons, hc d]
    by_cases h : d = c
    · subst h
      simp
    · have h1 : (d == c) = false := beq_eq_false_iff_ne.2 h
      have h2 : (c == d) = false := beq_eq_false_iff_ne.2 fun e => h e.symm
      rw [h1]
      simp only
      rw [find_one c r hc l, List.contains_cons, h2, Bool.false_or]
theorem tst_one (c : UInt8) (r : Bs) (d : UInt8) : tstR (c :: r) [d] = (d == c) := by
  unfold tstR
  have h1 : (([d] : Bs) != [60, 115]) = true := by simp [bne_iff_ne]
  have h2 : (([d] : Bs) != [62, 62, 115]) = true := by simp [bne_iff_ne]
  rw [h1, h2]
  simp [pre, List.isPrefixOf]
theorem pre_not {p q x : Bs} {a b : UInt8} {i : Nat} (hp : p[i]? = some a) (hq : q[i]? = some b) (hab : a ≠ b) (h : pre p x = true) : pre q x = false := by
  rw [← Bool.not_eq_true]
  intro h2
  obtain ⟨u, rfl⟩ := pre_iff.1 h
  obtain ⟨v, hv⟩ := pre_iff.1 h2
  have h3 : (p ++ u)[i]? = some a := by rw [List.getElem?_append_left (List.getElem?_eq_some_iff.1 hp).1, hp]
  rw [hv, List.getElem?_append_left (List.getElem?_eq_some_iff.1 hq).1, hq] at h3
  exact hab (Option.some.inj h3).symm
theorem find_symP (x : Bs) : opsR.find? (tstR x) = symP x := by
  have hs : (ops1.map fun c => [c]).find? (tstR x) = match x with
      | [] => none
      | c :: _ => if ops1.contains c then some [c] else none := by
    cases x with
    | nil => decide
    | cons c r => exact find_one c r (tst_one c r) ops1
  have t1 : tstR x [62, 62, 115] = (pre [62, 62, 115] x && nW (x.drop 3)) := by
    unfold tstR
    rw [show (([62, 62, 115] : Bs) != [60, 115] && ([62, 62, 115] : Bs) != [62, 62, 115]) = false from rfl, Bool.false_or]
    rfl
  have t2 : tstR x [60, 115] = (pre [60, 115] x && nW (x.drop 2)) := by
    unfold tstR
    rw [show (([60, 115] : Bs) != [60, 115] && ([60, 115] : Bs) != [62, 62, 115]) = false from rfl, Bool.false_or]
    rfl
  have t3 : ∀ p : Bs, (p != [60, 115] && p != [62, 62, 115]) = true → tstR x p = pre p x := fun p h => by
    unfold tstR
    rw [h, Bool.true_or, Bool.and_true]
  unfold opsR
  rw [List.find?_append, hs]
  simp only [List.find?_cons, List.find?_nil, t1, t2, t3 [61, 61] rfl, t3 [33, 61] rfl, t3 [60, 60] rfl, t3 [62, 62] rfl]
  unfold symP
  by_cases h1 : (pre [62, 62, 115] x && nW (x.drop 3)) = true
  · simp [h1]
  by_cases h2 : (pre [60, 115] x && nW (x.drop 2)) = true
  · have hp := (Bool.and_eq_true _ _ ▸ h2).1
    have e1 := pre_not (i := 0) (p := [60, 115]) (q := [61, 61]) rfl rfl (by decide) hp
    have e2 := pre_not (i := 0) (p := [60, 115]) (q := [33, 61]) rfl rfl (by decide) hp
    have e3 := pre_not (i := 1) (p := [60, 115]) (q := [60, 60]) rfl rfl (by decide) hp
    simp [h1, h2, e1, e2, e3]
  by_cases h3 : pre [61, 61] x = true
  · simp [h1, h2, h3]
  by_cases h4 : pre [33, 61] x = true
  · simp [h1, h2, h3, h4]
  by_cases h5 : pre [60, 60] x = true
  · simp [h1, h2, h3, h4, h5]
  by_cases h6 : pre [62, 62] x = true
  · simp [h1, h2, h3, h4, h5, h6]
  simp [h1, h2, h3, h4, h5, h6]
  cases x <;> rfl
theorem nW_len (y : Bs) : nW y = decide ((y.takeWhile isW).length = 0) := by
  cases y with
  | nil => rfl
  | cons c r =>
    unfold nW
    rw [List.takeWhile_cons]
    cases h : isW c with
    | true => simp [h]
    | false => simp [h]
theorem STC : type_of% (And.intro @sV_firm (And.intro @sV_strip (And.intro @sV_live (And.intro @sV_size (And.intro @sV_isAg (And.intro @sV_cells (And.intro @List.getElem?_map.{0, 0} (And.intro @List.length_map.{0, 0} @Int.natCast_nonneg)))))))) := STB
theorem Y68_T30 : type_of% (And.intro @F_al_9 (And.intro @F_el_53 (@F_sz_9))) := And.intro @F_al_9 (And.intro @F_el_53 (@F_sz_9))
theorem c_ops : PC Tryd.prog 68 [] (.sl (opsR.map sV) .full) := by
  refine PC.enter 2 Tryd.func68 rfl (by decide) rfl rfl (s := []) (by rfl) ?_
  refine wG Y68_T30 op_list ?_
  exact Fin.oneP
theorem op_len : ∀ op ∈ opsR, 1 ≤ op.length ∧ op.length ≤ 3 := by decide
theorem opsR_len : opsR.length = 25 := rfl
theorem Y50_T30 : type_of% (And.intro @F_ag_9 (And.intro @F_el_53 (And.intro @F_sz_9 (@F_un_9)))) := And.intro @F_ag_9 (And.intro @F_el_53 (And.intro @F_sz_9 (@F_un_9)))
set_option maxHeartbeats 2000000 in
theorem c_opR (s : Bs) (a : Nat) (ha : a ≤ s.length) (hs : s.length ≤ 4194304) : PC Tryd.prog 50 [.im (.string ⟨(s).toArray⟩), (.im (.int .i64 ((a : Int))))] (.im (.string ⟨((symP (s.drop a)).getD []).toArray⟩)) := by
  rw [← find_symP]
  have hdl : (s.drop a).length = s.length - a := List.length_drop
  have hdr : ∀ k, (s.drop a).drop k = s.drop (a + k) := fun k => List.drop_drop
  obtain ⟨x, hx⟩ : ∃ x, x = s.drop a := ⟨_, rfl⟩
  rw [← hx] at hdl hdr ⊢
  have qo := c_ops
  have hol := op_len
  have h25 := opsR_len
  generalize opsR = L at qo hol h25
  refine PC.enter 60 Tryd.func50 rfl (by decide) rfl rfl (s := [(0, .im (.string ⟨(s).toArray⟩)), (1, (.im (.int .i64 ((a : Int)))))]) (by rfl) ?_
  refine wG Y50_T30 True.intro ?_
  refine AR.callP qo True.intro (And.intro byL_id sL_id) ?_
  refine goG Y50_T30 True.intro ?_
  refine wG Y50_T30 True.intro ?_
  refine AWp.loop ?_
  refine ALp.cutP 0 [(0, .im (.string ⟨(s).toArray⟩)), (1, (.im (.int .i64 ((a : Int))))), (5, .sl (L.map sV) .full), (6, (.im (.int .i64 ((((0) : Nat) : Int)))))] [] (And.intro byL_id sL_id) ?_
  refine ALp.upto L.length (fun m => L.find? (tstR x) = (L.drop m).find? (tstR x)) (fun m => ⟨dn 60 [(0, .im (.string ⟨(s).toArray⟩)), (1, (.im (.int .i64 ((a : Int))))), (5, .sl (L.map sV) .full), (6, (.im (.int .i64 ((((m) : Nat) : Int)))))], ofl []⟩) ?_ 0 (Nat.zero_le _) rfl
  intro m hm hI hnext
  by_cases hlt : m < L.length
  case neg =>
    obtain rfl : m = L.length := by omega
    have hn : ¬ (L.length : Int) < (L.length : Int) := by omega
    rw [show (L.find? (tstR x)).getD [] = [] by rw [hI, List.drop_length]; rfl]
    clear hnext hI
    refine wG Y50_T30 (And.intro STC hn) ?_
    exact Fin.oneP
  have hlt' : (m : Int) < (L.length : Int) := by omega
  have hm1 := wrap_succ hlt (by omega)
  have hg : L[m]? = some L[m] := List.getElem?_eq_getElem hlt
  have hd : L.drop m = L[m] :: L.drop (m + 1) := List.drop_eq_getElem_cons hlt
  have hl := hol L[m] (List.getElem_mem hlt)
  rw [hd, List.find?_cons] at hI
  generalize L[m] = op at hg hI hl
  have hw : IntKind.i64.wrap ((a : Int) + (op.length : Int)) = ((a + op.length : Nat) : Int) := by rw [wrap_in (by omega)]; omega
  have hno : tstR x op = false → _ := fun h => hnext (m + 1) (by omega) (by omega) (by rw [hI, h])
  have hyes : tstR x op = true → (L.find? (tstR x)).getD [] = op := fun h => by rw [hI, h]; rfl
  clear hnext hI
  have hpre := pre_take (p := op) (s := x)
  by_cases hto : a + op.length ≤ s.length
  case neg =>
    have e1 : ((a + op.length : Nat) : Int) > (s.length : Int) := by omega
    have hn2 := hno (by unfold tstR; rw [hpre, decide_eq_false (by omega), Bool.false_and, Bool.false_and])
    clear hno hyes
    refine wG Y50_T30 (And.intro BY (And.intro STC (And.intro hlt' (And.intro hg hw)))) ?_
    refine wdG Y50_T30 (And.intro BY (And.intro STC (And.intro hlt' (And.intro hg (And.intro hw (And.intro e1 hm1)))))) ?_
    refine ALp.cutP 0 [(0, .im (.string ⟨(s).toArray⟩)), (1, (.im (.int .i64 ((a : Int))))), (5, .sl (L.map sV) .full), (6, (.im (.int .i64 ((((m + 1) : Nat) : Int)))))] [] (And.intro byL_id sL_id) ?_
    exact hn2
  have e1 : ¬ ((a + op.length : Nat) : Int) > (s.length : Int) := by omega
  rw [decide_eq_true (show op.length ≤ x.length by omega), Bool.true_and] at hpre
  have le1 : (a : Int) ≤ ((a + op.length : Nat) : Int) := by omega
  have le2 : ((a + op.length : Nat) : Int) ≤ (s.length : Int) := by omega
  have sb : a + op.length - a = op.length := by omega
  cases ht : (x.take op.length == op) with
  | false =>
    have hn2 := hno (by unfold tstR; rw [hpre, ht, Bool.false_and])
    rw [hx] at ht
    clear hno hyes
    refine wG Y50_T30 (And.intro BY (And.intro STC (And.intro hlt' (And.intro hg hw)))) ?_
    refine wdG Y50_T30 (And.intro BY (And.intro GDS (And.intro STC (And.intro hlt' (And.intro hg (And.intro hw (And.intro e1 (And.intro le1 (And.intro le2 (And.intro sb (And.intro ht hm1))))))))))) ?_
    refine ALp.cutP 0 [(0, .im (.string ⟨(s).toArray⟩)), (1, (.im (.int .i64 ((a : Int))))), (5, .sl (L.map sV) .full), (6, (.im (.int .i64 ((((m + 1) : Nat) : Int)))))] [] (And.intro byL_id sL_id) ?_
    exact hn2
  | true =>
  rw [ht] at hpre
  have htx := ht
  rw [hx] at ht
  have qw := c_wordEnd s (a + op.length) hto hs
  have hnw := nW_len (x.drop op.length)
  rw [hdr] at hnw
  have key : tstR x op = ((op != [60, 115] && op != [62, 62, 115]) || nW (s.drop (a + op.length))) := by unfold tstR; rw [hpre, Bool.true_and, hdr]
  cases b1 : (op == [60, 115]) with
  | false =>
    cases b2 : (op == [62, 62, 115]) with
    | false =>
      rw [hyes (by rw [key]; unfold bne; rw [b1, b2]; rfl)]
      clear hno hyes key
      refine wG Y50_T30 (And.intro BY (And.intro STC (And.intro hlt' (And.intro hg hw)))) ?_
      refine wdG Y50_T30 (And.intro BY (And.intro GDS (And.intro STC (And.intro hlt' (And.intro hg (And.intro hw (And.intro e1 (And.intro le1 (And.intro le2 (And.intro sb (And.intro ht (And.intro b1 b2)))))))))))) ?_
      exact Fin.oneP
    | true =>
      have key2 : tstR x op = nW (s.drop (a + op.length)) := by rw [key]; unfold bne; rw [b1, b2]; rfl
      by_cases hz : ((s.drop (a + op.length)).takeWhile isW).length = 0
      · rw [hz] at qw
        rw [hyes (by rw [key2, hnw]; exact decide_eq_true hz)]
        clear hno hyes key key2 hnw
        refine wG Y50_T30 (And.intro BY (And.intro STC (And.intro hlt' (And.intro hg hw)))) ?_
        refine wdG Y50_T30 (And.intro BY (And.intro GDS (And.intro STC (And.intro hlt' (And.intro hg (And.intro hw (And.intro e1 (And.intro le1 (And.intro le2 (And.intro sb (And.intro ht (And.intro b1 b2)))))))))))) ?_
        refine AR.callP qw True.intro (And.intro byL_id sL_id) ?_
        refine goG Y50_T30 True.intro ?_
        refine wG Y50_T30 (And.intro BY (And.intro STC (And.intro hlt' hg))) ?_
        exact Fin.oneP
      · have hn2 := hno (by rw [key2, hnw]; exact decide_eq_false hz)
        have hne : ¬ ((a + op.length + ((s.drop (a + op.length)).takeWhile isW).length : Nat) : Int) = ((a + op.length : Nat) : Int) := by omega
        clear hno hyes key key2 hnw hz
        generalize ((s.drop (a + op.length)).takeWhile isW).length = z at qw hne
        refine wG Y50_T30 (And.intro BY (And.intro STC (And.intro hlt' (And.intro hg hw)))) ?_
        refine wdG Y50_T30 (And.intro BY (And.intro GDS (And.intro STC (And.intro hlt' (And.intro hg (And.intro hw (And.intro e1 (And.intro le1 (And.intro le2 (And.intro sb (And.intro ht (And.intro b1 b2)))))))))))) ?_
        refine AR.callP qw True.intro (And.intro byL_id sL_id) ?_
        refine goG Y50_T30 hne ?_
        refine wG Y50_T30 hm1 ?_
        refine ALp.cutP 0 [(0, .im (.string ⟨(s).toArray⟩)), (1, (.im (.int .i64 ((a : Int))))), (5, .sl (L.map sV) .full), (6, (.im (.int .i64 ((((m + 1) : Nat) : Int)))))] [] (And.intro byL_id sL_id) ?_
        exact hn2
  | true =>
    have key2 : tstR x op = nW (s.drop (a + op.length)) := by rw [key]; unfold bne; rw [b1]; rfl
    by_cases hz : ((s.drop (a + op.length)).takeWhile isW).length = 0
    · rw [hz] at qw
      rw [hyes (by rw [key2, hnw]; exact decide_eq_true hz)]
      clear hno hyes key key2 hnw
      refine wG Y50_T30 (And.intro BY (And.intro STC (And.intro hlt' (And.intro hg hw)))) ?_
      refine wdG Y50_T30 (And.intro BY (And.intro GDS (And.intro STC (And.intro hlt' (And.intro hg (And.intro hw (And.intro e1 (And.intro le1 (And.intro le2 (And.intro sb (And.intro ht b1))))))))))) ?_
      refine AR.callP qw True.intro (And.intro byL_id sL_id) ?_
      refine goG Y50_T30 True.intro ?_
      refine wG Y50_T30 (And.intro BY (And.intro STC (And.intro hlt' hg))) ?_
      exact Fin.oneP
    · have hn2 := hno (by rw [key2, hnw]; exact decide_eq_false hz)
      have hne : ¬ ((a + op.length + ((s.drop (a + op.length)).takeWhile isW).length : Nat) : Int) = ((a + op.length : Nat) : Int) := by omega
      clear hno hyes key key2 hnw hz
      generalize ((s.drop (a + op.length)).takeWhile isW).length = z at qw hne
      refine wG Y50_T30 (And.intro BY (And.intro STC (And.intro hlt' (And.intro hg hw)))) ?_
      refine wdG Y50_T30 (And.intro BY (And.intro GDS (And.intro STC (And.intro hlt' (And.intro hg (And.intro hw (And.intro e1 (And.intro le1 (And.intro le2 (And.intro sb (And.intro ht b1))))))))))) ?_
      refine AR.callP qw True.intro (And.intro byL_id sL_id) ?_
      refine goG Y50_T30 hne ?_
      refine wG Y50_T30 hm1 ?_
      refine ALp.cutP 0 [(0, .im (.string ⟨(s).toArray⟩)), (1, (.im (.int .i64 ((a : Int))))), (5, .sl (L.map sV) .full), (6, (.im (.int .i64 ((((m + 1) : Nat) : Int)))))] [] (And.intro byL_id sL_id) ?_
      exact hn2
/-- What the reference's wordToken gives. -/
def wtR (w : Bs) : Tk := (namP w).getD ⟨6, [], 0, 0, 0⟩
theorem isD_notL {c : UInt8} (h : isD c = true) : isL c = false := by
  have := u8_all (fun c => !isD c || !isL c) (by decide +kernel) c
  rw [h] at this
  simpa using this
theorem Y48_T30 : type_of% (And.intro @F_ag_37 (And.intro @F_al_37 (And.intro @F_st_37 (And.intro @F_sz_37 (@F_un_9))))) := And.intro @F_ag_37 (And.intro @F_al_37 (And.intro @F_st_37 (And.intro @F_sz_37 (@F_un_9))))
set_option maxHeartbeats 1000000 in
theorem c_wordT (w : Bs) (hw : w.length ≤ 4194304) (h0 : w ≠ []) (ha : ∀ c ∈ w, isW c = true) : PC Tryd.prog 48 [.im (.string ⟨(w).toArray⟩)] (tkV (wtR w)) := by
  have qn := c_number w hw
  have qk := c_KeyR w
  have hNn : ∀ n, valP w = some n → numR w = (n, true) := fun n => numR_some
  have hNo : valP w = none → (numR w).2 = false := numR_none
  cases hE : w with
  | nil => exact absurd hE h0
  | cons c r =>
  rw [hE] at qn qk hNn hNo hw
  have hcw : isW c = true := ha c (by rw [hE]; simp)
  have qd := c_isDig c
  have g0 : (c :: r)[0]? = some c := rfl
  cases hd : isD c with
  | true =>
    rw [hd] at qd
    have hL := isD_notL hd
    have hK : isK (c :: r) = false := by
      rw [← Bool.not_eq_true]
      intro h
      have := (isK_head (c :: r) (isK_mem.1 h)).1
      rw [show (c :: r).head?.elim false isL = isL c from rfl, hL] at this
      cases this
    have hnP : namP (c :: r) = match valP (c :: r) with
        | some n => some ⟨3, [], n, 0, 0⟩
        | none => none := by
      unfold namP
      rw [if_neg (by simp [hK]), if_neg (by rw [show (c :: r).head?.elim false isL = isL c from rfl, hL]; decide)]
      cases valP (c :: r) <;> rfl
    cases hv : valP (c :: r) with
    | none =>
      rw [show wtR (c :: r) = ⟨6, [], 0, 0, 0⟩ by unfold wtR; rw [hnP, hv]; rfl]
      have h2 := hNo hv
      generalize numR (c :: r) = v at qn h2
      obtain ⟨n, b⟩ := v
      simp only at h2
      subst h2
      generalize c :: r = w at *
      refine PC.enter 28 Tryd.func48 rfl (by decide) rfl rfl (s := [(0, .im (.string ⟨(w).toArray⟩))]) (by rfl) ?_
      refine wG Y48_T30 (And.intro BY g0) ?_
      refine AR.callP qd True.intro (And.intro byL_id sL_id) ?_
      refine goG Y48_T30 True.intro ?_
      refine wG Y48_T30 True.intro ?_
      refine AR.callP qn True.intro (And.intro byL_id sL_id) ?_
      refine goG Y48_T30 True.intro ?_
      refine wG Y48_T30 True.intro ?_
      refine Fin.gen0 (rs := [.cell 2 37]) rfl (by first | exact .inl rfl | exact .inr rfl) (by simp only [resX, resA, ↓accU_f, ↓reduceIte, SA, SB, SC, SD, Y48_T30, valG, fpsG, evO, evB, evA, evA1, nilK, eqF, eqC, apOk, intOf, slB, slK,  gd, St.ev, putA, ofl, wrl, putE, V.ofVal, V.ofCell, bin2, un1, seg, fillV, partsOk, Value.oneCell', Nat.reduceBEq, Nat.reduceLT, Nat.reduceSub, Nat.reduceAdd, Nat.reduceMul, Nat.reduceLeDiff, Nat.reduceEqDiff, reduceCtorEq, Int.reduceLT, Int.reduceLE, Int.reduceEq, Int.reduceNe, Int.reduceBEq, Int.reduceBNe, Int.reduceAdd, Int.reduceSub, Int.reduceMul, Int.reduceToNat]; with_reducible exact rfl) ?_
      repeat (first | exact WkF.of (Wk.refl _) (by first | rfl | simp only [List.length_cons, List.length_nil, Nat.reduceAdd, V.ids, V.idsL, idsA, entOk, List.all_cons, List.all_nil, Bool.and_self, Bool.and_true, Bool.true_and, ltB, noId, Nat.reduceLT, decide_true, Bool.true_eq_false, tyV_id, fdV_id, tyL_id, fdL_id, byL_id, sL_id]) | exact WkF.of (Wk.ro _ _) (by first | rfl | simp only [List.length_cons, List.length_nil, Nat.reduceAdd, V.ids, V.idsL, idsA, entOk, List.all_cons, List.all_nil, Bool.and_self, Bool.and_true, Bool.true_and, ltB, noId, Nat.reduceLT, decide_true, Bool.true_eq_false, tyV_id, fdV_id, tyL_id, fdL_id, byL_id, sL_id]) | refine WkF.tu ?_ | refine WkF.ag ?_ | refine WkFL.cons ?_ ?_ | exact WkFL.nil)
    | some n =>
      rw [show wtR (c :: r) = ⟨3, [], n, 0, 0⟩ by unfold wtR; rw [hnP, hv]; rfl]
      rw [hNn n hv] at qn
      generalize c :: r = w at *
      refine PC.enter 28 Tryd.func48 rfl (by decide) rfl rfl (s := [(0, .im (.string ⟨(w).toArray⟩))]) (by rfl) ?_
      refine wG Y48_T30 (And.intro BY g0) ?_
      refine AR.callP qd True.intro (And.intro byL_id sL_id) ?_
      refine goG Y48_T30 True.intro ?_
      refine wG Y48_T30 True.intro ?_
      refine AR.callP qn True.intro (And.intro byL_id sL_id) ?_
      refine goG Y48_T30 True.intro ?_
      refine wG Y48_T30 True.intro ?_
      refine Fin.gen0 (rs := [.cell 2 37]) rfl (by first | exact .inl rfl | exact .inr rfl) (by simp only [resX, resA, ↓accU_f, ↓reduceIte, SA, SB, SC, SD, Y48_T30, valG, fpsG, evO, evB, evA, evA1, nilK, eqF, eqC, apOk, intOf, slB, slK,  gd, St.ev, putA, ofl, wrl, putE, V.ofVal, V.ofCell, bin2, un1, seg, fillV, partsOk, Value.oneCell', Nat.reduceBEq, Nat.reduceLT, Nat.reduceSub, Nat.reduceAdd, Nat.reduceMul, Nat.reduceLeDiff, Nat.reduceEqDiff, reduceCtorEq, Int.reduceLT, Int.reduceLE, Int.reduceEq, Int.reduceNe, Int.reduceBEq, Int.reduceBNe, Int.reduceAdd, Int.reduceSub, Int.reduceMul, Int.reduceToNat]; with_reducible exact rfl) ?_
      repeat (first | exact WkF.of (Wk.refl _) (by first | rfl | simp only [List.length_cons, List.length_nil, Nat.reduceAdd, V.ids, V.idsL, idsA, entOk, List.all_cons, List.all_nil, Bool.and_self, Bool.and_true, Bool.true_and, ltB, noId, Nat.reduceLT, decide_true, Bool.true_eq_false, tyV_id, fdV_id, tyL_id, fdL_id, byL_id, sL_id]) | exact WkF.of (Wk.ro _ _) (by first | rfl | simp only [List.length_cons, List.length_nil, Nat.reduceAdd, V.ids, V.idsL, idsA, entOk, List.all_cons, List.all_nil, Bool.and_self, Bool.and_true, Bool.true_and, ltB, noId, Nat.reduceLT, decide_true, Bool.true_eq_false, tyV_id, fdV_id, tyL_id, fdL_id, byL_id, sL_id]) | refine WkF.tu ?_ | refine WkF.ag ?_ | refine WkFL.cons ?_ ?_ | exact WkFL.nil)
  | false =>
  rw [hd] at qd
  have hL : isL c = true := by
    unfold isW at hcw
    rwa [hd, Bool.or_false] at hcw
  cases hK : isK (c :: r) with
  | true =>
    rw [hK] at qk
    rw [show wtR (c :: r) = ⟨2, c :: r, 0, 0, 0⟩ by unfold wtR namP; rw [if_pos hK]; rfl]
    generalize c :: r = w at *
    refine PC.enter 28 Tryd.func48 rfl (by decide) rfl rfl (s := [(0, .im (.string ⟨(w).toArray⟩))]) (by rfl) ?_
    refine wG Y48_T30 (And.intro BY g0) ?_
    refine AR.callP qd True.intro (And.intro byL_id sL_id) ?_
    refine goG Y48_T30 True.intro ?_
    refine wG Y48_T30 True.intro ?_
    refine AR.callP qk True.intro (And.intro byL_id sL_id) ?_
    refine goG Y48_T30 True.intro ?_
    refine wG Y48_T30 True.intro ?_
    refine Fin.gen0 (rs := [.cell 2 37]) rfl (by first | exact .inl rfl | exact .inr rfl) (by simp only [resX, resA, ↓accU_f, ↓reduceIte, SA, SB, SC, SD, Y48_T30, valG, fpsG, evO, evB, evA, evA1, nilK, eqF, eqC, apOk, intOf, slB, slK,  gd, St.ev, putA, ofl, wrl, putE, V.ofVal, V.ofCell, bin2, un1, seg, fillV, partsOk, Value.oneCell', Nat.reduceBEq, Nat.reduceLT, Nat.reduceSub, Nat.reduceAdd, Nat.reduceMul, Nat.reduceLeDiff, Nat.reduceEqDiff, reduceCtorEq, Int.reduceLT, Int.reduceLE, Int.reduceEq, Int.reduceNe, Int.reduceBEq, Int.reduceBNe, Int.reduceAdd, Int.reduceSub, Int.reduceMul, Int.reduceToNat]; with_reducible exact rfl) ?_
    repeat (first | exact WkF.of (Wk.refl _) (by first | rfl | simp only [List.length_cons, List.length_nil, Nat.reduceAdd, V.ids, V.idsL, idsA, entOk, List.all_cons, List.all_nil, Bool.and_self, Bool.and_true, Bool.true_and, ltB, noId, Nat.reduceLT, decide_true, Bool.true_eq_false, tyV_id, fdV_id, tyL_id, fdL_id, byL_id, sL_id]) | exact WkF.of (Wk.ro _ _) (by first | rfl | simp only [List.length_cons, List.length_nil, Nat.reduceAdd, V.ids, V.idsL, idsA, entOk, List.all_cons, List.all_nil, Bool.and_self, Bool.and_true, Bool.true_and, ltB, noId, Nat.reduceLT, decide_true, Bool.true_eq_false, tyV_id, fdV_id, tyL_id, fdL_id, byL_id, sL_id]) | refine WkF.tu ?_ | refine WkF.ag ?_ | refine WkFL.cons ?_ ?_ | exact WkFL.nil)
  | false =>
    rw [hK] at qk
    have hnP : namP (c :: r) = if (c :: r).length ≤ 32 then some ⟨1, c :: r, 0, 0, 0⟩ else none := by
      unfold namP
      rw [if_neg (by simp [hK]), if_pos (show (c :: r).head?.elim false isL = true from hL)]
    by_cases h32 : (c :: r).length ≤ 32
    · rw [show wtR (c :: r) = ⟨1, c :: r, 0, 0, 0⟩ by unfold wtR; rw [hnP, if_pos h32]; rfl]
      generalize c :: r = w at *
      have e32 : ¬ (w.length : Int) > 32 := by omega
      refine PC.enter 28 Tryd.func48 rfl (by decide) rfl rfl (s := [(0, .im (.string ⟨(w).toArray⟩))]) (by rfl) ?_
      refine wG Y48_T30 (And.intro BY g0) ?_
      refine AR.callP qd True.intro (And.intro byL_id sL_id) ?_
      refine goG Y48_T30 True.intro ?_
      refine wG Y48_T30 True.intro ?_
      refine AR.callP qk True.intro (And.intro byL_id sL_id) ?_
      refine goG Y48_T30 True.intro ?_
      refine wG Y48_T30 (And.intro BY e32) ?_
      refine Fin.gen0 (rs := [.cell 2 37]) rfl (by first | exact .inl rfl | exact .inr rfl) (by simp only [resX, resA, ↓accU_f, ↓reduceIte, SA, SB, SC, SD, Y48_T30, valG, fpsG, evO, evB, evA, evA1, nilK, eqF, eqC, apOk, intOf, slB, slK,  gd, St.ev, putA, ofl, wrl, putE, V.ofVal, V.ofCell, bin2, un1, seg, fillV, partsOk, Value.oneCell', Nat.reduceBEq, Nat.reduceLT, Nat.reduceSub, Nat.reduceAdd, Nat.reduceMul, Nat.reduceLeDiff, Nat.reduceEqDiff, reduceCtorEq, Int.reduceLT, Int.reduceLE, Int.reduceEq, Int.reduceNe, Int.reduceBEq, Int.reduceBNe, Int.reduceAdd, Int.reduceSub, Int.reduceMul, Int.reduceToNat]; with_reducible exact rfl) ?_
      repeat (first | exact WkF.of (Wk.refl _) (by first | rfl | simp only [List.length_cons, List.length_nil, Nat.reduceAdd, V.ids, V.idsL, idsA, entOk, List.all_cons, List.all_nil, Bool.and_self, Bool.and_true, Bool.true_and, ltB, noId, Nat.reduceLT, decide_true, Bool.true_eq_false, tyV_id, fdV_id, tyL_id, fdL_id, byL_id, sL_id]) | exact WkF.of (Wk.ro _ _) (by first | rfl | simp only [List.length_cons, List.length_nil, Nat.reduceAdd, V.ids, V.idsL, idsA, entOk, List.all_cons, List.all_nil, Bool.and_self, Bool.and_true, Bool.true_and, ltB, noId, Nat.reduceLT, decide_true, Bool.true_eq_false, tyV_id, fdV_id, tyL_id, fdL_id, byL_id, sL_id]) | refine WkF.tu ?_ | refine WkF.ag ?_ | refine WkFL.cons ?_ ?_ | exact WkFL.nil)
    · rw [show wtR (c :: r) = ⟨6, [], 0, 0, 0⟩ by unfold wtR; rw [hnP, if_neg h32]; rfl]
      generalize c :: r = w at *
      have e32 : (w.length : Int) > 32 := by omega
      refine PC.enter 28 Tryd.func48 rfl (by decide) rfl rfl (s := [(0, .im (.string ⟨(w).toArray⟩))]) (by rfl) ?_
      refine wG Y48_T30 (And.intro BY g0) ?_
      refine AR.callP qd True.intro (And.intro byL_id sL_id) ?_
      refine goG Y48_T30 True.intro ?_
      refine wG Y48_T30 True.intro ?_
      refine AR.callP qk True.intro (And.intro byL_id sL_id) ?_
      refine goG Y48_T30 True.intro ?_
      refine wG Y48_T30 (And.intro BY e32) ?_
      refine Fin.gen0 (rs := [.cell 2 37]) rfl (by first | exact .inl rfl | exact .inr rfl) (by simp only [resX, resA, ↓accU_f, ↓reduceIte, SA, SB, SC, SD, Y48_T30, valG, fpsG, evO, evB, evA, evA1, nilK, eqF, eqC, apOk, intOf, slB, slK,  gd, St.ev, putA, ofl, wrl, putE, V.ofVal, V.ofCell, bin2, un1, seg, fillV, partsOk, Value.oneCell', Nat.reduceBEq, Nat.reduceLT, Nat.reduceSub, Nat.reduceAdd, Nat.reduceMul, Nat.reduceLeDiff, Nat.reduceEqDiff, reduceCtorEq, Int.reduceLT, Int.reduceLE, Int.reduceEq, Int.reduceNe, Int.reduceBEq, Int.reduceBNe, Int.reduceAdd, Int.reduceSub, Int.reduceMul, Int.reduceToNat]; with_reducible exact rfl) ?_
      repeat (first | exact WkF.of (Wk.refl _) (by first | rfl | simp only [List.length_cons, List.length_nil, Nat.reduceAdd, V.ids, V.idsL, idsA, entOk, List.all_cons, List.all_nil, Bool.and_self, Bool.and_true, Bool.true_and, ltB, noId, Nat.reduceLT, decide_true, Bool.true_eq_false, tyV_id, fdV_id, tyL_id, fdL_id, byL_id, sL_id]) | exact WkF.of (Wk.ro _ _) (by first | rfl | simp only [List.length_cons, List.length_nil, Nat.reduceAdd, V.ids, V.idsL, idsA, entOk, List.all_cons, List.all_nil, Bool.and_self, Bool.and_true, Bool.true_and, ltB, noId, Nat.reduceLT, decide_true, Bool.true_eq_false, tyV_id, fdV_id, tyL_id, fdL_id, byL_id, sL_id]) | refine WkF.tu ?_ | refine WkF.ag ?_ | refine WkFL.cons ?_ ?_ | exact WkFL.nil)
theorem Y31_T30 : type_of% (@F_un_9) := @F_un_9
set_option maxHeartbeats 1000000 in
theorem c_place (s : Bs) (a : Nat) (ha : a ≤ s.length) (hs : s.length ≤ 4194304) : PC Tryd.prog 31 [.im (.string ⟨(s).toArray⟩), (.im (.int .i64 ((a : Int))))] (.tu [(.im (.int .i64 ((advs (1, 1) (s.take a)).1))), (.im (.int .i64 ((advs (1, 1) (s.take a)).2)))]) := by
  refine PC.enter 24 Tryd.func31 rfl (by decide) rfl rfl (s := [(0, .im (.string ⟨(s).toArray⟩)), (1, (.im (.int .i64 ((a : Int)))))]) (by rfl) ?_
  refine wG Y31_T30 True.intro ?_
  refine AWp.loop ?_
  refine ALp.cutP 0 [(0, .im (.string ⟨(s).toArray⟩)), (1, (.im (.int .i64 ((a : Int))))), (6, (.im (.int .i64 ((advs (1, 1) (s.take (0))).1)))), (7, (.im (.int .i64 ((advs (1, 1) (s.take (0))).2)))), (8, (.im (.int .i64 ((((0) : Nat) : Int)))))] [] (And.intro byL_id sL_id) ?_
  refine ALp.upto a (fun _ => True) (fun m => ⟨dn 24 [(0, .im (.string ⟨(s).toArray⟩)), (1, (.im (.int .i64 ((a : Int))))), (6, (.im (.int .i64 ((advs (1, 1) (s.take (m))).1)))), (7, (.im (.int .i64 ((advs (1, 1) (s.take (m))).2)))), (8, (.im (.int .i64 ((((m) : Nat) : Int)))))], ofl []⟩) ?_ 0 (Nat.zero_le _) trivial
  intro m hm _ hnext
  by_cases hlt : m < a
  case neg =>
    obtain rfl : m = a := by omega
    have hn : ¬ (m : Int) < (m : Int) := by omega
    clear hnext
    generalize advs (1, 1) (s.take m) = q
    refine wG Y31_T30 hn ?_
    refine Fin.gen0 (rs := [.tmp 4, .tmp 5]) rfl (by first | exact .inl rfl | exact .inr rfl) (by simp only [resX, resA, ↓accU_f, ↓reduceIte, SA, SB, SC, SD, Y31_T30, valG, fpsG, evO, evB, evA, evA1, nilK, eqF, eqC, apOk, intOf, slB, slK,  gd, St.ev, putA, ofl, wrl, putE, V.ofVal, V.ofCell, bin2, un1, seg, fillV, partsOk, Value.oneCell', Nat.reduceBEq, Nat.reduceLT, Nat.reduceSub, Nat.reduceAdd, Nat.reduceMul, Nat.reduceLeDiff, Nat.reduceEqDiff, reduceCtorEq, Int.reduceLT, Int.reduceLE, Int.reduceEq, Int.reduceNe, Int.reduceBEq, Int.reduceBNe, Int.reduceAdd, Int.reduceSub, Int.reduceMul, Int.reduceToNat]; with_reducible exact rfl) ?_
    repeat (first | exact WkF.of (Wk.refl _) (by first | rfl | simp only [List.length_cons, List.length_nil, Nat.reduceAdd, V.ids, V.idsL, idsA, entOk, List.all_cons, List.all_nil, Bool.and_self, Bool.and_true, Bool.true_and, ltB, noId, Nat.reduceLT, decide_true, Bool.true_eq_false, tyV_id, fdV_id, tyL_id, fdL_id, byL_id, sL_id]) | exact WkF.of (Wk.ro _ _) (by first | rfl | simp only [List.length_cons, List.length_nil, Nat.reduceAdd, V.ids, V.idsL, idsA, entOk, List.all_cons, List.all_nil, Bool.and_self, Bool.and_true, Bool.true_and, ltB, noId, Nat.reduceLT, decide_true, Bool.true_eq_false, tyV_id, fdV_id, tyL_id, fdL_id, byL_id, sL_id]) | refine WkF.tu ?_ | refine WkF.ag ?_ | refine WkFL.cons ?_ ?_ | exact WkFL.nil)
  have hlt' : (m : Int) < (a : Int) := by omega
  have hml : m < s.length := by omega
  have hm1 := wrap_succ hlt (by omega)
  have hg : s[m]? = some s[m] := List.getElem?_eq_getElem hml
  have hn3 := hnext (m + 1) (by omega) (by omega) trivial
  rw [advs_snoc (1, 1) hml] at hn3
  clear hnext
  have hb := advs_bound (s.take m) (1, 1) (by decide) (by decide)
  rw [List.length_take] at hb
  generalize advs (1, 1) (s.take m) = q at hn3 hb ⊢
  have hw1 : IntKind.i64.wrap (q.1 + 1) = q.1 + 1 := wrap_in (by omega)
  have hw2 : IntKind.i64.wrap (q.2 + 1) = q.2 + 1 := wrap_in (by omega)
  generalize s[m] = c at hg hn3
  by_cases hc : c.toNat = 10
  · have hc' : (c.toNat : Int) = 10 := by omega
    rw [show adv q c = (q.1 + 1, 1) by unfold adv; rw [if_pos hc]] at hn3
    refine wG Y31_T30 (And.intro BY (And.intro hlt' (And.intro hg (And.intro hw1 (And.intro hw2 (And.intro hc' hm1)))))) ?_
    refine ALp.cutP 0 [(0, .im (.string ⟨(s).toArray⟩)), (1, (.im (.int .i64 ((a : Int))))), (6, (.im (.int .i64 ((q.1 + 1, (1 : Int)).1)))), (7, (.im (.int .i64 ((q.1 + 1, (1 : Int)).2)))), (8, (.im (.int .i64 ((((m + 1) : Nat) : Int)))))] [] (And.intro byL_id sL_id) ?_
    exact hn3
  · have hc' : ¬ (c.toNat : Int) = 10 := by omega
    rw [show adv q c = (q.1, q.2 + 1) by unfold adv; rw [if_neg hc]] at hn3
    refine wG Y31_T30 (And.intro BY (And.intro hlt' (And.intro hg (And.intro hw1 (And.intro hw2 (And.intro hc' hm1)))))) ?_
    refine ALp.cutP 0 [(0, .im (.string ⟨(s).toArray⟩)), (1, (.im (.int .i64 ((a : Int))))), (6, (.im (.int .i64 ((q.1, q.2 + 1).1)))), (7, (.im (.int .i64 ((q.1, q.2 + 1).2)))), (8, (.im (.int .i64 ((((m + 1) : Nat) : Int)))))] [] (And.intro byL_id sL_id) ?_
    exact hn3
/-- What the reference's one gives at a position. -/
def oneA (s : Bs) (a : Nat) : Tk × Nat := match tokP (s.drop a) with
  | some (t, n) => (t, a + n)
  | none => (⟨6, [], 0, 0, 0⟩, a + ((s.drop a).takeWhile isW).length)
theorem wtR_some {w : Bs} {t : Tk} (h : namP w = some t) : wtR w = t := by unfold wtR; rw [h]; rfl
theorem wtR_none {w : Bs} (h : namP w = none) : wtR w = ⟨6, [], 0, 0, 0⟩ := by unfold wtR; rw [h]; rfl
theorem ne_emp {b : Bs} (h : b ≠ []) : (b == []) = false := beq_eq_false_iff_ne.2 h
theorem Y30_T30 : type_of% (And.intro @F_ag_37 (And.intro @F_al_37 (And.intro @F_st_37 (And.intro @F_sz_37 (@F_un_9))))) := And.intro @F_ag_37 (And.intro @F_al_37 (And.intro @F_st_37 (And.intro @F_sz_37 (@F_un_9))))
set_option maxHeartbeats 2000000 in
theorem c_one (s : Bs) (a : Nat) (ha : a < s.length) (hs : s.length ≤ 4194304) : PC Tryd.prog 30 [.im (.string ⟨(s).toArray⟩), (.im (.int .i64 ((a : Int))))] (.tu [tkV (oneA s a).1, (.im (.int .i64 (((oneA s a).2 : Int))))]) := by
  have qw := c_wordEnd s a (by omega) hs
  have qo := c_opR s a (by omega) hs
  have qq := c_quoR s a ha hs
  have hdl : (s.drop a).length = s.length - a := List.length_drop
  have g0 : s[a]? = some s[a] := List.getElem?_eq_getElem ha
  have hd : s.drop a = s[a] :: s.drop (a + 1) := List.drop_eq_getElem_cons ha
  have hpre : (s.drop a).take ((s.drop a).takeWhile isW).length = (s.drop a).takeWhile isW := (takeW_pre _).symm
  have hwl := takeW_len (s.drop a)
  by_cases hw : 0 < ((s.drop a).takeWhile isW).length
  · have qn := c_wordT ((s.drop a).takeWhile isW) (by omega) (fun h => by rw [h] at hw; exact absurd hw (by decide)) takeW_all
    have hR : oneA s a = (wtR ((s.drop a).takeWhile isW), a + ((s.drop a).takeWhile isW).length) := by
      unfold oneA tokP
      rw [if_pos hw]
      cases hN : namP ((s.drop a).takeWhile isW) with
      | some t => rw [wtR_some hN]
      | none => rw [wtR_none hN]
    rw [hR]
    generalize (s.drop a).takeWhile isW = w at qw hpre hw qn hwl
    have e1 : ((a + w.length : Nat) : Int) > (a : Int) := by omega
    have le1 : (a : Int) ≤ ((a + w.length : Nat) : Int) := by omega
    have le2 : ((a + w.length : Nat) : Int) ≤ (s.length : Int) := by omega
    have sb : a + w.length - a = w.length := by omega
    refine PC.enter 52 Tryd.func30 rfl (by decide) rfl rfl (s := [(0, .im (.string ⟨(s).toArray⟩)), (1, (.im (.int .i64 ((a : Int)))))]) (by rfl) ?_
    refine wG Y30_T30 True.intro ?_
    refine AR.callP qw True.intro (And.intro tkL_id (And.intro tkV_id (And.intro byL_id sL_id))) ?_
    refine goG Y30_T30 True.intro ?_
    refine wG Y30_T30 (And.intro BY (And.intro GDS (And.intro e1 (And.intro le1 (And.intro le2 (And.intro sb hpre)))))) ?_
    refine AR.callP qn True.intro (And.intro tkL_id (And.intro tkV_id (And.intro byL_id sL_id))) ?_
    refine goG Y30_T30 TKT ?_
    refine wdG Y30_T30 TKT ?_
    refine Fin.gen0 (rs := [.cell 4 37, .tmp 5]) rfl (by first | exact .inl rfl | exact .inr rfl) (by simp only [resX, resA, ↓accU_f, ↓reduceIte, SA, SB, SC, SD, Y30_T30, valG, fpsG, evO, evB, evA, evA1, nilK, eqF, eqC, apOk, intOf, slB, slK,  gd, St.ev, putA, ofl, wrl, putE, V.ofVal, V.ofCell, bin2, un1, seg, fillV, partsOk, Value.oneCell', Nat.reduceBEq, Nat.reduceLT, Nat.reduceSub, Nat.reduceAdd, Nat.reduceMul, Nat.reduceLeDiff, Nat.reduceEqDiff, reduceCtorEq, Int.reduceLT, Int.reduceLE, Int.reduceEq, Int.reduceNe, Int.reduceBEq, Int.reduceBNe, Int.reduceAdd, Int.reduceSub, Int.reduceMul, Int.reduceToNat]; with_reducible exact rfl) ?_
    repeat (first | exact WkF.of (Wk.refl _) (by first | rfl | simp only [List.length_cons, List.length_nil, Nat.reduceAdd, V.ids, V.idsL, idsA, entOk, List.all_cons, List.all_nil, Bool.and_self, Bool.and_true, Bool.true_and, ltB, noId, Nat.reduceLT, decide_true, Bool.true_eq_false, tyV_id, fdV_id, tyL_id, fdL_id, tkL_id, tkV_id, byL_id, sL_id]) | exact WkF.of (Wk.ro _ _) (by first | rfl | simp only [List.length_cons, List.length_nil, Nat.reduceAdd, V.ids, V.idsL, idsA, entOk, List.all_cons, List.all_nil, Bool.and_self, Bool.and_true, Bool.true_and, ltB, noId, Nat.reduceLT, decide_true, Bool.true_eq_false, tyV_id, fdV_id, tyL_id, fdL_id, tkL_id, tkV_id, byL_id, sL_id]) | refine WkF.tu ?_ | refine WkF.ag ?_ | refine WkFL.cons ?_ ?_ | exact WkFL.nil)
  have hz : ((s.drop a).takeWhile isW).length = 0 := by omega
  have hR : oneA s a = if (s.drop a).head? = some 34 then (match quoP ((s.drop a).drop 1) with
      | some (t, n) => (⟨4, t, 0, 0, 0⟩, a + (n + 1))
      | none => (⟨6, [], 0, 0, 0⟩, a)) else (match symP (s.drop a) with
      | some op => (⟨5, op, 0, 0, 0⟩, a + op.length)
      | none => (⟨6, [], 0, 0, 0⟩, a)) := by
    unfold oneA tokP
    rw [if_neg hw, hz]
    by_cases h34 : (s.drop a).head? = some 34
    · rw [if_pos h34, if_pos h34]
      cases quoP ((s.drop a).drop 1) <;> rfl
    · rw [if_neg h34, if_neg h34]
      cases symP (s.drop a) <;> rfl
  rw [hR]
  rw [hz, Nat.add_zero] at qw
  clear hpre hwl hw hz hR
  have hd1 : (s.drop a).drop 1 = s.drop (a + 1) := List.drop_drop
  have hne : ¬ (a : Int) > (a : Int) := by omega
  rw [hd1]
  have hqs : ∀ t n, quoP (s.drop (a + 1)) = some (t, n) → quoA s a = (t, ((a + 1 + n : Nat) : Int)) := fun t n h => quoA_some h
  have hqn : quoP (s.drop (a + 1)) = none → quoA s a = ([], -1) := fun h => quoA_none h
  have hsl : ∀ op, symP (s.drop a) = some op → op ≠ [] := fun op h => (symP_pre h).2
  have hsl2 : ∀ op, symP (s.drop a) = some op → op.length ≤ s.length - a := fun op h => by
    obtain ⟨x, hx⟩ := pre_iff.1 (symP_pre h).1
    have := congrArg List.length hx
    rw [List.length_append] at this
    omega
  by_cases h34 : s[a].toNat = 34
  · rw [if_pos (show (s.drop a).head? = some 34 by rw [hd]; rw [show s[a] = 34 from toNat_inj h34]; rfl)]
    have e34 : (s[a].toNat : Int) = 34 := by omega
    generalize s[a] = c at g0 e34
    cases hqu : quoP (s.drop (a + 1)) with
    | none =>
      rw [hqn hqu] at qq
      clear hqs hqn hsl hsl2 hd
      refine PC.enter 52 Tryd.func30 rfl (by decide) rfl rfl (s := [(0, .im (.string ⟨(s).toArray⟩)), (1, (.im (.int .i64 ((a : Int)))))]) (by rfl) ?_
      refine wG Y30_T30 True.intro ?_
      refine AR.callP qw True.intro (And.intro tkL_id (And.intro tkV_id (And.intro byL_id sL_id))) ?_
      refine goG Y30_T30 True.intro ?_
      refine wG Y30_T30 (And.intro BY (And.intro hne (And.intro g0 e34))) ?_
      refine AR.callP qq True.intro (And.intro tkL_id (And.intro tkV_id (And.intro byL_id sL_id))) ?_
      refine goG Y30_T30 True.intro ?_
      refine wdG Y30_T30 True.intro ?_
      refine Fin.gen0 (rs := [.cell 4 37, .tmp 5]) rfl (by first | exact .inl rfl | exact .inr rfl) (by simp only [resX, resA, ↓accU_f, ↓reduceIte, SA, SB, SC, SD, Y30_T30, valG, fpsG, evO, evB, evA, evA1, nilK, eqF, eqC, apOk, intOf, slB, slK,  gd, St.ev, putA, ofl, wrl, putE, V.ofVal, V.ofCell, bin2, un1, seg, fillV, partsOk, Value.oneCell', Nat.reduceBEq, Nat.reduceLT, Nat.reduceSub, Nat.reduceAdd, Nat.reduceMul, Nat.reduceLeDiff, Nat.reduceEqDiff, reduceCtorEq, Int.reduceLT, Int.reduceLE, Int.reduceEq, Int.reduceNe, Int.reduceBEq, Int.reduceBNe, Int.reduceAdd, Int.reduceSub, Int.reduceMul, Int.reduceToNat]; with_reducible exact rfl) ?_
      repeat (first | exact WkF.of (Wk.refl _) (by first | rfl | simp only [List.length_cons, List.length_nil, Nat.reduceAdd, V.ids, V.idsL, idsA, entOk, List.all_cons, List.all_nil, Bool.and_self, Bool.and_true, Bool.true_and, ltB, noId, Nat.reduceLT, decide_true, Bool.true_eq_false, tyV_id, fdV_id, tyL_id, fdL_id, tkL_id, tkV_id, byL_id, sL_id]) | exact WkF.of (Wk.ro _ _) (by first | rfl | simp only [List.length_cons, List.length_nil, Nat.reduceAdd, V.ids, V.idsL, idsA, entOk, List.all_cons, List.all_nil, Bool.and_self, Bool.and_true, Bool.true_and, ltB, noId, Nat.reduceLT, decide_true, Bool.true_eq_false, tyV_id, fdV_id, tyL_id, fdL_id, tkL_id, tkV_id, byL_id, sL_id]) | refine WkF.tu ?_ | refine WkF.ag ?_ | refine WkFL.cons ?_ ?_ | exact WkFL.nil)
    | some tn =>
      obtain ⟨t, n⟩ := tn
      rw [hqs t n hqu] at qq
      have e0 : ¬ ((a + 1 + n : Nat) : Int) < 0 := by omega
      simp only
      rw [show a + (n + 1) = a + 1 + n by omega]
      clear hqs hqn hsl hsl2 hd
      refine PC.enter 52 Tryd.func30 rfl (by decide) rfl rfl (s := [(0, .im (.string ⟨(s).toArray⟩)), (1, (.im (.int .i64 ((a : Int)))))]) (by rfl) ?_
      refine wG Y30_T30 True.intro ?_
      refine AR.callP qw True.intro (And.intro tkL_id (And.intro tkV_id (And.intro byL_id sL_id))) ?_
      refine goG Y30_T30 True.intro ?_
      refine wG Y30_T30 (And.intro BY (And.intro hne (And.intro g0 e34))) ?_
      refine AR.callP qq True.intro (And.intro tkL_id (And.intro tkV_id (And.intro byL_id sL_id))) ?_
      refine goG Y30_T30 True.intro ?_
      refine wdG Y30_T30 e0 ?_
      refine Fin.gen0 (rs := [.cell 4 37, .tmp 5]) rfl (by first | exact .inl rfl | exact .inr rfl) (by simp only [resX, resA, ↓accU_f, ↓reduceIte, SA, SB, SC, SD, Y30_T30, valG, fpsG, evO, evB, evA, evA1, nilK, eqF, eqC, apOk, intOf, slB, slK,  gd, St.ev, putA, ofl, wrl, putE, V.ofVal, V.ofCell, bin2, un1, seg, fillV, partsOk, Value.oneCell', Nat.reduceBEq, Nat.reduceLT, Nat.reduceSub, Nat.reduceAdd, Nat.reduceMul, Nat.reduceLeDiff, Nat.reduceEqDiff, reduceCtorEq, Int.reduceLT, Int.reduceLE, Int.reduceEq, Int.reduceNe, Int.reduceBEq, Int.reduceBNe, Int.reduceAdd, Int.reduceSub, Int.reduceMul, Int.reduceToNat]; with_reducible exact rfl) ?_
      repeat (first | exact WkF.of (Wk.refl _) (by first | rfl | simp only [List.length_cons, List.length_nil, Nat.reduceAdd, V.ids, V.idsL, idsA, entOk, List.all_cons, List.all_nil, Bool.and_self, Bool.and_true, Bool.true_and, ltB, noId, Nat.reduceLT, decide_true, Bool.true_eq_false, tyV_id, fdV_id, tyL_id, fdL_id, tkL_id, tkV_id, byL_id, sL_id]) | exact WkF.of (Wk.ro _ _) (by first | rfl | simp only [List.length_cons, List.length_nil, Nat.reduceAdd, V.ids, V.idsL, idsA, entOk, List.all_cons, List.all_nil, Bool.and_self, Bool.and_true, Bool.true_and, ltB, noId, Nat.reduceLT, decide_true, Bool.true_eq_false, tyV_id, fdV_id, tyL_id, fdL_id, tkL_id, tkV_id, byL_id, sL_id]) | refine WkF.tu ?_ | refine WkF.ag ?_ | refine WkFL.cons ?_ ?_ | exact WkFL.nil)
  · rw [if_neg (show ¬ (s.drop a).head? = some 34 by rw [hd]; intro h; exact h34 (by rw [Option.some.inj h]; rfl))]
    have e34 : ¬ (s[a].toNat : Int) = 34 := by omega
    generalize s[a] = c at g0 e34
    cases hsy : symP (s.drop a) with
    | none =>
      rw [hsy] at qo
      have k1 : (([] : Bs) == []) = true := rfl
      clear hqs hqn hsl hsl2 hd
      refine PC.enter 52 Tryd.func30 rfl (by decide) rfl rfl (s := [(0, .im (.string ⟨(s).toArray⟩)), (1, (.im (.int .i64 ((a : Int)))))]) (by rfl) ?_
      refine wG Y30_T30 True.intro ?_
      refine AR.callP qw True.intro (And.intro tkL_id (And.intro tkV_id (And.intro byL_id sL_id))) ?_
      refine goG Y30_T30 True.intro ?_
      refine wG Y30_T30 (And.intro BY (And.intro hne (And.intro g0 e34))) ?_
      refine AR.callP qo True.intro (And.intro tkL_id (And.intro tkV_id (And.intro byL_id sL_id))) ?_
      refine goG Y30_T30 (And.intro BY k1) ?_
      refine wdG Y30_T30 (And.intro BY k1) ?_
      refine Fin.gen0 (rs := [.cell 4 37, .tmp 5]) rfl (by first | exact .inl rfl | exact .inr rfl) (by simp only [resX, resA, ↓accU_f, ↓reduceIte, SA, SB, SC, SD, Y30_T30, valG, fpsG, evO, evB, evA, evA1, nilK, eqF, eqC, apOk, intOf, slB, slK,  gd, St.ev, putA, ofl, wrl, putE, V.ofVal, V.ofCell, bin2, un1, seg, fillV, partsOk, Value.oneCell', Nat.reduceBEq, Nat.reduceLT, Nat.reduceSub, Nat.reduceAdd, Nat.reduceMul, Nat.reduceLeDiff, Nat.reduceEqDiff, reduceCtorEq, Int.reduceLT, Int.reduceLE, Int.reduceEq, Int.reduceNe, Int.reduceBEq, Int.reduceBNe, Int.reduceAdd, Int.reduceSub, Int.reduceMul, Int.reduceToNat]; with_reducible exact rfl) ?_
      repeat (first | exact WkF.of (Wk.refl _) (by first | rfl | simp only [List.length_cons, List.length_nil, Nat.reduceAdd, V.ids, V.idsL, idsA, entOk, List.all_cons, List.all_nil, Bool.and_self, Bool.and_true, Bool.true_and, ltB, noId, Nat.reduceLT, decide_true, Bool.true_eq_false, tyV_id, fdV_id, tyL_id, fdL_id, tkL_id, tkV_id, byL_id, sL_id]) | exact WkF.of (Wk.ro _ _) (by first | rfl | simp only [List.length_cons, List.length_nil, Nat.reduceAdd, V.ids, V.idsL, idsA, entOk, List.all_cons, List.all_nil, Bool.and_self, Bool.and_true, Bool.true_and, ltB, noId, Nat.reduceLT, decide_true, Bool.true_eq_false, tyV_id, fdV_id, tyL_id, fdL_id, tkL_id, tkV_id, byL_id, sL_id]) | refine WkF.tu ?_ | refine WkF.ag ?_ | refine WkFL.cons ?_ ?_ | exact WkFL.nil)
    | some op =>
      rw [hsy] at qo
      have qo : PC Tryd.prog 50 [.im (.string ⟨(s).toArray⟩), (.im (.int .i64 ((a : Int))))] (.im (.string ⟨(op).toArray⟩)) := qo
      have k1 := ne_emp (hsl op hsy)
      have hol := hsl2 op hsy
      have hw1 : IntKind.i64.wrap ((a : Int) + (op.length : Int)) = ((a + op.length : Nat) : Int) := by rw [wrap_in (by omega)]; omega
      simp only
      clear hqs hqn hsl hsl2 hd
      refine PC.enter 52 Tryd.func30 rfl (by decide) rfl rfl (s := [(0, .im (.string ⟨(s).toArray⟩)), (1, (.im (.int .i64 ((a : Int)))))]) (by rfl) ?_
      refine wG Y30_T30 True.intro ?_
      refine AR.callP qw True.intro (And.intro tkL_id (And.intro tkV_id (And.intro byL_id sL_id))) ?_
      refine goG Y30_T30 True.intro ?_
      refine wG Y30_T30 (And.intro BY (And.intro hne (And.intro g0 e34))) ?_
      refine AR.callP qo True.intro (And.intro tkL_id (And.intro tkV_id (And.intro byL_id sL_id))) ?_
      refine goG Y30_T30 (And.intro BY k1) ?_
      refine wdG Y30_T30 (And.intro BY (And.intro k1 hw1)) ?_
      refine Fin.gen0 (rs := [.cell 4 37, .tmp 5]) rfl (by first | exact .inl rfl | exact .inr rfl) (by simp only [resX, resA, ↓accU_f, ↓reduceIte, SA, SB, SC, SD, Y30_T30, valG, fpsG, evO, evB, evA, evA1, nilK, eqF, eqC, apOk, intOf, slB, slK,  gd, St.ev, putA, ofl, wrl, putE, V.ofVal, V.ofCell, bin2, un1, seg, fillV, partsOk, Value.oneCell', Nat.reduceBEq, Nat.reduceLT, Nat.reduceSub, Nat.reduceAdd, Nat.reduceMul, Nat.reduceLeDiff, Nat.reduceEqDiff, reduceCtorEq, Int.reduceLT, Int.reduceLE, Int.reduceEq, Int.reduceNe, Int.reduceBEq, Int.reduceBNe, Int.reduceAdd, Int.reduceSub, Int.reduceMul, Int.reduceToNat]; with_reducible exact rfl) ?_
      repeat (first | exact WkF.of (Wk.refl _) (by first | rfl | simp only [List.length_cons, List.length_nil, Nat.reduceAdd, V.ids, V.idsL, idsA, entOk, List.all_cons, List.all_nil, Bool.and_self, Bool.and_true, Bool.true_and, ltB, noId, Nat.reduceLT, decide_true, Bool.true_eq_false, tyV_id, fdV_id, tyL_id, fdL_id, tkL_id, tkV_id, byL_id, sL_id]) | exact WkF.of (Wk.ro _ _) (by first | rfl | simp only [List.length_cons, List.length_nil, Nat.reduceAdd, V.ids, V.idsL, idsA, entOk, List.all_cons, List.all_nil, Bool.and_self, Bool.and_true, Bool.true_and, ltB, noId, Nat.reduceLT, decide_true, Bool.true_eq_false, tyV_id, fdV_id, tyL_id, fdL_id, tkL_id, tkV_id, byL_id, sL_id]) | refine WkF.tu ?_ | refine WkF.ag ?_ | refine WkFL.cons ?_ ?_ | exact WkFL.nil)
theorem scnG_skp (f : Nat) (s : Bs) (p : Int × Int) : scnG f s p = scnG f (skpG false s) (skq s p) := by
  rw [← scnN_scnG, ← scnN_scnG]
  exact scnN_skp f s p
theorem scnG_ok {f : Nat} {x : Bs} {t : Tk} {n : Nat} (hx : skpG false x = x) (h0 : x ≠ []) (h : tokP x = some (t, n)) (q : Int × Int) : scnG (f + 1) x q = (t.at_ q :: (scnG f (x.drop n) (advs q (x.take n))).1, (scnG f (x.drop n) (advs q (x.take n))).2) := by
  conv => lhs; rw [scnG]
  rw [hx, skq_idem hx, if_neg h0, h]
theorem scnG_no {f : Nat} {x : Bs} (hx : skpG false x = x) (h0 : x ≠ []) (h : tokP x = none) (q : Int × Int) : scnG (f + 1) x q = ([⟨6, [], 0, q.1, q.2⟩], false) := by
  conv => lhs; rw [scnG]
  rw [hx, skq_idem hx, if_neg h0, h]
theorem tokP_kind {s : Bs} {t : Tk} {n : Nat} (h : tokP s = some (t, n)) : t.kind ≠ 6 := by
  unfold tokP at h
  split at h
  · split at h
    · rename_i hN
      cases h
      unfold namP at hN
      split at hN
      · cases hN; simp
      split at hN
      · split at hN
        · cases hN; simp
        · cases hN
      · split at hN
        · cases hN; simp
        · cases hN
    · cases h
  split at h
  · split at h
    · cases h; simp
    · cases h
  · split at h
    · cases h; simp
    · cases h
theorem Y16_T30 : type_of% (And.intro @F_ag_3 (And.intro @F_ag_37 (And.intro @F_al_37 (And.intro @F_by_37 (And.intro @F_el_33 (And.intro @F_fl_37_0 (And.intro @F_fl_37_3 (And.intro @F_fl_37_4 (And.intro @F_sz_3 (And.intro @F_sz_37 (@F_un_9))))))))))) := And.intro @F_ag_3 (And.intro @F_ag_37 (And.intro @F_al_37 (And.intro @F_by_37 (And.intro @F_el_33 (And.intro @F_fl_37_0 (And.intro @F_fl_37_3 (And.intro @F_fl_37_4 (And.intro @F_sz_3 (And.intro @F_sz_37 (@F_un_9))))))))))
set_option maxHeartbeats 2000000 in
theorem c_ScanR (s : Bs) (hs : s.length ≤ 65536) : PC Tryd.prog 16 [.im (.string ⟨(s).toArray⟩)] (.tu [.sl ((scan s).1.map tkV) .ro, (.im (.int .i64 (erN (scan s).2)))]) := by
  have qs0 : PC Tryd.prog 29 [.im (.string ⟨(s).toArray⟩), (.im (.int .i64 (0)))] (.im (.int .i64 (((s.length - (skpG false s).length : Nat) : Int)))) := by
    have q := c_skipR s 0 (Nat.zero_le _) (by omega)
    rw [List.drop_zero] at q
    exact q
  have hb : ¬ (s.length : Int) > 65536 := by omega
  refine PC.enter 43 Tryd.func16 rfl (by decide) rfl rfl (s := [(0, .im (.string ⟨(s).toArray⟩))]) (by rfl) ?_
  refine wG Y16_T30 (And.intro BY hb) ?_
  refine AR.callP qs0 True.intro (And.intro tkL_id (And.intro tkV_id (And.intro byL_id sL_id))) ?_
  refine goG Y16_T30 True.intro ?_
  refine wG Y16_T30 True.intro ?_
  refine AWp.loop ?_
  refine ALp.ghost 4 [] .nl 37 5 ?_
  suffices H : ∀ (k f p : Nat) (A : List Tk), s.length - p = k → s.length - p < f → p ≤ s.length → skpG false (s.drop p) = s.drop p → scan s = (A ++ (scnG f (s.drop p) (advs (1, 1) (s.take p))).1, (scnG f (s.drop p) (advs (1, 1) (s.take p))).2) → A.length ≤ p → ALp _ _ _ _ _ ⟨dn 43 [(0, .im (.string ⟨(s).toArray⟩)), (4, .sl (A.map tkV) (.own 0)), (5, (.im (.int .i64 ((((p) : Nat) : Int)))))], ofl [.tip 37 5 A.length]⟩ by
    refine ALp.cutP 1 [(0, .im (.string ⟨(s).toArray⟩)), (4, .sl (([] : List Tk).map tkV) (.own 0)), (5, (.im (.int .i64 (((s.length - (skpG false s).length : Nat) : Int)))))] [.tip 37 5 ([] : List Tk).length] (And.intro tkL_id (And.intro tkV_id (And.intro byL_id sL_id))) ?_
    have hsuf : s.drop (s.length - (skpG false s).length) = skpG false s := (List.suffix_iff_eq_drop.1 (skp_suf s false)).symm
    exact H _ (s.length + 1) _ [] rfl (by omega) (by omega) (by rw [hsuf]; exact skp_idem s false) (by rw [hsuf, List.nil_append]; exact scnG_skp (s.length + 1) s (1, 1)) (Nat.zero_le _)
  intro k
  induction k using Nat.strongRecOn with
  | _ k ih =>
  intro f p A hk hf hpl hx hE hA
  refine ALp.round ?_
  by_cases hlt : p < s.length
  case neg =>
    obtain rfl : p = s.length := by omega
    have hn : ¬ (s.length : Int) < (s.length : Int) := by omega
    rw [List.drop_length, scnG_nil, List.append_nil] at hE
    rw [hE]
    clear ih
    refine wG Y16_T30 (And.intro BY hn) ?_
    refine Fin.gen0 (rs := [.tmp 2, .tmp 3]) rfl (by first | exact .inl rfl | exact .inr rfl) (by simp only [resX, resA, ↓accU_f, ↓reduceIte, SA, SB, SC, SD, Y16_T30, valG, fpsG, evO, evB, evA, evA1, nilK, eqF, eqC, apOk, intOf, slB, slK,  gd, St.ev, putA, ofl, wrl, putE, V.ofVal, V.ofCell, bin2, un1, seg, fillV, partsOk, Value.oneCell', Nat.reduceBEq, Nat.reduceLT, Nat.reduceSub, Nat.reduceAdd, Nat.reduceMul, Nat.reduceLeDiff, Nat.reduceEqDiff, reduceCtorEq, Int.reduceLT, Int.reduceLE, Int.reduceEq, Int.reduceNe, Int.reduceBEq, Int.reduceBNe, Int.reduceAdd, Int.reduceSub, Int.reduceMul, Int.reduceToNat]; with_reducible exact rfl) ?_
    repeat (first | exact WkF.of (Wk.refl _) (by first | rfl | simp only [List.length_cons, List.length_nil, Nat.reduceAdd, V.ids, V.idsL, idsA, entOk, List.all_cons, List.all_nil, Bool.and_self, Bool.and_true, Bool.true_and, ltB, noId, Nat.reduceLT, decide_true, Bool.true_eq_false, tyV_id, fdV_id, tyL_id, fdL_id, tkL_id, tkV_id, byL_id, sL_id]) | exact WkF.of (Wk.ro _ _) (by first | rfl | simp only [List.length_cons, List.length_nil, Nat.reduceAdd, V.ids, V.idsL, idsA, entOk, List.all_cons, List.all_nil, Bool.and_self, Bool.and_true, Bool.true_and, ltB, noId, Nat.reduceLT, decide_true, Bool.true_eq_false, tyV_id, fdV_id, tyL_id, fdL_id, tkL_id, tkV_id, byL_id, sL_id]) | refine WkF.tu ?_ | refine WkF.ag ?_ | refine WkFL.cons ?_ ?_ | exact WkFL.nil)
  have hlt' : (p : Int) < (s.length : Int) := by omega
  have q1 := c_one s p hlt (by omega)
  have q2 := c_place s p hpl (by omega)
  have hne : s.drop p ≠ [] := fun e => by
    have := congrArg List.length e
    rw [List.length_drop, List.length_nil] at this
    omega
  cases f with
  | zero => omega
  | succ f =>
  cases hk2 : tokP (s.drop p) with
  | none =>
    rw [scnG_no hx hne hk2] at hE
    rw [show oneA s p = (⟨6, [], 0, 0, 0⟩, p + ((s.drop p).takeWhile isW).length) by unfold oneA; rw [hk2]] at q1
    rw [hE]
    generalize advs (1, 1) (s.take p) = q at q2
    obtain ⟨B, hB⟩ : ∃ B, B = A ++ [(⟨6, [], 0, q.1, q.2⟩ : Tk)] := ⟨_, rfl⟩
    have hAs : A.map tkV ++ [V.ag [.im (.int .i64 6), .im (.string ⟨#[]⟩), .im (.int .u32 0), .im (.int .i64 q.1), .im (.int .i64 q.2)]] = B.map tkV := by rw [hB, List.map_append]; rfl
    have hAl : A.length + 1 = B.length := by rw [hB]; simp
    have hbl : B.length * 48 ≤ 140737488355328 := by omega
    simp only [← hB]
    clear ih hE hB
    refine wG Y16_T30 (And.intro BY hlt') ?_
    refine AR.callP q1 True.intro (And.intro tkL_id (And.intro tkV_id (And.intro byL_id sL_id))) ?_
    refine goG Y16_T30 TKT ?_
    refine wG Y16_T30 TKT ?_
    refine AR.callP q2 True.intro (And.intro tkL_id (And.intro tkV_id (And.intro byL_id sL_id))) ?_
    refine goG Y16_T30 True.intro ?_
    refine wdG Y16_T30 (And.intro TKT (And.intro hAs (And.intro hAl (And.intro hbl @List.length_map.{0, 0})))) ?_
    refine Fin.gen0 (rs := [.tmp 2, .tmp 3]) rfl (by first | exact .inl rfl | exact .inr rfl) (by simp only [resX, resA, ↓accU_f, ↓reduceIte, SA, SB, SC, SD, Y16_T30, valG, fpsG, evO, evB, evA, evA1, nilK, eqF, eqC, apOk, intOf, slB, slK,  gd, St.ev, putA, ofl, wrl, putE, V.ofVal, V.ofCell, bin2, un1, seg, fillV, partsOk, Value.oneCell', Nat.reduceBEq, Nat.reduceLT, Nat.reduceSub, Nat.reduceAdd, Nat.reduceMul, Nat.reduceLeDiff, Nat.reduceEqDiff, reduceCtorEq, Int.reduceLT, Int.reduceLE, Int.reduceEq, Int.reduceNe, Int.reduceBEq, Int.reduceBNe, Int.reduceAdd, Int.reduceSub, Int.reduceMul, Int.reduceToNat]; with_reducible exact rfl) ?_
    repeat (first | exact WkF.of (Wk.refl _) (by first | rfl | simp only [List.length_cons, List.length_nil, Nat.reduceAdd, V.ids, V.idsL, idsA, entOk, List.all_cons, List.all_nil, Bool.and_self, Bool.and_true, Bool.true_and, ltB, noId, Nat.reduceLT, decide_true, Bool.true_eq_false, tyV_id, fdV_id, tyL_id, fdL_id, tkL_id, tkV_id, byL_id, sL_id]) | exact WkF.of (Wk.ro _ _) (by first | rfl | simp only [List.length_cons, List.length_nil, Nat.reduceAdd, V.ids, V.idsL, idsA, entOk, List.all_cons, List.all_nil, Bool.and_self, Bool.and_true, Bool.true_and, ltB, noId, Nat.reduceLT, decide_true, Bool.true_eq_false, tyV_id, fdV_id, tyL_id, fdL_id, tkL_id, tkV_id, byL_id, sL_id]) | refine WkF.tu ?_ | refine WkF.ag ?_ | refine WkFL.cons ?_ ?_ | exact WkFL.nil)
  | some tn =>
    obtain ⟨t, n⟩ := tn
    rw [scnG_ok hx hne hk2] at hE
    rw [show oneA s p = (t, p + n) by unfold oneA; rw [hk2]] at q1
    have hn := tokP_len hk2
    rw [List.length_drop] at hn
    have h6 : ¬ t.kind = 6 := tokP_kind hk2
    have q3 := c_skipR s (p + n) (by omega) (by omega)
    have hx3 : (s.drop p).drop n = s.drop (p + n) := List.drop_drop
    have hq3 : advs (advs (1, 1) (s.take p)) ((s.drop p).take n) = advs (1, 1) (s.take (p + n)) := advs_more (1, 1) s p n
    rw [hx3, hq3] at hE
    have hyl : (s.drop (p + n)).length = s.length - (p + n) := List.length_drop
    have hle := skp_le false (s.drop (p + n))
    obtain ⟨p', hp'⟩ : ∃ p', p' = s.length - (skpG false (s.drop (p + n))).length := ⟨_, rfl⟩
    have hsuf : s.drop p' = skpG false (s.drop (p + n)) := by
      rw [hp']
      exact (List.suffix_iff_eq_drop.1 ((skp_suf _ false).trans (List.drop_suffix _ _))).symm
    have hq4 : skq (s.drop (p + n)) (advs (1, 1) (s.take (p + n))) = advs (1, 1) (s.take p') := by
      unfold skq
      rw [advs_more, hyl, hp', show p + n + (s.length - (p + n) - (skpG false (s.drop (p + n))).length) = s.length - (skpG false (s.drop (p + n))).length by omega]
    obtain ⟨B, hB⟩ : ∃ B, B = A ++ [t.at_ (advs (1, 1) (s.take p))] := ⟨_, rfl⟩
    have hE2 : scan s = (B ++ (scnG f (s.drop p') (advs (1, 1) (s.take p'))).1, (scnG f (s.drop p') (advs (1, 1) (s.take p'))).2) := by
      rw [hE, hB, scnG_skp f (s.drop (p + n)), hq4, hsuf, List.append_assoc]; rfl
    have hI := ih (s.length - p') (by omega) f p' B rfl (by omega) (by omega) (by rw [hsuf]; exact skp_idem _ false) hE2 (by rw [hB]; simp; omega)
    rw [← hp'] at q3
    generalize advs (1, 1) (s.take p) = q at q2 hB
    have hAs : A.map tkV ++ [V.ag [.im (.int .i64 t.kind), .im (.string ⟨t.text.toArray⟩), .im (.int .u32 t.n), .im (.int .i64 q.1), .im (.int .i64 q.2)]] = B.map tkV := by rw [hB, List.map_append]; rfl
    have hAl : A.length + 1 = B.length := by rw [hB]; simp
    have hbl : B.length * 48 ≤ 140737488355328 := by omega
    clear ih hE hB hE2 hq4 hsuf hp' hle hyl hq3 hx3
    refine wG Y16_T30 (And.intro BY hlt') ?_
    refine AR.callP q1 True.intro (And.intro tkL_id (And.intro tkV_id (And.intro byL_id sL_id))) ?_
    refine goG Y16_T30 TKT ?_
    refine wG Y16_T30 TKT ?_
    refine AR.callP q2 True.intro (And.intro tkL_id (And.intro tkV_id (And.intro byL_id sL_id))) ?_
    refine goG Y16_T30 True.intro ?_
    refine wdG Y16_T30 (And.intro TKT (And.intro hAs (And.intro hAl (And.intro hbl (And.intro (@List.length_map.{0, 0}) h6))))) ?_
    refine AR.callP q3 True.intro (And.intro tkL_id (And.intro tkV_id (And.intro byL_id sL_id))) ?_
    refine goG Y16_T30 True.intro ?_
    refine wG Y16_T30 True.intro ?_
    refine ALp.cutP 1 [(0, .im (.string ⟨(s).toArray⟩)), (4, .sl (B.map tkV) (.own 0)), (5, (.im (.int .i64 (((p' : Nat) : Int)))))] [.tip 37 5 B.length] (And.intro tkL_id (And.intro tkV_id (And.intro byL_id sL_id))) ?_
    exact hI
theorem Y4_T30 : type_of% (And.intro @F_ag_37 (And.intro @F_el_24 (And.intro @F_el_33 (And.intro @F_eq_37 (And.intro @F_sz_30 (@F_sz_37)))))) := And.intro @F_ag_37 (And.intro @F_el_24 (And.intro @F_el_33 (And.intro @F_eq_37 (And.intro @F_sz_30 (@F_sz_37)))))
set_option maxHeartbeats 1000000 in
theorem c_law2 (s : Bs) (hs : s.length ≤ 140737488355328) : PC Tryd.prog 4 [.im (.string ⟨(s).toArray⟩)] (.im (.bool (true))) := by
  have qe := c_ex
  have qf := c_few s
  by_cases hf : s.length ≤ 300
  case neg =>
    rw [decide_eq_false hf] at qf
    refine PC.enter 51 Tryd.func4 rfl (by decide) rfl rfl (s := [(0, .im (.string ⟨(s).toArray⟩))]) (by rfl) ?_
    refine wG Y4_T30 True.intro ?_
    refine AR.callP qf True.intro (And.intro tkL_id (And.intro tkV_id (And.intro byL_id sL_id))) ?_
    refine goG Y4_T30 True.intro ?_
    refine wG Y4_T30 True.intro ?_
    refine AR.callP qe True.intro (And.intro tkL_id (And.intro tkV_id (And.intro byL_id sL_id))) ?_
    refine goG Y4_T30 True.intro ?_
    refine wG Y4_T30 True.intro ?_
    exact Fin.oneP
  rw [decide_eq_true hf] at qf
  have q1 := c_scan s (by omega)
  have q2 := c_ScanR s (by omega)
  have hlen := scan_len s
  have q3 := c_toRef (scan s).1 (by omega)
  generalize erN (scan s).2 = e at q1 q2
  generalize (scan s).1 = l at q1 q2 q3 hlen
  refine PC.enter 51 Tryd.func4 rfl (by decide) rfl rfl (s := [(0, .im (.string ⟨(s).toArray⟩))]) (by rfl) ?_
  refine wG Y4_T30 True.intro ?_
  refine AR.callP qf True.intro (And.intro tkL_id (And.intro tkV_id (And.intro byL_id sL_id))) ?_
  refine goG Y4_T30 True.intro ?_
  refine wG Y4_T30 True.intro ?_
  refine AR.callP q1 True.intro (And.intro tkL_id (And.intro tkV_id (And.intro byL_id sL_id))) ?_
  refine goG Y4_T30 True.intro ?_
  refine wG Y4_T30 True.intro ?_
  refine AR.callP q2 True.intro (And.intro tkL_id (And.intro tkV_id (And.intro byL_id sL_id))) ?_
  refine goG Y4_T30 True.intro ?_
  refine wG Y4_T30 TKT ?_
  refine AR.callP q3 True.intro (And.intro tkL_id (And.intro tkV_id (And.intro byL_id sL_id))) ?_
  refine goG Y4_T30 True.intro ?_
  refine wG Y4_T30 True.intro ?_
  refine AWp.loop ?_
  refine ALp.cutP 0 [(5, .sl (l.map tkV) .ro), (7, .sl (l.map tkV) .ro), (8, (.im (.int .i64 ((((0) : Nat) : Int)))))] [] (And.intro tkL_id (And.intro tkV_id (And.intro byL_id sL_id))) ?_
  refine ALp.upto l.length (fun _ => True) (fun m => ⟨dn 51 [(5, .sl (l.map tkV) .ro), (7, .sl (l.map tkV) .ro), (8, (.im (.int .i64 ((((m) : Nat) : Int)))))], ofl []⟩) ?_ 0 (Nat.zero_le _) trivial
  intro m hm _ hnext
  by_cases hlt : m < l.length
  case neg =>
    have hn : ¬ (m : Int) < (l.length : Int) := by omega
    clear hnext
    refine wG Y4_T30 (And.intro TKT hn) ?_
    refine AR.callP qe True.intro (And.intro tkL_id (And.intro tkV_id (And.intro byL_id sL_id))) ?_
    refine goG Y4_T30 True.intro ?_
    refine wG Y4_T30 True.intro ?_
    exact Fin.oneP
  have hlt' : (m : Int) < (l.length : Int) := by omega
  have hm1 := wrap_succ hlt (by omega)
  have hg : l[m]? = some l[m] := List.getElem?_eq_getElem hlt
  have hn2 := hnext (m + 1) (by omega) (by omega) trivial
  clear hnext
  generalize l[m] = t at hg
  have htt : (t.text == t.text) = true := beq_self_eq_true _
  refine wG Y4_T30 (And.intro TKT (And.intro hlt' hm1)) ?_
  refine wdG Y4_T30 (And.intro BY (And.intro TKT (And.intro hlt' (And.intro hm1 (And.intro hg (And.intro tkV_eq htt)))))) ?_
  refine ALp.cutP 0 [(5, .sl (l.map tkV) .ro), (7, .sl (l.map tkV) .ro), (8, (.im (.int .i64 ((((m + 1) : Nat) : Int)))))] [] (And.intro tkL_id (And.intro tkV_id (And.intro byL_id sL_id))) ?_
  exact hn2
end Go.Proofs.YtjilcaemoebloaaDoor

