/- TokenPrints: decompilerlaw39.TokenPrints returns true for every input (each string and slice of it within the form's own reach), where the listed package-level variables hold what the program's text lays in them, and what came in reads as it did. Proved by walking through the code on trees of values. -/
import Derived.Test.YtjilcaemoebloaaDoorLk
import Derived.Test.YtjilcaemoebloaaDoorLv
import Derived.Test.YtjilcaemoebloaaDoorT26
import Derived.JoinedCond
namespace Go.Proofs.YtjilcaemoebloaaDoor
open Go.RowKit
section
variable {H : Type} {P : Program}
def Wt (P : Program) (t : TypeId) (d : DataW H) : Prop := ∀ n ∈ d.weights P t, n ≤ reachBytes
def WtL (P : Program) : List TypeId → List (DataW H) → Prop
  | t :: ts, x :: xs => Wt P t x ∧ WtL P ts xs
  | _, _ => True
theorem WtL_of : ∀ {ts : List TypeId} {ds : List (DataW H)}, (∀ n ∈ DataW.weightsEach P ts ds, n ≤ reachBytes) → WtL P ts ds
  | t :: ts, x :: xs, h => ⟨fun n hn => h n (by simp only [DataW.weightsEach]; exact List.mem_append_left _ hn), WtL_of fun n hn => h n (by simp only [DataW.weightsEach]; exact List.mem_append_right _ hn)⟩
  | [], _, _ => by simp only [WtL]
  | _ :: _, [], _ => by simp only [WtL]
theorem WtL_all {ts : List TypeId} {ds : List (DataW H)} (h : (DataW.weightsEach P ts ds).all (· ≤ reachBytes) = true) : WtL P ts ds :=
  WtL_of fun n hn => of_decide_eq_true (List.all_eq_true.1 h n hn)
theorem Wt.agg {t : TypeId} {ts : List TypeId} {ps : List (DataW H)} (h : Wt P t (.agg ps)) (ht : ftOf P t = some ts) : WtL P ts ps := by
  refine WtL_of fun n hn => h n ?_
  unfold ftOf at ht
  simp only [DataW.weights]
  cases hu : P.underlying t with
  | none => rw [hu] at ht; cases ht
  | some u =>
    rw [hu] at ht
    cases u with
    | struct fs => cases ht; exact hn
    | _ => cases ht
theorem wAll {e : TypeId} {x : DataW H} {n : Nat} : ∀ {es : List (DataW H)}, x ∈ es → n ∈ x.weights P e → n ∈ DataW.weightsAll P e es
  | y :: r, h, hn => by
    simp only [DataW.weightsAll]
    rcases List.mem_cons.1 h with rfl | h
    · exact List.mem_append_left _ hn
    · exact List.mem_append_right _ (wAll h hn)
theorem Wt.slice {t e : TypeId} {es sp : List (DataW H)} (h : Wt P t (.slice es sp)) (ht : elOf P t = some e) (hz : decide (1 ≤ P.bytesOf e) = true) : es.length ≤ 140737488355328 ∧ ∀ x ∈ es, Wt P e x := by
  have hz := of_decide_eq_true hz
  have hw : ∀ n, n ∈ (es.length + sp.length) * P.bytesOf e :: (DataW.weightsAll P e es ++ DataW.weightsAll P e sp) → n ≤ reachBytes := fun n hn => h n (by
    unfold elOf at ht
    simp only [DataW.weights]
    cases hu : P.underlying t with
    | none => rw [hu] at ht; cases ht
    | some u =>
      rw [hu] at ht
      cases u with
      | slice e' => cases ht; exact hn
      | _ => cases ht)
  constructor
  · have h1 := hw _ (List.mem_cons_self ..)
    have h2 : es.length + sp.length ≤ (es.length + sp.length) * P.bytesOf e := Nat.le_mul_of_pos_right _ hz
    have h3 : reachBytes = 140737488351232 := rfl
    omega
  · exact fun x hx n hn => hw n (List.mem_cons_of_mem _ (List.mem_append_left _ (wAll hx hn)))
theorem slice_ofW {α : Type} {G : α → V} {Q : α → Prop} {d : DataW H} {t e : TypeId} (hd : Rd P t d) (hw : Wt P t d) (ht : elOf P t = some e) (hz : decide (1 ≤ P.bytesOf e) = true)
    (h : ∀ x : DataW H, Rows.uptoBulk x < Rows.uptoBulk d → Rd P e x → Wt P e x → ∃ a, dV x = G a ∧ Q a) : ∃ l : List α, dV d = .sl (l.map G) .ro ∧ l.length ≤ 140737488355328 ∧ ∀ a ∈ l, Q a := by
  rcases hd.slice_inv ht with rfl | ⟨es, sp, rfl, hes⟩
  · exact ⟨[], by simp [dV], by simp, fun a ha => by cases ha⟩
  · have h0 := bulk_sl es sp
    obtain ⟨w1, w2⟩ := hw.slice ht hz
    obtain ⟨l, h1, h2, h3⟩ := list_of (G := G) (Q := Q) (es := es) fun x hx => h x (by have := bulk_mem hx; omega) (hes x hx) (w2 x hx)
    exact ⟨l, by simp [dV, h1], by omega, h3⟩
end
def TkW (t : Tk) : Prop := (0 ≤ t.n ∧ t.n < 4294967296) ∧ t.text.length ≤ 9223372036854775807
theorem rd_tkW {H : Type} (d : DataW H) (hd : Rd Tryd.prog 37 d) : ∃ t : Tk, dV d = tkV t ∧ TkW t := by
  obtain ⟨ps, rfl, hp⟩ := hd.agg_inv G_tk
  match ps, hp with
  | [d1, d2, d3, d4, d5], ⟨h1, h2, h3, h4, h5, _⟩ =>
    obtain ⟨x1, rfl, f1⟩ := h1.int_inv G_int
    obtain ⟨s, rfl, hs⟩ := h2.string_inv Tryd.underlying9
    obtain ⟨x3, rfl, f3⟩ := h3.int_inv G_u32
    obtain ⟨x4, rfl, f4⟩ := h4.int_inv G_int
    obtain ⟨x5, rfl, f5⟩ := h5.int_inv G_int
    refine ⟨⟨x1, s.data.toList, x3, x4, x5⟩, ?_, U32_lt f3, ?_⟩
    · simp only [dV, dVF, tkV_eq, V.cells, List.append_nil, List.cons_append, List.nil_append]
    · have e : s.data.toList.length = s.size := by first | simp | rfl
      show s.data.toList.length ≤ 9223372036854775807
      rw [e]
      exact Nat.le_trans hs (by decide)
theorem rd_tksW {H : Type} (d : DataW H) (hd : Rd Tryd.prog 33 d) (hw : Wt Tryd.prog 33 d) : ∃ l : List Tk, dV d = .sl (l.map tkV) .ro ∧ (l.length ≤ 140737488355328 ∧ ∀ t ∈ l, TkW t) :=
  slice_ofW (G := tkV) (Q := TkW) hd hw G_tkL (by kernel_rfl) fun x hx hr _ => rd_tkW x hr
set_option maxHeartbeats 1000000 in
theorem c_law3W (l : List Tk) (hl : l.length ≤ 140737488355328 ∧ ∀ t ∈ l, TkW t) : PC Tryd.prog 5 [.sl (l.map tkV) .ro] (.im (.bool (true))) := by
  obtain ⟨hl, hok⟩ := hl
  have qe := c_ex
  by_cases h20 : 20 < l.length
  · have h20' : (l.length : Int) > 20 := by omega
    refine PC.enter 31 Tryd.func5 rfl (by decide) rfl rfl (s := [(0, .sl (l.map tkV) .ro)]) (by rfl) ?_
    refine wG Y5_T26 (And.intro TKT h20') ?_
    refine AR.callP qe True.intro (And.intro tkL_id (And.intro tkV_id (And.intro byL_id sL_id))) ?_
    refine goG Y5_T26 True.intro ?_
    refine wG Y5_T26 True.intro ?_
    exact Fin.oneP
  have h20' : ¬ (l.length : Int) > 20 := by omega
  refine PC.enter 31 Tryd.func5 rfl (by decide) rfl rfl (s := [(0, .sl (l.map tkV) .ro)]) (by rfl) ?_
  refine wG Y5_T26 (And.intro TKT h20') ?_
  refine AWp.loop ?_
  refine ALp.cutP 0 [(0, .sl (l.map tkV) .ro), (3, (.im (.int .i64 ((((0 : Nat)) : Int)))))] [] (And.intro tkL_id (And.intro tkV_id (And.intro byL_id sL_id))) ?_
  refine ALp.upto l.length (fun m => ∀ j (hj : j < m) (h : j < l.length), l[j].text.length ≤ 40) (fun m => ⟨dn 31 [(0, .sl (l.map tkV) .ro), (3, (.im (.int .i64 ((((m : Nat)) : Int)))))], ofl []⟩) ?_ 0 (Nat.zero_le _) (fun j hj => absurd hj (Nat.not_lt_zero j))
  intro m hm hI hnext
  by_cases hlt : m < l.length
  case neg =>
    have hn : ¬ (m : Int) < (l.length : Int) := by omega
    have hl : l.length ≤ 4194304 := by omega
    have hok : ∀ t ∈ l, TkOk t := fun t ht => by
      obtain ⟨j, hj, rfl⟩ := List.mem_iff_getElem.1 ht
      exact ⟨(hok _ ht).1, Nat.le_trans (hI j (by omega) hj) (by decide)⟩
    have hsum := wdt_sum l fun t ht => by
      obtain ⟨j, hj, rfl⟩ := List.mem_iff_getElem.1 ht
      exact wdt_le _ (hok _ ht).1 (hI j (by omega) hj)
    have q1 := c_fromRef l hl
    have q2 := c_Print l hl hok (Nat.le_trans (prn_len l) (by omega))
    have q3 := c_PrintR l hl hok (by omega)
    have hpp : (prn l == prn l) = true := beq_self_eq_true _
    generalize prn l = p at q2 q3 hpp
    clear hnext hI
    refine wG Y5_T26 (And.intro TKT hn) ?_
    refine AR.callP q1 True.intro (And.intro tkL_id (And.intro tkV_id (And.intro byL_id sL_id))) ?_
    refine goG Y5_T26 True.intro ?_
    refine AR.callP q2 True.intro (And.intro tkL_id (And.intro tkV_id (And.intro byL_id sL_id))) ?_
    refine goG Y5_T26 True.intro ?_
    refine AR.callP q3 True.intro (And.intro tkL_id (And.intro tkV_id (And.intro byL_id sL_id))) ?_
    refine goG Y5_T26 (And.intro BY hpp) ?_
    refine AR.callP qe True.intro (And.intro tkL_id (And.intro tkV_id (And.intro byL_id sL_id))) ?_
    refine goG Y5_T26 True.intro ?_
    refine wG Y5_T26 True.intro ?_
    exact Fin.oneP
  have hlt' : (m : Int) < (l.length : Int) := by omega
  have hm1 := wrap_succ hlt (by omega)
  have hg : l[m]? = some l[m] := List.getElem?_eq_getElem hlt
  by_cases h40 : 40 < l[m].text.length
  · generalize l[m] = t at hg h40
    have h40' : (t.text.length : Int) > 40 := by omega
    clear hnext hI
    refine wG Y5_T26 (And.intro BY (And.intro TKT (And.intro hlt' (And.intro hg h40')))) ?_
    refine AR.callP qe True.intro (And.intro tkL_id (And.intro tkV_id (And.intro byL_id sL_id))) ?_
    refine goG Y5_T26 True.intro ?_
    refine wG Y5_T26 True.intro ?_
    exact Fin.oneP
  · have hn2 := hnext (m + 1) (by omega) (by omega) (fun j hj h => by
      rcases Nat.lt_or_ge j m with h3 | h3
      · exact hI j h3 h
      · obtain rfl : j = m := by omega
        omega)
    generalize l[m] = t at hg h40
    have h40' : ¬ (t.text.length : Int) > 40 := by omega
    clear hnext hI
    refine wG Y5_T26 (And.intro BY (And.intro TKT (And.intro hlt' (And.intro hg (And.intro h40' hm1))))) ?_
    refine ALp.cutP 0 [(0, .sl (l.map tkV) .ro), (3, (.im (.int .i64 ((((m + 1 : Nat)) : Int)))))] [] (And.intro tkL_id (And.intro tkV_id (And.intro byL_id sL_id))) ?_
    exact hn2
end Go.Proofs.YtjilcaemoebloaaDoor
namespace Go.Proofs.YtjilcaemoebloaaDoor
open Go.RowKit Go.ChangeShapes Go.WideShapes Go.WideMaps Go.WideElems
section
variable {H : Type} {enc : TypeId × Value → H} {P : Program} {W : World}
theorem law_full {f : FuncId} {fn : Func} {s : ChangeSpec} {L : List TypeId} {B : TypeId} {b : Nat} {args : Array Value} {ds gs : List (DataW H)} {before : List MemPlace} (hL : okTy P L = true) (hl : laidOutB P = true) (hpar : ∀ t ∈ fn.params.toList, t ∈ L ∧ P.readableRec t = true ∧ t < P.types.size)
    (hvars : s.vars = []) (hres : fn.resultTypes = #[B]) (hB : P.underlying B = some .bool) (hs : ∀ ds : List (DataW H), RdL P fn.params.toList ds → s.fn H (ds ++ []) = { results := [.lit (.bool true)], args := ds })
    (hP : ∀ ds : List (DataW H), RdL P fn.params.toList ds → (DataW.weightsEach P fn.params.toList ds).all (· ≤ reachBytes) = true → PC P f (ds.map dV) (.im (.bool true)))
    (hval : ∀ (j : Nat) t v, fn.params[j]? = some t → args[j]? = some v → Value.okWide P W .any b t v) (hW : DataW.Whole enc P fn.params.toList s.vars false W args.toList ds gs before)
    {X : List TypeId} (hk : (DataW.weightsEach P (fn.params.toList ++ X) (ds ++ gs)).all (· ≤ reachBytes) = true) (hX : X = []) (hg : (Cf.raw W).known) :
    Calls P f args W fun e W' => ∃ v, e = .returned v ∧ s.post enc P fn false true false false W args v W' := by
  have hlt := hW.lt
  have hW' := hW
  obtain ⟨p, q, hA, hV, rfl, _, _⟩ := hW
  rw [hvars] at hV
  obtain ⟨rfl, rfl⟩ := trodVars_none hV
  obtain ⟨h1, h2, h3⟩ := args_of hL (b := b) _ _ _ _ (fun t ht => (hpar t ht).1) (fun j t v h4 h5 => hval j t v (by simpa using h4) (by simpa using h5)) hA
  have hb : (DataW.weightsEach P fn.params.toList ds).all (· ≤ reachBytes) = true := by rwa [hX, List.append_nil, List.append_nil] at hk
  refine ((hP ds h1 hb).2 (Cf.raw W) args rfl (raw_ok hg) (by simpa using h2) (fun i hi => ?_)).mono ?_
  · have := h3 i hi
    simpa [List.getD, Array.getD_eq_getD_getElem?] using this
  · rintro e W' ⟨v, x, st', rfl, ⟨rfl, rfl⟩, D, rfl, _, _, hE, hR⟩
    have hBel := raw_below hE
    obtain rfl := hR.of_some_bool
    refine ⟨_, rfl, ds, [], _, [], p, [], hW', ?_, ?_, ?_, hBel.frame _, fun h => by cases h⟩
    · rw [hs ds h1, hres]
      exact trodAll_mk1 (shut_bool hB true)
    · rw [hs ds h1]
      exact args_stay hl hBel _ _ _ _ (fun t ht => (hpar t ht).2) (fun x hx => hlt x (by simp [hx])) hA
    · rw [hs ds h1, hvars]
      rfl
end
end Go.Proofs.YtjilcaemoebloaaDoor
namespace Go.Proofs.YtjilcaemoebloaaDoor.tokenPrints
set_option linter.unusedSimpArgs false
set_option linter.unusedVariables false
set_option linter.unnecessarySimpa false
open Go.RowKit

theorem own : ownKnob Tryd.prog.godebug = none := by kernel_rfl
theorem tys : okTy Tryd.prog [3, 9, 28, 37, 33] = true := by kernel_rfl
theorem laid : laidOutB Tryd.prog = true := by kernel_rfl
theorem pars : (Tryd.f5.params.toList.all fun t => [3, 9, 28, 37, 33].contains t && Tryd.prog.readableRec t && decide (t < Tryd.prog.types.size)) = true := by kernel_rfl
theorem trees {H : Type} (ds : List (DataW H)) (h : RdL Tryd.prog Tryd.f5.params.toList ds) (hb : (DataW.weightsEach Tryd.prog Tryd.f5.params.toList ds).all (· ≤ reachBytes) = true) : PC Tryd.prog 5 (ds.map dV) (.im (.bool true)) := by
  rw [Tryd.params5] at h hb
  match ds, h with
  | [d1], ⟨h1, _⟩ =>
    obtain ⟨w1, _⟩ := WtL_all hb
    obtain ⟨x1, e1, f1⟩ := rd_tksW d1 h1 w1
    simp only [List.map_cons, List.map_nil, dV, e1]
    exact c_law3W x1 f1

set_option maxRecDepth 100000 in
theorem lifted (os : Os) (started : os.Started) (H : Type) (enc : TypeId × Value → H) (F : Stop.Interp) :
    ReturnsInHanded {} Tryd.checked os 5 .any ((OpenSpec.ofChange Rows.tokenPrintsSpec).preRow enc Tryd.prog Tryd.f5 Rows.tokenPrintsRow.domain false Rows.tokenPrintsRow.laid) (((OpenSpec.ofChange Rows.tokenPrintsSpec).at F).post enc Tryd.prog Tryd.f5 false true false false) := by
  have hx : DataW.whole enc Tryd.prog ((laidWorld os).forCall (fun _ _ => 0) ⟨#[], #[.slice none 0 0], []⟩).memory Tryd.f5.params.toList Rows.tokenPrintsSpec.vars false #[(.slice none 0 0 : Value)].toList 8 = some ([.nil], [], []) := by kernel_rfl
  refine returnsInHanded_of_row (C := Tryd.checked) (s := OpenSpec.ofChange Rows.tokenPrintsSpec) own started (by kernel_rfl) Tryd.func5
    (witness_row_at (enc := enc) (C := Tryd.checked) false (laidWorld os) #[.slice none 0 0] rfl (by kernel_rfl) (by kernel_rfl) (by kernel_rfl)
      (OpenSpec.preRow_of_cond 8 hx (by kernel_rfl) (fun k hk => by cases hk) (by kernel_rfl) (laid_met os _))) ?_
  intro W base args ds gs before hval hW _ _ hwt hL hsh _
  refine law_full tys laid (fun t ht => ?_) rfl (by kernel_rfl) Tryd.underlying4 (fun ds hd => ?_) trees hval hW hwt (by rfl) (known_of hsh hL)
  · have := List.all_eq_true.1 pars t ht
    simp only [Bool.and_eq_true, decide_eq_true_eq, List.contains_iff_mem] at this
    exact ⟨this.1.1, this.1.2, this.2⟩
  · match ds, hd with
    | [d1], _ => rfl

theorem said : Rows.TokenPrintsSaid :=
  OpenClaim.holds_of_cond 5 Tryd.f5 rfl rfl rfl rfl rfl rfl rfl ⟨rfl, rfl, rfl, rfl, rfl⟩ rfl rfl rfl rfl rfl (by kernel_rfl) Tryd.func5 (by kernel_rfl)
    (of_decide_eq_true (by kernel_rfl)) (by unfold Func.isWrapper; first | (rw [if_pos (by decide +kernel)]; kernel_rfl) | (rw [if_neg (by decide +kernel)]; exact ⟨rfl, rfl⟩))
    (fun os started H enc _ F => by rw [OpenClaim.pre_eq_preRow]; exact lifted os started H enc F)

/-- No parameter wants a stand-in; the program's own looks are off: what the card asks. -/
theorem plain (f : FuncId) (fn : Func) (hf : Tryd.pinned.checked.prog.funcNamed "decompiler/decompilerlaw39.TokenPrints" = some f) (hfn : Tryd.pinned.checked.prog.funcs[f]? = some fn) :
    true = Tryd.pinned.checked.prog.looks [] ∧ ∀ (j : Nat) t, fn.params[j]? = some t → Tryd.pinned.checked.prog.wantsStandIn t = false := by
  obtain rfl : f = 5 := Option.some.inj ((show Tryd.prog.funcNamed "decompiler/decompilerlaw39.TokenPrints" = some 5 by kernel_rfl).symm.trans hf) |>.symm
  obtain rfl : fn = Tryd.f5 := (Option.some.inj (Tryd.func5.symm.trans hfn)).symm
  refine ⟨by kernel_rfl, fun j t ht => ?_⟩
  rw [Tryd.params5] at ht
  have h := Array.mem_of_getElem? ht
  simp only [List.mem_toArray, List.mem_cons, List.not_mem_nil, or_false] at h
  rcases h with rfl
  · exact (show Tryd.prog.wantsStandIn 33 = false by kernel_rfl)

theorem proved : Rows.TokenPrintsCardSaid :=
  Claim7.holds_tied_plain_at .later [] _ _ _ _ said (fun _ h => by cases h) (by kernel_rfl) (fun _ h => by cases h) tokenPrints_row_tie rfl ⟨rfl, rfl⟩ (by kernel_rfl) rfl plain (by kernel_rfl)
end Go.Proofs.YtjilcaemoebloaaDoor.tokenPrints
