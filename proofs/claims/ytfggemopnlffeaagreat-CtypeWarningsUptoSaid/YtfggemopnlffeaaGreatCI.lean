import Derived.Test.YtfggemopnlffeaaGreatHv
import Derived.Test.YtfggemopnlffeaaGreatJK
import Derived.Test.YtfggemopnlffeaaGreatJF
namespace Go.Proofs.YtfggemopnlffeaaGreat
set_option linter.unusedSimpArgs false
set_option linter.unusedVariables false
set_option linter.unnecessarySimpa false
open Go.RowKit
theorem AWp.tail {K : Option Nat → Prop} {P : Program} {st0 : Nat → Ent} {Q : Exit → St → Prop} {A : St} {c rest0 : Code} {ι : Type} (S : ι → St) (tail : ∀ i, AWpK K P st0 rest0 Q (S i))
    (walk : ∀ rest, (∀ i, AWpK K P st0 rest Q (S i)) → AWpK K P st0 c (Thn K P st0 rest Q) A) : AWpK K P st0 c (Thn K P st0 rest0 Q) A := walk rest0 tail
theorem AWp.cut {K : Option Nat → Prop} {P : Program} {st0 : Nat → Ent} {Q : Exit → St → Prop} {c : Code} {N : Nat} {s : List (Nat × V)} {l : List Ent} (n : Nat) (s' : List (Nat × V)) (l' : List Ent) (h : AWpK K P st0 c Q ⟨dn N s', ofl l'⟩) (hl : l.take n = l') (hw : WkA s s') (h0 : ∀ i, st0 i ≠ .free → i < n) (hs : idsA (ltB n) s' = true)
    (hb : l'.all (entOk (ltB n)) = true) : AWpK K P st0 c Q ⟨dn N s, ofl l⟩ := by
  refine AWp.weak (ltB n) (dn N s') ?_ (by rw [dn_length]; exact (dn_length N s).symm) (fun t => ?_) (fun i hi => by simpa [ltB] using h0 i hi) (idsL_dn hs N) (fun i cs h1 h2 => ?_)
  case refine_3 =>
    subst hl
    have hi : i < n := by simpa [ltB] using h2
    have hil : i < l.length := by
      refine Nat.lt_of_not_le fun hle => ?_
      have : ofl l i = .free := by simp [ofl, List.getD, List.getElem?_eq_none hle]
      rw [show (St.mk (dn N s) (ofl l)).st i = ofl l i from rfl, this] at h1
      cases h1
    have he : l[i] = .box cs := by simpa [ofl, List.getD, hil] using h1
    have := List.all_eq_true.1 hb l[i] (by
      refine List.mem_iff_getElem?.2 ⟨i, ?_⟩
      simp [List.getElem?_take, hi, hil])
    rw [he] at this
    exact this
  · have e : (fun i => if ltB n i = true then ofl l i else Ent.free) = ofl l' := by
      funext i
      subst hl
      unfold ofl ltB
      by_cases hi : i < n
      · simp [hi, List.getD, List.getElem?_take]
      · simp [hi, List.getD, List.getElem?_take]
    rw [e]
    exact h
  · show Wk ((dn N s).getD t .dead) ((dn N s').getD t .dead)
    rw [getD_dn, getD_dn]
    split
    · exact hw.look t
    · exact .dead _
theorem AWp.cutP {K : Option Nat → Prop} {P : Program} {st0 : Nat → Ent} {Q : Exit → St → Prop} {c : Code} {N : Nat} {s : List (Nat × V)} {l : List Ent} {E : Prop} (n : Nat) (s' : List (Nat × V)) (l' : List Ent) (fi : E) (h : AWpK K P st0 c Q ⟨dn N s', ofl l'⟩) (hl : l.take n = l' := by rfl)
    (hw : WkA s s' := by repeat (first | exact WkA.nil | refine WkA.cons (Wk.refl _) ?_)) (h0 : ∀ i, st0 i ≠ .free → i < n := by exact fun i hi => by first | exact absurd rfl hi | exact Nat.lt_of_lt_of_le (ofl_lt hi) (by simp))
    (hs : E → idsA (ltB n) s' = true := by intro f; first | rfl | simp only [List.length_cons, List.length_nil, Nat.reduceAdd, V.ids, V.idsL, idsA, entOk, List.all_cons, List.all_nil, Bool.and_self, Bool.and_true, Bool.true_and, ltB, noId, Nat.reduceLT, decide_true, Bool.true_eq_false, tyV_id, fdV_id, tyL_id, fdL_id, f]) (hb : E → l'.all (entOk (ltB n)) = true := by intro f; first | rfl | simp only [List.length_cons, List.length_nil, Nat.reduceAdd, V.ids, V.idsL, idsA, entOk, List.all_cons, List.all_nil, Bool.and_self, Bool.and_true, Bool.true_and, ltB, noId, Nat.reduceLT, decide_true, Bool.true_eq_false, tyV_id, fdV_id, tyL_id, fdL_id, f]) : AWpK K P st0 c Q ⟨dn N s, ofl l⟩ :=
  AWp.cut n s' l' h hl hw h0 (hs fi) (hb fi)
def nE (k : Int) : Int := if k == 1 || k == 4 || k == 6 || k == 7 || k == 9 then 1 else if k == 2 then 2 else 0
def nmd (k : Int) : Bool := k == 1 || k == 3 || k == 5 || k == 12 || k == 13
def lst (k : Int) : Bool := k == 6 || k == 7 || k == 8
def stT (s : Nd) : Bool := decide (1 ≤ s.kind) && decide (s.kind ≤ 15) && decide ((s.e.length : Int) = nE s.kind) && (if nmd s.kind then nameT s.name else eqS s.name ByteArray.empty) && (lst s.kind || decide (s.l.length = 0)) && (s.kind == 6 || decide (s.el.length = 0)) &&
  (if s.kind == 2 then s.width == 1 || s.width == 2 || s.width == 4 else s.width == 0) && (if s.kind == 9 then decide (1 ≤ s.cs.length) && decide (s.cs.length ≤ 64) else decide (s.cs.length = 0)) && s.e.all efm
def stB (s : Nd) (ne : Int) (a b c d : Bool) (pw : Int) : Bool := (if a then nameT s.name else eqS s.name ByteArray.empty) && decide (s.width = pw) && decide ((s.e.length : Int) = ne) && (b || decide (s.l.length = 0)) && (c || decide (s.el.length = 0)) && (d || decide (s.cs.length = 0)) && s.e.all efm
theorem stF0 {b : Bool} (h : ¬ b = true) : b = false := by cases b <;> simp_all
theorem stF1 {b c : Bool} (h : b = true ↔ c = true) : b = c := by cases b <;> cases c <;> simp_all
theorem eqS_empty (n : ByteArray) : eqS n ByteArray.empty = decide (n.toList = []) := by
  unfold eqS
  rw [show ByteArray.empty.toList = [] from by rw [ByteArray.toList_eq]; rfl]
  cases n.toList <;> rfl
structure Frm (s : Nd) where
  ne : Int
  a : Bool
  b : Bool
  c : Bool
  d : Bool
  pw : Int
  h : stT s = stB s ne a b c d pw
theorem Y124_CI : type_of% (AI @F_ag_48 (@F_sz_48)) := AI @F_ag_48 (@F_sz_48)
theorem c_stmt1 {x : Ex} {r : Bool} (h : PC Tryz.prog 53 [exV x] (.im (.bool (r)))) : PC Tryz.prog 124 [exV x] (.im (.bool (!r))) := by
  refine PC.enter 6 Tryz.func124 rfl (by decide) rfl rfl (s := [(0, exV x)]) (by rfl) ?_
  rw [exV_eq x] at h ⊢
  refine wG Y124_CI True.intro ?_
  refine AR.callP h True.intro (AI ndV_id (AI ndLs_id (AI nlVs_id (AI nlV_id @exL_id)))) ?_
  refine goG Y124_CI True.intro ?_
  refine wG Y124_CI True.intro ?_
  exact Fin.oneP
theorem Y106_CI : type_of% (AI @F_ag_3 (AI @F_ag_35 (AI @F_ag_46 (AI @F_ag_57 (AI @F_ag_9 (AI @F_al_59 (AI @F_el_35 (AI @F_el_46 (AI @F_el_57 (AI @F_fl_59_0 (AI @F_fl_59_1 (AI @F_fl_59_2 (AI @F_fl_59_3 (AI @F_fl_59_4 (AI @F_fl_59_5 (AI @F_fl_59_6 (AI @F_sz_3 (AI @F_sz_35 (AI @F_sz_46 (AI @F_sz_48 (AI @F_sz_57 (AI @F_sz_59 (@F_sz_9))))))))))))))))))))))) := AI @F_ag_3 (AI @F_ag_35 (AI @F_ag_46 (AI @F_ag_57 (AI @F_ag_9 (AI @F_al_59 (AI @F_el_35 (AI @F_el_46 (AI @F_el_57 (AI @F_fl_59_0 (AI @F_fl_59_1 (AI @F_fl_59_2 (AI @F_fl_59_3 (AI @F_fl_59_4 (AI @F_fl_59_5 (AI @F_fl_59_6 (AI @F_sz_3 (AI @F_sz_35 (AI @F_sz_46 (AI @F_sz_48 (AI @F_sz_57 (AI @F_sz_59 (@F_sz_9))))))))))))))))))))))
set_option maxHeartbeats 4000000 in
theorem c_statement (s : Nd) (hf : fitN s) : PC Tryz.prog 106 [ndV s] (.im (.bool (stT s))) := by
  obtain ⟨hI, hsz, ⟨he1, he2⟩, h4, h5, h6, h7⟩ := fitN_inv hf
  have hn := c_name s.name hsz
  have hE := c_containsE0 (gs := s.e) (F := 124) (fun x => !efm x) he1 (fun t ht => c_stmt1 (c_eformed t (he2 t ht)))
  rw [← List.not_all_eq_any_not] at hE
  refine PC.enter 123 Tryz.func106 rfl (by decide) rfl rfl (s := [(0, ndV s)]) (by rfl) ?_
  rw [ndV_eq]
  obtain ⟨k, w, n, e, l, el, cs⟩ := s
  simp only [Nd.kind, Nd.width, Nd.name, Nd.e, Nd.l, Nd.el, Nd.cs] at *
  refine wnG Y106_CI True.intro ?_
  refine AWp.tail (ι := Frm (.mk k w n e l el cs)) (fun i => ⟨dn 123 [(1, .pt 0 0), (2, (.im (.bool (false)))), (3, .pt 1 0), (4, (.im (.int .i64 (i.ne)))), (5, (.im (.bool (i.a)))), (6, (.im (.bool (i.b)))), (7, (.im (.bool (i.c)))), (8, (.im (.bool (i.d))))], ofl [.box [.im (.int .i64 (k)), .im (.int .i64 w), .im (.string n), .sl (e.map exV) .ro, .sl (l.map ndV) .ro, .sl (el.map ndV) .ro, .sl (cs.map nlV) .ro], .box [.im (.int .i64 0), .im (.int .i64 i.pw), .im (.string ByteArray.empty), .sl [] .nl, .sl [] .nl, .sl [] .nl, .sl [] .nl]]⟩) (fun i => ?_) (fun rest ht => ?_)
  · obtain ⟨ne, a, b, c, d, pw, hi⟩ := i
    dsimp only
    rw [hi]
    clear hi
    cases a
    case' true =>
      refine wG Y106_CI True.intro ?_
      refine AR.callP hn True.intro (AI ndV_id (AI ndLs_id (AI nlVs_id (AI nlV_id @exL_id)))) ?_
      refine goG Y106_CI True.intro ?_
      refine wG Y106_CI True.intro ?_
    case' false =>
      refine wG Y106_CI True.intro ?_
    case true =>
      refine AWp.condAB rfl rfl (fun hE1 => ?_) (fun hE1 => ?_)
      · have hr : stB (.mk k w n e l el cs) ne true b c d pw = false := stF0 (by simp only [stB, eqS_empty, Nd.kind, Nd.width, Nd.name, Nd.e, Nd.l, Nd.el, Nd.cs]; simp at hE1 ⊢; grind)
        rw [hr]
        refine wG Y106_CI True.intro ?_
        exact Fin.oneP
      refine wG Y106_CI True.intro ?_
      refine AWp.condAB rfl rfl (fun hE2 => ?_) (fun hE2 => ?_)
      · have hr : stB (.mk k w n e l el cs) ne true b c d pw = false := stF0 (by simp only [stB, eqS_empty, Nd.kind, Nd.width, Nd.name, Nd.e, Nd.l, Nd.el, Nd.cs]; simp at hE2 ⊢; grind)
        rw [hr]
        refine wG Y106_CI True.intro ?_
        exact Fin.oneP
      refine wG Y106_CI True.intro ?_
      refine AR.callP hE True.intro (AI ndV_id (AI ndLs_id (AI nlVs_id (AI nlV_id @exL_id)))) ?_
      refine goG Y106_CI True.intro ?_
      refine wG Y106_CI True.intro ?_
      have hr : stB (.mk k w n e l el cs) ne true b c d pw = e.all efm := stF1 (by simp only [stB, eqS_empty, Nd.kind, Nd.width, Nd.name, Nd.e, Nd.l, Nd.el, Nd.cs]; simp at hE1 hE2 ⊢; grind)
      rw [hr]
      exact Fin.oneP
    case false =>
      refine AWp.condAB rfl rfl (fun hE1 => ?_) (fun hE1 => ?_)
      · have hr : stB (.mk k w n e l el cs) ne false b c d pw = false := stF0 (by simp only [stB, eqS_empty, Nd.kind, Nd.width, Nd.name, Nd.e, Nd.l, Nd.el, Nd.cs]; simp at hE1 ⊢; grind)
        rw [hr]
        refine wG Y106_CI True.intro ?_
        exact Fin.oneP
      refine wG Y106_CI True.intro ?_
      refine AWp.condAB rfl rfl (fun hE2 => ?_) (fun hE2 => ?_)
      · have hr : stB (.mk k w n e l el cs) ne false b c d pw = false := stF0 (by simp only [stB, eqS_empty, Nd.kind, Nd.width, Nd.name, Nd.e, Nd.l, Nd.el, Nd.cs]; simp at hE2 ⊢; grind)
        rw [hr]
        refine wG Y106_CI True.intro ?_
        exact Fin.oneP
      refine wG Y106_CI True.intro ?_
      refine AR.callP hE True.intro (AI ndV_id (AI ndLs_id (AI nlVs_id (AI nlV_id @exL_id)))) ?_
      refine goG Y106_CI True.intro ?_
      refine wG Y106_CI True.intro ?_
      have hr : stB (.mk k w n e l el cs) ne false b c d pw = e.all efm := stF1 (by simp only [stB, eqS_empty, Nd.kind, Nd.width, Nd.name, Nd.e, Nd.l, Nd.el, Nd.cs]; simp at hE1 hE2 ⊢; grind)
      rw [hr]
      exact Fin.oneP
  clear hE hn
  by_cases k1 : k = 1
  · subst k1
    refine wG Y106_CI True.intro ?_
    refine AWp.cutP 2 [(1, .pt 0 0), (2, (.im (.bool (false)))), (3, .pt 1 0), (4, (.im (.int .i64 (1)))), (5, (.im (.bool (true)))), (6, (.im (.bool (false)))), (7, (.im (.bool (false)))), (8, (.im (.bool (false))))] [.box [.im (.int .i64 (1)), .im (.int .i64 w), .im (.string n), .sl (e.map exV) .ro, .sl (l.map ndV) .ro, .sl (el.map ndV) .ro, .sl (cs.map nlV) .ro], .box [.im (.int .i64 0), .im (.int .i64 0), .im (.string ByteArray.empty), .sl [] .nl, .sl [] .nl, .sl [] .nl, .sl [] .nl]] (AI exL_id (AI ndLs_id nlVs_id)) ?_
    exact ht ⟨1, true, false, false, false, 0, stF1 (by simp only [stB, stT, eqS_empty, nE, nmd, lst, Nd.kind, Nd.width, Nd.name, Nd.e, Nd.l, Nd.el, Nd.cs]; simp; grind)⟩
  by_cases k2 : k = 2
  · subst k2
    refine wG Y106_CI True.intro ?_
    refine AWp.condAB rfl rfl (fun hE0 => ?_) (fun hE0 => ?_)
    · rw [show stT (.mk 2 w n e l el cs) = false from stF0 (by simp only [stT, nE, nmd, lst, Nd.kind, Nd.width, Nd.name, Nd.e, Nd.l, Nd.el, Nd.cs]; simp at hE0 ⊢; grind)]
      refine wG Y106_CI True.intro ?_
      exact Fin.oneP
    refine wG Y106_CI True.intro ?_
    refine AWp.cutP 2 [(1, .pt 0 0), (2, (.im (.bool (false)))), (3, .pt 1 0), (4, (.im (.int .i64 (2)))), (5, (.im (.bool (false)))), (6, (.im (.bool (false)))), (7, (.im (.bool (false)))), (8, (.im (.bool (false))))] [.box [.im (.int .i64 (2)), .im (.int .i64 w), .im (.string n), .sl (e.map exV) .ro, .sl (l.map ndV) .ro, .sl (el.map ndV) .ro, .sl (cs.map nlV) .ro], .box [.im (.int .i64 0), .im (.int .i64 w), .im (.string ByteArray.empty), .sl [] .nl, .sl [] .nl, .sl [] .nl, .sl [] .nl]] (AI exL_id (AI ndLs_id nlVs_id)) ?_
    exact ht ⟨2, false, false, false, false, w, stF1 (by simp only [stB, stT, eqS_empty, nE, nmd, lst, Nd.kind, Nd.width, Nd.name, Nd.e, Nd.l, Nd.el, Nd.cs]; simp at hE0 ⊢; grind)⟩
  by_cases k3 : k = 3
  · subst k3
    refine wG Y106_CI True.intro ?_
    refine AWp.cutP 2 [(1, .pt 0 0), (2, (.im (.bool (false)))), (3, .pt 1 0), (4, (.im (.int .i64 (0)))), (5, (.im (.bool (true)))), (6, (.im (.bool (false)))), (7, (.im (.bool (false)))), (8, (.im (.bool (false))))] [.box [.im (.int .i64 (3)), .im (.int .i64 w), .im (.string n), .sl (e.map exV) .ro, .sl (l.map ndV) .ro, .sl (el.map ndV) .ro, .sl (cs.map nlV) .ro], .box [.im (.int .i64 0), .im (.int .i64 0), .im (.string ByteArray.empty), .sl [] .nl, .sl [] .nl, .sl [] .nl, .sl [] .nl]] (AI exL_id (AI ndLs_id nlVs_id)) ?_
    exact ht ⟨0, true, false, false, false, 0, stF1 (by simp only [stB, stT, eqS_empty, nE, nmd, lst, Nd.kind, Nd.width, Nd.name, Nd.e, Nd.l, Nd.el, Nd.cs]; simp; grind)⟩
  by_cases k4 : k = 4
  · subst k4
    refine wG Y106_CI True.intro ?_
    refine AWp.cutP 2 [(1, .pt 0 0), (2, (.im (.bool (false)))), (3, .pt 1 0), (4, (.im (.int .i64 (1)))), (5, (.im (.bool (false)))), (6, (.im (.bool (false)))), (7, (.im (.bool (false)))), (8, (.im (.bool (false))))] [.box [.im (.int .i64 (4)), .im (.int .i64 w), .im (.string n), .sl (e.map exV) .ro, .sl (l.map ndV) .ro, .sl (el.map ndV) .ro, .sl (cs.map nlV) .ro], .box [.im (.int .i64 0), .im (.int .i64 0), .im (.string ByteArray.empty), .sl [] .nl, .sl [] .nl, .sl [] .nl, .sl [] .nl]] (AI exL_id (AI ndLs_id nlVs_id)) ?_
    exact ht ⟨1, false, false, false, false, 0, stF1 (by simp only [stB, stT, eqS_empty, nE, nmd, lst, Nd.kind, Nd.width, Nd.name, Nd.e, Nd.l, Nd.el, Nd.cs]; simp; grind)⟩
  by_cases k5 : k = 5
  · subst k5
    refine wG Y106_CI True.intro ?_
    refine AWp.cutP 2 [(1, .pt 0 0), (2, (.im (.bool (false)))), (3, .pt 1 0), (4, (.im (.int .i64 (0)))), (5, (.im (.bool (true)))), (6, (.im (.bool (false)))), (7, (.im (.bool (false)))), (8, (.im (.bool (false))))] [.box [.im (.int .i64 (5)), .im (.int .i64 w), .im (.string n), .sl (e.map exV) .ro, .sl (l.map ndV) .ro, .sl (el.map ndV) .ro, .sl (cs.map nlV) .ro], .box [.im (.int .i64 0), .im (.int .i64 0), .im (.string ByteArray.empty), .sl [] .nl, .sl [] .nl, .sl [] .nl, .sl [] .nl]] (AI exL_id (AI ndLs_id nlVs_id)) ?_
    exact ht ⟨0, true, false, false, false, 0, stF1 (by simp only [stB, stT, eqS_empty, nE, nmd, lst, Nd.kind, Nd.width, Nd.name, Nd.e, Nd.l, Nd.el, Nd.cs]; simp; grind)⟩
  by_cases k6 : k = 6
  · subst k6
    refine wG Y106_CI True.intro ?_
    refine AWp.cutP 2 [(1, .pt 0 0), (2, (.im (.bool (false)))), (3, .pt 1 0), (4, (.im (.int .i64 (1)))), (5, (.im (.bool (false)))), (6, (.im (.bool (true)))), (7, (.im (.bool (true)))), (8, (.im (.bool (false))))] [.box [.im (.int .i64 (6)), .im (.int .i64 w), .im (.string n), .sl (e.map exV) .ro, .sl (l.map ndV) .ro, .sl (el.map ndV) .ro, .sl (cs.map nlV) .ro], .box [.im (.int .i64 0), .im (.int .i64 0), .im (.string ByteArray.empty), .sl [] .nl, .sl [] .nl, .sl [] .nl, .sl [] .nl]] (AI exL_id (AI ndLs_id nlVs_id)) ?_
    exact ht ⟨1, false, true, true, false, 0, stF1 (by simp only [stB, stT, eqS_empty, nE, nmd, lst, Nd.kind, Nd.width, Nd.name, Nd.e, Nd.l, Nd.el, Nd.cs]; simp; grind)⟩
  by_cases k7 : k = 7
  · subst k7
    refine wG Y106_CI True.intro ?_
    refine AWp.cutP 2 [(1, .pt 0 0), (2, (.im (.bool (false)))), (3, .pt 1 0), (4, (.im (.int .i64 (1)))), (5, (.im (.bool (false)))), (6, (.im (.bool (true)))), (7, (.im (.bool (false)))), (8, (.im (.bool (false))))] [.box [.im (.int .i64 (7)), .im (.int .i64 w), .im (.string n), .sl (e.map exV) .ro, .sl (l.map ndV) .ro, .sl (el.map ndV) .ro, .sl (cs.map nlV) .ro], .box [.im (.int .i64 0), .im (.int .i64 0), .im (.string ByteArray.empty), .sl [] .nl, .sl [] .nl, .sl [] .nl, .sl [] .nl]] (AI exL_id (AI ndLs_id nlVs_id)) ?_
    exact ht ⟨1, false, true, false, false, 0, stF1 (by simp only [stB, stT, eqS_empty, nE, nmd, lst, Nd.kind, Nd.width, Nd.name, Nd.e, Nd.l, Nd.el, Nd.cs]; simp; grind)⟩
  by_cases k8 : k = 8
  · subst k8
    refine wG Y106_CI True.intro ?_
    refine AWp.cutP 2 [(1, .pt 0 0), (2, (.im (.bool (false)))), (3, .pt 1 0), (4, (.im (.int .i64 (0)))), (5, (.im (.bool (false)))), (6, (.im (.bool (true)))), (7, (.im (.bool (false)))), (8, (.im (.bool (false))))] [.box [.im (.int .i64 (8)), .im (.int .i64 w), .im (.string n), .sl (e.map exV) .ro, .sl (l.map ndV) .ro, .sl (el.map ndV) .ro, .sl (cs.map nlV) .ro], .box [.im (.int .i64 0), .im (.int .i64 0), .im (.string ByteArray.empty), .sl [] .nl, .sl [] .nl, .sl [] .nl, .sl [] .nl]] (AI exL_id (AI ndLs_id nlVs_id)) ?_
    exact ht ⟨0, false, true, false, false, 0, stF1 (by simp only [stB, stT, eqS_empty, nE, nmd, lst, Nd.kind, Nd.width, Nd.name, Nd.e, Nd.l, Nd.el, Nd.cs]; simp; grind)⟩
  by_cases k9 : k = 9
  · subst k9
    refine wG Y106_CI True.intro ?_
    refine AWp.condAB rfl rfl (fun hE0 => ?_) (fun hE0 => ?_)
    · rw [show stT (.mk 9 w n e l el cs) = false from stF0 (by simp only [stT, nE, nmd, lst, Nd.kind, Nd.width, Nd.name, Nd.e, Nd.l, Nd.el, Nd.cs]; simp at hE0 ⊢; grind)]
      refine wG Y106_CI True.intro ?_
      exact Fin.oneP
    refine wG Y106_CI True.intro ?_
    refine AWp.cutP 2 [(1, .pt 0 0), (2, (.im (.bool (false)))), (3, .pt 1 0), (4, (.im (.int .i64 (1)))), (5, (.im (.bool (false)))), (6, (.im (.bool (false)))), (7, (.im (.bool (false)))), (8, (.im (.bool (true))))] [.box [.im (.int .i64 (9)), .im (.int .i64 w), .im (.string n), .sl (e.map exV) .ro, .sl (l.map ndV) .ro, .sl (el.map ndV) .ro, .sl (cs.map nlV) .ro], .box [.im (.int .i64 0), .im (.int .i64 0), .im (.string ByteArray.empty), .sl [] .nl, .sl [] .nl, .sl [] .nl, .sl [] .nl]] (AI exL_id (AI ndLs_id nlVs_id)) ?_
    exact ht ⟨1, false, false, false, true, 0, stF1 (by simp only [stB, stT, eqS_empty, nE, nmd, lst, Nd.kind, Nd.width, Nd.name, Nd.e, Nd.l, Nd.el, Nd.cs]; simp at hE0 ⊢; grind)⟩
  by_cases k10 : k = 10
  · subst k10
    refine wG Y106_CI True.intro ?_
    refine AWp.cutP 2 [(1, .pt 0 0), (2, (.im (.bool (false)))), (3, .pt 1 0), (4, (.im (.int .i64 (0)))), (5, (.im (.bool (false)))), (6, (.im (.bool (false)))), (7, (.im (.bool (false)))), (8, (.im (.bool (false))))] [.box [.im (.int .i64 (10)), .im (.int .i64 w), .im (.string n), .sl (e.map exV) .ro, .sl (l.map ndV) .ro, .sl (el.map ndV) .ro, .sl (cs.map nlV) .ro], .box [.im (.int .i64 0), .im (.int .i64 0), .im (.string ByteArray.empty), .sl [] .nl, .sl [] .nl, .sl [] .nl, .sl [] .nl]] (AI exL_id (AI ndLs_id nlVs_id)) ?_
    exact ht ⟨0, false, false, false, false, 0, stF1 (by simp only [stB, stT, eqS_empty, nE, nmd, lst, Nd.kind, Nd.width, Nd.name, Nd.e, Nd.l, Nd.el, Nd.cs]; simp; grind)⟩
  by_cases k11 : k = 11
  · subst k11
    refine wG Y106_CI True.intro ?_
    refine AWp.cutP 2 [(1, .pt 0 0), (2, (.im (.bool (false)))), (3, .pt 1 0), (4, (.im (.int .i64 (0)))), (5, (.im (.bool (false)))), (6, (.im (.bool (false)))), (7, (.im (.bool (false)))), (8, (.im (.bool (false))))] [.box [.im (.int .i64 (11)), .im (.int .i64 w), .im (.string n), .sl (e.map exV) .ro, .sl (l.map ndV) .ro, .sl (el.map ndV) .ro, .sl (cs.map nlV) .ro], .box [.im (.int .i64 0), .im (.int .i64 0), .im (.string ByteArray.empty), .sl [] .nl, .sl [] .nl, .sl [] .nl, .sl [] .nl]] (AI exL_id (AI ndLs_id nlVs_id)) ?_
    exact ht ⟨0, false, false, false, false, 0, stF1 (by simp only [stB, stT, eqS_empty, nE, nmd, lst, Nd.kind, Nd.width, Nd.name, Nd.e, Nd.l, Nd.el, Nd.cs]; simp; grind)⟩
  by_cases k12 : k = 12
  · subst k12
    refine wG Y106_CI True.intro ?_
    refine AWp.cutP 2 [(1, .pt 0 0), (2, (.im (.bool (false)))), (3, .pt 1 0), (4, (.im (.int .i64 (0)))), (5, (.im (.bool (true)))), (6, (.im (.bool (false)))), (7, (.im (.bool (false)))), (8, (.im (.bool (false))))] [.box [.im (.int .i64 (12)), .im (.int .i64 w), .im (.string n), .sl (e.map exV) .ro, .sl (l.map ndV) .ro, .sl (el.map ndV) .ro, .sl (cs.map nlV) .ro], .box [.im (.int .i64 0), .im (.int .i64 0), .im (.string ByteArray.empty), .sl [] .nl, .sl [] .nl, .sl [] .nl, .sl [] .nl]] (AI exL_id (AI ndLs_id nlVs_id)) ?_
    exact ht ⟨0, true, false, false, false, 0, stF1 (by simp only [stB, stT, eqS_empty, nE, nmd, lst, Nd.kind, Nd.width, Nd.name, Nd.e, Nd.l, Nd.el, Nd.cs]; simp; grind)⟩
  by_cases k13 : k = 13
  · subst k13
    refine wG Y106_CI True.intro ?_
    refine AWp.cutP 2 [(1, .pt 0 0), (2, (.im (.bool (false)))), (3, .pt 1 0), (4, (.im (.int .i64 (0)))), (5, (.im (.bool (true)))), (6, (.im (.bool (false)))), (7, (.im (.bool (false)))), (8, (.im (.bool (false))))] [.box [.im (.int .i64 (13)), .im (.int .i64 w), .im (.string n), .sl (e.map exV) .ro, .sl (l.map ndV) .ro, .sl (el.map ndV) .ro, .sl (cs.map nlV) .ro], .box [.im (.int .i64 0), .im (.int .i64 0), .im (.string ByteArray.empty), .sl [] .nl, .sl [] .nl, .sl [] .nl, .sl [] .nl]] (AI exL_id (AI ndLs_id nlVs_id)) ?_
    exact ht ⟨0, true, false, false, false, 0, stF1 (by simp only [stB, stT, eqS_empty, nE, nmd, lst, Nd.kind, Nd.width, Nd.name, Nd.e, Nd.l, Nd.el, Nd.cs]; simp; grind)⟩
  by_cases k14 : k = 14
  · subst k14
    refine wG Y106_CI True.intro ?_
    refine AWp.cutP 2 [(1, .pt 0 0), (2, (.im (.bool (false)))), (3, .pt 1 0), (4, (.im (.int .i64 (0)))), (5, (.im (.bool (false)))), (6, (.im (.bool (false)))), (7, (.im (.bool (false)))), (8, (.im (.bool (false))))] [.box [.im (.int .i64 (14)), .im (.int .i64 w), .im (.string n), .sl (e.map exV) .ro, .sl (l.map ndV) .ro, .sl (el.map ndV) .ro, .sl (cs.map nlV) .ro], .box [.im (.int .i64 0), .im (.int .i64 0), .im (.string ByteArray.empty), .sl [] .nl, .sl [] .nl, .sl [] .nl, .sl [] .nl]] (AI exL_id (AI ndLs_id nlVs_id)) ?_
    exact ht ⟨0, false, false, false, false, 0, stF1 (by simp only [stB, stT, eqS_empty, nE, nmd, lst, Nd.kind, Nd.width, Nd.name, Nd.e, Nd.l, Nd.el, Nd.cs]; simp; grind)⟩
  by_cases k15 : k = 15
  · subst k15
    refine wG Y106_CI True.intro ?_
    refine AWp.cutP 2 [(1, .pt 0 0), (2, (.im (.bool (false)))), (3, .pt 1 0), (4, (.im (.int .i64 (0)))), (5, (.im (.bool (false)))), (6, (.im (.bool (false)))), (7, (.im (.bool (false)))), (8, (.im (.bool (false))))] [.box [.im (.int .i64 (15)), .im (.int .i64 w), .im (.string n), .sl (e.map exV) .ro, .sl (l.map ndV) .ro, .sl (el.map ndV) .ro, .sl (cs.map nlV) .ro], .box [.im (.int .i64 0), .im (.int .i64 0), .im (.string ByteArray.empty), .sl [] .nl, .sl [] .nl, .sl [] .nl, .sl [] .nl]] (AI exL_id (AI ndLs_id nlVs_id)) ?_
    exact ht ⟨0, false, false, false, false, 0, stF1 (by simp only [stB, stT, eqS_empty, nE, nmd, lst, Nd.kind, Nd.width, Nd.name, Nd.e, Nd.l, Nd.el, Nd.cs]; simp; grind)⟩
  rw [show stT (.mk k w n e l el cs) = false from stF0 (fun h => by simp only [stT, Bool.and_eq_true, decide_eq_true_eq] at h; have q := h.1.1.1.1.1.1.1; simp only [Nd.kind] at q; omega)]
  refine wG Y106_CI (AI k1 (AI k2 (AI k3 (AI k4 (AI k5 (AI k6 (AI k7 (AI k8 (AI k9 (AI k10 (AI k11 (AI k12 (AI k13 (AI k14 k15)))))))))))))) ?_
  exact Fin.oneP
end Go.Proofs.YtfggemopnlffeaaGreat
