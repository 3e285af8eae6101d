import Derived.Test.YtmbmmckagcdapaaGreatDoorK10
import Derived.Test.YtmbmmckagcdapaaGreatDoorK19
import Derived.Test.YtmbmmckagcdapaaGreatDoorK11
import Derived.Test.YtmbmmckagcdapaaGreatDoorK12
import Derived.Test.YtmbmmckagcdapaaGreatDoorK26
set_option linter.unusedSimpArgs false
set_option linter.unusedVariables false
set_option linter.unnecessarySimpa false
namespace Go.Proofs.YtmbmmckagcdapaaGreatDoor
open Go.RowKit
def stB (s : Nd) (ne : Int) (a b c d : Bool) (pw : Int) : Bool := (if a then nameT s.name else eqS s.name ByteArray.empty) && decide (s.width = pw) && decide ((s.e.length : Int) = ne) && (b || decide (s.l.length = 0)) && (c || decide (s.el.length = 0)) && (d || decide (s.cs.length = 0)) && s.e.all efm
theorem stF0 {b : Bool} (h : ¬ b = true) : b = false := by cases b <;> simp_all
theorem stF1 {b c : Bool} (h : b = true ↔ c = true) : b = c := by cases b <;> cases c <;> simp_all
theorem eqS_empty (n : ByteArray) : eqS n ByteArray.empty = decide (n.toList = []) := by
  unfold eqS
  rw [show ByteArray.empty.toList = [] from by rw [ByteArray.toList_eq]; rfl]
  cases n.toList <;> rfl
structure Frm (s : Nd) where
  ne : Int
  a : Bool
  b : Bool
  c : Bool
  d : Bool
  pw : Int
  h : stT s = stB s ne a b c d pw
theorem Y166_CI : type_of% (AI @F_ag_46 (@F_sz_46)) := AI @F_ag_46 (@F_sz_46)
theorem c_stmt1 {x : Ex} {r : Bool} (h : PC Tryz.prog 74 [exV x] (.im (.bool (r)))) : PC Tryz.prog 166 [exV x] (.im (.bool (!r))) := by
  refine PC.enter 6 Tryz.func166 rfl (by decide) rfl rfl (s := [(0, exV x)]) (by rfl) ?_
  rw [exV_eq x] at h ⊢
  refine wG Y166_CI True.intro ?_
  refine AR.callP h True.intro (AI ndV_id (AI ndLs_id (AI nlVs_id (AI nlV_id @exL_id)))) ?_
  refine goG Y166_CI True.intro ?_
  refine wG Y166_CI True.intro ?_
  exact Fin.oneP
theorem Y103_CI : type_of% (AI @F_ag_163 (AI @F_ag_3 (AI @F_ag_35 (AI @F_ag_44 (AI @F_ag_9 (AI @F_al_165 (AI @F_el_163 (AI @F_el_35 (AI @F_el_44 (AI @F_fl_165_0 (AI @F_fl_165_1 (AI @F_fl_165_2 (AI @F_fl_165_3 (AI @F_fl_165_4 (AI @F_fl_165_5 (AI @F_fl_165_6 (AI @F_sz_163 (AI @F_sz_165 (AI @F_sz_3 (AI @F_sz_35 (AI @F_sz_44 (AI @F_sz_46 (@F_sz_9))))))))))))))))))))))) := AI @F_ag_163 (AI @F_ag_3 (AI @F_ag_35 (AI @F_ag_44 (AI @F_ag_9 (AI @F_al_165 (AI @F_el_163 (AI @F_el_35 (AI @F_el_44 (AI @F_fl_165_0 (AI @F_fl_165_1 (AI @F_fl_165_2 (AI @F_fl_165_3 (AI @F_fl_165_4 (AI @F_fl_165_5 (AI @F_fl_165_6 (AI @F_sz_163 (AI @F_sz_165 (AI @F_sz_3 (AI @F_sz_35 (AI @F_sz_44 (AI @F_sz_46 (@F_sz_9))))))))))))))))))))))
set_option maxHeartbeats 4000000 in
theorem c_statement (s : Nd) (hf : fitN s) : PC Tryz.prog 103 [ndV s] (.im (.bool (stT s))) := by
  obtain ⟨hI, hsz, ⟨he1, he2⟩, h4, h5, h6, h7⟩ := fitN_inv hf
  have hn := c_name s.name hsz
  have hE := c_containsE0 (gs := s.e) (F := 166) (fun x => !efm x) he1 (fun t ht => c_stmt1 (c_eformed t (he2 t ht)))
  rw [← List.not_all_eq_any_not] at hE
  refine PC.enter 123 Tryz.func103 rfl (by decide) rfl rfl (s := [(0, ndV s)]) (by rfl) ?_
  rw [ndV_eq]
  obtain ⟨k, w, n, e, l, el, cs⟩ := s
  simp only [Nd.kind, Nd.width, Nd.name, Nd.e, Nd.l, Nd.el, Nd.cs] at *
  refine wnG Y103_CI True.intro ?_
  refine AWp.tail (ι := Frm (.mk k w n e l el cs)) (fun i => ⟨dn 123 [(1, .pt 0 0), (2, (.im (.bool (false)))), (3, .pt 1 0), (4, (.im (.int .i64 (i.ne)))), (5, (.im (.bool (i.a)))), (6, (.im (.bool (i.b)))), (7, (.im (.bool (i.c)))), (8, (.im (.bool (i.d))))], ofl [.box [.im (.int .i64 (k)), .im (.int .i64 w), .im (.string n), .sl (e.map exV) .ro, .sl (l.map ndV) .ro, .sl (el.map ndV) .ro, .sl (cs.map nlV) .ro], .box [.im (.int .i64 0), .im (.int .i64 i.pw), .im (.string ByteArray.empty), .sl [] .nl, .sl [] .nl, .sl [] .nl, .sl [] .nl]]⟩) (fun i => ?_) (fun rest ht => ?_)
  · obtain ⟨ne, a, b, c, d, pw, hi⟩ := i
    dsimp only; rw [hi]; clear hi; cases a
    case' true =>
      refine wG Y103_CI True.intro ?_; refine AR.callP hn True.intro (AI ndV_id (AI ndLs_id (AI nlVs_id (AI nlV_id @exL_id)))) ?_; refine goG Y103_CI True.intro ?_; refine wG Y103_CI True.intro ?_
    case' false =>
      refine wG Y103_CI True.intro ?_
    case true =>
      refine AWp.condAB rfl rfl (fun hE1 => ?_) (fun hE1 => ?_)
      · have hr : stB (.mk k w n e l el cs) ne true b c d pw = false := stF0 (by simp only [stB, eqS_empty, Nd.kind, Nd.width, Nd.name, Nd.e, Nd.l, Nd.el, Nd.cs]; simp at hE1 ⊢; grind)
        rw [hr]; refine wG Y103_CI True.intro ?_; exact Fin.oneP
      refine wG Y103_CI True.intro ?_; refine AWp.condAB rfl rfl (fun hE2 => ?_) (fun hE2 => ?_)
      · have hr : stB (.mk k w n e l el cs) ne true b c d pw = false := stF0 (by simp only [stB, eqS_empty, Nd.kind, Nd.width, Nd.name, Nd.e, Nd.l, Nd.el, Nd.cs]; simp at hE2 ⊢; grind)
        rw [hr]; refine wG Y103_CI True.intro ?_; exact Fin.oneP
      refine wG Y103_CI True.intro ?_; refine AR.callP hE True.intro (AI ndV_id (AI ndLs_id (AI nlVs_id (AI nlV_id @exL_id)))) ?_; refine goG Y103_CI True.intro ?_; refine wG Y103_CI True.intro ?_; have hr : stB (.mk k w n e l el cs) ne true b c d pw = e.all efm := stF1 (by simp only [stB, eqS_empty, Nd.kind, Nd.width, Nd.name, Nd.e, Nd.l, Nd.el, Nd.cs]; simp at hE1 hE2 ⊢; grind)
      rw [hr]; exact Fin.oneP
    case false =>
      refine AWp.condAB rfl rfl (fun hE1 => ?_) (fun hE1 => ?_)
      · have hr : stB (.mk k w n e l el cs) ne false b c d pw = false := stF0 (by simp only [stB, eqS_empty, Nd.kind, Nd.width, Nd.name, Nd.e, Nd.l, Nd.el, Nd.cs]; simp at hE1 ⊢; grind)
        rw [hr]; refine wG Y103_CI True.intro ?_; exact Fin.oneP
      refine wG Y103_CI True.intro ?_; refine AWp.condAB rfl rfl (fun hE2 => ?_) (fun hE2 => ?_)
      · have hr : stB (.mk k w n e l el cs) ne false b c d pw = false := stF0 (by simp only [stB, eqS_empty, Nd.kind, Nd.width, Nd.name, Nd.e, Nd.l, Nd.el, Nd.cs]; simp at hE2 ⊢; grind)
        rw [hr]; refine wG Y103_CI True.intro ?_; exact Fin.oneP
      refine wG Y103_CI True.intro ?_; refine AR.callP hE True.intro (AI ndV_id (AI ndLs_id (AI nlVs_id (AI nlV_id @exL_id)))) ?_; refine goG Y103_CI True.intro ?_; refine wG Y103_CI True.intro ?_; have hr : stB (.mk k w n e l el cs) ne false b c d pw = e.all efm := stF1 (by simp only [stB, eqS_empty, Nd.kind, Nd.width, Nd.name, Nd.e, Nd.l, Nd.el, Nd.cs]; simp at hE1 hE2 ⊢; grind)
      rw [hr]; exact Fin.oneP
  clear hE hn
  by_cases k1 : k = 1
  · subst k1
    refine wG Y103_CI True.intro ?_; refine AWp.cutP 2 [(1, .pt 0 0), (2, (.im (.bool (false)))), (3, .pt 1 0), (4, (.im (.int .i64 (1)))), (5, (.im (.bool (true)))), (6, (.im (.bool (false)))), (7, (.im (.bool (false)))), (8, (.im (.bool (false))))] [.box [.im (.int .i64 (1)), .im (.int .i64 w), .im (.string n), .sl (e.map exV) .ro, .sl (l.map ndV) .ro, .sl (el.map ndV) .ro, .sl (cs.map nlV) .ro], .box [.im (.int .i64 0), .im (.int .i64 0), .im (.string ByteArray.empty), .sl [] .nl, .sl [] .nl, .sl [] .nl, .sl [] .nl]] (AI exL_id (AI ndLs_id nlVs_id)) ?_; exact ht ⟨1, true, false, false, false, 0, stF1 (by simp only [stB, stT, eqS_empty, nE, nmd, lst, Nd.kind, Nd.width, Nd.name, Nd.e, Nd.l, Nd.el, Nd.cs]; simp; grind)⟩
  by_cases k2 : k = 2
  · subst k2
    refine wG Y103_CI True.intro ?_; refine AWp.condAB rfl rfl (fun hE0 => ?_) (fun hE0 => ?_)
    · rw [show stT (.mk 2 w n e l el cs) = false from stF0 (by simp only [stT, nE, nmd, lst, Nd.kind, Nd.width, Nd.name, Nd.e, Nd.l, Nd.el, Nd.cs]; simp at hE0 ⊢; grind)]
      refine wG Y103_CI True.intro ?_; exact Fin.oneP
    refine wG Y103_CI True.intro ?_; refine AWp.cutP 2 [(1, .pt 0 0), (2, (.im (.bool (false)))), (3, .pt 1 0), (4, (.im (.int .i64 (2)))), (5, (.im (.bool (false)))), (6, (.im (.bool (false)))), (7, (.im (.bool (false)))), (8, (.im (.bool (false))))] [.box [.im (.int .i64 (2)), .im (.int .i64 w), .im (.string n), .sl (e.map exV) .ro, .sl (l.map ndV) .ro, .sl (el.map ndV) .ro, .sl (cs.map nlV) .ro], .box [.im (.int .i64 0), .im (.int .i64 w), .im (.string ByteArray.empty), .sl [] .nl, .sl [] .nl, .sl [] .nl, .sl [] .nl]] (AI exL_id (AI ndLs_id nlVs_id)) ?_; exact ht ⟨2, false, false, false, false, w, stF1 (by simp only [stB, stT, eqS_empty, nE, nmd, lst, Nd.kind, Nd.width, Nd.name, Nd.e, Nd.l, Nd.el, Nd.cs]; simp at hE0 ⊢; grind)⟩
  by_cases k3 : k = 3
  · subst k3
    refine wG Y103_CI True.intro ?_; refine AWp.cutP 2 [(1, .pt 0 0), (2, (.im (.bool (false)))), (3, .pt 1 0), (4, (.im (.int .i64 (0)))), (5, (.im (.bool (true)))), (6, (.im (.bool (false)))), (7, (.im (.bool (false)))), (8, (.im (.bool (false))))] [.box [.im (.int .i64 (3)), .im (.int .i64 w), .im (.string n), .sl (e.map exV) .ro, .sl (l.map ndV) .ro, .sl (el.map ndV) .ro, .sl (cs.map nlV) .ro], .box [.im (.int .i64 0), .im (.int .i64 0), .im (.string ByteArray.empty), .sl [] .nl, .sl [] .nl, .sl [] .nl, .sl [] .nl]] (AI exL_id (AI ndLs_id nlVs_id)) ?_; exact ht ⟨0, true, false, false, false, 0, stF1 (by simp only [stB, stT, eqS_empty, nE, nmd, lst, Nd.kind, Nd.width, Nd.name, Nd.e, Nd.l, Nd.el, Nd.cs]; simp; grind)⟩
  by_cases k4 : k = 4
  · subst k4
    refine wG Y103_CI True.intro ?_; refine AWp.cutP 2 [(1, .pt 0 0), (2, (.im (.bool (false)))), (3, .pt 1 0), (4, (.im (.int .i64 (1)))), (5, (.im (.bool (false)))), (6, (.im (.bool (false)))), (7, (.im (.bool (false)))), (8, (.im (.bool (false))))] [.box [.im (.int .i64 (4)), .im (.int .i64 w), .im (.string n), .sl (e.map exV) .ro, .sl (l.map ndV) .ro, .sl (el.map ndV) .ro, .sl (cs.map nlV) .ro], .box [.im (.int .i64 0), .im (.int .i64 0), .im (.string ByteArray.empty), .sl [] .nl, .sl [] .nl, .sl [] .nl, .sl [] .nl]] (AI exL_id (AI ndLs_id nlVs_id)) ?_; exact ht ⟨1, false, false, false, false, 0, stF1 (by simp only [stB, stT, eqS_empty, nE, nmd, lst, Nd.kind, Nd.width, Nd.name, Nd.e, Nd.l, Nd.el, Nd.cs]; simp; grind)⟩
  by_cases k5 : k = 5
  · subst k5
    refine wG Y103_CI True.intro ?_; refine AWp.cutP 2 [(1, .pt 0 0), (2, (.im (.bool (false)))), (3, .pt 1 0), (4, (.im (.int .i64 (0)))), (5, (.im (.bool (true)))), (6, (.im (.bool (false)))), (7, (.im (.bool (false)))), (8, (.im (.bool (false))))] [.box [.im (.int .i64 (5)), .im (.int .i64 w), .im (.string n), .sl (e.map exV) .ro, .sl (l.map ndV) .ro, .sl (el.map ndV) .ro, .sl (cs.map nlV) .ro], .box [.im (.int .i64 0), .im (.int .i64 0), .im (.string ByteArray.empty), .sl [] .nl, .sl [] .nl, .sl [] .nl, .sl [] .nl]] (AI exL_id (AI ndLs_id nlVs_id)) ?_; exact ht ⟨0, true, false, false, false, 0, stF1 (by simp only [stB, stT, eqS_empty, nE, nmd, lst, Nd.kind, Nd.width, Nd.name, Nd.e, Nd.l, Nd.el, Nd.cs]; simp; grind)⟩
  by_cases k6 : k = 6
  · subst k6
    refine wG Y103_CI True.intro ?_; refine AWp.cutP 2 [(1, .pt 0 0), (2, (.im (.bool (false)))), (3, .pt 1 0), (4, (.im (.int .i64 (1)))), (5, (.im (.bool (false)))), (6, (.im (.bool (true)))), (7, (.im (.bool (true)))), (8, (.im (.bool (false))))] [.box [.im (.int .i64 (6)), .im (.int .i64 w), .im (.string n), .sl (e.map exV) .ro, .sl (l.map ndV) .ro, .sl (el.map ndV) .ro, .sl (cs.map nlV) .ro], .box [.im (.int .i64 0), .im (.int .i64 0), .im (.string ByteArray.empty), .sl [] .nl, .sl [] .nl, .sl [] .nl, .sl [] .nl]] (AI exL_id (AI ndLs_id nlVs_id)) ?_; exact ht ⟨1, false, true, true, false, 0, stF1 (by simp only [stB, stT, eqS_empty, nE, nmd, lst, Nd.kind, Nd.width, Nd.name, Nd.e, Nd.l, Nd.el, Nd.cs]; simp; grind)⟩
  by_cases k7 : k = 7
  · subst k7
    refine wG Y103_CI True.intro ?_; refine AWp.cutP 2 [(1, .pt 0 0), (2, (.im (.bool (false)))), (3, .pt 1 0), (4, (.im (.int .i64 (1)))), (5, (.im (.bool (false)))), (6, (.im (.bool (true)))), (7, (.im (.bool (false)))), (8, (.im (.bool (false))))] [.box [.im (.int .i64 (7)), .im (.int .i64 w), .im (.string n), .sl (e.map exV) .ro, .sl (l.map ndV) .ro, .sl (el.map ndV) .ro, .sl (cs.map nlV) .ro], .box [.im (.int .i64 0), .im (.int .i64 0), .im (.string ByteArray.empty), .sl [] .nl, .sl [] .nl, .sl [] .nl, .sl [] .nl]] (AI exL_id (AI ndLs_id nlVs_id)) ?_; exact ht ⟨1, false, true, false, false, 0, stF1 (by simp only [stB, stT, eqS_empty, nE, nmd, lst, Nd.kind, Nd.width, Nd.name, Nd.e, Nd.l, Nd.el, Nd.cs]; simp; grind)⟩
  by_cases k8 : k = 8
  · subst k8
    refine wG Y103_CI True.intro ?_; refine AWp.cutP 2 [(1, .pt 0 0), (2, (.im (.bool (false)))), (3, .pt 1 0), (4, (.im (.int .i64 (0)))), (5, (.im (.bool (false)))), (6, (.im (.bool (true)))), (7, (.im (.bool (false)))), (8, (.im (.bool (false))))] [.box [.im (.int .i64 (8)), .im (.int .i64 w), .im (.string n), .sl (e.map exV) .ro, .sl (l.map ndV) .ro, .sl (el.map ndV) .ro, .sl (cs.map nlV) .ro], .box [.im (.int .i64 0), .im (.int .i64 0), .im (.string ByteArray.empty), .sl [] .nl, .sl [] .nl, .sl [] .nl, .sl [] .nl]] (AI exL_id (AI ndLs_id nlVs_id)) ?_; exact ht ⟨0, false, true, false, false, 0, stF1 (by simp only [stB, stT, eqS_empty, nE, nmd, lst, Nd.kind, Nd.width, Nd.name, Nd.e, Nd.l, Nd.el, Nd.cs]; simp; grind)⟩
  by_cases k9 : k = 9
  · subst k9
    refine wG Y103_CI True.intro ?_; refine AWp.condAB rfl rfl (fun hE0 => ?_) (fun hE0 => ?_)
    · rw [show stT (.mk 9 w n e l el cs) = false from stF0 (by simp only [stT, nE, nmd, lst, Nd.kind, Nd.width, Nd.name, Nd.e, Nd.l, Nd.el, Nd.cs]; simp at hE0 ⊢; grind)]
      refine wG Y103_CI True.intro ?_; exact Fin.oneP
    refine wG Y103_CI True.intro ?_; refine AWp.cutP 2 [(1, .pt 0 0), (2, (.im (.bool (false)))), (3, .pt 1 0), (4, (.im (.int .i64 (1)))), (5, (.im (.bool (false)))), (6, (.im (.bool (false)))), (7, (.im (.bool (false)))), (8, (.im (.bool (true))))] [.box [.im (.int .i64 (9)), .im (.int .i64 w), .im (.string n), .sl (e.map exV) .ro, .sl (l.map ndV) .ro, .sl (el.map ndV) .ro, .sl (cs.map nlV) .ro], .box [.im (.int .i64 0), .im (.int .i64 0), .im (.string ByteArray.empty), .sl [] .nl, .sl [] .nl, .sl [] .nl, .sl [] .nl]] (AI exL_id (AI ndLs_id nlVs_id)) ?_; exact ht ⟨1, false, false, false, true, 0, stF1 (by simp only [stB, stT, eqS_empty, nE, nmd, lst, Nd.kind, Nd.width, Nd.name, Nd.e, Nd.l, Nd.el, Nd.cs]; simp at hE0 ⊢; grind)⟩
  by_cases k10 : k = 10
  · subst k10
    refine wG Y103_CI True.intro ?_; refine AWp.cutP 2 [(1, .pt 0 0), (2, (.im (.bool (false)))), (3, .pt 1 0), (4, (.im (.int .i64 (0)))), (5, (.im (.bool (false)))), (6, (.im (.bool (false)))), (7, (.im (.bool (false)))), (8, (.im (.bool (false))))] [.box [.im (.int .i64 (10)), .im (.int .i64 w), .im (.string n), .sl (e.map exV) .ro, .sl (l.map ndV) .ro, .sl (el.map ndV) .ro, .sl (cs.map nlV) .ro], .box [.im (.int .i64 0), .im (.int .i64 0), .im (.string ByteArray.empty), .sl [] .nl, .sl [] .nl, .sl [] .nl, .sl [] .nl]] (AI exL_id (AI ndLs_id nlVs_id)) ?_; exact ht ⟨0, false, false, false, false, 0, stF1 (by simp only [stB, stT, eqS_empty, nE, nmd, lst, Nd.kind, Nd.width, Nd.name, Nd.e, Nd.l, Nd.el, Nd.cs]; simp; grind)⟩
  by_cases k11 : k = 11
  · subst k11
    refine wG Y103_CI True.intro ?_; refine AWp.cutP 2 [(1, .pt 0 0), (2, (.im (.bool (false)))), (3, .pt 1 0), (4, (.im (.int .i64 (0)))), (5, (.im (.bool (false)))), (6, (.im (.bool (false)))), (7, (.im (.bool (false)))), (8, (.im (.bool (false))))] [.box [.im (.int .i64 (11)), .im (.int .i64 w), .im (.string n), .sl (e.map exV) .ro, .sl (l.map ndV) .ro, .sl (el.map ndV) .ro, .sl (cs.map nlV) .ro], .box [.im (.int .i64 0), .im (.int .i64 0), .im (.string ByteArray.empty), .sl [] .nl, .sl [] .nl, .sl [] .nl, .sl [] .nl]] (AI exL_id (AI ndLs_id nlVs_id)) ?_; exact ht ⟨0, false, false, false, false, 0, stF1 (by simp only [stB, stT, eqS_empty, nE, nmd, lst, Nd.kind, Nd.width, Nd.name, Nd.e, Nd.l, Nd.el, Nd.cs]; simp; grind)⟩
  by_cases k12 : k = 12
  · subst k12
    refine wG Y103_CI True.intro ?_; refine AWp.cutP 2 [(1, .pt 0 0), (2, (.im (.bool (false)))), (3, .pt 1 0), (4, (.im (.int .i64 (0)))), (5, (.im (.bool (true)))), (6, (.im (.bool (false)))), (7, (.im (.bool (false)))), (8, (.im (.bool (false))))] [.box [.im (.int .i64 (12)), .im (.int .i64 w), .im (.string n), .sl (e.map exV) .ro, .sl (l.map ndV) .ro, .sl (el.map ndV) .ro, .sl (cs.map nlV) .ro], .box [.im (.int .i64 0), .im (.int .i64 0), .im (.string ByteArray.empty), .sl [] .nl, .sl [] .nl, .sl [] .nl, .sl [] .nl]] (AI exL_id (AI ndLs_id nlVs_id)) ?_; exact ht ⟨0, true, false, false, false, 0, stF1 (by simp only [stB, stT, eqS_empty, nE, nmd, lst, Nd.kind, Nd.width, Nd.name, Nd.e, Nd.l, Nd.el, Nd.cs]; simp; grind)⟩
  by_cases k13 : k = 13
  · subst k13
    refine wG Y103_CI True.intro ?_; refine AWp.cutP 2 [(1, .pt 0 0), (2, (.im (.bool (false)))), (3, .pt 1 0), (4, (.im (.int .i64 (0)))), (5, (.im (.bool (true)))), (6, (.im (.bool (false)))), (7, (.im (.bool (false)))), (8, (.im (.bool (false))))] [.box [.im (.int .i64 (13)), .im (.int .i64 w), .im (.string n), .sl (e.map exV) .ro, .sl (l.map ndV) .ro, .sl (el.map ndV) .ro, .sl (cs.map nlV) .ro], .box [.im (.int .i64 0), .im (.int .i64 0), .im (.string ByteArray.empty), .sl [] .nl, .sl [] .nl, .sl [] .nl, .sl [] .nl]] (AI exL_id (AI ndLs_id nlVs_id)) ?_; exact ht ⟨0, true, false, false, false, 0, stF1 (by simp only [stB, stT, eqS_empty, nE, nmd, lst, Nd.kind, Nd.width, Nd.name, Nd.e, Nd.l, Nd.el, Nd.cs]; simp; grind)⟩
  by_cases k14 : k = 14
  · subst k14
    refine wG Y103_CI True.intro ?_; refine AWp.cutP 2 [(1, .pt 0 0), (2, (.im (.bool (false)))), (3, .pt 1 0), (4, (.im (.int .i64 (0)))), (5, (.im (.bool (false)))), (6, (.im (.bool (false)))), (7, (.im (.bool (false)))), (8, (.im (.bool (false))))] [.box [.im (.int .i64 (14)), .im (.int .i64 w), .im (.string n), .sl (e.map exV) .ro, .sl (l.map ndV) .ro, .sl (el.map ndV) .ro, .sl (cs.map nlV) .ro], .box [.im (.int .i64 0), .im (.int .i64 0), .im (.string ByteArray.empty), .sl [] .nl, .sl [] .nl, .sl [] .nl, .sl [] .nl]] (AI exL_id (AI ndLs_id nlVs_id)) ?_; exact ht ⟨0, false, false, false, false, 0, stF1 (by simp only [stB, stT, eqS_empty, nE, nmd, lst, Nd.kind, Nd.width, Nd.name, Nd.e, Nd.l, Nd.el, Nd.cs]; simp; grind)⟩
  by_cases k15 : k = 15
  · subst k15
    refine wG Y103_CI True.intro ?_; refine AWp.cutP 2 [(1, .pt 0 0), (2, (.im (.bool (false)))), (3, .pt 1 0), (4, (.im (.int .i64 (0)))), (5, (.im (.bool (false)))), (6, (.im (.bool (false)))), (7, (.im (.bool (false)))), (8, (.im (.bool (false))))] [.box [.im (.int .i64 (15)), .im (.int .i64 w), .im (.string n), .sl (e.map exV) .ro, .sl (l.map ndV) .ro, .sl (el.map ndV) .ro, .sl (cs.map nlV) .ro], .box [.im (.int .i64 0), .im (.int .i64 0), .im (.string ByteArray.empty), .sl [] .nl, .sl [] .nl, .sl [] .nl, .sl [] .nl]] (AI exL_id (AI ndLs_id nlVs_id)) ?_; exact ht ⟨0, false, false, false, false, 0, stF1 (by simp only [stB, stT, eqS_empty, nE, nmd, lst, Nd.kind, Nd.width, Nd.name, Nd.e, Nd.l, Nd.el, Nd.cs]; simp; grind)⟩
  rw [show stT (.mk k w n e l el cs) = false from stF0 (fun h => by simp only [stT, Bool.and_eq_true, decide_eq_true_eq] at h; have q := h.1.1.1.1.1.1.1; simp only [Nd.kind] at q; omega)]
  refine wG Y103_CI (AI k1 (AI k2 (AI k3 (AI k4 (AI k5 (AI k6 (AI k7 (AI k8 (AI k9 (AI k10 (AI k11 (AI k12 (AI k13 (AI k14 k15)))))))))))))) ?_
  exact Fin.oneP
theorem PC.ghost {P : Program} {f : FuncId} {xs : List V} {e : TypeId} {z : Nat} (h : PC P f xs (.sl [] .nl)) : DC P f xs [.free] (.sl [] (.own 0)) [.tip e z 0] := by
  refine ⟨h.1, fun C vs hst hC hl hR => ?_⟩
  have hst' : C.st = stF := by
    rw [hst]; funext i; unfold ofl stF; cases i with
    | zero => rfl
    | succ i => simp [List.getD]
  refine (h.2 C vs hst' hC hl hR).mono ?_
  rintro e' w' ⟨v, x, st', rfl, ⟨rfl, rfl⟩, D, hw, hs, hD, hE, hR'⟩
  have hf : D.st 0 = .free := by rw [hs]; rfl
  refine ⟨v, _, _, rfl, ⟨rfl, rfl⟩, D.ghost 0 e z 0, hw, ?_, hD.ghost hf, hE.trans (Ev.ghost hf), R.ghost (.inr rfl) hf hR' (fun x hx => by cases hx)⟩
  show upd D.st 0 (.tip e z 0) = _
  rw [hs]
  funext i
  cases i with
  | zero => rfl
  | succ i => simp [upd, stF, ofl, List.getD]
theorem ACalls.nz_ne {P : Program} {f : FuncId} {es : List V} {xs : List V} {st : Nat → Ent} {Q : V → (Nat → Ent) → Prop} (hf : goFn P f = true) (h : 0 < es.length) : ACalls P f (.sl es .nz :: xs) st Q := by
  refine ⟨hf, fun C vs _ _ _ hR => ?_⟩
  have h0 : R C (.sl es .nz) (vs.getD 0 undef) := hR 0 (by simp)
  exfalso
  generalize vs.getD 0 undef = v at h0
  cases h0 with
  | sl _ _ _ _ hr hk =>
    obtain ⟨ad, h1, _⟩ := hr 0 h; rw [h1] at hk; cases hk
theorem vaL_all (l : List Va) : allZ 6 (l.map vaV) = true := by
  unfold allZ
  rw [List.all_map]
  exact List.all_eq_true.2 fun x _ => rfl
theorem Y87_CJ : type_of% (AI @F_al_96 (AI @F_by_96 (AI @F_el_23 (@F_sz_96)))) := AI @F_al_96 (AI @F_by_96 (AI @F_el_23 (@F_sz_96)))
theorem c_clV {vs : List Va} (hv : vs.length ≤ 4194304) : DC Tryz.prog 87 [.sl (vs.map vaV) .ro] [.free] (.sl (vs.map vaV) (.own 0)) [.tip 96 6 vs.length] := by
  have hA : vs.length * 88 ≤ 140737488355328 := by omega
  refine ACalls.nil1 ?_ ?_
  · rcases Nat.eq_zero_or_pos vs.length with h0 | h0
    · obtain rfl := List.length_eq_zero_iff.1 h0
      refine PC.ghost ?_; refine PC.enter 8 Tryz.func87 rfl (by decide) rfl rfl (s := [(0, .sl [] .nz)]) (by rfl) ?_
      refine wG Y87_CJ True.intro ?_; refine Fin.gen0 (rs := [.tmp 2]) rfl (by first | exact .inl rfl | exact .inr rfl) (finG Y87_CJ) ?_
      all_goals exact wkG (AI (@exL_id) (AI (@vaL_id) (AI (@exV_id) @vaV_id)))
    · exact ACalls.nz_ne (by kernel_rfl) (by simpa using h0)
  · refine DC.enterN 1 8 Tryz.func87 rfl (by decide) rfl rfl (s := [(0, .sl (vs.map vaV) .nn)]) (by rfl) ?_
    refine wG Y87_CJ (AI hA (AI vaL_all (AI (@List.length_map.{0, 0}) @Nat.zero_add))) ?_; refine Fin.genK 1 (rs := [.tmp 2]) rfl (by first | exact .inl rfl | exact .inr rfl) (by simp only [resX, resA, ↓accU_f, ↓reduceIte, SA, SB, SC, SD, Y87_CJ, valG, fpsG, evO, evB, evA, evA1, nilK, eqF, eqC, apOk, intOf, slB, slK,  gd, St.ev, putA, ofl, wrl, putE, V.ofVal, V.ofCell, bin2, un1, seg, fillV, partsOk, Value.oneCell', Nat.reduceBEq, Nat.reduceLT, Nat.reduceSub, Nat.reduceAdd, Nat.reduceMul, Nat.reduceLeDiff, Nat.reduceEqDiff, reduceCtorEq, Int.reduceLT, Int.reduceLE, Int.reduceEq, Int.reduceNe, Int.reduceBEq, Int.reduceBNe, Int.reduceAdd, Int.reduceSub, Int.reduceMul, Int.reduceToNat]; with_reducible exact rfl) ?_ rfl (by first | rfl | simp only [List.length_cons, List.length_nil, Nat.reduceAdd, V.ids, V.idsL, idsA, entOk, List.all_cons, List.all_nil, Bool.and_self, Bool.and_true, Bool.true_and, ltB, noId, Nat.reduceLT, decide_true, Bool.true_eq_false, tyV_id, fdV_id, tyL_id, fdL_id, exL_id, vaL_id, exV_id, vaV_id])
    repeat (first | exact WkF.of (Wk.refl _) (by first | rfl | simp only [List.length_cons, List.length_nil, Nat.reduceAdd, V.ids, V.idsL, idsA, entOk, List.all_cons, List.all_nil, Bool.and_self, Bool.and_true, Bool.true_and, ltB, noId, Nat.reduceLT, decide_true, Bool.true_eq_false, tyV_id, fdV_id, tyL_id, fdL_id, exL_id, vaL_id, exV_id, vaV_id]) | exact WkF.of (Wk.ro _ _) (by first | rfl | simp only [List.length_cons, List.length_nil, Nat.reduceAdd, V.ids, V.idsL, idsA, entOk, List.all_cons, List.all_nil, Bool.and_self, Bool.and_true, Bool.true_and, ltB, noId, Nat.reduceLT, decide_true, Bool.true_eq_false, tyV_id, fdV_id, tyL_id, fdL_id, exL_id, vaL_id, exV_id, vaV_id]) | refine WkF.tu ?_ | refine WkF.ag ?_ | refine WkFL.cons ?_ ?_ | exact WkFL.nil)
def vErr : List Va → List Va → Int
  | _, [] => 0
  | seen, v :: r => if !nameT v.name then 3 else if has seen v.name then 8 else if chk v.ty ≠ 0 then chk v.ty else vErr (seen ++ [v]) r
theorem vErr_step {bs l : List Va} {m : Nat} (h : m < l.length) : vErr (bs ++ l.take m) (l.drop m) = if !nameT l[m].name then 3 else if has (bs ++ l.take m) l[m].name then 8 else if chk l[m].ty ≠ 0 then chk l[m].ty else vErr (bs ++ l.take (m + 1)) (l.drop (m + 1)) := by
  rw [List.drop_eq_getElem_cons h]
  rw [vErr, List.take_succ_eq_append_getElem h, List.append_assoc]
def fitVN (l : List Va) : Prop := ∀ v ∈ l, fit v.ty ∧ v.name.size ≤ 9223372036854775807
theorem Y41_CJ : type_of% (AI @F_ag_9 (AI @F_ag_94 (AI @F_ag_96 (AI @F_al_96 (AI @F_by_96 (AI @F_el_23 (AI @F_fl_96_0 (AI @F_fl_96_1 (AI @F_sz_9 (AI @F_sz_94 (@F_sz_96))))))))))) := AI @F_ag_9 (AI @F_ag_94 (AI @F_ag_96 (AI @F_al_96 (AI @F_by_96 (AI @F_el_23 (AI @F_fl_96_0 (AI @F_fl_96_1 (AI @F_sz_9 (AI @F_sz_94 (@F_sz_96))))))))))
theorem c_variablesE (bs l : List Va) (hb : bs.length + l.length ≤ 4194304) (hl : fitVN l) : PC Tryz.prog 41 [.sl (bs.map vaV) .ro, .sl (l.map vaV) .ro] (.im (.int .i64 (vErr bs l))) := by
  obtain ⟨sn, hsn⟩ : ∃ sn : Nat → List Va, ∀ m, sn m = bs ++ l.take m := ⟨_, fun _ => rfl⟩
  have hs0 : sn 0 = bs := by rw [hsn]; simp
  have hsl : ∀ m, (sn m).length ≤ bs.length + l.length := fun m => by rw [hsn, List.length_append, List.length_take]; omega
  have hstep : ∀ m (h : m < l.length), vErr (sn m) (l.drop m) = if !nameT l[m].name then 3 else if has (sn m) l[m].name then 8 else if chk l[m].ty ≠ 0 then chk l[m].ty else vErr (sn (m + 1)) (l.drop (m + 1)) := fun m h => by
    rw [hsn, hsn]; exact vErr_step h
  have happ : ∀ m (h : m < l.length), (sn m).map vaV ++ [vaV l[m]] = (sn (m + 1)).map vaV := fun m h => by
    rw [hsn, hsn, List.map_append, List.map_append, List.append_assoc, take_snoc vaV h]
  have hlen : ∀ m (h : m < l.length), (sn m).length + 1 = (sn (m + 1)).length := fun m h => by
    rw [hsn, hsn, List.length_append, List.length_append, List.length_take, List.length_take]; omega
  have hcl := c_clV (vs := sn 0) (by have := hsl 0; omega)
  refine PC.enter 39 Tryz.func41 rfl (by decide) rfl rfl (s := [(0, .sl (bs.map vaV) .ro), (1, .sl (l.map vaV) .ro)]) (by rfl) ?_
  refine wG Y41_CJ True.intro ?_
  refine AR.callSP [0] hcl hs0 (AI (@exL_id) (AI (@vaL_id) (AI (@exV_id) @vaV_id))) (AI (@exV_ren) (AI (@exL_ren) (AI (@vaV_ren) @vaL_ren))) ?_
  refine goG Y41_CJ True.intro ?_
  refine wG Y41_CJ @List.length_map.{0, 0} ?_
  refine AWp.loop ?_
  refine ALp.cutP 1 [(5, .sl ((sn (0)).map vaV) (.own 0)), (11, .sl (l.map vaV) .ro), (12, (.im (.int .i64 (l.length)))), (13, (.im (.int .i64 ((((0 : Nat)) : Int)))))] [.tip 96 6 (sn (0)).length] (AI (@exL_id) (AI (@vaL_id) (AI (@exV_id) @vaV_id))) ?_
  refine ALp.upto l.length (fun m => vErr (sn m) (l.drop m) = vErr bs l) (fun m => ⟨dn 39 [(5, .sl ((sn (m)).map vaV) (.own 0)), (11, .sl (l.map vaV) .ro), (12, (.im (.int .i64 (l.length)))), (13, (.im (.int .i64 ((((m : Nat)) : Int)))))], ofl [.tip 96 6 (sn (m)).length]⟩) ?_ 0 (Nat.zero_le _) (by rw [hs0, List.drop_zero])
  intro m hm hV hnext
  rw [← hV]
  by_cases hlt : m < l.length
  · have hlt' : (m : Int) < (l.length : Int) := by omega
    have hm1 := wrap_succ hlt (by omega)
    have hg := get_some hlt; obtain ⟨hty, hnm⟩ := hl _ (List.getElem_mem hlt); have h1 := c_name l[m].name hnm; have h2 := c_among (sn m); have h3 := c_among1 (sn m) (by have := hsl m; omega) l[m].name
    have h4 := c_check l[m].ty hty; have ha := happ m hlt; rw [vaV_eq] at ha; have hln := hlen m hlt; have hA : (sn (m + 1)).length * 88 ≤ 140737488355328 := by have := hsl (m + 1); omega
    rw [hstep m hlt]; rw [hstep m hlt] at hV; have hn2 := hnext (m + 1) (by omega) (by omega)
    cases b1 : nameT l[m].name with
    | false =>
      rw [b1] at h1; simp only [Bool.not_false, if_true]; refine wG Y41_CJ (AI hlt' (AI hg VA)) ?_; refine AR.callP h1 True.intro (AI (@exL_id) (AI (@vaL_id) (AI (@exV_id) @vaV_id))) ?_; refine goG Y41_CJ True.intro ?_; refine wG Y41_CJ True.intro ?_; exact Fin.oneP
    | true =>
      rw [b1] at h1 hV; simp only [Bool.not_true, Bool.false_eq_true, if_false] at hV ⊢; cases b2 : has (sn m) l[m].name with
      | true =>
        rw [b2] at h3; simp only [if_true]; refine wG Y41_CJ (AI hlt' (AI hg VA)) ?_; refine AR.callP h1 True.intro (AI (@exL_id) (AI (@vaL_id) (AI (@exV_id) @vaV_id))) ?_; refine goG Y41_CJ True.intro ?_; refine wdG Y41_CJ True.intro ?_; refine AR.callS [2] h2 rfl rfl (by first | (simp only [SR, exV_ren, exL_ren, vaV_ren, vaL_ren]; done) | (simp only [SR, exV_ren, exL_ren, vaV_ren, vaL_ren]; with_reducible exact rfl)) (by first | (simp only [SR, exV_ren, exL_ren, vaV_ren, vaL_ren]; done) | (simp only [SR, exV_ren, exL_ren, vaV_ren, vaL_ren]; with_reducible exact rfl)) (WkL.cons (Wk.ro _ _) .nil) (by first | rfl | simp only [List.length_cons, List.length_nil, Nat.reduceAdd, V.ids, V.idsL, idsA, entOk, List.all_cons, List.all_nil, Bool.and_self, Bool.and_true, Bool.true_and, ltB, noId, Nat.reduceLT, decide_true, Bool.true_eq_false, tyV_id, fdV_id, tyL_id, fdL_id, exL_id, vaL_id, exV_id, vaV_id]) rfl rfl rfl (by first | rfl | simp only [List.length_cons, List.length_nil, Nat.reduceAdd, V.ids, V.idsL, idsA, entOk, List.all_cons, List.all_nil, Bool.and_self, Bool.and_true, Bool.true_and, ltB, noId, Nat.reduceLT, decide_true, Bool.true_eq_false, tyV_id, fdV_id, tyL_id, fdL_id, exL_id, vaL_id, exV_id, vaV_id]) (by intro p hp; simp only [renE, SR, Ent.ren, List.mem_cons, List.not_mem_nil, or_false, exV_ren, exL_ren, vaV_ren, vaL_ren] at hp; rcases hp with rfl <;> rfl) (by simp only [renE, Ent.ren, SR, exV_ren, exL_ren, vaV_ren, vaL_ren, wrl, putE, SC, SD, Nat.reduceBEq, Nat.reduceLT, Nat.reduceSub, Nat.reduceAdd, Nat.reduceMul, Nat.reduceLeDiff, Nat.reduceEqDiff, reduceCtorEq, Int.reduceLT, Int.reduceLE, Int.reduceEq, Int.reduceNe, Int.reduceBEq, Int.reduceBNe, Int.reduceAdd, Int.reduceSub, Int.reduceMul, Int.reduceToNat]; with_reducible exact rfl) ?_
        refine goG Y41_CJ True.intro ?_; refine AR.callQP [2] h3 True.intro (AI (@exL_id) (AI (@vaL_id) (AI (@exV_id) @vaV_id))) (AI (@exV_ren) (AI (@exL_ren) (AI (@vaV_ren) @vaL_ren))) ?_; refine goG Y41_CJ True.intro ?_; refine wdG Y41_CJ True.intro ?_; exact Fin.oneP
      | false =>
        rw [b2] at h3 hV; simp only [Bool.false_eq_true, if_false] at hV ⊢
        by_cases b3 : chk l[m].ty = 0
        case neg =>
          have q : (chk l[m].ty ≠ 0) = True := by simp [b3]
          rw [if_pos b3]; refine wG Y41_CJ (AI hlt' (AI hg VA)) ?_; refine AR.callP h1 True.intro (AI (@exL_id) (AI (@vaL_id) (AI (@exV_id) @vaV_id))) ?_; refine goG Y41_CJ True.intro ?_; refine wdG Y41_CJ True.intro ?_; refine AR.callS [2] h2 rfl rfl (by first | (simp only [SR, exV_ren, exL_ren, vaV_ren, vaL_ren]; done) | (simp only [SR, exV_ren, exL_ren, vaV_ren, vaL_ren]; with_reducible exact rfl)) (by first | (simp only [SR, exV_ren, exL_ren, vaV_ren, vaL_ren]; done) | (simp only [SR, exV_ren, exL_ren, vaV_ren, vaL_ren]; with_reducible exact rfl)) (WkL.cons (Wk.ro _ _) .nil) (by first | rfl | simp only [List.length_cons, List.length_nil, Nat.reduceAdd, V.ids, V.idsL, idsA, entOk, List.all_cons, List.all_nil, Bool.and_self, Bool.and_true, Bool.true_and, ltB, noId, Nat.reduceLT, decide_true, Bool.true_eq_false, tyV_id, fdV_id, tyL_id, fdL_id, exL_id, vaL_id, exV_id, vaV_id]) rfl rfl rfl (by first | rfl | simp only [List.length_cons, List.length_nil, Nat.reduceAdd, V.ids, V.idsL, idsA, entOk, List.all_cons, List.all_nil, Bool.and_self, Bool.and_true, Bool.true_and, ltB, noId, Nat.reduceLT, decide_true, Bool.true_eq_false, tyV_id, fdV_id, tyL_id, fdL_id, exL_id, vaL_id, exV_id, vaV_id]) (by intro p hp; simp only [renE, SR, Ent.ren, List.mem_cons, List.not_mem_nil, or_false, exV_ren, exL_ren, vaV_ren, vaL_ren] at hp; rcases hp with rfl <;> rfl) (by simp only [renE, Ent.ren, SR, exV_ren, exL_ren, vaV_ren, vaL_ren, wrl, putE, SC, SD, Nat.reduceBEq, Nat.reduceLT, Nat.reduceSub, Nat.reduceAdd, Nat.reduceMul, Nat.reduceLeDiff, Nat.reduceEqDiff, reduceCtorEq, Int.reduceLT, Int.reduceLE, Int.reduceEq, Int.reduceNe, Int.reduceBEq, Int.reduceBNe, Int.reduceAdd, Int.reduceSub, Int.reduceMul, Int.reduceToNat]; with_reducible exact rfl) ?_
          refine goG Y41_CJ True.intro ?_; refine AR.callQP [2] h3 True.intro (AI (@exL_id) (AI (@vaL_id) (AI (@exV_id) @vaV_id))) (AI (@exV_ren) (AI (@exL_ren) (AI (@vaV_ren) @vaL_ren))) ?_; refine goG Y41_CJ True.intro ?_; refine wdG Y41_CJ TY ?_; refine AR.callP h4 @tyV_eq (AI (@exL_id) (AI (@vaL_id) (AI (@exV_id) @vaV_id))) ?_; refine goG Y41_CJ b3 ?_; refine wG Y41_CJ b3 ?_; exact Fin.oneP
        case pos =>
          rw [if_neg (by simp [b3])] at hV ⊢
          rw [b3] at h4; refine wG Y41_CJ (AI hlt' (AI hg VA)) ?_; refine AR.callP h1 True.intro (AI (@exL_id) (AI (@vaL_id) (AI (@exV_id) @vaV_id))) ?_; refine goG Y41_CJ True.intro ?_; refine wdG Y41_CJ True.intro ?_; refine AR.callS [2] h2 rfl rfl (by first | (simp only [SR, exV_ren, exL_ren, vaV_ren, vaL_ren]; done) | (simp only [SR, exV_ren, exL_ren, vaV_ren, vaL_ren]; with_reducible exact rfl)) (by first | (simp only [SR, exV_ren, exL_ren, vaV_ren, vaL_ren]; done) | (simp only [SR, exV_ren, exL_ren, vaV_ren, vaL_ren]; with_reducible exact rfl)) (WkL.cons (Wk.ro _ _) .nil) (by first | rfl | simp only [List.length_cons, List.length_nil, Nat.reduceAdd, V.ids, V.idsL, idsA, entOk, List.all_cons, List.all_nil, Bool.and_self, Bool.and_true, Bool.true_and, ltB, noId, Nat.reduceLT, decide_true, Bool.true_eq_false, tyV_id, fdV_id, tyL_id, fdL_id, exL_id, vaL_id, exV_id, vaV_id]) rfl rfl rfl (by first | rfl | simp only [List.length_cons, List.length_nil, Nat.reduceAdd, V.ids, V.idsL, idsA, entOk, List.all_cons, List.all_nil, Bool.and_self, Bool.and_true, Bool.true_and, ltB, noId, Nat.reduceLT, decide_true, Bool.true_eq_false, tyV_id, fdV_id, tyL_id, fdL_id, exL_id, vaL_id, exV_id, vaV_id]) (by intro p hp; simp only [renE, SR, Ent.ren, List.mem_cons, List.not_mem_nil, or_false, exV_ren, exL_ren, vaV_ren, vaL_ren] at hp; rcases hp with rfl <;> rfl) (by simp only [renE, Ent.ren, SR, exV_ren, exL_ren, vaV_ren, vaL_ren, wrl, putE, SC, SD, Nat.reduceBEq, Nat.reduceLT, Nat.reduceSub, Nat.reduceAdd, Nat.reduceMul, Nat.reduceLeDiff, Nat.reduceEqDiff, reduceCtorEq, Int.reduceLT, Int.reduceLE, Int.reduceEq, Int.reduceNe, Int.reduceBEq, Int.reduceBNe, Int.reduceAdd, Int.reduceSub, Int.reduceMul, Int.reduceToNat]; with_reducible exact rfl) ?_
          refine goG Y41_CJ True.intro ?_; refine AR.callQP [2] h3 True.intro (AI (@exL_id) (AI (@vaL_id) (AI (@exV_id) @vaV_id))) (AI (@exV_ren) (AI (@exL_ren) (AI (@vaV_ren) @vaL_ren))) ?_; refine goG Y41_CJ True.intro ?_; refine wdG Y41_CJ TY ?_; refine AR.callP h4 @tyV_eq (AI (@exL_id) (AI (@vaL_id) (AI (@exV_id) @vaV_id))) ?_; refine goG Y41_CJ True.intro ?_; refine wG Y41_CJ (AI ha (AI hln (AI hA (AI hm1 @List.length_map.{0, 0})))) ?_; refine ALp.cutP 1 [(5, .sl ((sn (m + 1)).map vaV) (.own 0)), (11, .sl (l.map vaV) .ro), (12, (.im (.int .i64 (l.length)))), (13, (.im (.int .i64 ((((m + 1 : Nat)) : Int)))))] [.tip 96 6 (sn (m + 1)).length] (AI (@exL_id) (AI (@vaL_id) (AI (@exV_id) @vaV_id))) ?_; rw [hV]; exact hn2 hV
  obtain rfl : m = l.length := by omega
  clear hnext
  have e0 : vErr (sn l.length) (l.drop l.length) = 0 := by rw [List.drop_length]; cases sn l.length <;> rfl
  rw [e0]
  refine wG Y41_CJ @Int.lt_irrefl ?_
  exact Fin.oneP
end Go.Proofs.YtmbmmckagcdapaaGreatDoor
