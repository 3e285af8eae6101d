/- Walks of the reference: Merge. -/
import Derived.Test.YtianekkfehoedaaGreatDoorHv
import Derived.Test.YtianekkfehoedaaGreatDoorRc
import Derived.Test.YtianekkfehoedaaGreatDoorZh
namespace Go.Proofs.YtianekkfehoedaaGreatDoor
set_option linter.unusedSimpArgs false
set_option linter.unusedVariables false
set_option linter.unnecessarySimpa false
open Go.RowKit
theorem Y43_Rm : type_of% (And.intro @F_ag_28 (And.intro @F_ag_31 (And.intro @F_ag_4 (And.intro @F_ag_46 (And.intro @F_ag_9 (And.intro @F_al_31 (And.intro @F_al_46 (And.intro @F_by_46 (And.intro @F_el_28 (And.intro @F_fl_31_0 (And.intro @F_fl_31_1 (And.intro @F_fl_46_3 (And.intro @F_sz_28 (And.intro @F_sz_31 (And.intro @F_sz_4 (And.intro @F_sz_46 (@F_sz_9))))))))))))))))) := And.intro @F_ag_28 (And.intro @F_ag_31 (And.intro @F_ag_4 (And.intro @F_ag_46 (And.intro @F_ag_9 (And.intro @F_al_31 (And.intro @F_al_46 (And.intro @F_by_46 (And.intro @F_el_28 (And.intro @F_fl_31_0 (And.intro @F_fl_31_1 (And.intro @F_fl_46_3 (And.intro @F_sz_28 (And.intro @F_sz_31 (And.intro @F_sz_4 (And.intro @F_sz_46 (@F_sz_9))))))))))))))))
structure MI (L O : List En) (x : Nat × List En × List En) : Prop where
  m : x.1 ≤ O.length
  asc : AscE x.2.1
  len : x.2.1.length ≤ 1024
  rl : x.2.2.length ≤ x.1
  e : mgE L L O = ((mgE L x.2.1 (O.drop x.1)).1, x.2.2 ++ (mgE L x.2.1 (O.drop x.1)).2)
set_option maxHeartbeats 4000000 in
theorem c_MergeR (p o : Pr) (h : AscE p.l) (hl : p.l.length ≤ 1024) (ho : o.l.length ≤ 1024) (ht : ∀ e ∈ o.l, e.text.length ≤ 65535) (hu : p.un.length ≤ 4194304) : PC Tryz.prog 43 [(.ag [(.im (.bool (true))), .sl ((p).l.map enV) .ro, .sl ((p).un.reverse.map lsV) .ro, .sl ((p).re.reverse.map lsV) .ro]), (.ag [(.im (.bool (true))), .sl ((o).l.map enV) .ro, .sl ((o).un.reverse.map lsV) .ro, .sl ((o).re.reverse.map lsV) .ro])] (.tu [(.ag [(.im (.bool (true))), .sl ((p.chg (mgE p.l p.l o.l).1).l.map enV) .ro, .sl ((p.chg (mgE p.l p.l o.l).1).un.reverse.map lsV) .ro, .sl ((p.chg (mgE p.l p.l o.l).1).re.reverse.map lsV) .ro]), .sl ((mgE p.l p.l o.l).2.map enV) .ro, (.im (.int .i64 (0)))]) := by
  refine PC.enter 87 Tryz.func43 rfl (by decide) rfl rfl (s := [(0, (.ag [(.im (.bool (true))), .sl ((p).l.map enV) .ro, .sl ((p).un.reverse.map lsV) .ro, .sl ((p).re.reverse.map lsV) .ro])), (1, (.ag [(.im (.bool (true))), .sl ((o).l.map enV) .ro, .sl ((o).un.reverse.map lsV) .ro, .sl ((o).re.reverse.map lsV) .ro]))]) (by rfl) ?_
  refine wG Y43_Rm True.intro ?_
  refine AWp.loop ?_
  refine ALp.cutP 3 [(2, .pt 0 0), (3, .pt 1 0), (4, .pt 2 0), (7, .sl [] .nl), (8, .sl (p.l.map enV) .ro), (9, (.im (.int .i64 (0))))] [.box [(.im (.bool (true))), .sl ((p).l.map enV) .ro, .sl ((p).un.reverse.map lsV) .ro, .sl ((p).re.reverse.map lsV) .ro], .box [(.im (.bool (true))), .sl ((o).l.map enV) .ro, .sl ((o).un.reverse.map lsV) .ro, .sl ((o).re.reverse.map lsV) .ro], .box [(.im (.bool (false))), .sl [] .nl, .sl [] .nl, .sl [] .nl]] (And.intro enV_id (And.intro enL_id (And.intro byL_id (And.intro lsV_id (And.intro lsL_id @tyV_id))))) ?_
  refine ALp.ghost 7 [] .nl 46 4 ?_
  suffices H : ∀ x : Nat × List En × List En, MI p.l o.l x → ALp _ _ _ _ _ ⟨dn 87 [(2, .pt 0 0), (3, .pt 1 0), (4, .pt 2 0), (7, .sl ((x).2.2.map enV) (.own 3)), (8, .sl ((x).2.1.map enV) .ro), (9, (.im (.int .i64 ((((x).1 : Nat) : Int)))))], ofl [.box [(.im (.bool (true))), .sl ((p).l.map enV) .ro, .sl ((p).un.reverse.map lsV) .ro, .sl ((p).re.reverse.map lsV) .ro], .box [(.im (.bool (true))), .sl ((o).l.map enV) .ro, .sl ((o).un.reverse.map lsV) .ro, .sl ((o).re.reverse.map lsV) .ro], .box [(.im (.bool (false))), .sl [] .nl, .sl [] .nl, .sl [] .nl], .tip 46 4 (x).2.2.length]⟩ by
    exact H (0, p.l, []) ⟨Nat.zero_le _, h, hl, Nat.le_refl _, rfl⟩
  refine ALp.meas (α := Nat × List En × List En) (fun x => ⟨dn 87 [(2, .pt 0 0), (3, .pt 1 0), (4, .pt 2 0), (7, .sl ((x).2.2.map enV) (.own 3)), (8, .sl ((x).2.1.map enV) .ro), (9, (.im (.int .i64 ((((x).1 : Nat) : Int)))))], ofl [.box [(.im (.bool (true))), .sl ((p).l.map enV) .ro, .sl ((p).un.reverse.map lsV) .ro, .sl ((p).re.reverse.map lsV) .ro], .box [(.im (.bool (true))), .sl ((o).l.map enV) .ro, .sl ((o).un.reverse.map lsV) .ro, .sl ((o).re.reverse.map lsV) .ro], .box [(.im (.bool (false))), .sl [] .nl, .sl [] .nl, .sl [] .nl], .tip 46 4 (x).2.2.length]⟩) (MI p.l o.l) (fun x => o.l.length - x.1) ?_
  rintro ⟨m, nx, rj⟩ ⟨h1, h2, h3, h4, h5⟩ hnext
  dsimp only at h1 h2 h3 h4 h5
  by_cases hlt : m < o.l.length
  · have hlt' : (m : Int) < (o.l.length : Int) := by omega
    have hg := get_some hlt
    have hm1 := wrap_succ hlt (by omega)
    rw [drop_getE hg] at h5
    have hte := ht o.l[m] (List.getElem_mem hlt)
    generalize o.l[m] = e at hg h5 hte
    have q3 := c_findR p.l e (by omega)
    rw [fndR_eq h] at q3
    have q4 := c_accR nx e h2 (by omega) (by omega)
    have q5 := c_withR nx e h2 (by omega)
    have hA : rj.map enV ++ [enV e] = (rj ++ [e]).map enV := by rw [List.map_append]; rfl
    have hcap : (rj.length + 1) * 40 ≤ 140737488355328 := by omega
    have hln : rj.length + 1 = (rj ++ [e]).length := by simp
    rw [mgE_cons] at h5
    refine wdG Y43_Rm (And.intro hlt' (And.intro ENT hg)) ?_
    refine AR.callP q3 enV_eq (And.intro enV_id (And.intro enL_id (And.intro byL_id (And.intro lsV_id (And.intro lsL_id @tyV_id))))) ?_
    cases hh : hasE p.l e with
    | true =>
      obtain ⟨hp, hk⟩ := hasE_pos h hh
      rw [hh, if_pos rfl] at h5
      rw [if_pos rfl, Nat.zero_add]
      have hgp := get_some hp
      rw [keyE_iff] at hk
      rw [List.getElem?_eq_getElem hp] at h5
      generalize p.l[posE p.l e] = x at hgp h5 hk
      generalize posE p.l e = i at hgp
      have hz : ((i : Nat) : Int) ≥ 0 := by omega
      have he := bA_eq x.text e.text
      by_cases hq : x.text = e.text
      · have hxe : x = e := by
          obtain ⟨k, v, a, t⟩ := x
          obtain ⟨k', v', a', t'⟩ := e
          dsimp only at hk hq
          obtain ⟨rfl, rfl, rfl⟩ := hk
          subst hq; rfl
        rw [hxe, if_pos rfl] at h5
        rw [show (x.text == e.text) = true by simpa using hq] at he
        have hn := hnext (m + 1, nx, rj) (by simp; omega) ⟨by simp; omega, h2, h3, by simp; omega, h5⟩
        clear hnext h5
        refine goG Y43_Rm hz ?_
        refine wdG Y43_Rm (And.intro ENT (And.intro hz (And.intro hgp (And.intro hg (And.intro he hm1))))) ?_
        refine ALp.cutP 4 [(2, .pt 0 0), (3, .pt 1 0), (4, .pt 2 0), (7, .sl ((((m + 1, nx, rj) : Nat × List En × List En)).2.2.map enV) (.own 3)), (8, .sl ((((m + 1, nx, rj) : Nat × List En × List En)).2.1.map enV) .ro), (9, (.im (.int .i64 ((((((m + 1, nx, rj) : Nat × List En × List En)).1 : Nat) : Int)))))] [.box [(.im (.bool (true))), .sl ((p).l.map enV) .ro, .sl ((p).un.reverse.map lsV) .ro, .sl ((p).re.reverse.map lsV) .ro], .box [(.im (.bool (true))), .sl ((o).l.map enV) .ro, .sl ((o).un.reverse.map lsV) .ro, .sl ((o).re.reverse.map lsV) .ro], .box [(.im (.bool (false))), .sl [] .nl, .sl [] .nl, .sl [] .nl], .tip 46 4 (((m + 1, nx, rj) : Nat × List En × List En)).2.2.length] (And.intro enV_id (And.intro enL_id (And.intro byL_id (And.intro lsV_id (And.intro lsL_id @tyV_id))))) ?_
        exact hn
      · rw [if_neg (fun hc => hq (by rw [Option.some.inj hc]))] at h5
        rw [show (x.text == e.text) = false by simpa using hq] at he
        have hn := hnext (m + 1, nx, rj ++ [e]) (by simp; omega) ⟨by simp; omega, h2, h3, by simp; omega, mgE_rej h5⟩
        generalize rj ++ [e] = rj2 at hA hln hn
        clear hnext h5
        refine goG Y43_Rm hz ?_
        refine wdG Y43_Rm (And.intro ENT (And.intro hz (And.intro hgp (And.intro hg (And.intro he (And.intro hA (And.intro hcap (And.intro (@List.length_map.{0, 0}) (And.intro enL_all hm1))))))))) ?_
        rw [hln]
        refine ALp.cutP 4 [(2, .pt 0 0), (3, .pt 1 0), (4, .pt 2 0), (7, .sl ((((m + 1, nx, rj2) : Nat × List En × List En)).2.2.map enV) (.own 3)), (8, .sl ((((m + 1, nx, rj2) : Nat × List En × List En)).2.1.map enV) .ro), (9, (.im (.int .i64 ((((((m + 1, nx, rj2) : Nat × List En × List En)).1 : Nat) : Int)))))] [.box [(.im (.bool (true))), .sl ((p).l.map enV) .ro, .sl ((p).un.reverse.map lsV) .ro, .sl ((p).re.reverse.map lsV) .ro], .box [(.im (.bool (true))), .sl ((o).l.map enV) .ro, .sl ((o).un.reverse.map lsV) .ro, .sl ((o).re.reverse.map lsV) .ro], .box [(.im (.bool (false))), .sl [] .nl, .sl [] .nl, .sl [] .nl], .tip 46 4 (((m + 1, nx, rj2) : Nat × List En × List En)).2.2.length] (And.intro enV_id (And.intro enL_id (And.intro byL_id (And.intro lsV_id (And.intro lsL_id @tyV_id))))) ?_
        exact hn
    | false =>
      rw [hh, if_neg (by decide)] at h5
      rw [if_neg (by decide)]
      refine goG Y43_Rm True.intro ?_
      refine wdG Y43_Rm (And.intro ENT hg) ?_
      refine AR.callP q4 enV_eq (And.intro enV_id (And.intro enL_id (And.intro byL_id (And.intro lsV_id (And.intro lsL_id @tyV_id))))) ?_
      by_cases hE : eErr nx e = 0
      · rw [hE, if_pos rfl] at h5
        rw [hE]
        have hn := hnext (m + 1, eWith nx e, rj) (by simp; omega) ⟨by simp; omega, asc_eWith h2 e, len_eWith h3 hE, by simp; omega, h5⟩
        clear hnext h5
        generalize eWith nx e = w at q5 hn
        refine goG Y43_Rm True.intro ?_
        refine wdG Y43_Rm (And.intro ENT hg) ?_
        refine AR.callP q5 enV_eq (And.intro enV_id (And.intro enL_id (And.intro byL_id (And.intro lsV_id (And.intro lsL_id @tyV_id))))) ?_
        refine goG Y43_Rm True.intro ?_
        refine wG Y43_Rm hm1 ?_
        refine ALp.cutP 4 [(2, .pt 0 0), (3, .pt 1 0), (4, .pt 2 0), (7, .sl ((((m + 1, w, rj) : Nat × List En × List En)).2.2.map enV) (.own 3)), (8, .sl ((((m + 1, w, rj) : Nat × List En × List En)).2.1.map enV) .ro), (9, (.im (.int .i64 ((((((m + 1, w, rj) : Nat × List En × List En)).1 : Nat) : Int)))))] [.box [(.im (.bool (true))), .sl ((p).l.map enV) .ro, .sl ((p).un.reverse.map lsV) .ro, .sl ((p).re.reverse.map lsV) .ro], .box [(.im (.bool (true))), .sl ((o).l.map enV) .ro, .sl ((o).un.reverse.map lsV) .ro, .sl ((o).re.reverse.map lsV) .ro], .box [(.im (.bool (false))), .sl [] .nl, .sl [] .nl, .sl [] .nl], .tip 46 4 (((m + 1, w, rj) : Nat × List En × List En)).2.2.length] (And.intro enV_id (And.intro enL_id (And.intro byL_id (And.intro lsV_id (And.intro lsL_id @tyV_id))))) ?_
        exact hn
      · rw [if_neg hE] at h5
        have hn := hnext (m + 1, nx, rj ++ [e]) (by simp; omega) ⟨by simp; omega, h2, h3, by simp; omega, mgE_rej h5⟩
        generalize rj ++ [e] = rj2 at hA hln hn
        generalize eErr nx e = ee at hE
        clear hnext h5
        refine goG Y43_Rm hE ?_
        refine wdG Y43_Rm (And.intro hE (And.intro ENT (And.intro hg (And.intro hA (And.intro hcap (And.intro (@List.length_map.{0, 0}) (And.intro enL_all hm1))))))) ?_
        rw [hln]
        refine ALp.cutP 4 [(2, .pt 0 0), (3, .pt 1 0), (4, .pt 2 0), (7, .sl ((((m + 1, nx, rj2) : Nat × List En × List En)).2.2.map enV) (.own 3)), (8, .sl ((((m + 1, nx, rj2) : Nat × List En × List En)).2.1.map enV) .ro), (9, (.im (.int .i64 ((((((m + 1, nx, rj2) : Nat × List En × List En)).1 : Nat) : Int)))))] [.box [(.im (.bool (true))), .sl ((p).l.map enV) .ro, .sl ((p).un.reverse.map lsV) .ro, .sl ((p).re.reverse.map lsV) .ro], .box [(.im (.bool (true))), .sl ((o).l.map enV) .ro, .sl ((o).un.reverse.map lsV) .ro, .sl ((o).re.reverse.map lsV) .ro], .box [(.im (.bool (false))), .sl [] .nl, .sl [] .nl, .sl [] .nl], .tip 46 4 (((m + 1, nx, rj2) : Nat × List En × List En)).2.2.length] (And.intro enV_id (And.intro enL_id (And.intro byL_id (And.intro lsV_id (And.intro lsL_id @tyV_id))))) ?_
        exact hn
  · obtain rfl : m = o.l.length := by omega
    have hlt' : ¬ (o.l.length : Int) < (o.l.length : Int) := by omega
    rw [List.drop_length] at h5
    have h5 : mgE p.l p.l o.l = (nx, rj) := by rw [h5]; simp [mgE]
    rw [h5]
    dsimp only
    clear hnext hlt h5
    have q5 := c_changedR p nx hu
    generalize p.chg nx = p2 at q5 ⊢
    refine wG Y43_Rm (And.intro hlt' @List.length_map.{0, 0}) ?_
    refine AR.callP q5 True.intro (And.intro enV_id (And.intro enL_id (And.intro byL_id (And.intro lsV_id (And.intro lsL_id @tyV_id))))) ?_
    refine goG Y43_Rm True.intro ?_
    refine wG Y43_Rm True.intro ?_
    refine Fin.gen0 (rs := [.cell 4 31, .tmp 5, .tmp 6]) rfl (by first | exact .inl rfl | exact .inr rfl) (finG Y43_Rm) ?_
    skip
    all_goals exact wkG (And.intro enV_id (And.intro enL_id (And.intro byL_id (And.intro lsV_id (And.intro lsL_id @tyV_id)))))
end Go.Proofs.YtianekkfehoedaaGreatDoor
