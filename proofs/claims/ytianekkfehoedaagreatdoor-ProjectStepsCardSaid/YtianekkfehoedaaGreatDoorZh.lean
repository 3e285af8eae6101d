/- Walks: Merge. -/
import Derived.Test.YtianekkfehoedaaGreatDoorHv
import Derived.Test.YtianekkfehoedaaGreatDoorZc
import Derived.Test.YtianekkfehoedaaGreatDoorZg
import Derived.Test.YtianekkfehoedaaGreatDoorKA
namespace Go.Proofs.YtianekkfehoedaaGreatDoor
set_option linter.unusedSimpArgs false
set_option linter.unusedVariables false
set_option linter.unnecessarySimpa false
open Go.RowKit
theorem Y42_Zh : type_of% (And.intro @F_ag_28 (And.intro @F_ag_46 (And.intro @F_al_46 (And.intro @F_by_46 (And.intro @F_el_28 (And.intro @F_eq_46 (And.intro @F_fl_64_1 (And.intro @F_sz_28 (@F_sz_46))))))))) := And.intro @F_ag_28 (And.intro @F_ag_46 (And.intro @F_al_46 (And.intro @F_by_46 (And.intro @F_el_28 (And.intro @F_eq_46 (And.intro @F_fl_64_1 (And.intro @F_sz_28 (@F_sz_46))))))))
theorem I1_Zh : type_of% (And.intro enV_id (And.intro enL_id (And.intro byL_id (And.intro lsV_id (And.intro lsL_id (And.intro (@tyV_id) flE_id)))))) := (And.intro enV_id (And.intro enL_id (And.intro byL_id (And.intro lsV_id (And.intro lsL_id (And.intro (@tyV_id) flE_id))))))
theorem N1_Zh : type_of% (And.intro enV_ren (And.intro enL_ren (And.intro byL_ren (And.intro lsV_ren (And.intro lsL_ren flE_ren))))) := (And.intro enV_ren (And.intro enL_ren (And.intro byL_ren (And.intro lsV_ren (And.intro lsL_ren flE_ren)))))
theorem drop_getE {l : List En} {m : Nat} {x : En} (h : l[m]? = some x) : l.drop m = x :: l.drop (m + 1) := by
  obtain ⟨hm, rfl⟩ := List.getElem?_eq_some_iff.1 h
  exact List.drop_eq_getElem_cons hm
theorem mgE_cons (L next : List En) (e : En) (O : List En) : mgE L next (e :: O) = if hasE L e = true then (if L[posE L e]? = some e then mgE L next O else ((mgE L next O).1, e :: (mgE L next O).2)) else if eErr next e = 0 then mgE L (eWith next e) O else ((mgE L next O).1, e :: (mgE L next O).2) := rfl
theorem mgE_rej {L next rej : List En} {e : En} {O : List En} {r : List En × List En} (h : r = ((mgE L next O).1, rej ++ e :: (mgE L next O).2)) : r = ((mgE L next O).1, (rej ++ [e]) ++ (mgE L next O).2) := by
  rw [h]; simp
theorem c_MergeA (L O : List En) (un re un2 re2 : List (List En)) (h : AscE L) (hl : L.length ≤ 1024) (ho : O.length ≤ 1024) (ht : ∀ e ∈ O, e.text.length ≤ 65535) (hu : un.length ≤ 4194304) : DC Tryz.prog 42 [.pt 0 0, .pt 3 0] [.box [(.im (.bool (true))), .sl (L.map enV) .ro, .sl (un.map lsV) (.own 1), .sl (re.map lsV) (.own 2)], .tip 28 1 un.length, .tip 28 1 re.length, .box [(.im (.bool (true))), .sl (O.map enV) .ro, .sl (un2.map lsV) .ro, .sl (re2.map lsV) .ro]] (.tu [.sl ((mgE L L O).2.map enV) .ro, (.im (.int .i64 (0)))]) [.box [(.im (.bool (true))), .sl (((mgE L L O).1).map enV) .ro, .sl ((clipE (un ++ [L])).map lsV) .full, .sl [] .nl], .tip 28 1 (un.length + 1), .tip 28 1 re.length, .box [(.im (.bool (true))), .sl (O.map enV) .ro, .sl (un2.map lsV) .ro, .sl (re2.map lsV) .ro]] := by
  have q1 := c_usable true L un re
  have q2 := c_usableR true O un2 re2
  refine DC.enter 76 Tryz.func42 rfl (by decide) rfl rfl (s := [(0, .pt 0 0), (1, .pt 3 0)]) (by rfl) ?_
  refine wG Y42_Zh True.intro ?_
  refine AR.callQP [0, 1, 2] q1 True.intro I1_Zh N1_Zh ?_
  refine goG Y42_Zh True.intro ?_
  refine AR.callQP [3] q2 True.intro I1_Zh N1_Zh ?_
  refine goG Y42_Zh @List.length_map.{0, 0} ?_
  refine wG Y42_Zh @List.length_map.{0, 0} ?_
  refine AWp.loop ?_
  refine ALp.cutP 4 [(0, .pt 0 0), (1, .pt 3 0), (6, .sl (L.map enV) .ro), (7, .sl [] .nl), (29, .sl (O.map enV) .ro), (30, (.im (.int .i64 (O.length)))), (31, (.im (.int .i64 (0))))] [.box [(.im (.bool (true))), .sl (L.map enV) .ro, .sl (un.map lsV) (.own 1), .sl (re.map lsV) (.own 2)], .tip 28 1 un.length, .tip 28 1 re.length, .box [(.im (.bool (true))), .sl (O.map enV) .ro, .sl (un2.map lsV) .ro, .sl (re2.map lsV) .ro]] I1_Zh ?_
  refine ALp.ghost 7 [] .nl 46 4 ?_
  suffices H : ∀ x : Nat × List En × List En, x.1 ≤ O.length ∧ AscE x.2.1 ∧ x.2.1.length ≤ 1024 ∧ x.2.2.length ≤ x.1 ∧ mgE L L O = ((mgE L x.2.1 (O.drop x.1)).1, x.2.2 ++ (mgE L x.2.1 (O.drop x.1)).2) → ALp _ _ _ _ _ ⟨dn 76 [(0, .pt 0 0), (1, .pt 3 0), (6, .sl ((x).2.1.map enV) .ro), (7, .sl ((x).2.2.map enV) (.own 4)), (29, .sl (O.map enV) .ro), (30, (.im (.int .i64 (O.length)))), (31, (.im (.int .i64 ((((x).1 : Nat) : Int)))))], ofl [.box [(.im (.bool (true))), .sl (L.map enV) .ro, .sl (un.map lsV) (.own 1), .sl (re.map lsV) (.own 2)], .tip 28 1 un.length, .tip 28 1 re.length, .box [(.im (.bool (true))), .sl (O.map enV) .ro, .sl (un2.map lsV) .ro, .sl (re2.map lsV) .ro], .tip 46 4 (x).2.2.length]⟩ by
    exact H (0, L, []) ⟨Nat.zero_le _, h, hl, Nat.le_refl _, rfl⟩
  refine ALp.meas (α := Nat × List En × List En) (fun x => ⟨dn 76 [(0, .pt 0 0), (1, .pt 3 0), (6, .sl ((x).2.1.map enV) .ro), (7, .sl ((x).2.2.map enV) (.own 4)), (29, .sl (O.map enV) .ro), (30, (.im (.int .i64 (O.length)))), (31, (.im (.int .i64 ((((x).1 : Nat) : Int)))))], ofl [.box [(.im (.bool (true))), .sl (L.map enV) .ro, .sl (un.map lsV) (.own 1), .sl (re.map lsV) (.own 2)], .tip 28 1 un.length, .tip 28 1 re.length, .box [(.im (.bool (true))), .sl (O.map enV) .ro, .sl (un2.map lsV) .ro, .sl (re2.map lsV) .ro], .tip 46 4 (x).2.2.length]⟩) (fun x => x.1 ≤ O.length ∧ AscE x.2.1 ∧ x.2.1.length ≤ 1024 ∧ x.2.2.length ≤ x.1 ∧ mgE L L O = ((mgE L x.2.1 (O.drop x.1)).1, x.2.2 ++ (mgE L x.2.1 (O.drop x.1)).2)) (fun x => O.length - x.1) ?_
  rintro ⟨m, nx, rj⟩ ⟨h1, h2, h3, h4, h5⟩ hnext
  simp only at h1 h2 h3 h4 h5
  by_cases hlt : m < O.length
  · have hlt' : (m : Int) < (O.length : Int) := by omega
    have hg := get_some hlt
    have hm1 := wrap_succ hlt (by omega)
    rw [drop_getE hg] at h5
    have hte := ht O[m] (List.getElem_mem hlt)
    generalize O[m] = e at hg h5 hte
    have q3 := c_search L e h (by omega)
    have q4 := c_with nx e h2 h3 (by omega)
    have hA : rj.map enV ++ [enV e] = (rj ++ [e]).map enV := by rw [List.map_append]; rfl
    rw [enV_eq] at hA
    have hcap : (rj.length + 1) * 40 ≤ 140737488355328 := by omega
    have hln : rj.length + 1 = (rj ++ [e]).length := by simp
    rw [mgE_cons] at h5
    refine wdG Y42_Zh (And.intro hlt' (And.intro ENT hg)) ?_
    refine AR.callP q3 enV_eq I1_Zh ?_
    cases hh : hasE L e with
    | true =>
      obtain ⟨hp, hk⟩ := hasE_pos h hh
      rw [hh, if_pos rfl] at h5
      have hgp := get_some hp
      rw [keyE_iff] at hk
      rw [List.getElem?_eq_getElem hp] at h5
      generalize L[posE L e] = x at hgp h5 hk
      generalize posE L e = p at hgp
      obtain ⟨k, v, a, t⟩ := x
      obtain ⟨k', v', a', t'⟩ := e
      simp only at hk
      obtain ⟨rfl, rfl, rfl⟩ := hk
      have he := bA_eq t t'
      by_cases hq : t = t'
      · subst hq
        rw [if_pos rfl] at h5
        have hn := hnext (m + 1, nx, rj) (by simp; omega) ⟨by simp; omega, h2, h3, by simp; omega, h5⟩
        clear hnext h5
        refine goG Y42_Zh True.intro ?_
        refine wdG Y42_Zh (And.intro ENT (And.intro enV_eq (And.intro hgp (And.intro (@Bool.not_true) hm1)))) ?_
        refine ALp.cutP 5 [(0, .pt 0 0), (1, .pt 3 0), (6, .sl ((((m + 1, nx, rj) : Nat × List En × List En)).2.1.map enV) .ro), (7, .sl ((((m + 1, nx, rj) : Nat × List En × List En)).2.2.map enV) (.own 4)), (29, .sl (O.map enV) .ro), (30, (.im (.int .i64 (O.length)))), (31, (.im (.int .i64 ((((((m + 1, nx, rj) : Nat × List En × List En)).1 : Nat) : Int)))))] [.box [(.im (.bool (true))), .sl (L.map enV) .ro, .sl (un.map lsV) (.own 1), .sl (re.map lsV) (.own 2)], .tip 28 1 un.length, .tip 28 1 re.length, .box [(.im (.bool (true))), .sl (O.map enV) .ro, .sl (un2.map lsV) .ro, .sl (re2.map lsV) .ro], .tip 46 4 (((m + 1, nx, rj) : Nat × List En × List En)).2.2.length] I1_Zh ?_
        exact hn
      · rw [if_neg (by simpa using hq)] at h5
        have hq' : (t == t') = false := by simpa using hq
        rw [hq'] at he
        have hn := hnext (m + 1, nx, rj ++ [⟨k, v, a, t'⟩]) (by simp; omega) ⟨by simp; omega, h2, h3, by simp; omega, mgE_rej h5⟩
        generalize rj ++ [(⟨k, v, a, t'⟩ : En)] = rj2 at hA hln hn
        clear hnext h5
        refine goG Y42_Zh True.intro ?_
        refine wdG Y42_Zh (And.intro ENT (And.intro enV_eq (And.intro hgp (And.intro he (And.intro hA (And.intro hcap (And.intro (@List.length_map.{0, 0}) (And.intro enL_all hm1)))))))) ?_
        rw [hln]
        refine ALp.cutP 5 [(0, .pt 0 0), (1, .pt 3 0), (6, .sl ((((m + 1, nx, rj2) : Nat × List En × List En)).2.1.map enV) .ro), (7, .sl ((((m + 1, nx, rj2) : Nat × List En × List En)).2.2.map enV) (.own 4)), (29, .sl (O.map enV) .ro), (30, (.im (.int .i64 (O.length)))), (31, (.im (.int .i64 ((((((m + 1, nx, rj2) : Nat × List En × List En)).1 : Nat) : Int)))))] [.box [(.im (.bool (true))), .sl (L.map enV) .ro, .sl (un.map lsV) (.own 1), .sl (re.map lsV) (.own 2)], .tip 28 1 un.length, .tip 28 1 re.length, .box [(.im (.bool (true))), .sl (O.map enV) .ro, .sl (un2.map lsV) .ro, .sl (re2.map lsV) .ro], .tip 46 4 (((m + 1, nx, rj2) : Nat × List En × List En)).2.2.length] I1_Zh ?_
        exact hn
    | false =>
      rw [hh, if_neg (by decide)] at h5
      refine goG Y42_Zh True.intro ?_
      refine wdG Y42_Zh True.intro ?_
      refine AR.callP q4 enV_eq I1_Zh ?_
      by_cases hE : eErr nx e = 0
      · rw [hE, if_pos rfl] at h5
        rw [hE, if_pos rfl]
        have hn := hnext (m + 1, eWith nx e, rj) (by simp; omega) ⟨by simp; omega, asc_eWith h2 e, len_eWith h3 hE, by simp; omega, h5⟩
        clear hnext h5
        refine goG Y42_Zh True.intro ?_
        refine wG Y42_Zh hm1 ?_
        refine ALp.cutP 5 [(0, .pt 0 0), (1, .pt 3 0), (6, .sl ((((m + 1, eWith nx e, rj) : Nat × List En × List En)).2.1.map enV) .ro), (7, .sl ((((m + 1, eWith nx e, rj) : Nat × List En × List En)).2.2.map enV) (.own 4)), (29, .sl (O.map enV) .ro), (30, (.im (.int .i64 (O.length)))), (31, (.im (.int .i64 ((((((m + 1, eWith nx e, rj) : Nat × List En × List En)).1 : Nat) : Int)))))] [.box [(.im (.bool (true))), .sl (L.map enV) .ro, .sl (un.map lsV) (.own 1), .sl (re.map lsV) (.own 2)], .tip 28 1 un.length, .tip 28 1 re.length, .box [(.im (.bool (true))), .sl (O.map enV) .ro, .sl (un2.map lsV) .ro, .sl (re2.map lsV) .ro], .tip 46 4 (((m + 1, eWith nx e, rj) : Nat × List En × List En)).2.2.length] I1_Zh ?_
        exact hn
      · rw [if_neg hE] at h5
        rw [if_neg hE]
        have hn := hnext (m + 1, nx, rj ++ [e]) (by simp; omega) ⟨by simp; omega, h2, h3, by simp; omega, mgE_rej h5⟩
        generalize rj ++ [e] = rj2 at hA hln hn
        generalize eErr nx e = ee at hE
        clear hnext h5
        refine goG Y42_Zh hE ?_
        refine wG Y42_Zh (And.intro hE (And.intro hA (And.intro hcap (And.intro (@List.length_map.{0, 0}) (And.intro enL_all hm1))))) ?_
        rw [hln]
        refine ALp.cutP 5 [(0, .pt 0 0), (1, .pt 3 0), (6, .sl ((((m + 1, nx, rj2) : Nat × List En × List En)).2.1.map enV) .ro), (7, .sl ((((m + 1, nx, rj2) : Nat × List En × List En)).2.2.map enV) (.own 4)), (29, .sl (O.map enV) .ro), (30, (.im (.int .i64 (O.length)))), (31, (.im (.int .i64 ((((((m + 1, nx, rj2) : Nat × List En × List En)).1 : Nat) : Int)))))] [.box [(.im (.bool (true))), .sl (L.map enV) .ro, .sl (un.map lsV) (.own 1), .sl (re.map lsV) (.own 2)], .tip 28 1 un.length, .tip 28 1 re.length, .box [(.im (.bool (true))), .sl (O.map enV) .ro, .sl (un2.map lsV) .ro, .sl (re2.map lsV) .ro], .tip 46 4 (((m + 1, nx, rj2) : Nat × List En × List En)).2.2.length] I1_Zh ?_
        exact hn
  · obtain rfl : m = O.length := by omega
    have hlt' : ¬ (O.length : Int) < (O.length : Int) := by omega
    rw [List.drop_length] at h5
    have h5 : mgE L L O = (nx, rj) := by rw [h5]; simp [mgE]
    rw [h5]
    clear hnext hlt h5
    have q5 := c_change nx L un re hu
    refine wG Y42_Zh hlt' ?_
    refine AR.callSP [0, 1, 2] q5 True.intro I1_Zh N1_Zh ?_
    refine goG Y42_Zh True.intro ?_
    refine wG Y42_Zh True.intro ?_
    refine Fin.gen (rs := [.tmp 4, .tmp 5]) rfl (by first | exact .inl rfl | exact .inr rfl) (finG Y42_Zh) ?_ rfl (idG I1_Zh)
    skip
    all_goals exact wkG I1_Zh
end Go.Proofs.YtianekkfehoedaaGreatDoor
