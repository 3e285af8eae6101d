/- Walks: the text of a type is read. -/
import Derived.Test.YtianekkfehoedaaGreatDoorHv
import Derived.Test.YtianekkfehoedaaGreatDoorYe
import Derived.Test.YtianekkfehoedaaGreatDoorKA
namespace Go.Proofs.YtianekkfehoedaaGreatDoor
set_option linter.unusedSimpArgs false
set_option linter.unusedVariables false
set_option linter.unnecessarySimpa false
open Go.RowKit
/-- What is asked of the number of steps. -/
def Fuel (m : Nat) (l : Bs) (b : Bool) : Prop := 1 ≤ m ∧ (b = false → l.length + 2 ≤ m)
/-- The contract of read, at m steps. -/
def ReadC (m : Nat) : Prop := ∀ (l : Bs) (b : Bool), l.length ≤ 65536 → Fuel m l b → DC Tryz.prog 72 [.pt 0 0] [.box [.im (.string (bA l)), (.im (.bool (b)))]] (tyV ((rdn m).1 l b).1) [.box [.im (.string (bA ((rdn m).1 l b).2.1)), (.im (.bool (((rdn m).1 l b).2.2)))]]
theorem Y81_Yg : type_of% (And.intro @F_ag_4 (And.intro @F_al_132 (And.intro @F_by_132 (And.intro @F_el_98 (And.intro @F_fl_110_1 (And.intro @F_st_132 (And.intro @F_sz_132 (@F_sz_4)))))))) := And.intro @F_ag_4 (And.intro @F_al_132 (And.intro @F_by_132 (And.intro @F_el_98 (And.intro @F_fl_110_1 (And.intro @F_st_132 (And.intro @F_sz_132 (@F_sz_4)))))))
set_option maxHeartbeats 4000000 in
theorem c_fields (f : Nat) (hf : f ≤ 70000) (hR : ∀ m, m < f → ReadC m) (l0 : Bs) (hl : l0.length ≤ 65536) (hfu : l0.length + 2 ≤ f) : DC Tryz.prog 81 [.pt 0 0] [.box [.im (.string (bA l0)), (.im (.bool (false)))]]
    (.sl ((if [125].isPrefixOf l0 then ([], l0.drop 1, false) else (rdn f).2 [] l0 false).1.map fdV) .ro) [.box [.im (.string (bA (if [125].isPrefixOf l0 then ([], l0.drop 1, false) else (rdn f).2 [] l0 false).2.1)), (.im (.bool ((if [125].isPrefixOf l0 then ([], l0.drop 1, false) else (rdn f).2 [] l0 false).2.2)))]] := by
  have ha := c_accept ⟨#[125]⟩ [125] l0 false rfl
  refine DC.enter 29 Tryz.func81 rfl (by decide) rfl rfl (s := [(0, .pt 0 0)]) (by rfl) ?_
  cases hp : [125].isPrefixOf l0 with
  | true =>
    rw [hp] at ha
    rw [if_pos rfl]
    have e : accP [125] l0 = l0.drop 1 := by unfold accP; rw [if_pos hp]; rfl
    rw [e] at ha
    refine wG Y81_Yg True.intro ?_
    refine AR.callSP [0] ha True.intro (And.intro (@tyV_id) (And.intro (@fdV_id) (And.intro (@tyL_id) (And.intro (@fdL_id) byV_id)))) (And.intro (@fdL_ren) (And.intro (@tyL_ren) (And.intro (@fdV_ren) (And.intro (@tyV_ren) (And.intro byV_ren nb_ren))))) ?_
    refine goG Y81_Yg True.intro ?_
    refine wG Y81_Yg True.intro ?_
    refine Fin.gen (rs := [.tmp 2]) rfl (by first | exact .inl rfl | exact .inr rfl) (finG Y81_Yg) ?_ rfl (idG (And.intro (@tyV_id) (And.intro (@fdV_id) (And.intro (@tyL_id) (And.intro (@fdL_id) byV_id)))))
    all_goals exact wkG (And.intro (@tyV_id) (And.intro (@fdV_id) (And.intro (@tyL_id) (And.intro (@fdL_id) byV_id))))
  | false =>
    rw [hp] at ha
    rw [if_neg (by decide)]
    have e : accP [125] l0 = l0 := by unfold accP; rw [hp]; rfl
    rw [e] at ha
    refine wG Y81_Yg True.intro ?_
    refine AR.callSP [0] ha True.intro (And.intro (@tyV_id) (And.intro (@fdV_id) (And.intro (@tyL_id) (And.intro (@fdL_id) byV_id)))) (And.intro (@fdL_ren) (And.intro (@tyL_ren) (And.intro (@fdV_ren) (And.intro (@tyV_ren) (And.intro byV_ren nb_ren))))) ?_
    refine goG Y81_Yg True.intro ?_
    refine wG Y81_Yg True.intro ?_
    refine AWp.loop ?_
    refine ALp.ghost 3 [] .nl 132 6 ?_
    obtain ⟨res, hres⟩ : ∃ res, res = (rdn f).2 [] l0 false := ⟨_, rfl⟩
    rw [← hres]
    refine ALp.cutP 2 [(0, .pt 0 0), (3, .sl (([] : List Ty).map fdV) (.own 1))] [.box [.im (.string (bA l0)), (.im (.bool (false)))], .tip 132 6 ([] : List Ty).length] (And.intro (@tyV_id) (And.intro (@fdV_id) (And.intro (@tyL_id) (And.intro (@fdL_id) byV_id)))) ?_
    refine ALp.meas (α := Nat × List Ty × Bs × Bool) (fun p => ⟨dn 29 [(0, .pt 0 0), (3, .sl (p.2.1.map fdV) (.own 1))], ofl [.box [.im (.string (bA p.2.2.1)), (.im (.bool (p.2.2.2)))], .tip 132 6 p.2.1.length]⟩)
      (fun p => p.1 ≤ f ∧ Fuel p.1 p.2.2.1 p.2.2.2 ∧ p.2.2.1.length ≤ 65536 ∧ p.2.1.length + p.1 ≤ f ∧ (rdn p.1).2 p.2.1 p.2.2.1 p.2.2.2 = res) (fun p => p.1) ?_ (f, [], l0, false) ⟨Nat.le_refl _, ⟨by omega, fun _ => hfu⟩, hl, by simp, hres.symm⟩
    rintro ⟨m, out, l, b⟩ ⟨hm, hF, hll, hol, hI⟩ hnext
    simp only at hm hF hll hol hI hnext
    show AWpK _ _ _ _ _ ⟨dn 29 [(0, .pt 0 0), (3, .sl (out.map fdV) (.own 1))], ofl [.box [.im (.string (bA l)), (.im (.bool (b)))], .tip 132 6 out.length]⟩
    obtain ⟨m, rfl⟩ : ∃ k, m = k + 1 := ⟨m - 1, by have := hF.1; omega⟩
    have hI : flS (rdn m).1 (rdn m).2 out l b = res := hI
    unfold flS at hI
    cases b with
    | true =>
      rw [if_pos rfl] at hI
      rw [← hI]
      refine wG Y81_Yg True.intro ?_
      refine Fin.gen (rs := [.tmp 2]) rfl (by first | exact .inl rfl | exact .inr rfl) (finG Y81_Yg) ?_ rfl (idG (And.intro (@tyV_id) (And.intro (@fdV_id) (And.intro (@tyL_id) (And.intro (@fdL_id) byV_id)))))
      all_goals exact wkG (And.intro (@tyV_id) (And.intro (@fdV_id) (And.intro (@tyL_id) (And.intro (@fdL_id) byV_id))))
    | false =>
      have hfu2 : l.length + 2 ≤ m + 1 := hF.2 rfl
      rw [if_neg (by decide)] at hI
      simp only at hI
      have h1 := c_number l false hll
      obtain ⟨n1, n2, n3, n4⟩ := numP_len l false
      generalize hnn : numP l false = n at h1 n1 n2 n3 n4 hI
      obtain ⟨nv, ln, bn⟩ := n
      simp only at h1 n1 n2 n3 n4 hI
      have h2 := c_need ⟨#[58, 32]⟩ [58, 32] ln bn rfl
      obtain ⟨q1, q2⟩ := needP_len [58, 32] ln bn
      generalize hqq : needP [58, 32] ln bn = q at h2 q1 q2 hI
      obtain ⟨lq, bq⟩ := q
      simp only at h2 q1 q2 hI
      have h3 := hR m (by omega) lq bq (by omega) ⟨by omega, fun hb => by have := n2 (q2 hb); omega⟩
      obtain ⟨r1, r2, r3⟩ := (rdn_len m (by omega)).1 lq bq
      generalize hrr : (rdn m).1 lq bq = r at h3 r1 r2 r3 hI
      obtain ⟨tr, lr, br⟩ := r
      simp only at h3 r1 r2 r3 hI
      have h4 := c_accept ⟨#[125]⟩ [125] lr br rfl
      obtain ⟨B, hB⟩ : ∃ B, B = out ++ [tr.at_ nv] := ⟨_, rfl⟩
      have hAs : out.map fdV ++ [V.ag [.im (.int .i64 nv), .im (.int .i64 tr.kind), .im (.int .i64 tr.size), .im (.int .i64 tr.count), .sl (tr.elem.map tyV) .ro, .sl (tr.fields.map fdV) .ro]] = B.map fdV := by rw [hB, List.map_append, List.map_singleton, fdV_eq]; rfl
      have hAl : out.length + 1 = B.length := by rw [hB]; simp
      have hbl : B.length * 80 ≤ 140737488355328 := by omega
      rw [← hB] at hI
      refine wG Y81_Yg True.intro ?_
      refine AR.callSP [0] h1 True.intro (And.intro (@tyV_id) (And.intro (@fdV_id) (And.intro (@tyL_id) (And.intro (@fdL_id) byV_id)))) (And.intro (@fdL_ren) (And.intro (@tyL_ren) (And.intro (@fdV_ren) (And.intro (@tyV_ren) (And.intro byV_ren nb_ren))))) ?_
      refine goG Y81_Yg True.intro ?_
      refine wG Y81_Yg True.intro ?_
      refine AR.callSP [0] h2 True.intro (And.intro (@tyV_id) (And.intro (@fdV_id) (And.intro (@tyL_id) (And.intro (@fdL_id) byV_id)))) (And.intro (@fdL_ren) (And.intro (@tyL_ren) (And.intro (@fdV_ren) (And.intro (@tyV_ren) (And.intro byV_ren nb_ren))))) ?_
      refine goG Y81_Yg True.intro ?_
      refine wG Y81_Yg True.intro ?_
      refine AR.callSP [0] h3 True.intro (And.intro (@tyV_id) (And.intro (@fdV_id) (And.intro (@tyL_id) (And.intro (@fdL_id) byV_id)))) (And.intro (@fdL_ren) (And.intro (@tyL_ren) (And.intro (@fdV_ren) (And.intro (@tyV_ren) (And.intro byV_ren nb_ren))))) ?_
      refine goG Y81_Yg (And.intro (@tyV_firm) (And.intro (@fdV_firm) (And.intro (@tyV_strip) (And.intro (@fdV_strip) (And.intro (@tyV_live) (And.intro (@tyV_size) (And.intro (@tyV_isAg) (And.intro (@tyV_cells) (And.intro (@fdV_live) (And.intro (@fdV_size) (And.intro (@fdV_isAg) (And.intro (@fdV_cells) (And.intro (@List.getElem?_map.{0, 0}) (And.intro (@Int.natCast_nonneg) (And.intro hAs (And.intro hAl (And.intro hbl (And.intro allZ_fd @List.length_map.{0, 0})))))))))))))))))) ?_
      cases hp2 : [125].isPrefixOf lr with
      | true =>
        rw [hp2] at h4
        rw [if_pos hp2] at hI
        have e : accP [125] lr = lr.drop 1 := by unfold accP; rw [if_pos hp2]; rfl
        rw [e] at h4
        rw [← hI]
        refine wG Y81_Yg True.intro ?_
        refine AR.callSP [0] h4 True.intro (And.intro (@tyV_id) (And.intro (@fdV_id) (And.intro (@tyL_id) (And.intro (@fdL_id) byV_id)))) (And.intro (@fdL_ren) (And.intro (@tyL_ren) (And.intro (@fdV_ren) (And.intro (@tyV_ren) (And.intro byV_ren nb_ren))))) ?_
        refine goG Y81_Yg True.intro ?_
        refine wG Y81_Yg True.intro ?_
        refine Fin.gen (rs := [.tmp 2]) rfl (by first | exact .inl rfl | exact .inr rfl) (finG Y81_Yg) ?_ rfl (idG (And.intro (@tyV_id) (And.intro (@fdV_id) (And.intro (@tyL_id) (And.intro (@fdL_id) byV_id)))))
        all_goals exact wkG (And.intro (@tyV_id) (And.intro (@fdV_id) (And.intro (@tyL_id) (And.intro (@fdL_id) byV_id))))
      | false =>
        rw [hp2] at h4
        rw [if_neg (by rw [hp2]; decide)] at hI
        have e : accP [125] lr = lr := by unfold accP; rw [hp2]; rfl
        rw [e] at h4
        have h5 := c_need ⟨#[44, 32]⟩ [44, 32] lr br rfl
        obtain ⟨s1, s2⟩ := needP_len [44, 32] lr br
        generalize hss : needP [44, 32] lr br = s at h5 s1 s2 hI
        obtain ⟨ls, bs⟩ := s
        simp only at h5 s1 s2 hI
        have hn := hnext (m, B, ls, bs) (by simp only; omega) ⟨by simp only; omega, ⟨by simp only; omega, fun hb => by
          simp only at hb ⊢
          have h6 := n2 (q2 (r2 (s2 hb)))
          omega⟩, by simp only; omega, by simp only; omega, hI⟩
        clear hnext
        refine wG Y81_Yg True.intro ?_
        refine AR.callSP [0] h4 True.intro (And.intro (@tyV_id) (And.intro (@fdV_id) (And.intro (@tyL_id) (And.intro (@fdL_id) byV_id)))) (And.intro (@fdL_ren) (And.intro (@tyL_ren) (And.intro (@fdV_ren) (And.intro (@tyV_ren) (And.intro byV_ren nb_ren))))) ?_
        refine goG Y81_Yg True.intro ?_
        refine wG Y81_Yg True.intro ?_
        refine AR.callSP [0] h5 True.intro (And.intro (@tyV_id) (And.intro (@fdV_id) (And.intro (@tyL_id) (And.intro (@fdL_id) byV_id)))) (And.intro (@fdL_ren) (And.intro (@tyL_ren) (And.intro (@fdV_ren) (And.intro (@tyV_ren) (And.intro byV_ren nb_ren))))) ?_
        refine goG Y81_Yg True.intro ?_
        refine wG Y81_Yg True.intro ?_
        refine ALp.cutP 2 [(0, .pt 0 0), (3, .sl (B.map fdV) (.own 1))] [.box [.im (.string (bA ls)), (.im (.bool (bs)))], .tip 132 6 B.length] (And.intro (@tyV_id) (And.intro (@fdV_id) (And.intro (@tyL_id) (And.intro (@fdL_id) byV_id)))) ?_
        exact hn
theorem accP_t {p l : Bs} (h : p.isPrefixOf l = true) : accP p l = l.drop p.length := if_pos h
theorem accP_f {p l : Bs} (h : p.isPrefixOf l = false) : accP p l = l := by unfold accP; rw [h]; rfl
theorem pre_len {p l : Bs} (h : p.isPrefixOf l = true) : (l.drop p.length).length + p.length = l.length := by
  have := prefix_le h
  rw [List.length_drop]
  omega
theorem Y72_Yg : type_of% (And.intro @F_ag_100 (And.intro @F_ag_4 (And.intro @F_al_100 (And.intro @F_el_97 (And.intro @F_fl_110_1 (And.intro @F_st_100 (And.intro @F_sz_100 (@F_sz_4)))))))) := And.intro @F_ag_100 (And.intro @F_ag_4 (And.intro @F_al_100 (And.intro @F_el_97 (And.intro @F_fl_110_1 (And.intro @F_st_100 (And.intro @F_sz_100 (@F_sz_4)))))))
set_option maxHeartbeats 8000000 in
theorem c_read : ∀ m, m ≤ 70000 → ReadC m := by
  intro m
  induction m using Nat.strongRecOn with
  | _ m ih =>
  intro hm l b hl hF
  obtain ⟨m, rfl⟩ : ∃ k, m = k + 1 := ⟨m - 1, by have := hF.1; omega⟩
  have hR : ∀ j, j < m + 1 → ReadC j := fun j hj => ih j hj (by omega)
  clear ih
  have hfu := hF.2
  clear hF
  show DC _ _ _ _ (tyV (rdS (rdn m).1 (rdn m).2 l b).1) [.box [.im (.string (bA (rdS (rdn m).1 (rdn m).2 l b).2.1)), (.im (.bool ((rdS (rdn m).1 (rdn m).2 l b).2.2)))]]
  unfold rdS
  refine DC.enter 44 Tryz.func72 rfl (by decide) rfl rfl (s := [(0, .pt 0 0)]) (by rfl) ?_
  cases b with
  | true =>
    rw [if_pos rfl]
    have hi := c_integer l true
    generalize intP l true = r at hi ⊢
    obtain ⟨tr, lr, br⟩ := r
    rw [tyV_eq tr]
    refine wG Y72_Yg True.intro ?_
    refine AR.callSP [0] hi True.intro (And.intro (@tyV_id) (And.intro (@fdV_id) (And.intro (@tyL_id) (And.intro (@fdL_id) byV_id)))) (And.intro (@fdL_ren) (And.intro (@tyL_ren) (And.intro (@fdV_ren) (And.intro (@tyV_ren) (And.intro byV_ren nb_ren))))) ?_
    refine goG Y72_Yg (And.intro (@tyV_firm) (And.intro (@fdV_firm) (And.intro (@tyV_strip) (And.intro (@fdV_strip) (And.intro (@tyV_live) (And.intro (@tyV_size) (And.intro (@tyV_isAg) (And.intro (@tyV_cells) (And.intro (@fdV_live) (And.intro (@fdV_size) (And.intro (@fdV_isAg) (And.intro (@fdV_cells) (And.intro (@List.getElem?_map.{0, 0}) @Int.natCast_nonneg))))))))))))) ?_
    refine wG Y72_Yg (And.intro (@tyV_firm) (And.intro (@fdV_firm) (And.intro (@tyV_strip) (And.intro (@fdV_strip) (And.intro (@tyV_live) (And.intro (@tyV_size) (And.intro (@tyV_isAg) (And.intro (@tyV_cells) (And.intro (@fdV_live) (And.intro (@fdV_size) (And.intro (@fdV_isAg) (And.intro (@fdV_cells) (And.intro (@List.getElem?_map.{0, 0}) @Int.natCast_nonneg))))))))))))) ?_
    refine Fin.gen (rs := [.cell 2 100]) rfl (by first | exact .inl rfl | exact .inr rfl) (finG Y72_Yg) ?_ rfl (idG (And.intro (@tyV_id) (And.intro (@fdV_id) (And.intro (@tyL_id) (And.intro (@fdL_id) byV_id)))))
    all_goals exact wkG (And.intro (@tyV_id) (And.intro (@fdV_id) (And.intro (@tyL_id) (And.intro (@fdL_id) byV_id))))
  | false =>
  have hfu := hfu rfl
  rw [if_neg (by decide)]
  have h1 := c_accept ⟨#[63]⟩ [63] l false rfl
  cases p1 : [63].isPrefixOf l with
  | true =>
    rw [p1] at h1
    rw [if_pos rfl]
    rw [accP_t p1] at h1
    rw [tyV_eq tz]
    refine wG Y72_Yg True.intro ?_
    refine AR.callSP [0] h1 True.intro (And.intro (@tyV_id) (And.intro (@fdV_id) (And.intro (@tyL_id) (And.intro (@fdL_id) byV_id)))) (And.intro (@fdL_ren) (And.intro (@tyL_ren) (And.intro (@fdV_ren) (And.intro (@tyV_ren) (And.intro byV_ren nb_ren))))) ?_
    refine goG Y72_Yg True.intro ?_
    refine wG Y72_Yg True.intro ?_
    refine Fin.gen (rs := [.cell 2 100]) rfl (by first | exact .inl rfl | exact .inr rfl) (finG Y72_Yg) ?_ rfl (idG (And.intro (@tyV_id) (And.intro (@fdV_id) (And.intro (@tyL_id) (And.intro (@fdL_id) byV_id)))))
    all_goals exact wkG (And.intro (@tyV_id) (And.intro (@fdV_id) (And.intro (@tyL_id) (And.intro (@fdL_id) byV_id))))
  | false =>
  rw [p1, accP_f p1] at h1
  rw [if_neg (by decide)]
  have h2 := c_accept ⟨#[97, 110, 121]⟩ [97, 110, 121] l false rfl
  cases p2 : [97, 110, 121].isPrefixOf l with
  | true =>
    rw [p2, accP_t p2] at h2
    rw [if_pos rfl]
    simp only [tyV_mk]
    refine wG Y72_Yg True.intro ?_
    refine AR.callSP [0] h1 True.intro (And.intro (@tyV_id) (And.intro (@fdV_id) (And.intro (@tyL_id) (And.intro (@fdL_id) byV_id)))) (And.intro (@fdL_ren) (And.intro (@tyL_ren) (And.intro (@fdV_ren) (And.intro (@tyV_ren) (And.intro byV_ren nb_ren))))) ?_
    refine goG Y72_Yg True.intro ?_
    refine wG Y72_Yg True.intro ?_
    refine AR.callSP [0] h2 True.intro (And.intro (@tyV_id) (And.intro (@fdV_id) (And.intro (@tyL_id) (And.intro (@fdL_id) byV_id)))) (And.intro (@fdL_ren) (And.intro (@tyL_ren) (And.intro (@fdV_ren) (And.intro (@tyV_ren) (And.intro byV_ren nb_ren))))) ?_
    refine goG Y72_Yg True.intro ?_
    refine wG Y72_Yg True.intro ?_
    refine Fin.gen (rs := [.cell 2 100]) rfl (by first | exact .inl rfl | exact .inr rfl) (finG Y72_Yg) ?_ rfl (idG (And.intro (@tyV_id) (And.intro (@fdV_id) (And.intro (@tyL_id) (And.intro (@fdL_id) byV_id)))))
    all_goals exact wkG (And.intro (@tyV_id) (And.intro (@fdV_id) (And.intro (@tyL_id) (And.intro (@fdL_id) byV_id))))
  | false =>
  rw [p2, accP_f p2] at h2
  rw [if_neg (by decide)]
  have h3 := c_accept ⟨#[42]⟩ [42] l false rfl
  cases p3 : [42].isPrefixOf l with
  | true =>
    rw [p3, accP_t p3] at h3
    rw [if_pos rfl]
    have hlen := pre_len p3
    have hr := hR m (by omega) (l.drop 1) false (by simp only [List.length_singleton] at hlen; omega) ⟨by omega, fun _ => by simp only [List.length_singleton] at hlen; omega⟩
    simp only [List.length_singleton] at h3
    generalize (rdn m).1 (l.drop 1) false = r at hr ⊢
    obtain ⟨tr, lr, br⟩ := r
    simp only [tyV_mk]
    refine wG Y72_Yg True.intro ?_
    refine AR.callSP [0] h1 True.intro (And.intro (@tyV_id) (And.intro (@fdV_id) (And.intro (@tyL_id) (And.intro (@fdL_id) byV_id)))) (And.intro (@fdL_ren) (And.intro (@tyL_ren) (And.intro (@fdV_ren) (And.intro (@tyV_ren) (And.intro byV_ren nb_ren))))) ?_
    refine goG Y72_Yg True.intro ?_
    refine wG Y72_Yg True.intro ?_
    refine AR.callSP [0] h2 True.intro (And.intro (@tyV_id) (And.intro (@fdV_id) (And.intro (@tyL_id) (And.intro (@fdL_id) byV_id)))) (And.intro (@fdL_ren) (And.intro (@tyL_ren) (And.intro (@fdV_ren) (And.intro (@tyV_ren) (And.intro byV_ren nb_ren))))) ?_
    refine goG Y72_Yg True.intro ?_
    refine wG Y72_Yg True.intro ?_
    refine AR.callSP [0] h3 True.intro (And.intro (@tyV_id) (And.intro (@fdV_id) (And.intro (@tyL_id) (And.intro (@fdL_id) byV_id)))) (And.intro (@fdL_ren) (And.intro (@tyL_ren) (And.intro (@fdV_ren) (And.intro (@tyV_ren) (And.intro byV_ren nb_ren))))) ?_
    refine goG Y72_Yg True.intro ?_
    refine wG Y72_Yg True.intro ?_
    refine AR.callSP [0] hr True.intro (And.intro (@tyV_id) (And.intro (@fdV_id) (And.intro (@tyL_id) (And.intro (@fdL_id) byV_id)))) (And.intro (@fdL_ren) (And.intro (@tyL_ren) (And.intro (@fdV_ren) (And.intro (@tyV_ren) (And.intro byV_ren nb_ren))))) ?_
    refine goG Y72_Yg (And.intro (@tyV_firm) (And.intro (@fdV_firm) (And.intro (@tyV_strip) (And.intro (@fdV_strip) (And.intro (@tyV_live) (And.intro (@tyV_size) (And.intro (@tyV_isAg) (And.intro (@tyV_cells) (And.intro (@fdV_live) (And.intro (@fdV_size) (And.intro (@fdV_isAg) (And.intro (@fdV_cells) (And.intro (@List.getElem?_map.{0, 0}) @Int.natCast_nonneg))))))))))))) ?_
    refine wG Y72_Yg (And.intro (@tyV_firm) (And.intro (@fdV_firm) (And.intro (@tyV_strip) (And.intro (@fdV_strip) (And.intro (@tyV_live) (And.intro (@tyV_size) (And.intro (@tyV_isAg) (And.intro (@tyV_cells) (And.intro (@fdV_live) (And.intro (@fdV_size) (And.intro (@fdV_isAg) (And.intro (@fdV_cells) (And.intro (@List.getElem?_map.{0, 0}) @Int.natCast_nonneg))))))))))))) ?_
    refine Fin.gen (rs := [.cell 2 100]) rfl (by first | exact .inl rfl | exact .inr rfl) (finG Y72_Yg) ?_ rfl (idG (And.intro (@tyV_id) (And.intro (@fdV_id) (And.intro (@tyL_id) (And.intro (@fdL_id) byV_id)))))
    all_goals exact wkG (And.intro (@tyV_id) (And.intro (@fdV_id) (And.intro (@tyL_id) (And.intro (@fdL_id) byV_id))))
  | false =>
  rw [p3, accP_f p3] at h3
  rw [if_neg (by decide)]
  have h4 := c_accept ⟨#[91]⟩ [91] l false rfl
  cases p4 : [91].isPrefixOf l with
  | true =>
    rw [p4, accP_t p4] at h4
    rw [if_pos rfl]
    have hlen := pre_len p4
    simp only [List.length_singleton] at h4 hlen
    have hn := c_number (l.drop 1) false (by omega)
    obtain ⟨n1, n2, n3, n4⟩ := numP_len (l.drop 1) false
    simp only
    generalize hnn : numP (l.drop 1) false = n at hn n1 n2 n3 n4 ⊢
    obtain ⟨nv, ln, bn⟩ := n
    simp only at hn n1 n2 n3 n4 ⊢
    have hq := c_need ⟨#[93]⟩ [93] ln bn rfl
    obtain ⟨q1, q2⟩ := needP_len [93] ln bn
    generalize hqq : needP [93] ln bn = q at hq q1 q2 ⊢
    obtain ⟨lq, bq⟩ := q
    simp only at hq q1 q2 ⊢
    have hr := hR m (by omega) lq bq (by omega) ⟨by omega, fun hb => by have := n2 (q2 hb); omega⟩
    generalize (rdn m).1 lq bq = r at hr ⊢
    obtain ⟨tr, lr, br⟩ := r
    simp only [tyV_mk]
    refine wG Y72_Yg True.intro ?_
    refine AR.callSP [0] h1 True.intro (And.intro (@tyV_id) (And.intro (@fdV_id) (And.intro (@tyL_id) (And.intro (@fdL_id) byV_id)))) (And.intro (@fdL_ren) (And.intro (@tyL_ren) (And.intro (@fdV_ren) (And.intro (@tyV_ren) (And.intro byV_ren nb_ren))))) ?_
    refine goG Y72_Yg True.intro ?_
    refine wG Y72_Yg True.intro ?_
    refine AR.callSP [0] h2 True.intro (And.intro (@tyV_id) (And.intro (@fdV_id) (And.intro (@tyL_id) (And.intro (@fdL_id) byV_id)))) (And.intro (@fdL_ren) (And.intro (@tyL_ren) (And.intro (@fdV_ren) (And.intro (@tyV_ren) (And.intro byV_ren nb_ren))))) ?_
    refine goG Y72_Yg True.intro ?_
    refine wG Y72_Yg True.intro ?_
    refine AR.callSP [0] h3 True.intro (And.intro (@tyV_id) (And.intro (@fdV_id) (And.intro (@tyL_id) (And.intro (@fdL_id) byV_id)))) (And.intro (@fdL_ren) (And.intro (@tyL_ren) (And.intro (@fdV_ren) (And.intro (@tyV_ren) (And.intro byV_ren nb_ren))))) ?_
    refine goG Y72_Yg True.intro ?_
    refine wG Y72_Yg True.intro ?_
    refine AR.callSP [0] h4 True.intro (And.intro (@tyV_id) (And.intro (@fdV_id) (And.intro (@tyL_id) (And.intro (@fdL_id) byV_id)))) (And.intro (@fdL_ren) (And.intro (@tyL_ren) (And.intro (@fdV_ren) (And.intro (@tyV_ren) (And.intro byV_ren nb_ren))))) ?_
    refine goG Y72_Yg True.intro ?_
    refine wG Y72_Yg True.intro ?_
    refine AR.callSP [0] hn True.intro (And.intro (@tyV_id) (And.intro (@fdV_id) (And.intro (@tyL_id) (And.intro (@fdL_id) byV_id)))) (And.intro (@fdL_ren) (And.intro (@tyL_ren) (And.intro (@fdV_ren) (And.intro (@tyV_ren) (And.intro byV_ren nb_ren))))) ?_
    refine goG Y72_Yg True.intro ?_
    refine wG Y72_Yg True.intro ?_
    refine AR.callSP [0] hq True.intro (And.intro (@tyV_id) (And.intro (@fdV_id) (And.intro (@tyL_id) (And.intro (@fdL_id) byV_id)))) (And.intro (@fdL_ren) (And.intro (@tyL_ren) (And.intro (@fdV_ren) (And.intro (@tyV_ren) (And.intro byV_ren nb_ren))))) ?_
    refine goG Y72_Yg True.intro ?_
    refine wG Y72_Yg True.intro ?_
    refine AR.callSP [0] hr True.intro (And.intro (@tyV_id) (And.intro (@fdV_id) (And.intro (@tyL_id) (And.intro (@fdL_id) byV_id)))) (And.intro (@fdL_ren) (And.intro (@tyL_ren) (And.intro (@fdV_ren) (And.intro (@tyV_ren) (And.intro byV_ren nb_ren))))) ?_
    refine goG Y72_Yg (And.intro (@tyV_firm) (And.intro (@fdV_firm) (And.intro (@tyV_strip) (And.intro (@fdV_strip) (And.intro (@tyV_live) (And.intro (@tyV_size) (And.intro (@tyV_isAg) (And.intro (@tyV_cells) (And.intro (@fdV_live) (And.intro (@fdV_size) (And.intro (@fdV_isAg) (And.intro (@fdV_cells) (And.intro (@List.getElem?_map.{0, 0}) @Int.natCast_nonneg))))))))))))) ?_
    refine wG Y72_Yg (And.intro (@tyV_firm) (And.intro (@fdV_firm) (And.intro (@tyV_strip) (And.intro (@fdV_strip) (And.intro (@tyV_live) (And.intro (@tyV_size) (And.intro (@tyV_isAg) (And.intro (@tyV_cells) (And.intro (@fdV_live) (And.intro (@fdV_size) (And.intro (@fdV_isAg) (And.intro (@fdV_cells) (And.intro (@List.getElem?_map.{0, 0}) @Int.natCast_nonneg))))))))))))) ?_
    refine Fin.gen (rs := [.cell 2 100]) rfl (by first | exact .inl rfl | exact .inr rfl) (finG Y72_Yg) ?_ rfl (idG (And.intro (@tyV_id) (And.intro (@fdV_id) (And.intro (@tyL_id) (And.intro (@fdL_id) byV_id)))))
    all_goals exact wkG (And.intro (@tyV_id) (And.intro (@fdV_id) (And.intro (@tyL_id) (And.intro (@fdL_id) byV_id))))
  | false =>
  rw [p4, accP_f p4] at h4
  rw [if_neg (by decide)]
  have h5 := c_accept ⟨#[123]⟩ [123] l false rfl
  cases p5 : [123].isPrefixOf l with
  | true =>
    rw [p5, accP_t p5] at h5
    rw [if_pos rfl]
    have hlen := pre_len p5
    simp only [List.length_singleton] at h5 hlen
    have hf := c_fields m (by omega) (fun j hj => hR j (by omega)) (l.drop 1) (by omega) (by omega)
    simp only
    have e : (if [125].isPrefixOf (l.drop 1) = true then ((.mk 0 5 0 0 [] [], (l.drop 1).drop 1, false) : Rdr Ty) else (.mk 0 5 0 0 [] ((rdn m).2 [] (l.drop 1) false).1, ((rdn m).2 [] (l.drop 1) false).2)) = (.mk 0 5 0 0 [] (if [125].isPrefixOf (l.drop 1) then ([], (l.drop 1).drop 1, false) else (rdn m).2 [] (l.drop 1) false).1, (if [125].isPrefixOf (l.drop 1) then ([], (l.drop 1).drop 1, false) else (rdn m).2 [] (l.drop 1) false).2) := by split <;> rfl
    rw [e]
    clear e
    generalize (if [125].isPrefixOf (l.drop 1) then (([], (l.drop 1).drop 1, false) : Rdr (List Ty)) else (rdn m).2 [] (l.drop 1) false) = r at hf ⊢
    obtain ⟨tr, lr, br⟩ := r
    simp only [tyV_mk]
    refine wG Y72_Yg True.intro ?_
    refine AR.callSP [0] h1 True.intro (And.intro (@tyV_id) (And.intro (@fdV_id) (And.intro (@tyL_id) (And.intro (@fdL_id) byV_id)))) (And.intro (@fdL_ren) (And.intro (@tyL_ren) (And.intro (@fdV_ren) (And.intro (@tyV_ren) (And.intro byV_ren nb_ren))))) ?_
    refine goG Y72_Yg True.intro ?_
    refine wG Y72_Yg True.intro ?_
    refine AR.callSP [0] h2 True.intro (And.intro (@tyV_id) (And.intro (@fdV_id) (And.intro (@tyL_id) (And.intro (@fdL_id) byV_id)))) (And.intro (@fdL_ren) (And.intro (@tyL_ren) (And.intro (@fdV_ren) (And.intro (@tyV_ren) (And.intro byV_ren nb_ren))))) ?_
    refine goG Y72_Yg True.intro ?_
    refine wG Y72_Yg True.intro ?_
    refine AR.callSP [0] h3 True.intro (And.intro (@tyV_id) (And.intro (@fdV_id) (And.intro (@tyL_id) (And.intro (@fdL_id) byV_id)))) (And.intro (@fdL_ren) (And.intro (@tyL_ren) (And.intro (@fdV_ren) (And.intro (@tyV_ren) (And.intro byV_ren nb_ren))))) ?_
    refine goG Y72_Yg True.intro ?_
    refine wG Y72_Yg True.intro ?_
    refine AR.callSP [0] h4 True.intro (And.intro (@tyV_id) (And.intro (@fdV_id) (And.intro (@tyL_id) (And.intro (@fdL_id) byV_id)))) (And.intro (@fdL_ren) (And.intro (@tyL_ren) (And.intro (@fdV_ren) (And.intro (@tyV_ren) (And.intro byV_ren nb_ren))))) ?_
    refine goG Y72_Yg True.intro ?_
    refine wG Y72_Yg True.intro ?_
    refine AR.callSP [0] h5 True.intro (And.intro (@tyV_id) (And.intro (@fdV_id) (And.intro (@tyL_id) (And.intro (@fdL_id) byV_id)))) (And.intro (@fdL_ren) (And.intro (@tyL_ren) (And.intro (@fdV_ren) (And.intro (@tyV_ren) (And.intro byV_ren nb_ren))))) ?_
    refine goG Y72_Yg True.intro ?_
    refine wG Y72_Yg True.intro ?_
    refine AR.callSP [0] hf True.intro (And.intro (@tyV_id) (And.intro (@fdV_id) (And.intro (@tyL_id) (And.intro (@fdL_id) byV_id)))) (And.intro (@fdL_ren) (And.intro (@tyL_ren) (And.intro (@fdV_ren) (And.intro (@tyV_ren) (And.intro byV_ren nb_ren))))) ?_
    refine goG Y72_Yg (And.intro (@tyV_firm) (And.intro (@fdV_firm) (And.intro (@tyV_strip) (And.intro (@fdV_strip) (And.intro (@tyV_live) (And.intro (@tyV_size) (And.intro (@tyV_isAg) (And.intro (@tyV_cells) (And.intro (@fdV_live) (And.intro (@fdV_size) (And.intro (@fdV_isAg) (And.intro (@fdV_cells) (And.intro (@List.getElem?_map.{0, 0}) @Int.natCast_nonneg))))))))))))) ?_
    refine wG Y72_Yg (And.intro (@tyV_firm) (And.intro (@fdV_firm) (And.intro (@tyV_strip) (And.intro (@fdV_strip) (And.intro (@tyV_live) (And.intro (@tyV_size) (And.intro (@tyV_isAg) (And.intro (@tyV_cells) (And.intro (@fdV_live) (And.intro (@fdV_size) (And.intro (@fdV_isAg) (And.intro (@fdV_cells) (And.intro (@List.getElem?_map.{0, 0}) @Int.natCast_nonneg))))))))))))) ?_
    refine Fin.gen (rs := [.cell 2 100]) rfl (by first | exact .inl rfl | exact .inr rfl) (finG Y72_Yg) ?_ rfl (idG (And.intro (@tyV_id) (And.intro (@fdV_id) (And.intro (@tyL_id) (And.intro (@fdL_id) byV_id)))))
    all_goals exact wkG (And.intro (@tyV_id) (And.intro (@fdV_id) (And.intro (@tyL_id) (And.intro (@fdL_id) byV_id))))
  | false =>
  rw [p5, accP_f p5] at h5
  rw [if_neg (by decide)]
  have hi := c_integer l false
  generalize intP l false = r at hi ⊢
  obtain ⟨tr, lr, br⟩ := r
  rw [tyV_eq tr]
  refine wG Y72_Yg True.intro ?_
  refine AR.callSP [0] h1 True.intro (And.intro (@tyV_id) (And.intro (@fdV_id) (And.intro (@tyL_id) (And.intro (@fdL_id) byV_id)))) (And.intro (@fdL_ren) (And.intro (@tyL_ren) (And.intro (@fdV_ren) (And.intro (@tyV_ren) (And.intro byV_ren nb_ren))))) ?_
  refine goG Y72_Yg True.intro ?_
  refine wG Y72_Yg True.intro ?_
  refine AR.callSP [0] h2 True.intro (And.intro (@tyV_id) (And.intro (@fdV_id) (And.intro (@tyL_id) (And.intro (@fdL_id) byV_id)))) (And.intro (@fdL_ren) (And.intro (@tyL_ren) (And.intro (@fdV_ren) (And.intro (@tyV_ren) (And.intro byV_ren nb_ren))))) ?_
  refine goG Y72_Yg True.intro ?_
  refine wG Y72_Yg True.intro ?_
  refine AR.callSP [0] h3 True.intro (And.intro (@tyV_id) (And.intro (@fdV_id) (And.intro (@tyL_id) (And.intro (@fdL_id) byV_id)))) (And.intro (@fdL_ren) (And.intro (@tyL_ren) (And.intro (@fdV_ren) (And.intro (@tyV_ren) (And.intro byV_ren nb_ren))))) ?_
  refine goG Y72_Yg True.intro ?_
  refine wG Y72_Yg True.intro ?_
  refine AR.callSP [0] h4 True.intro (And.intro (@tyV_id) (And.intro (@fdV_id) (And.intro (@tyL_id) (And.intro (@fdL_id) byV_id)))) (And.intro (@fdL_ren) (And.intro (@tyL_ren) (And.intro (@fdV_ren) (And.intro (@tyV_ren) (And.intro byV_ren nb_ren))))) ?_
  refine goG Y72_Yg True.intro ?_
  refine wG Y72_Yg True.intro ?_
  refine AR.callSP [0] h5 True.intro (And.intro (@tyV_id) (And.intro (@fdV_id) (And.intro (@tyL_id) (And.intro (@fdL_id) byV_id)))) (And.intro (@fdL_ren) (And.intro (@tyL_ren) (And.intro (@fdV_ren) (And.intro (@tyV_ren) (And.intro byV_ren nb_ren))))) ?_
  refine goG Y72_Yg True.intro ?_
  refine wG Y72_Yg True.intro ?_
  refine AR.callSP [0] hi True.intro (And.intro (@tyV_id) (And.intro (@fdV_id) (And.intro (@tyL_id) (And.intro (@fdL_id) byV_id)))) (And.intro (@fdL_ren) (And.intro (@tyL_ren) (And.intro (@fdV_ren) (And.intro (@tyV_ren) (And.intro byV_ren nb_ren))))) ?_
  refine goG Y72_Yg (And.intro (@tyV_firm) (And.intro (@fdV_firm) (And.intro (@tyV_strip) (And.intro (@fdV_strip) (And.intro (@tyV_live) (And.intro (@tyV_size) (And.intro (@tyV_isAg) (And.intro (@tyV_cells) (And.intro (@fdV_live) (And.intro (@fdV_size) (And.intro (@fdV_isAg) (And.intro (@fdV_cells) (And.intro (@List.getElem?_map.{0, 0}) @Int.natCast_nonneg))))))))))))) ?_
  refine wG Y72_Yg (And.intro (@tyV_firm) (And.intro (@fdV_firm) (And.intro (@tyV_strip) (And.intro (@fdV_strip) (And.intro (@tyV_live) (And.intro (@tyV_size) (And.intro (@tyV_isAg) (And.intro (@tyV_cells) (And.intro (@fdV_live) (And.intro (@fdV_size) (And.intro (@fdV_isAg) (And.intro (@fdV_cells) (And.intro (@List.getElem?_map.{0, 0}) @Int.natCast_nonneg))))))))))))) ?_
  refine Fin.gen (rs := [.cell 2 100]) rfl (by first | exact .inl rfl | exact .inr rfl) (finG Y72_Yg) ?_ rfl (idG (And.intro (@tyV_id) (And.intro (@fdV_id) (And.intro (@tyL_id) (And.intro (@fdL_id) byV_id)))))
  all_goals exact wkG (And.intro (@tyV_id) (And.intro (@fdV_id) (And.intro (@tyL_id) (And.intro (@fdL_id) byV_id))))
theorem bA_nil : ((bA []).toList == (⟨#[]⟩ : ByteArray).toList) = true := (eqS_iff _ _).2 rfl
theorem bA_ne (x : UInt8) (r : Bs) : ((bA (x :: r)).toList == (⟨#[]⟩ : ByteArray).toList) = false := eqS_f.2 fun e => by
  have := congrArg ByteArray.size e
  rw [bA_size] at this
  have this : (x :: r).length = 0 := this
  simp at this
theorem Y62_Yg : type_of% (And.intro @F_ag_100 (And.intro @F_ag_4 (And.intro @F_ag_9 (And.intro @F_al_100 (And.intro @F_al_110 (And.intro @F_fl_110_0 (And.intro @F_fl_110_1 (And.intro @F_st_100 (And.intro @F_st_110 (And.intro @F_sz_100 (And.intro @F_sz_4 (And.intro @F_sz_9 (@F_un_9))))))))))))) := And.intro @F_ag_100 (And.intro @F_ag_4 (And.intro @F_ag_9 (And.intro @F_al_100 (And.intro @F_al_110 (And.intro @F_fl_110_0 (And.intro @F_fl_110_1 (And.intro @F_st_100 (And.intro @F_st_110 (And.intro @F_sz_100 (And.intro @F_sz_4 (And.intro @F_sz_9 (@F_un_9))))))))))))
set_option maxHeartbeats 4000000 in
theorem c_Parse (l : Bs) (hmax : l.length ≤ 140737488355328) : PC Tryz.prog 62 [.im (.string (bA l))] (.tu [tyV (psT l).1, (.im (.int .i64 ((psT l).2)))]) := by
  unfold psT
  refine PC.enter 35 Tryz.func62 rfl (by decide) rfl rfl (s := [(0, .im (.string (bA l)))]) (by rfl) ?_
  by_cases hl : 65536 < l.length
  · rw [if_pos hl]
    have h1 : ((bA l).size : Int) > 65536 := by rw [bA_size]; omega
    simp only [tyV_eq tz]
    refine wG Y62_Yg h1 ?_
    refine Fin.gen0 (rs := [.cell 2 100, .tmp 3]) rfl (by first | exact .inl rfl | exact .inr rfl) (finG Y62_Yg) ?_
    skip
    all_goals exact wkG (And.intro (@tyV_id) (And.intro (@fdV_id) (And.intro (@tyL_id) (And.intro (@fdL_id) byV_id))))
  · rw [if_neg hl]
    have h1 : ¬ ((bA l).size : Int) > 65536 := by rw [bA_size]; omega
    have hr := c_read (l.length + 2) (by omega) l false (by omega) ⟨by omega, fun _ => Nat.le_refl _⟩
    have hfit := ((rdn_len (l.length + 2) (by omega)).1 l false).2.2
    simp only
    generalize (rdn (l.length + 2)).1 l false = r at hr hfit ⊢
    obtain ⟨tr, lr, br⟩ := r
    simp only at hr hfit ⊢
    have hc := c_check tr hfit
    refine wG Y62_Yg h1 ?_
    refine AR.callSP [1] hr True.intro (And.intro (@tyV_id) (And.intro (@fdV_id) (And.intro (@tyL_id) (And.intro (@fdL_id) byV_id)))) (And.intro (@fdL_ren) (And.intro (@tyL_ren) (And.intro (@fdV_ren) (And.intro (@tyV_ren) (And.intro byV_ren nb_ren))))) ?_
    refine goG Y62_Yg (And.intro (@tyV_firm) (And.intro (@fdV_firm) (And.intro (@tyV_strip) (And.intro (@fdV_strip) (And.intro (@tyV_live) (And.intro (@tyV_size) (And.intro (@tyV_isAg) (And.intro (@tyV_cells) (And.intro (@fdV_live) (And.intro (@fdV_size) (And.intro (@fdV_isAg) (And.intro (@fdV_cells) (And.intro (@List.getElem?_map.{0, 0}) @Int.natCast_nonneg))))))))))))) ?_
    cases br with
    | true =>
      simp only [Bool.true_or, if_true]
      rw [tyV_eq tz]
      refine wG Y62_Yg True.intro ?_
      refine Fin.gen0 (rs := [.cell 2 100, .tmp 3]) rfl (by first | exact .inl rfl | exact .inr rfl) (finG Y62_Yg) ?_
      skip
      all_goals exact wkG (And.intro (@tyV_id) (And.intro (@fdV_id) (And.intro (@tyL_id) (And.intro (@fdL_id) byV_id))))
    | false =>
      cases lr with
      | cons x r =>
        simp only [List.isEmpty_cons, Bool.not_false, Bool.or_true, if_true]
        rw [tyV_eq tz]
        have he := bA_ne x r
        refine wG Y62_Yg he ?_
        refine Fin.gen0 (rs := [.cell 2 100, .tmp 3]) rfl (by first | exact .inl rfl | exact .inr rfl) (finG Y62_Yg) ?_
        skip
        all_goals exact wkG (And.intro (@tyV_id) (And.intro (@fdV_id) (And.intro (@tyL_id) (And.intro (@fdL_id) byV_id))))
      | nil =>
        simp only [List.isEmpty_nil, Bool.not_true, Bool.or_false, Bool.false_eq_true, if_false]
        have he := bA_nil
        by_cases hk : chk tr = 0
        · rw [if_neg (by simpa using hk)]
          rw [hk] at hc
          rw [tyV_eq tr]
          refine wG Y62_Yg (And.intro he (And.intro (@tyV_firm) (And.intro (@fdV_firm) (And.intro (@tyV_strip) (And.intro (@fdV_strip) (And.intro (@tyV_live) (And.intro (@tyV_size) (And.intro (@tyV_isAg) (And.intro (@tyV_cells) (And.intro (@fdV_live) (And.intro (@fdV_size) (And.intro (@fdV_isAg) (And.intro (@fdV_cells) (And.intro (@List.getElem?_map.{0, 0}) @Int.natCast_nonneg)))))))))))))) ?_
          refine AR.callP hc @tyV_eq (And.intro (@tyV_id) (And.intro (@fdV_id) (And.intro (@tyL_id) (And.intro (@fdL_id) byV_id)))) ?_
          refine goG Y62_Yg (And.intro (@tyV_firm) (And.intro (@fdV_firm) (And.intro (@tyV_strip) (And.intro (@fdV_strip) (And.intro (@tyV_live) (And.intro (@tyV_size) (And.intro (@tyV_isAg) (And.intro (@tyV_cells) (And.intro (@fdV_live) (And.intro (@fdV_size) (And.intro (@fdV_isAg) (And.intro (@fdV_cells) (And.intro (@List.getElem?_map.{0, 0}) @Int.natCast_nonneg))))))))))))) ?_
          refine wG Y62_Yg (And.intro (@tyV_firm) (And.intro (@fdV_firm) (And.intro (@tyV_strip) (And.intro (@fdV_strip) (And.intro (@tyV_live) (And.intro (@tyV_size) (And.intro (@tyV_isAg) (And.intro (@tyV_cells) (And.intro (@fdV_live) (And.intro (@fdV_size) (And.intro (@fdV_isAg) (And.intro (@fdV_cells) (And.intro (@List.getElem?_map.{0, 0}) @Int.natCast_nonneg))))))))))))) ?_
          refine Fin.gen0 (rs := [.cell 2 100, .tmp 3]) rfl (by first | exact .inl rfl | exact .inr rfl) (finG Y62_Yg) ?_
          skip
          all_goals exact wkG (And.intro (@tyV_id) (And.intro (@fdV_id) (And.intro (@tyL_id) (And.intro (@fdL_id) byV_id))))
        · rw [if_pos hk]
          rw [tyV_eq tz]
          refine wG Y62_Yg (And.intro he (And.intro (@tyV_firm) (And.intro (@fdV_firm) (And.intro (@tyV_strip) (And.intro (@fdV_strip) (And.intro (@tyV_live) (And.intro (@tyV_size) (And.intro (@tyV_isAg) (And.intro (@tyV_cells) (And.intro (@fdV_live) (And.intro (@fdV_size) (And.intro (@fdV_isAg) (And.intro (@fdV_cells) (And.intro (@List.getElem?_map.{0, 0}) @Int.natCast_nonneg)))))))))))))) ?_
          refine AR.callP hc @tyV_eq (And.intro (@tyV_id) (And.intro (@fdV_id) (And.intro (@tyL_id) (And.intro (@fdL_id) byV_id)))) ?_
          refine goG Y62_Yg (And.intro (@tyV_firm) (And.intro (@fdV_firm) (And.intro (@tyV_strip) (And.intro (@fdV_strip) (And.intro (@tyV_live) (And.intro (@tyV_size) (And.intro (@tyV_isAg) (And.intro (@tyV_cells) (And.intro (@fdV_live) (And.intro (@fdV_size) (And.intro (@fdV_isAg) (And.intro (@fdV_cells) (And.intro (@List.getElem?_map.{0, 0}) @Int.natCast_nonneg))))))))))))) ?_
          refine wG Y62_Yg (And.intro (@tyV_firm) (And.intro (@fdV_firm) (And.intro (@tyV_strip) (And.intro (@fdV_strip) (And.intro (@tyV_live) (And.intro (@tyV_size) (And.intro (@tyV_isAg) (And.intro (@tyV_cells) (And.intro (@fdV_live) (And.intro (@fdV_size) (And.intro (@fdV_isAg) (And.intro (@fdV_cells) (And.intro (@List.getElem?_map.{0, 0}) (And.intro (@Int.natCast_nonneg) hk)))))))))))))) ?_
          refine Fin.gen0 (rs := [.cell 2 100, .tmp 3]) rfl (by first | exact .inl rfl | exact .inr rfl) (finG Y62_Yg) ?_
          skip
          all_goals exact wkG (And.intro (@tyV_id) (And.intro (@fdV_id) (And.intro (@tyL_id) (And.intro (@fdL_id) byV_id))))
end Go.Proofs.YtianekkfehoedaaGreatDoor
