/- math/bits.TrailingZeros at 16; a slice of an array in memory that nobody writes to any more. -/
import Derived.Test.YtjilcaemoebloaaDoorTw
import Derived.Test.YtjilcaemoebloaaDoorTi
import Derived.Lib.Walk
namespace Go.Proofs.YtjilcaemoebloaaDoor
set_option linter.unusedSimpArgs false
set_option linter.unusedVariables false
set_option linter.unnecessarySimpa false
open Go.RowKit Go.Lib
theorem tz64_at (w : World) (hcell : w.cell? ⟨5, 15, none⟩ = some (.int .u8 4)) : Calls Tryd.prog 107 #[.int .u64 16] w fun e w' => e = .returned (.int .i64 4) ∧ w' = w := by
  have key : IntKind.u64.wrap (bits BinOp.and IntKind.u64 16 (IntKind.u64.wrap (-16)) * 285870213051353865) / 288230376151711744 = 15 := by kernel_rfl
  go_enter Tryd.func107, Tryd.ntmps107
  go_wp2_with (simp only [key])
  go_ret
  exact ⟨rfl, rfl⟩
theorem c_tz64 : PC Tryd.prog 107 [.im (.int .u64 16)] (.im (.int .i64 4)) :=
  PC.ofIm (az := [.int .u64 16]) (by kernel_rfl) rfl fun C hC => by
    obtain ⟨_, hm, h⟩ := hC.gl.1 (⟨5, 15, none⟩, fun v => v = .int .u8 4) (by
      unfold glL
      exact List.mem_append_right _ (List.mem_append_left _ (List.mem_map.2 ⟨15, by decide, rfl⟩)))
    subst h
    exact tz64_at C.w hm.1
/-! ### An array in a box, frozen, and a slice of it -/
theorem add_zero' (a : Addr) : a.add 0 = a := by cases a; simp [Addr.add]
theorem WkF.ep0 {st : Nat → Ent} {kp : Nat → Bool} {id : Nat} {cs : List V} (hb : st id = .box cs) (hk : kp id = false) (hi : V.idsL kp cs = true) : WkF st kp (.pt id 0) (.ep (.ag cs) 0) := by
  intro C v hst hC hR
  subst hst
  cases hR with
  | @pt _ _ g cs' hσ hb' =>
    obtain ⟨g', bs, t, k1, k2, k3, k4, k5⟩ := hC.box id _ hb
    obtain rfl : g = g' := Option.some.inj (hσ.symm.trans k1)
    have hget : ∀ j, j < cs.length → ((List.range cs.length).map fun j => bs.getD j undef).toArray.getD j undef = bs.getD j undef := fun j hj => by simp [Array.getD_eq_getD_getElem?, hj]
    have hR : R (C.only kp) (.ag cs) (.agg ((List.range cs.length).map fun j => bs.getD j undef).toArray) := by
      refine .ag (by simp) (fun j hj => ?_) (fun j hj => ?_)
      · rw [hget j hj]; exact k4 j hj
      · rw [hget j hj]; exact (k5 j hj).only (V.idsL_get hi j hj)
    have h := R.ep (off := 0) (ad := ⟨g, 0, none⟩) hR (by simp [Value.cells, V.size, V.cells]) (fun j c hj => ?_)
    · rwa [add_zero'] at h
    · simp only [Value.cells] at hj
      have hlt : j < cs.length := by
        have := (Array.getElem?_eq_some_iff.1 hj).1
        simpa using this
      have hc : c = bs.getD j undef := by
        have := hget j hlt
        rw [Array.getD_eq_getD_getElem?, hj] at this
        exact this
      subst hc
      have hjb : j < bs.size := by omega
      rw [Addr.add_lit]
      refine ⟨by simp [Cf.only, World.cell?, k2, hjb, Array.getD_eq_getD_getElem?], hC.bav id _ g _ hb k1, fun i' hi' => ?_⟩
      left
      show (if kp i' then C.st i' else .free) = .free
      split
      · rename_i hkp
        refine Classical.byContradiction fun hne => ?_
        have := hC.inj i' id g hne (by rw [hb]; simp) hi' k1
        subst this
        rw [hk] at hkp
        cases hkp
      · rfl
theorem step_slice_ep {P : Program} {o : Oper} {ev : Operand → V} {t e : TypeId} {x y : Operand} {k : IntKind} {n m : Nat} {l : Bs} (ho : o.op = .slice t x (some y) none none) (hx : ev x = .ep (.ag (l.map byB)) 0) (hy : ev y = .im (.int k (m : Int))) (ht : arOf P t = some (n, e)) (hz : szOf P e = some 1) (hn : l.length = n) (hm : m < n) (hmax : n ≤ maxLen) :
    Step P o ev [] ⟨.sl ((l.drop m).map byB) .ro, []⟩ :=
  Step.look fun C ρ hC hR _ => by
    have h1 := hR x (by simp [ho, Op.operands])
    have h2 := hR y (by simp [ho, Op.operands])
    rw [hx] at h1
    rw [hy] at h2
    have e2 : ρ y = .int k (m : Int) := h2.im_eq
    generalize hu : ρ x = u at h1
    cases h1 with
    | @ep _ _ ad u h hsz hr =>
      cases h with
      | @ag _ us hus h1 h0 =>
        have har := arOf_spec ht
        have hsb := run_bounds (P := P) (b := false) (len := n) (cap := n) (lo := some (m : Int)) (hi := none) (mx := none) (l := m) (h := n) (m := none) (lv := some (.int k (m : Int))) (hv := none) (mv := none) (Nat.le_refl _) (by simp [slB]; omega) (.inr ⟨k, m, rfl, rfl⟩) (.inl ⟨rfl, rfl⟩) (.inl ⟨rfl, rfl⟩) C.w
        have hlen : ((l.drop m).map byB).length = n - m := by simp; omega
        refine ⟨.slice (some ((ad.add 0).add (m * 1))) (n - m) (n - m), ?_, R.cast_len hlen (.sl (z := 1) (u := fun i => us.getD (m + i) undef) (by omega) (by omega) (fun i hi => ?_) (fun i hi => ?_) (fun i hi => ⟨_, rfl, fun j c hj => ?_⟩) trivial)⟩
        · have hne : n ≠ m := by omega
          simp [execOp, ho, hu, e2, Instr.sliceAt, run_underlying har, Instr.sureAddr, hsb.1, run_sizeOf hz, hne]
        all_goals
          rw [hlen] at hi
          have hmi : m + i < (l.map byB).length := by simp; omega
          have hg := h0 (m + i) hmi
          simp only [List.getElem_map, byB] at hg
          have hv := hg.im_eq
        · constructor
          · simp [byB, V.size, V.cells]
          · simp only [hv]; rfl
        · simp only [List.getElem_map, List.getElem_drop, byB, hv]
          exact .im rfl
        · simp only [hv] at hj
          have hj0 : j = 0 := by
            have := (Array.getElem?_eq_some_iff.1 hj).1
            simpa [Value.cells] using this
          subst hj0
          have hc : us[m + i]? = some c := by
            have h5 : c = .int .u8 ((l[m + i]'(by simpa using hmi)).toNat : Int) := by
              simpa [Value.cells] using hj.symm
            rw [h5, ← hv, Array.getD_eq_getD_getElem?]
            have : m + i < us.size := by rw [hus]; exact hmi
            simp [this]
          have h6 := hr (m + i) c hc
          simp only [add_zero', Nat.mul_one, Addr.add_add] at h6 ⊢
          exact h6
theorem AR.sliceE {P : Program} {N : Nat} {ops : Array Oper} {dr : Bool} {Q : St → Prop} {d : Option Tmp} {t e : TypeId} {x y : Operand} {ty : TypeId} {pos : String} {af : Array Edge} {g : Option (Nat × Bool)} {os : List Oper} {k : Nat} {s : List (Nat × V)} {l : List Ent} {acc : List (Nat × List Nat × List Nat)} {kk : IntKind} {n m : Nat} {b : Bs}
    (hn : AR P ops dr Q os (k + 1) ⟨dn N (putA s d (.sl ((b.drop m).map byB) .ro)), ofl l⟩ ((k, [], []) :: acc)) (hm : m < n) (hb : b.length = n) (hmax : n ≤ maxLen) (ht : arOf P t = some (n, e) := by kernel_rfl) (hz : szOf P e = some 1 := by kernel_rfl)
    (hx : St.ev ⟨dn N s, ofl l⟩ x = .ep (.ag (b.map byB)) 0 := by rfl) (hy : St.ev ⟨dn N s, ofl l⟩ y = .im (.int kk (m : Int)) := by rfl) (hg : gd ops ⟨d, .slice t x (some y) none none, ty, pos, af, g⟩ ⟨dn N s, ofl l⟩ = some true := by rfl) :
    AR P ops dr Q (⟨d, .slice t x (some y) none none, ty, pos, af, g⟩ :: os) k ⟨dn N s, ofl l⟩ acc := AR.stepG (step_slice_ep rfl hx hy ht hz hb hm hmax) hn hg
end Go.Proofs.YtjilcaemoebloaaDoor
