/- The law AstOperands: the text of an operator with two operands consists of the texts of its operands, of which each is in parentheses or not, and of its symbol. -/
import Derived.Test.YtlbfgnpadggbgaaDoorHv
import Derived.Test.YtlbfgnpadggbgaaDoorEB
import Derived.Test.YtlbfgnpadggbgaaDoorQc
namespace Go.Proofs.YtlbfgnpadggbgaaDoor
set_option linter.unusedSimpArgs false
set_option linter.unusedVariables false
set_option linter.unnecessarySimpa false
open Go.RowKit
theorem fitE_two {o : Int} {a b : Ex} (ho : 3 ≤ o ∧ o ≤ 15) (ha : fitE a) (hb : fitE b) : fitE (.mk o 0 ByteArray.empty 0 [a, b]) := by
  have e : fitEB (.mk o 0 ByteArray.empty 0 [a, b]) = _ := Ex.para_mk _ o 0 ByteArray.empty 0 [a, b]
  show fitEB (.mk o 0 ByteArray.empty 0 [a, b]) = true
  rw [e]
  have ha : fitEB a = true := ha
  have hb : fitEB b = true := hb
  have h0 : I64 o ∧ (0 ≤ (0 : Int) ∧ (0 : Int) ≤ 4294967295) ∧ I64 0 := by unfold I64; omega
  simp only [Bool.and_eq_true, Ex.op, Ex.n, Ex.name, Ex.width, Ex.l, List.map_cons, List.map_nil, List.all_cons, List.all_nil, id]
  exact ⟨⟨⟨decide_eq_true h0, by simp⟩, by simp⟩, ha, hb, trivial⟩
theorem Y4_EC : type_of% (And.intro @F_ag_25 (And.intro @F_sz_25 (@F_un_9))) := And.intro @F_ag_25 (And.intro @F_sz_25 (@F_un_9))
set_option maxHeartbeats 4000000 in
theorem c_oper38 (o : Int) (a b : Ex) (hI : I64 o) (ha : fitE a) (hb : fitE b) : PC Tryd.prog 4 [(.im (.int .i64 (o))), exV a, exV b] (.im (.bool (true))) := by
  have qx := c_ex38
  have q1 := c_sizeE a ha 2000 (by decide) (by decide)
  have q2 := c_sizeE b hb 2000 (by decide) (by decide)
  unfold I64 at hI
  by_cases pa : 0 < exn a 2000
  case neg =>
    have pa' : exn a 2000 ≤ 0 := by omega
    refine PC.enter 157 Tryd.func4 rfl (by decide) rfl rfl (s := [(0, (.im (.int .i64 (o)))), (1, exV a), (2, exV b)]) (by rfl) ?_
    refine wG Y4_EC EX ?_
    refine AR.callP q1 @exV_eq (And.intro (@exL_id) @exV_id) ?_
    refine goG Y4_EC (And.intro EX pa') ?_
    refine wG Y4_EC EX ?_
    refine AR.callP qx True.intro (And.intro (@exL_id) @exV_id) ?_
    refine goG Y4_EC True.intro ?_
    refine wG Y4_EC True.intro ?_
    exact Fin.oneP
  have pa' : ¬ exn a 2000 ≤ 0 := by omega
  by_cases pb : 0 < exn b 2000
  case neg =>
    have pb' : exn b 2000 ≤ 0 := by omega
    refine PC.enter 157 Tryd.func4 rfl (by decide) rfl rfl (s := [(0, (.im (.int .i64 (o)))), (1, exV a), (2, exV b)]) (by rfl) ?_
    refine wG Y4_EC EX ?_
    refine AR.callP q1 @exV_eq (And.intro (@exL_id) @exV_id) ?_
    refine goG Y4_EC (And.intro EX pa') ?_
    refine AR.callP q2 @exV_eq (And.intro (@exL_id) @exV_id) ?_
    refine goG Y4_EC (And.intro EX pb') ?_
    refine wG Y4_EC EX ?_
    refine AR.callP qx True.intro (And.intro (@exL_id) @exV_id) ?_
    refine goG Y4_EC True.intro ?_
    refine wG Y4_EC True.intro ?_
    exact Fin.oneP
  have pb' : ¬ exn b 2000 ≤ 0 := by omega
  by_cases o3 : o < 3
  case pos =>
    refine PC.enter 157 Tryd.func4 rfl (by decide) rfl rfl (s := [(0, (.im (.int .i64 (o)))), (1, exV a), (2, exV b)]) (by rfl) ?_
    refine wG Y4_EC EX ?_
    refine AR.callP q1 @exV_eq (And.intro (@exL_id) @exV_id) ?_
    refine goG Y4_EC (And.intro EX pa') ?_
    refine AR.callP q2 @exV_eq (And.intro (@exL_id) @exV_id) ?_
    refine goG Y4_EC (And.intro EX (And.intro pb' o3)) ?_
    refine wG Y4_EC EX ?_
    refine AR.callP qx True.intro (And.intro (@exL_id) @exV_id) ?_
    refine goG Y4_EC True.intro ?_
    refine wG Y4_EC True.intro ?_
    exact Fin.oneP
  by_cases o15 : o > 15
  case pos =>
    refine PC.enter 157 Tryd.func4 rfl (by decide) rfl rfl (s := [(0, (.im (.int .i64 (o)))), (1, exV a), (2, exV b)]) (by rfl) ?_
    refine wG Y4_EC EX ?_
    refine AR.callP q1 @exV_eq (And.intro (@exL_id) @exV_id) ?_
    refine goG Y4_EC (And.intro EX pa') ?_
    refine AR.callP q2 @exV_eq (And.intro (@exL_id) @exV_id) ?_
    refine goG Y4_EC (And.intro EX (And.intro pb' (And.intro o3 o15))) ?_
    refine wG Y4_EC EX ?_
    refine AR.callP qx True.intro (And.intro (@exL_id) @exV_id) ?_
    refine goG Y4_EC True.intro ?_
    refine wG Y4_EC True.intro ?_
    exact Fin.oneP
  have ho : 3 ≤ o ∧ o ≤ 15 := by omega
  have fu := fitE_two ho ha hb
  have qt := c_two o a b
  have la := prE_len (n32_fit a ha) pa (by decide)
  have lb := prE_len (n32_fit b hb) pb (by decide)
  have lu := two_len ho (n32_fit a ha) (n32_fit b hb) pa pb
  have q3 := c_PrintExpr a ha (by omega)
  have q4 := c_PrintExpr b hb (by omega)
  have q5 := c_PrintExpr _ fu (by omega)
  have hlaw := oper_law ho (a := a) (b := b)
  unfold twE at qt
  generalize Ex.mk o 0 ByteArray.empty 0 [a, b] = c at *
  generalize prE a = s at la q3 hlaw
  generalize prE b = t at lb q4 hlaw
  generalize prE c = u at lu q5 hlaw
  cases hs : (s == []) with
  | true =>
    refine PC.enter 157 Tryd.func4 rfl (by decide) rfl rfl (s := [(0, (.im (.int .i64 (o)))), (1, exV a), (2, exV b)]) (by rfl) ?_
    refine wG Y4_EC EX ?_
    refine AR.callP q1 @exV_eq (And.intro (@exL_id) @exV_id) ?_
    refine goG Y4_EC (And.intro EX pa') ?_
    refine AR.callP q2 @exV_eq (And.intro (@exL_id) @exV_id) ?_
    refine goG Y4_EC (And.intro EX (And.intro pb' (And.intro o3 o15))) ?_
    refine wdG Y4_EC EX ?_
    refine AR.callP q3 @exV_eq (And.intro (@exL_id) @exV_id) ?_
    refine goG Y4_EC EX ?_
    refine AR.callP q4 @exV_eq (And.intro (@exL_id) @exV_id) ?_
    refine goG Y4_EC EX ?_
    refine AR.callP qt @exV_eq (And.intro (@exL_id) @exV_id) ?_
    refine goG Y4_EC EX ?_
    refine AR.callP q5 @exV_eq (And.intro (@exL_id) @exV_id) ?_
    refine goG Y4_EC EX ?_
    refine wdG Y4_EC (And.intro BY hs) ?_
    refine AR.callP qx True.intro (And.intro (@exL_id) @exV_id) ?_
    refine goG Y4_EC True.intro ?_
    refine wG Y4_EC True.intro ?_
    exact Fin.oneP
  | false =>
  cases ht : (t == []) with
  | true =>
    refine PC.enter 157 Tryd.func4 rfl (by decide) rfl rfl (s := [(0, (.im (.int .i64 (o)))), (1, exV a), (2, exV b)]) (by rfl) ?_
    refine wG Y4_EC EX ?_
    refine AR.callP q1 @exV_eq (And.intro (@exL_id) @exV_id) ?_
    refine goG Y4_EC (And.intro EX pa') ?_
    refine AR.callP q2 @exV_eq (And.intro (@exL_id) @exV_id) ?_
    refine goG Y4_EC (And.intro EX (And.intro pb' (And.intro o3 o15))) ?_
    refine wdG Y4_EC EX ?_
    refine AR.callP q3 @exV_eq (And.intro (@exL_id) @exV_id) ?_
    refine goG Y4_EC EX ?_
    refine AR.callP q4 @exV_eq (And.intro (@exL_id) @exV_id) ?_
    refine goG Y4_EC EX ?_
    refine AR.callP qt @exV_eq (And.intro (@exL_id) @exV_id) ?_
    refine goG Y4_EC EX ?_
    refine AR.callP q5 @exV_eq (And.intro (@exL_id) @exV_id) ?_
    refine goG Y4_EC EX ?_
    refine wdG Y4_EC (And.intro BY (And.intro hs ht)) ?_
    refine AR.callP qx True.intro (And.intro (@exL_id) @exV_id) ?_
    refine goG Y4_EC True.intro ?_
    refine wG Y4_EC True.intro ?_
    exact Fin.oneP
  | false =>
  cases hu : (u == []) with
  | true =>
    refine PC.enter 157 Tryd.func4 rfl (by decide) rfl rfl (s := [(0, (.im (.int .i64 (o)))), (1, exV a), (2, exV b)]) (by rfl) ?_
    refine wG Y4_EC EX ?_
    refine AR.callP q1 @exV_eq (And.intro (@exL_id) @exV_id) ?_
    refine goG Y4_EC (And.intro EX pa') ?_
    refine AR.callP q2 @exV_eq (And.intro (@exL_id) @exV_id) ?_
    refine goG Y4_EC (And.intro EX (And.intro pb' (And.intro o3 o15))) ?_
    refine wdG Y4_EC EX ?_
    refine AR.callP q3 @exV_eq (And.intro (@exL_id) @exV_id) ?_
    refine goG Y4_EC EX ?_
    refine AR.callP q4 @exV_eq (And.intro (@exL_id) @exV_id) ?_
    refine goG Y4_EC EX ?_
    refine AR.callP qt @exV_eq (And.intro (@exL_id) @exV_id) ?_
    refine goG Y4_EC EX ?_
    refine AR.callP q5 @exV_eq (And.intro (@exL_id) @exV_id) ?_
    refine goG Y4_EC EX ?_
    refine wdG Y4_EC (And.intro BY (And.intro hs (And.intro ht hu))) ?_
    refine AR.callP qx True.intro (And.intro (@exL_id) @exV_id) ?_
    refine goG Y4_EC True.intro ?_
    refine wG Y4_EC True.intro ?_
    exact Fin.oneP
  | false =>
  have hL := hlaw (fun e => by rw [e] at hs; cases hs) (fun e => by rw [e] at ht; cases ht) (fun e => by rw [e] at hu; cases hu)
  clear hlaw
  have h3 := hL.h3
  have h9 := hL.h9
  have s1 := hL.s1
  have t1 := hL.t1
  have i1 : (u.length : Int) ≥ (s.length : Int) := by omega
  have i2 : (u.length : Int) ≥ (t.length : Int) := by omega
  have i1' : (s.length : Int) ≤ (u.length : Int) := by omega
  have w1 : IntKind.i64.wrap ((u.length : Int) - (t.length : Int)) = ((u.length - t.length : Nat) : Int) := by rw [wrap_in (by omega)]; omega
  have i3 : ((u.length - t.length : Nat) : Int) ≤ (u.length : Int) := by omega
  have i4 : (u.length : Int) > 0 := by omega
  have i4' : 0 < (u.length : Int) := by omega
  obtain ⟨L0, hL0⟩ : ∃ L0, (u.take s.length == s) = L0 := ⟨_, rfl⟩
  have hTk : List.take (u.length - (u.length - t.length)) (List.drop (u.length - t.length) u) = List.drop (u.length - t.length) u := List.take_of_length_le (by rw [List.length_drop]; omega)
  obtain ⟨R0, hR0⟩ : ∃ R0, (u.drop (u.length - t.length) == t) = R0 := ⟨_, rfl⟩
  obtain ⟨c0, hc0⟩ : ∃ c0, u[0]? = some c0 := ⟨_, List.getElem?_eq_getElem (by omega)⟩
  refine PC.enter 157 Tryd.func4 rfl (by decide) rfl rfl (s := [(0, (.im (.int .i64 (o)))), (1, exV a), (2, exV b)]) (by rfl) ?_
  refine wG Y4_EC EX ?_
  refine AR.callP q1 @exV_eq (And.intro (@exL_id) @exV_id) ?_
  refine goG Y4_EC (And.intro EX pa') ?_
  refine AR.callP q2 @exV_eq (And.intro (@exL_id) @exV_id) ?_
  refine goG Y4_EC (And.intro EX (And.intro pb' (And.intro o3 o15))) ?_
  refine wdG Y4_EC EX ?_
  refine AR.callP q3 @exV_eq (And.intro (@exL_id) @exV_id) ?_
  refine goG Y4_EC EX ?_
  refine AR.callP q4 @exV_eq (And.intro (@exL_id) @exV_id) ?_
  refine goG Y4_EC EX ?_
  refine AR.callP qt @exV_eq (And.intro (@exL_id) @exV_id) ?_
  refine goG Y4_EC EX ?_
  refine AR.callP q5 @exV_eq (And.intro (@exL_id) @exV_id) ?_
  refine goG Y4_EC EX ?_
  refine wdG Y4_EC (And.intro BY (And.intro hs (And.intro ht (And.intro hu (And.intro GDS (And.intro i1 (And.intro i2 (And.intro i1' (And.intro w1 (And.intro i3 (And.intro hL0 (And.intro hTk hR0)))))))))))) ?_
  refine AWp.cutP 0 [(6, (.im (.bool (false)))), (7, .im (.string ⟨(s).toArray⟩)), (8, .im (.string ⟨(t).toArray⟩)), (9, .im (.string ⟨(u).toArray⟩)), (10, (.im (.bool (L0)))), (11, (.im (.bool (R0))))] [] (And.intro (@exL_id) @exV_id) ?_
  have v1 : IntKind.i64.wrap ((s.length : Int) + 2) = ((s.length + 2 : Nat) : Int) := by rw [wrap_in (by omega)]; omega
  have v2 : (u.length : Int) ≥ ((s.length + 2 : Nat) : Int) := by omega
  have v3 : IntKind.i64.wrap ((s.length : Int) + 1) = ((s.length + 1 : Nat) : Int) := by rw [wrap_in (by omega)]; omega
  have v4 : (1 : Int) ≤ ((s.length + 1 : Nat) : Int) := by omega
  have v5 : ((s.length + 1 : Nat) : Int) ≤ (u.length : Int) := by omega
  have v6 : s.length + 1 - 1 = s.length := by omega
  have r1 : IntKind.i64.wrap ((t.length : Int) + 2) = ((t.length + 2 : Nat) : Int) := by rw [wrap_in (by omega)]; omega
  have r2 : (u.length : Int) ≥ ((t.length + 2 : Nat) : Int) := by omega
  have r3 : IntKind.i64.wrap ((u.length : Int) - 1) = ((u.length - 1 : Nat) : Int) := by rw [wrap_in (by omega)]; omega
  have r4 : IntKind.i64.wrap (((u.length - 1 : Nat) : Int) - (t.length : Int)) = ((u.length - 1 - t.length : Nat) : Int) := by rw [wrap_in (by omega)]; omega
  have r5 : ((u.length - 1 - t.length : Nat) : Int) ≤ ((u.length - 1 : Nat) : Int) := by omega
  have r6 : ((u.length - 1 : Nat) : Int) ≤ (u.length : Int) := by omega
  have r7 : u.length - 1 - (u.length - 1 - t.length) = t.length := by omega
  have x1 : IntKind.i64.wrap ((s.length : Int) + (t.length : Int)) = ((s.length + t.length : Nat) : Int) := by rw [wrap_in (by omega)]; omega
  have x2 : IntKind.i64.wrap (((s.length + t.length : Nat) : Int) + 3) = ((s.length + t.length + 3 : Nat) : Int) := by rw [wrap_in (by omega)]; omega
  have x3 : (u.length : Int) ≥ ((s.length + t.length + 3 : Nat) : Int) := by omega
  have x4 : IntKind.i64.wrap (((s.length + t.length : Nat) : Int) + 9) = ((s.length + t.length + 9 : Nat) : Int) := by rw [wrap_in (by omega)]; omega
  have x5 : (u.length : Int) ≤ ((s.length + t.length + 9 : Nat) : Int) := by omega
  cases hL1 : L0 with
  | true =>
    by_cases hc : c0.toNat = 40
    · have e1 : (c0.toNat : Int) = 40 := by omega
      cases hR1 : R0 with
      | true =>
        rw [hR1] at hR0
        refine wG Y4_EC (And.intro BY (And.intro GDS (And.intro i4 (And.intro i4' (And.intro hc0 (And.intro e1 (And.intro x1 (And.intro x2 (And.intro x3 (And.intro x4 x5)))))))))) ?_
        refine AR.callP qx True.intro (And.intro (@exL_id) @exV_id) ?_
        refine goG Y4_EC True.intro ?_
        refine wG Y4_EC True.intro ?_
        exact Fin.oneP
      | false =>
        have hr1 := hL.right (hR0.trans hR1)
        refine wG Y4_EC (And.intro BY (And.intro GDS (And.intro i4 (And.intro i4' (And.intro hc0 (And.intro e1 (And.intro r1 (And.intro r2 (And.intro r3 (And.intro r4 (And.intro r5 (And.intro r6 (And.intro r7 (And.intro hr1 (And.intro x1 (And.intro x2 (And.intro x3 (And.intro x4 x5)))))))))))))))))) ?_
        refine AR.callP qx True.intro (And.intro (@exL_id) @exV_id) ?_
        refine goG Y4_EC True.intro ?_
        refine wG Y4_EC True.intro ?_
        exact Fin.oneP
    · have e1 : ¬ (c0.toNat : Int) = 40 := by omega
      cases hR1 : R0 with
      | true =>
        rw [hR1] at hR0
        refine wG Y4_EC (And.intro BY (And.intro GDS (And.intro i4 (And.intro i4' (And.intro hc0 (And.intro e1 (And.intro x1 (And.intro x2 (And.intro x3 (And.intro x4 x5)))))))))) ?_
        refine AR.callP qx True.intro (And.intro (@exL_id) @exV_id) ?_
        refine goG Y4_EC True.intro ?_
        refine wG Y4_EC True.intro ?_
        exact Fin.oneP
      | false =>
        have hr1 := hL.right (hR0.trans hR1)
        refine wG Y4_EC (And.intro BY (And.intro GDS (And.intro i4 (And.intro i4' (And.intro hc0 (And.intro e1 (And.intro r1 (And.intro r2 (And.intro r3 (And.intro r4 (And.intro r5 (And.intro r6 (And.intro r7 (And.intro hr1 (And.intro x1 (And.intro x2 (And.intro x3 (And.intro x4 x5)))))))))))))))))) ?_
        refine AR.callP qx True.intro (And.intro (@exL_id) @exV_id) ?_
        refine goG Y4_EC True.intro ?_
        refine wG Y4_EC True.intro ?_
        exact Fin.oneP
  | false =>
    obtain ⟨g1, g2⟩ := hL.left (hL0.trans hL1)
    obtain rfl : (40 : UInt8) = c0 := Option.some.inj (g1.symm.trans hc0)
    have e1 : ((40 : UInt8).toNat : Int) = 40 := rfl
    cases hR1 : R0 with
    | true =>
      rw [hR1] at hR0
      refine wG Y4_EC (And.intro BY (And.intro GDS (And.intro i4 (And.intro i4' (And.intro hc0 (And.intro e1 (And.intro g2 (And.intro v1 (And.intro v2 (And.intro v3 (And.intro v4 (And.intro v5 (And.intro v6 (And.intro x1 (And.intro x2 (And.intro x3 (And.intro x4 x5))))))))))))))))) ?_
      refine AR.callP qx True.intro (And.intro (@exL_id) @exV_id) ?_
      refine goG Y4_EC True.intro ?_
      refine wG Y4_EC True.intro ?_
      exact Fin.oneP
    | false =>
      have hr1 := hL.right (hR0.trans hR1)
      refine wG Y4_EC (And.intro BY (And.intro GDS (And.intro i4 (And.intro i4' (And.intro hc0 (And.intro e1 (And.intro g2 (And.intro v1 (And.intro v2 (And.intro v3 (And.intro v4 (And.intro v5 (And.intro v6 (And.intro r1 (And.intro r2 (And.intro r3 (And.intro r4 (And.intro r5 (And.intro r6 (And.intro r7 (And.intro hr1 (And.intro x1 (And.intro x2 (And.intro x3 (And.intro x4 x5))))))))))))))))))))))))) ?_
      refine AR.callP qx True.intro (And.intro (@exL_id) @exV_id) ?_
      refine goG Y4_EC True.intro ?_
      refine wG Y4_EC True.intro ?_
      exact Fin.oneP
end Go.Proofs.YtlbfgnpadggbgaaDoor

