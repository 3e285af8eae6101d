/- Values as trees: what a value is, apart from where it lies. 'R C x v': in the memory that C tells of, the value v is the tree x. Facts of this kind survive whatever a call may do ('Ev'). -/
import Derived.WalkKit
import Derived.Orders
import Derived.OrdersIn
import Derived.ControlIn
import Derived.Laws.ResultCell
import Derived.RangeFuncLeaves
import Derived.RangeFuncRecord
import Derived.DataElems

namespace Go.Proofs.Ytfggemopnlffeaa
set_option linter.unusedSimpArgs false
set_option linter.unusedVariables false
set_option linter.unnecessarySimpa false
open Go.RowKit

/-- What is known of a slice besides its elements: nothing · its capacity is its length · it may be appended to, by the token id. -/
inductive Slk where
  | ro | full | nl | nn | nz | own (id : Nat)

/-- A value as a tree. 'gi b x': x, if b; 'pt': a pointer to a cell of box id; 'bs': a slice of n elements that lie in box id; 'ep': a pointer to a part of an element that nobody writes to. -/
inductive V where
  | im (v : Value)
  | ag (cs : List V)
  | tu (vs : List V)
  | sl (es : List V) (k : Slk)
  | pt (id off : Nat)
  | itr (id : Nat)
  | bs (id n : Nat)
  | ep (x : V) (off : Nat)
  | fn (f : Fn) (first captured : List V)
  | gi (b : Bool) (x : V)
  | dead
  deriving Inhabited

def V.cells : V → List V
  | .ag cs => cs
  | x => [x]
/-- Something is known of it. -/
def V.firm : V → Bool
  | .gi _ _ => false
  | .dead => false
  | _ => true
def V.size (x : V) : Nat := x.cells.length

/-- What may be written to: a box of cells; the spare places behind a slice of n elements of z cells; a walk over a string. -/
inductive Ent where
  | free
  | box (cs : List V)
  | tip (e : TypeId) (z n : Nat)
  | iter (s : ByteArray) (pos : Nat)

/-- Where boxes and tokens lie; what they hold; what is not to be spoken of; the world. -/
structure Cf where
  σ : Nat → Option Nat
  st : Nat → Ent
  av : Nat → Nat → Prop
  w : World

/-- Nobody writes to this place. -/
def Cf.fix (C : Cf) (b o : Nat) : Prop :=
  ¬ C.av b o ∧ ∀ i, C.σ i = some b → (C.st i = .free ∨ ∃ e z n, C.st i = .tip e z n ∧ o < n * z)
def Cf.rd (C : Cf) (a : Addr) (v : Value) : Prop := C.w.cell? a = some v ∧ C.fix a.block a.off

/-- The spare places behind a slice of len elements. -/
def OwnAt (C : Cf) (id : Nat) (e : TypeId) (a : Option Addr) (len cap z : Nat) : Prop :=
  (C.σ id = none ∧ cap = len) ∨ ∃ g cur, C.σ id = some g ∧ a = some ⟨g, 0, none⟩ ∧ C.w.heap[g]? = some (.cells cur e (0, 0)) ∧ cur.size = cap * z
def KO (C : Cf) (k : Slk) (a : Option Addr) (len cap z : Nat) : Prop :=
  match k with
  | .ro => True
  | .full => cap = len
  | .nl => a = none ∧ cap = len
  | .nn => a ≠ none
  | .nz => a = none
  | .own id => ∃ e n, C.st id = .tip e z n ∧ len ≤ n ∧ (len = n → OwnAt C id e a len cap z)

inductive R (C : Cf) : V → Value → Prop
  | im {v : Value} (h : v.oneCell' = true) : R C (.im v) v
  | ag {cs : List V} {us : Array Value} (hn : us.size = cs.length) (h1 : ∀ i, i < cs.length → (us.getD i undef).oneCell' = true)
      (h : ∀ i (hi : i < cs.length), R C cs[i] (us.getD i undef)) : R C (.ag cs) (.agg us)
  | tu {cs : List V} {us : Array Value} (hn : us.size = cs.length) (h : ∀ i (hi : i < cs.length), R C cs[i] (us.getD i undef)) : R C (.tu cs) (.tuple us)
  | sl {es : List V} {k : Slk} {a : Option Addr} {cap z : Nat} {u : Nat → Value} (hc : es.length ≤ cap) (hm : cap ≤ maxLen)
      (hz : ∀ i (hi : i < es.length), es[i].size = z ∧ (u i).cells.size = z) (h : ∀ i (hi : i < es.length), R C es[i] (u i))
      (hr : ∀ i, i < es.length → ∃ ad, a = some ad ∧ ∀ j c, (u i).cells[j]? = some c → C.rd ((ad.add (i * z)).add j) c)
      (hk : KO C k a es.length cap z) : R C (.sl es k) (.slice a es.length cap)
  | pt {id off g : Nat} {cs : List V} (h : C.σ id = some g) (hb : C.st id = .box cs) : R C (.pt id off) (.pointer (some ⟨g, off, none⟩))
  | itr {id g : Nat} {s : ByteArray} {pos : Nat} (h : C.σ id = some g) (hb : C.st id = .iter s pos) : R C (.itr id) (.pointer (some ⟨g, 0, none⟩))
  | bs {id n g cap : Nat} {cs : List V} (h : C.σ id = some g) (hb : C.st id = .box cs) (hc : n ≤ cap) (hm : cap ≤ maxLen) : R C (.bs id n) (.slice (some ⟨g, 0, none⟩) n cap)
  | ep {x : V} {off : Nat} {ad : Addr} {u : Value} (h : R C x u) (hz : u.cells.size = x.size) (hr : ∀ j c, u.cells[j]? = some c → C.rd (ad.add j) c) :
      R C (.ep x off) (.pointer (some (ad.add off)))
  | fn {f : Fn} {xs ys : List V} {us vs : Array Value} (h1 : us.size = xs.length) (h2 : vs.size = ys.length) (h3 : ∀ i (hi : i < xs.length), R C xs[i] (us.getD i undef))
      (h4 : ∀ i (hi : i < ys.length), R C ys[i] (vs.getD i undef)) : R C (.fn f xs ys) (.func f us vs)
  | gi {b : Bool} {x : V} {v : Value} (h : b = true → R C x v) (h0 : b = false → v = undef) : R C (.gi b x) v
  | dead {v : Value} : R C .dead v

/-- What a step or a call may do: D comes behind C. -/
structure Ev (C D : Cf) : Prop where
  os : D.w.os = C.w.os
  tape : D.w.tape = C.w.tape
  output : D.w.output = C.w.output
  size : C.w.heap.size ≤ D.w.heap.size
  av : D.av = C.av
  rd : ∀ a v, C.rd a v → D.rd a v
  box : ∀ i cs, C.st i = .box cs → D.σ i = C.σ i ∧ ∃ cs', D.st i = .box cs'
  tip : ∀ i e z n, C.st i = .tip e z n → ∃ n', D.st i = .tip e z n' ∧ n ≤ n' ∧
    (n' = n → D.σ i = C.σ i ∧ ∀ g cur, C.σ i = some g → C.w.heap[g]? = some (.cells cur e (0, 0)) → ∃ cur', D.w.heap[g]? = some (.cells cur' e (0, 0)) ∧ cur'.size = cur.size)
  itr : ∀ i s p, C.st i = .iter s p → D.σ i = C.σ i ∧ ∃ s' p', D.st i = .iter s' p'
  keep : ∀ b, b < C.w.heap.size → (∀ i, C.σ i = some b → C.st i = .free) → D.w.heap[b]? = C.w.heap[b]?
  fresh : ∀ i b, D.st i ≠ .free → D.σ i = some b → (C.st i ≠ .free ∧ C.σ i = some b) ∨ C.w.heap.size ≤ b

theorem Ev.refl (C : Cf) : Ev C C where
  os := rfl
  tape := rfl
  output := rfl
  size := Nat.le_refl _
  av := rfl
  rd := fun _ _ h => h
  box := fun _ cs h => ⟨rfl, cs, h⟩
  tip := fun _ _ _ n h => ⟨n, h, Nat.le_refl _, fun _ => ⟨rfl, fun _ cur _ h => ⟨cur, h, rfl⟩⟩⟩
  itr := fun _ s p h => ⟨rfl, s, p, h⟩
  keep := fun _ _ _ => rfl
  fresh := fun _ _ h h' => .inl ⟨h, h'⟩

theorem Ev.trans {C D E : Cf} (h : Ev C D) (k : Ev D E) : Ev C E where
  os := k.os.trans h.os
  tape := k.tape.trans h.tape
  output := k.output.trans h.output
  size := Nat.le_trans h.size k.size
  av := k.av.trans h.av
  rd := fun a v hr => k.rd a v (h.rd a v hr)
  box := fun i cs hb => by
    obtain ⟨h1, cs1, h2⟩ := h.box i cs hb
    obtain ⟨h3, cs2, h4⟩ := k.box i cs1 h2
    exact ⟨h3.trans h1, cs2, h4⟩
  tip := fun i e z n ht => by
    obtain ⟨n1, h1, h2, h3⟩ := h.tip i e z n ht
    obtain ⟨n2, k1, k2, k3⟩ := k.tip i e z n1 h1
    refine ⟨n2, k1, Nat.le_trans h2 k2, fun he => ?_⟩
    obtain ⟨h4, h5⟩ := h3 (by omega)
    obtain ⟨k4, k5⟩ := k3 (by omega)
    refine ⟨k4.trans h4, fun g cur hg hc => ?_⟩
    obtain ⟨cur1, h6, h7⟩ := h5 g cur hg hc
    obtain ⟨cur2, k6, k7⟩ := k5 g cur1 (h4.trans hg) h6
    exact ⟨cur2, k6, k7.trans h7⟩
  itr := fun i s p hb => by
    obtain ⟨h1, s1, p1, h2⟩ := h.itr i s p hb
    obtain ⟨h3, s2, p2, h4⟩ := k.itr i s1 p1 h2
    exact ⟨h3.trans h1, s2, p2, h4⟩
  keep := fun b hb hf => by
    rw [k.keep b (Nat.lt_of_lt_of_le hb h.size) (fun i hi => ?_)]
    · exact h.keep b hb hf
    · by_cases hD : D.st i = .free
      · exact hD
      · rcases h.fresh i b hD hi with ⟨h1, h2⟩ | h1
        · exact absurd (hf i h2) h1
        · omega
  fresh := fun i b he hs => by
    rcases k.fresh i b he hs with ⟨h1, h2⟩ | h1
    · exact h.fresh i b h1 h2
    · exact .inr (Nat.le_trans h.size h1)

theorem KO.mono {C D : Cf} (he : Ev C D) {k : Slk} {a : Option Addr} {len cap z : Nat} (h : KO C k a len cap z) : KO D k a len cap z := by
  cases k with
  | ro => trivial
  | full => exact h
  | nl => exact h
  | nn => exact h
  | nz => exact h
  | own id =>
    obtain ⟨e, n, h1, h2, h3⟩ := h
    obtain ⟨n', h4, h5, h6⟩ := he.tip id e z n h1
    refine ⟨e, n', h4, Nat.le_trans h2 h5, fun hl => ?_⟩
    obtain ⟨h7, h8⟩ := h6 (by omega)
    rcases h3 (by omega) with ⟨k1, k2⟩ | ⟨g, cur, k1, k2, k3, k4⟩
    · exact .inl ⟨h7.trans k1, k2⟩
    · obtain ⟨cur', k5, k6⟩ := h8 g cur k1 k3
      exact .inr ⟨g, cur', h7.trans k1, k2, k5, k6.trans k4⟩

theorem R.mono {C D : Cf} (he : Ev C D) {x : V} {v : Value} (h : R C x v) : R D x v := by
  induction h with
  | im h => exact .im h
  | ag hn h1 _ ih => exact .ag hn h1 ih
  | tu hn _ ih => exact .tu hn ih
  | sl hc hm hz _ hr hk ih =>
    refine .sl hc hm hz ih (fun i hi => ?_) (hk.mono he)
    obtain ⟨ad, h1, h2⟩ := hr i hi
    exact ⟨ad, h1, fun j c hj => he.rd _ _ (h2 j c hj)⟩
  | pt h hb =>
    obtain ⟨h1, cs', h2⟩ := he.box _ _ hb
    exact .pt (h1.trans h) h2
  | bs h hb hc hm =>
    obtain ⟨h1, cs', h2⟩ := he.box _ _ hb
    exact .bs (h1.trans h) h2 hc hm
  | itr h hb =>
    obtain ⟨h1, s', p', h2⟩ := he.itr _ _ _ hb
    exact .itr (h1.trans h) h2
  | ep _ hz hr ih => exact .ep ih hz fun j c hj => he.rd _ _ (hr j c hj)
  | fn h1 h2 _ _ ih1 ih2 => exact .fn h1 h2 ih1 ih2
  | gi _ h0 ih => exact .gi ih h0
  | dead => exact .dead

/-- Package-level variables that hold some integer, whatever it is. -/
def glL : List Addr := [⟨0, 0, none⟩]
def Cf.known (C : Cf) : Prop := ∀ a ∈ glL, ∃ m : Int, C.rd a (.int .i64 m)
theorem Cf.known.mono {C D : Cf} (h : C.known) (he : Ev C D) : D.known := fun a ha => by
  obtain ⟨m, h1⟩ := h a ha
  exact ⟨m, he.rd _ _ h1⟩
/-- What the memory is like. -/
structure Ok (C : Cf) : Prop where
  box : ∀ i cs, C.st i = .box cs → ∃ g bs t, C.σ i = some g ∧ C.w.heap[g]? = some (.cells bs t (0, 0)) ∧ cs.length ≤ bs.size ∧
    (∀ j, j < cs.length → (bs.getD j undef).oneCell' = true) ∧ ∀ j (hj : j < cs.length), R C cs[j] (bs.getD j undef)
  tip : ∀ i e z n g, C.st i = .tip e z n → C.σ i = some g → ∃ cur, C.w.heap[g]? = some (.cells cur e (0, 0)) ∧ n * z ≤ cur.size ∧ ∀ o, ¬ C.av g o
  iter : ∀ i s p, C.st i = .iter s p → ∃ g, C.σ i = some g ∧ C.w.heap[g]? = some (.stringIter s p)
  inj : ∀ i j g, C.st i ≠ .free → C.st j ≠ .free → C.σ i = some g → C.σ j = some g → i = j
  avl : ∀ b o, C.av b o → b < C.w.heap.size
  bav : ∀ i cs g o, C.st i = .box cs → C.σ i = some g → ¬ C.av g o
  gl : C.known

theorem Ok.lt {C : Cf} (h : Ok C) {i b : Nat} (hi : C.st i ≠ .free) (hs : C.σ i = some b) : b < C.w.heap.size := by
  cases he : C.st i with
  | free => exact absurd he hi
  | box cs =>
    obtain ⟨g, bs, t, h1, h2, _⟩ := h.box i cs he
    obtain rfl : g = b := Option.some.inj (h1.symm.trans hs)
    exact (Array.getElem?_eq_some_iff.1 h2).1
  | tip e z n =>
    obtain ⟨cur, h2, _⟩ := h.tip i e z n b he hs
    exact (Array.getElem?_eq_some_iff.1 h2).1
  | iter s p =>
    obtain ⟨g, h1, h2⟩ := h.iter i s p he
    obtain rfl : g = b := Option.some.inj (h1.symm.trans hs)
    exact (Array.getElem?_eq_some_iff.1 h2).1

theorem R.cells_size {C : Cf} {x : V} {v : Value} (h : R C x v) (hd : x.firm = true) : v.cells.size = x.size := by
  cases h with
  | im h => cases ‹Value› <;> first | rfl | simp [Value.oneCell'] at h
  | ag hn => simpa [Value.cells, V.size, V.cells] using hn
  | dead => cases hd
  | gi => cases hd
  | _ => rfl
theorem R.cells {C : Cf} {x : V} {v : Value} (h : R C x v) (hd : x.firm = true) : ∀ j (hj : j < x.cells.length), R C x.cells[j] (v.cells.getD j undef) := by
  intro j hj
  cases h with
  | ag hn h1 h => exact h j hj
  | dead => cases hd
  | gi => cases hd
  | im h =>
    obtain rfl : j = 0 := by simpa [V.cells] using hj
    cases ‹Value› <;> first | exact .im h | simp [Value.oneCell'] at h
  | tu hn h => 
    obtain rfl : j = 0 := by simpa [V.cells] using hj
    exact .tu hn h
  | sl hc hm hz h hr hk =>
    obtain rfl : j = 0 := by simpa [V.cells] using hj
    exact .sl hc hm hz h hr hk
  | pt h hb =>
    obtain rfl : j = 0 := by simpa [V.cells] using hj
    exact .pt h hb
  | bs h hb hc hm =>
    obtain rfl : j = 0 := by simpa [V.cells] using hj
    exact .bs h hb hc hm
  | itr h hb =>
    obtain rfl : j = 0 := by simpa [V.cells] using hj
    exact .itr h hb
  | ep h hz hr =>
    obtain rfl : j = 0 := by simpa [V.cells] using hj
    exact .ep h hz hr
  | fn h1 h2 h3 h4 =>
    obtain rfl : j = 0 := by simpa [V.cells] using hj
    exact .fn h1 h2 h3 h4

end Go.Proofs.Ytfggemopnlffeaa
/- Steps of operations on trees, told by what they touch alone ('Step'); a region whose operations may come in many orders: whoever touches what another writes must come behind it by an edge ('chkR'): then every order ends where the text's order ends. -/
namespace Go.Proofs.Ytfggemopnlffeaa
set_option linter.unusedSimpArgs false
set_option linter.unusedVariables false
set_option linter.unnecessarySimpa false
open Go.RowKit

/-- No fence; within a round of a range over a function, or not. -/
def FR (ro : Option Nat) : Fence := { Fence.wide with round := ro }
variable {B : Option Nat}

def upd (st : Nat → Ent) (i : Nat) (e : Ent) : Nat → Ent := fun j => if j = i then e else st j
def wrs (st : Nat → Ent) : List (Nat × Ent) → (Nat → Ent)
  | [] => st
  | p :: l => wrs (upd st p.1 p.2) l
theorem wrs_other {l : List (Nat × Ent)} {j : Nat} (h : j ∉ l.map Prod.fst) : ∀ st, wrs st l j = st j := by
  induction l with
  | nil => intro st; rfl
  | cons p l ih =>
    intro st
    simp only [List.map_cons, List.mem_cons, not_or] at h
    rw [wrs, ih h.2]
    simp [upd, h.1]
theorem wrs_upd {l : List (Nat × Ent)} {i : Nat} (e : Ent) (h : i ∉ l.map Prod.fst) : ∀ st, wrs (upd st i e) l = upd (wrs st l) i e := by
  induction l with
  | nil => intro st; rfl
  | cons p l ih =>
    intro st
    simp only [List.map_cons, List.mem_cons, not_or] at h
    have : upd (upd st i e) p.1 p.2 = upd (upd st p.1 p.2) i e := by
      funext j
      unfold upd
      by_cases h1 : j = i <;> by_cases h2 : j = p.1 <;> simp_all
    rw [wrs, wrs, this, ih h.2]
theorem wrs_comm {l m : List (Nat × Ent)} (h : ∀ i ∈ l.map Prod.fst, i ∉ m.map Prod.fst) : ∀ st, wrs (wrs st l) m = wrs (wrs st m) l := by
  induction l with
  | nil => intro st; rfl
  | cons p l ih =>
    intro st
    rw [wrs, wrs, ih (fun i hi => h i (by simp only [List.map_cons]; exact List.mem_cons_of_mem _ hi)), wrs_upd _ (h p.1 (by simp))]

/-- The state of a function that runs: its slots, what it may write to. -/
structure St where
  s : List V
  st : Nat → Ent

def V.ofCell : Value → V
  | .slice none 0 0 => .sl [] .nl
  | .agg _ => .dead
  | .tuple _ => .dead
  | v => .im v
def V.ofVal : Value → V
  | .agg cs => if cs.all Value.oneCell' then .ag (cs.toList.map V.ofCell) else .dead
  | v => .ofCell v
def St.ev (A : St) : Operand → V
  | .tmp t => A.s.getD t .dead
  | .const v => .ofVal v
  | .global g => .im (.pointer (some ⟨g, 0, none⟩))
  | .func f => .fn (.func f) [] []
def St.put (A : St) (d : Option Tmp) (v : V) : St :=
  match d with
  | some d => { A with s := A.s.set d v }
  | none => A
structure Eff where
  v : V
  wr : List (Nat × Ent)
def St.app (A : St) (d : Option Tmp) (e : Eff) : St := ⟨(A.put d e.v).s, wrs A.st e.wr⟩
theorem St.app_s (A : St) (d : Option Tmp) (e : Eff) : (A.app d e).s = (A.put d e.v).s := rfl
theorem St.app_st (A : St) (d : Option Tmp) (e : Eff) : (A.app d e).st = wrs A.st e.wr := rfl

theorem St.ev_put {A : St} {d : Option Tmp} {v : V} {x : Operand} (h : ∀ t, d = some t → x ≠ .tmp t) : (A.put d v).ev x = A.ev x := by
  cases d with
  | none => rfl
  | some t =>
    cases x with
    | tmp u =>
      have hne : t ≠ u := fun e => h t rfl (e ▸ rfl)
      simp [St.ev, St.put, List.getD, List.getElem?_set_ne hne]
    | _ => rfl
theorem St.ev_app {A : St} {d : Option Tmp} {e : Eff} {x : Operand} (h : ∀ t, d = some t → x ≠ .tmp t) : (A.app d e).ev x = A.ev x := by
  rw [← St.ev_put (A := A) (d := d) (v := e.v) h]
  cases x <;> rfl
theorem St.app_comm (A : St) {x y : Option Tmp} (e f : Eff) (h : ∀ t, x = some t → y ≠ some t) (hw : ∀ i ∈ e.wr.map Prod.fst, i ∉ f.wr.map Prod.fst) :
    (A.app x e).app y f = (A.app y f).app x e := by
  have h1 : ((A.app x e).put y f.v).s = ((A.app y f).put x e.v).s := by
    cases x with
    | none => cases y <;> rfl
    | some t =>
      cases y with
      | none => rfl
      | some u =>
        have hne : t ≠ u := fun he => h t rfl (he ▸ rfl)
        simp only [St.app, St.put]
        exact List.set_comm _ _ hne
  unfold St.app at *
  simp only [St.mk.injEq]
  exact ⟨h1, wrs_comm hw _⟩

/-- D comes behind C, holds st, and v is x. -/
def Good (C : Cf) (st : Nat → Ent) (x : V) (w : World) (v : Value) : Prop := ∃ D : Cf, D.w = w ∧ D.st = st ∧ Ok D ∧ Ev C D ∧ R D x v

/-- What an operation does whose operands are the trees 'ev', where the boxes and tokens that it touches are fp. -/
def Step (P : Program) (o : Oper) (ev : Operand → V) (fp : List (Nat × Ent)) (d : Eff) : Prop :=
  ∀ (C : Cf) (ρ : Operand → Value), Ok C → (∀ x ∈ o.op.operands, R C (ev x) (ρ x)) → (∀ p ∈ fp, C.st p.1 = p.2) →
    match (execOp ρ o).run P C.w with
    | .ok (.value v) w' => Good C (wrs C.st d.wr) d.v w' v
    | .ok .skip w' => Good C (wrs C.st d.wr) d.v w' undef
    | .ok (.enter f args) w' => Calls P f args w' fun e w'' => ∃ v, e = .returned v ∧ Good C (wrs C.st d.wr) d.v w'' v
    | _ => False
theorem Step.congr {P : Program} {o : Oper} {ev ev' : Operand → V} {fp : List (Nat × Ent)} {d : Eff} (h : Step P o ev fp d) (he : ∀ x ∈ o.op.operands, ev' x = ev x) : Step P o ev' fp d :=
  fun C ρ hC hx hf => h C ρ hC (fun x hm => he x hm ▸ hx x hm) hf

/-- x, if g; else the mark of what is passed over. -/
def gw (g : Bool) (x : V) : V :=
  match g with
  | true => x
  | false => .gi false x
/-- Does a guard's value say 'want'? -/
def gbw (x : V) (want : Bool) : Option Bool :=
  match x with
  | .im (.bool b) => some (b == want)
  | .gi g (.im (.bool b)) => some (g && (b == want))
  | .gi false _ => some false
  | _ => none
/-- Is the operation carried out? -/
def gd (ops : Array Oper) (o : Oper) (A : St) : Option Bool :=
  match o.guard with
  | none => some true
  | some (j, want) => match ((ops[j]?).bind (·.dst)).map fun t => A.ev (.tmp t) with
    | some x => gbw x want
    | none => none
theorem Step.pre {P : Program} {o : Oper} {ev ev' : Operand → V} {fp : List (Nat × Ent)} {d : Eff} (h : Step P o ev' fp d) (he : ∀ x (C : Cf) (v : Value), R C (ev x) v → R C (ev' x) v) : Step P o ev fp d :=
  fun C ρ hC hx hf => h C ρ hC (fun x hm => he x C _ (hx x hm)) hf
theorem Good.wk {C : Cf} {st : Nat → Ent} {x y : V} {w : World} {v : Value} (h : Good C st x w v) (hw : ∀ (C : Cf) (v : Value), R C x v → R C y v) : Good C st y w v :=
  let ⟨D, h1, h2, h3, h4, h5⟩ := h; ⟨D, h1, h2, h3, h4, hw D v h5⟩
theorem Step.wk {P : Program} {o : Oper} {ev : Operand → V} {fp : List (Nat × Ent)} {x y : V} {wr : List (Nat × Ent)} (h : Step P o ev fp ⟨x, wr⟩) (hw : ∀ (C : Cf) (v : Value), R C x v → R C y v) : Step P o ev fp ⟨y, wr⟩ := by
  intro C ρ hC hx hf
  have := h C ρ hC hx hf
  split at this
  · exact this.wk hw
  · exact this.wk hw
  · exact this.mono fun e w'' ⟨v, h1, h2⟩ => ⟨v, h1, h2.wk hw⟩
  · exact this.elim

/-- The deferred calls: those alone that ranges over functions collect (there are none). -/
def Dfr (B : Option Nat) (C : Cf) (ds : List Deferred) : Prop :=
  ∃ bs : List Nat, ds = bs.map (fun b => { target := .collected b, args := #[] }) ∧ bs.Nodup ∧
    ∀ b ∈ bs, (∃ lo, B = some lo ∧ lo ≤ b) ∧ C.w.heap[b]? = some (.deferred (some [])) ∧ ∀ i, C.σ i = some b → C.st i = .free
theorem Dfr.nil {C : Cf} : Dfr B C [] := ⟨[], rfl, List.nodup_nil, fun _ h => by cases h⟩
theorem Dfr.mono {C D : Cf} {ds : List Deferred} (h : Dfr B C ds) (he : Ev C D) : Dfr B D ds := by
  obtain ⟨bs, h1, h2, h3⟩ := h
  refine ⟨bs, h1, h2, fun b hb => ?_⟩
  obtain ⟨k1, k2, k3⟩ := h3 b hb
  have hlt := (Array.getElem?_eq_some_iff.1 k2).1
  refine ⟨k1, (he.keep b hlt k3).trans k2, fun i hi => ?_⟩
  refine Classical.byContradiction fun hn => ?_
  rcases he.fresh i b hn hi with ⟨q1, q2⟩ | q1
  · exact q1 (k3 i q2)
  · omega
/-- The state fits the frame and the memory. -/
structure Sim (B : Option Nat) (C : Cf) (A : St) (a : Act) : Prop where
  st : C.st = A.st
  ok : Ok C
  defers : Dfr B C a.defers
  size : a.tmps.size = A.s.length
  slot : ∀ t, t < A.s.length → R C (A.s.getD t .dead) (a.tmps.getD t undef)

theorem R.of_some_bool {C : Cf} {v : Value} {b : Bool} (h : R C (.im (.bool b)) v) : v = .bool b := by
  cases h with
  | im h => rfl
theorem Sim.slot' {C : Cf} {A : St} {a : Act} (h : Sim B C A a) (t : Nat) : R C (A.ev (.tmp t)) (a.eval (.tmp t)) := by
  by_cases ht : t < A.s.length
  · exact h.slot t ht
  · have : A.ev (.tmp t) = .dead := by
      show A.s.getD t .dead = .dead
      simp [List.getD, List.getElem?_eq_none (Nat.le_of_not_lt ht)]
    rw [this]
    exact .dead
theorem R.nil {C : Cf} {k : Slk} (hk : KO C k none 0 0 0) : R C (.sl [] k) (.slice none 0 0) :=
  .sl (es := []) (u := fun _ => undef) (z := 0) (Nat.le_refl _) (Nat.zero_le _) (fun i hi => absurd hi (Nat.not_lt_zero _)) (fun i hi => absurd hi (Nat.not_lt_zero _)) (fun i hi => absurd hi (Nat.not_lt_zero _)) hk
theorem R.ofCell {C : Cf} (v : Value) : R C (.ofCell v) v := by
  unfold V.ofCell
  split
  · exact .nil ⟨rfl, rfl⟩
  · exact .dead
  · exact .dead
  · rename_i h1 h2 h3
    refine .im ?_
    cases v <;> first | rfl | (exact (h2 _ rfl).elim) | (exact (h3 _ rfl).elim)
theorem R.ofVal {C : Cf} (v : Value) : R C (.ofVal v) v := by
  unfold V.ofVal
  split
  · rename_i cs
    split
    · rename_i hall
      refine .ag (by simp) (fun i hi => ?_) fun i hi => ?_
      · have hi' : i < cs.size := by simpa using hi
        simpa [hi'] using Array.all_eq_true.1 hall i hi'
      · have hi' : i < cs.size := by simpa using hi
        simp only [List.getElem_map, Array.getElem_toList, Array.getD, hi', dite_true]
        exact .ofCell _
    · exact .dead
  · exact .ofCell _
theorem Sim.ev {C : Cf} {A : St} {a : Act} (h : Sim B C A a) (x : Operand) : R C (A.ev x) (a.eval x) := by
  cases x with
  | tmp t => exact h.slot' t
  | const v => exact .ofVal v
  | global g => exact .im rfl
  | func f => exact .fn rfl rfl (fun i hi => absurd hi (Nat.not_lt_zero _)) (fun i hi => absurd hi (Nat.not_lt_zero _))
theorem gd_sound {C : Cf} {A : St} {a : Act} {ops : Array Oper} {o : Oper} {b : Bool} (h : Sim B C A a) (hg : gd ops o A = some b) : Region.wanted o (yielded ops a.tmps) = b := by
  unfold gd at hg
  unfold Region.wanted
  split at hg
  · rename_i h0
    rw [h0]
    exact Option.some.inj hg
  · rename_i j want h0
    rw [h0]
    simp only
    cases ht : (ops[j]?).bind (·.dst) with
    | none => rw [ht] at hg; cases hg
    | some t =>
      rw [ht] at hg
      simp only [Option.map_some] at hg
      have h2 := h.slot' t
      unfold gbw at hg
      split at hg
      · rename_i b' h1
        rw [h1] at h2
        have h3 := h2.of_some_bool
        have h4 : a.tmps[t]? = some (.bool b') := by
          simp only [Act.eval, Array.getD_eq_getD_getElem?] at h3
          cases h5 : a.tmps[t]? with
          | none => rw [h5] at h3; cases h3
          | some v => rw [h5] at h3; simpa using h3
        simp only [yielded, ht, Option.bind_some, h4]
        simpa using hg
      · rename_i g b' h1
        rw [h1] at h2
        cases g with
        | true =>
          have h3 : a.eval (.tmp t) = .bool b' := by
            generalize a.eval (.tmp t) = v at h2
            cases h2 with
            | gi h h0 => exact (h rfl).of_some_bool
          have h4 : a.tmps[t]? = some (.bool b') := by
            simp only [Act.eval, Array.getD_eq_getD_getElem?] at h3
            cases h5 : a.tmps[t]? with
            | none => rw [h5] at h3; cases h3
            | some v => rw [h5] at h3; simpa using h3
          simp only [yielded, ht, Option.bind_some, h4]
          simpa using hg
        | false =>
          have h3 : a.eval (.tmp t) = undef := by
            generalize a.eval (.tmp t) = v at h2
            cases h2 with
            | gi h h0 => exact h0 rfl
          have h4 : yielded ops a.tmps j = none := by
            simp only [Act.eval, Array.getD_eq_getD_getElem?] at h3
            simp only [yielded, ht, Option.bind_some]
            cases h5 : a.tmps[t]? with
            | none => rfl
            | some v =>
              rw [h5] at h3
              have h3 : v = undef := by simpa using h3
              subst h3
              rfl
          rw [h4]
          simpa using hg
      · rename_i y hny h1
        obtain rfl : false = b := Option.some.inj hg
        rw [h1] at h2
        have h3 : a.eval (.tmp t) = undef := by
          generalize a.eval (.tmp t) = v at h2
          cases h2 with
          | gi h h0 => exact h0 rfl
        have h4 : yielded ops a.tmps j = none := by
          simp only [Act.eval, Array.getD_eq_getD_getElem?] at h3
          simp only [yielded, ht, Option.bind_some]
          cases h5 : a.tmps[t]? with
          | none => rfl
          | some v =>
            rw [h5] at h3
            have h3 : v = undef := by simpa using h3
            subst h3
            rfl
        rw [h4]
        rfl
      · cases hg
theorem Sim.put {C D : Cf} {A : St} {a : Act} {d : Option Tmp} {v : V} {u : Value} (h : Sim B C A a) (he : Ev C D) (hD : Ok D) {st : Nat → Ent} (hst : D.st = st) (hv : R D v u) : Sim B D ⟨(A.put d v).s, st⟩ (a.put d u) := by
  refine ⟨hst, hD, ?_, ?_, ?_⟩
  · cases d <;> exact h.defers.mono he
  · cases d <;> simp [Act.put, St.put, h.size]
  · intro t ht
    cases d with
    | none => exact (h.slot t ht).mono he
    | some e =>
      have ht' : t < A.s.length := by simpa [St.put] using ht
      by_cases hte : e = t
      · subst hte
        have : e < a.tmps.size := by rw [h.size]; exact ht'
        simpa [St.put, Act.put, List.getD, ht', this] using hv
      · have h1 := (h.slot t ht').mono he
        simpa [St.put, Act.put, List.getD, List.getElem?_set_ne hte, Array.getElem?_setIfInBounds_ne hte] using h1

/-- An operation, met in the state that the step speaks of. -/
theorem Step.sound {P : Program} {o : Oper} {ops : Array Oper} {Q : Exit → Act → World → Prop} {i : Nat} {A : St} {C : Cf} {a : Act} {fp : List (Nat × Ent)} {d : Eff} {K : Act → World → Prop} {ro : Option Nat} {n : Nat} (h : Step P o A.ev fp d) (hf : ∀ p ∈ fp, A.st p.1 = p.2)
    (hi : ops[i]? = some o) (hw : gd ops o A = some true) (hS : Sim B C A a) (hK : ∀ D a', Sim B D (A.app o.dst d) a' → Ev C D → K a' D.w) : wpOpIn (FR ro) n P ops Q i K a C.w := by
  unfold wpOpIn
  simp only [hi, gd_sound hS hw, if_true]
  refine ⟨fun _ _ => trivial, ?_⟩
  have h1 := h C a.eval hS.ok (fun x _ => hS.ev x) (fun p hp => by rw [hS.st]; exact hf p hp)
  have hnd : ∀ c, o.op ≠ .defer c := fun c hc => by
    simp only [execOp, hc] at h1
    simp only [Sem.run_bind] at h1
    generalize (resolve a.eval c o.type).run P C.w = r at h1
    cases r with
    | ok x w => simp [Result.andThen] at h1
    | halt x w => exact h1
  rw [Oper.semAt_eq _ _ _ hnd]
  generalize (execOp a.eval o).run P C.w = r at h1 ⊢
  have fin : ∀ v w', Good C (wrs C.st d.wr) d.v w' v → K (a.put o.dst v) w' := by
    rintro v w' ⟨D, rfl, h2, h3, h4, h5⟩
    refine hK D _ ?_ h4
    rw [hS.st] at h2
    exact hS.put h4 h3 h2 h5
  split at h1
  · exact fin _ _ h1
  · exact fin _ _ h1
  · rw [Oper.uponIn_enter]
    refine ⟨(fun h => by cases h), ?_⟩
    refine callsIn_wide.2 (h1.mono ?_)
    rintro e w'' ⟨v, rfl, h2⟩
    exact fin _ _ h2
  · exact h1.elim
theorem skip_sound {P : Program} {o : Oper} {ops : Array Oper} {Q : Exit → Act → World → Prop} {i : Nat} {A : St} {C : Cf} {a : Act} {K : Act → World → Prop} {x : V} {ro : Option Nat} {n : Nat} (hx : ∀ C, R C x undef)
    (hi : ops[i]? = some o) (hw : gd ops o A = some false) (hS : Sim B C A a) (hK : ∀ D a', Sim B D (A.app o.dst ⟨x, []⟩) a' → Ev C D → K a' D.w) : wpOpIn (FR ro) n P ops Q i K a C.w := by
  unfold wpOpIn
  simp only [hi, gd_sound hS hw, Bool.false_eq_true, if_false]
  refine ⟨fun _ _ => trivial, ?_⟩
  exact hK C _ (hS.put (Ev.refl C) hS.ok hS.st (hx C)) (Ev.refl C)

/-- A draw turns nothing. -/
def Cf.withW (C : Cf) (w : World) : Cf := { C with w := w }
theorem Ev.withW {C : Cf} {w : World} (hh : w.heap = C.w.heap) (ho : w.os = C.w.os) (ht : w.tape = C.w.tape) (hu : w.output = C.w.output) : Ev C (C.withW w) where
  os := ho
  tape := ht
  output := hu
  size := by simp [Cf.withW, hh]
  av := rfl
  rd := fun a v h => ⟨by rw [← h.1]; exact World.cell?_of_block (by rw [Cf.withW, hh]), h.2⟩
  box := fun _ cs h => ⟨rfl, cs, h⟩
  tip := fun _ _ _ n h => ⟨n, h, Nat.le_refl _, fun _ => ⟨rfl, fun _ cur _ h => ⟨cur, by rw [Cf.withW, hh]; exact h, rfl⟩⟩⟩
  itr := fun _ s p h => ⟨rfl, s, p, h⟩
  keep := fun _ _ _ => by rw [Cf.withW, hh]
  fresh := fun _ _ h h' => .inl ⟨h, h'⟩
theorem Ok.withW {C : Cf} {w : World} (hC : Ok C) (hh : w.heap = C.w.heap) (ho : w.os = C.w.os) (ht : w.tape = C.w.tape) (hu : w.output = C.w.output) : Ok (C.withW w) where
  box := fun i cs h => by
    obtain ⟨g, bs, t, h1, h2, h3, h4, h5⟩ := hC.box i cs h
    exact ⟨g, bs, t, h1, by rw [Cf.withW, hh]; exact h2, h3, h4, fun j hj => (h5 j hj).mono (Ev.withW hh ho ht hu)⟩
  tip := fun i e z n g h h' => by
    obtain ⟨cur, h1, h2⟩ := hC.tip i e z n g h h'
    exact ⟨cur, by rw [Cf.withW, hh]; exact h1, h2⟩
  iter := fun i s p h => by rw [Cf.withW, hh]; exact hC.iter i s p h
  inj := hC.inj
  avl := fun b o h => by rw [Cf.withW, hh]; exact hC.avl b o h
  bav := hC.bav
  gl := hC.gl.mono (Ev.withW hh ho ht hu)
theorem Sim.mono {C D : Cf} {A : St} {a : Act} (h : Sim B C A a) (he : Ev C D) (hD : Ok D) (hs : D.st = C.st) : Sim B D A a :=
  ⟨hs.trans h.st, hD, h.defers.mono he, h.size, fun t ht => (h.slot t ht).mono he⟩

/-! ### Regions -/
/-- An operation as it came up in the text's order. -/
structure Itm where
  i : Nat
  fp : List (Nat × Ent)
  d : Eff
def Itm.key (t : Itm) : Nat × List Nat × List Nat := (t.i, t.fp.map Prod.fst, t.d.wr.map Prod.fst)

section
variable {P : Program} {ops : Array Oper}
def Valid (P : Program) (ops : Array Oper) (A : St) (t : Itm) : Prop :=
  ∃ o, ops[t.i]? = some o ∧ ((gd ops o A = some true ∧ Step P o A.ev t.fp t.d ∧ ∀ p ∈ t.fp, A.st p.1 = p.2) ∨ (gd ops o A = some false ∧ t.d.wr = [] ∧ ∀ C, R C t.d.v undef))
def St.appI (ops : Array Oper) (A : St) (t : Itm) : St := A.app ((ops[t.i]?).bind (·.dst)) t.d
inductive Run (P : Program) (ops : Array Oper) : St → List Itm → St → Prop
  | nil {A : St} : Run P ops A [] A
  | cons {A F : St} {t : Itm} {L : List Itm} (hv : Valid P ops A t) (h : Run P ops (A.appI ops t) L F) : Run P ops A (t :: L) F

/-- Neither touches what the other writes. -/
def indepK (ops : Array Oper) (x y : Nat × List Nat × List Nat) : Bool :=
  (match ops[x.1]?, ops[y.1]? with
   | some o, some q => o.apart ops q
   | _, _ => false) &&
  x.2.2.all (fun i => !y.2.1.contains i && !y.2.2.contains i) && y.2.2.all (fun i => !x.2.1.contains i)
theorem indepK_spec {x y : Itm} {ox oy : Oper} (hx : ops[x.i]? = some ox) (hy : ops[y.i]? = some oy) (h : indepK ops x.key y.key = true) :
    ox.apart ops oy = true ∧ (∀ i ∈ x.d.wr.map Prod.fst, i ∉ y.fp.map Prod.fst) ∧ (∀ i ∈ x.d.wr.map Prod.fst, i ∉ y.d.wr.map Prod.fst) ∧ (∀ i ∈ y.d.wr.map Prod.fst, i ∉ x.fp.map Prod.fst) := by
  simp only [indepK, Itm.key, hx, hy, Bool.and_eq_true, List.all_eq_true, Bool.not_eq_true', List.contains_eq_mem, decide_eq_false_iff_not] at h
  exact ⟨h.1.1, fun i hi => (h.1.2 i hi).1, fun i hi => (h.1.2 i hi).2, fun i hi => h.2 i hi⟩

theorem gd_app {o : Oper} {A : St} {d : Option Tmp} {e : Eff} (h : ∀ t, d = some t → t ∉ o.looksAt ops) : gd ops o (A.app d e) = gd ops o A := by
  unfold gd
  split
  · rfl
  · rename_i j want h0
    cases ht : (ops[j]?).bind (·.dst) with
    | none => simp
    | some u =>
      have : (A.app d e).ev (.tmp u) = A.ev (.tmp u) := St.ev_app fun t hd hx => by
        cases hx
        exact h u hd (by simp [Oper.looksAt, h0, ht])
      simp [this]
theorem Valid.app {A : St} {x : Itm} {d : Option Tmp} {e : Eff} (hd : ∀ o t, ops[x.i]? = some o → d = some t → t ∉ o.looksAt ops) (hw : ∀ i ∈ e.wr.map Prod.fst, i ∉ x.fp.map Prod.fst) : Valid P ops (A.app d e) x ↔ Valid P ops A x := by
  have key : ∀ o, ops[x.i]? = some o → (∀ y ∈ o.op.operands, (A.app d e).ev y = A.ev y) := fun o ho y hy => St.ev_app fun t ht hyt => by
    subst hyt
    exact hd o t ho ht (List.mem_append_left _ (List.mem_filterMap.2 ⟨.tmp t, by simpa using hy, rfl⟩))
  have keyf : ∀ p ∈ x.fp, (A.app d e).st p.1 = A.st p.1 := fun p hp => wrs_other (fun hm => hw _ hm (List.mem_map_of_mem hp)) _
  constructor
  · rintro ⟨o, ho, h⟩
    refine ⟨o, ho, ?_⟩
    rw [gd_app (fun t ht => hd o t ho ht)] at h
    rcases h with ⟨h1, h2, h3⟩ | h
    · exact .inl ⟨h1, h2.congr fun y hy => (key o ho y hy).symm, fun p hp => (keyf p hp).symm.trans (h3 p hp)⟩
    · exact .inr h
  · rintro ⟨o, ho, h⟩
    refine ⟨o, ho, ?_⟩
    rw [gd_app (fun t ht => hd o t ho ht)]
    rcases h with ⟨h1, h2, h3⟩ | h
    · exact .inl ⟨h1, h2.congr fun y hy => key o ho y hy, fun p hp => (keyf p hp).trans (h3 p hp)⟩
    · exact .inr h

theorem Valid.oper {A : St} {x : Itm} (h : Valid P ops A x) : ∃ o, ops[x.i]? = some o := ⟨_, h.choose_spec.1⟩
/-- What is apart from all that stands before it may come first. -/
theorem Run.first {F : St} {t : Itm} {L2 : List Itm} : ∀ (L1 : List Itm) (A : St), (∀ p ∈ L1, indepK ops p.key t.key = true) → Run P ops A (L1 ++ t :: L2) F → Valid P ops A t ∧ Run P ops (A.appI ops t) (L1 ++ L2) F := by
  intro L1
  induction L1 with
  | nil =>
    intro A _ h
    cases h with
    | cons hv h => exact ⟨hv, h⟩
  | cons p L1 ih =>
    intro A hi h
    cases h with
    | cons hv h =>
      obtain ⟨h1, h2⟩ := ih _ (fun q hq => hi q (List.mem_cons_of_mem _ hq)) h
      obtain ⟨ot, hot⟩ := h1.oper
      obtain ⟨op, hop⟩ := hv.oper
      obtain ⟨k1, k2, k3, k4⟩ := indepK_spec hop hot (hi p (List.mem_cons_self ..))
      obtain ⟨a1, a2, a3⟩ := Oper.apart_spec k1
      have h3 : Valid P ops A t := (Valid.app (d := (ops[p.i]?).bind (·.dst)) (e := p.d) (fun o u ho hu => by
        rw [hot] at ho
        cases ho
        rw [hop] at hu
        exact a1 u hu) k2).1 h1
      refine ⟨h3, .cons ((Valid.app (fun o u ho hu => ?_) k4).2 hv) ?_⟩
      · rw [hop] at ho
        cases ho
        rw [hot] at hu
        exact a3 u hu
      · have e : (A.appI ops t).appI ops p = (A.appI ops p).appI ops t := by
          unfold St.appI
          refine (St.app_comm A p.d t.d ?_ k3).symm
          rw [hop, hot]
          intro u hu
          exact a2 u hu
        rw [e]
        exact h2

/-- b tells who comes behind whom by edges. -/
def closedB (ops : Array Oper) (b : Array Nat) : Bool :=
  (List.range ops.size).all fun i => match ops[i]? with
    | none => false
    | some o => o.after.all (fun e => !Region.binds .any e || decide (e.on < i)) &&
      (List.range ops.size).all fun p => !(b.getD i 0).testBit p || o.after.any fun e => Region.binds .any e && (e.on == p || (b.getD e.on 0).testBit p)
def pairsK (ops : Array Oper) (b : Array Nat) : List (Nat × List Nat × List Nat) → Bool
  | [] => true
  | x :: l => l.all (fun y => indepK ops x y || (b.getD y.1 0).testBit x.1) && pairsK ops b l
def chkR (ops : Array Oper) (l : List (Nat × List Nat × List Nat)) : Bool :=
  let b := Region.before ops
  closedB ops b && pairsK ops b l
theorem closedB_low {b : Array Nat} (h : closedB ops b = true) {i : Nat} {o : Oper} (hi : ops[i]? = some o) : ∀ e ∈ o.after, Region.binds .any e = true → e.on < i := by
  have hlt := (Array.getElem?_eq_some_iff.1 hi).1
  have h1 := List.all_eq_true.1 h i (List.mem_range.2 hlt)
  rw [hi] at h1
  simp only [Bool.and_eq_true, Array.all_eq_true_iff_forall_mem, Bool.or_eq_true, Bool.not_eq_true', decide_eq_true_eq] at h1
  intro e he hb
  rcases h1.1 e he with h2 | h2
  · rw [hb] at h2; cases h2
  · exact h2
theorem closedB_bit {b : Array Nat} (h : closedB ops b = true) {i p : Nat} {o : Oper} (hi : ops[i]? = some o) (hp : p < ops.size) (ht : (b.getD i 0).testBit p = true) :
    ∃ e ∈ o.after, Region.binds .any e = true ∧ (e.on = p ∨ (b.getD e.on 0).testBit p = true) := by
  have hlt := (Array.getElem?_eq_some_iff.1 hi).1
  have h1 := List.all_eq_true.1 h i (List.mem_range.2 hlt)
  rw [hi] at h1
  simp only [Bool.and_eq_true] at h1
  have h2 := List.all_eq_true.1 h1.2 p (List.mem_range.2 hp)
  rw [ht] at h2
  simp only [Bool.not_true, Bool.false_or, Array.any_eq_true'] at h2
  obtain ⟨e, he, h3⟩ := h2
  simp only [Bool.and_eq_true, Bool.or_eq_true, beq_iff_eq] at h3
  exact ⟨e, he, h3.1, h3.2⟩
/-- Of what is listed, all that must come before it is listed. -/
theorem listed_before {b : Array Nat} (hb : closedB ops b = true) {listed : Array Bool} (hd : ∀ i o, ops[i]? = some o → listed.getD i false = true → ∀ e ∈ o.after, Region.binds .any e = true → listed.getD e.on false = true) {p : Nat} (hp : p < ops.size) :
    ∀ (n i : Nat) (o : Oper), i < n → ops[i]? = some o → (∀ e ∈ o.after, Region.binds .any e = true → listed.getD e.on false = true) → (b.getD i 0).testBit p = true → listed.getD p false = true := by
  intro n
  induction n with
  | zero => intro i o hi; omega
  | succ n ih =>
    intro i o hi ho hall ht
    obtain ⟨e, he, hbd, h1⟩ := closedB_bit hb ho hp ht
    have h2 := hall e he hbd
    rcases h1 with rfl | h1
    · exact h2
    · have hlow := closedB_low hb ho e he hbd
      have hlt : e.on < ops.size := Nat.lt_trans hlow (Array.getElem?_eq_some_iff.1 ho).1
      exact ih e.on ops[e.on] (by omega) (Array.getElem?_eq_getElem hlt) (hd e.on _ (Array.getElem?_eq_getElem hlt) h2) h1

theorem pairsK_spec {b : Array Nat} : ∀ (L : List Itm), pairsK ops b (L.map Itm.key) = true → L.Pairwise fun x y => indepK ops x.key y.key = true ∨ (b.getD y.i 0).testBit x.i = true := by
  intro L
  induction L with
  | nil => intro _; exact .nil
  | cons x L ih =>
    intro h
    simp only [List.map_cons, pairsK, Bool.and_eq_true, List.all_eq_true, Bool.or_eq_true] at h
    exact .cons (fun y hy => h.1 y.key (List.mem_map_of_mem hy)) (ih h.2)

/-- Every order ends where the text's order ends. -/
theorem Run.any {ro : Option Nat} {m : Nat} {b : Array Nat} {Q : Exit → Act → World → Prop} {F : St} (hb : closedB ops b = true) : ∀ (n : Nat) (L : List Itm) (A : St) (C : Cf) (a : Act) (listed : Array Bool), L.length = n → Run P ops A L F →
    L.Pairwise (fun x y => indepK ops x.key y.key = true ∨ (b.getD y.i 0).testBit x.i = true) → (L.map Itm.i).Pairwise (· < ·) → listed.size = ops.size →
    (∀ i, i < ops.size → (listed.getD i true = false ↔ i ∈ L.map Itm.i)) →
    (∀ i o, ops[i]? = some o → listed.getD i false = true → ∀ e ∈ o.after, Region.binds .any e = true → listed.getD e.on false = true) →
    Sim B C A a → (∀ D a', Sim B D F a' → Ev C D → Q .normal a' D.w) → wpAnyIn (FR ro) m P .any ops Q n listed a C.w := by
  intro n
  induction n with
  | zero =>
    intro L A C a listed hn hr _ _ _ hl _ hS hQ
    obtain rfl := List.eq_nil_of_length_eq_zero hn
    cases hr
    refine ⟨?_, hQ C a hS (Ev.refl C)⟩
    rw [List.eq_nil_iff_forall_not_mem]
    intro j hj
    obtain ⟨h1, o, ho, _⟩ := mem_ready.1 hj
    have := (hl j (Array.getElem?_eq_some_iff.1 ho).1).1 h1
    simp at this
  | succ n ih =>
    intro L A C a listed hn hr hp hs hsz hl hd hS hQ
    have hsw : ∀ {j : Nat} {x y : Bool}, j < ops.size → listed.getD j x = listed.getD j y := fun {j x y} hj => by simp [hsz, hj]
    refine ⟨fun he => ?_, fun i hi => ?_⟩
    · exfalso
      cases hL : L with
      | nil => rw [hL] at hn; cases hn
      | cons t L' =>
        subst hL
        have hv : Valid P ops A t := by cases hr with | cons hv _ => exact hv
        obtain ⟨o, ho⟩ := hv.oper
        have hlt := (Array.getElem?_eq_some_iff.1 ho).1
        have : t.i ∈ Region.ready .any ops listed := by
          refine mem_ready.2 ⟨(hl t.i hlt).2 (by simp), o, ho, fun e hem hbd => ?_⟩
          have hlow := closedB_low hb ho e hem hbd
          have h1 : ¬ listed.getD e.on true = false := fun hf => by
            have := (hl e.on (by omega)).1 hf
            simp only [List.map_cons, List.mem_cons] at this
            rcases this with h2 | h2
            · omega
            · have := (List.pairwise_cons.1 hs).1 _ h2
              omega
          rw [hsw (y := true) (by omega)]
          simpa using h1
        rw [he] at this
        cases this
    · obtain ⟨h0, o, ho, hall⟩ := mem_ready.1 hi
      have hlt := (Array.getElem?_eq_some_iff.1 ho).1
      have hmem := (hl i hlt).1 h0
      obtain ⟨t, ht, rfl⟩ := List.mem_map.1 hmem
      obtain ⟨L1, L2, rfl⟩ := List.append_of_mem ht
      have hpend : ∀ p ∈ L1, indepK ops p.key t.key = true := fun p hpm => by
        have h1 := (List.pairwise_append.1 hp).2.2 p hpm t (List.mem_cons_self ..)
        rcases h1 with h1 | h1
        · exact h1
        · exfalso
          have hpl : p.i < t.i := by
            have := (List.pairwise_append.1 (by simpa using hs : (L1.map Itm.i ++ t.i :: L2.map Itm.i).Pairwise (· < ·))).2.2 p.i (List.mem_map_of_mem hpm) t.i (List.mem_cons_self ..)
            exact this
          have h2 := listed_before hb hd (p := p.i) (by omega) (t.i + 1) t.i o (by omega) ho hall h1
          have h3 := (hl p.i (by omega)).2 (by simp only [List.map_append, List.mem_append]; exact .inl (List.mem_map_of_mem hpm))
          rw [hsw (y := false) (by omega), h2] at h3
          cases h3
      obtain ⟨hv, hr'⟩ := Run.first L1 A hpend hr
      have hlen : (L1 ++ L2).length = n := by simp at hn ⊢; omega
      have hs' : ((L1 ++ L2).map Itm.i).Pairwise (· < ·) := by
        refine hs.sublist (List.Sublist.map _ ?_)
        exact List.Sublist.append (List.Sublist.refl _) (List.sublist_cons_self _ _)
      have hp' := hp.sublist (List.Sublist.append (List.Sublist.refl L1) (List.sublist_cons_self t L2))
      have hnot : t.i ∉ (L1 ++ L2).map Itm.i := by
        have h1 : (L1.map Itm.i ++ t.i :: L2.map Itm.i).Pairwise (· < ·) := by simpa using hs
        simp only [List.map_append, List.mem_append, not_or]
        refine ⟨fun hm => ?_, fun hm => ?_⟩
        · have := (List.pairwise_append.1 h1).2.2 t.i hm t.i (List.mem_cons_self ..)
          omega
        · have := (List.pairwise_cons.1 (List.pairwise_append.1 h1).2.1).1 t.i hm
          omega
      have key : ∀ D a', Sim B D (A.appI ops t) a' → Ev C D → wpAnyIn (FR ro) m P .any ops Q n (listed.setIfInBounds t.i true) a' D.w := fun D a' hS' hE => by
        refine ih (L1 ++ L2) (A.appI ops t) D a' _ hlen hr' hp' hs' (by simpa using hsz) (fun j hj => ?_) (fun j q hq hlj e hem hbd => ?_) hS' (fun E a'' hS'' hE' => hQ E a'' hS'' (hE.trans hE'))
        · by_cases hjt : t.i = j
          · subst hjt
            have : t.i < listed.size := by omega
            simp only [Array.getD_eq_getD_getElem?, Array.getElem?_setIfInBounds_self_of_lt this, Option.getD_some]
            simp only [Bool.true_eq_false, false_iff]
            exact hnot
          · rw [getD_set_ne true hjt, hl j hj]
            simp only [List.map_append, List.map_cons, List.mem_append, List.mem_cons]
            constructor
            · rintro (h1 | h1 | h1)
              · exact .inl h1
              · exact absurd h1.symm hjt
              · exact .inr h1
            · rintro (h1 | h1)
              · exact .inl h1
              · exact .inr (.inr h1)
        · by_cases hjt : t.i = j
          · subst hjt
            rw [ho] at hq
            cases hq
            exact getD_set_true (hall e hem hbd)
          · rw [getD_set_ne false hjt] at hlj
            exact getD_set_true (hd j q hq hlj e hem hbd)
      obtain ⟨o', ho', hcase⟩ := hv
      obtain rfl : o = o' := Option.some.inj (ho.symm.trans ho')
      have he : A.appI ops t = A.app o.dst t.d := by simp [St.appI, ho]
      rw [he] at key
      rcases hcase with ⟨h1, h2, h3⟩ | ⟨h1, h2, h3⟩
      · exact h2.sound h3 ho h1 hS key
      · obtain ⟨ti, tfp, tv, twr⟩ := t
        obtain rfl : twr = [] := h2
        exact skip_sound h3 ho h1 hS key

/-- The operations l, in the text's order; acc: what those before them touched. -/
def AR (P : Program) (ops : Array Oper) (dr : Bool) (Q : St → Prop) : List Oper → Nat → St → List (Nat × List Nat × List Nat) → Prop
  | [], _, A, acc => (dr = true → chkR ops acc.reverse = true) ∧ Q A
  | o :: l, k, A, acc => (gd ops o A = some false ∧ AR P ops dr Q l (k + 1) (A.app o.dst ⟨.dead, []⟩) ((k, [], []) :: acc)) ∨
      (gd ops o A = some true ∧ ∃ fp d, Step P o A.ev fp d ∧ (∀ p ∈ fp, A.st p.1 = p.2) ∧ AR P ops dr Q l (k + 1) (A.app o.dst d) ((k, fp.map Prod.fst, d.wr.map Prod.fst) :: acc)) ∨
      ∃ g, gd ops o A = some g ∧ ∃ fp v, (g = true → Step P o A.ev fp ⟨v, []⟩ ∧ ∀ p ∈ fp, A.st p.1 = p.2) ∧ AR P ops dr Q l (k + 1) (A.app o.dst ⟨gw g v, []⟩) ((k, fp.map Prod.fst, []) :: acc)
theorem AR.run {dr : Bool} {Q : St → Prop} : ∀ (l : List Oper) (k : Nat) (A : St) (acc : List (Nat × List Nat × List Nat)), (∀ j, l[j]? = ops[k + j]?) → AR P ops dr Q l k A acc →
    ∃ L F, Run P ops A L F ∧ L.map Itm.i = List.range' k l.length ∧ (dr = true → chkR ops (acc.reverse ++ L.map Itm.key) = true) ∧ Q F := by
  intro l
  induction l with
  | nil =>
    intro k A acc _ h
    exact ⟨[], A, .nil, rfl, by simpa using h.1, h.2⟩
  | cons o l ih =>
    intro k A acc hl h
    have h0 : ops[k]? = some o := by simpa using (hl 0).symm
    have hl' : ∀ j, l[j]? = ops[k + 1 + j]? := fun j => by have := hl (j + 1); simpa [Nat.add_assoc, Nat.add_comm 1 j] using this
    rcases h with ⟨h1, h2⟩ | ⟨h1, fp, d, h2, h3, h4⟩ | ⟨g, h1, fp, v, h2, h4⟩
    · obtain ⟨L, F, k1, k2, k3, k4⟩ := ih (k + 1) _ _ hl' h2
      refine ⟨⟨k, [], ⟨.dead, []⟩⟩ :: L, F, .cons ⟨o, h0, .inr ⟨h1, rfl, fun _ => .dead⟩⟩ (by simpa [St.appI, h0] using k1), by simp [k2, List.range'_succ], fun hd => ?_, k4⟩
      have := k3 hd
      simpa [Itm.key] using this
    · obtain ⟨L, F, k1, k2, k3, k4⟩ := ih (k + 1) _ _ hl' h4
      refine ⟨⟨k, fp, d⟩ :: L, F, .cons ⟨o, h0, .inl ⟨h1, h2, h3⟩⟩ (by simpa [St.appI, h0] using k1), by simp [k2, List.range'_succ], fun hd => ?_, k4⟩
      have := k3 hd
      simpa [Itm.key] using this
    · obtain ⟨L, F, k1, k2, k3, k4⟩ := ih (k + 1) _ _ hl' h4
      have hv : Valid P ops A ⟨k, fp, ⟨gw g v, []⟩⟩ := by
        refine ⟨o, h0, ?_⟩
        cases g with
        | true => exact .inl ⟨h1, (h2 rfl).1, (h2 rfl).2⟩
        | false => exact .inr ⟨h1, rfl, fun C => .gi (fun h => by cases h) fun _ => rfl⟩
      refine ⟨⟨k, fp, ⟨gw g v, []⟩⟩ :: L, F, .cons hv (by simpa [St.appI, h0] using k1), by simp [k2, List.range'_succ], fun hd => ?_, k4⟩
      have := k3 hd
      simpa [Itm.key] using this
theorem Run.seq {ro : Option Nat} {m : Nat} {Q : Exit → Act → World → Prop} {F : St} : ∀ (L : List Itm) (A : St) (C : Cf) (a : Act), Run P ops A L F → Sim B C A a → (∀ D a', Sim B D F a' → Ev C D → Q .normal a' D.w) → wpOpsIn (FR ro) m P ops Q (L.map Itm.i) a C.w := by
  intro L
  induction L with
  | nil =>
    intro A C a h hS hQ
    cases h
    exact hQ C a hS (Ev.refl C)
  | cons t L ih =>
    intro A C a h hS hQ
    cases h with
    | cons hv h =>
      obtain ⟨o, ho, hcase⟩ := hv
      have he : A.appI ops t = A.app o.dst t.d := by simp [St.appI, ho]
      rw [he] at h
      rw [List.map_cons, wpOpsIn_cons]
      have key : ∀ D a', Sim B D (A.app o.dst t.d) a' → Ev C D → wpOpsIn (FR ro) m P ops Q (L.map Itm.i) a' D.w := fun D a' hS' hE => ih _ D a' h hS' fun E a'' hS'' hE' => hQ E a'' hS'' (hE.trans hE')
      rcases hcase with ⟨h1, h2, h3⟩ | ⟨h1, h2, h3⟩
      · exact h2.sound h3 ho h1 hS key
      · obtain ⟨ti, tfp, tv, twr⟩ := t
        obtain rfl : twr = [] := h2
        exact skip_sound h3 ho h1 hS key
end
theorem AR.plain {ro : Option Nat} {m : Nat} {P : Program} {id : Nat} {l : List Oper} {Q : Exit → Act → World → Prop} {QA : St → Prop} {A : St} {C : Cf} {a : Act} (h : AR P l.toArray false QA l 0 A []) (hS : Sim B C A a) (hQ : ∀ F D a', QA F → Sim B D F a' → Ev C D → Q .normal a' D.w) :
    (Code.region id l.toArray false).wpIn (FR ro) m P Q a C.w := by
  obtain ⟨L, F, h1, h2, _, h3⟩ := AR.run l 0 A [] (fun j => by simp) h
  refine wpIn_region ?_
  have := Run.seq (ro := ro) (m := m) (Q := Q) L A C a h1 hS (fun D a' => hQ F D a' h3)
  rwa [h2, ← List.range_eq_range'] at this
theorem AR.drawn {ro : Option Nat} {m : Nat} {P : Program} {id : Nat} {l : List Oper} {Q : Exit → Act → World → Prop} {QA : St → Prop} {A : St} {C : Cf} {a : Act} (hm : P.follows .mixedOrders = true) (h : AR P l.toArray true QA l 0 A []) (hS : Sim B C A a)
    (hQ : ∀ F D a', QA F → Sim B D F a' → Ev C D → Q .normal a' D.w) : (Code.region id l.toArray true).wpIn (FR ro) m P Q a C.w := by
  obtain ⟨L, F, h1, h2, h4, h3⟩ := AR.run l 0 A [] (fun j => by simp) h
  have h5 := h4 rfl
  simp only [List.reverse_nil, List.nil_append, chkR, Bool.and_eq_true] at h5
  refine wpIn_region_any hm ?_
  have hE : Ev C (C.withW { C.w with drawn := C.w.drawn + 1 }) := Ev.withW rfl rfl rfl rfl
  have hS' := hS.mono hE (hS.ok.withW rfl rfl rfl rfl) rfl
  have hlen : L.length = l.toArray.size := by simpa using congrArg List.length h2
  have := Run.any (ro := ro) (m := m) (Q := Q) h5.1 L.length L A _ a (Array.replicate l.toArray.size false) rfl h1 (pairsK_spec L h5.2) (by rw [h2]; exact List.pairwise_lt_range') (by simp) (fun i hi => ?_) (fun i o ho hl => ?_) hS'
    (fun D a' hS' hE' => hQ F D a' h3 hS' (hE.trans hE'))
  · rw [hlen] at this
    exact this
  · rw [h2]
    have : i < l.length := by simpa using hi
    simp [this]
  · have := (Array.getElem?_eq_some_iff.1 ho).1
    rw [Array.getD_eq_getD_getElem?, Array.getElem?_replicate] at hl
    split at hl <;> cases hl

end Go.Proofs.Ytfggemopnlffeaa
/- Code on trees: one rule for each kind of code; loops by unrolling; functions by contract ('ACalls'); calls that are handed nothing that may be written to ('PC'). -/
namespace Go.Proofs.Ytfggemopnlffeaa
set_option linter.unusedSimpArgs false
set_option linter.unusedVariables false
set_option linter.unnecessarySimpa false
open Go.RowKit
variable {B : Option Nat}

/-- y says no more than x. -/
def Wk (x y : V) : Prop := ∀ (C : Cf) (v : Value), R C x v → R C y v
theorem Wk.refl (x : V) : Wk x x := fun _ _ h => h
theorem Wk.dead (x : V) : Wk x .dead := fun _ _ _ => .dead
theorem Wk.trans {x y z : V} (h : Wk x y) (k : Wk y z) : Wk x z := fun C v hx => k C v (h C v hx)
theorem Wk.ro (es : List V) (k : Slk) : Wk (.sl es k) (.sl es .ro) := fun C v h => by
  cases h with
  | sl hc hm hz h hr hk => exact .sl hc hm hz h hr trivial
theorem Wk.sl {es fs : List V} {k : Slk} (hl : es.length = fs.length) (h : ∀ i (h1 : i < es.length) (h2 : i < fs.length), Wk es[i] fs[i] ∧ fs[i].size = es[i].size) : Wk (.sl es k) (.sl fs k) := fun C v hv => by
  cases hv with
  | @sl _ _ a cap z u hc hm hz h0 hr hk =>
    rw [hl] at hk hc ⊢
    exact .sl hc hm (fun i hi => ⟨((h i (hl ▸ hi) hi).2).trans (hz i (hl ▸ hi)).1, (hz i (hl ▸ hi)).2⟩) (fun i hi => (h i (hl ▸ hi) hi).1 C _ (h0 i (hl ▸ hi))) (fun i hi => hr i (hl ▸ hi)) hk
theorem Wk.ag {cs ds : List V} (hl : cs.length = ds.length) (h : ∀ i (h1 : i < cs.length) (h2 : i < ds.length), Wk cs[i] ds[i]) : Wk (.ag cs) (.ag ds) := fun C v hv => by
  cases hv with
  | ag hn h1 h0 => exact .ag (hn.trans hl) (fun i hi => h1 i (hl ▸ hi)) (fun i hi => h i (hl ▸ hi) hi C _ (h0 i (hl ▸ hi)))

mutual
/-- All ids in a value. -/
def V.ids (p : Nat → Bool) : V → Bool
  | .im _ => true
  | .ag cs => V.idsL p cs
  | .tu cs => V.idsL p cs
  | .sl es k => V.idsL p es && (match k with | .own id => p id | _ => true)
  | .pt id _ => p id
  | .itr id => p id
  | .bs id _ => p id
  | .ep x _ => V.ids p x
  | .fn _ xs ys => V.idsL p xs && V.idsL p ys
  | .gi _ x => V.ids p x
  | .dead => true
def V.idsL (p : Nat → Bool) : List V → Bool
  | [] => true
  | x :: l => V.ids p x && V.idsL p l
end
theorem V.idsL_get {p : Nat → Bool} : ∀ {l : List V}, V.idsL p l = true → ∀ i (hi : i < l.length), l[i].ids p = true
  | x :: l, h, 0, _ => by simp only [V.idsL, Bool.and_eq_true] at h; exact h.1
  | x :: l, h, i + 1, hi => by simp only [V.idsL, Bool.and_eq_true] at h; exact V.idsL_get h.2 i (by simpa using hi)

/-- Only what kp names is still told. -/
def Cf.only (C : Cf) (kp : Nat → Bool) : Cf := { C with st := fun i => if kp i then C.st i else .free }
theorem Cf.only_fix {C : Cf} {kp : Nat → Bool} {b o : Nat} (h : C.fix b o) : (C.only kp).fix b o := by
  refine ⟨h.1, fun i hi => ?_⟩
  show (if kp i then C.st i else .free) = .free ∨ _
  cases hk : kp i with
  | false => left; simp
  | true =>
    rcases h.2 i hi with h1 | ⟨e, z, n, h1, h2⟩
    · left; simpa using h1
    · right; exact ⟨e, z, n, by simpa [Cf.only, hk] using h1, h2⟩
theorem R.only {C : Cf} {kp : Nat → Bool} {x : V} {v : Value} (h : R C x v) : x.ids kp = true → R (C.only kp) x v := by
  induction h with
  | im h => intro _; exact .im h
  | ag hn h1 _ ih => intro hk; exact .ag hn h1 fun i hi => ih i hi (V.idsL_get hk i hi)
  | tu hn _ ih => intro hk; exact .tu hn fun i hi => ih i hi (V.idsL_get hk i hi)
  | @sl es k a cap z u hc hm hz _ hr hko ih =>
    intro hk
    simp only [V.ids, Bool.and_eq_true] at hk
    refine .sl hc hm hz (fun i hi => ih i hi (V.idsL_get hk.1 i hi)) (fun i hi => ?_) ?_
    · obtain ⟨ad, h1, h2⟩ := hr i hi
      exact ⟨ad, h1, fun j c hj => ⟨(h2 j c hj).1, Cf.only_fix (h2 j c hj).2⟩⟩
    · cases k with
      | ro => trivial
      | full => exact hko
      | nl => exact hko
      | nn => exact hko
      | nz => exact hko
      | own id =>
        obtain ⟨e, n, h1, h2⟩ := hko
        refine ⟨e, n, ?_, h2⟩
        have : kp id = true := hk.2
        simpa [Cf.only, this] using h1
  | @pt id off g cs h hb =>
    intro hk
    have : kp id = true := hk
    exact .pt h (by simpa [Cf.only, this] using hb)
  | @bs id n g cap cs h hb hc hm =>
    intro hk
    have : kp id = true := hk
    exact .bs h (by simpa [Cf.only, this] using hb) hc hm
  | @itr id g s pos h hb =>
    intro hk
    have : kp id = true := hk
    exact .itr (s := s) (pos := pos) h (by simpa [Cf.only, this] using hb)
  | ep _ hz hr ih => intro hk; exact .ep (ih hk) hz fun j c hj => ⟨(hr j c hj).1, Cf.only_fix (hr j c hj).2⟩
  | fn h1 h2 _ _ ih1 ih2 =>
    intro hk
    simp only [V.ids, Bool.and_eq_true] at hk
    exact .fn h1 h2 (fun i hi => ih1 i hi (V.idsL_get hk.1 i hi)) (fun i hi => ih2 i hi (V.idsL_get hk.2 i hi))
  | gi _ h0 ih => intro hk; exact .gi (fun hb => ih hb hk) h0
  | dead => intro _; exact .dead
theorem Ok.only {C : Cf} {kp : Nat → Bool} (h : Ok C) (hk : ∀ i cs, C.st i = .box cs → kp i = true → V.idsL kp cs = true) : Ok (C.only kp) where
  box := fun i cs hb => by
    have hb : (if kp i then C.st i else .free) = .box cs := hb
    cases hi : kp i with
    | false => rw [hi] at hb; simp at hb
    | true =>
      rw [hi] at hb
      obtain ⟨g, bs, t, h1, h2, h3, h4, h5⟩ := h.box i cs (by simpa using hb)
      exact ⟨g, bs, t, h1, h2, h3, h4, fun j hj => (h5 j hj).only (V.idsL_get (hk i cs (by simpa using hb) hi) j hj)⟩
  tip := fun i e z n g ht hs => by
    have ht : (if kp i then C.st i else .free) = .tip e z n := ht
    cases hi : kp i with
    | false => rw [hi] at ht; simp at ht
    | true => rw [hi] at ht; exact h.tip i e z n g (by simpa using ht) hs
  iter := fun i s p ht => by
    have ht : (if kp i then C.st i else .free) = .iter s p := ht
    cases hi : kp i with
    | false => rw [hi] at ht; simp at ht
    | true => rw [hi] at ht; exact h.iter i s p (by simpa using ht)
  inj := fun i j g hi hj => by
    have hi : (if kp i then C.st i else .free) ≠ .free := hi
    have hj : (if kp j then C.st j else .free) ≠ .free := hj
    exact h.inj i j g (fun e => hi (by simp [e])) (fun e => hj (by simp [e]))
  avl := h.avl
  bav := fun i cs g o hb hs => by
    have hb : (if kp i then C.st i else .free) = .box cs := hb
    cases hi : kp i with
    | false => rw [hi] at hb; simp at hb
    | true => rw [hi] at hb; exact h.bav i cs g o (by simpa using hb) hs
  gl := fun a ha => by
    obtain ⟨m, h1⟩ := h.gl a ha
    exact ⟨m, h1.1, Cf.only_fix h1.2⟩
theorem Ev.only {C0 C : Cf} {kp : Nat → Bool} (h : Ev C0 C) (hk : ∀ i, C0.st i ≠ .free → kp i = true) : Ev C0 (C.only kp) where
  os := h.os
  tape := h.tape
  output := h.output
  size := h.size
  av := h.av
  rd := fun a v hr => ⟨(h.rd a v hr).1, Cf.only_fix (h.rd a v hr).2⟩
  box := fun i cs hb => by
    obtain ⟨h1, cs', h2⟩ := h.box i cs hb
    exact ⟨h1, cs', by simpa [Cf.only, hk i (by rw [hb]; simp)] using h2⟩
  tip := fun i e z n ht => by
    obtain ⟨n', h1, h2⟩ := h.tip i e z n ht
    exact ⟨n', by simpa [Cf.only, hk i (by rw [ht]; simp)] using h1, h2⟩
  itr := fun i s p hb => by
    obtain ⟨h1, s', p', h2⟩ := h.itr i s p hb
    exact ⟨h1, s', p', by simpa [Cf.only, hk i (by rw [hb]; simp)] using h2⟩
  keep := h.keep
  fresh := fun i b hi hs => h.fresh i b (fun e => hi (by show (if kp i then C.st i else .free) = .free; rw [e]; simp)) hs

theorem Dfr.only {C : Cf} {ds : List Deferred} {kp : Nat → Bool} (h : Dfr B C ds) : Dfr B (C.only kp) ds := by
  obtain ⟨bs, h1, h2, h3⟩ := h
  refine ⟨bs, h1, h2, fun b hb => ?_⟩
  obtain ⟨k1, k2, k3⟩ := h3 b hb
  refine ⟨k1, k2, fun i hi => ?_⟩
  show (if kp i then C.st i else .free) = .free
  split
  · exact k3 i hi
  · rfl
/-- Where the deferred calls of a function lie at the least; a round has none. -/
def bnd (ro : Option Nat) (w : World) : Option Nat := match ro with
  | none => some w.heap.size
  | some _ => none
/-- The code c, begun in the state A, of a function that was entered with the store st0, ends as Q says. -/
def AWpK (K : Option Nat → Prop) (P : Program) (st0 : Nat → Ent) (c : Code) (Q : Exit → St → Prop) (A : St) : Prop :=
  ∀ (C0 C : Cf) (a : Act) (ro : Option Nat) (n : Nat), K ro → C0.st = st0 → Ev C0 C → Sim (bnd ro C0.w) C A a → c.wpIn (FR ro) n P (fun e a' w' => ∃ A' D, Q e A' ∧ Sim (bnd ro C0.w) D A' a' ∧ D.w = w' ∧ Ev C0 D) a C.w
abbrev AWp (P : Program) (st0 : Nat → Ent) (c : Code) (Q : Exit → St → Prop) (A : St) : Prop := AWpK (fun ro => ro = none) P st0 c Q A
section
variable {K : Option Nat → Prop} {P : Program} {st0 : Nat → Ent} {Q : Exit → St → Prop} {A : St}
theorem AWp.mono {c : Code} {Q' : Exit → St → Prop} (h : AWpK K P st0 c Q A) (hq : ∀ e A, Q e A → Q' e A) : AWpK K P st0 c Q' A :=
  fun C0 C a ro n hK h0 hE hS => wpIn_mono (h C0 C a ro n hK h0 hE hS) fun e _ _ ⟨A', D, h1, h2⟩ => ⟨A', D, hq e A' h1, h2⟩
theorem AWp.skip (h : Q .normal A) : AWpK K P st0 .skip Q A := fun _ C _ _ _ _ _ hE hS => wpIn_skip ⟨A, C, h, hS, rfl, hE⟩
theorem AWp.label {l : Nat} (h : Q .normal A) : AWpK K P st0 (.label l) Q A := fun _ C _ _ _ _ _ hE hS => wpIn_label ⟨A, C, h, hS, rfl, hE⟩
theorem AWp.exit {id : Nat} (h : Q (.exit id) A) : AWpK K P st0 (.exit id) Q A := fun _ C _ _ _ _ _ hE hS => wpIn_exit ⟨A, C, h, hS, rfl, hE⟩
theorem AWp.ret (h : Q .ret A) : AWpK K P st0 .ret Q A := fun _ C _ _ _ _ _ hE hS => wpIn_ret ⟨A, C, h, hS, rfl, hE⟩
def Thn (K : Option Nat → Prop) (P : Program) (st0 : Nat → Ent) (y : Code) (Q : Exit → St → Prop) : Exit → St → Prop
  | .normal, A => AWpK K P st0 y Q A
  | e, A => Q e A
theorem AWp.seq {x y : Code} (h : AWpK K P st0 x (Thn K P st0 y Q) A) : AWpK K P st0 (.seq x y) Q A := by
  intro C0 C a ro n hK h0 hE hS
  refine wpIn_seq (wpIn_mono (h C0 C a ro n hK h0 hE hS) ?_)
  rintro e a' w' ⟨A', D, h1, h2, rfl, h4⟩
  cases e with
  | normal => exact h1 C0 D a' ro n hK h0 h4 h2
  | _ => exact ⟨A', D, h1, h2, rfl, h4⟩
theorem AWp.cond {c : Operand} {x y : Code} {b : Bool} (hc : A.ev c = .im (.bool b)) (h1 : b = true → AWpK K P st0 x Q A) (h2 : b = false → AWpK K P st0 y Q A) : AWpK K P st0 (.cond c x y) Q A := by
  intro C0 C a ro n hK h0 hE hS
  have h3 := hS.ev c
  rw [hc] at h3
  refine wpIn_cond_split h3.of_some_bool (fun h => h1 h C0 C a ro n hK h0 hE hS) (fun h => h2 h C0 C a ro n hK h0 hE hS)
theorem AWp.condT {c : Operand} {x y : Code} (hc : A.ev c = .im (.bool true)) (h1 : AWpK K P st0 x Q A) : AWpK K P st0 (.cond c x y) Q A := AWp.cond hc (fun _ => h1) (fun h => by cases h)
theorem AWp.condF {c : Operand} {x y : Code} (hc : A.ev c = .im (.bool false)) (h1 : AWpK K P st0 y Q A) : AWpK K P st0 (.cond c x y) Q A := AWp.cond hc (fun h => by cases h) (fun _ => h1)
def Blk' (id : Nat) (Q : Exit → St → Prop) : Exit → St → Prop
  | .exit id', A => if id' = id then Q .normal A else Q (.exit id') A
  | e, A => Q e A
theorem AWp.block {id : Nat} {c : Code} (h : AWpK K P st0 c (Blk' id Q) A) : AWpK K P st0 (.block id c) Q A := by
  intro C0 C a ro n hK h0 hE hS
  refine wpIn_block (wpIn_mono (h C0 C a ro n hK h0 hE hS) ?_)
  rintro e a' w' ⟨A', D, h1, h2, rfl, h4⟩
  cases e with
  | exit id' =>
    simp only [Exit.inBlock]
    simp only [Blk'] at h1
    split
    · rename_i he; rw [if_pos he] at h1; exact ⟨A', D, h1, h2, rfl, h4⟩
    · rename_i he; rw [if_neg he] at h1; exact ⟨A', D, h1, h2, rfl, h4⟩
  | _ => exact ⟨A', D, h1, h2, rfl, h4⟩
theorem AWp.region {id : Nat} {l : List Oper} (h : AR P l.toArray false (Q .normal) l 0 A []) : AWpK K P st0 (.region id l.toArray false) Q A :=
  fun _ _ _ _ _ _ _ hE hS => AR.plain h hS fun F D _ h1 h2 h3 => ⟨F, D, h1, h2, rfl, hE.trans h3⟩
theorem AWp.regionD {id : Nat} {l : List Oper} (hm : P.follows .mixedOrders = true) (h : AR P l.toArray true (Q .normal) l 0 A []) : AWpK K P st0 (.region id l.toArray true) Q A :=
  fun _ _ _ _ _ _ _ hE hS => AR.drawn hm h hS fun F D _ h1 h2 h3 => ⟨F, D, h1, h2, rfl, hE.trans h3⟩
/-- Less may be said of the state. -/
theorem AWp.weak {c : Code} (kp : Nat → Bool) (s' : List V) (h : AWpK K P st0 c Q ⟨s', fun i => if kp i then A.st i else .free⟩) (hl : s'.length = A.s.length) (hw : ∀ t, Wk (A.s.getD t .dead) (s'.getD t .dead))
    (hk : ∀ i, st0 i ≠ .free → kp i = true) (hs : V.idsL kp s' = true) (hb : ∀ i cs, A.st i = .box cs → kp i = true → V.idsL kp cs = true) : AWpK K P st0 c Q A := by
  intro C0 C a ro n hK h0 hE hS
  refine h C0 (C.only kp) a ro n hK h0 (hE.only fun i hi => hk i (h0 ▸ hi)) ?_
  refine ⟨?_, hS.ok.only (by rw [hS.st]; exact hb), hS.defers.only, hS.size.trans hl.symm, fun t ht => ?_⟩
  · show (fun i => if kp i then C.st i else .free) = _
    rw [hS.st]
  · have h1 := hw t C _ (hS.slot t (hl ▸ ht))
    refine h1.only ?_
    have h2 := V.idsL_get hs t ht
    have h3 : s'.getD t .dead = s'[t] := by simp [List.getD, ht]
    rw [h3]
    exact h2

/-- Inside a loop: another round begins. -/
def ALp (K : Option Nat → Prop) (P : Program) (st0 : Nat → Ent) (c : Code) (Q : Exit → St → Prop) (A : St) : Prop :=
  ∀ (C0 C : Cf) (a : Act) (ro : Option Nat) (n : Nat), K ro → C0.st = st0 → Ev C0 C → Sim (bnd ro C0.w) C A a → ∀ (b : Frame) (k : List Item) (cs : List Frame), b.roundOf = (FR ro).round → (FR ro).fn b.fn → (FR ro).room (cs.length + 1 + n) →
    ∃ e a' w', (∃ A' D, Q e A' ∧ Sim (bnd ro C0.w) D A' a' ∧ D.w = w' ∧ Ev C0 D) ∧ ArrivesIn (Machine.fenced P (FR ro)) P (lone (b.atR a (.code c :: .inLoop c :: k)) cs C.w) b k cs e a' w'
theorem AWp.loop {c : Code} (h : ALp K P st0 c Q A) : AWpK K P st0 (.loop c) Q A := by
  intro C0 C a ro n hK h0 hE hS b k cs hro hb hr
  obtain ⟨e, a', w', h1, h2⟩ := h C0 C a ro n hK h0 hE hS b k cs hro hb hr
  exact ⟨e, a', w', h1, .of_steps (.one (fenced_calm hb hr rfl) stepR_loop) h2⟩
def Rnd (K : Option Nat → Prop) (P : Program) (st0 : Nat → Ent) (c : Code) (Q : Exit → St → Prop) : Exit → St → Prop
  | .normal, A => ALp K P st0 c Q A
  | e, A => Q e A
theorem ALp.round {c : Code} (h : AWpK K P st0 c (Rnd K P st0 c Q) A) : ALp K P st0 c Q A := by
  intro C0 C a ro n hK h0 hE hS b k cs hro hb hr
  obtain ⟨e, a₁, w₁, ⟨A', D, h1, h2, rfl, h4⟩, harr⟩ := h C0 C a ro n hK h0 hE hS b (.inLoop c :: k) cs hro hb hr
  cases e with
  | normal =>
    obtain ⟨e₂, a₂, w₂, k1, k2⟩ := h1 C0 D a₁ ro n hK h0 h4 h2 b k cs hro hb hr
    exact ⟨e₂, a₂, w₂, k1, .of_steps (StepsIn.trans harr (.one (fenced_calm hb hr rfl) stepR_inLoop)) k2⟩
  | exit id => exact ⟨_, a₁, _, ⟨A', D, h1, h2, rfl, h4⟩, .pass (x := .inLoop c) rfl (fun _ _ => .inl (by simp)) harr⟩
  | goto l => exact ⟨_, a₁, _, ⟨A', D, h1, h2, rfl, h4⟩, .pass (x := .inLoop c) rfl (fun _ _ => .inl (by simp)) harr⟩
  | ret => exact ⟨_, a₁, _, ⟨A', D, h1, h2, rfl, h4⟩, .pass (x := .inLoop c) rfl (fun _ _ => .inl (by simp)) harr⟩
  | panic ch => exact ⟨_, a₁, _, ⟨A', D, h1, h2, rfl, h4⟩, .pass (x := .inLoop c) rfl (fun _ _ => .inl (by simp)) harr⟩
  | outgrown => exact ⟨_, a₁, _, ⟨A', D, h1, h2, rfl, h4⟩, .pass (x := .inLoop c) rfl (fun _ _ => .inl (by simp)) harr⟩
theorem ALp.weak {c : Code} (kp : Nat → Bool) (s' : List V) (h : ALp K P st0 c Q ⟨s', fun i => if kp i then A.st i else .free⟩) (hl : s'.length = A.s.length) (hw : ∀ t, Wk (A.s.getD t .dead) (s'.getD t .dead))
    (hk : ∀ i, st0 i ≠ .free → kp i = true) (hs : V.idsL kp s' = true) (hb : ∀ i cs, A.st i = .box cs → kp i = true → V.idsL kp cs = true) : ALp K P st0 c Q A := by
  intro C0 C a ro n hK h0 hE hS
  refine h C0 (C.only kp) a ro n hK h0 (hE.only fun i hi => hk i (h0 ▸ hi)) ?_
  refine ⟨?_, hS.ok.only (by rw [hS.st]; exact hb), hS.defers.only, hS.size.trans hl.symm, fun t ht => ?_⟩
  · show (fun i => if kp i then C.st i else .free) = _
    rw [hS.st]
  · have h1 := hw t C _ (hS.slot t (hl ▸ ht))
    refine h1.only ?_
    have h2 := V.idsL_get hs t ht
    have h3 : s'.getD t .dead = s'[t] := by simp [List.getD, ht]
    rw [h3]
    exact h2
end

/-! ### Functions -/
/-- Function f has a body of its own. -/
def goFn (P : Program) (f : FuncId) : Bool :=
  match P.funcs[f]? with
  | some fn => fn.name != "runtime.NumGoroutine" && fn.body.isSome
  | none => false
theorem run_callFunc {P : Program} {f : FuncId} (h : goFn P f = true) (args : Array Value) (w : World) : (callFunc f args).run P w = .ok (.enter f args) w := by
  unfold goFn at h
  cases hf : P.funcs[f]? with
  | none => rw [hf] at h; cases h
  | some fn =>
    rw [hf] at h
    simp only [Bool.and_eq_true, bne_iff_ne, ne_eq] at h
    have h2 : fn.body.isNone = false := by cases hb : fn.body <;> simp [hb] at h ⊢
    have h1 : (fn.name == "runtime.NumGoroutine") = false := by simpa using h.1
    have h3 : ¬ fn.name = "runtime.NumGoroutine" := h.1
    have h4 : ¬ fn.body = none := by cases hb : fn.body <;> simp [hb] at h ⊢
    simp [callFunc, program, Sem.run, hf, h3, h4]

/-- The contract of a function: handed the trees xs, with the store st, it hands back x and leaves st', as Q says. -/
def ACalls (P : Program) (f : FuncId) (xs : List V) (st : Nat → Ent) (Q : V → (Nat → Ent) → Prop) : Prop :=
  goFn P f = true ∧ ∀ (C : Cf) (vs : Array Value), C.st = st → Ok C → vs.size = xs.length → (∀ i (h : i < xs.length), R C xs[i] (vs.getD i undef)) →
    Calls P f vs C.w fun e w' => ∃ v x st', e = .returned v ∧ Q x st' ∧ Good C st' x w' v
theorem ACalls.mono {P : Program} {f : FuncId} {xs : List V} {st : Nat → Ent} {Q Q' : V → (Nat → Ent) → Prop} (h : ACalls P f xs st Q) (hq : ∀ x st, Q x st → Q' x st) : ACalls P f xs st Q' :=
  ⟨h.1, fun C vs h1 h2 h3 h4 => (h.2 C vs h1 h2 h3 h4).mono fun _ _ ⟨v, x, st', k1, k2, k3⟩ => ⟨v, x, st', k1, hq _ _ k2, k3⟩⟩
def stF : Nat → Ent := fun _ => .free
/-- Handed nothing that may be written to: the answer is r. -/
def PC (P : Program) (f : FuncId) (xs : List V) (r : V) : Prop := ACalls P f xs stF fun x st => x = r ∧ st = stF

/-- What is handed back. -/
def resC (P : Program) (A : St) : ResultVar → V → Prop
  | .tmp t, x => x = A.ev (.tmp t)
  | .cell t ty, x => ∃ id cs, A.ev (.tmp t) = .pt id 0 ∧ A.st id = .box cs ∧ ((∃ i, P.info? ty = some i ∧ ((P.underlying ty).map fun d => match d with | .struct _ | .array _ _ => true | _ => false) = some true ∧ cs.length = i.size ∧ x = .ag cs) ∨
      (((P.underlying ty).map fun d => match d with | .struct _ | .array _ _ => true | _ => false) = some false ∧ cs[0]? = some x))
def resV (P : Program) (fn : Func) (A : St) (x : V) : Prop :=
  (∃ r, fn.results = #[r] ∧ resC P A r x) ∨ (fn.results.size ≠ 1 ∧ ∃ xs : List V, x = .tu xs ∧ xs.length = fn.results.size ∧ ∀ i (h : i < fn.results.size) (h' : i < xs.length), resC P A fn.results[i] xs[i])
/-- In the store st, of which kp is kept: y says no more than x. -/
def WkF (st : Nat → Ent) (kp : Nat → Bool) (x y : V) : Prop := ∀ (C : Cf) (v : Value), C.st = st → Ok C → R C x v → R (C.only kp) y v
theorem WkF.of {st : Nat → Ent} {kp : Nat → Bool} {x y : V} (h : Wk x y) (hi : y.ids kp = true) : WkF st kp x y := fun C v _ _ hR => (h C v hR).only hi
/-- How a body ends. -/
def Fin (P : Program) (fn : Func) (st0 : Nat → Ent) (Q : V → (Nat → Ent) → Prop) (e : Exit) (A : St) : Prop :=
  (e = .normal ∨ e = .ret) ∧ ∃ x y kp, resV P fn A x ∧ WkF A.st kp x y ∧ (∀ i, st0 i ≠ .free → kp i = true) ∧ (∀ i cs, A.st i = .box cs → kp i = true → V.idsL kp cs = true) ∧ Q y (fun i => if kp i then A.st i else .free)

theorem run_loadVar_cells {P : Program} {w : World} {ty : TypeId} {i : TypeInfo} {a : Addr} {cs : List Value} (hi : P.info? ty = some i) (ha : ((P.underlying ty).map fun d => match d with | .struct _ | .array _ _ => true | _ => false) = some true)
    (hn : cs.length = i.size) (h : ∀ j v, cs[j]? = some v → w.cell? (a.add j) = some v) : (loadVar ty a).run P w = .ok (.agg cs.toArray) w := by
  have h1 := run_loadCells_list (P := P) w a cs h
  cases hu : P.underlying ty with
  | none => rw [hu] at ha; cases ha
  | some d =>
    rw [hu] at ha
    cases d <;> first
      | (simp at ha; done)
      | simp [loadVar, isAgg, run_underlying hu, sizeOf, typeInfo, program, Sem.run, hi, ← hn, h1]

theorem run_loadVar_cell1 {P : Program} {w : World} {ty : TypeId} {a : Addr} {v : Value} (ha : ((P.underlying ty).map fun d => match d with | .struct _ | .array _ _ => true | _ => false) = some false)
    (h : w.cell? a = some v) : (loadVar ty a).run P w = .ok v w := by
  cases hu : P.underlying ty with
  | none => rw [hu] at ha; cases ha
  | some d =>
    rw [hu] at ha
    cases d <;> first
      | (simp at ha; done)
      | simp [loadVar, isAgg, run_underlying hu, h]
def resOne (tmps : Array Value) : ResultVar → Sem Value
  | .tmp t => pure (tmps.getD t undef)
  | .cell a t => do loadVar t (← asAddr (tmps.getD a undef))
theorem results_eq (fn : Func) (tmps : Array Value) : results fn tmps = (do
    let vs ← fn.results.mapM (resOne tmps)
    pure (if h : vs.size = 1 then vs[0] else .tuple vs)) := rfl
theorem resC_sound {P : Program} {A : St} {r : ResultVar} {x : V} {C : Cf} {a : Act} (hS : Sim B C A a) (h : resC P A r x) :
    ∃ v, Sem.run P (resOne a.tmps r) C.w = .ok v C.w ∧ R C x v := by
  cases r with
  | tmp t =>
    obtain rfl : x = A.ev (.tmp t) := h
    exact ⟨_, rfl, hS.slot' t⟩
  | cell t ty =>
    obtain ⟨id, cs, h1, h2, h3⟩ := h
    have h6 := hS.slot' t
    rw [h1] at h6
    have h7 : a.eval (.tmp t) = a.tmps.getD t undef := rfl
    rw [h7] at h6
    generalize hv : a.tmps.getD t undef = v at h6
    cases h6 with
    | @pt _ _ g cs' hg hb =>
      obtain ⟨g', bs, ty', k1, k2, k3, k4, k5⟩ := hS.ok.box id cs (by rw [hS.st]; exact h2)
      obtain rfl : g = g' := Option.some.inj (hg.symm.trans k1)
      rcases h3 with ⟨i, h3, h4, h5, rfl⟩ | ⟨h4, h5⟩
      case inr =>
        obtain ⟨h0, h5⟩ := List.getElem?_eq_some_iff.1 h5
        have hb0 : 0 < bs.size := by omega
        have h8 := k5 0 h0
        rw [h5] at h8
        have := run_loadVar_cell1 (P := P) (w := C.w) (a := ⟨g, 0, none⟩) (v := bs.getD 0 undef) h4 (by simp [World.cell?, k2, hb0])
        exact ⟨bs.getD 0 undef, by simp only [resOne, hv, asAddr, Sem.run_bind, Sem.run_pure, Result.andThen_ok, this], h8⟩
      have hm : ∀ j, (bs.toList.take cs.length).toArray.getD j undef = if j < cs.length then bs.getD j undef else undef := fun j => by
        by_cases hj : j < cs.length <;> simp [Array.getD_eq_getD_getElem?, List.getElem?_take, hj]
      refine ⟨.agg (bs.toList.take cs.length).toArray, ?_, .ag (by simp; omega) (fun j hj => by rw [hm, if_pos hj]; exact k4 j hj) (fun j hj => by rw [hm, if_pos hj]; exact k5 j hj)⟩
      have := run_loadVar_cells (P := P) (w := C.w) (ty := ty) (a := ⟨g, 0, none⟩) (cs := bs.toList.take cs.length) h3 h4 (by simp; omega) (fun j v hj => by
        have hadd : (⟨g, 0, none⟩ : Addr).add j = ⟨g, j, none⟩ := by unfold Addr.add; split <;> simp_all
        rw [hadd]
        rw [List.getElem?_take] at hj
        split at hj
        · simpa [World.cell?, k2] using hj
        · cases hj)
      simp only [resOne, hv, asAddr, Sem.run_bind, Sem.run_pure, Result.andThen_ok]
      simpa using this

theorem run_mapM_results {P : Program} {A : St} {C : Cf} {a : Act} (hS : Sim B C A a) : ∀ (l : List ResultVar) (xs : List V), xs.length = l.length → (∀ i (h : i < l.length) (h' : i < xs.length), resC P A l[i] xs[i]) →
    ∃ vs : List Value, vs.length = l.length ∧ Sem.run P (l.mapM (resOne a.tmps)) C.w = Result.ok vs C.w ∧ ∀ i (h : i < xs.length) (h' : i < vs.length), R C xs[i] vs[i] := by
  intro l
  induction l with
  | nil =>
    intro xs hx _
    exact ⟨[], rfl, rfl, fun i h => by simp [hx] at h⟩
  | cons r l ih =>
    intro xs hx h
    cases xs with
    | nil => cases hx
    | cons x xs =>
      obtain ⟨v, h1, h2⟩ := resC_sound hS (h 0 (by simp) (by simp))
      obtain ⟨vs, h3, h4, h5⟩ := ih xs (by simpa using hx) (fun i k k' => h (i + 1) (by simpa using k) (by simpa using k'))
      refine ⟨v :: vs, by simp [h3], ?_, fun i k k' => ?_⟩
      · rw [List.mapM_cons]
        simp only [List.getElem_cons_zero] at h1
        simp only [Sem.run_bind, h1, Result.andThen_ok, h4, Sem.run_pure]
      · cases i with
        | zero => exact h2
        | succ i => exact h5 i (by simpa using k) (by simpa using k')

theorem resV_sound {P : Program} {fn : Func} {A : St} {x : V} {C : Cf} {a : Act} (hS : Sim B C A a) (h : resV P fn A x) : ∃ v, (results fn a.tmps).run P C.w = .ok v C.w ∧ R C x v := by
  rw [results_eq]
  rcases h with ⟨r, h1, h2⟩ | ⟨h1, xs, rfl, h2, h3⟩
  · obtain ⟨v, h3, h4⟩ := resC_sound hS h2
    refine ⟨v, ?_, h4⟩
    rw [h1]
    simp [h3]
  · obtain ⟨vs, k1, k2, k3⟩ := run_mapM_results (P := P) hS fn.results.toList xs (by simpa using h2) (fun i h h' => by simpa using h3 i (by simpa using h) h')
    have hsz : vs.toArray.size ≠ 1 := by simpa [k1] using h1
    refine ⟨.tuple vs.toArray, ?_, .tu (by simp [k1, h2]) (fun i hi => ?_)⟩
    · have e : fn.results.mapM (resOne a.tmps) = List.toArray <$> fn.results.toList.mapM (resOne a.tmps) := by
        rw [← List.mapM_toArray, Array.toArray_toList]
      rw [e]
      simp only [Sem.run_bind, map_eq_pure_bind, k2, Result.andThen_ok, Sem.run_pure, dif_neg hsz]
    · have : i < vs.length := by rw [k1]; simpa [← h2] using hi
      simpa [this] using k3 i hi this

/-- A block that nobody speaks of, and that holds no cells, is turned. -/
theorem Ok.turn {C : Cf} {b : Nat} {o o' : Obj} (hC : Ok C) (hb : C.w.heap[b]? = some o) (hn : ∀ cs t fr, o ≠ .cells cs t fr) (hs : ∀ i, C.σ i = some b → C.st i = .free) :
    (∀ a v, C.rd a v → (C.withW (C.w.putObj b o')).rd a v) ∧ (∀ g, g ≠ b → (C.w.putObj b o').heap[g]? = C.w.heap[g]?) := by
  have hoth : ∀ g, g ≠ b → (C.w.putObj b o').heap[g]? = C.w.heap[g]? := fun g hg => by simp [World.putObj, Array.getElem?_setIfInBounds_ne (Ne.symm hg)]
  refine ⟨fun a v h => ⟨?_, h.2⟩, hoth⟩
  by_cases he : a.block = b
  · exfalso
    have h1 := h.1
    obtain ⟨ab, ao, asp⟩ := a
    subst he
    simp only [World.cell?, hb] at h1
    cases o <;> first | (exact hn _ _ _ rfl) | simp at h1
  · exact (World.cell?_of_block (hoth _ he)).trans h.1
theorem turn_ev {C0 C : Cf} {b : Nat} {o o' : Obj} (hE : Ev C0 C) (hC : Ok C) (hlo : C0.w.heap.size ≤ b) (hb : C.w.heap[b]? = some o) (hn : ∀ cs t fr, o ≠ .cells cs t fr) (hs : ∀ i, C.σ i = some b → C.st i = .free) : Ev C0 (C.withW (C.w.putObj b o')) := by
  obtain ⟨h1, h2⟩ := hC.turn (o' := o') hb hn hs
  refine ⟨hE.os, hE.tape, hE.output, by simpa [Cf.withW, World.putObj] using hE.size, hE.av, fun a v h => h1 a v (hE.rd a v h), hE.box, fun i e z n h => ?_, hE.itr, fun g hg hf => ?_, hE.fresh⟩
  · obtain ⟨n', k1, k2, k3⟩ := hE.tip i e z n h
    refine ⟨n', k1, k2, fun hn' => ?_⟩
    obtain ⟨k4, k5⟩ := k3 hn'
    refine ⟨k4, fun g cur hg hc => ?_⟩
    obtain ⟨cur', k6, k7⟩ := k5 g cur hg hc
    refine ⟨cur', (h2 g fun e => ?_).trans k6, k7⟩
    have hlt := (Array.getElem?_eq_some_iff.1 hc).1
    omega
  · exact (h2 g (by omega)).trans (hE.keep g hg hf)
theorem R.rds {C D : Cf} (hσ : D.σ = C.σ) (hst : D.st = C.st) (hrd : ∀ a v, C.rd a v → D.rd a v) (hcell : ∀ (g : Nat) (cur : Array Value) (e : TypeId), C.w.heap[g]? = some (Obj.cells cur e (0, 0)) → D.w.heap[g]? = some (Obj.cells cur e (0, 0))) {x : V} {v : Value} (h : R C x v) : R D x v := by
  induction h with
  | im h => exact .im h
  | ag hn h1 _ ih => exact .ag hn h1 ih
  | tu hn _ ih => exact .tu hn ih
  | sl hc hm hz _ hr hk ih =>
    refine .sl hc hm hz ih (fun i hi => ?_) ?_
    · obtain ⟨ad, h1, h2⟩ := hr i hi
      exact ⟨ad, h1, fun j c hj => hrd _ _ (h2 j c hj)⟩
    · rename_i k _ _ _ _ _
      cases k with
      | ro => trivial
      | full => exact hk
      | nl => exact hk
      | nn => exact hk
      | nz => exact hk
      | own id =>
        obtain ⟨e, n, h1, h2, h3⟩ := hk
        refine ⟨e, n, by rw [hst]; exact h1, h2, fun h => ?_⟩
        rcases h3 h with ⟨k1, k2⟩ | ⟨g, cur, k1, k2, k3, k4⟩
        · exact .inl ⟨by rw [hσ]; exact k1, k2⟩
        · exact .inr ⟨g, cur, by rw [hσ]; exact k1, k2, hcell _ _ _ k3, k4⟩
  | pt h hb => exact .pt (by rw [hσ]; exact h) (by rw [hst]; exact hb)
  | itr h hb => exact .itr (by rw [hσ]; exact h) (by rw [hst]; exact hb)
  | bs h hb hc hm => exact .bs (by rw [hσ]; exact h) (by rw [hst]; exact hb) hc hm
  | ep _ hz hr ih => exact .ep ih hz fun j c hj => hrd _ _ (hr j c hj)
  | fn h1 h2 _ _ ih1 ih2 => exact .fn h1 h2 ih1 ih2
  | gi _ h0 ih => exact .gi ih h0
  | dead => exact .dead
theorem Ok.turned {C : Cf} {b : Nat} {o o' : Obj} (hC : Ok C) (hb : C.w.heap[b]? = some o) (hn : ∀ cs t fr, o ≠ .cells cs t fr) (hni : ∀ s p, o ≠ .stringIter s p) (hs : ∀ i, C.σ i = some b → C.st i = .free) :
    Ok (C.withW (C.w.putObj b o')) ∧ ∀ x v, R C x v → R (C.withW (C.w.putObj b o')) x v := by
  obtain ⟨h1, h2⟩ := hC.turn (o' := o') hb hn hs
  have hc : ∀ (g : Nat) (cur : Array Value) (e : TypeId) (fr : Nat × Nat), C.w.heap[g]? = some (Obj.cells cur e fr) → (C.w.putObj b o').heap[g]? = some (Obj.cells cur e fr) := fun g cur e fr h => by
    rw [h2 g (fun e' => by subst e'; rw [hb] at h; cases h; exact hn _ _ _ rfl)]
    exact h
  have hR : ∀ x v, R C x v → R (C.withW (C.w.putObj b o')) x v := fun x v h => R.rds (C := C) (D := C.withW (C.w.putObj b o')) rfl rfl h1 (fun g cur e h => hc g cur e _ h) h
  refine ⟨⟨fun i cs h => ?_, fun i e z n g h h' => ?_, fun i s p h => ?_, hC.inj, fun b o h => ?_, hC.bav, fun a ha => ?_⟩, hR⟩
  · obtain ⟨g, bs, t, k1, k2, k3, k4, k5⟩ := hC.box i cs h
    exact ⟨g, bs, t, k1, hc _ _ _ _ k2, k3, k4, fun j hj => hR _ _ (k5 j hj)⟩
  · obtain ⟨cur, k1, k2⟩ := hC.tip i e z n g h h'
    exact ⟨cur, hc _ _ _ _ k1, k2⟩
  · obtain ⟨g, k1, k2⟩ := hC.iter i s p h
    refine ⟨g, k1, (h2 g fun e => ?_).trans k2⟩
    subst e
    rw [hb] at k2
    cases k2
    exact hni _ _ rfl
  · have := hC.avl b o h
    simpa [Cf.withW, World.putObj] using this
  · obtain ⟨m, k⟩ := hC.gl a ha
    exact ⟨m, h1 _ _ k⟩
theorem ACalls.enter {P : Program} {f : FuncId} {fn : Func} {c : Code} {xs : List V} {st : Nat → Ent} {Q : V → (Nat → Ent) → Prop} (hf : P.funcs[f]? = some fn) (hb : fn.body = some c) (hn : fn.name ≠ "runtime.NumGoroutine")
    (h : AWp P st c (Fin P fn st Q) ⟨xs ++ List.replicate (fn.ntmps - xs.length) .dead, st⟩) : ACalls P f xs st Q := by
  refine ⟨by simp [goFn, hf, hb, hn], fun C vs hst hC hsz hR => ?_⟩
  refine callsIn_wide.1 (callsIn_of_wp_marks (F := Fence.wide) (n := 0) hf hb trivial (wpIn_mono (h C C { tmps := vs ++ Array.replicate (fn.ntmps - vs.size) undef, defers := [] } none 0 rfl hst (Ev.refl C) ⟨hst, hC, .nil, by simp [hsz], fun t ht => ?_⟩) ?_))
  · by_cases h1 : t < xs.length
    · have h2 := hR t h1
      have h3 : t < vs.size := by omega
      simpa [List.getD, List.getElem?_append, h1, Array.getElem?_append, h3] using h2
    · have : (xs ++ List.replicate (fn.ntmps - xs.length) V.dead).getD t .dead = .dead := by
        simp only [List.getD, List.getElem?_append, if_neg h1, List.getElem?_replicate]
        split <;> rfl
      rw [this]
      exact .dead
  · rintro e a' w' ⟨A', D, ⟨h1, x, y, kp, h2, h3, h5, h6, h7⟩, hS, rfl, hE⟩
    have fin : ∀ D' : Cf, Sim (bnd none C.w) D' A' { a' with defers := [] } → Ev C D' → ∃ v', (results fn a'.tmps).run P D'.w = .ok v' D'.w ∧ ∃ v x st', Ending.returned v' = .returned v ∧ Q x st' ∧ Good C st' x D'.w v := by
      intro D' hS' hE'
      obtain ⟨v, k1, k2⟩ := resV_sound hS' h2
      refine ⟨v, k1, v, y, _, rfl, h7, D'.only kp, rfl, ?_, hS'.ok.only (by rw [hS'.st]; exact h6), hE'.only (by rw [hst]; exact h5), h3 D' v hS'.st hS'.ok k2⟩
      show (fun i => if kp i then D'.st i else .free) = _
      rw [hS'.st]
    have lv : ∀ (bs : List Nat) (D : Cf), D.st = A'.st → Ok D → (∀ t, t < A'.s.length → R D (A'.s.getD t .dead) (a'.tmps.getD t undef)) → Ev C D → bs.Nodup →
        (∀ b ∈ bs, C.w.heap.size ≤ b ∧ D.w.heap[b]? = some (.deferred (some [])) ∧ ∀ i, D.σ i = some b → D.st i = .free) →
        LeavesInM Fence.wide 0 P fn a'.tmps (fun e w' => ∃ v x st', e = .returned v ∧ Q x st' ∧ Good C st' x w' v) (bs.map fun b => { target := .collected b, args := #[] }) .returning D.w := by
      intro bs
      induction bs with
      | nil => intro D q1 q2 q3 q4 _ _; exact fin D ⟨q1, q2, .nil, hS.size, q3⟩ q4
      | cons b bs ih =>
        intro D q1 q2 q3 q4 q5 q6
        obtain ⟨hlo, hbk, hs⟩ := q6 b (by simp)
        refine ⟨by simp, .inl ⟨b, _, rfl, run_takeDeferred hbk, ?_⟩⟩
        have hnc : ∀ cs t fr, Obj.deferred (some []) ≠ .cells cs t fr := fun _ _ _ e => by cases e
        obtain ⟨r1, r2⟩ := q2.turned (o' := .deferred none) hbk hnc (fun _ _ e => by cases e) hs
        have r3 := (q2.turn (o' := .deferred none) hbk hnc hs).2
        refine ih (D.withW (D.w.putObj b (.deferred none))) q1 r1 (fun t ht => r2 _ _ (q3 t ht)) (turn_ev q4 q2 hlo hbk hnc hs) (List.nodup_cons.1 q5).2 fun b' hb' => ?_
        obtain ⟨s1, s2, s3⟩ := q6 b' (by simp [hb'])
        exact ⟨s1, (r3 b' (fun e => (List.nodup_cons.1 q5).1 (e ▸ hb'))).trans s2, s3⟩
    have lv : LeavesInM Fence.wide 0 P fn a'.tmps (fun e w' => ∃ v x st', e = .returned v ∧ Q x st' ∧ Good C st' x w' v) a'.defers .returning D.w := by
      obtain ⟨bs, d1, d2, d3⟩ := hS.defers
      rw [d1]
      refine lv bs D hS.st hS.ok hS.slot hE d2 fun b hb => ?_
      obtain ⟨⟨lo, e1, e2⟩, k2, k3⟩ := d3 b hb
      cases e1
      exact ⟨e2, k2, k3⟩
    rcases h1 with rfl | rfl
    · exact lv
    · exact lv

end Go.Proofs.Ytfggemopnlffeaa
/- What becomes of memory: a new box, a new block that nobody writes to, a store into a box; loads. -/
namespace Go.Proofs.Ytfggemopnlffeaa
set_option linter.unusedSimpArgs false
set_option linter.unusedVariables false
set_option linter.unnecessarySimpa false
open Go.RowKit

/-- A value that lies in cells, each of them one cell. -/
def V.live : V → Bool
  | .tu _ => false
  | .gi _ _ => false
  | .dead => false
  | _ => true
theorem R.live {C : Cf} {x : V} {v : Value} (h : R C x v) (hl : x.live = true) :
    v.cells.size = x.size ∧ ∀ j (hj : j < x.cells.length), (v.cells.getD j undef).oneCell' = true ∧ R C x.cells[j] (v.cells.getD j undef) := by
  have hd : x.firm = true := by cases x <;> first | rfl | cases hl
  refine ⟨h.cells_size hd, fun j hj => ⟨?_, h.cells hd j hj⟩⟩
  cases h with
  | im h =>
    obtain rfl : j = 0 := by simpa [V.cells] using hj
    cases ‹Value› <;> first | rfl | simp [Value.oneCell'] at h
  | ag hn h1 h => exact h1 j hj
  | tu => cases hl
  | dead => cases hl
  | gi => cases hl
  | _ =>
    obtain rfl : j = 0 := by simpa [V.cells] using hj
    rfl
theorem R.one {C : Cf} {x : V} {v : Value} (h : R C x v) (hl : x.live = true) (ha : ∀ cs, x ≠ .ag cs) : v.oneCell' = true ∧ x.cells = [x] ∧ v.cells = #[v] := by
  cases h with
  | im h => exact ⟨h, rfl, by cases ‹Value› <;> first | rfl | simp [Value.oneCell'] at h⟩
  | ag hn h1 h => exact absurd rfl (ha _)
  | tu => cases hl
  | dead => cases hl
  | gi => cases hl
  | _ => exact ⟨rfl, rfl, rfl⟩

section
variable {C : Cf}
theorem Cf.fix_new (hC : Ok C) (o : Nat) : C.fix C.w.heap.size o := by
  refine ⟨fun h => by have := hC.avl _ _ h; omega, fun i hi => ?_⟩
  by_cases h : C.st i = .free
  · exact .inl h
  · have := hC.lt h hi; omega
theorem Ev.alloc (hC : Ok C) (o : Obj) : Ev C (C.withW (C.w.alloc o)) where
  os := rfl
  tape := rfl
  output := rfl
  size := by simp [Cf.withW]
  av := rfl
  rd := fun a v h => ⟨by
    rw [← h.1]
    exact World.cell?_of_block (heap_alloc_old _ _ (World.block_lt_of_cell? _ _ h.1)), h.2⟩
  box := fun _ cs h => ⟨rfl, cs, h⟩
  tip := fun i e z n h => ⟨n, h, Nat.le_refl _, fun _ => ⟨rfl, fun g cur hg hc => ⟨cur, (heap_alloc_old _ _ (Array.getElem?_eq_some_iff.1 hc).1).trans hc, rfl⟩⟩⟩
  itr := fun _ s p h => ⟨rfl, s, p, h⟩
  keep := fun b hb _ => heap_alloc_old _ _ hb
  fresh := fun _ _ h h' => .inl ⟨h, h'⟩
theorem Ok.alloc (hC : Ok C) (o : Obj) : Ok (C.withW (C.w.alloc o)) where
  box := fun i cs h => by
    obtain ⟨g, bs, t, h1, h2, h3, h4, h5⟩ := hC.box i cs h
    exact ⟨g, bs, t, h1, (heap_alloc_old _ _ (Array.getElem?_eq_some_iff.1 h2).1).trans h2, h3, h4, fun j hj => (h5 j hj).mono (Ev.alloc hC o)⟩
  tip := fun i e z n g h h' => by
    obtain ⟨cur, h1, h2⟩ := hC.tip i e z n g h h'
    exact ⟨cur, (heap_alloc_old _ _ (Array.getElem?_eq_some_iff.1 h1).1).trans h1, h2⟩
  iter := fun i s p h => by
    obtain ⟨g, h1, h2⟩ := hC.iter i s p h
    exact ⟨g, h1, (heap_alloc_old _ _ (Array.getElem?_eq_some_iff.1 h2).1).trans h2⟩
  inj := hC.inj
  avl := fun b o h => Nat.lt_of_lt_of_le (hC.avl b o h) (by simp [Cf.withW])
  bav := hC.bav
  gl := hC.gl.mono (Ev.alloc hC o)
/-- A new block, under an id that was free. -/
def Cf.newId (C : Cf) (id : Nat) (o : Obj) (e : Ent) : Cf := ⟨fun i => if i = id then some C.w.heap.size else C.σ i, upd C.st id e, C.av, C.w.alloc o⟩
theorem Cf.newId_fix {id : Nat} {o : Obj} {e : Ent} {b k : Nat} (hb : b < C.w.heap.size) (h : C.fix b k) : (C.newId id o e).fix b k := by
  refine ⟨h.1, fun i hi => ?_⟩
  have hi : (if i = id then some C.w.heap.size else C.σ i) = some b := hi
  by_cases he : i = id
  · rw [if_pos he] at hi
    cases hi
    omega
  · rw [if_neg he] at hi
    simpa [Cf.newId, upd, he] using h.2 i hi
theorem Ev.newId {id : Nat} {o : Obj} {e : Ent} (hf : C.st id = .free) : Ev C (C.newId id o e) where
  os := rfl
  tape := rfl
  output := rfl
  size := by simp [Cf.newId]
  av := rfl
  rd := fun a v h => ⟨by
    rw [← h.1]
    exact World.cell?_of_block (heap_alloc_old _ _ (World.block_lt_of_cell? _ _ h.1)), Cf.newId_fix (World.block_lt_of_cell? _ _ h.1) h.2⟩
  box := fun i cs h => by
    have hne : i ≠ id := fun e => by subst e; rw [hf] at h; cases h
    exact ⟨by simp [Cf.newId, hne], cs, by simpa [Cf.newId, upd, hne] using h⟩
  tip := fun i e z n h => by
    have hne : i ≠ id := fun e => by subst e; rw [hf] at h; cases h
    exact ⟨n, by simpa [Cf.newId, upd, hne] using h, Nat.le_refl _, fun _ => ⟨by simp [Cf.newId, hne], fun g cur hg hc => ⟨cur, (heap_alloc_old _ _ (Array.getElem?_eq_some_iff.1 hc).1).trans hc, rfl⟩⟩⟩
  itr := fun i s p h => by
    have hne : i ≠ id := fun e => by subst e; rw [hf] at h; cases h
    exact ⟨by simp [Cf.newId, hne], s, p, by simpa [Cf.newId, upd, hne] using h⟩
  keep := fun b hb _ => heap_alloc_old _ _ hb
  fresh := fun i b h h' => by
    have h' : (if i = id then some C.w.heap.size else C.σ i) = some b := h'
    by_cases hne : i = id
    · rw [if_pos hne] at h'
      cases h'
      exact .inr (Nat.le_refl _)
    · rw [if_neg hne] at h'
      exact .inl ⟨by simpa [Cf.newId, upd, hne] using h, h'⟩
theorem Ok.newId (hC : Ok C) {id : Nat} {o : Obj} {e : Ent} (hf : C.st id = .free)
    (hbox : ∀ cs, e = .box cs → ∃ bs t, o = .cells bs t (0, 0) ∧ cs.length ≤ bs.size ∧ (∀ j, j < cs.length → (bs.getD j undef).oneCell' = true) ∧ ∀ j (hj : j < cs.length), R C cs[j] (bs.getD j undef))
    (htip : ∀ t z n, e ≠ .tip t z n) (hit : ∀ s p, e = .iter s p → o = .stringIter s p) : Ok (C.newId id o e) where
  box := fun i cs h => by
    have h : upd C.st id e i = .box cs := h
    by_cases hi : i = id
    · simp only [upd, hi, if_true] at h
      obtain ⟨bs, t, rfl, h1, h2, h3⟩ := hbox cs h
      exact ⟨C.w.heap.size, bs, t, by simp [Cf.newId, hi], heap_alloc_new _ _, h1, h2, fun j hj => (h3 j hj).mono (Ev.newId hf)⟩
    · simp only [upd, hi, if_false] at h
      obtain ⟨g, bs, t, h1, h2, h3, h4, h5⟩ := hC.box i cs h
      exact ⟨g, bs, t, by simpa [Cf.newId, hi] using h1, (heap_alloc_old _ _ (Array.getElem?_eq_some_iff.1 h2).1).trans h2, h3, h4, fun j hj => (h5 j hj).mono (Ev.newId hf)⟩
  tip := fun i t z n g h h' => by
    have h : upd C.st id e i = .tip t z n := h
    have h' : (if i = id then some C.w.heap.size else C.σ i) = some g := h'
    by_cases hi : i = id
    · simp only [upd, hi, if_true] at h
      exact absurd h (htip t z n)
    · simp only [upd, hi, if_false] at h
      rw [if_neg hi] at h'
      obtain ⟨cur, h1, h2⟩ := hC.tip i t z n g h h'
      exact ⟨cur, (heap_alloc_old _ _ (Array.getElem?_eq_some_iff.1 h1).1).trans h1, h2⟩
  iter := fun i s p h => by
    have h : upd C.st id e i = .iter s p := h
    by_cases hi : i = id
    · simp only [upd, hi, if_true] at h
      obtain rfl := hit s p h
      exact ⟨C.w.heap.size, by simp [Cf.newId, hi], heap_alloc_new _ _⟩
    · simp only [upd, hi, if_false] at h
      obtain ⟨g, h1, h2⟩ := hC.iter i s p h
      exact ⟨g, by simpa [Cf.newId, hi] using h1, (heap_alloc_old _ _ (Array.getElem?_eq_some_iff.1 h2).1).trans h2⟩
  inj := fun i j g hi hj h h' => by
    have h : (if i = id then some C.w.heap.size else C.σ i) = some g := h
    have h' : (if j = id then some C.w.heap.size else C.σ j) = some g := h'
    have hi : upd C.st id e i ≠ .free := hi
    have hj : upd C.st id e j ≠ .free := hj
    by_cases h1 : i = id <;> by_cases h2 : j = id
    · exact h1.trans h2.symm
    · rw [if_pos h1] at h; rw [if_neg h2] at h'; cases h
      have := hC.lt (by simpa [upd, h2] using hj) h'
      omega
    · rw [if_neg h1] at h; rw [if_pos h2] at h'; cases h'
      have := hC.lt (by simpa [upd, h1] using hi) h
      omega
    · rw [if_neg h1] at h; rw [if_neg h2] at h'
      exact hC.inj i j g (by simpa [upd, h1] using hi) (by simpa [upd, h2] using hj) h h'
  avl := fun b o h => Nat.lt_of_lt_of_le (hC.avl b o h) (by simp [Cf.newId])
  bav := fun i cs g o h h' => by
    have h : upd C.st id e i = .box cs := h
    have h' : (if i = id then some C.w.heap.size else C.σ i) = some g := h'
    by_cases hi : i = id
    · rw [if_pos hi] at h'
      cases h'
      intro ha
      have := hC.avl _ _ ha
      omega
    · simp only [upd, hi, if_false] at h
      rw [if_neg hi] at h'
      exact hC.bav i cs g o h h'
  gl := hC.gl.mono (Ev.newId hf)

/-- Another content of a box. -/
def Cf.setBox (C : Cf) (id g : Nat) (bs : Array Value) (cs : List V) : Cf := ⟨C.σ, upd C.st id (.box cs), C.av, C.w.setRow g bs⟩
theorem size_setRow (w : World) (g : Nat) (bs : Array Value) : (w.setRow g bs).heap.size = w.heap.size := by simp [World.setRow]
theorem Ev.setBox {id g : Nat} {bs : Array Value} {cs cs0 : List V} (hb : C.st id = .box cs0) (hg : C.σ id = some g) (hC : Ok C) : Ev C (C.setBox id g bs cs) where
  os := rfl
  tape := rfl
  output := rfl
  size := by simp [Cf.setBox, World.setRow]
  av := rfl
  rd := fun a v h => by
    have hne : a.block ≠ g := fun e => by
      rcases h.2.2 id (hg.trans (by rw [e])) with h1 | ⟨_, _, _, h1, _⟩ <;> rw [hb] at h1 <;> cases h1
    refine ⟨by rw [← h.1]; exact World.cell?_of_block (setRow_other _ _ _ _ hne), h.2.1, fun i hi => ?_⟩
    have hi' : C.σ i = some a.block := hi
    by_cases he : i = id
    · subst he
      exact absurd (Option.some.inj (hi'.symm.trans hg)) hne
    · simpa [Cf.setBox, upd, he] using h.2.2 i hi'
  box := fun i c h => by
    by_cases he : i = id
    · exact ⟨rfl, cs, by simp [Cf.setBox, upd, he]⟩
    · exact ⟨rfl, c, by simpa [Cf.setBox, upd, he] using h⟩
  tip := fun i e z n h => by
    have hne : i ≠ id := fun e => by subst e; rw [hb] at h; cases h
    refine ⟨n, by simpa [Cf.setBox, upd, hne] using h, Nat.le_refl _, fun _ => ⟨rfl, fun g' cur hg' hc => ⟨cur, ?_, rfl⟩⟩⟩
    have : g' ≠ g := fun e => hne (hC.inj i id g (by rw [h]; simp) (by rw [hb]; simp) (e ▸ hg') hg)
    exact (setRow_other _ _ _ _ this).trans hc
  itr := fun i s p h => by
    have hne : i ≠ id := fun e => by subst e; rw [hb] at h; cases h
    exact ⟨rfl, s, p, by simpa [Cf.setBox, upd, hne] using h⟩
  keep := fun b _ hf => setRow_other _ _ _ _ (fun e => by have := hf id (e ▸ hg); rw [hb] at this; cases this)
  fresh := fun i b h h' => by
    by_cases he : i = id
    · exact .inl ⟨by rw [he, hb]; simp, h'⟩
    · exact .inl ⟨by simpa [Cf.setBox, upd, he] using h, h'⟩
theorem Ok.setBox {id g : Nat} {bs0 bs : Array Value} {t : TypeId} {cs cs0 : List V} (hC : Ok C) (hb : C.st id = .box cs0) (hg : C.σ id = some g) (hh : C.w.heap[g]? = some (.cells bs0 t (0, 0)))
    (hn : cs.length ≤ bs.size) (h1 : ∀ j, j < cs.length → (bs.getD j undef).oneCell' = true) (hR : ∀ j (hj : j < cs.length), R C cs[j] (bs.getD j undef)) : Ok (C.setBox id g bs cs) where
  box := fun i c h => by
    have h : upd C.st id (.box cs) i = .box c := h
    by_cases hi : i = id
    · subst hi
      simp only [upd, if_true] at h
      cases h
      exact ⟨g, bs, t, hg, setRow_heap _ _ _ _ _ _ hh, hn, h1, fun j hj => (hR j hj).mono (Ev.setBox hb hg hC)⟩
    · simp only [upd, hi, if_false] at h
      obtain ⟨g', bs', t', k1, k2, k3, k4, k5⟩ := hC.box i c h
      have : g' ≠ g := fun e => hi (hC.inj i id g (by rw [h]; simp) (by rw [hb]; simp) (e ▸ k1) hg)
      exact ⟨g', bs', t', k1, (setRow_other _ _ _ _ this).trans k2, k3, k4, fun j hj => (k5 j hj).mono (Ev.setBox hb hg hC)⟩
  tip := fun i e z n g' h h' => by
    have h : upd C.st id (.box cs) i = .tip e z n := h
    have hi : i ≠ id := fun e => by subst e; simp [upd] at h
    simp only [upd, hi, if_false] at h
    obtain ⟨cur, k1, k2⟩ := hC.tip i e z n g' h h'
    have : g' ≠ g := fun e => hi (hC.inj i id g (by rw [h]; simp) (by rw [hb]; simp) (e ▸ h') hg)
    exact ⟨cur, (setRow_other _ _ _ _ this).trans k1, k2⟩
  iter := fun i s p h => by
    have h : upd C.st id (.box cs) i = .iter s p := h
    have hi : i ≠ id := fun e => by subst e; simp [upd] at h
    simp only [upd, hi, if_false] at h
    obtain ⟨g', k1, k2⟩ := hC.iter i s p h
    have : g' ≠ g := fun e => hi (hC.inj i id g (by rw [h]; simp) (by rw [hb]; simp) (e ▸ k1) hg)
    exact ⟨g', k1, (setRow_other _ _ _ _ this).trans k2⟩
  inj := fun i j g' hi hj h h' => by
    refine hC.inj i j g' (fun e => hi ?_) (fun e => hj ?_) h h'
    · have : i ≠ id := fun e' => by subst e'; rw [hb] at e; cases e
      simpa [Cf.setBox, upd, this] using e
    · have : j ≠ id := fun e' => by subst e'; rw [hb] at e; cases e
      simpa [Cf.setBox, upd, this] using e
  avl := fun b o h => by simp only [Cf.setBox, size_setRow]; exact hC.avl b o h
  bav := fun i c g' o h h' => by
    have h : upd C.st id (.box cs) i = .box c := h
    by_cases hi : i = id
    · subst hi; exact hC.bav i cs0 g' o hb h'
    · simp only [upd, hi, if_false] at h
      exact hC.bav i c g' o h h'
  gl := hC.gl.mono (Ev.setBox hb hg hC)
end

/-! ### What the program's tables say of a type -/
def szOf (P : Program) (t : TypeId) : Option Nat := (P.info? t).map (·.size)
def agOf (P : Program) (t : TypeId) : Option Bool := (P.underlying t).map fun d => match d with | .struct _ | .array _ _ => true | _ => false
def flOf (P : Program) (t : TypeId) (f : Nat) : Option (Nat × TypeId) := match P.underlying t with | some (.struct fs) => (fs[f]?).map fun f => (f.offset, f.type) | _ => none
def elOf (P : Program) (t : TypeId) : Option TypeId := match P.underlying t with | some (.slice e) => some e | _ => none
def arOf (P : Program) (t : TypeId) : Option (Nat × TypeId) := match P.underlying t with | some (.array n e) => some (n, e) | _ => none
def zrOf (P : Program) (t : TypeId) : Option Value := (P.info? t).bind (·.zero)
section
variable {P : Program} {w : World}
theorem run_sizeOf {t : TypeId} {z : Nat} (h : szOf P t = some z) : (sizeOf t).run P w = .ok z w := by
  unfold szOf at h
  cases hi : P.info? t with
  | none => rw [hi] at h; cases h
  | some i =>
    rw [hi] at h
    simp only [Option.map_some, Option.some.injEq] at h
    simp [sizeOf, typeInfo, program, Sem.run, hi, h]
theorem run_isAgg {t : TypeId} {b : Bool} (h : agOf P t = some b) : (isAgg t).run P w = .ok b w := by
  unfold agOf at h
  cases hi : P.underlying t with
  | none => rw [hi] at h; cases h
  | some d =>
    rw [hi] at h
    cases d <;> simp at h <;> subst h <;> simp [isAgg, run_underlying hi]
theorem run_zeroValue {t : TypeId} {z : Value} (h : zrOf P t = some z) : (zeroValue t).run P w = .ok z w := by
  unfold zrOf at h
  cases hi : P.info? t with
  | none => rw [hi] at h; cases h
  | some i =>
    rw [hi] at h
    simp only [Option.bind_some] at h
    simp [zeroValue, typeInfo, program, Sem.run, hi, h]
theorem run_loadVar_ag {t : TypeId} {z : Nat} {a : Addr} {cs : List Value} (hz : szOf P t = some z) (ha : agOf P t = some true) (hn : cs.length = z) (h : ∀ j v, cs[j]? = some v → w.cell? (a.add j) = some v) :
    (loadVar t a).run P w = .ok (.agg cs.toArray) w := by
  have h1 := run_loadCells_list (P := P) w a cs h
  simp only [loadVar, Sem.run_bind, run_isAgg ha, Result.andThen_ok, if_true, run_sizeOf hz, ← hn, h1, Sem.run_pure]
theorem run_loadVar_one {t : TypeId} {a : Addr} {v : Value} (ha : agOf P t = some false) (h : w.cell? a = some v) : (loadVar t a).run P w = .ok v w := by
  simp only [loadVar, Sem.run_bind, run_isAgg ha, Result.andThen_ok, Bool.false_eq_true, if_false, run_load, h]
theorem run_storeVar {t ty : TypeId} {z g o : Nat} {v : Value} {bs : Array Value} (hz : szOf P t = some z) (hv : v.cells.size = z) (hg : w.heap[g]? = some (.cells bs ty (0, 0))) (hf : o + z ≤ bs.size) (h1 : ∀ c ∈ v.cells.toList, c.oneCell' = true) :
    (storeVar t ⟨g, o, none⟩ v).run P w = .ok () (w.setRow g (bs.toList.take o ++ v.cells.toList ++ bs.toList.drop (o + z)).toArray) := by
  have := run_storeCells_at P g o ty v.cells.toList 0 bs w hg (by simpa [hv] using hf) h1
  simp only [Nat.add_zero, Array.length_toList, hv] at this
  simp only [storeVar, Sem.run_bind, run_sizeOf hz, Result.andThen_ok, hv, ne_eq, not_true, if_false, Sem.run_pure]
  exact this
end

end Go.Proofs.Ytfggemopnlffeaa
