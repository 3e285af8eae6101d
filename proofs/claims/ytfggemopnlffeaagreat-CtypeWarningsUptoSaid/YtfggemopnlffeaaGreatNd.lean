import Derived.Test.YtfggemopnlffeaaGreatPm
namespace Go.Proofs.YtfggemopnlffeaaGreat
set_option linter.unusedSimpArgs false
set_option linter.unusedVariables false
set_option linter.unnecessarySimpa false
inductive Nd where
  | mk (kind width : Int) (name : ByteArray) (e : List Ex) (l el : List Nd) (cs : List (List Nd))
namespace Nd
def kind : Nd → Int | .mk k _ _ _ _ _ _ => k
def width : Nd → Int | .mk _ w _ _ _ _ _ => w
def name : Nd → ByteArray | .mk _ _ n _ _ _ _ => n
def e : Nd → List Ex | .mk _ _ _ e _ _ _ => e
def l : Nd → List Nd | .mk _ _ _ _ l _ _ => l
def el : Nd → List Nd | .mk _ _ _ _ _ el _ => el
def cs : Nd → List (List Nd) | .mk _ _ _ _ _ _ cs => cs
mutual
def para {α : Type} (f : Nd → List α → List α → List (List α) → α) : Nd → α
  | .mk k w n e l el cs => f (.mk k w n e l el cs) (paraL f l) (paraL f el) (paraC f cs)
def paraL {α : Type} (f : Nd → List α → List α → List (List α) → α) : List Nd → List α
  | [] => []
  | t :: r => para f t :: paraL f r
def paraC {α : Type} (f : Nd → List α → List α → List (List α) → α) : List (List Nd) → List (List α)
  | [] => []
  | c :: r => paraL f c :: paraC f r
end
theorem paraL_eq {α : Type} (f : Nd → List α → List α → List (List α) → α) : ∀ l : List Nd, paraL f l = l.map (para f)
  | [] => by simp [paraL]
  | t :: r => by simp [paraL, paraL_eq f r]
theorem paraC_eq {α : Type} (f : Nd → List α → List α → List (List α) → α) : ∀ l : List (List Nd), paraC f l = l.map (List.map (para f))
  | [] => by simp [paraC]
  | t :: r => by simp [paraC, paraC_eq f r, paraL_eq]
theorem para_mk {α : Type} (f : Nd → List α → List α → List (List α) → α) (k w : Int) (n : ByteArray) (e : List Ex) (l el : List Nd) (cs : List (List Nd)) :
    para f (.mk k w n e l el cs) = f (.mk k w n e l el cs) (l.map (para f)) (el.map (para f)) (cs.map (List.map (para f))) := by
  simp [para, paraL_eq, paraC_eq]
theorem induct {P : Nd → Prop} (h : ∀ k w n e l el cs, (∀ t ∈ l, P t) → (∀ t ∈ el, P t) → (∀ c ∈ cs, ∀ t ∈ c, P t) → P (.mk k w n e l el cs)) : ∀ t, P t := by
  intro t
  refine Nd.rec (motive_1 := P) (motive_2 := fun l => ∀ t ∈ l, P t) (motive_3 := fun l => ∀ c ∈ l, ∀ t ∈ c, P t) ?_ ?_ ?_ ?_ ?_ t
  · intro k w n e l el cs h1 h2 h3
    exact h k w n e l el cs h1 h2 h3
  · intro t ht
    cases ht
  · intro t r ht hr x hx
    rcases List.mem_cons.1 hx with rfl | hx
    · exact ht
    · exact hr x hx
  · intro c hc
    cases hc
  · intro c r hc hr d hd
    rcases List.mem_cons.1 hd with rfl | hd
    · exact hc
    · exact hr d hd
theorem listInduct {R : List Nd → Prop} (h : ∀ l, (∀ t ∈ l, R t.l ∧ R t.el ∧ ∀ c ∈ t.cs, R c) → R l) : ∀ l, R l := by
  have key : ∀ t : Nd, R t.l ∧ R t.el ∧ ∀ c ∈ t.cs, R c := by
    refine induct fun k w n e l el cs h1 h2 h3 => ?_
    exact ⟨h l h1, h el h2, fun c hc => h c (h3 c hc)⟩
  exact fun l => h l fun t _ => key t
end Nd
structure Sec where
  name : ByteArray
  addr : Int
  data : List UInt8
  wr : Bool
  exe : Bool
structure Fun where
  name : ByteArray
  vars : List Va
  body : List Nd
structure Un where
  globals : List Va
  data : List Sec
  funcs : List Fun
end Go.Proofs.YtfggemopnlffeaaGreat
