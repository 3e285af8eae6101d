import Derived.Test.YtfggemopnlffeaaGreatNd
namespace Go.Proofs.YtfggemopnlffeaaGreat
set_option linter.unusedSimpArgs false
set_option linter.unusedVariables false
set_option linter.unnecessarySimpa false
def subs (s : Nd) : List (List Nd) := s.l :: s.el :: s.cs
def mx (l : List Int) : Int := l.foldl max 0
theorem mx_nil : mx [] = 0 := rfl
theorem mx_ge (l : List Int) : 0 ≤ mx l := foldl_max_ge l 0
theorem mx_le {l : List Int} {b : Int} (hb : 0 ≤ b) (h : ∀ x ∈ l, x ≤ b) : mx l ≤ b := foldl_max_le l b h 0 hb
theorem foldl_max_mem (l : List Int) : ∀ (a : Int) (x : Int), x ∈ l → x ≤ l.foldl max a := by
  induction l with
  | nil => intro a x h; cases h
  | cons y l ih =>
    intro a x h
    rcases List.mem_cons.1 h with rfl | h
    · exact Int.le_trans (Int.le_max_right a x) (foldl_max_ge l _)
    · exact ih _ x h
theorem mx_mem {l : List Int} {x : Int} (h : x ∈ l) : x ≤ mx l := foldl_max_mem l 0 x h
theorem mx_take {α : Type} (f : α → Int) {l : List α} {m : Nat} (h : m < l.length) : max (mx ((l.take m).map f)) (f l[m]) = mx ((l.take (m + 1)).map f) := by
  rw [List.take_succ_eq_append_getElem h, List.map_append]
  unfold mx
  rw [List.foldl_append]
  rfl
def depT : Nd → Int := Nd.para fun _ a b c => 1 + mx ((a :: b :: c).map mx)
def dep (l : List Nd) : Int := mx (l.map depT)
theorem depT_eq (t : Nd) : depT t = 1 + mx ((subs t).map dep) := by
  obtain ⟨k, w, n, e, l, el, cs⟩ := t
  unfold depT
  rw [Nd.para_mk]
  simp only [subs, Nd.l, Nd.el, Nd.cs, List.map_cons, List.map_map]
  rfl
theorem dep_nonneg (l : List Nd) : 0 ≤ dep l := mx_ge _
theorem dep_sub {l : List Nd} {t : Nd} (ht : t ∈ l) {c : List Nd} (hc : c ∈ subs t) : 1 + dep c ≤ dep l := by
  have h1 : depT t ≤ dep l := mx_mem (List.mem_map_of_mem ht)
  have h2 : dep c ≤ mx ((subs t).map dep) := mx_mem (List.mem_map_of_mem hc)
  rw [depT_eq] at h1
  omega
def cntT : Nd → Nat := Nd.para fun _ a b c => 1 + ((a :: b :: c).map List.sum).sum
def cnt (l : List Nd) : Nat := (l.map cntT).sum
theorem cntT_eq (t : Nd) : cntT t = 1 + ((subs t).map cnt).sum := by
  obtain ⟨k, w, n, e, l, el, cs⟩ := t
  unfold cntT
  rw [Nd.para_mk]
  simp only [subs, Nd.l, Nd.el, Nd.cs, List.map_cons, List.map_map]
  rfl
theorem sum_mem {l : List Nat} {x : Nat} (h : x ∈ l) : x ≤ l.sum := by
  induction l with
  | nil => cases h
  | cons y l ih =>
    rw [List.sum_cons]
    rcases List.mem_cons.1 h with rfl | h
    · omega
    · have := ih h; omega
theorem cnt_sub {l : List Nd} {t : Nd} (ht : t ∈ l) {c : List Nd} (hc : c ∈ subs t) : 1 + cnt c ≤ cnt l := by
  have h1 : cntT t ≤ cnt l := sum_mem (List.mem_map_of_mem ht)
  have h2 : cnt c ≤ ((subs t).map cnt).sum := sum_mem (List.mem_map_of_mem hc)
  rw [cntT_eq] at h1
  omega
theorem subs_induct {R : List Nd → Prop} (h : ∀ l, (∀ t ∈ l, ∀ c ∈ subs t, R c) → R l) : ∀ l, R l := by
  refine Nd.listInduct fun l hl => h l fun t ht c hc => ?_
  obtain ⟨h1, h2, h3⟩ := hl t ht
  unfold subs at hc
  rcases List.mem_cons.1 hc with rfl | hc
  · exact h1
  · rcases List.mem_cons.1 hc with rfl | hc
    · exact h2
    · exact h3 c hc
theorem dep_le_cnt : ∀ l : List Nd, dep l ≤ cnt l := by
  refine subs_induct fun l hl => ?_
  refine mx_le (by omega) fun x hx => ?_
  obtain ⟨t, ht, rfl⟩ := List.mem_map.1 hx
  rw [depT_eq]
  have h1 : cntT t ≤ cnt l := sum_mem (List.mem_map_of_mem ht)
  have h2 : mx ((subs t).map dep) ≤ ((subs t).map cnt).sum := by
    refine mx_le (by omega) fun y hy => ?_
    obtain ⟨c, hc, rfl⟩ := List.mem_map.1 hy
    have h3 := hl t ht c hc
    have h4 : cnt c ≤ ((subs t).map cnt).sum := sum_mem (List.mem_map_of_mem hc)
    omega
  rw [cntT_eq] at h1
  omega
def inL (t : Nd) (lp : Bool) : Bool := lp || t.kind == 7 || t.kind == 8
def allT : Nd → Bool → List (Nd × Bool) := Nd.para fun t a b c lp => (t, lp) :: (a :: b :: c).flatMap fun r => r.flatMap fun f => f (inL t lp)
def allL (l : List Nd) (lp : Bool) : List (Nd × Bool) := l.flatMap fun t => allT t lp
theorem allT_eq (t : Nd) (lp : Bool) : allT t lp = (t, lp) :: (subs t).flatMap fun c => allL c (inL t lp) := by
  obtain ⟨k, w, n, e, l, el, cs⟩ := t
  have h : allT (.mk k w n e l el cs) lp = _ := congrFun (Nd.para_mk _ k w n e l el cs) lp
  rw [h]
  simp only [subs, Nd.l, Nd.el, Nd.cs, List.flatMap_cons, List.flatMap_map, allL]
  rfl
def flaT : Nd → Bool → List (Nd × Bool) := Nd.para fun t a b c lp => (t, lp) :: (a.flatMap fun f => f (inL t lp)) ++ (b :: c).flatMap fun r => r.flatMap fun f => f lp
def flaL (l : List Nd) (lp : Bool) : List (Nd × Bool) := l.flatMap fun t => flaT t lp
theorem flaT_eq (t : Nd) (lp : Bool) : flaT t lp = (t, lp) :: (flaL t.l (inL t lp) ++ (t.el :: t.cs).flatMap fun c => flaL c lp) := by
  obtain ⟨k, w, n, e, l, el, cs⟩ := t
  have h : flaT (.mk k w n e l el cs) lp = _ := congrFun (Nd.para_mk _ k w n e l el cs) lp
  rw [h]
  simp only [Nd.l, Nd.el, Nd.cs, List.flatMap_cons, List.flatMap_map, flaL]
  rfl
theorem flatMap_len {α β : Type} {f : α → List β} {g : α → Nat} {l : List α} (h : ∀ x ∈ l, (f x).length = g x) : (l.flatMap f).length = (l.map g).sum := by
  induction l with
  | nil => rfl
  | cons x l ih => rw [List.flatMap_cons, List.length_append, List.map_cons, List.sum_cons, h x (by simp), ih fun y hy => h y (by simp [hy])]
theorem allL_len : ∀ (l : List Nd) (lp : Bool), (allL l lp).length = cnt l := by
  refine subs_induct fun l hl lp => ?_
  refine flatMap_len fun t ht => ?_
  rw [allT_eq, cntT_eq, List.length_cons, flatMap_len (g := cnt) fun c hc => hl t ht c hc _]
  omega
theorem flaL_len : ∀ (l : List Nd) (lp : Bool), (flaL l lp).length = cnt l := by
  refine subs_induct fun l hl lp => ?_
  refine flatMap_len fun t ht => ?_
  rw [flaT_eq, cntT_eq, List.length_cons, List.length_append, hl t ht t.l (by simp [subs]), flatMap_len (g := cnt) fun c hc => hl t ht c (by unfold subs; simp only [List.mem_cons] at hc ⊢; exact .inr hc) _]
  simp only [subs, List.map_cons, List.sum_cons]
  omega
end Go.Proofs.YtfggemopnlffeaaGreat
