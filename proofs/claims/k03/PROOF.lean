import PyProof.Rows.All
import Wide.All
import OpenK.AllK
import Wide.FinOn
import HandS.ForMost
import HandS.ForExc
import HandS.Evl
import HandS.Wide
import HandS.WideMore
import HandS.Gcd
import HandS.IsInst
import HandS.Style
import HandS.TupAny
import HandS.TupLe
import HandS.SortInts
import HandS.SortRule
import HandS.RaiseMore
import HandS.Ends
import PySem.Challenge.RW_allideals_k03_whole_sums_products_and_no
set_option Elab.async false
set_option linter.all false
set_option maxRecDepth 100000
/-! Mp: defs as plain functions of data: what a def hands back is told by a Lean function of its arguments' data and of the draws' state -/
namespace Mp
open PySem L2

/-- data: what a value is, its objects looked through; deal: the one object that is turned by draws -/
inductive D where
  | non | bl (b : Bool) | int (i : Int) | str (x : Str) | tup (l : List D) | lst (l : List D) | deal | ty (n : String) | scr (l : List Int)

/-- the draws' state: what lies in the first list, the second number -/
abbrev S := List Int × Int
abbrev Wd := Option (Addr × Addr)
abbrev Fg := PySem.W.Frag

mutual
def Rep (K : Fg) (w : Wd) (F : Hp) : D → V → Prop
  | .non, v => v = .non
  | .bl b, v => v = .bl b
  | .int i, v => v = .int i
  | .str x, v => v = .str x
  | .tup l, v => ∃ a vs, v = .ref a ∧ SqT K F a vs ∧ Reps K w F l vs
  | .lst l, v => ∃ a vs, v = .ref a ∧ F a = some (.lst vs) ∧ Reps K w F l vs
  | .deal, v => ∃ a b, w = some (a, b) ∧ v = .ref a
  | .ty n, v => v = .ty n
  | .scr l, v => ∃ a, v = .ref a ∧ SqL K F a (l.map V.int)
def Reps (K : Fg) (w : Wd) (F : Hp) : List D → List V → Prop
  | [], vs => vs = []
  | d :: l, vs => ∃ v r, vs = v :: r ∧ Rep K w F d v ∧ Reps K w F l r
end

def Sub (H H' : Hp) : Prop := ∀ a o, H a = some o → H' a = some o
theorem Sub.refl (H : Hp) : Sub H H := fun _ _ h => h
theorem Sub.trans {H H1 H2 : Hp} (a : Sub H H1) (b : Sub H1 H2) : Sub H H2 := fun x o h => b x o (a x o h)
theorem Sub.sql {K : Fg} {F F' : Hp} {a : Addr} {xs : List V} (e : Sub F F') (h : SqL K F a xs) : SqL K F' a xs := Evl.ex_l e h
theorem Sub.sqt {K : Fg} {F F' : Hp} {a : Addr} {xs : List V} (e : Sub F F') (h : SqT K F a xs) : SqT K F' a xs := Evl.ex_t e h

mutual
theorem Rep.mono {K : Fg} {w : Wd} {F F' : Hp} (e : Sub F F') : ∀ (d : D) {v : V}, Rep K w F d v → Rep K w F' d v
  | .non, _, h => h
  | .bl _, _, h => h
  | .int _, _, h => h
  | .str _, _, h => h
  | .tup l, _, ⟨a, vs, h1, h2, h3⟩ => ⟨a, vs, h1, e.sqt h2, Reps.mono e l h3⟩
  | .lst l, _, ⟨a, vs, h1, h2, h3⟩ => ⟨a, vs, h1, e _ _ h2, Reps.mono e l h3⟩
  | .deal, _, h => h
  | .ty _, _, h => h
  | .scr _, _, ⟨a, h1, h2⟩ => ⟨a, h1, e.sql h2⟩
theorem Reps.mono {K : Fg} {w : Wd} {F F' : Hp} (e : Sub F F') : ∀ (l : List D) {vs : List V}, Reps K w F l vs → Reps K w F' l vs
  | [], _, h => h
  | d :: l, _, ⟨v, r, h1, h2, h3⟩ => ⟨v, r, h1, Rep.mono e d h2, Reps.mono e l h3⟩
end
theorem Reps.length {K : Fg} {w : Wd} {F : Hp} : ∀ {l : List D} {vs : List V}, Reps K w F l vs → vs.length = l.length
  | [], _, h => by rw [show _ = [] from h]; rfl
  | _ :: _, _, ⟨_, _, h1, _, h3⟩ => by rw [h1, List.length_cons, List.length_cons, Reps.length h3]
theorem Reps.get {K : Fg} {w : Wd} {F : Hp} : ∀ {l : List D} {vs : List V} {i : Nat} {d : D}, Reps K w F l vs → l[i]? = some d → ∃ v, vs[i]? = some v ∧ Rep K w F d v
  | [], _, _, _, _, e => by simp at e
  | _ :: _, _, 0, d, ⟨v, r, h1, h2, _⟩, e => by
    simp at e
    subst e h1
    exact ⟨v, rfl, h2⟩
  | _ :: l, _, i + 1, d, ⟨v, r, h1, _, h3⟩, e => by
    subst h1
    obtain ⟨u, q1, q2⟩ := Reps.get (i := i) h3 (by simpa using e)
    exact ⟨u, by simpa using q1, q2⟩
theorem Reps.getV {K : Fg} {w : Wd} {F : Hp} : ∀ {l : List D} {vs : List V} {i : Nat} {v : V}, Reps K w F l vs → vs[i]? = some v → ∃ d, l[i]? = some d ∧ Rep K w F d v
  | [], _, _, _, h, e => by rw [show _ = [] from h] at e; simp at e
  | d :: _, _, 0, v, ⟨v', r, h1, h2, _⟩, e => by
    subst h1
    simp at e
    subst e
    exact ⟨d, rfl, h2⟩
  | _ :: l, _, i + 1, v, ⟨v', r, h1, _, h3⟩, e => by
    subst h1
    obtain ⟨u, q1, q2⟩ := Reps.getV (i := i) h3 (by simpa using e)
    exact ⟨u, by simpa using q1, q2⟩
theorem Reps.append {K : Fg} {w : Wd} {F : Hp} : ∀ {l m : List D} {vs us : List V}, Reps K w F l vs → Reps K w F m us → Reps K w F (l ++ m) (vs ++ us)
  | [], _, _, _, h, k => by rw [show _ = [] from h]; exact k
  | d :: l, m, _, us, ⟨v, r, h1, h2, h3⟩, k => by
    subst h1
    exact ⟨v, r ++ us, rfl, h2, Reps.append h3 k⟩
theorem Reps.take {K : Fg} {w : Wd} {F : Hp} : ∀ (n : Nat) {l : List D} {vs : List V}, Reps K w F l vs → Reps K w F (l.take n) (vs.take n)
  | 0, _, _, _ => rfl
  | _ + 1, [], _, h => by rw [show _ = [] from h]; rfl
  | n + 1, d :: l, _, ⟨v, r, h1, h2, h3⟩ => by
    subst h1
    exact ⟨v, r.take n, rfl, h2, Reps.take n h3⟩
theorem Reps.drop {K : Fg} {w : Wd} {F : Hp} : ∀ (n : Nat) {l : List D} {vs : List V}, Reps K w F l vs → Reps K w F (l.drop n) (vs.drop n)
  | 0, _, _, h => h
  | _ + 1, [], _, h => by rw [show _ = [] from h]; rfl
  | n + 1, d :: l, _, ⟨v, r, h1, h2, h3⟩ => by
    subst h1
    exact Reps.drop n h3
theorem Reps.reverse {K : Fg} {w : Wd} {F : Hp} : ∀ {l : List D} {vs : List V}, Reps K w F l vs → Reps K w F l.reverse vs.reverse
  | [], _, h => by rw [show _ = [] from h]; rfl
  | d :: l, _, ⟨v, r, h1, h2, h3⟩ => by
    subst h1
    rw [List.reverse_cons, List.reverse_cons]
    exact Reps.append (Reps.reverse h3) ⟨v, [], rfl, h2, rfl⟩
theorem Reps.ints {K : Fg} {w : Wd} {F : Hp} : ∀ {l : List Int} {vs : List V}, Reps K w F (l.map D.int) vs → vs = l.map V.int
  | [], _, h => h
  | i :: l, _, ⟨v, r, h1, h2, h3⟩ => by
    subst h1
    rw [show v = .int i from h2, Reps.ints h3]
    rfl
theorem Reps.of_ints {K : Fg} {w : Wd} {F : Hp} : ∀ (l : List Int), Reps K w F (l.map D.int) (l.map V.int)
  | [] => rfl
  | i :: l => ⟨.int i, l.map V.int, rfl, rfl, Reps.of_ints l⟩

/-! ### the heap beside: what is frozen, what may turn -/
def dcells : Wd → List Addr
  | none => []
  | some (a, b) => [a, b]
def DOk (w : Wd) (s : S) (F H : Hp) : Prop := match w with
  | none => True
  | some (a, b) => a ≠ b ∧ F a = none ∧ F b = none ∧ H a = some (.lst [.ref b, .int s.2]) ∧ H b = some (.lst (s.1.map V.int))
theorem DOk.cell {w : Wd} {s : S} {F H : Hp} (h : DOk w s F H) {a : Addr} (ha : a ∈ dcells w) : F a = none ∧ ∃ o, H a = some o := by
  cases w with
  | none => exact absurd ha (by simp [dcells])
  | some p =>
    obtain ⟨x, y⟩ := p
    obtain ⟨_, h1, h2, h3, h4⟩ := h
    have : a = x ∨ a = y := by simpa [dcells] using ha
    rcases this with e | e
    · subst e; exact ⟨h1, _, h3⟩
    · subst e; exact ⟨h2, _, h4⟩
/-- from (F, H) to (F', H'): the frozen part grows by new things alone, all that stood is kept but the draws' cells -/
structure Post (w : Wd) (F H F' H' : Hp) : Prop where
  ex : Sub F F'
  inn : Sub F' H'
  new : ∀ a o, F' a = some o → F a = some o ∨ H a = none
  kept : ∀ a o, a ∉ dcells w → H a = some o → H' a = some o
  dom : ∀ a, H' a = none → H a = none
theorem Post.refl {w : Wd} {F H : Hp} (h : Sub F H) : Post w F H F H := ⟨.refl F, h, fun _ _ e => .inl e, fun _ _ _ e => e, fun _ e => e⟩
theorem Post.trans {w : Wd} {F H F1 H1 F2 H2 : Hp} (p : Post w F H F1 H1) (q : Post w F1 H1 F2 H2) : Post w F H F2 H2 := by
  refine ⟨p.ex.trans q.ex, q.inn, fun a o e => ?_, fun a o n e => q.kept a o n (p.kept a o n e), fun a e => p.dom a (q.dom a e)⟩
  rcases q.new a o e with h | h
  · exact p.new a o h
  · exact .inr (p.dom a h)
/-- a new frozen object -/
theorem Post.laid {w : Wd} {F H : Hp} {p : Addr} {o : HO} (h : Sub F H) (hp : H p = none) : Post w F H (upd F p o) (upd H p o) := by
  have hF : F p = none := by
    cases q : F p with
    | none => rfl
    | some u => rw [h p u q] at hp; cases hp
  refine ⟨fun a u e => ?_, fun a u e => ?_, fun a u e => ?_, fun a u _ e => ?_, fun a e => ?_⟩
  · rw [upd_ne (ne_of_none e hF)]; exact e
  · by_cases ha : a = p
    · subst ha; rw [upd_same] at e ⊢; exact e
    · rw [upd_ne ha] at e ⊢; exact h a u e
  · by_cases ha : a = p
    · subst ha; exact .inr hp
    · rw [upd_ne ha] at e; exact .inl e
  · rw [upd_ne (ne_of_none e hp)]; exact e
  · by_cases ha : a = p
    · subst ha; rw [upd_same] at e; cases e
    · rw [upd_ne ha] at e; exact e
/-- a new object that is not frozen -/
theorem Post.made {w : Wd} {F H : Hp} {p : Addr} {o : HO} (h : Sub F H) (hp : H p = none) : Post w F H F (upd H p o) := by
  refine ⟨.refl F, fun a u e => ?_, fun a u e => .inl e, fun a u _ e => ?_, fun a e => ?_⟩
  · have e' := h a u e
    rw [upd_ne (ne_of_none e' hp)]; exact e'
  · rw [upd_ne (ne_of_none e hp)]; exact e
  · by_cases ha : a = p
    · subst ha; rw [upd_same] at e; cases e
    · rw [upd_ne ha] at e; exact e
theorem DOk.laid {w : Wd} {s : S} {F H : Hp} {p : Addr} {o : HO} (k : DOk w s F H) (hp : H p = none) : DOk w s (upd F p o) (upd H p o) := by
  cases w with
  | none => trivial
  | some q =>
    obtain ⟨x, y⟩ := q
    obtain ⟨h0, h1, h2, h3, h4⟩ := k
    have nx : x ≠ p := ne_of_none h3 hp
    have ny : y ≠ p := ne_of_none h4 hp
    exact ⟨h0, by rw [upd_ne nx]; exact h1, by rw [upd_ne ny]; exact h2, by rw [upd_ne nx]; exact h3, by rw [upd_ne ny]; exact h4⟩
theorem DOk.made {w : Wd} {s : S} {F H : Hp} {p : Addr} {o : HO} (k : DOk w s F H) (hp : p ∉ dcells w) : DOk w s F (upd H p o) := by
  cases w with
  | none => trivial
  | some q =>
    obtain ⟨x, y⟩ := q
    obtain ⟨h0, h1, h2, h3, h4⟩ := k
    have nx : x ≠ p := fun e => hp (by rw [← e]; simp [dcells])
    have ny : y ≠ p := fun e => hp (by rw [← e]; simp [dcells])
    exact ⟨h0, h1, h2, by rw [upd_ne nx]; exact h3, by rw [upd_ne ny]; exact h4⟩
theorem DOk.fresh {w : Wd} {s : S} {F H : Hp} {p : Addr} (k : DOk w s F H) (hp : H p = none) : p ∉ dcells w := fun h => by
  obtain ⟨_, o, e⟩ := k.cell h
  rw [hp] at e; cases e
theorem Post.free {w : Wd} {F H F' H' : Hp} (p : Post w F H F' H') {a : Addr} (h : H' a = none) : F' a = none := by
  cases q : F' a with
  | none => rfl
  | some o => rw [p.inn a o q] at h; cases h

/-! ### expressions -/
abbrev Env := List (Option D)
abbrev DE := Env → S → Option (D × S)
abbrev DA := Env → S → Option (List D × S)
abbrev DT := Env → S → Option (Bool × S)
def EnvR (K : Fg) (w : Wd) (F : Hp) (ρ : Env) (σ : L2.St) : Prop := ∀ (i : Nat) (d : D), ρ[i]? = some (some d) → ∃ v, σ[i]? = some (some v) ∧ Rep K w F d v
theorem EnvR.mono {K : Fg} {w : Wd} {F F' : Hp} {ρ : Env} {σ : L2.St} (h : EnvR K w F ρ σ) (e : Sub F F') : EnvR K w F' ρ σ := fun i d q => by
  obtain ⟨v, h1, h2⟩ := h i d q
  exact ⟨v, h1, h2.mono e⟩
/-- what stands at an expression's start -/
structure At (K : Fg) (w : Wd) (F H : Hp) (ρ : Env) (σ : L2.St) (s : S) : Prop where
  env : EnvR K w F ρ σ
  inn : Sub F H
  dok : DOk w s F H
  len : σ.length = ρ.length
theorem At.next {K : Fg} {w : Wd} {F H F' H' : Hp} {ρ : Env} {σ : L2.St} {s s' : S} (a : At K w F H ρ σ s) (p : Post w F H F' H') (k : DOk w s' F' H') : At K w F' H' ρ σ s' := ⟨a.env.mono p.ex, p.inn, k, a.len⟩
def tU (K : Fg) (f : DE) : TE := fun σ H Q => ∃ ρ s d s' w F, f ρ s = some (d, s') ∧ At K w F H ρ σ s ∧ ∀ v F' H', Post w F H F' H' → DOk w s' F' H' → Rep K w F' d v → Q v H'
def tUA (K : Fg) (f : DA) : TA := fun σ H Q => ∃ ρ s d s' w F, f ρ s = some (d, s') ∧ At K w F H ρ σ s ∧ ∀ vs F' H', Post w F H F' H' → DOk w s' F' H' → Reps K w F' d vs → Q vs H'
def tUT (K : Fg) (f : DT) : TT := fun σ H Q => ∃ ρ s d s' w F, f ρ s = some (d, s') ∧ At K w F H ρ σ s ∧ ∀ F' H', Post w F H F' H' → DOk w s' F' H' → Q d H'
/-- a new list, not frozen -/
def tUL (K : Fg) (f : DA) : TE := fun σ H Q => ∃ ρ s d s' w F, f ρ s = some (d, s') ∧ At K w F H ρ σ s ∧ ∀ a vs F' H', Post w F H F' H' → DOk w s' F' H' → F' a = none → H a = none → a ∉ dcells w → H' a = some (.lst vs) → Reps K w F' d vs → Q (.ref a) H'
abbrev RefE (X : Cx) (e : Expr) (f : DE) : Prop := PE X e (tU X.K f)
abbrev RefA (X : Cx) (es : List Expr) (f : DA) : Prop := PA X es (tUA X.K f)
abbrev RefT (X : Cx) (e : Expr) (f : DT) : Prop := PT X e (tUT X.K f)
abbrev RefL (X : Cx) (e : Expr) (f : DA) : Prop := PE X e (tUL X.K f)

section
variable {X : Cx}
theorem pe_weak {e : Expr} {t t' : TE} (h : PE X e t) (k : ∀ σ H Q, t' σ H Q → t σ H Q) : PE X e t' := ⟨fun pins s σ H Q I q => h.run pins s σ H Q I (k σ H Q q)⟩
theorem pa_weak {e : List Expr} {t t' : TA} (h : PA X e t) (k : ∀ σ H Q, t' σ H Q → t σ H Q) : PA X e t' := ⟨fun pos pins s σ H Q I q => h.run pos pins s σ H Q I (k σ H Q q)⟩
theorem pt_weak {e : Expr} {t t' : TT} (h : PT X e t) (k : ∀ σ H Q, t' σ H Q → t σ H Q) : PT X e t' := ⟨fun pins s σ H Q I q => h.run pins s σ H Q I (k σ H Q q)⟩
theorem ps_weak {e : Stmt} {t t' : TS} (h : PS X e t) (k : ∀ E σ H, t' E σ H → t E σ H) : PS X e t' := ⟨fun pins s σ H E I q => h.run pins s σ H E I (k E σ H q)⟩
theorem pss_weak {e : List Stmt} {t t' : TS} (h : PSs X e t) (k : ∀ E σ H, t' E σ H → t E σ H) : PSs X e t' := ⟨fun pins s σ H E I q => h.run pins s σ H E I (k E σ H q)⟩
theorem pi_weak {tg e : Expr} {t t' : TI} (h : PI X tg e t) (k : ∀ σ H R, t' σ H R → t σ H R) : PI X tg e t' := ⟨fun pins s σ H Q I q => h.run pins s σ H Q I (k σ H Q q)⟩
end

/-! a name, constants -/
def dVar (i : Nat) : DE := fun ρ s => match ρ[i]? with
  | some (some d) => some (d, s)
  | _ => none
def dC (d : D) : DE := fun _ s => some (d, s)
section
variable {X : Cx}
theorem r_var {e : Expr} {i : Nat} (h : PE X e (tVar i)) : RefE X e (dVar i) := pe_weak h fun σ H Q ⟨ρ, s, d, s', w, F, e, a, k⟩ => by
  unfold dVar at e
  split at e
  · next d' hd =>
    cases e
    obtain ⟨v, h1, h2⟩ := a.env i d hd
    exact ⟨v, h1, k v F H (.refl a.inn) a.dok h2⟩
  · cases e
theorem r_c {e : Expr} {v : V} {d : D} (h : PE X e (tC v)) (r : ∀ K w F, Rep K w F d v) : RefE X e (dC d) := pe_weak h fun σ H Q ⟨ρ, s, d', s', w, F, e, a, k⟩ => by
  cases e
  exact k v F H (.refl a.inn) a.dok (r _ _ _)
theorem r_int {i j pos} : RefE X (.Constant (.int i) j pos) (dC (.int i)) := r_c pe_int fun _ _ _ => rfl
theorem r_bl {b j pos} : RefE X (.Constant (.bool b) j pos) (dC (.bl b)) := r_c pe_bl fun _ _ _ => rfl
theorem r_non {j pos} : RefE X (.Constant .none j pos) (dC .non) := r_c pe_non fun _ _ _ => rfl
theorem r_str {x j pos} : RefE X (.Constant (.str x) j pos) (dC (.str x)) := r_c pe_str fun _ _ _ => rfl
end

/-! two places -/
def bnd {α β : Type} (x : Option (α × S)) (k : α → S → Option (β × S)) : Option (β × S) := match x with
  | none => none
  | some (a, s) => k a s
theorem bnd_some {α β : Type} {a : α} {s : S} {k : α → S → Option (β × S)} : bnd (some (a, s)) k = k a s := rfl
theorem bnd_eq {α β : Type} {x : Option (α × S)} {k : α → S → Option (β × S)} {r : β × S} (h : bnd x k = some r) : ∃ a s, x = some (a, s) ∧ k a s = some r := by
  cases x with
  | none => cases h
  | some p => exact ⟨p.1, p.2, rfl, h⟩
/-- a pure end -/
def lft {α : Type} (x : Option α) (s : S) : Option (α × S) := match x with
  | none => none
  | some a => some (a, s)
theorem lft_some {α : Type} {a : α} {s : S} : lft (some a) s = some (a, s) := rfl
theorem lft_eq {α : Type} {x : Option α} {s s' : S} {a : α} (h : lft x s = some (a, s')) : x = some a ∧ s' = s := by
  cases x with
  | none => cases h
  | some b => cases h; exact ⟨rfl, rfl⟩
def dBin (g : D → D → Option D) (fa fb : DE) : DE := fun ρ s => bnd (fa ρ s) fun x s1 => bnd (fb ρ s1) fun y s2 => lft (g x y) s2
def dBinT (g : D → D → Option Bool) (fa fb : DE) : DT := fun ρ s => bnd (fa ρ s) fun x s1 => bnd (fb ρ s1) fun y s2 => lft (g x y) s2
def dUn (g : D → Option D) (fa : DE) : DE := fun ρ s => bnd (fa ρ s) fun x s1 => lft (g x) s1
/-- a rule of two values does what g tells of their data -/
def Op2 (K : Fg) (r : R2) (g : D → D → Option D) : Prop := ∀ x y d, g x y = some d → ∀ w s F H v u Q, Sub F H → DOk w s F H → Rep K w F x v → Rep K w F y u →
  (∀ z F' H', Post w F H F' H' → DOk w s F' H' → Rep K w F' d z → Q z H') → r v u H Q
def Op1 (K : Fg) (r : V → Hp → VK → Prop) (g : D → Option D) : Prop := ∀ x d, g x = some d → ∀ w s F H v Q, Sub F H → DOk w s F H → Rep K w F x v →
  (∀ z F' H', Post w F H F' H' → DOk w s F' H' → Rep K w F' d z → Q z H') → r v H Q
def OpA (K : Fg) (r : List V → Hp → VK → Prop) (g : List D → Option D) : Prop := ∀ x d, g x = some d → ∀ w s F H v Q, Sub F H → DOk w s F H → Reps K w F x v →
  (∀ z F' H', Post w F H F' H' → DOk w s F' H' → Rep K w F' d z → Q z H') → r v H Q
section
variable {X : Cx} {a b e : Expr} {fa fb : DE} {r : R2} {pos : Pos}
theorem tU_op {K : Fg} {g : D → D → Option D} (h : Op2 K r g) : ∀ σ H Q, tU K (dBin g fa fb) σ H Q → tOp r (tU K fa) (tU K fb) σ H Q := fun σ H Q ⟨ρ, s, d, s', w, F, e, a, k⟩ => by
  obtain ⟨x, s1, e1, e⟩ := bnd_eq e
  obtain ⟨y, s2, e2, e⟩ := bnd_eq e
  obtain ⟨e3, rfl⟩ := lft_eq e
  refine ⟨ρ, s, x, s1, w, F, e1, a, fun v F1 H1 p1 k1 r1 => ⟨ρ, s1, y, s', w, F1, e2, a.next p1 k1, fun u F2 H2 p2 k2 r2 => ?_⟩⟩
  exact h x y d e3 w s' F2 H2 v u Q p2.inn k2 (r1.mono p2.ex) r2 fun z F3 H3 p3 k3 r3 => k z F3 H3 ((p1.trans p2).trans p3) k3 r3
theorem r_op {op : Operator} {g : D → D → Option D} (ho : OpR X (binaryOp op) r) (h : Op2 X.K r g) (ha : RefE X a fa) (hb : RefE X b fb) : RefE X (.BinOp a op b pos) (dBin g fa fb) := pe_weak (pe_op ho ha hb) (tU_op h)
theorem r_cmp {op : CmpOp} {g : D → D → Option D} (ho : OpR X (compareOp op) r) (h : Op2 X.K r g) (ha : RefE X a fa) (hb : RefE X b fb) (hm : behindInMarks op b = false) : RefE X (.Compare a [op] [b] pos) (dBin g fa fb) := pe_weak (pe_cmpR ho ha hb hm) (tU_op h)
theorem r_un {op : UnaryOp} {r : V → Hp → VK → Prop} {g : D → Option D} (ho : UnR X (unaryOp op) r) (h : Op1 X.K r g) (ha : RefE X a fa) : RefE X (.UnaryOp op a pos) (dUn g fa) := pe_weak (pe_un ho ha) fun σ H Q ⟨ρ, s, d, s', w, F, e, a, k⟩ => by
  obtain ⟨x, s1, e1, e⟩ := bnd_eq e
  obtain ⟨e3, rfl⟩ := lft_eq e
  exact ⟨ρ, s, x, s', w, F, e1, a, fun v F1 H1 p1 k1 r1 => h x d e3 w s' F1 H1 v Q p1.inn k1 r1 fun z F3 H3 p3 k3 r3 => k z F3 H3 (p1.trans p3) k3 r3⟩
theorem r_ix {g : D → D → Option D} (ho : IxR X r) (h : Op2 X.K r g) (ha : RefE X a fa) (hb : RefE X b fb) (hs : PlainIx b) : RefE X (.Subscript a b pos) (dBin g fa fb) := pe_weak (pe_ix ho ha hb hs) (tU_op h)

/-! tests -/
/-- a value that is True or False, as a test -/
def dTest (f : DE) : DT := fun ρ s => bnd (f ρ s) fun d s1 => match d with
  | .bl b => some (b, s1)
  | _ => none
theorem tU_test {K : Fg} : ∀ σ H Q, tUT K (dTest fa) σ H Q → tTest (tU K fa) σ H Q := fun σ H Q ⟨ρ, s, d, s', w, F, e, a, k⟩ => by
  obtain ⟨x, s1, e1, e⟩ := bnd_eq e
  cases x <;> cases e
  exact ⟨ρ, s, _, _, w, F, e1, a, fun v F1 H1 p1 k1 r1 => ⟨d, r1, k F1 H1 p1 k1⟩⟩
theorem r_test (h : RefE X e fa) (he : ∀ whole, isTrue e X.env whole = (do let v ← whole; standAt e.pos; holding [v] (truthy v)) := by intro _; rfl) : RefT X e (dTest fa) := pt_weak (pt_val h he) tU_test
theorem r_cmpT {op : CmpOp} {g : D → D → Option D} (ho : OpR X (compareOp op) r) (h : Op2 X.K r g) (ha : RefE X a fa) (hb : RefE X b fb) (hm : behindInMarks op b = false) : RefT X (.Compare a [op] [b] pos) (dTest (dBin g fa fb)) :=
  pt_weak (pt_cmpR ho ha hb hm) fun σ H Q h1 => by
    have q := tU_test σ H Q h1
    exact tU_op h σ H _ q
def dAnd (f g : DT) : DT := fun ρ s => bnd (f ρ s) fun b s1 => if b = true then g ρ s1 else some (false, s1)
def dOr (f g : DT) : DT := fun ρ s => bnd (f ρ s) fun b s1 => if b = true then some (true, s1) else g ρ s1
def dNot (f : DT) : DT := fun ρ s => bnd (f ρ s) fun b s1 => some (!b, s1)
variable {ft gt : DT}
theorem tUT_and {K : Fg} : ∀ σ H Q, tUT K (dAnd ft gt) σ H Q → tAnd (tUT K ft) (tUT K gt) σ H Q := fun σ H Q ⟨ρ, s, d, s', w, F, e, a, k⟩ => by
  obtain ⟨x, s1, e1, e⟩ := bnd_eq e
  refine ⟨ρ, s, x, s1, w, F, e1, a, fun F1 H1 p1 k1 => ?_⟩
  cases x with
  | true => exact ⟨ρ, s1, d, s', w, F1, e, a.next p1 k1, fun F2 H2 p2 k2 => k F2 H2 (p1.trans p2) k2⟩
  | false => cases e; exact k F1 H1 p1 k1
theorem tUT_or {K : Fg} : ∀ σ H Q, tUT K (dOr ft gt) σ H Q → tOr (tUT K ft) (tUT K gt) σ H Q := fun σ H Q ⟨ρ, s, d, s', w, F, e, a, k⟩ => by
  obtain ⟨x, s1, e1, e⟩ := bnd_eq e
  refine ⟨ρ, s, x, s1, w, F, e1, a, fun F1 H1 p1 k1 => ?_⟩
  cases x with
  | true => cases e; exact k F1 H1 p1 k1
  | false => exact ⟨ρ, s1, d, s', w, F1, e, a.next p1 k1, fun F2 H2 p2 k2 => k F2 H2 (p1.trans p2) k2⟩
abbrev RefW (X : Cx) (e : Expr) (f : DT) : Prop := PW X e (tUT X.K f)
theorem pw_weak {e : Expr} {t t' : TT} (h : PW X e t) (k : ∀ σ H Q, t' σ H Q → t σ H Q) : PW X e t' := ⟨fun wh pins s σ H Q I q => h.run wh pins s σ H Q I (k σ H Q q)⟩
theorem w_and1 (h : RefT X a ft) : RefW X (.BoolOp .And [a] pos) ft := pw_and1 h
theorem w_or1 (h : RefT X a ft) : RefW X (.BoolOp .Or [a] pos) ft := pw_or1 h
theorem w_and {rest : List Expr} (h : RefT X a ft) (k : RefW X (.BoolOp .And (b :: rest) pos) gt) : RefW X (.BoolOp .And (a :: b :: rest) pos) (dAnd ft gt) := pw_weak (pw_and h k) tUT_and
theorem w_or {rest : List Expr} (h : RefT X a ft) (k : RefW X (.BoolOp .Or (b :: rest) pos) gt) : RefW X (.BoolOp .Or (a :: b :: rest) pos) (dOr ft gt) := pw_weak (pw_or h k) tUT_or
theorem r_pw (h : RefW X e ft) : RefT X e ft := PW.pt h
theorem r_not (h : RefT X a ft) : RefT X (.UnaryOp .Not a pos) (dNot ft) := pt_weak (pt_not h) fun σ H Q ⟨ρ, s, d, s', w, F, e, a, k⟩ => by
  obtain ⟨x, s1, e1, e⟩ := bnd_eq e
  cases e
  exact ⟨ρ, s, x, _, w, F, e1, a, fun F1 H1 p1 k1 => k F1 H1 p1 k1⟩
/-! and, or, not as values of bools -/
def dB (f : DT) : DE := fun ρ s => bnd (f ρ s) fun b s1 => some (.bl b, s1)
theorem v_one {op} (h : RefE X a fa) : RefE X (.BoolOp op [a] pos) (dB (dTest fa)) := pe_weak (pe_one h) fun σ H Q ⟨ρ, s, d, s', w, F, e, a, k⟩ => by
  obtain ⟨x, s1, e1, e⟩ := bnd_eq e
  obtain ⟨y, s2, e2, e3⟩ := bnd_eq e1
  cases y <;> cases e3
  cases e
  exact ⟨ρ, s, _, _, w, F, e2, a, k⟩
theorem v_and {rest : List Expr} (h : RefE X a fa) (k : RefE X (.BoolOp .And (b :: rest) pos) (dB gt)) : RefE X (.BoolOp .And (a :: b :: rest) pos) (dB (dAnd (dTest fa) gt)) := pe_weak (pe_and h k) fun σ H Q ⟨ρ, s, d, s', w, F, e, a, k⟩ => by
  obtain ⟨x, s1, e1, e⟩ := bnd_eq e
  obtain ⟨y, s2, e2, e3⟩ := bnd_eq e1
  obtain ⟨z, s3, e4, e5⟩ := bnd_eq e2
  cases z <;> cases e5
  cases e
  refine ⟨ρ, s, _, s2, w, F, e4, a, fun v F1 H1 p1 k1 r1 => ⟨y, r1, ?_⟩⟩
  cases y with
  | true =>
    have e3' : gt ρ s2 = some (x, s') := e3
    exact ⟨ρ, s2, .bl x, s', w, F1, by show bnd (gt ρ s2) _ = _; rw [e3']; rfl, a.next p1 k1, fun v F2 H2 p2 k2 r2 => k v F2 H2 (p1.trans p2) k2 r2⟩
  | false => cases e3; exact k _ F1 H1 p1 k1 rfl
theorem v_or {rest : List Expr} (h : RefE X a fa) (k : RefE X (.BoolOp .Or (b :: rest) pos) (dB gt)) : RefE X (.BoolOp .Or (a :: b :: rest) pos) (dB (dOr (dTest fa) gt)) := pe_weak (pe_or h k) fun σ H Q ⟨ρ, s, d, s', w, F, e, a, k⟩ => by
  obtain ⟨x, s1, e1, e⟩ := bnd_eq e
  obtain ⟨y, s2, e2, e3⟩ := bnd_eq e1
  obtain ⟨z, s3, e4, e5⟩ := bnd_eq e2
  cases z <;> cases e5
  cases e
  refine ⟨ρ, s, _, s2, w, F, e4, a, fun v F1 H1 p1 k1 r1 => ⟨y, r1, ?_⟩⟩
  cases y with
  | false =>
    have e3' : gt ρ s2 = some (x, s') := e3
    exact ⟨ρ, s2, .bl x, s', w, F1, by show bnd (gt ρ s2) _ = _; rw [e3']; rfl, a.next p1 k1, fun v F2 H2 p2 k2 r2 => k v F2 H2 (p1.trans p2) k2 r2⟩
  | true => cases e3; exact k _ F1 H1 p1 k1 rfl
theorem v_not (h : RefE X a fa) : RefE X (.UnaryOp .Not a pos) (dB (dNot (dTest fa))) := pe_weak (pe_not h) fun σ H Q ⟨ρ, s, d, s', w, F, e, a, k⟩ => by
  obtain ⟨x, s1, e1, e⟩ := bnd_eq e
  obtain ⟨y, s2, e2, e3⟩ := bnd_eq e1
  obtain ⟨z, s3, e4, e5⟩ := bnd_eq e2
  cases z <;> cases e5
  cases e3
  cases e
  exact ⟨ρ, s, _, _, w, F, e4, a, fun v F1 H1 p1 k1 r1 => ⟨y, r1, k _ F1 H1 p1 k1 rfl⟩⟩
def dIf (c : DT) (f g : DE) : DE := fun ρ s => bnd (c ρ s) fun b s1 => if b = true then f ρ s1 else g ρ s1
theorem r_ifExp {c : Expr} (hc : RefT X c ft) (ha : RefE X a fa) (hb : RefE X b fb) : RefE X (.IfExp c a b pos) (dIf ft fa fb) := pe_weak (pe_ifExp hc ha hb) fun σ H Q ⟨ρ, s, d, s', w, F, e, a, k⟩ => by
  obtain ⟨x, s1, e1, e⟩ := bnd_eq e
  refine ⟨ρ, s, x, s1, w, F, e1, a, fun F1 H1 p1 k1 => ?_⟩
  cases x with
  | true => exact ⟨ρ, s1, d, s', w, F1, e, a.next p1 k1, fun v F2 H2 p2 k2 r2 => k v F2 H2 (p1.trans p2) k2 r2⟩
  | false => exact ⟨ρ, s1, d, s', w, F1, e, a.next p1 k1, fun v F2 H2 p2 k2 r2 => k v F2 H2 (p1.trans p2) k2 r2⟩
/-- a < b < c -/
def dChain (g g' : D → D → Option D) (fa fb fc : DE) : DE := fun ρ s => bnd (fa ρ s) fun x s1 => bnd (fb ρ s1) fun y s2 => match g x y with
  | some (.bl true) => bnd (fc ρ s2) fun z s3 => lft (g' y z) s3
  | some (.bl false) => some (.bl false, s2)
  | _ => none

/-! argument lists -/
def dNil : DA := fun _ s => some ([], s)
def dCons (f : DE) (g : DA) : DA := fun ρ s => bnd (f ρ s) fun x s1 => bnd (g ρ s1) fun l s2 => some (x :: l, s2)
theorem a_nil : RefA X [] dNil := pa_weak pa_nil fun σ H Q ⟨ρ, s, d, s', w, F, e, a, k⟩ => by
  cases e
  exact k [] F H (.refl a.inn) a.dok rfl
variable {es : List Expr} {ga : DA}
theorem tUA_cons {K : Fg} : ∀ σ H Q, tUA K (dCons fa ga) σ H Q → tCons (tU K fa) (tUA K ga) σ H Q := fun σ H Q ⟨ρ, s, d, s', w, F, e, a, k⟩ => by
  obtain ⟨x, s1, e1, e⟩ := bnd_eq e
  obtain ⟨y, s2, e2, e⟩ := bnd_eq e
  cases e
  exact ⟨ρ, s, x, s1, w, F, e1, a, fun v F1 H1 p1 k1 r1 => ⟨ρ, s1, y, _, w, F1, e2, a.next p1 k1, fun vs F2 H2 p2 k2 r2 => k _ F2 H2 (p1.trans p2) k2 ⟨v, vs, rfl, r1.mono p2.ex, r2⟩⟩⟩
theorem a_cons (ha : RefE X e fa) (hr : RefA X es ga) (hs : starEach (e :: es) X.env = (false, eval e X.env) :: starEach es X.env := by rfl) : RefA X (e :: es) (dCons fa ga) := pa_weak (pa_cons ha hr hs) tUA_cons
abbrev RefK (X : Cx) (es : List Keyword) (f : DA) : Prop := PK X es (tUA X.K f)
theorem k_nil : RefK X [] dNil := ⟨fun pos pins s0 σ H Q I ⟨ρ, s, d, s', w, F, e, a, k⟩ => (pk_nil (X := X)).run pos pins s0 σ H Q I (by cases e; exact k [] F H (.refl a.inn) a.dok rfl)⟩
theorem k_cons {kws : List Keyword} {nm kpos} (ha : RefE X e fa) (hr : RefK X kws ga) : RefK X (⟨nm, e, kpos⟩ :: kws) (dCons fa ga) := ⟨fun pos pins s0 σ H Q I h => (pk_cons ha hr).run pos pins s0 σ H Q I (tUA_cons σ H Q h)⟩

/-! displays -/
def lim : Nat := 1000000
theorem lim_le {n : Nat} (h : n ≤ lim) : n ≤ sizeLine := Nat.le_trans h (by decide)
theorem lim_lt {n : Nat} (h : n < lim) : n < sizeLine := Nat.lt_of_lt_of_le h (by decide)
def dTup (f : DA) : DE := fun ρ s => bnd (f ρ s) fun l s1 => if l.length ≤ lim then some (.tup l, s1) else none
/-- a new list, frozen as soon as it stands -/
def dFrz (f : DA) : DE := fun ρ s => bnd (f ρ s) fun l s1 => some (.lst l, s1)
def dLst (f : DA) : DA := fun ρ s => bnd (f ρ s) fun l s1 => if l.length ≤ lim then some (l, s1) else none
theorem r_tup {x1} (h : RefA X es ga) : RefE X (.Tuple es x1 pos) (dTup ga) := pe_weak (pe_tup h) fun σ H Q ⟨ρ, s, d, s', w, F, e, a, k⟩ => by
  obtain ⟨l, s1, e1, e⟩ := bnd_eq e
  split at e
  · next hl =>
    cases e
    refine ⟨ρ, s, l, _, w, F, e1, a, fun vs F1 H1 p1 k1 r1 => ⟨lim_le (by rw [r1.length]; exact hl), fun p hp => ?_⟩⟩
    have q := Post.laid (w := w) (o := .tup vs) p1.inn hp
    exact k _ _ _ (p1.trans q) (k1.laid hp) ⟨p, vs, rfl, .of upd_same, r1.mono q.ex⟩
  · cases e
theorem l_lst (h : RefA X es ga) : RefL X (.List es pos) (dLst ga) := pe_weak (pe_lst h) fun σ H Q ⟨ρ, s, d, s', w, F, e, a, k⟩ => by
  obtain ⟨l, s1, e1, e⟩ := bnd_eq e
  split at e
  · next hl =>
    cases e
    refine ⟨ρ, s, _, _, w, F, e1, a, fun vs F1 H1 p1 k1 r1 => ⟨lim_le (by rw [r1.length]; exact hl), fun p hp => ?_⟩⟩
    have q := Post.made (w := w) (o := .lst vs) p1.inn hp
    exact k p vs F1 _ (p1.trans q) (k1.made (k1.fresh hp)) (p1.free hp) (p1.dom p hp) (k1.fresh hp) upd_same r1
  · cases e
/-- a new list as a value -/
theorem r_frz (h : RefL X e ga) : RefE X e (dFrz ga) := pe_weak h fun σ H Q ⟨ρ, s, d, s', w, F, e, a, k⟩ => by
  obtain ⟨l, s1, e1, e⟩ := bnd_eq e
  cases e
  refine ⟨ρ, s, l, _, w, F, e1, a, fun p vs F1 H1 p1 k1 n1 n2 n3 e3 r1 => ?_⟩
  have hsub : Sub F1 (upd F1 p (.lst vs)) := fun b u hb => by rw [upd_ne (ne_of_none hb n1)]; exact hb
  refine k (.ref p) (upd F1 p (.lst vs)) H1 ⟨p1.ex.trans hsub, fun b u hb => ?_, fun b u hb => ?_, p1.kept, p1.dom⟩ ?_ ⟨p, vs, rfl, upd_same, r1.mono hsub⟩
  · by_cases hbp : b = p
    · subst hbp; rw [upd_same] at hb; cases hb; exact e3
    · rw [upd_ne hbp] at hb; exact p1.inn b u hb
  · by_cases hbp : b = p
    · subst hbp; exact .inr n2
    · rw [upd_ne hbp] at hb; exact p1.new b u hb
  · cases w with
    | none => trivial
    | some q =>
      obtain ⟨x, y⟩ := q
      obtain ⟨h0, h1, h2, h3, h4⟩ := k1
      have nx : x ≠ p := fun e => n3 (by rw [← e]; simp [dcells])
      have ny : y ≠ p := fun e => n3 (by rw [← e]; simp [dcells])
      exact ⟨h0, by rw [upd_ne nx]; exact h1, by rw [upd_ne ny]; exact h2, h3, h4⟩
end
end Mp

set_option Elab.async false
set_option linter.all false
set_option maxRecDepth 100000
/-! Mp2: operations, calls -/
namespace Mp
open PySem L2

/-! ### data as the library's -/
mutual
def toPy : D → Option PyData
  | .non => some .none
  | .bl b => some (.bool b)
  | .int i => some (.int i)
  | .str x => some (.str x)
  | .tup l => (toPys l).map .tuple
  | .lst l => (toPys l).map .list
  | .deal => none
  | .ty _ => none
  | .scr _ => none
def toPys : List D → Option (List PyData)
  | [] => some []
  | d :: l => match toPy d, toPys l with
    | some p, some q => some (p :: q)
    | _, _ => none
end
mutual
theorem Rep.dp {K : Fg} {w : Wd} {F : Hp} : ∀ (d : D) {v : V} {p : PyData}, Rep K w F d v → toPy d = some p → Dp K F v p
  | .non, _, _, h, e => by cases e; rw [show _ = V.non from h]; exact .non
  | .bl b, _, _, h, e => by cases e; rw [show _ = V.bl b from h]; exact .bl b
  | .int i, _, _, h, e => by cases e; rw [show _ = V.int i from h]; exact .int i
  | .str x, _, _, h, e => by cases e; rw [show _ = V.str x from h]; exact .str x
  | .tup l, _, p, ⟨a, vs, h1, h2, h3⟩, e => by
    subst h1
    have e' : (toPys l).map PyData.tuple = some p := e
    obtain ⟨q, e1, e2⟩ := Option.map_eq_some_iff.mp e'
    subst e2
    exact .tup h2 (Reps.dps l h3 e1)
  | .lst l, _, p, ⟨a, vs, h1, h2, h3⟩, e => by
    subst h1
    have e' : (toPys l).map PyData.list = some p := e
    obtain ⟨q, e1, e2⟩ := Option.map_eq_some_iff.mp e'
    subst e2
    exact .lst (.of h2) (Reps.dps l h3 e1)
  | .deal, _, _, _, e => by cases e
  | .ty _, _, _, _, e => by cases e
  | .scr _, _, _, _, e => by cases e
theorem Reps.dps {K : Fg} {w : Wd} {F : Hp} : ∀ (l : List D) {vs : List V} {ps : List PyData}, Reps K w F l vs → toPys l = some ps → DpAll K F vs ps
  | [], _, _, h, e => by cases e; rw [show _ = [] from h]; exact .nil
  | d :: l, _, ps, ⟨v, r, h1, h2, h3⟩, e => by
    subst h1
    unfold toPys at e
    split at e
    · next p q e1 e2 =>
      cases e
      exact .cons (Rep.dp d h2 e1) (Reps.dps l h3 e2)
    · cases e
end
mutual
theorem Dp.sub {K : Fg} {F H : Hp} (e : Sub F H) : ∀ (p : PyData) {v : V}, Dp K F v p → Dp K H v p
  | .none, _, h => by cases h; exact .non
  | .bool b, _, h => by cases h; exact .bl b
  | .int i, _, h => by cases h; exact .int i
  | .str x, _, h => by cases h; exact .str x
  | .list ds, _, h => by cases h with | lst a b => exact .lst (e.sql a) (DpAll.sub e ds b)
  | .tuple ds, _, h => by cases h with | tup a b => exact .tup (e.sqt a) (DpAll.sub e ds b)
  | .dict _, _, h => by cases h
theorem DpAll.sub {K : Fg} {F H : Hp} (e : Sub F H) : ∀ (ps : List PyData) {vs : List V}, DpAll K F vs ps → DpAll K H vs ps
  | [], _, h => by cases h; exact .nil
  | p :: ps, _, h => by cases h with | cons a b => exact .cons (Dp.sub e p a) (DpAll.sub e ps b)
end
def eqP (x y : D) : Option Bool := match toPy x, toPy y with
  | some a, some b => if SeqAt.shaped a = true ∧ SeqAt.shaped b = true then some (PyData.eqv a b) else none
  | _, _ => none
/-- == of data -/
def eqD (x y : D) : Option Bool := match x, y with
  | .int i, .int j => some (decide (i = j))
  | x, y => eqP x y
theorem eqP_int (i j : Int) : eqP (.int i) (.int j) = some (decide (i = j)) := by
  show (if SeqAt.shaped (.int i) = true ∧ SeqAt.shaped (.int j) = true then some (PyData.eqv (.int i) (.int j)) else none) = _
  rw [if_pos ⟨rfl, rfl⟩]
  show some (i == j) = _
  rw [Bool.beq_eq_decide_eq]
theorem eqD_eqP (x y : D) : eqD x y = eqP x y := by
  unfold eqD
  split
  · next i j => exact (eqP_int i j).symm
  · rfl
def eqV (x y : D) : Option D := (eqD x y).map .bl
def neV (x y : D) : Option D := (eqD x y).map fun b => .bl (!b)
theorem eqP_eq {x y : D} {b : Bool} (h : eqD x y = some b) : ∃ p q, toPy x = some p ∧ toPy y = some q ∧ SeqAt.shaped p = true ∧ SeqAt.shaped q = true ∧ b = PyData.eqv p q := by
  rw [eqD_eqP] at h
  unfold eqP at h
  split at h
  · next p q e1 e2 =>
    split at h
    · next c => cases h; exact ⟨p, q, e1, e2, c.1, c.2, rfl⟩
    · cases h
  · cases h
theorem op2_eq {K : Fg} : Op2 K (rEqD K) eqV := fun x y d e w s F H v u Q hs k r1 r2 q => by
  obtain ⟨b, e1, e2⟩ := Option.map_eq_some_iff.mp e
  subst e2
  obtain ⟨p, p', t1, t2, s1, s2, rfl⟩ := eqP_eq e1
  exact ⟨p, p', Dp.sub hs p (Rep.dp x r1 t1), Dp.sub hs p' (Rep.dp y r2 t2), s1, s2, q _ F H (.refl hs) k rfl⟩
theorem op2_ne {K : Fg} : Op2 K (rNeD K) neV := fun x y d e w s F H v u Q hs k r1 r2 q => by
  obtain ⟨b, e1, e2⟩ := Option.map_eq_some_iff.mp e
  subst e2
  obtain ⟨p, p', t1, t2, s1, s2, rfl⟩ := eqP_eq e1
  exact ⟨p, p', Dp.sub hs p (Rep.dp x r1 t1), Dp.sub hs p' (Rep.dp y r2 t2), s1, s2, q _ F H (.refl hs) k rfl⟩

/-! ### ints -/
def iiD (C : Int → Int → Bool) (g : Int → Int → D) : D → D → Option D
  | .int i, .int j => if C i j = true then some (g i j) else none
  | _, _ => none
theorem op2_I {K : Fg} {C : Int → Int → Prop} {c : Int → Int → Bool} {g : Int → Int → V} {g' : Int → Int → D} (hc : ∀ i j, c i j = true → C i j) (hg : ∀ i j w F, Rep K w F (g' i j) (g i j)) : Op2 K (rI C g) (iiD c g') := fun x y d e w s F H v u Q hs k r1 r2 q => by
  unfold iiD at e
  split at e
  · next i j =>
    split at e
    · next hh =>
      cases e
      exact ⟨i, j, r1, r2, hc i j hh, q _ F H (.refl hs) k (hg i j w F)⟩
    · cases e
  · cases e
def iiD0 (g : Int → Int → D) : D → D → Option D
  | .int i, .int j => some (g i j)
  | _, _ => none
theorem op2_I0 {K : Fg} {g : Int → Int → V} {g' : Int → Int → D} (hg : ∀ i j w F, Rep K w F (g' i j) (g i j)) : Op2 K (rI0 g) (iiD0 g') := fun x y d e w s F H v u Q hs k r1 r2 q => by
  unfold iiD0 at e
  split at e
  · next i j =>
    cases e
    exact ⟨i, j, r1, r2, q _ F H (.refl hs) k (hg i j w F)⟩
  · cases e
def addD : D → D → Option D
  | .int i, .int j => some (.int (i + j))
  | .str a, .str b => if a.length + b.length ≤ lim then some (.str (a ++ b)) else none
  | .tup l, .tup m => if l.length + m.length ≤ lim then some (.tup (l ++ m)) else none
  | _, _ => none
def rAddS : R2 := fun x y H Q => ∃ i j, x = .str i ∧ y = .str j ∧ i.length + j.length ≤ sizeLine ∧ Q (.str (i ++ j)) H
def rAdd (K : Fg) : R2 := fun x y H Q => rI0 (fun i j => .int (i + j)) x y H Q ∨ (rAddS x y H Q ∨ rCatA K x y H Q)
theorem or_add {X : Cx} : OpR X (binaryOp .Add) (rAdd X.K) := op_add.or (OpR.or op_add_str op_catA)
theorem op2_add {K : Fg} : Op2 K (rAdd K) addD := fun x y d e w s F H v u Q hs k r1 r2 q => by
  unfold addD at e
  split at e
  · next i j => cases e; exact .inl ⟨i, j, r1, r2, q _ F H (.refl hs) k rfl⟩
  · next a b =>
    split at e
    · next hl => cases e; exact .inr (.inl ⟨a, b, r1, r2, lim_le hl, q _ F H (.refl hs) k rfl⟩)
    · cases e
  · next l m =>
    split at e
    · next hl =>
      cases e
      obtain ⟨a, xs, rfl, h2, h3⟩ := r1
      obtain ⟨b, ys, rfl, k2, k3⟩ := r2
      have hz : xs.length + ys.length ≤ sizeLine := lim_le (by rw [h3.length, k3.length]; exact hl)
      refine .inr (.inr ⟨a, b, xs, ys, rfl, rfl, hs.sqt h2, hs.sqt k2, hz, fun e => ?_, fun _ e => ?_, fun _ _ p hp => ?_⟩)
      · refine q _ F H (.refl hs) k ⟨b, ys, rfl, k2, ?_⟩
        have := Reps.append h3 k3
        rw [e, List.nil_append] at this
        exact this
      · refine q _ F H (.refl hs) k ⟨a, xs, rfl, h2, ?_⟩
        have := Reps.append h3 k3
        rw [e, List.append_nil] at this
        exact this
      · have pp := Post.laid (w := w) (o := .tup (xs ++ ys)) hs hp
        exact q _ _ _ pp (k.laid hp) ⟨p, xs ++ ys, rfl, .of upd_same, (Reps.append h3 k3).mono pp.ex⟩
    · cases e
  · cases e
def subD : D → D → Option D := iiD0 fun i j => .int (i - j)
def mulC (i j : Int) : Bool := decide (i.natAbs.log2 + j.natAbs.log2 < 1000000)
def mulD : D → D → Option D := iiD mulC fun i j => .int (i * j)
def divC (_ j : Int) : Bool := decide (j ≠ 0 ∧ j.natAbs.log2 < 9000)
def fdivD : D → D → Option D := iiD divC fun i j => .int (i.fdiv j)
def modC (_ j : Int) : Bool := decide (j ≠ 0)
def modD : D → D → Option D := iiD modC fun i j => .int (i.fmod j)
def powC (i j : Int) : Bool := decide (0 ≤ j ∧ (Builtin.Int.intBits i : Int) * j ≤ 2 ^ 27)
def powD : D → D → Option D := iiD powC fun i j => .int (i ^ j.toNat)
section
variable {X : Cx}
theorem op_fdivA : OpR X (binaryOp .FloorDiv) (rI (fun _ j => j ≠ 0 ∧ j.natAbs.log2 < 9000) fun i j => .int (i.fdiv j)) := opI fun _ _ _ _ _ _ _ hc q => PyProof.Rows.floordiv_int hc.1 q (.inl (PyProof.noPylong_of_log2 hc.2))
theorem op_powA : OpR X (binaryOp .Pow) (rI (fun i j => 0 ≤ j ∧ (Builtin.Int.intBits i : Int) * j ≤ 2 ^ 27) fun i j => .int (i ^ j.toNat)) := opI fun _ _ _ _ _ _ _ hc q => PyProof.Rows.pow_int hc.1 hc.2 q
theorem iop_fdivA : OpR X (inplaceOp .FloorDiv) (rI (fun _ j => j ≠ 0 ∧ j.natAbs.log2 < 9000) fun i j => .int (i.fdiv j)) := opI fun _ _ _ _ _ _ _ hc q => PyProof.Rows.ifloordiv_int hc.1 q (.inl (PyProof.noPylong_of_log2 hc.2))
theorem iop_mulW : OpR X (inplaceOp .Mult) (rI CMulW fun i j => .int (i * j)) := opI fun _ _ _ _ _ _ _ hc q => PyProof.Rows.imul_int q hc.ok
variable {a b : Expr} {fa fb : DE} {pos : Pos}
theorem r_add (ha : RefE X a fa) (hb : RefE X b fb) : RefE X (.BinOp a .Add b pos) (dBin addD fa fb) := r_op or_add op2_add ha hb
theorem r_sub (ha : RefE X a fa) (hb : RefE X b fb) : RefE X (.BinOp a .Sub b pos) (dBin subD fa fb) := r_op op_sub (op2_I0 fun _ _ _ _ => rfl) ha hb
theorem r_mul (ha : RefE X a fa) (hb : RefE X b fb) : RefE X (.BinOp a .Mult b pos) (dBin mulD fa fb) := r_op op_mulW (op2_I (fun i j h => (of_decide_eq_true h : i.natAbs.log2 + j.natAbs.log2 < 1000000)) fun _ _ _ _ => rfl) ha hb
theorem r_fdiv (ha : RefE X a fa) (hb : RefE X b fb) : RefE X (.BinOp a .FloorDiv b pos) (dBin fdivD fa fb) := r_op op_fdivA (op2_I (fun _ _ h => of_decide_eq_true h) fun _ _ _ _ => rfl) ha hb
theorem r_mod (ha : RefE X a fa) (hb : RefE X b fb) : RefE X (.BinOp a .Mod b pos) (dBin modD fa fb) := r_op op_modN (op2_I (fun _ _ h => of_decide_eq_true h) fun _ _ _ _ => rfl) ha hb
theorem r_pow (ha : RefE X a fa) (hb : RefE X b fb) : RefE X (.BinOp a .Pow b pos) (dBin powD fa fb) := r_op op_powA (op2_I (fun _ _ h => of_decide_eq_true h) fun _ _ _ _ => rfl) ha hb
def negD : D → Option D
  | .int i => some (.int (-i))
  | _ => none
theorem op1_neg {K : Fg} : Op1 K (rU fun i => .int (-i)) negD := fun x d e w s F H v Q hs k r q => by
  unfold negD at e
  split at e
  · next i => cases e; exact ⟨i, r, q _ F H (.refl hs) k rfl⟩
  · cases e
theorem r_neg (ha : RefE X a fa) : RefE X (.UnaryOp .USub a pos) (dUn negD fa) := r_un un_neg op1_neg ha
/-! comparisons -/
def ltD : D → D → Option D := iiD0 fun i j => .bl (decide (i < j))
def leD : D → D → Option D := iiD0 fun i j => .bl (decide (i ≤ j))
def gtD : D → D → Option D := iiD0 fun i j => .bl (decide (j < i))
def geD : D → D → Option D := iiD0 fun i j => .bl (decide (j ≤ i))
theorem op2_lt {K : Fg} : Op2 K (rI0 fun i j => .bl (decide (i < j))) ltD := op2_I0 fun _ _ _ _ => rfl
theorem op2_le {K : Fg} : Op2 K (rI0 fun i j => .bl (decide (i ≤ j))) leD := op2_I0 fun _ _ _ _ => rfl
theorem op2_gt {K : Fg} : Op2 K (rI0 fun i j => .bl (decide (j < i))) gtD := op2_I0 fun _ _ _ _ => rfl
theorem op2_ge {K : Fg} : Op2 K (rI0 fun i j => .bl (decide (j ≤ i))) geD := op2_I0 fun _ _ _ _ => rfl
theorem r_chain {c : Expr} {fc : DE} {op op' : CmpOp} {r r' : R2} {g g' : D → D → Option D} (ho : OpR X (compareOp op) r) (h : Op2 X.K r g) (ho' : OpR X (compareOp op') r') (h' : Op2 X.K r' g') (ha : RefE X a fa) (hb : RefE X b fb) (hc : RefE X c fc)
    (hm : lastMarks [op, op'] [b, c] = false := by with_unfolding_all rfl) : RefE X (.Compare a [op, op'] [b, c] pos) (dChain g g' fa fb fc) := pe_weak (pe_chain ho ho' ha hb hc hm) fun σ H Q ⟨ρ, s, d, s', w, F, e, a, k⟩ => by
  obtain ⟨x, s1, e1, e⟩ := bnd_eq e
  obtain ⟨y, s2, e2, e⟩ := bnd_eq e
  refine ⟨ρ, s, x, s1, w, F, e1, a, fun v F1 H1 p1 k1 r1 => ⟨ρ, s1, y, s2, w, F1, e2, a.next p1 k1, fun u F2 H2 p2 k2 r2 => ?_⟩⟩
  split at e
  · next eg =>
    refine h x y _ eg w s2 F2 H2 v u _ p2.inn k2 (r1.mono p2.ex) r2 fun z F3 H3 p3 k3 r3 => ⟨true, r3, ?_⟩
    obtain ⟨z', s3, e3, e⟩ := bnd_eq e
    obtain ⟨e4, rfl⟩ := lft_eq e
    have a3 := ((a.next p1 k1).next p2 k2).next p3 k3
    exact ⟨ρ, s2, z', _, w, F3, e3, a3, fun v4 F4 H4 p4 k4 r4 => h' y z' d e4 w _ F4 H4 u v4 Q p4.inn k4 ((r2.mono p3.ex).mono p4.ex) r4 fun z5 F5 H5 p5 k5 r5 => k z5 F5 H5 ((((p1.trans p2).trans p3).trans p4).trans p5) k5 r5⟩
  · next eg =>
    cases e
    exact h x y _ eg w _ F2 H2 v u _ p2.inn k2 (r1.mono p2.ex) r2 fun z F3 H3 p3 k3 r3 => ⟨false, r3, k (.bl false) F3 H3 ((p1.trans p2).trans p3) k3 rfl⟩
  · cases e
theorem r_chainT {c : Expr} {fc : DE} {op op' : CmpOp} {r r' : R2} {g g' : D → D → Option D} (ho : OpR X (compareOp op) r) (h : Op2 X.K r g) (ho' : OpR X (compareOp op') r') (h' : Op2 X.K r' g') (ha : RefE X a fa) (hb : RefE X b fb) (hc : RefE X c fc)
    (hm : lastMarks [op, op'] [b, c] = false := by with_unfolding_all rfl) : RefT X (.Compare a [op, op'] [b, c] pos) (dTest (dChain g g' fa fb fc)) := pt_weak (pt_chain ho ho' ha hb hc hm) fun σ H Q q => by
  have q := tU_test σ H Q q
  obtain ⟨ρ, s, d, s', w, F, e, a, k⟩ := q
  obtain ⟨x, s1, e1, e⟩ := bnd_eq e
  obtain ⟨y, s2, e2, e⟩ := bnd_eq e
  refine ⟨ρ, s, x, s1, w, F, e1, a, fun v F1 H1 p1 k1 r1 => ⟨ρ, s1, y, s2, w, F1, e2, a.next p1 k1, fun u F2 H2 p2 k2 r2 => ?_⟩⟩
  split at e
  · next eg =>
    refine h x y _ eg w s2 F2 H2 v u _ p2.inn k2 (r1.mono p2.ex) r2 fun z F3 H3 p3 k3 r3 => ⟨true, r3, ?_⟩
    obtain ⟨z', s3, e3, e⟩ := bnd_eq e
    obtain ⟨e4, rfl⟩ := lft_eq e
    have a3 := ((a.next p1 k1).next p2 k2).next p3 k3
    exact ⟨ρ, s2, z', _, w, F3, e3, a3, fun v4 F4 H4 p4 k4 r4 => h' y z' d e4 w _ F4 H4 u v4 _ p4.inn k4 ((r2.mono p3.ex).mono p4.ex) r4 fun z5 F5 H5 p5 k5 r5 => k z5 F5 H5 ((((p1.trans p2).trans p3).trans p4).trans p5) k5 r5⟩
  · next eg =>
    cases e
    exact h x y _ eg w _ F2 H2 v u _ p2.inn k2 (r1.mono p2.ex) r2 fun z F3 H3 p3 k3 r3 => ⟨false, r3, k (.bl false) F3 H3 ((p1.trans p2).trans p3) k3 rfl⟩
  · cases e
/-! is None, is True -/
def isNonD (x : D) : Option D := match x with
  | .non => some (.bl true)
  | .bl _ => some (.bl false)
  | .int _ => some (.bl false)
  | .str _ => some (.bl false)
  | .tup _ => some (.bl false)
  | .lst _ => some (.bl false)
  | .ty _ => some (.bl false)
  | _ => none
theorem isNon_dec {K : Fg} {w : Wd} {F : Hp} {x d : D} {v : V} (e : isNonD x = some d) (r : Rep K w F x v) : d = .bl (decide (v = .non)) := by
  cases x <;> cases e
  · cases r; rfl
  · cases r; rfl
  · cases r; rfl
  · cases r; rfl
  · obtain ⟨a, vs, rfl, _⟩ := r; rfl
  · obtain ⟨a, vs, rfl, _⟩ := r; rfl
  · cases r; rfl
def isD : D → D → Option D
  | x, .non => isNonD x
  | .bl a, .bl b => some (.bl (decide (a = b)))
  | .int _, .bl _ => some (.bl false)
  | .str _, .bl _ => some (.bl false)
  | .tup _, .bl _ => some (.bl false)
  | .lst _, .bl _ => some (.bl false)
  | _, _ => none
def rIsO : R2 := fun x y H Q => ∃ b : Bool, y = .bl b ∧ ((∃ i, x = .int i) ∨ (∃ i, x = .str i) ∨ (∃ i, x = .ref i)) ∧ Q (.bl false) H
theorem op_isO : OpR X (compareOp .Is) rIsO := by
  intro pins s σ H x y v u Q I rx ry h
  obtain ⟨b, rfl, hx, q⟩ := h
  cases (show u = Value.bool b from ry)
  rcases hx with ⟨i, rfl⟩ | ⟨i, rfl⟩ | ⟨i, rfl⟩
  · obtain ⟨t, rfl⟩ := rx
    exact PySem.wpAny_is_other rfl (fun z => by cases z) ⟨.bl false, H, I, rfl, q⟩
  · obtain ⟨t, rfl⟩ := rx
    exact PySem.wpAny_is_other rfl (fun z => by cases z) ⟨.bl false, H, I, rfl, q⟩
  · cases rx
    exact PySem.wpAny_is_other rfl (fun z => by cases z) ⟨.bl false, H, I, rfl, q⟩
def rIs : R2 := fun x y H Q => (y = .non ∧ Q (.bl (decide (x = .non))) H) ∨ (rIsB x y H Q ∨ rIsO x y H Q)
theorem or_is : OpR X (compareOp .Is) rIs := op_isN.or (OpR.or op_isBl op_isO)
theorem op2_is {K : Fg} : Op2 K rIs isD := fun x y d e w s F H v u Q hs k r1 r2 q => by
  unfold isD at e
  split at e
  · refine .inl ⟨r2, ?_⟩
    have z := isNon_dec e r1
    exact q _ F H (.refl hs) k (by rw [z]; rfl)
  · next a b => cases e; exact .inr (.inl ⟨a, b, r1, r2, q _ F H (.refl hs) k rfl⟩)
  · next a b => cases e; exact .inr (.inr ⟨b, r2, .inl ⟨a, r1⟩, q _ F H (.refl hs) k rfl⟩)
  · next a b => cases e; exact .inr (.inr ⟨b, r2, .inr (.inl ⟨a, r1⟩), q _ F H (.refl hs) k rfl⟩)
  · next a b => cases e; obtain ⟨p, vs, r1, _⟩ := r1; exact .inr (.inr ⟨b, r2, .inr (.inr ⟨p, r1⟩), q _ F H (.refl hs) k rfl⟩)
  · next a b => cases e; obtain ⟨p, vs, r1, _⟩ := r1; exact .inr (.inr ⟨b, r2, .inr (.inr ⟨p, r1⟩), q _ F H (.refl hs) k rfl⟩)
  · cases e
def notD (x : Option D) : Option D := match x with
  | some (.bl b) => some (.bl (!b))
  | _ => none
def isD0 : D → D → Option D
  | x, .non => isNonD x
  | .bl a, .bl b => some (.bl (decide (a = b)))
  | .non, .bl _ => none
  | _, _ => none
def isNotD (x y : D) : Option D := notD (isD0 x y)
def rIsNot : R2 := fun x y H Q => (y = .non ∧ Q (.bl (!decide (x = .non))) H) ∨ rNotB x y H Q
theorem or_isnot : OpR X (compareOp .IsNot) rIsNot := op_notN.or op_notBl
theorem op2_isnot {K : Fg} : Op2 K rIsNot isNotD := fun x y d e w s F H v u Q hs k r1 r2 q => by
  unfold isNotD isD0 at e
  split at e
  · refine .inl ⟨r2, ?_⟩
    cases e1 : isNonD x with
    | none => rw [e1] at e; cases e
    | some z =>
      have z1 := isNon_dec e1 r1
      subst z1
      rw [e1] at e
      cases e
      exact q _ F H (.refl hs) k rfl
  · next a b => cases e; exact .inr ⟨a, b, r1, r2, q _ F H (.refl hs) k rfl⟩
  · cases e
  · cases e
/-! in -/
def flatD : D → Option V
  | .non => some .non
  | .bl b => some (.bl b)
  | .int i => some (.int i)
  | .str x => some (.str x)
  | _ => none
def flatsD : List D → Option (List V)
  | [] => some []
  | d :: l => match flatD d, flatsD l with
    | some v, some vs => some (v :: vs)
    | _, _ => none
theorem flatD_rep {K : Fg} {w : Wd} {F : Hp} {d : D} {v u : V} (e : flatD d = some u) (r : Rep K w F d v) : v = u ∧ flatV u = true := by
  cases d <;> cases e <;> (cases r; exact ⟨rfl, rfl⟩)
theorem flatsD_rep {K : Fg} {w : Wd} {F : Hp} : ∀ {l : List D} {vs us : List V}, flatsD l = some us → Reps K w F l vs → vs = us ∧ us.all flatV = true
  | [], _, _, e, r => by cases e; exact ⟨r, rfl⟩
  | d :: l, _, _, e, ⟨v, r, h1, h2, h3⟩ => by
    unfold flatsD at e
    split at e
    · next u us e1 e2 =>
      cases e
      obtain ⟨z1, z2⟩ := flatD_rep e1 h2
      obtain ⟨z3, z4⟩ := flatsD_rep e2 h3
      subst h1 z1 z3
      exact ⟨rfl, by rw [List.all_cons, z2, z4]; rfl⟩
    · cases e
def intsD : List D → Option (List Int)
  | [] => some []
  | .int i :: l => (intsD l).map (i :: ·)
  | _ => none
theorem intsD_eq : ∀ {l : List D} {ns : List Int}, intsD l = some ns → l = ns.map D.int
  | [], _, e => by cases e; rfl
  | .int i :: l, ns, e => by
    have e' : (intsD l).map (i :: ·) = some ns := e
    obtain ⟨q, e1, e2⟩ := Option.map_eq_some_iff.mp e'
    subst e2
    rw [intsD_eq e1]
    rfl
  | .non :: _, _, e => nomatch e
  | .bl _ :: _, _, e => nomatch e
  | .str _ :: _, _, e => nomatch e
  | .tup _ :: _, _, e => nomatch e
  | .lst _ :: _, _, e => nomatch e
  | .deal :: _, _, e => nomatch e
  | .ty _ :: _, _, e => nomatch e
  | .scr _ :: _, _, e => nomatch e
theorem intsD_map : ∀ ns : List Int, intsD (ns.map D.int) = some ns
  | [] => rfl
  | i :: ns => by
    show (intsD (ns.map D.int)).map (i :: ·) = _
    rw [intsD_map ns]
    rfl
theorem inV_ints (i : Int) (ns : List Int) : inV (.int i) (ns.map V.int) = decide (i ∈ ns) := by
  unfold inV
  rw [List.any_map]
  induction ns with
  | nil => rfl
  | cons n ns ih =>
    rw [List.any_cons, ih]
    show (decide (n = i) || _) = _
    by_cases h : n = i
    · subst h; simp
    · have h' : ¬ i = n := fun e => h e.symm
      simp [h, h', List.mem_cons]
def inL (x : D) (l : List D) : Option Bool := match x, intsD l with
  | .int i, some ns => some (decide (i ∈ ns))
  | x, _ => match flatD x, flatsD l with
    | some v, some vs => some (inV v vs)
    | _, _ => none
def memD : D → D → Option Bool
  | x, .lst l => inL x l
  | x, .tup l => inL x l
  | _, _ => none
theorem inL_rep {K : Fg} {w : Wd} {F : Hp} {x : D} {l : List D} {b : Bool} {v : V} {vs : List V} (e : inL x l = some b) (r : Rep K w F x v) (rs : Reps K w F l vs) : flatV v = true ∧ vs.all flatV = true ∧ b = inV v vs := by
  unfold inL at e
  split at e
  · next i ns e1 =>
    cases e
    have z := intsD_eq e1
    subst z
    have z2 := rs.ints
    subst z2
    cases r
    refine ⟨rfl, ?_, (inV_ints i ns).symm⟩
    rw [List.all_map]
    exact List.all_eq_true.mpr fun _ _ => rfl
  · split at e
    · next u us e1 e2 =>
      cases e
      obtain ⟨z1, z2⟩ := flatD_rep e1 r
      obtain ⟨z3, z4⟩ := flatsD_rep e2 rs
      subst z1 z3
      exact ⟨z2, z4, rfl⟩
    · cases e
def inD (x y : D) : Option D := (memD x y).map .bl
def ninD (x y : D) : Option D := (memD x y).map fun b => .bl (!b)
theorem mem_run {K : Fg} {w : Wd} {F H : Hp} {x y : D} {b : Bool} {v u : V} (hs : Sub F H) (e : memD x y = some b) (r1 : Rep K w F x v) (r2 : Rep K w F y u) : ∃ p xs, u = .ref p ∧ (SqL K H p xs ∨ SqT K H p xs) ∧ flatV v = true ∧ xs.all flatV = true ∧ b = inV v xs := by
  unfold memD at e
  split at e
  · next l =>
    obtain ⟨a, vs, rfl, h2, h3⟩ := r2
    obtain ⟨z1, z2, z3⟩ := inL_rep e r1 h3
    exact ⟨a, vs, rfl, .inl (.of (hs _ _ h2)), z1, z2, z3⟩
  · next l =>
    obtain ⟨a, vs, rfl, h2, h3⟩ := r2
    obtain ⟨z1, z2, z3⟩ := inL_rep e r1 h3
    exact ⟨a, vs, rfl, .inr (hs.sqt h2), z1, z2, z3⟩
  · cases e
theorem op2_in {K : Fg} : Op2 K (rIn K false) inD := fun x y d e w s F H v u Q hs k r1 r2 q => by
  obtain ⟨b, e1, e2⟩ := Option.map_eq_some_iff.mp e
  subst e2
  obtain ⟨p, xs, z1, z2, z3, z4, rfl⟩ := mem_run hs e1 r1 r2
  exact ⟨p, xs, z1, z2, z3, z4, q _ F H (.refl hs) k rfl⟩
theorem op2_nin {K : Fg} : Op2 K (rIn K true) ninD := fun x y d e w s F H v u Q hs k r1 r2 q => by
  obtain ⟨b, e1, e2⟩ := Option.map_eq_some_iff.mp e
  subst e2
  obtain ⟨p, xs, z1, z2, z3, z4, rfl⟩ := mem_run hs e1 r1 r2
  exact ⟨p, xs, z1, z2, z3, z4, q _ F H (.refl hs) k rfl⟩
/-! items -/
def ixD : D → D → Option D
  | .lst l, .int i => atI l i
  | .tup l, .int i => atI l i
  | _, _ => none
theorem Reps.atI {K : Fg} {w : Wd} {F : Hp} {l : List D} {vs : List V} {i : Int} {d : D} (h : Reps K w F l vs) (e : L2.atI l i = some d) : ∃ v, L2.atI vs i = some v ∧ Rep K w F d v := by
  unfold L2.atI at e ⊢
  rw [h.length]
  cases q : ixN l.length i with
  | none => rw [q] at e; cases e
  | some j =>
    rw [q] at e
    exact h.get e
theorem op2_ix {K : Fg} : Op2 K (rIx K) ixD := fun x y d e w s F H v u Q hs k r1 r2 q => by
  unfold ixD at e
  split at e
  · next l i =>
    obtain ⟨a, vs, rfl, h2, h3⟩ := r1
    obtain ⟨z, z1, z2⟩ := h3.atI e
    exact .inl ⟨a, vs, i, z, rfl, r2, .of (hs _ _ h2), z1, q _ F H (.refl hs) k z2⟩
  · next l i =>
    obtain ⟨a, vs, rfl, h2, h3⟩ := r1
    obtain ⟨z, z1, z2⟩ := h3.atI e
    exact .inr (.inl ⟨a, vs, i, z, rfl, r2, hs.sqt h2, z1, q _ F H (.refl hs) k z2⟩)
  · cases e
theorem r_item (ha : RefE X a fa) (hb : RefE X b fb) (hs : PlainIx b) : RefE X (.Subscript a b pos) (dBin ixD fa fb) := r_ix ix_seq op2_ix ha hb hs
end
end Mp

set_option Elab.async false
set_option linter.all false
set_option maxRecDepth 100000
/-! Mp3: statements, loops, comprehensions -/
namespace Mp
open PySem L2

/-! ### statements -/
/-- a slot: nothing, data that stays, a list of the def's own that it may lengthen -/
inductive Sl where
  | none | v (d : D) | own (l : List D)
abbrev Rho := List Sl
def Sl.hide : Sl → Option D
  | .v d => some d
  | _ => Option.none
def Sl.peek : Sl → Option D
  | .v d => some d
  | .own l => some (.lst l)
  | .none => Option.none
def hide (ρ : Rho) : Env := ρ.map Sl.hide
def peek (ρ : Rho) : Env := ρ.map Sl.peek
inductive Out where
  | nx (ρ : Rho) | rt (d : D) | bk (ρ : Rho) | ct (ρ : Rho)
abbrev DS := Rho → S → Option (Out × S)

structure SInv (K : Fg) (w : Wd) (B F0 H0 : Hp) (ρ : Rho) (σ : L2.St) (s : S) (F H : Hp) : Prop where
  post : Post w F0 H0 F H
  dok : DOk w s F H
  env : ∀ (i : Nat) (d : D), ρ[i]? = some (.v d) → ∃ v, σ[i]? = some (some v) ∧ Rep K w F d v
  own : ∀ (i : Nat) (l : List D), ρ[i]? = some (.own l) → ∃ a vs, σ[i]? = some (some (.ref a)) ∧ H a = some (.lst vs) ∧ F a = none ∧ H0 a = none ∧ a ∉ dcells w ∧ Reps K w F l vs
  ne : ∀ (i j : Nat) (l m : List D) (a : Addr), i ≠ j → ρ[i]? = some (.own l) → ρ[j]? = some (.own m) → σ[i]? = some (some (.ref a)) → σ[j]? = some (some (.ref a)) → False
  len : σ.length = ρ.length
  low : Sub B F
theorem SInv.at {K : Fg} {w : Wd} {B F0 H0 F H : Hp} {ρ : Rho} {σ : L2.St} {s : S} (I : SInv K w B F0 H0 ρ σ s F H) : At K w F H (hide ρ) σ s := ⟨fun i d e => by
  unfold hide at e
  rw [List.getElem?_map] at e
  cases q : ρ[i]? with
  | none => rw [q] at e; cases e
  | some sl =>
    rw [q] at e
    cases sl with
    | v d' =>
      have : d' = d := by simpa [Sl.hide] using e
      subst this
      exact I.env i d' q
    | none => simp [Sl.hide] at e
    | own l => simp [Sl.hide] at e, I.post.inn, I.dok, by rw [I.len]; simp [hide]⟩
theorem SInv.grow {K : Fg} {w : Wd} {B F0 H0 F H F1 H1 : Hp} {ρ : Rho} {σ : L2.St} {s s1 : S} (I : SInv K w B F0 H0 ρ σ s F H) (p : Post w F H F1 H1) (k : DOk w s1 F1 H1) : SInv K w B F0 H0 ρ σ s1 F1 H1 := by
  refine ⟨I.post.trans p, k, fun i d e => ?_, fun i l e => ?_, I.ne, I.len, I.low.trans p.ex⟩
  · obtain ⟨v, h1, h2⟩ := I.env i d e
    exact ⟨v, h1, h2.mono p.ex⟩
  · obtain ⟨a, vs, h1, h2, h3, h4, h5, h6⟩ := I.own i l e
    refine ⟨a, vs, h1, p.kept a _ h5 h2, ?_, h4, h5, h6.mono p.ex⟩
    cases q : F1 a with
    | none => rfl
    | some o =>
      rcases p.new a o q with z | z
      · rw [h3] at z; cases z
      · rw [h2] at z; cases z
theorem set_get {α : Type} {l : List α} {i j : Nat} {x y : α} (h : (l.set i x)[j]? = some y) : (i = j ∧ x = y ∧ i < l.length) ∨ (i ≠ j ∧ l[j]? = some y) := by
  by_cases e : i = j
  · subst e
    by_cases hi : i < l.length
    · rw [List.getElem?_set_self hi] at h
      exact .inl ⟨rfl, Option.some.inj h, hi⟩
    · rw [List.getElem?_eq_none (by simpa using hi)] at h; cases h
  · rw [List.getElem?_set_ne e] at h
    exact .inr ⟨e, h⟩
theorem SInv.setV {K : Fg} {w : Wd} {B F0 H0 F H : Hp} {ρ : Rho} {σ : L2.St} {s : S} {i : Nat} {d : D} {v : V} (I : SInv K w B F0 H0 ρ σ s F H) (hi : i < ρ.length) (r : Rep K w F d v) : SInv K w B F0 H0 (ρ.set i (.v d)) (σ.set i (some v)) s F H := by
  have hσ : i < σ.length := by rw [I.len]; exact hi
  refine ⟨I.post, I.dok, fun j d' e => ?_, fun j l e => ?_, fun j k l m a hjk e1 e2 h1 h2 => ?_, by rw [List.length_set, List.length_set, I.len], I.low⟩
  · rcases set_get e with ⟨rfl, e, _⟩ | ⟨ne, e⟩
    · cases e; exact ⟨v, List.getElem?_set_self hσ, r⟩
    · rw [List.getElem?_set_ne ne]; exact I.env j d' e
  · rcases set_get e with ⟨rfl, e, _⟩ | ⟨ne, e⟩
    · cases e
    · rw [List.getElem?_set_ne ne]; exact I.own j l e
  · rcases set_get e1 with ⟨_, e, _⟩ | ⟨n1, e1⟩
    · cases e
    · rcases set_get e2 with ⟨_, e, _⟩ | ⟨n2, e2⟩
      · cases e
      · rw [List.getElem?_set_ne n1] at h1
        rw [List.getElem?_set_ne n2] at h2
        exact I.ne j k l m a hjk e1 e2 h1 h2
theorem SInv.setN {K : Fg} {w : Wd} {B F0 H0 F H : Hp} {ρ : Rho} {σ : L2.St} {s : S} {i : Nat} {x : Option V} (I : SInv K w B F0 H0 ρ σ s F H) (hi : i < ρ.length) : SInv K w B F0 H0 (ρ.set i .none) (σ.set i x) s F H := by
  have hσ : i < σ.length := by rw [I.len]; exact hi
  refine ⟨I.post, I.dok, fun j d' e => ?_, fun j l e => ?_, fun j k l m a hjk e1 e2 h1 h2 => ?_, by rw [List.length_set, List.length_set, I.len], I.low⟩
  · rcases set_get e with ⟨rfl, e, _⟩ | ⟨ne, e⟩
    · cases e
    · rw [List.getElem?_set_ne ne]; exact I.env j d' e
  · rcases set_get e with ⟨rfl, e, _⟩ | ⟨ne, e⟩
    · cases e
    · rw [List.getElem?_set_ne ne]; exact I.own j l e
  · rcases set_get e1 with ⟨_, e, _⟩ | ⟨n1, e1⟩
    · cases e
    · rcases set_get e2 with ⟨_, e, _⟩ | ⟨n2, e2⟩
      · cases e
      · rw [List.getElem?_set_ne n1] at h1
        rw [List.getElem?_set_ne n2] at h2
        exact I.ne j k l m a hjk e1 e2 h1 h2
/-- a new list at a goes into slot i -/
theorem SInv.setO {K : Fg} {w : Wd} {B F0 H0 F H : Hp} {ρ : Rho} {σ : L2.St} {s : S} {i : Nat} {l : List D} {a : Addr} {vs : List V} (I : SInv K w B F0 H0 ρ σ s F H) (hi : i < ρ.length) (h1 : H a = some (.lst vs)) (h2 : F a = none) (h3 : H0 a = none) (h4 : a ∉ dcells w) (r : Reps K w F l vs)
    (hn : ∀ (j : Nat) (m : List D), ρ[j]? = some (.own m) → σ[j]? ≠ some (some (.ref a)) ∨ i = j) : SInv K w B F0 H0 (ρ.set i (.own l)) (σ.set i (some (.ref a))) s F H := by
  have hσ : i < σ.length := by rw [I.len]; exact hi
  refine ⟨I.post, I.dok, fun j d' e => ?_, fun j l' e => ?_, fun j k l' m b hjk e1 e2 q1 q2 => ?_, by rw [List.length_set, List.length_set, I.len], I.low⟩
  · rcases set_get e with ⟨rfl, e, _⟩ | ⟨ne, e⟩
    · cases e
    · rw [List.getElem?_set_ne ne]; exact I.env j d' e
  · rcases set_get e with ⟨rfl, e, _⟩ | ⟨ne, e⟩
    · cases e; exact ⟨a, vs, List.getElem?_set_self hσ, h1, h2, h3, h4, r⟩
    · rw [List.getElem?_set_ne ne]; exact I.own j l' e
  · rcases set_get e1 with ⟨rfl, e, _⟩ | ⟨n1, e1⟩
    · rcases set_get e2 with ⟨rfl, _, _⟩ | ⟨n2, e2⟩
      · exact hjk rfl
      · rw [List.getElem?_set_self hσ] at q1
        rw [List.getElem?_set_ne n2] at q2
        cases q1
        rcases hn k m e2 with z | z
        · exact z q2
        · exact n2 z
    · rcases set_get e2 with ⟨rfl, _, _⟩ | ⟨n2, e2⟩
      · rw [List.getElem?_set_self hσ] at q2
        rw [List.getElem?_set_ne n1] at q1
        cases q2
        rcases hn j l' e1 with z | z
        · exact z q1
        · exact n1 z
      · rw [List.getElem?_set_ne n1] at q1
        rw [List.getElem?_set_ne n2] at q2
        exact I.ne j k l' m b hjk e1 e2 q1 q2
/-- the list of slot i is turned -/
theorem SInv.turn {K : Fg} {w : Wd} {B F0 H0 F H : Hp} {ρ : Rho} {σ : L2.St} {s : S} {i : Nat} {l m : List D} {a : Addr} {vs us : List V} (I : SInv K w B F0 H0 ρ σ s F H) (hρ : ρ[i]? = some (.own l)) (hσ : σ[i]? = some (some (.ref a))) (h1 : H a = some (.lst vs)) (h2 : F a = none) (h3 : H0 a = none) (h4 : a ∉ dcells w)
    (r : Reps K w F m us) : SInv K w B F0 H0 (ρ.set i (.own m)) σ s F (upd H a (.lst us)) := by
  have hi : i < ρ.length := (List.getElem?_eq_some_iff.mp hρ).1
  refine ⟨⟨I.post.ex, fun b o e => ?_, I.post.new, fun b o n e => ?_, fun b e => ?_⟩, I.dok.made h4, fun j d' e => ?_, fun j l' e => ?_, fun j k l' m' b hjk e1 e2 q1 q2 => ?_, by rw [List.length_set, I.len], I.low⟩
  · rw [upd_ne (ne_of_none e h2)]; exact I.post.inn b o e
  · rw [upd_ne (ne_of_none e h3)]; exact I.post.kept b o n e
  · by_cases hb : b = a
    · subst hb; exact h3
    · rw [upd_ne hb] at e; exact I.post.dom b e
  · rcases set_get e with ⟨rfl, e, _⟩ | ⟨ne, e⟩
    · cases e
    · exact I.env j d' e
  · rcases set_get e with ⟨rfl, e, _⟩ | ⟨ne, e⟩
    · cases e; exact ⟨a, us, hσ, upd_same, h2, h3, h4, r⟩
    · obtain ⟨b, ws, k1, k2, k3, k4, k5, k6⟩ := I.own j l' e
      have hba : b ≠ a := fun z => by subst z; exact I.ne i j l l' b ne hρ e hσ k1
      exact ⟨b, ws, k1, by rw [upd_ne hba]; exact k2, k3, k4, k5, k6⟩
  · rcases set_get e1 with ⟨rfl, _, _⟩ | ⟨n1, e1⟩
    · rcases set_get e2 with ⟨rfl, _, _⟩ | ⟨n2, e2⟩
      · exact hjk rfl
      · exact I.ne i k l m' b hjk hρ e2 q1 q2
    · rcases set_get e2 with ⟨rfl, _, _⟩ | ⟨n2, e2⟩
      · exact I.ne j i l' l b hjk e1 hρ q1 q2
      · exact I.ne j k l' m' b hjk e1 e2 q1 q2
/-- the list of slot i is turned no more -/
theorem SInv.freeze {K : Fg} {w : Wd} {B F0 H0 F H : Hp} {ρ : Rho} {σ : L2.St} {s : S} {i : Nat} {l : List D} (I : SInv K w B F0 H0 ρ σ s F H) (hρ : ρ[i]? = some (.own l)) : ∃ F', SInv K w B F0 H0 (ρ.set i (.v (.lst l))) σ s F' H := by
  have hi : i < ρ.length := (List.getElem?_eq_some_iff.mp hρ).1
  obtain ⟨a, vs, k1, k2, k3, k4, k5, k6⟩ := I.own i l hρ
  have sub : Sub F (upd F a (.lst vs)) := fun b o e => by rw [upd_ne (ne_of_none e k3)]; exact e
  refine ⟨upd F a (.lst vs), ⟨I.post.ex.trans sub, fun b o e => ?_, fun b o e => ?_, I.post.kept, I.post.dom⟩, ?_, fun j d' e => ?_, fun j l' e => ?_, fun j k l' m b hjk e1 e2 q1 q2 => ?_, by rw [List.length_set, I.len], I.low.trans sub⟩
  · by_cases hb : b = a
    · subst hb; rw [upd_same] at e; cases e; exact k2
    · rw [upd_ne hb] at e; exact I.post.inn b o e
  · by_cases hb : b = a
    · subst hb; exact .inr k4
    · rw [upd_ne hb] at e; exact I.post.new b o e
  · have kk := I.dok
    cases w with
    | none => trivial
    | some q =>
      obtain ⟨x, y⟩ := q
      obtain ⟨h0, h1, h2, h3, h4⟩ := kk
      have nx : x ≠ a := fun e => k5 (by rw [← e]; simp [dcells])
      have ny : y ≠ a := fun e => k5 (by rw [← e]; simp [dcells])
      exact ⟨h0, by rw [upd_ne nx]; exact h1, by rw [upd_ne ny]; exact h2, h3, h4⟩
  · rcases set_get e with ⟨rfl, e, _⟩ | ⟨ne, e⟩
    · cases e; exact ⟨_, k1, a, vs, rfl, upd_same, k6.mono sub⟩
    · obtain ⟨v, z1, z2⟩ := I.env j d' e
      exact ⟨v, z1, z2.mono sub⟩
  · rcases set_get e with ⟨rfl, e, _⟩ | ⟨ne, e⟩
    · cases e
    · obtain ⟨b, ws, z1, z2, z3, z4, z5, z6⟩ := I.own j l' e
      have hba : b ≠ a := fun z => by subst z; exact I.ne i j l l' b ne hρ e k1 z1
      exact ⟨b, ws, z1, z2, by rw [upd_ne hba]; exact z3, z4, z5, z6.mono sub⟩
  · rcases set_get e1 with ⟨_, e, _⟩ | ⟨n1, e1⟩
    · cases e
    · rcases set_get e2 with ⟨_, e, _⟩ | ⟨n2, e2⟩
      · cases e
      · exact I.ne j k l' m b hjk e1 e2 q1 q2

/-! the own lists seen, too: for what is looked at and let go -/
open Classical in
noncomputable def pk (w : Wd) (H0 F H : Hp) : Hp := fun a => if H0 a = none ∧ a ∉ dcells w then H a else F a
theorem SInv.peek {K : Fg} {w : Wd} {B F0 H0 F H : Hp} {ρ : Rho} {σ : L2.St} {s : S} (I : SInv K w B F0 H0 ρ σ s F H) : Sub F (pk w H0 F H) ∧ At K w (pk w H0 F H) H (peek ρ) σ s := by
  have sub : Sub F (pk w H0 F H) := fun a o e => by
    unfold pk
    split
    · exact I.post.inn a o e
    · exact e
  refine ⟨sub, fun i d e => ?_, fun a o e => ?_, ?_, by rw [I.len]; simp [Mp.peek]⟩
  · unfold Mp.peek at e
    rw [List.getElem?_map] at e
    cases q : ρ[i]? with
    | none => rw [q] at e; cases e
    | some sl =>
      rw [q] at e
      cases sl with
      | v d' =>
        have : d' = d := by simpa [Sl.peek] using e
        subst this
        obtain ⟨v, z1, z2⟩ := I.env i d' q
        exact ⟨v, z1, z2.mono sub⟩
      | none => simp [Sl.peek] at e
      | own l =>
        have : D.lst l = d := by simpa [Sl.peek] using e
        subst this
        obtain ⟨a, vs, k1, k2, k3, k4, k5, k6⟩ := I.own i l q
        exact ⟨_, k1, a, vs, rfl, by unfold pk; rw [if_pos ⟨k4, k5⟩]; exact k2, k6.mono sub⟩
  · unfold pk at e
    split at e
    · exact e
    · exact I.post.inn a o e
  · have kk := I.dok
    cases w with
    | none => trivial
    | some q =>
      obtain ⟨x, y⟩ := q
      obtain ⟨h0, h1, h2, h3, h4⟩ := kk
      refine ⟨h0, ?_, ?_, h3, h4⟩
      · unfold pk; rw [if_neg (fun z => z.2 (by simp [dcells]))]; exact h1
      · unfold pk; rw [if_neg (fun z => z.2 (by simp [dcells]))]; exact h2
theorem SInv.peek_post {K : Fg} {w : Wd} {B F0 H0 F H F1 H1 : Hp} {ρ : Rho} {σ : L2.St} {s : S} (I : SInv K w B F0 H0 ρ σ s F H) (p : Post w (pk w H0 F H) H F1 H1) : Post w F0 H0 F1 H1 := by
  obtain ⟨sub, a⟩ := I.peek
  refine ⟨I.post.ex.trans (sub.trans p.ex), p.inn, fun b o e => ?_, fun b o n e => p.kept b o n (I.post.kept b o n e), fun b e => I.post.dom b (p.dom b e)⟩
  rcases p.new b o e with z | z
  · unfold pk at z
    split at z
    · next h => exact .inr h.1
    · exact I.post.new b o z
  · exact .inr (I.post.dom b z)
/-- back from a look -/
theorem SInv.peek_back {K : Fg} {w : Wd} {B F0 H0 F H F1 H1 : Hp} {ρ : Rho} {σ : L2.St} {s s1 : S} (I : SInv K w B F0 H0 ρ σ s F H) (p : Post w (pk w H0 F H) H F1 H1) (k : DOk w s1 F1 H1) : SInv K w B F0 H0 ρ σ s1 F H1 := by
  obtain ⟨sub, a⟩ := I.peek
  refine ⟨⟨I.post.ex, (sub.trans p.ex).trans p.inn, I.post.new, fun b o n e => p.kept b o n (I.post.kept b o n e), fun b e => I.post.dom b (p.dom b e)⟩, ?_, I.env, fun i l e => ?_, I.ne, I.len, I.low⟩
  · have kk := I.dok
    cases w with
    | none => trivial
    | some q =>
      obtain ⟨x, y⟩ := q
      obtain ⟨h0, h1, h2, h3, h4⟩ := kk
      obtain ⟨_, _, _, k3, k4⟩ := k
      exact ⟨h0, h1, h2, k3, k4⟩
  · obtain ⟨a, vs, k1, k2, k3, k4, k5, k6⟩ := I.own i l e
    exact ⟨a, vs, k1, p.kept a _ k5 k2, k3, k4, k5, k6⟩

def Goes (K : Fg) (w : Wd) (B F0 H0 : Hp) (E : Ends) (o : Out) (s' : S) : Prop := match o with
  | .nx ρ' => ∀ σ' F' H', SInv K w B F0 H0 ρ' σ' s' F' H' → E.nx σ' H'
  | .bk ρ' => ∀ σ' F' H', SInv K w B F0 H0 ρ' σ' s' F' H' → E.bk σ' H'
  | .ct ρ' => ∀ σ' F' H', SInv K w B F0 H0 ρ' σ' s' F' H' → E.ct σ' H'
  | .rt d => ∀ v F' H', Post w F0 H0 F' H' → DOk w s' F' H' → Rep K w F' d v → E.rt v H'
def tUS (K : Fg) (f : DS) : TS := fun E σ H => ∃ ρ s o s' w B F0 H0 F, f ρ s = some (o, s') ∧ SInv K w B F0 H0 ρ σ s F H ∧ Goes K w B F0 H0 E o s'
abbrev RefS (X : Cx) (st : Stmt) (f : DS) : Prop := PS X st (tUS X.K f)
abbrev RefB (X : Cx) (sts : List Stmt) (f : DS) : Prop := PSs X sts (tUS X.K f)

section
variable {X : Cx} {st : Stmt} {rest : List Stmt} {f g : DS}
def dSkip : DS := fun ρ s => some (.nx ρ, s)
def dSeq (f g : DS) : DS := fun ρ s => bnd (f ρ s) fun o s1 => match o with
  | .nx ρ1 => g ρ1 s1
  | .rt d => some (.rt d, s1)
  | .bk ρ1 => some (.bk ρ1, s1)
  | .ct ρ1 => some (.ct ρ1, s1)
theorem b_nil : RefB X [] dSkip := pss_weak pss_nil fun E σ H ⟨ρ, s, o, s', w, B, F0, H0, F, e, I, k⟩ => by
  cases e
  exact k σ F H I
theorem b_cons (h : RefS X st f) (k : RefB X rest g) : RefB X (st :: rest) (dSeq f g) := pss_weak (pss_cons h k) fun E σ H ⟨ρ, s, o, s', w, B, F0, H0, F, e, I, k⟩ => by
  obtain ⟨o1, s1, e1, e⟩ := bnd_eq e
  refine ⟨ρ, s, o1, s1, w, B, F0, H0, F, e1, I, ?_⟩
  cases o1 with
  | nx ρ1 => exact fun σ' F' H' I' => ⟨ρ1, s1, o, s', w, B, F0, H0, F', e, I', k⟩
  | rt d => cases e; exact k
  | bk ρ1 => cases e; exact k
  | ct ρ1 => cases e; exact k
theorem b_one (h : RefS X st f) : RefB X [st] f := pss_one h
/-- the own list of slot i is turned no more from here on -/
def dFreeze (i : Nat) (f : DS) : DS := fun ρ s => match ρ[i]? with
  | some (.own l) => f (ρ.set i (.v (.lst l))) s
  | _ => none
theorem b_frz (i : Nat) (h : RefB X rest f) : RefB X rest (dFreeze i f) := pss_weak h fun E σ H ⟨ρ, s, o, s', w, B, F0, H0, F, e, I, k⟩ => by
  unfold dFreeze at e
  split at e
  · next l hl =>
    obtain ⟨F', I'⟩ := I.freeze hl
    exact ⟨_, s, o, s', w, B, F0, H0, F', e, I', k⟩
  · cases e

/-! x = e -/
def dSet (i : Nat) (f : DE) : DS := fun ρ s => bnd (f (hide ρ) s) fun d s1 => if i < ρ.length then some (.nx (ρ.set i (.v d)), s1) else none
variable {i : Nat} {fe : DE} {fa : DA}
theorem s_set (h : PS X st (tAsg (tU X.K fe) (gName i))) : RefS X st (dSet i fe) := ps_weak h fun E σ H ⟨ρ, s, o, s', w, B, F0, H0, F, e, I, k⟩ => by
  obtain ⟨d, s1, e1, e⟩ := bnd_eq e
  split at e
  · next hi =>
    cases e
    exact ⟨hide ρ, s, d, _, w, F, e1, I.at, fun v F1 H1 p1 k1 r1 => k _ F1 H1 ((I.grow p1 k1).setV hi r1)⟩
  · cases e
/-- what does not hang on objects -/
def flat (d : D) : Bool := match d with
  | .non => true
  | .bl _ => true
  | .int _ => true
  | .str _ => true
  | .deal => true
  | _ => false
theorem flat_rep {K : Fg} {w : Wd} {F F' : Hp} {d : D} {v : V} (h : flat d = true) (r : Rep K w F d v) : Rep K w F' d v := by
  cases d <;> first | exact r | cases h
/-- x = e, e looks at own lists -/
def dSetP (i : Nat) (f : DE) : DS := fun ρ s => bnd (f (peek ρ) s) fun d s1 => if i < ρ.length ∧ flat d = true then some (.nx (ρ.set i (.v d)), s1) else none
theorem s_setP (h : PS X st (tAsg (tU X.K fe) (gName i))) : RefS X st (dSetP i fe) := ps_weak h fun E σ H ⟨ρ, s, o, s', w, B, F0, H0, F, e, I, k⟩ => by
  obtain ⟨d, s1, e1, e⟩ := bnd_eq e
  split at e
  · next hi =>
    cases e
    exact ⟨peek ρ, s, d, _, w, _, e1, I.peek.2, fun v F1 H1 p1 k1 r1 => k _ F H1 ((I.peek_back p1 k1).setV hi.1 (flat_rep hi.2 r1))⟩
  · cases e
/-- x = a new list of the def's own -/
def dSetL (i : Nat) (f : DA) : DS := fun ρ s => bnd (f (hide ρ) s) fun d s1 => if i < ρ.length then some (.nx (ρ.set i (.own d)), s1) else none
theorem s_setL (h : PS X st (tAsg (tUL X.K fa) (gName i))) : RefS X st (dSetL i fa) := ps_weak h fun E σ H ⟨ρ, s, o, s', w, B, F0, H0, F, e, I, k⟩ => by
  obtain ⟨d, s1, e1, e⟩ := bnd_eq e
  split at e
  · next hi =>
    cases e
    refine ⟨hide ρ, s, d, _, w, F, e1, I.at, fun a vs F1 H1 p1 k1 n1 n2 n3 h1 r1 => k _ F1 H1 ((I.grow p1 k1).setO hi h1 n1 (I.post.dom a n2) n3 r1 fun j m hj => .inl fun z => ?_)⟩
    obtain ⟨b, ws, z1, z2, _⟩ := I.own j m hj
    rw [z1] at z
    cases z
    rw [z2] at n2
    cases n2
  · cases e
/-! e; return e -/
def dExp (f : DE) : DS := fun ρ s => bnd (f (hide ρ) s) fun _ s1 => some (.nx ρ, s1)
theorem s_exp (h : PS X st (tDrop (tU X.K fe))) : RefS X st (dExp fe) := ps_weak h fun E σ H ⟨ρ, s, o, s', w, B, F0, H0, F, e, I, k⟩ => by
  obtain ⟨d, s1, e1, e⟩ := bnd_eq e
  cases e
  exact ⟨hide ρ, s, d, _, w, F, e1, I.at, fun v F1 H1 p1 k1 r1 => k _ F1 H1 (I.grow p1 k1)⟩
def dRet (f : DE) : DS := fun ρ s => bnd (f (peek ρ) s) fun d s1 => some (.rt d, s1)
theorem s_ret (h : PS X st (tRet (tU X.K fe))) : RefS X st (dRet fe) := ps_weak h fun E σ H ⟨ρ, s, o, s', w, B, F0, H0, F, e, I, k⟩ => by
  obtain ⟨d, s1, e1, e⟩ := bnd_eq e
  cases e
  exact ⟨peek ρ, s, d, _, w, _, e1, I.peek.2, fun v F1 H1 p1 k1 r1 => k v F1 H1 (I.peek_post p1) k1 r1⟩
theorem s_pass {pos} : RefS X (.Pass pos) dSkip := ps_weak ps_pass fun E σ H ⟨ρ, s, o, s', w, B, F0, H0, F, e, I, k⟩ => by cases e; exact k σ F H I
def dBrk : DS := fun ρ s => some (.bk ρ, s)
def dCnt : DS := fun ρ s => some (.ct ρ, s)
theorem s_brk {pos} : RefS X (.Break pos) dBrk := ps_weak ps_break fun E σ H ⟨ρ, s, o, s', w, B, F0, H0, F, e, I, k⟩ => by cases e; exact k σ F H I
theorem s_cnt {pos} : RefS X (.Continue pos) dCnt := ps_weak ps_continue fun E σ H ⟨ρ, s, o, s', w, B, F0, H0, F, e, I, k⟩ => by cases e; exact k σ F H I
/-! if -/
def dIfS (c : DT) (f g : DS) : DS := fun ρ s => bnd (c (peek ρ) s) fun b s1 => if b = true then f ρ s1 else g ρ s1
variable {ft : DT}
theorem s_if {c : Expr} {a b : List Stmt} {pos : Pos} (hc : RefT X c ft) (ha : RefB X a f) (hb : RefB X b g) : RefS X (.If c a b pos) (dIfS ft f g) := ps_weak (ps_if hc ha hb) fun E σ H ⟨ρ, s, o, s', w, B, F0, H0, F, e, I, k⟩ => by
  obtain ⟨d, s1, e1, e⟩ := bnd_eq e
  refine ⟨peek ρ, s, d, s1, w, _, e1, I.peek.2, fun F1 H1 p1 k1 => ?_⟩
  have I1 := I.peek_back p1 k1
  cases d with
  | true => exact ⟨ρ, s1, o, s', w, B, F0, H0, F, e, I1, k⟩
  | false => exact ⟨ρ, s1, o, s', w, B, F0, H0, F, e, I1, k⟩
/-! while -/
def dWhileN (c : DT) (f : DS) : Nat → DS
  | 0 => fun _ _ => none
  | n + 1 => fun ρ s => bnd (c (peek ρ) s) fun b s1 => if b = true then bnd (f ρ s1) fun o s2 => match o with
      | .nx ρ2 => dWhileN c f n ρ2 s2
      | .ct ρ2 => dWhileN c f n ρ2 s2
      | .bk ρ2 => some (.nx ρ2, s2)
      | .rt d => some (.rt d, s2)
    else some (.nx ρ, s1)
open Classical in
noncomputable def dWhile (c : DT) (f : DS) : DS := fun ρ s => if h : ∃ n r, dWhileN c f n ρ s = some r then some (Classical.choose (Classical.choose_spec h)) else none
theorem dWhileN_mono {c : DT} {f : DS} : ∀ {n m : Nat} {ρ : Rho} {s : S} {r : Out × S}, n ≤ m → dWhileN c f n ρ s = some r → dWhileN c f m ρ s = some r
  | 0, _, _, _, _, _, e => by cases e
  | n + 1, 0, _, _, _, h, _ => absurd h (by omega)
  | n + 1, m + 1, ρ, s, r, h, e => by
    unfold dWhileN at e ⊢
    obtain ⟨b, s1, e1, e⟩ := bnd_eq e
    rw [e1, bnd_some]
    split at e
    · next hb =>
      rw [if_pos hb]
      obtain ⟨o, s2, e2, e⟩ := bnd_eq e
      rw [e2, bnd_some]
      cases o with
      | nx ρ2 => exact dWhileN_mono (Nat.le_of_succ_le_succ h) e
      | ct ρ2 => exact dWhileN_mono (Nat.le_of_succ_le_succ h) e
      | bk ρ2 => exact e
      | rt d => exact e
    · next hb => rw [if_neg hb]; exact e
theorem dWhile_of {c : DT} {f : DS} {n : Nat} {ρ : Rho} {s : S} {r : Out × S} (h : dWhileN c f n ρ s = some r) : dWhile c f ρ s = some r := by
  have hx : ∃ n r, dWhileN c f n ρ s = some r := ⟨n, r, h⟩
  unfold dWhile
  rw [dif_pos hx]
  have z := Classical.choose_spec (Classical.choose_spec hx)
  have m1 := dWhileN_mono (Nat.le_max_left n (Classical.choose hx)) h
  have m2 := dWhileN_mono (Nat.le_max_right n (Classical.choose hx)) z
  rw [m1] at m2
  exact m2.symm
theorem dWhile_eq {c : DT} {f : DS} {ρ : Rho} {s : S} {r : Out × S} (h : dWhile c f ρ s = some r) : ∃ n, dWhileN c f n ρ s = some r := by
  unfold dWhile at h
  split at h
  · next hx =>
    cases h
    exact ⟨_, Classical.choose_spec (Classical.choose_spec hx)⟩
  · cases h
theorem s_while {c : Expr} {body : List Stmt} {pos : Pos} (hp : PassesOwn (model X.prog X.w) X.A X.env X.xe) (hc : RefT X c ft) (hb : RefB X body f) : RefS X (.While c body [] pos) (dWhile ft f) := ps_weak (ps_while hp hc hb) fun E σ H ⟨ρ, s, o, s', w, B, F0, H0, F, e, I, k⟩ => by
  obtain ⟨n, e⟩ := dWhile_eq e
  refine ⟨fun m σ H => ∃ ρ s F, dWhileN ft f m ρ s = some (o, s') ∧ SInv X.K w B F0 H0 ρ σ s F H, ⟨n, ρ, s, F, e, I⟩, fun m σ1 H1 ⟨ρ1, s1, F1, e1, I1⟩ => ?_⟩
  cases m with
  | zero => cases e1
  | succ m =>
    unfold dWhileN at e1
    obtain ⟨b, s2, e2, e1⟩ := bnd_eq e1
    refine ⟨peek ρ1, s1, b, s2, w, _, e2, I1.peek.2, fun F2 H2 p2 k2 => ?_⟩
    have I2 := I1.peek_back p2 k2
    cases b with
    | true =>
      rw [if_pos rfl] at e1
      refine iteT ?_
      obtain ⟨o2, s3, e3, e1⟩ := bnd_eq e1
      refine ⟨fun σ' H' => ∃ ρ' s' F', o2 = .nx ρ' ∧ s' = s3 ∧ SInv X.K w B F0 H0 ρ' σ' s' F' H' ∨ o2 = .ct ρ' ∧ s' = s3 ∧ SInv X.K w B F0 H0 ρ' σ' s' F' H', fun σ' H' ⟨ρ', s4, F', z⟩ => ?_, ρ1, s2, o2, s3, w, B, F0, H0, F1, e3, I2, ?_⟩
      · rcases z with ⟨z1, z2, z3⟩ | ⟨z1, z2, z3⟩
        · subst z1 z2; exact ⟨m, Nat.lt_succ_self m, ρ', _, F', e1, z3⟩
        · subst z1 z2; exact ⟨m, Nat.lt_succ_self m, ρ', _, F', e1, z3⟩
      · cases o2 with
        | nx ρ2 => exact fun σ' F' H' I' => ⟨ρ2, s3, F', .inl ⟨rfl, rfl, I'⟩⟩
        | ct ρ2 => exact fun σ' F' H' I' => ⟨ρ2, s3, F', .inr ⟨rfl, rfl, I'⟩⟩
        | bk ρ2 => cases e1; exact k
        | rt d => cases e1; exact k
    | false =>
      rw [if_neg Bool.false_ne_true] at e1
      refine iteF ?_
      cases e1
      exact k σ1 F1 H2 I2
end
end Mp

set_option Elab.async false
set_option linter.all false
set_option maxRecDepth 100000
/-! Mp4: lists that grow, targets, for, comprehensions -/
namespace Mp
open PySem L2

section
variable {X : Cx} {st : Stmt} {f g : DS} {i j : Nat} {fe : DE} {fa : DA}
/-! x.append(e), x.extend(e) -/
def dApp (i : Nat) (f : DE) : DS := fun ρ s => match ρ[i]? with
  | some (.own l) => bnd (f (hide ρ) s) fun d s1 => if l.length < lim then some (.nx (ρ.set i (.own (l ++ [d]))), s1) else none
  | _ => none
theorem s_app {K : Fg} (h : PS X st (tDrop (tBM K "list" rAppend (tVar i) (tCons (tU X.K fe) tNil)))) : RefS X st (dApp i fe) := ps_weak h fun E σ H ⟨ρ, s, o, s', w, B, F0, H0, F, e, I, k⟩ => by
  unfold dApp at e
  split at e
  · next l hl =>
    obtain ⟨d, s1, e1, e⟩ := bnd_eq e
    split at e
    · next hz =>
      cases e
      obtain ⟨a, vs, z1, z2, z3, z4, z5, z6⟩ := I.own i l hl
      refine ⟨_, z1, .inl ⟨rfl, vs, .of z2⟩, hide ρ, s, d, _, w, F, e1, I.at, fun v F1 H1 p1 k1 r1 => ?_⟩
      have I1 := I.grow p1 k1
      obtain ⟨a', vs', y1, y2, y3, y4, y5, y6⟩ := I1.own i l hl
      rw [z1] at y1
      cases y1
      refine ⟨a, vs', v, rfl, rfl, y2, lim_lt (by rw [y6.length]; exact hz), ?_⟩
      exact k _ F1 _ (I1.turn hl z1 y2 y3 y4 y5 (y6.append ⟨v, [], rfl, r1, rfl⟩))
    · cases e
  · cases e
/-- x.append(e), e looks at own lists -/
def dAppP (i : Nat) (f : DE) : DS := fun ρ s => match ρ[i]? with
  | some (.own l) => bnd (f (peek ρ) s) fun d s1 => if l.length < lim ∧ flat d = true then some (.nx (ρ.set i (.own (l ++ [d]))), s1) else none
  | _ => none
theorem s_appP {K : Fg} (h : PS X st (tDrop (tBM K "list" rAppend (tVar i) (tCons (tU X.K fe) tNil)))) : RefS X st (dAppP i fe) := ps_weak h fun E σ H ⟨ρ, s, o, s', w, B, F0, H0, F, e, I, k⟩ => by
  unfold dAppP at e
  split at e
  · next l hl =>
    obtain ⟨d, s1, e1, e⟩ := bnd_eq e
    split at e
    · next hz =>
      cases e
      obtain ⟨a, vs, z1, z2, z3, z4, z5, z6⟩ := I.own i l hl
      refine ⟨_, z1, .inl ⟨rfl, vs, .of z2⟩, peek ρ, s, d, _, w, _, e1, I.peek.2, fun v F1 H1 p1 k1 r1 => ?_⟩
      have I1 := I.peek_back p1 k1
      obtain ⟨a', vs', y1, y2, y3, y4, y5, y6⟩ := I1.own i l hl
      rw [z1] at y1
      cases y1
      refine ⟨a, vs', v, rfl, rfl, y2, lim_lt (by rw [y6.length]; exact hz.1), ?_⟩
      exact k _ F _ (I1.turn hl z1 y2 y3 y4 y5 (y6.append ⟨v, [], rfl, flat_rep hz.2 r1, rfl⟩))
    · cases e
  · cases e
def dExt (i : Nat) (f : DE) : DS := fun ρ s => match ρ[i]? with
  | some (.own l) => bnd (f (hide ρ) s) fun d s1 => match d with
    | .lst m => if l.length + m.length ≤ lim then some (.nx (ρ.set i (.own (l ++ m))), s1) else none
    | _ => none
  | _ => none
theorem s_ext {K : Fg} (h : PS X st (tDrop (tBM K "list" rExtend (tVar i) (tCons (tU X.K fe) tNil)))) : RefS X st (dExt i fe) := ps_weak h fun E σ H ⟨ρ, s, o, s', w, B, F0, H0, F, e, I, k⟩ => by
  unfold dExt at e
  split at e
  · next l hl =>
    obtain ⟨d, s1, e1, e⟩ := bnd_eq e
    split at e
    · next m =>
      split at e
      · next hz =>
        cases e
        obtain ⟨a, vs, z1, z2, z3, z4, z5, z6⟩ := I.own i l hl
        refine ⟨_, z1, .inl ⟨rfl, vs, .of z2⟩, hide ρ, s, _, _, w, F, e1, I.at, fun v F1 H1 p1 k1 r1 => ?_⟩
        have I1 := I.grow p1 k1
        obtain ⟨a', vs', y1, y2, y3, y4, y5, y6⟩ := I1.own i l hl
        rw [z1] at y1
        cases y1
        obtain ⟨b, us, rfl, q2, q3⟩ := r1
        refine ⟨a, b, vs', us, rfl, rfl, y2, p1.inn _ _ q2, lim_le (by rw [y6.length, q3.length]; exact hz), ?_⟩
        exact k _ F1 _ (I1.turn hl z1 y2 y3 y4 y5 (y6.append q3))
      · cases e
    · cases e
  · cases e
/-! x op= e -/
def dAug (i : Nat) (g : D → D → Option D) (f : DE) : DS := fun ρ s => match ρ[i]? with
  | some (.v x) => bnd (f (peek ρ) s) fun d s1 => match g x d with
    | some z => if flat x = true ∧ flat d = true ∧ flat z = true then some (.nx (ρ.set i (.v z)), s1) else none
    | none => none
  | _ => none
theorem s_aug {r : R2} {g : D → D → Option D} (hg : Op2 X.K r g) (h : PS X st (tAug i (tU X.K fe) r)) : RefS X st (dAug i g fe) := ps_weak h fun E σ H ⟨ρ, s, o, s', w, B, F0, H0, F, e, I, k⟩ => by
  unfold dAug at e
  split at e
  · next x hx =>
    obtain ⟨d, s1, e1, e⟩ := bnd_eq e
    split at e
    · next z hz =>
      split at e
      · next hf =>
        cases e
        obtain ⟨v, v1, v2⟩ := I.env i x hx
        refine ⟨v, v1, peek ρ, s, d, _, w, _, e1, I.peek.2, fun u F1 H1 p1 k1 r1 => ?_⟩
        have I1 := I.peek_back p1 k1
        have hi : i < ρ.length := (List.getElem?_eq_some_iff.mp hx).1
        refine hg x d z hz w _ F H1 v u _ I1.post.inn I1.dok (flat_rep hf.1 v2) (flat_rep hf.2.1 r1) fun y F2 H2 p2 k2 r2 => ?_
        exact k _ F2 H2 ((I1.grow p2 k2).setV hi r2)
      · cases e
    · cases e
  · cases e
theorem ip_of {op : Operator} {r : R2} (h : OpR X (inplaceOp op) r) : PIp X op r := fun pins s σ H x y v u Q I rx ry q => h pins s σ H x y v u Q I rx ry q
theorem op2_ipI {K : Fg} {h : Int → Int → Int} : Op2 K (ipI h) (iiD0 fun i j => .int (h i j)) := fun x y d e w s F H v u Q hs k r1 r2 q => by
  unfold iiD0 at e
  split at e
  · next i j =>
    cases e
    exact ⟨i, j, r1, r2, q _ F H (.refl hs) k rfl⟩
  · cases e
/-! x, y = a, b -/
def dPar (i j : Nat) (f : DA) : DS := fun ρ s => bnd (f (hide ρ) s) fun l s1 => match l with
  | [x, y] => if i < ρ.length ∧ j < ρ.length then some (.nx ((ρ.set i (.v x)).set j (.v y)), s1) else none
  | _ => none
theorem s_par (h : PS X st (tPar i j (tUA X.K fa))) : RefS X st (dPar i j fa) := ps_weak h fun E σ H ⟨ρ, s, o, s', w, B, F0, H0, F, e, I, k⟩ => by
  obtain ⟨l, s1, e1, e⟩ := bnd_eq e
  split at e
  · next x y =>
    split at e
    · next hi =>
      cases e
      refine ⟨hide ρ, s, _, _, w, F, e1, I.at, fun vs F1 H1 p1 k1 r1 => ?_⟩
      obtain ⟨v, r, rfl, q1, u, r', rfl, q2, rfl⟩ := r1
      exact ⟨v, u, rfl, k _ F1 H1 (((I.grow p1 k1).setV hi.1 q1).setV (by rw [List.length_set]; exact hi.2) q2)⟩
    · cases e
  · cases e
/-- both looked at, both flat -/
def dParP (i j : Nat) (f : DA) : DS := fun ρ s => bnd (f (peek ρ) s) fun l s1 => match l with
  | [x, y] => if (i < ρ.length ∧ j < ρ.length) ∧ flat x = true ∧ flat y = true then some (.nx ((ρ.set i (.v x)).set j (.v y)), s1) else none
  | _ => none
theorem s_parP (h : PS X st (tPar i j (tUA X.K fa))) : RefS X st (dParP i j fa) := ps_weak h fun E σ H ⟨ρ, s, o, s', w, B, F0, H0, F, e, I, k⟩ => by
  obtain ⟨l, s1, e1, e⟩ := bnd_eq e
  split at e
  · next x y =>
    split at e
    · next hi =>
      cases e
      refine ⟨peek ρ, s, _, _, w, _, e1, I.peek.2, fun vs F1 H1 p1 k1 r1 => ?_⟩
      obtain ⟨v, r, rfl, q1, u, r', rfl, q2, rfl⟩ := r1
      exact ⟨v, u, rfl, k _ F H1 (((I.peek_back p1 k1).setV hi.1.1 (flat_rep hi.2.1 q1)).setV (by rw [List.length_set]; exact hi.1.2) (flat_rep hi.2.2 q2))⟩
    · cases e
  · cases e
/-- found, left = ([], e): the first a new list of the def's own -/
def tConsL (K : Fg) (fa : DA) (fe : DE) : TA := tCons (tUL K fa) (tCons (tU K fe) tNil)
def dParL (i j : Nat) (fa : DA) (fe : DE) : DS := fun ρ s => bnd (fa (hide ρ) s) fun l s1 => bnd (fe (hide ρ) s1) fun y s2 => if i < ρ.length ∧ j < ρ.length ∧ i ≠ j then some (.nx ((ρ.set i (.own l)).set j (.v y)), s2) else none
theorem s_parL (h : PS X st (tPar i j (tCons (tUL X.K fa) (tCons (tU X.K fe) tNil)))) : RefS X st (dParL i j fa fe) := ps_weak h fun E σ H ⟨ρ, s, o, s', w, B, F0, H0, F, e, I, k⟩ => by
  obtain ⟨l, s1, e1, e⟩ := bnd_eq e
  obtain ⟨y, s2, e2, e⟩ := bnd_eq e
  split at e
  · next hi =>
    cases e
    refine ⟨hide ρ, s, l, s1, w, F, e1, I.at, fun a vs F1 H1 p1 k1 n1 n2 n3 h1 r1 => ⟨hide ρ, s1, y, _, w, F1, e2, (I.grow p1 k1).at, fun u F2 H2 p2 k2 r2 => ?_⟩⟩
    refine ⟨_, u, rfl, ?_⟩
    have I2 := (I.grow p1 k1).grow p2 k2
    have h2 : H2 a = some (.lst vs) := p2.kept a _ n3 h1
    have n4 : F2 a = none := by
      cases q : F2 a with
      | none => rfl
      | some o =>
        rcases p2.new a o q with z | z
        · rw [n1] at z; cases z
        · rw [h1] at z; cases z
    exact k _ F2 H2 ((I2.setO hi.1 h2 n4 (I.post.dom a n2) n3 (r1.mono p2.ex) fun j m hj => .inl fun z => by
      obtain ⟨b, ws, z1, z2, _⟩ := I.own j m hj
      rw [z1] at z
      cases z
      rw [z2] at n2
      cases n2).setV (by rw [List.length_set]; exact hi.2.1) r2)
  · cases e

theorem SInv.floor {K : Fg} {w : Wd} {B B' F0 H0 F H : Hp} {ρ : Rho} {σ : L2.St} {s : S} (I : SInv K w B F0 H0 ρ σ s F H) (h : Sub B' F) : SInv K w B' F0 H0 ρ σ s F H := ⟨I.post, I.dok, I.env, I.own, I.ne, I.len, h⟩

/-! ### targets -/
abbrev DG := D → Rho → Option Rho
abbrev DGs := List D → Rho → Option Rho
def TgOk (K : Fg) (sl : List Nat) (Q : L2.St → Hp → Prop) (ρ' : Rho) (σ : L2.St) (s : S) (w : Wd) (B F0 H0 F H : Hp) : Prop := ∀ σ', SInv K w B F0 H0 ρ' σ' s F H → (∀ vs : List Nat, (∀ i ∈ sl, i ∈ vs) → wipe σ' vs = wipe σ vs) → Q σ' H
def tUG (K : Fg) (sl : List Nat) (g : DG) : TG := fun v σ H Q => ∃ d ρ ρ' s w B F0 H0 F, g d ρ = some ρ' ∧ SInv K w B F0 H0 ρ σ s F H ∧ Rep K w F d v ∧ TgOk K sl Q ρ' σ s w B F0 H0 F H
def tUGs (K : Fg) (sl : List Nat) (g : DGs) : TGs := fun v σ H Q => ∃ d ρ ρ' s w B F0 H0 F, g d ρ = some ρ' ∧ SInv K w B F0 H0 ρ σ s F H ∧ Reps K w F d v ∧ TgOk K sl Q ρ' σ s w B F0 H0 F H
abbrev RefG (X : Cx) (tg : Expr) (sl : List Nat) (g : DG) : Prop := PG X tg (tUG X.K sl g)
abbrev RefGs (X : Cx) (tgs : List Expr) (sl : List Nat) (g : DGs) : Prop := PGs X tgs (tUGs X.K sl g)
theorem pg_weak {e : Expr} {t t' : TG} (h : PG X e t) (k : ∀ v σ H Q, t' v σ H Q → t v σ H Q) : PG X e t' := ⟨fun pins s σ H v u Q I r q => h.run pins s σ H v u Q I r (k v σ H Q q)⟩
theorem pgs_weak {e : List Expr} {t t' : TGs} (h : PGs X e t) (k : ∀ v σ H Q, t' v σ H Q → t v σ H Q) : PGs X e t' := ⟨fun pins s σ H v u Q I r q => h.run pins s σ H v u Q I r (k v σ H Q q)⟩
def gN (i : Nat) : DG := fun d ρ => if i < ρ.length then some (ρ.set i (.v d)) else none
theorem wipe_set {σ : L2.St} {x : Option V} : ∀ {vs : List Nat} {i : Nat}, i ∈ vs → wipe (σ.set i x) vs = wipe σ vs
  | [], _, h => absurd h (by simp)
  | v :: vs, i, h => by
    by_cases hi : i ∈ vs
    · unfold wipe; rw [wipe_set hi]
    · have e : i = v := by simpa [hi] using h
      subst e
      have z : ∀ (us : List Nat), i ∉ us → wipe (σ.set i x) us = (wipe σ us).set i x := fun us => by
        induction us with
        | nil => intro _; rfl
        | cons u us ih =>
          intro hu
          simp only [List.mem_cons, not_or] at hu
          unfold wipe
          rw [ih hu.2, List.set_comm _ _ hu.1]
      unfold wipe
      rw [z vs hi, List.set_set]
theorem g_name {e : Expr} (h : PG X e (gName i)) : RefG X e [i] (gN i) := pg_weak h fun v σ H Q ⟨d, ρ, ρ', s, w, B, F0, H0, F, e, I, r, k⟩ => by
  unfold gN at e
  split at e
  · next hi =>
    cases e
    exact k _ (I.setV hi r) fun vs hv => wipe_set (hv i (by simp))
  · cases e
def gsN : DGs := fun l ρ => match l with
  | [] => some ρ
  | _ => none
def gsC (g : DG) (gs : DGs) : DGs := fun l ρ => match l with
  | [] => none
  | d :: l => match g d ρ with
    | some ρ1 => gs l ρ1
    | none => none
theorem gs_nil : RefGs X [] [] gsN := pgs_weak pgs_nil fun v σ H Q ⟨d, ρ, ρ', s, w, B, F0, H0, F, e, I, r, k⟩ => by
  unfold gsN at e
  split at e
  · cases e
    exact ⟨r, k σ I fun _ _ => rfl⟩
  · cases e
theorem gs_cons {e : Expr} {es : List Expr} {a b : List Nat} {g : DG} {gs : DGs} (h1 : RefG X e a g) (h2 : RefGs X es b gs)
    (hs : (assignEach (e :: es) X.env).map (·.2) = assign e X.env :: (assignEach es X.env).map (·.2) := by rfl) : RefGs X (e :: es) (a ++ b) (gsC g gs) := pgs_weak (pgs_cons h1 h2 hs) fun v σ H Q ⟨d, ρ, ρ', s, w, B, F0, H0, F, e, I, r, k⟩ => by
  unfold gsC at e
  split at e
  · cases e
  · next d l =>
    split at e
    · next ρ1 e1 =>
      obtain ⟨v1, vr, rfl, q1, q2⟩ := r
      refine ⟨v1, vr, rfl, d, ρ, ρ1, s, w, B, F0, H0, F, e1, I, q1, fun σ1 I1 w1 => ⟨l, ρ1, ρ', s, w, B, F0, H0, F, e, I1, q2, fun σ2 I2 w2 => k σ2 I2 fun vs hv => ?_⟩⟩
      rw [w2 vs fun i hi => hv i (List.mem_append_right _ hi), w1 vs fun i hi => hv i (List.mem_append_left _ hi)]
    · cases e
def gT (n : Nat) (gs : DGs) : DG := fun d ρ => match d with
  | .tup l => if l.length = n then gs l ρ else none
  | _ => none
theorem g_tup {es : List Expr} {k n : Nat} {a : List Nat} {gs : DGs} {pos : Pos} (hc : X.calm = true) (h : RefGs X es a gs) (hn : (assignEach es X.env).length = n := by rfl) (hst : (assignEach es X.env).findIdx? (·.1) = none := by rfl) : RefG X (.Tuple es k pos) a (gT n gs) :=
  pg_weak (pg_tup hc h hn hst) fun v σ H Q ⟨d, ρ, ρ', s, w, B, F0, H0, F, e, I, r, k⟩ => by
  unfold gT at e
  split at e
  · next l =>
    split at e
    · next hl =>
      obtain ⟨a, vs, rfl, q2, q3⟩ := r
      exact ⟨a, vs, rfl, (I.post.inn).sqt q2, by rw [q3.length]; exact hl, l, ρ, ρ', s, w, B, F0, H0, F, e, I, q3, k⟩
    · cases e
  · cases e
/-- (a, b) = e, a tuple's value -/
def dUnp (g : DG) (f : DE) : DS := fun ρ s => bnd (f (hide ρ) s) fun d s1 => match g d ρ with
  | some ρ1 => some (.nx ρ1, s1)
  | none => none
theorem s_unp {sl : List Nat} {g : DG} (h : PS X st (tAsg (tU X.K fe) (tUG X.K sl g))) : RefS X st (dUnp g fe) := ps_weak h fun E σ H ⟨ρ, s, o, s', w, B, F0, H0, F, e, I, k⟩ => by
  obtain ⟨d, s1, e1, e⟩ := bnd_eq e
  split at e
  · next ρ1 e2 =>
    cases e
    exact ⟨hide ρ, s, d, _, w, F, e1, I.at, fun v F1 H1 p1 k1 r1 => ⟨d, ρ, ρ1, _, w, B, F0, H0, F1, e2, I.grow p1 k1, r1, fun σ2 I2 _ => k σ2 F1 H1 I2⟩⟩
  · cases e

/-! ### what is walked -/
def ItemsOf (K : Fg) (w : Wd) (J : It) (F : Hp) (l : List D) : Prop := ∀ F1 H1, Sub F F1 → Sub F1 H1 → ∀ i : Nat,
  (∀ d, l[i]? = some d → J.go i H1 ∧ ∀ x H2, J.yld i H1 x H2 → ∃ F2, Post w F1 H1 F2 H2 ∧ (∀ s, DOk w s F1 H1 → DOk w s F2 H2) ∧ Rep K w F2 d x) ∧ (l[i]? = none → J.stop i H1)
def tUI (K : Fg) (f : DA) : TI := fun σ H R => ∃ ρ s l s' w F, f ρ s = some (l, s') ∧ At K w F H ρ σ s ∧ ∀ J F' H', Post w F H F' H' → DOk w s' F' H' → ItemsOf K w J F' l → R J H'
abbrev RefI (X : Cx) (tg e : Expr) (f : DA) : Prop := PI X tg e (tUI X.K f)
def dItems (f : DE) : DA := fun ρ s => bnd (f ρ s) fun d s1 => match d with
  | .lst l => some (l, s1)
  | .tup l => some (l, s1)
  | _ => none
theorem sql_sub {K : Fg} {H H' : Hp} {a : Addr} {xs ys : List V} (h : H a = some (.lst xs)) (e : Sub H H') (hl : K.lookup a = none ∨ True) : SqL K H' a xs := .of (e _ _ h)
theorem i_seq {tg e : Expr} (h : RefE X e fe) : RefI X tg e (dItems fe) := ⟨fun pins s0 σ H R I ⟨ρ, s, l, s', w, F, e, a, k⟩ => by
  obtain ⟨d, s1, e1, e⟩ := bnd_eq e
  split at e
  · next m =>
    cases e
    refine (pi_list h).run pins s0 σ H R I ⟨ρ, s, _, _, w, F, e1, a, fun v F1 H1 p1 k1 r1 => ?_⟩
    obtain ⟨b, vs, rfl, q2, q3⟩ := r1
    refine ⟨b, rfl, ⟨vs, .of (p1.inn _ _ q2)⟩, k _ F1 H1 p1 k1 fun F2 H2 s12 s22 i => ⟨fun d hd => ?_, fun hn => ?_⟩⟩
    · obtain ⟨v, z1, z2⟩ := q3.get hd
      refine ⟨⟨vs, v, .of (s22 _ _ (s12 _ _ q2)), z1⟩, fun x H3 y => ?_⟩
      obtain ⟨rfl, y⟩ := y
      have z3 := y vs (.of (s22 _ _ (s12 _ _ q2)))
      rw [z1] at z3
      cases z3
      exact ⟨F2, .refl s22, fun _ h => h, z2.mono s12⟩
    · exact ⟨vs, .of (s22 _ _ (s12 _ _ q2)), by rw [q3.length]; exact List.getElem?_eq_none_iff.mp hn⟩
  · next m =>
    cases e
    refine (pi_tup h).run pins s0 σ H R I ⟨ρ, s, _, _, w, F, e1, a, fun v F1 H1 p1 k1 r1 => ?_⟩
    obtain ⟨b, vs, rfl, q2, q3⟩ := r1
    refine ⟨b, rfl, ⟨vs, p1.inn.sqt q2⟩, k _ F1 H1 p1 k1 fun F2 H2 s12 s22 i => ⟨fun d hd => ?_, fun hn => ?_⟩⟩
    · obtain ⟨v, z1, z2⟩ := q3.get hd
      refine ⟨⟨vs, v, s22.sqt (s12.sqt q2), z1⟩, fun x H3 y => ?_⟩
      obtain ⟨rfl, y⟩ := y
      have z3 := y vs (s22.sqt (s12.sqt q2))
      rw [z1] at z3
      cases z3
      exact ⟨F2, .refl s22, fun _ h => h, z2.mono s12⟩
    · exact ⟨vs, s22.sqt (s12.sqt q2), by rw [q3.length]; exact List.getElem?_eq_none_iff.mp hn⟩
  · cases e⟩
/-- range -/
def rngL (lo : Int) (n : Nat) : List D := (List.range n).map fun k => .int (lo + (k : Nat))
theorem rngL_get (lo : Int) (n i : Nat) : (rngL lo n)[i]? = if i < n then some (.int (lo + (i : Nat))) else none := by
  unfold rngL
  rw [List.getElem?_map]
  by_cases h : i < n
  · rw [List.getElem?_range h, if_pos h]; rfl
  · rw [List.getElem?_eq_none (by simpa using h), if_neg h]; rfl
theorem items_rng {K : Fg} {w : Wd} {F : Hp} {lo : Int} {n : Nat} : ItemsOf K w (Itr lo n) F (rngL lo n) := fun F1 H1 s1 s2 i => by
  rw [rngL_get]
  refine ⟨fun d hd => ?_, fun hn => ?_⟩
  · split at hd
    · next h =>
      cases hd
      refine ⟨h, fun x H2 y => ?_⟩
      obtain ⟨rfl, rfl⟩ := y
      exact ⟨F1, .refl s2, fun _ h => h, rfl⟩
    · cases hd
  · split at hn
    · cases hn
    · next h => exact Nat.le_of_not_lt h
def dRng1 (f : DA) : DA := fun ρ s => bnd (f ρ s) fun l s1 => match l with
  | [.int n] => if -(10 ^ 9) ≤ n ∧ n ≤ 10 ^ 9 then some (rngL 0 n.toNat, s1) else none
  | _ => none
def dRng2 (f : DA) : DA := fun ρ s => bnd (f ρ s) fun l s1 => match l with
  | [.int m, .int n] => if -(10 ^ 9) ≤ m ∧ m ≤ 10 ^ 9 ∧ -(10 ^ 9) ≤ n ∧ n ≤ 10 ^ 9 then some (rngL m (n - m).toNat, s1) else none
  | _ => none
theorem i_rng1 {tg a : Expr} {p pos : Pos} (hg : Gl X "range") (hm : X.mg "range" = none) (ha : RefA X [a] fa) (hs : starEach [a] X.env = [(false, eval a X.env)] := by rfl) : RefI X tg (.Call (.Name "range" p) [a] [] pos) (dRng1 fa) := ⟨fun pins s0 σ H R I ⟨ρ, s, l, s', w, F, e, a, k⟩ => by
  obtain ⟨d, s1, e1, e⟩ := bnd_eq e
  split at e
  · next n =>
    split at e
    · next hn =>
      cases e
      refine (pi_range1 hg hm ha hs).run pins s0 σ H R I ⟨ρ, s, _, _, w, F, e1, a, fun vs F1 H1 p1 k1 r1 => ?_⟩
      obtain ⟨v, r, rfl, q1, rfl⟩ := r1
      cases q1
      exact ⟨n, rfl, by omega, by omega, k _ F1 H1 p1 k1 items_rng⟩
    · cases e
  · cases e⟩
theorem i_rng2 {tg a b : Expr} {p pos : Pos} (hg : Gl X "range") (hm : X.mg "range" = none) (ha : RefA X [a, b] fa) (hs : starEach [a, b] X.env = [(false, eval a X.env), (false, eval b X.env)] := by rfl) (hs2 : starEach [b] X.env = [(false, eval b X.env)] := by rfl) : RefI X tg (.Call (.Name "range" p) [a, b] [] pos) (dRng2 fa) := ⟨fun pins s0 σ H R I ⟨ρ, s, l, s', w, F, e, a, k⟩ => by
  obtain ⟨d, s1, e1, e⟩ := bnd_eq e
  split at e
  · next m n =>
    split at e
    · next hn =>
      cases e
      refine (pi_range2 hg hm ha hs hs2).run pins s0 σ H R I ⟨ρ, s, _, _, w, F, e1, a, fun vs F1 H1 p1 k1 r1 => ?_⟩
      obtain ⟨v, r, rfl, q1, u, r', rfl, q2, rfl⟩ := r1
      cases q1
      cases q2
      exact ⟨m, n, rfl, by omega, k _ F1 H1 p1 k1 items_rng⟩
    · cases e
  · cases e⟩
/-- enumerate(list) -/
def enumL : Nat → List D → List D
  | _, [] => []
  | i, d :: l => .tup [.int (i : Nat), d] :: enumL (i + 1) l
theorem enumL_get : ∀ (l : List D) (k i : Nat), (enumL k l)[i]? = (l[i]?).map fun d => .tup [.int ((k + i : Nat) : Int), d]
  | [], _, _ => by simp [enumL]
  | d :: l, k, 0 => by simp [enumL]
  | d :: l, k, i + 1 => by
    unfold enumL
    rw [List.getElem?_cons_succ, List.getElem?_cons_succ, enumL_get l (k + 1) i]
    congr 1
    funext d
    have : k + 1 + i = k + (i + 1) := by omega
    rw [this]
def dEnum (f : DA) : DA := fun ρ s => bnd (f ρ s) fun l s1 => match l with
  | [.lst m] => some (enumL 0 m, s1)
  | _ => none
theorem i_enum {e : Expr} {elts : List Expr} {kk : Nat} {p pos tpos : Pos} (hg : Gl X "enumerate") (hm : X.mg "enumerate" = none) (ha : RefA X [e] fa) (hs : starEach [e] X.env = [(false, eval e X.env)] := by rfl) : RefI X (.Tuple elts kk tpos) (.Call (.Name "enumerate" p) [e] [] pos) (dEnum fa) := ⟨fun pins s0 σ H R I ⟨ρ, s, l, s', w, F, e, a, k⟩ => by
  obtain ⟨d, s1, e1, e⟩ := bnd_eq e
  split at e
  · next m =>
    cases e
    refine (pi_enum hg hm ha hs).run pins s0 σ H R I ⟨ρ, s, _, _, w, F, e1, a, fun vs F1 H1 p1 k1 r1 => ?_⟩
    obtain ⟨v, r, rfl, q1, rfl⟩ := r1
    obtain ⟨b, us, rfl, q2, q3⟩ := q1
    refine ⟨b, us, rfl, .of (p1.inn _ _ q2), k _ F1 H1 p1 k1 fun F2 H2 s12 s22 i => ?_⟩
    rw [enumL_get]
    refine ⟨fun d hd => ?_, fun hn => ?_⟩
    · obtain ⟨d', h1, h2⟩ := Option.map_eq_some_iff.mp hd
      subst h2
      obtain ⟨v, z1, z2⟩ := q3.get h1
      refine ⟨⟨us, v, .of (s22 _ _ (s12 _ _ q2)), z1⟩, fun x H3 y => ?_⟩
      obtain ⟨T, x', rfl, y1, rfl, y3⟩ := y
      have z3 := y3 us (.of (s22 _ _ (s12 _ _ q2)))
      rw [z1] at z3
      cases z3
      have pp := Post.laid (w := w) (o := .tup [.int (i : Nat), v]) s22 y1
      refine ⟨_, pp, fun s k => k.laid y1, T, _, rfl, .of upd_same, _, _, rfl, ?_, v, [], rfl, (z2.mono s12).mono pp.ex, rfl⟩
      show V.int (i : Nat) = V.int ((0 + i : Nat) : Int)
      rw [Nat.zero_add]
    · have hn' : m[i]? = none := by
        cases q : m[i]? with
        | none => rfl
        | some d => rw [q] at hn; cases hn
      exact ⟨us, .of (s22 _ _ (s12 _ _ q2)), by rw [q3.length]; exact List.getElem?_eq_none_iff.mp hn'⟩
  · cases e⟩

/-! ### for -/
def dLoop (g : DG) (f : DS) : List D → DS
  | [] => fun ρ s => some (.nx ρ, s)
  | d :: l => fun ρ s => match g d ρ with
    | none => none
    | some ρ1 => bnd (f ρ1 s) fun o s1 => match o with
      | .nx ρ2 => dLoop g f l ρ2 s1
      | .ct ρ2 => dLoop g f l ρ2 s1
      | .bk ρ2 => some (.nx ρ2, s1)
      | .rt d => some (.rt d, s1)
def dFor (fi : DA) (g : DG) (f : DS) : DS := fun ρ s => bnd (fi (hide ρ) s) fun l s1 => dLoop g f l ρ s1
theorem s_for {tg iter : Expr} {body : List Stmt} {pos : Pos} {fi : DA} {gg : DG} {sl : List Nat} (hp : PassesOwn (model X.prog X.w) X.A X.env X.xe) (hc : X.calm = true) (hi : RefI X tg iter fi) (hg : RefG X tg sl gg) (hb : RefB X body f)
    (hs : ∀ x, foldedSetIterable iter X.env x = pure x := by intro _; rfl) : RefS X (.For tg iter body [] pos) (dFor fi gg f) := ps_weak (ps_for hp hc hi hg hb hs) fun E σ H ⟨ρ, s, o, s', w, B, F0, H0, F, e, I, k⟩ => by
  obtain ⟨l, s1, e1, e⟩ := bnd_eq e
  refine ⟨hide ρ, s, l, s1, w, F, e1, I.at, fun J F1 H1 p1 k1 it => ?_⟩
  refine ⟨fun i m σ H => ∃ ρ s F, m = l.length - i ∧ i ≤ l.length ∧ dLoop gg f (l.drop i) ρ s = some (o, s') ∧ SInv X.K w F1 F0 H0 ρ σ s F H, ⟨l.length, ρ, s1, F1, by simp, Nat.zero_le _, e, (I.grow p1 k1).floor (.refl F1)⟩, fun i m σ2 H2 ⟨ρ2, s2, F2, em, hi, e2, I2⟩ => ?_⟩
  subst em
  obtain ⟨t1, t2⟩ := it F2 H2 I2.low I2.post.inn i
  have lo : Sub B F1 := I.low.trans p1.ex
  cases q : l[i]? with
  | none =>
    refine .inl ⟨t2 q, ?_⟩
    have hd : l.drop i = [] := List.drop_eq_nil_of_le (List.getElem?_eq_none_iff.mp q)
    rw [hd] at e2
    cases e2
    exact k σ2 F2 H2 (I2.floor (lo.trans I2.low))
  | some d =>
    obtain ⟨go, yld⟩ := t1 d q
    have hlt : i < l.length := (List.getElem?_eq_some_iff.mp q).1
    have hd : l.drop i = d :: l.drop (i + 1) := by
      rw [List.drop_eq_getElem_cons hlt, (List.getElem?_eq_some_iff.mp q).2]
    rw [hd] at e2
    unfold dLoop at e2
    split at e2
    · cases e2
    · next ρ3 e3 =>
      obtain ⟨o4, s4, e4, e5⟩ := bnd_eq e2
      refine .inr ⟨go, fun σ' H' => ∃ ρ' F', (o4 = .nx ρ' ∨ o4 = .ct ρ') ∧ SInv X.K w F1 F0 H0 ρ' σ' s4 F' H', fun σ' H' ⟨ρ', F', z1, z2⟩ => ⟨l.length - (i + 1), by omega, ρ', s4, F', rfl, hlt, ?_, z2⟩, fun x H3 y => ?_⟩
      · rcases z1 with z1 | z1
        · subst z1; exact e5
        · subst z1; exact e5
      · obtain ⟨F3, p3, k3, r3⟩ := yld x H3 y
        have I3 := I2.grow p3 (k3 s2 I2.dok)
        refine ⟨d, ρ2, ρ3, s2, w, F1, F0, H0, F3, e3, I3, r3, fun σ4 I4 _ => ⟨ρ3, s2, o4, s4, w, F1, F0, H0, F3, e4, I4, ?_⟩⟩
        cases o4 with
        | nx ρ4 => exact fun σ' F' H' I' => ⟨ρ4, F', .inl rfl, I'⟩
        | ct ρ4 => exact fun σ' F' H' I' => ⟨ρ4, F', .inr rfl, I'⟩
        | bk ρ4 => cases e5; exact fun σ' F' H' I' => k σ' F' H' (I'.floor (lo.trans I'.low))
        | rt d' => cases e5; exact k

/-! ### comprehensions -/
theorem wipe_idem {σ : L2.St} {u : Nat} : ∀ {vs : List Nat}, u ∈ vs → (wipe σ vs).set u none = wipe σ vs
  | [], h => absurd h (by simp)
  | v :: vs, h => by
    unfold wipe
    by_cases e : u = v
    · subst e; rw [List.set_set]
    · have h' : u ∈ vs := by simpa [e] using h
      rw [List.set_comm _ _ (fun z => e z.symm), wipe_idem h']
def toRho (ρ : Env) : Rho := ρ.map fun o => match o with
  | some d => .v d
  | none => .none
def wipeE (ρ : Env) : List Nat → Env
  | [] => ρ
  | v :: vs => (wipeE ρ vs).set v none
theorem wipeE_length (ρ : Env) : ∀ vs : List Nat, (wipeE ρ vs).length = ρ.length
  | [] => rfl
  | v :: vs => by unfold wipeE; rw [List.length_set, wipeE_length ρ vs]
theorem wipeE_some {ρ : Env} {i : Nat} {x : D} : ∀ {vs : List Nat}, (wipeE ρ vs)[i]? = some (some x) → ρ[i]? = some (some x) ∧ i ∉ vs
  | [], h => ⟨h, by simp⟩
  | v :: vs, h => by
    unfold wipeE at h
    rcases set_get h with ⟨_, e, _⟩ | ⟨ne, e⟩
    · cases e
    · obtain ⟨h1, h2⟩ := wipeE_some e
      exact ⟨h1, by simp only [List.mem_cons, not_or]; exact ⟨fun e => ne e.symm, h2⟩⟩
theorem EnvR.wipe {K : Fg} {w : Wd} {F : Hp} {ρ : Env} {σ : L2.St} (h : EnvR K w F ρ σ) (vs : List Nat) : EnvR K w F (wipeE ρ vs) (wipe σ vs) := fun i d e => by
  obtain ⟨e1, e2⟩ := wipeE_some e
  obtain ⟨v, h1, h2⟩ := h i d e1
  exact ⟨v, by rw [wipe_out e2]; exact h1, h2⟩
/-- an environment as long as the slots -/
def fit (n : Nat) (ρ : Env) : Env := (List.range n).map fun i => (ρ[i]?).getD none
theorem fit_some {n i : Nat} {ρ : Env} {d : D} (h : (fit n ρ)[i]? = some (some d)) : ρ[i]? = some (some d) ∧ i < n := by
  unfold fit at h
  rw [List.getElem?_map] at h
  by_cases hi : i < n
  · rw [List.getElem?_range hi] at h
    have h' : some ((ρ[i]?).getD none) = some (some d) := h
    refine ⟨?_, hi⟩
    cases q : ρ[i]? with
    | none => rw [q] at h'; cases h'
    | some o => rw [q] at h'; exact h'
  · rw [List.getElem?_eq_none (by simpa using hi)] at h; cases h
theorem sinv_of {K : Fg} {w : Wd} {F H : Hp} {ρ : Env} {σ : L2.St} {s : S} (h : EnvR K w F ρ σ) (hs : Sub F H) (k : DOk w s F H) (hl : σ.length = ρ.length) : SInv K w F F H (toRho ρ) σ s F H := by
  have nown : ∀ (i : Nat) (l : List D), (toRho ρ)[i]? ≠ some (.own l) := fun i l e => by
    unfold toRho at e
    rw [List.getElem?_map] at e
    cases q : ρ[i]? with
    | none => rw [q] at e; cases e
    | some o => rw [q] at e; cases o <;> cases e
  refine ⟨.refl hs, k, fun i d e => ?_, fun i l e => absurd e (nown i l), fun i j l m a _ e _ _ _ => nown i l e, by rw [hl]; simp [toRho], .refl F⟩
  unfold toRho at e
  rw [List.getElem?_map] at e
  cases q : ρ[i]? with
  | none => rw [q] at e; cases e
  | some o =>
    rw [q] at e
    cases o with
    | none => cases e
    | some d' =>
      have z : d' = d := by simpa using e
      subst z
      exact h i d' q
def compLoop (g : DG) (ft : DT) (fe : DE) (ρ : Env) : List D → S → Option (List D × S)
  | [], s => some ([], s)
  | d :: l, s => match g d (toRho ρ) with
    | none => none
    | some ρ1 => bnd (ft (hide ρ1) s) fun b s1 => if b = true then bnd (fe (hide ρ1) s1) fun y s2 => bnd (compLoop g ft fe ρ l s2) fun ys s3 => some (y :: ys, s3)
      else compLoop g ft fe ρ l s1
def dComp (fi : DA) (vs : List Nat) (g : DG) (ft : DT) (fe : DE) : DA := fun ρ s => bnd (fi ρ s) fun l s1 => if l.length ≤ lim then compLoop g ft fe (wipeE ρ vs) l s1 else none
def dYes : DT := fun _ s => some (true, s)
abbrev RefTs (X : Cx) (ifs : List Expr) (f : DT) : Prop := PTs X ifs (tUT X.K f)
theorem ts_nil : RefTs X [] dYes := ⟨fun pins s0 σ H Q I ⟨ρ, s, d, s', w, F, e, a, k⟩ => (pts_nil (X := X)).run pins s0 σ H Q I (by cases e; exact k F H (.refl a.inn) a.dok)⟩
theorem ts_one {c : Expr} {ft : DT} (h : RefT X c ft) : RefTs X [c] ft := pts_one h
theorem compLoop_len {g : DG} {ft : DT} {fe : DE} {ρ : Env} : ∀ {l : List D} {s s' : S} {r : List D}, compLoop g ft fe ρ l s = some (r, s') → r.length ≤ l.length
  | [], _, _, _, e => by cases e; exact Nat.le_refl _
  | d :: l, s, s', r, e => by
    unfold compLoop at e
    split at e
    · cases e
    · obtain ⟨b, s1, e1, e⟩ := bnd_eq e
      split at e
      · obtain ⟨y, s2, e2, e⟩ := bnd_eq e
        obtain ⟨ys, s3, e3, e⟩ := bnd_eq e
        cases e
        have := compLoop_len e3
        simpa using this
      · have := compLoop_len e
        simp; omega
/-- the reading of a comprehension -/
theorem tLc_of {K : Fg} {fi : DA} {gg : DG} {sl vs : List Nat} {ft : DT} (hsl : ∀ i ∈ sl, i ∈ vs) : ∀ σ H Q, tUL K (dComp fi vs gg ft fe) σ H Q → tLc (tUI K fi) (tUG K sl gg) (tUT K ft) (tU K fe) vs σ H Q := fun σ H Q ⟨ρ, s, r, s', w, F, e, a, k⟩ => by
  obtain ⟨l, s1, e1, e⟩ := bnd_eq e
  split at e
  · next hlim =>
    refine ⟨ρ, s, l, s1, w, F, e1, a, fun J F1 H1 p1 k1 it Dl hD => ?_⟩
    have dn : Dl ∉ dcells w := k1.fresh hD
    have pm := Post.made (w := w) (o := .lst []) p1.inn hD
    -- at turn i: so much is made, so much is left
    refine ⟨fun i m H' => ∃ acc vsa ls s2 F2, m = l.length - i ∧ i ≤ l.length ∧ acc.length ≤ i ∧ compLoop gg ft fe (wipeE ρ vs) (l.drop i) s2 = some (ls, s') ∧ acc ++ ls = r ∧
      Post w F H F2 H' ∧ DOk w s2 F2 H' ∧ Sub F1 F2 ∧ F2 Dl = none ∧ H' Dl = some (.lst vsa) ∧ Reps K w F2 acc vsa, ⟨l.length, [], [], r, s1, F1, by simp, Nat.zero_le _, Nat.zero_le _, e, rfl, p1.trans pm, k1.made dn, .refl F1, p1.free hD, upd_same, rfl⟩,
      fun i m H2 ⟨acc, vsa, ls, s2, F2, em, hi, hacc, ec, er, p2, k2, sb, fD, hD2, ra⟩ => ?_⟩
    subst em
    obtain ⟨t1, t2⟩ := it F2 H2 sb p2.inn i
    cases q : l[i]? with
    | none =>
      refine .inl ⟨t2 q, ?_⟩
      have hd : l.drop i = [] := List.drop_eq_nil_of_le (List.getElem?_eq_none_iff.mp q)
      rw [hd] at ec
      cases ec
      rw [List.append_nil] at er
      subst er
      exact k Dl vsa F2 H2 p2 k2 fD (p1.dom _ hD) dn hD2 ra
    | some d =>
      obtain ⟨go, yld⟩ := t1 d q
      have hlt : i < l.length := (List.getElem?_eq_some_iff.mp q).1
      have hd : l.drop i = d :: l.drop (i + 1) := by
        rw [List.drop_eq_getElem_cons hlt, (List.getElem?_eq_some_iff.mp q).2]
      rw [hd] at ec
      unfold compLoop at ec
      split at ec
      · cases ec
      · next ρ3 e3 =>
        obtain ⟨b, s3, eb, ec⟩ := bnd_eq ec
        refine .inr ⟨go, fun H' => ∃ m', m' < l.length - i ∧ ∃ acc vsa ls s2 F2, m' = l.length - (i + 1) ∧ i + 1 ≤ l.length ∧ acc.length ≤ i + 1 ∧ compLoop gg ft fe (wipeE ρ vs) (l.drop (i + 1)) s2 = some (ls, s') ∧ acc ++ ls = r ∧
          Post w F H F2 H' ∧ DOk w s2 F2 H' ∧ Sub F1 F2 ∧ F2 Dl = none ∧ H' Dl = some (.lst vsa) ∧ Reps K w F2 acc vsa, fun H' h => h, fun x H3 y => ?_⟩
        obtain ⟨F3, p3, k3, r3⟩ := yld x H3 y
        have k3' := k3 s2 k2
        have env3 : EnvR K w F3 (wipeE ρ vs) (wipe σ vs) := (a.env.wipe vs).mono (p2.ex.trans p3.ex)
        have I3 : SInv K w F3 F3 H3 (toRho (wipeE ρ vs)) (wipe σ vs) s2 F3 H3 := sinv_of env3 p3.inn k3' (by rw [wipe_length, wipeE_length, a.len])
        have fD3 : ∀ {Fa Ha Fb Hb : Hp}, Post w Fa Ha Fb Hb → Fa Dl = none → (∃ o, Ha Dl = some o) → Fb Dl = none := fun {Fa Ha Fb Hb} pp f1 ⟨o, f2⟩ => by
          cases qq : Fb Dl with
          | none => rfl
          | some o' =>
            rcases pp.new Dl o' qq with z | z
            · rw [f1] at z; cases z
            · rw [f2] at z; cases z
        have f3 := fD3 p3 fD ⟨_, hD2⟩
        have h3 := p3.kept _ _ dn hD2
        refine ⟨d, toRho (wipeE ρ vs), ρ3, s2, w, F3, F3, H3, F3, e3, I3, r3, fun σ4 I4 w4 => ⟨?_, ?_⟩⟩
        · rw [w4 vs hsl]
          have : ∀ us : List Nat, (∀ i ∈ us, i ∈ vs) → wipe (wipe σ vs) us = wipe σ vs := fun us => by
            induction us with
            | nil => intro _; rfl
            | cons u us ih =>
              intro hu
              show (wipe (wipe σ vs) us).set u none = wipe σ vs
              rw [ih fun i hi => hu i (List.mem_cons_of_mem _ hi)]
              exact wipe_idem (hu u List.mem_cons_self)
          exact this vs fun _ h => h
        · refine ⟨hide ρ3, s2, b, s3, w, F3, eb, I4.at, fun F5 H5 p5 k5 => ?_⟩
          have f5 := fD3 p5 f3 ⟨_, h3⟩
          have h5 := p5.kept _ _ dn h3
          cases b with
          | true =>
            rw [if_pos rfl] at ec
            refine iteT ?_
            obtain ⟨yv, s6, ey, ec⟩ := bnd_eq ec
            obtain ⟨ys, s7, ez, ec⟩ := bnd_eq ec
            cases ec
            have I5 := I4.grow p5 k5
            refine ⟨hide ρ3, s3, yv, s6, w, F5, ey, I5.at, fun v F6 H6 p6 k6 r6 => ?_⟩
            have f6 := fD3 p6 f5 ⟨_, h5⟩
            have h6 := p6.kept _ _ dn h5
            have ra6 : Reps K w F6 acc vsa := ra.mono ((p3.ex.trans p5.ex).trans p6.ex)
            refine ⟨vsa, h6, lim_lt (by rw [ra6.length]; omega), l.length - (i + 1), by omega, acc ++ [yv], vsa ++ [v], ys, s6, F6, rfl, hlt, by simp; omega, ez, by rw [List.append_assoc]; exact er, ?_, k6.made dn, ((sb.trans p3.ex).trans p5.ex).trans p6.ex, f6, upd_same, ra6.append ⟨v, [], rfl, r6, rfl⟩⟩
            have pp := ((p2.trans p3).trans p5).trans p6
            refine ⟨pp.ex, fun b o hb => ?_, pp.new, fun b o hn hb => ?_, fun b hb => ?_⟩
            · rw [upd_ne (ne_of_none hb f6)]; exact pp.inn b o hb
            · rw [upd_ne (ne_of_none hb (p1.dom _ hD))]; exact pp.kept b o hn hb
            · by_cases hbD : b = Dl
              · subst hbD; rw [upd_same] at hb; cases hb
              · rw [upd_ne hbD] at hb; exact pp.dom b hb
          | false =>
            rw [if_neg Bool.false_ne_true] at ec
            refine iteF ?_
            exact ⟨l.length - (i + 1), by omega, acc, vsa, ls, s3, F5, rfl, hlt, Nat.le_succ_of_le hacc, ec, er, (p2.trans p3).trans p5, k5, (sb.trans p3.ex).trans p5.ex, f5, h5, ra.mono (p3.ex.trans p5.ex)⟩
  · cases e
theorem l_lc {elt tg iter : Expr} {ifs : List Expr} {scope : Scope} {own : List (Str × Nat)} {pos : Pos} {fi : DA} {gg : DG} {sl : List Nat} {ft : DT} (hc : X.calm = true) (hN : X.N.Nodup) (hi : RefI X tg iter fi) (ok : BlkOk X.N X.env.scope scope own)
    (hg : ∀ (s : Shared) (H : Hp) (C : Addr) (cl : List (Str × Addr)) (fp : List Addr), RefG (X.blk s H scope (compEnvC scope cl C X.env) fp) tg sl gg) (ht : ∀ (s : Shared) (H : Hp) (C : Addr) (cl : List (Str × Addr)) (fp : List Addr), RefTs (X.blk s H scope (compEnvC scope cl C X.env) fp) ifs ft)
    (he : ∀ (s : Shared) (H : Hp) (C : Addr) (cl : List (Str × Addr)) (fp : List Addr), RefE (X.blk s H scope (compEnvC scope cl C X.env) fp) elt fe) (hsl : ∀ i ∈ sl, i ∈ own.map (·.2) := by decide) (hs : ∀ x, foldedSetIterable iter X.env x = pure x := by intro _; rfl) :
    RefL X (.ListComp elt [⟨tg, iter, ifs, 0⟩] scope pos) (dComp fi (own.map (·.2)) gg ft fe) := pe_weak (pe_lc hc hN hi ok hg ht he hs) (tLc_of hsl)
theorem s_setLc {i : Nat} {y : Str} {py : Pos} {elt tg iter : Expr} {ifs : List Expr} {scope : Scope} {own : List (Str × Nat)} {pos spos : Pos} {fi : DA} {gg : DG} {sl : List Nat} {ft : DT} (hc : X.calm = true) (hN : X.N.Nodup) (hy : X.N[i]? = some y) (hyl : X.env.scope.names.lookup y = some .local)
    (hsw : swapsWith (.ListComp elt [⟨tg, iter, ifs, 0⟩] scope pos) (some (.Name y py)) spos.line X.env = pure true) (hi : RefI X tg iter fi) (ok : BlkOk X.N X.env.scope scope own)
    (hg : ∀ (s : Shared) (H : Hp) (C : Addr) (cl : List (Str × Addr)) (fp : List Addr), RefG (X.blk s H scope (compEnvC scope cl C X.env) fp) tg sl gg) (ht : ∀ (s : Shared) (H : Hp) (C : Addr) (cl : List (Str × Addr)) (fp : List Addr), RefTs (X.blk s H scope (compEnvC scope cl C X.env) fp) ifs ft)
    (he : ∀ (s : Shared) (H : Hp) (C : Addr) (cl : List (Str × Addr)) (fp : List Addr), RefE (X.blk s H scope (compEnvC scope cl C X.env) fp) elt fe) (hsl : ∀ i ∈ sl, i ∈ own.map (·.2) := by decide) (hs : ∀ x, foldedSetIterable iter X.env x = pure x := by intro _; rfl) :
    PS X (.Assign [.Name y py] (.ListComp elt [⟨tg, iter, ifs, 0⟩] scope pos) spos) (tAsg (tUL X.K (dComp fi (own.map (·.2)) gg ft fe)) (gName i)) :=
  ps_weak (ps_setLc hc hN hy hyl hsw hi ok hg ht he hs) fun E σ H h => tLc_of hsl σ H _ h
end
end Mp

set_option Elab.async false
set_option linter.all false
set_option maxRecDepth 100000
/-! Mp5: comprehensions of two clauses, new lists, built-ins, calls, defs -/
namespace Mp
open PySem L2

section
variable {X : Cx} {fe : DE} {fa : DA}
/-- the inner clause of two, for one item of the outer -/
def dComp2 (fi : DA) (vs : List Nat) (g : DG) (ft : DT) (fi1 : DA) (vs1 : List Nat) (g1 : DG) (ft1 : DT) (fe : DE) : DA := fun ρ s => bnd (fi ρ s) fun l s1 => if l.length ≤ lim then comp2 ρ l [] s1 else none
where
  /-- acc: what is made so far -/
  comp2 (ρ : Env) : List D → List D → S → Option (List D × S)
  | [], acc, s => some (acc, s)
  | d :: l, acc, s => match g d (toRho (wipeE ρ vs)) with
    | none => none
    | some ρ1 => bnd (ft (hide ρ1) s) fun b s1 => if b = true then bnd (fi1 (hide ρ1) s1) fun m s2 => bnd (compLoop g1 ft1 fe (wipeE (hide ρ1) vs1) m s2) fun ys s3 => if (acc ++ ys).length ≤ lim then comp2 ρ l (acc ++ ys) s3 else none
      else comp2 ρ l acc s1

/-! ### new lists -/
def OpL2 (K : Fg) (r : R2) (g : D → D → Option (List D)) : Prop := ∀ x y l, g x y = some l → ∀ w s F H v u Q, Sub F H → DOk w s F H → Rep K w F x v → Rep K w F y u →
  (∀ p vs, H p = none → Reps K w F l vs → Q (.ref p) (upd H p (.lst vs))) → r v u H Q
def OpLA (K : Fg) (r : List V → Hp → VK → Prop) (g : List D → Option (List D)) : Prop := ∀ x l, g x = some l → ∀ w s F H v Q, Sub F H → DOk w s F H → Reps K w F x v →
  (∀ p vs, H p = none → Reps K w F l vs → Q (.ref p) (upd H p (.lst vs))) → r v H Q
def lBin (g : D → D → Option (List D)) (fa fb : DE) : DA := fun ρ s => bnd (fa ρ s) fun x s1 => bnd (fb ρ s1) fun y s2 => lft (g x y) s2
def lArgs (g : List D → Option (List D)) (fa : DA) : DA := fun ρ s => bnd (fa ρ s) fun x s1 => lft (g x) s1
theorem ul_end {K : Fg} {w : Wd} {F H F1 H1 : Hp} {s : S} {l : List D} {vs : List V} {p : Addr} {Q : VK} (p1 : Post w F H F1 H1) (k1 : DOk w s F1 H1) (hp : H1 p = none) (r : Reps K w F1 l vs)
    (k : ∀ a vs F' H', Post w F H F' H' → DOk w s F' H' → F' a = none → H a = none → a ∉ dcells w → H' a = some (.lst vs) → Reps K w F' l vs → Q (.ref a) H') : Q (.ref p) (upd H1 p (.lst vs)) :=
  k p vs F1 _ (p1.trans (.made p1.inn hp)) (k1.made (k1.fresh hp)) (p1.free hp) (p1.dom p hp) (k1.fresh hp) upd_same r
theorem l_op {a b : Expr} {fb : DE} {pos : Pos} {op : Operator} {r : R2} {g : D → D → Option (List D)} (ho : OpR X (binaryOp op) r) (h : OpL2 X.K r g) (ha : RefE X a fe) (hb : RefE X b fb) : RefL X (.BinOp a op b pos) (lBin g fe fb) := pe_weak (pe_op ho ha hb) fun σ H Q ⟨ρ, s, d, s', w, F, e, a, k⟩ => by
  obtain ⟨x, s1, e1, e⟩ := bnd_eq e
  obtain ⟨y, s2, e2, e⟩ := bnd_eq e
  obtain ⟨e3, rfl⟩ := lft_eq e
  refine ⟨ρ, s, x, s1, w, F, e1, a, fun v F1 H1 p1 k1 r1 => ⟨ρ, s1, y, s', w, F1, e2, a.next p1 k1, fun u F2 H2 p2 k2 r2 => ?_⟩⟩
  exact h x y d e3 w s' F2 H2 v u Q p2.inn k2 (r1.mono p2.ex) r2 fun p vs hp rs => ul_end (p1.trans p2) k2 hp rs k
def catL : D → D → Option (List D)
  | .lst l, .lst m => if l.length + m.length ≤ lim then some (l ++ m) else none
  | _, _ => none
theorem opl_cat {K : Fg} : OpL2 K rCat catL := fun x y l e w s F H v u Q hs k r1 r2 q => by
  unfold catL at e
  split at e
  · next l m =>
    split at e
    · next hz =>
      cases e
      obtain ⟨a, xs, rfl, h2, h3⟩ := r1
      obtain ⟨b, ys, rfl, k2, k3⟩ := r2
      exact ⟨a, b, xs, ys, rfl, rfl, hs _ _ h2, hs _ _ k2, lim_le (by rw [h3.length, k3.length]; exact hz), fun p hp => q p _ hp (h3.append k3)⟩
    · cases e
  · cases e
theorem l_cat {a b : Expr} {fb : DE} {pos : Pos} (ha : RefE X a fe) (hb : RefE X b fb) : RefL X (.BinOp a .Add b pos) (lBin catL fe fb) := l_op op_cat opl_cat ha hb
def repL : D → D → Option (List D)
  | .lst l, .int n => if l.length * n.toNat ≤ lim ∧ -(2 ^ 63) ≤ n ∧ n < 2 ^ 63 then some (List.replicate n.toNat l).flatten else none
  | _, _ => none
theorem Reps.rep {K : Fg} {w : Wd} {F : Hp} {l : List D} {vs : List V} (h : Reps K w F l vs) : ∀ n : Nat, Reps K w F (List.replicate n l).flatten (List.replicate n vs).flatten
  | 0 => rfl
  | n + 1 => by
    rw [List.replicate_succ, List.replicate_succ, List.flatten_cons, List.flatten_cons]
    exact h.append (Reps.rep h n)
theorem opl_rep {K : Fg} : OpL2 K rRep repL := fun x y l e w s F H v u Q hs k r1 r2 q => by
  unfold repL at e
  split at e
  · next l n =>
    split at e
    · next hz =>
      cases e
      obtain ⟨a, xs, rfl, h2, h3⟩ := r1
      cases r2
      exact ⟨a, n, xs, rfl, rfl, hs _ _ h2, hz.2.1, hz.2.2, lim_le (by rw [h3.length]; exact hz.1), fun p hp => q p _ hp (h3.rep _)⟩
    · cases e
  · cases e
theorem l_rep {a b : Expr} {fb : DE} {pos : Pos} (ha : RefE X a fe) (hb : RefE X b fb) : RefL X (.BinOp a .Mult b pos) (lBin repL fe fb) := l_op op_rep opl_rep ha hb
/-! slices -/
abbrev DO := Env → S → Option (Option Int × S)
def tUO (K : Fg) (f : DO) : TO := fun σ H Q => ∃ ρ s d s' w F, f ρ s = some (d, s') ∧ At K w F H ρ σ s ∧ ∀ F' H', Post w F H F' H' → DOk w s' F' H' → Q d H'
abbrev RefO (X : Cx) (e : Option Expr) (f : DO) : Prop := PO X e (tUO X.K f)
theorem po_weak {e : Option Expr} {t t' : TO} (h : PO X e t) (k : ∀ σ H Q, t' σ H Q → t σ H Q) : PO X e t' := ⟨fun pins s σ H Q I q => h.run pins s σ H Q I (k σ H Q q)⟩
def oNone : DO := fun _ s => some (none, s)
def oSome (f : DE) : DO := fun ρ s => bnd (f ρ s) fun d s1 => match d with
  | .int i => some (some i, s1)
  | _ => none
theorem o_none : RefO X none oNone := po_weak po_none fun σ H Q ⟨ρ, s, d, s', w, F, e, a, k⟩ => by cases e; exact k F H (.refl a.inn) a.dok
theorem o_some {e : Expr} (h : RefE X e fe) : RefO X (some e) (oSome fe) := po_weak (po_some h) fun σ H Q ⟨ρ, s, d, s', w, F, e, a, k⟩ => by
  obtain ⟨x, s1, e1, e⟩ := bnd_eq e
  split at e
  · next i => cases e; exact ⟨ρ, s, _, _, w, F, e1, a, fun v F1 H1 p1 k1 r1 => ⟨i, r1, k F1 H1 p1 k1⟩⟩
  · cases e
def cutD (l : List D) (lo hi : Option Int) : List D := (l.drop (HT.sIx l.length 0 lo)).take (HT.sIx l.length l.length hi - HT.sIx l.length 0 lo)
theorem Reps.cut {K : Fg} {w : Wd} {F : Hp} {l : List D} {vs : List V} (h : Reps K w F l vs) (lo hi : Option Int) : Reps K w F (cutD l lo hi) (cutV vs lo hi) := by
  unfold cutD cutV
  rw [h.length]
  exact (h.drop _).take _
/-- a list's part; the script's, too -/
def lCut (f : DE) (lo hi : DO) : DA := fun ρ s => bnd (f ρ s) fun d s1 => bnd (lo ρ s1) fun a s2 => bnd (hi ρ s2) fun b s3 => match d with
  | .lst l => some (cutD l a b, s3)
  | .scr l => some (cutD (l.map D.int) a b, s3)
  | _ => none
theorem l_cut {e : Expr} {lo hi : Option Expr} {fl fh : DO} {p2 pos : Pos} (he : RefE X e fe) (hl : RefO X lo fl) (hh : RefO X hi fh) : RefL X (.Subscript e (.Slice lo hi none p2) pos) (lCut fe fl fh) := pe_weak (pe_slice sl_list he hl hh) fun σ H Q ⟨ρ, s, d, s', w, F, e, a, k⟩ => by
  obtain ⟨x, s1, e1, e⟩ := bnd_eq e
  obtain ⟨i, s2, e2, e⟩ := bnd_eq e
  obtain ⟨j, s3, e3, e⟩ := bnd_eq e
  refine ⟨ρ, s, x, s1, w, F, e1, a, fun v F1 H1 p1 k1 r1 => ⟨ρ, s1, i, s2, w, F1, e2, a.next p1 k1, fun F2 H2 p2 k2 => ⟨ρ, s2, j, s3, w, F2, e3, (a.next p1 k1).next p2 k2, fun F3 H3 p3 k3 => ?_⟩⟩⟩
  cases x with
  | lst l =>
    have e' : some (cutD l i j, s3) = some (d, s') := e
    cases e'
    obtain ⟨b, vs, rfl, h2, h3⟩ := r1
    exact ⟨b, vs, rfl, .of (p3.inn _ _ (p3.ex _ _ (p2.ex _ _ h2))), fun p hp => ul_end ((p1.trans p2).trans p3) k3 hp ((h3.mono (p2.ex.trans p3.ex)).cut i j) k⟩
  | scr l =>
    have e' : some (cutD (l.map D.int) i j, s3) = some (d, s') := e
    cases e'
    obtain ⟨b, rfl, h2⟩ := r1
    exact ⟨b, l.map V.int, rfl, p3.inn.sql (p3.ex.sql (p2.ex.sql h2)), fun p hp => ul_end ((p1.trans p2).trans p3) k3 hp ((Reps.of_ints l).cut i j) k⟩
  | _ => cases e
/-- xs[::-1] -/
def lRev (f : DE) : DA := fun ρ s => bnd (f ρ s) fun d s1 => match d with
  | .lst l => some (l.reverse, s1)
  | _ => none
theorem l_rev {e : Expr} {k : Nat} {p1 p2 p3 pos : Pos} (he : RefE X e fe) : RefL X (.Subscript e (.Slice none none (some (.UnaryOp .USub (.Constant (.int 1) k p1) p2)) p3) pos) (lRev fe) := pe_weak (pe_revL he) fun σ H Q ⟨ρ, s, d, s', w, F, e, a, k⟩ => by
  obtain ⟨x, s1, e1, e⟩ := bnd_eq e
  refine ⟨ρ, s, x, s1, w, F, e1, a, fun v F1 H1 p1 k1 r1 => ?_⟩
  split at e
  · next l =>
    cases e
    obtain ⟨b, vs, rfl, h2, h3⟩ := r1
    exact ⟨b, vs, rfl, .of (p1.inn _ _ h2), fun p hp => ul_end p1 k1 hp h3.reverse k⟩
  · cases e
/-- a tuple's part -/
def dCutT (f : DE) (lo hi : DO) : DE := fun ρ s => bnd (f ρ s) fun d s1 => bnd (lo ρ s1) fun a s2 => bnd (hi ρ s2) fun b s3 => match d with
  | .tup l => some (.tup (cutD l a b), s3)
  | _ => none
theorem r_cutT {e : Expr} {lo hi : Option Expr} {fl fh : DO} {p2 pos : Pos} (he : RefE X e fe) (hl : RefO X lo fl) (hh : RefO X hi fh) : RefE X (.Subscript e (.Slice lo hi none p2) pos) (dCutT fe fl fh) := pe_weak (pe_slice sl_tupA he hl hh) fun σ H Q ⟨ρ, s, d, s', w, F, e, a, k⟩ => by
  obtain ⟨x, s1, e1, e⟩ := bnd_eq e
  obtain ⟨i, s2, e2, e⟩ := bnd_eq e
  obtain ⟨j, s3, e3, e⟩ := bnd_eq e
  refine ⟨ρ, s, x, s1, w, F, e1, a, fun v F1 H1 p1 k1 r1 => ⟨ρ, s1, i, s2, w, F1, e2, a.next p1 k1, fun F2 H2 p2 k2 => ⟨ρ, s2, j, s3, w, F2, e3, (a.next p1 k1).next p2 k2, fun F3 H3 p3 k3 => ?_⟩⟩⟩
  split at e
  · next l =>
    cases e
    obtain ⟨b, vs, rfl, h2, h3⟩ := r1
    have h3' := h3.mono (p2.ex.trans p3.ex)
    have h2' := p3.ex.sqt (p2.ex.sqt h2)
    have pp := (p1.trans p2).trans p3
    refine ⟨b, vs, rfl, p3.inn.sqt h2', fun hw => k _ F3 H3 pp k3 ⟨b, vs, rfl, h2', ?_⟩, fun _ p hp => ?_⟩
    · have z := h3'.cut i j
      have : cutV vs i j = vs := by
        unfold cutV
        rw [hw.1, hw.2]
        simp
      rw [this] at z
      exact z
    · have q := Post.laid (w := w) (o := .tup (cutV vs i j)) pp.inn hp
      exact k _ _ _ (pp.trans q) (k3.laid hp) ⟨p, _, rfl, .of upd_same, (h3'.cut i j).mono q.ex⟩
  · cases e

/-! ### built-ins by name -/
def dArgs (g : List D → Option D) (fa : DA) : DE := fun ρ s => bnd (fa ρ s) fun x s1 => lft (g x) s1
theorem tU_cb {K : Fg} {r : List V → Hp → VK → Prop} {g : List D → Option D} (h : OpA K r g) : ∀ σ H Q, tU K (dArgs g fa) σ H Q → tCB r (tUA K fa) σ H Q := fun σ H Q ⟨ρ, s, d, s', w, F, e, a, k⟩ => by
  obtain ⟨x, s1, e1, e⟩ := bnd_eq e
  obtain ⟨e3, rfl⟩ := lft_eq e
  exact ⟨ρ, s, x, _, w, F, e1, a, fun v F1 H1 p1 k1 r1 => h x d e3 w _ F1 H1 v Q p1.inn k1 r1 fun z F2 H2 p2 k2 r2 => k z F2 H2 (p1.trans p2) k2 r2⟩
theorem tUL_cb {K : Fg} {r : List V → Hp → VK → Prop} {g : List D → Option (List D)} (h : OpLA K r g) : ∀ σ H Q, tUL K (lArgs g fa) σ H Q → tCB r (tUA K fa) σ H Q := fun σ H Q ⟨ρ, s, d, s', w, F, e, a, k⟩ => by
  obtain ⟨x, s1, e1, e⟩ := bnd_eq e
  obtain ⟨e3, rfl⟩ := lft_eq e
  exact ⟨ρ, s, x, _, w, F, e1, a, fun v F1 H1 p1 k1 r1 => h x d e3 w _ F1 H1 v Q p1.inn k1 r1 fun p vs hp rs => ul_end p1 k1 hp rs k⟩
theorem r_cb {e : Expr} {r : List V → Hp → VK → Prop} {g : List D → Option D} (h : OpA X.K r g) (c : PE X e (tCB r (tUA X.K fa))) : RefE X e (dArgs g fa) := pe_weak c (tU_cb h)
theorem l_cb {e : Expr} {r : List V → Hp → VK → Prop} {g : List D → Option (List D)} (h : OpLA X.K r g) (c : PE X e (tCB r (tUA X.K fa))) : RefL X e (lArgs g fa) := pe_weak c (tUL_cb h)
/-- one argument -/
def g1 (f : D → Option D) : List D → Option D
  | [x] => f x
  | _ => none
def gL1 (f : D → Option (List D)) : List D → Option (List D)
  | [x] => f x
  | _ => none
theorem reps1 {K : Fg} {w : Wd} {F : Hp} {d : D} {vs : List V} (h : Reps K w F [d] vs) : ∃ v, vs = [v] ∧ Rep K w F d v := by
  obtain ⟨v, r, rfl, h2, rfl⟩ := h
  exact ⟨v, rfl, h2⟩
theorem reps2 {K : Fg} {w : Wd} {F : Hp} {d d' : D} {vs : List V} (h : Reps K w F [d, d'] vs) : ∃ v v', vs = [v, v'] ∧ Rep K w F d v ∧ Rep K w F d' v' := by
  obtain ⟨v, r, rfl, h2, v', r', rfl, h3, rfl⟩ := h
  exact ⟨v, v', rfl, h2, h3⟩
theorem opA1 {K : Fg} {r : List V → Hp → VK → Prop} {f : D → Option D} (h : ∀ x d, f x = some d → ∀ w s F H v Q, Sub F H → DOk w s F H → Rep K w F x v → (∀ z F' H', Post w F H F' H' → DOk w s F' H' → Rep K w F' d z → Q z H') → r [v] H Q) : OpA K r (g1 f) := fun x d e w s F H v Q hs k rs q => by
  unfold g1 at e
  split at e
  · next x =>
    obtain ⟨v, rfl, r1⟩ := reps1 rs
    exact h x d e w s F H v Q hs k r1 q
  · cases e
theorem opLA1 {K : Fg} {r : List V → Hp → VK → Prop} {f : D → Option (List D)} (h : ∀ x d, f x = some d → ∀ w s F H v Q, Sub F H → DOk w s F H → Rep K w F x v → (∀ p vs, H p = none → Reps K w F d vs → Q (.ref p) (upd H p (.lst vs))) → r [v] H Q) : OpLA K r (gL1 f) := fun x d e w s F H v Q hs k rs q => by
  unfold gL1 at e
  split at e
  · next x =>
    obtain ⟨v, rfl, r1⟩ := reps1 rs
    exact h x d e w s F H v Q hs k r1 q
  · cases e
def lenD : D → Option D
  | .lst l => some (.int l.length)
  | .tup l => some (.int l.length)
  | _ => none
theorem opA_len {K : Fg} : OpA K (fun xs H Q => ∃ p ys, xs = [.ref p] ∧ (SqL K H p ys ∨ SqT K H p ys) ∧ Q (.int ys.length) H) (g1 lenD) := opA1 fun x d e w s F H v Q hs k r q => by
  unfold lenD at e
  split at e
  · next l =>
    cases e
    obtain ⟨a, vs, rfl, h2, h3⟩ := r
    exact ⟨a, vs, rfl, .inl (.of (hs _ _ h2)), q _ F H (.refl hs) k (by show V.int vs.length = V.int l.length; rw [h3.length])⟩
  · next l =>
    cases e
    obtain ⟨a, vs, rfl, h2, h3⟩ := r
    exact ⟨a, vs, rfl, .inr (hs.sqt h2), q _ F H (.refl hs) k (by show V.int vs.length = V.int l.length; rw [h3.length])⟩
  · cases e
def absD : D → Option D
  | .int i => some (.int (if i < 0 then -i else i))
  | _ => none
theorem opA_abs {K : Fg} : OpA K (fun xs H Q => ∃ i, xs = [.int i] ∧ Q (.int (if i < 0 then -i else i)) H) (g1 absD) := opA1 fun x d e w s F H v Q hs k r q => by
  unfold absD at e
  split at e
  · next i => cases e; cases r; exact ⟨i, rfl, q _ F H (.refl hs) k rfl⟩
  · cases e
def intD : D → Option D
  | .int i => some (.int i)
  | .bl b => some (.int (if b then 1 else 0))
  | _ => none
theorem opA_int {K : Fg} : OpA K (fun xs H Q => (∃ i, xs = [.int i] ∧ Q (.int i) H) ∨ ∃ k, xs = [.bl k] ∧ Q (.int (if k then 1 else 0)) H) (g1 intD) := opA1 fun x d e w s F H v Q hs k r q => by
  unfold intD at e
  split at e
  · next i => cases e; cases r; exact .inl ⟨i, rfl, q _ F H (.refl hs) k rfl⟩
  · next b => cases e; cases r; exact .inr ⟨b, rfl, q _ F H (.refl hs) k rfl⟩
  · cases e
def sumD : D → Option D
  | .lst l => (intsD l).map fun ns => .int ns.sum
  | _ => none
theorem opA_sum {K : Fg} : OpA K (rSum K) (g1 sumD) := opA1 fun x d e w s F H v Q hs k r q => by
  unfold sumD at e
  split at e
  · next l =>
    obtain ⟨ns, e1, e2⟩ := Option.map_eq_some_iff.mp e
    subst e2
    have z := intsD_eq e1
    subst z
    obtain ⟨a, vs, rfl, h2, h3⟩ := r
    have z := h3.ints
    subst z
    exact ⟨a, ns, rfl, .of (hs _ _ h2), q _ F H (.refl hs) k rfl⟩
  · cases e
def tupleD : D → Option D
  | .lst l => some (.tup l)
  | .tup l => some (.tup l)
  | _ => none
theorem opA_tuple {K : Fg} : OpA K (fun xs H Q => ∃ p ys, xs = [.ref p] ∧ ((SqL K H p ys ∧ ∀ l, H l = none → Q (.ref l) (upd H l (.tup ys))) ∨ (SqT K H p ys ∧ Q (.ref p) H))) (g1 tupleD) := opA1 fun x d e w s F H v Q hs k r q => by
  unfold tupleD at e
  split at e
  · next l =>
    cases e
    obtain ⟨a, vs, rfl, h2, h3⟩ := r
    refine ⟨a, vs, rfl, .inl ⟨.of (hs _ _ h2), fun p hp => ?_⟩⟩
    have pp := Post.laid (w := w) (o := .tup vs) hs hp
    exact q _ _ _ pp (k.laid hp) ⟨p, vs, rfl, .of upd_same, h3.mono pp.ex⟩
  · next l =>
    cases e
    obtain ⟨a, vs, rfl, h2, h3⟩ := r
    exact ⟨a, vs, rfl, .inr ⟨hs.sqt h2, q _ F H (.refl hs) k ⟨a, vs, rfl, h2, h3⟩⟩⟩
  · cases e
def listL : D → Option (List D)
  | .lst l => some l
  | .tup l => some l
  | _ => none
theorem opLA_list {K : Fg} : OpLA K (fun xs H Q => ∃ p ys, xs = [.ref p] ∧ (SqL K H p ys ∨ SqT K H p ys) ∧ ∀ l, H l = none → Q (.ref l) (upd H l (.lst ys))) (gL1 listL) := opLA1 fun x d e w s F H v Q hs k r q => by
  unfold listL at e
  split at e
  · next l => cases e; obtain ⟨a, vs, rfl, h2, h3⟩ := r; exact ⟨a, vs, rfl, .inl (.of (hs _ _ h2)), fun p hp => q p vs hp h3⟩
  · next l => cases e; obtain ⟨a, vs, rfl, h2, h3⟩ := r; exact ⟨a, vs, rfl, .inr (hs.sqt h2), fun p hp => q p vs hp h3⟩
  · cases e
/-- sorted of ints: the one ascending arrangement -/
def sortI (ns : List Int) : List Int := ns.mergeSort fun a b => decide (a ≤ b)
theorem sortI_perm (ns : List Int) : (sortI ns).Perm ns := List.mergeSort_perm _ _
theorem sortI_le (ns : List Int) : (sortI ns).Pairwise (· ≤ ·) := by
  have h := List.pairwise_mergeSort (le := fun a b : Int => decide (a ≤ b)) (fun a b c h1 h2 => by simp at *; omega) (fun a b => by simp; omega) ns
  exact h.imp fun h => of_decide_eq_true h
theorem sort_one : ∀ {l m : List Int}, l.Perm m → l.Pairwise (· ≤ ·) → m.Pairwise (· ≤ ·) → l = m
  | [], m, h, _, _ => by rw [List.nil_perm.mp h]
  | x :: l, [], h, _, _ => by cases List.perm_nil.mp h
  | x :: l, y :: m, h, h1, h2 => by
    have hx : x ∈ y :: m := h.subset (List.mem_cons_self ..)
    have hy : y ∈ x :: l := h.symm.subset (List.mem_cons_self ..)
    obtain ⟨p1, p2⟩ := List.pairwise_cons.mp h1
    obtain ⟨q1, q2⟩ := List.pairwise_cons.mp h2
    have e : x = y := by
      rcases List.mem_cons.mp hx with z | z
      · exact z
      · rcases List.mem_cons.mp hy with w | w
        · exact w.symm
        · have := p1 y w; have := q1 x z; omega
    subst e
    rw [sort_one (List.Perm.cons_inv h) p2 q2]
def sortL : D → Option (List D)
  | .lst l => (intsD l).map fun ns => (sortI ns).map .int
  | _ => none
theorem opLA_sorted {K : Fg} : OpLA K (rSortedI K) (gL1 sortL) := opLA1 fun x d e w s F H v Q hs k r q => by
  unfold sortL at e
  split at e
  · next l =>
    obtain ⟨ns, e1, e2⟩ := Option.map_eq_some_iff.mp e
    subst e2
    have z := intsD_eq e1
    subst z
    obtain ⟨a, vs, rfl, h2, h3⟩ := r
    have z := h3.ints
    subst z
    refine ⟨a, ns, rfl, .of (hs _ _ h2), fun ns' p hp hs' hn => ?_⟩
    have z := sort_one (hp.trans (sortI_perm ns).symm) hs' (sortI_le ns)
    subst z
    exact q p _ hn (Reps.of_ints _)
  · cases e
def gcdG : List D → Option D
  | [.int a, .int b] => some (.int (Nat.gcd a.natAbs b.natAbs : Nat))
  | _ => none
theorem opA_gcd {K : Fg} : OpA K rGcd gcdG := fun x d e w s F H v Q hs k rs q => by
  unfold gcdG at e
  split at e
  · next a b =>
    cases e
    obtain ⟨v, v', rfl, r1, r2⟩ := reps2 rs
    cases r1
    cases r2
    exact ⟨a, b, rfl, q _ F H (.refl hs) k rfl⟩
  · cases e
def max2G : List D → Option D
  | [.int a, .int b] => some (.int (if b > a then b else a))
  | _ => none
def min2G : List D → Option D
  | [.int a, .int b] => some (.int (if b < a then b else a))
  | _ => none
theorem opA_max2 {K : Fg} : OpA K (fun xs H Q => ∃ i j, xs = [.int i, .int j] ∧ Q (.int (if j > i then j else i)) H) max2G := fun x d e w s F H v Q hs k rs q => by
  unfold max2G at e
  split at e
  · next a b =>
    cases e
    obtain ⟨v, v', rfl, r1, r2⟩ := reps2 rs
    cases r1
    cases r2
    exact ⟨a, b, rfl, q _ F H (.refl hs) k rfl⟩
  · cases e
theorem opA_min2 {K : Fg} : OpA K (fun xs H Q => ∃ i j, xs = [.int i, .int j] ∧ Q (.int (if j < i then j else i)) H) min2G := fun x d e w s F H v Q hs k rs q => by
  unfold min2G at e
  split at e
  · next a b =>
    cases e
    obtain ⟨v, v', rfl, r1, r2⟩ := reps2 rs
    cases r1
    cases r2
    exact ⟨a, b, rfl, q _ F H (.refl hs) k rfl⟩
  · cases e
/-! isinstance -/
def tyN : D → Option String
  | .non => some "NoneType"
  | .bl _ => some "bool"
  | .int _ => some "int"
  | .str _ => some "str"
  | .tup _ => some "tuple"
  | .lst _ => some "list"
  | _ => none
def isiG : List D → Option D
  | [x, .ty n] => match tyN x with
    | some t => (kitB t n).map .bl
    | none => none
  | _ => none
theorem tyx_of {K : Fg} {w : Wd} {F H : Hp} {x : D} {t : String} {v : V} (hs : Sub F H) (e : tyN x = some t) (r : Rep K w F x v) : TyX K H v (.type t) := by
  cases x <;> cases e
  · cases r; exact .base .non
  · cases r; exact .base (.bl _)
  · cases r; exact .base (.int _)
  · cases r; exact .base (.str _)
  · obtain ⟨a, vs, rfl, h2, h3⟩ := r
    rcases hs.sqt h2 with (h | ⟨o, h⟩) | h
    · exact .base (.tup h)
    · exact .fTuple h
    · obtain ⟨o, its, n, h1, h4, _⟩ := h
      exact .kTuple h1 h4
  · obtain ⟨a, vs, rfl, h2, h3⟩ := r
    exact .base (.lst (hs _ _ h2))
theorem opA_isi {K : Fg} : OpA K (rIsi K) isiG := fun x d e w s F H v Q hs k rs q => by
  unfold isiG at e
  split at e
  · next x n =>
    split at e
    · next t et =>
      obtain ⟨b, e1, e2⟩ := Option.map_eq_some_iff.mp e
      subst e2
      obtain ⟨v, v', rfl, r1, r2⟩ := reps2 rs
      cases r2
      exact ⟨v, .ty n, .type t, .type n, b, rfl, .ty n, tyx_of hs et r1, kit_ty e1, q _ F H (.refl hs) k rfl⟩
    · cases e
  · cases e
theorem r_ty {x : Str} {n : String} {pos : Pos} (hg : Gl X x) (hm : X.mg x = none) (hv : bootBuiltins x = some (.type n)) (hn : x ≠ "__name__" := by decide) (hd : (x == ("__debug__" : Str)) = false := by decide) : RefE X (.Name x pos) (dC (.ty n)) := r_c (pe_bltn (v := .ty n) hg hm hv rfl hn hd) fun _ _ _ => rfl

/-! ### defs and their calls -/
def spOf (K : Fg) (n : Nat) (G : List D → S → Option (D × S)) : Sp := fun vs H Q _ => ∃ w F s ds d s', ds.length = n ∧ G ds s = some (d, s') ∧ Reps K w F ds vs ∧ Sub F H ∧ DOk w s F H ∧ ∀ v F' H', Post w F H F' H' → DOk w s' F' H' → Rep K w F' d v → Q v H'
structure Fn (P : Program) (wd : World) (K : Fg) (mg : Str → Option Value) (base : Heap) (k : Nat) (x : Str) (ps : List Str) (G : List D → S → Option (D × S)) : Prop where
  ex : ∃ (f : Addr) (fd : FuncData), FnOk P wd K mg base CX0 k f fd ps (spOf K ps.length G) ∧ mg x = some (.ref f) ∧ PySem.W.keepIn K (.ref f) = true ∧ Binds K fd ps []
/-- .. and may be called by names, the last parameters in order -/
def KwOk (fd : FuncData) (ps : List Str) : Prop := ∀ (s : Shared) (us ws : List Value), us.length + ws.length = ps.length → BindsTo s fd ⟨us, (ps.drop us.length).zip ws⟩ (ps.zip (us ++ ws))
structure FnK (P : Program) (wd : World) (K : Fg) (mg : Str → Option Value) (base : Heap) (k : Nat) (x : Str) (ps : List Str) (G : List D → S → Option (D × S)) : Prop where
  ex : ∃ (f : Addr) (fd : FuncData), FnOk P wd K mg base CX0 k f fd ps (spOf K ps.length G) ∧ mg x = some (.ref f) ∧ PySem.W.keepIn K (.ref f) = true ∧ Binds K fd ps [] ∧ KwOk fd ps
section
variable {P : Program} {wd : World} {K : Fg} {mg : Str → Option Value} {base : Heap} {k j : Nat} {x : Str} {ps : List Str} {G G' : List D → S → Option (D × S)}
theorem FnK.fn (h : FnK P wd K mg base k x ps G) : Fn P wd K mg base k x ps G := by
  obtain ⟨f, fd, h1, h2, h3, h4, _⟩ := h.ex
  exact ⟨f, fd, h1, h2, h3, h4⟩
theorem imp_of {l : List Str} (e : ∀ l s r, G' l s = some r → G l s = some r) : ∀ vs H Q E, spOf K l.length G' vs H Q E → spOf K l.length G vs H Q E := fun vs H Q E ⟨w, F, s, ds, d, s', a, b, c⟩ => ⟨w, F, s, ds, d, s', a, e _ _ _ b, c⟩
theorem Fn.weak (h : Fn P wd K mg base k x ps G) (e : ∀ l s r, G' l s = some r → G l s = some r) : Fn P wd K mg base k x ps G' := by
  obtain ⟨f, fd, h1, h2⟩ := h.ex
  exact ⟨f, fd, h1.imp (imp_of e), h2⟩
theorem FnK.weak (h : FnK P wd K mg base k x ps G) (e : ∀ l s r, G' l s = some r → G l s = some r) : FnK P wd K mg base k x ps G' := by
  obtain ⟨f, fd, h1, h2⟩ := h.ex
  exact ⟨f, fd, h1.imp (imp_of e), h2⟩
theorem Fn.up (h : Fn P wd K mg base k x ps G) (e : k ≤ j) : Fn P wd K mg base j x ps G := by
  obtain ⟨f, fd, h1, h2⟩ := h.ex
  exact ⟨f, fd, h1.mono e, h2⟩
end
def dCall (G : List D → S → Option (D × S)) (fa : DA) : DE := fun ρ s => bnd (fa ρ s) fun l s1 => G l s1
theorem r_call {k j : Nat} {x : Str} {ps : List Str} {G : List D → S → Option (D × S)} {p pos : Pos} {e : Expr} {es : List Expr} (F : Fn X.prog X.w X.K X.mg X.base k x ps G) (hr : Room j X.A) (hk : k ≤ j) (hg : Gl X x) (ha : RefA X (e :: es) fa) (hl : (e :: es).length = ps.length)
    (hln : ∀ ρ s l s', fa ρ s = some (l, s') → l.length = ps.length) (hdb : (x == ("__debug__" : Str)) = false := by decide) (he : starEach (e :: es) X.env = (false, eval e X.env) :: starEach es X.env := by rfl) (hpl : (backTo pos (starEach es X.env)).any (·.1) = false := by rfl) : RefE X (.Call (.Name x p) (e :: es) [] pos) (dCall G fa) := by
  obtain ⟨f, fd, h1, h2, h3, h4⟩ := F.ex
  refine pe_weak (pe_call h1 (hr.mono hk) hg h2 h3 h4 .nil pass0 ha hdb he hpl) fun σ H Q ⟨ρ, s, d, s', w, F, e, a, k⟩ => ?_
  obtain ⟨l, s1, e1, e⟩ := bnd_eq e
  refine ⟨ρ, s, l, s1, w, F, e1, a, fun vs F1 H1 p1 k1 r1 => ⟨w, F1, s1, l, d, s', hln _ _ _ _ e1, e, by rw [List.append_nil]; exact r1, p1.inn, k1, fun v F2 H2 p2 k2 r2 => k v F2 H2 (p1.trans p2) k2 r2⟩⟩
theorem r_call0 {k j : Nat} {x : Str} {G : List D → S → Option (D × S)} {p pos : Pos} (F : Fn X.prog X.w X.K X.mg X.base k x [] G) (hr : Room j X.A) (hk : k ≤ j) (hg : Gl X x) (hdb : (x == ("__debug__" : Str)) = false := by decide) : RefE X (.Call (.Name x p) [] [] pos) (dCall G dNil) := by
  obtain ⟨f, fd, h1, h2, h3, h4⟩ := F.ex
  refine pe_weak (pe_call0 h1 (hr.mono hk) hg h2 h3 h4 .nil pass0 hdb) fun σ H Q ⟨ρ, s, d, s', w, F, e, a, k⟩ => ?_
  exact ⟨w, F, s, [], d, s', rfl, e, rfl, a.inn, a.dok, k⟩
theorem dCons_len {n : Nat} {fe : DE} (h : ∀ ρ s l s', fa ρ s = some (l, s') → l.length = n) : ∀ ρ s l s', dCons fe fa ρ s = some (l, s') → l.length = n + 1 := fun ρ s l s' e => by
  obtain ⟨x, s1, e1, e⟩ := bnd_eq e
  obtain ⟨y, s2, e2, e⟩ := bnd_eq e
  cases e
  rw [List.length_cons, h _ _ _ _ e2]
theorem dNil_len : ∀ (ρ : Env) (s : S) l s', dNil ρ s = some (l, s') → l.length = 0 := fun ρ s l s' e => by cases e; rfl
/-- the body's end, as a call's -/
def dDef (n : Nat) (f : DS) (l : List D) (s : S) : Option (D × S) := match f ((l.map Sl.v) ++ List.replicate (n - l.length) .none) s with
  | some (.rt d, s') => some (d, s')
  | some (.nx _, s') => some (.non, s')
  | _ => none
theorem start_inv {K : Fg} {w : Wd} {F H : Hp} {N : List Str} {ds : List D} {vs : List V} {s : S} (r : Reps K w F ds vs) (hs : Sub F H) (k : DOk w s F H) : SInv K w F F H ((ds.map Sl.v) ++ List.replicate (N.length - ds.length) .none) (L2.start N vs) s F H := by
  have nown : ∀ (i : Nat) (l : List D), ((ds.map Sl.v) ++ List.replicate (N.length - ds.length) Sl.none)[i]? ≠ some (.own l) := fun i l e => by
    have := List.mem_of_getElem? e
    rcases List.mem_append.mp this with z | z
    · obtain ⟨_, _, q⟩ := List.mem_map.mp z; cases q
    · have := List.eq_of_mem_replicate z; cases this
  refine ⟨.refl hs, k, fun i d e => ?_, fun i l e => absurd e (nown i l), fun i j l m a _ e _ _ _ => nown i l e, ?_, .refl F⟩
  · by_cases hi : i < ds.length
    · rw [List.getElem?_append_left (by simpa using hi), List.getElem?_map] at e
      cases q : ds[i]? with
      | none => rw [q] at e; cases e
      | some d' =>
        rw [q] at e
        cases e
        obtain ⟨v, h1, h2⟩ := r.get q
        refine ⟨v, ?_, h2⟩
        unfold L2.start
        rw [List.getElem?_append_left (by simp [r.length, hi]), List.getElem?_map, h1]
        rfl
    · rw [List.getElem?_append_right (by simpa using hi)] at e
      have := List.eq_of_mem_replicate (List.mem_of_getElem? e)
      cases this
  · unfold L2.start
    rw [List.length_append, List.length_append, List.length_map, List.length_map, List.length_replicate, List.length_replicate, r.length]
/-- f(e, .., k = v, ..): the last parameters by their names, in order -/
def dCallK (G : List D → S → Option (D × S)) (fa fk : DA) : DE := fun ρ s => bnd (fa ρ s) fun l s1 => bnd (fk ρ s1) fun m s2 => G (l ++ m) s2
theorem r_callK {k j n : Nat} {x : Str} {ps ks : List Str} {G : List D → S → Option (D × S)} {fk : DA} {p pos : Pos} {e : Expr} {es : List Expr} {kws : List Keyword} (F : FnK X.prog X.w X.K X.mg X.base k x ps G) (hr : Room j X.A) (hk : k ≤ j) (hg : Gl X x) (ha : RefA X (e :: es) fa) (hkw : RefK X kws fk)
    (hl : (e :: es).length = n) (hks0 : ks = ps.drop n) (hle : n ≤ ps.length) (hln : ∀ ρ s l s', fa ρ s = some (l, s') → l.length = n) (hlk : ∀ ρ s l s', fk ρ s = some (l, s') → l.length = ks.length)
    (hall : (backToKw pos (keywordEach kws X.env)).all (·.1.isSome) = true := by rfl) (hks : (backToKw pos (keywordEach kws X.env)).filterMap (·.1) = ks := by rfl)
    (hdb : (x == ("__debug__" : Str)) = false := by decide) (he : starEach (e :: es) X.env = (false, eval e X.env) :: starEach es X.env := by rfl)
    (hpl : ((backTo pos (starEach (e :: es) X.env)).any (·.1) || (backToKw pos (keywordEach kws X.env)).any (·.1.isNone)) = false := by rfl) : RefE X (.Call (.Name x p) (e :: es) kws pos) (dCallK G fa fk) := by
  obtain ⟨f, fd, h1, h2, h3, h4, h5⟩ := F.ex
  refine ⟨fun pins s0 σ H Q I ⟨ρ, s, d, s', w, F, e, a, k⟩ => ?_⟩
  obtain ⟨l, s1, e1, e⟩ := bnd_eq e
  obtain ⟨m, s2, e2, e⟩ := bnd_eq e
  refine wpAny_Call_Name_kw (ld_glob I hg h2 ?_ hdb)
  refine PySem.W.callWith_KW (h₀ := X.base) I.ok.mod.kin h3 hall (thn (ha.run pos pins s0 σ H (fun vs H1 => vs.length = n ∧ ∃ F1, Post w F H F1 H1 ∧ DOk w s1 F1 H1 ∧ Reps X.K w F1 l vs) I ⟨ρ, s, l, s1, w, F, e1, a, fun vs F1 H1 p1 k1 r1 => ⟨by rw [r1.length]; exact hln _ _ _ _ e1, F1, p1, k1, r1⟩⟩) fun us s3 ⟨vs, H1, I1, r, l1, F1, p1, k1, r1⟩ => ?_) hpl he
  refine thn (hkw.run pos pins s3 σ H1 (fun zs H2 => zs.length = ks.length ∧ ∃ F2, Post w F1 H1 F2 H2 ∧ DOk w s2 F2 H2 ∧ Reps X.K w F2 m zs) I1 ⟨ρ, s1, m, s2, w, F1, e2, a.next p1 k1, fun zs F2 H2 p2 k2 r2 => ⟨by rw [r2.length]; exact hlk _ _ _ _ e2, F2, p2, k2, r2⟩⟩) fun ws s4 ⟨zs, H2, I2, rz, l2, F2, p2, k2, r2⟩ => ⟨I2.kIn, ?_⟩
  rw [hks]
  have z1 := r.length
  have z2 := rz.length
  have hlen : us.length + ws.length = ps.length := by
    rw [← z1, ← z2, l1, l2, hks0, List.length_drop]; omega
  have rr : Vals (vs ++ zs) (us ++ ws) := r.append rz
  have hb := h5 s4 us ws hlen
  have hu : us.length = n := by rw [← z1]; exact l1
  rw [hu, ← hks0] at hb
  have hds : (l ++ m).length = ps.length := by
    have := rr.length
    rw [List.length_append, List.length_append] at this
    rw [List.length_append, ← r1.length, ← r2.length, this, hlen]
  refine wpAny_call (codeAny_mono (h1.run X.A X.stack s4 H2 ⟨us, ks.zip ws⟩ (us ++ ws) (vs ++ zs) Q (fun _ _ _ => False) (hr.mono hk) I2.env0 hb rr ⟨w, F2, s2, l ++ m, d, s', hds, e, (r1.mono p2.ex).append r2, p2.inn, k2, fun v F3 H3 p3 k3 r3 => k v F3 H3 ((p1.trans p2).trans p3) k3 r3⟩) fun r s' hq => ?_)
  cases r with
  | error e => exact False.elim hq
  | ok fl =>
    cases fl with
    | ret u => exact I2.after hq
    | next => exact False.elim hq
    | brk => exact False.elim hq
    | cont => exact False.elim hq
/-- f(k = v, ..) -/
theorem r_callK0 {k j : Nat} {x : Str} {ps : List Str} {G : List D → S → Option (D × S)} {fk : DA} {p pos : Pos} {kws : List Keyword} (F : FnK X.prog X.w X.K X.mg X.base k x ps G) (hr : Room j X.A) (hk : k ≤ j) (hg : Gl X x) (hkw : RefK X kws fk)
    (hlk : ∀ ρ s l s', fk ρ s = some (l, s') → l.length = ps.length)
    (hall : (backToKw pos (keywordEach kws X.env)).all (·.1.isSome) = true := by rfl) (hks : (backToKw pos (keywordEach kws X.env)).filterMap (·.1) = ps := by rfl)
    (hdb : (x == ("__debug__" : Str)) = false := by decide)
    (hpl : ((backTo pos (starEach [] X.env)).any (·.1) || (backToKw pos (keywordEach kws X.env)).any (·.1.isNone)) = false := by rfl) : RefE X (.Call (.Name x p) [] kws pos) (dCall G fk) := by
  obtain ⟨f, fd, h1, h2, h3, h4, h5⟩ := F.ex
  refine ⟨fun pins s0 σ H Q I ⟨ρ, s, d, s', w, F, e, a, k⟩ => ?_⟩
  obtain ⟨m, s2, e2, e⟩ := bnd_eq e
  refine wpAny_Call_Name_kw (ld_glob I hg h2 ?_ hdb)
  refine PySem.W.callWith_KW0 (h₀ := X.base) I.ok.mod.kin h3 hall ?_ hpl
  refine thn (hkw.run pos pins s0 σ H (fun zs H2 => zs.length = ps.length ∧ ∃ F2, Post w F H F2 H2 ∧ DOk w s2 F2 H2 ∧ Reps X.K w F2 m zs) I ⟨ρ, s, m, s2, w, F, e2, a, fun zs F2 H2 p2 k2 r2 => ⟨by rw [r2.length]; exact hlk _ _ _ _ e2, F2, p2, k2, r2⟩⟩) fun ws s4 ⟨zs, H2, I2, rz, l2, F2, p2, k2, r2⟩ => ⟨I2.kIn, ?_⟩
  rw [hks]
  have z2 := rz.length
  have hb := h5 s4 [] ws (by rw [List.length_nil, Nat.zero_add, ← z2]; exact l2)
  refine wpAny_call (codeAny_mono (h1.run X.A X.stack s4 H2 ⟨[], ps.zip ws⟩ ws zs Q (fun _ _ _ => False) (hr.mono hk) I2.env0 hb rz ⟨w, F2, s2, m, d, s', hlk _ _ _ _ e2, e, r2, p2.inn, k2, fun v F3 H3 p3 k3 r3 => k v F3 H3 (p2.trans p3) k3 r3⟩) fun r s' hq => ?_)
  cases r with
  | error e => exact False.elim hq
  | ok fl =>
    cases fl with
    | ret u => exact I2.after hq
    | next => exact False.elim hq
    | brk => exact False.elim hq
    | cont => exact False.elim hq
/-- THE RULE for a def -/
theorem fn_ok {P : Program} {wd : World} {K : Fg} {mg : Str → Option Value} {base : Heap} {x : Str} {st : Stmt} {f : Addr} {fd : FuncData} {N ps : List Str} {k : Nat} {den : DS} (F : Fun K x x st f fd) (S : FnScope N ps (defScope st))
    (hbody : ∀ (cdv : Value) (A : Around) (outer : List PySem.Env) (s : Shared) (H : Hp) (E : XK), Room k (A.deeper (PyProof.Rows.envOfC x (defScope st) s.heap.objs.size f cdv)) →
      RefB (cxOf CX0 P wd K mg base N x (defScope st) f cdv A outer s H E).nox (defBody st) den) : FnOk P wd K mg base CX0 (k + 1) f fd ps (spOf K ps.length (dDef N.length den)) := by
  refine F.ok S (fun vs H Q E ⟨w, F, s, ds, d, s', a, _, c, _⟩ => by rw [c.length]; exact a) fun cdv A outer s H vs Q E hr ⟨w, F, s1, ds, d, s', a, e, c, h1, h2, q⟩ => ⟨_, hbody cdv A outer s H E hr, ?_⟩
  unfold dDef at e
  have I := start_inv (N := N) c h1 h2
  split at e
  · next d' s2 e1 =>
    cases e
    exact ⟨_, s1, _, _, w, F, F, H, F, e1, I, q⟩
  · next ρ s2 e1 =>
    cases e
    exact ⟨_, s1, _, _, w, F, F, H, F, e1, I, fun σ' F' H' I' => q _ F' H' I'.post I'.dok rfl⟩
  · cases e
theorem fn_mk {P : Program} {wd : World} {K : Fg} {mg : Str → Option Value} {base : Heap} {x : Str} {st : Stmt} {f : Addr} {fd : FuncData} {N ps : List Str} {k : Nat} {den : DS} (F : Fun K x x st f fd) (hm : mg x = some (.ref f)) (b : Binds K fd ps []) (S : FnScope N ps (defScope st))
    (hbody : ∀ (cdv : Value) (A : Around) (outer : List PySem.Env) (s : Shared) (H : Hp) (E : XK), Room k (A.deeper (PyProof.Rows.envOfC x (defScope st) s.heap.objs.size f cdv)) →
      RefB (cxOf CX0 P wd K mg base N x (defScope st) f cdv A outer s H E).nox (defBody st) den) : Fn P wd K mg base (k + 1) x ps (dDef N.length den) := ⟨f, fd, fn_ok F S hbody, hm, F.kp, b⟩
theorem fnk_mk {P : Program} {wd : World} {K : Fg} {mg : Str → Option Value} {base : Heap} {x : Str} {st : Stmt} {f : Addr} {fd : FuncData} {N ps : List Str} {k : Nat} {den : DS} (F : Fun K x x st f fd) (hm : mg x = some (.ref f)) (b : Binds K fd ps []) (kb : KwOk fd ps) (S : FnScope N ps (defScope st))
    (hbody : ∀ (cdv : Value) (A : Around) (outer : List PySem.Env) (s : Shared) (H : Hp) (E : XK), Room k (A.deeper (PyProof.Rows.envOfC x (defScope st) s.heap.objs.size f cdv)) →
      RefB (cxOf CX0 P wd K mg base N x (defScope st) f cdv A outer s H E).nox (defBody st) den) : FnK P wd K mg base (k + 1) x ps (dDef N.length den) := ⟨f, fd, fn_ok F S hbody, hm, F.kp, b, kb⟩
end
end Mp

set_option Elab.async false
set_option linter.all false
set_option maxRecDepth 100000
/-! Mp6: comprehensions of two clauses -/
namespace Mp
open PySem L2
theorem Post.app {w : Wd} {F H F' H' : Hp} {p : Addr} {o : HO} (pp : Post w F H F' H') (hH : H p = none) (hF : F' p = none) : Post w F H F' (upd H' p o) := by
  refine ⟨pp.ex, fun b o hb => ?_, pp.new, fun b o hn hb => ?_, fun b hb => ?_⟩
  · rw [upd_ne (ne_of_none hb hF)]; exact pp.inn b o hb
  · rw [upd_ne (ne_of_none hb hH)]; exact pp.kept b o hn hb
  · by_cases hbD : b = p
    · subst hbD; rw [upd_same] at hb; cases hb
    · rw [upd_ne hbD] at hb; exact pp.dom b hb
theorem Post.unf {w : Wd} {F H F' H' : Hp} {a : Addr} (pp : Post w F H F' H') (f1 : F a = none) (f2 : ∃ o, H a = some o) : F' a = none := by
  cases qq : F' a with
  | none => rfl
  | some o' =>
    obtain ⟨o, f2⟩ := f2
    rcases pp.new a o' qq with z | z
    · rw [f1] at z; cases z
    · rw [f2] at z; cases z
theorem wipe_wipe {σ : L2.St} {vs : List Nat} : ∀ {us : List Nat}, (∀ i ∈ us, i ∈ vs) → wipe (wipe σ vs) us = wipe σ vs
  | [], _ => rfl
  | u :: us, hu => by
    show (wipe (wipe σ vs) us).set u none = wipe σ vs
    rw [wipe_wipe fun i hi => hu i (List.mem_cons_of_mem _ hi)]
    exact wipe_idem (hu u List.mem_cons_self)
section
variable {X : Cx} {fe : DE}
theorem tLc2_of {K : Fg} {fi fi1 : DA} {gg gg1 : DG} {sl vs sl1 vs1 : List Nat} {ft ft1 : DT} (hsl : ∀ i ∈ sl, i ∈ vs) (hsl1 : ∀ i ∈ sl1, i ∈ vs1) : ∀ σ H Q, tUL K (dComp2 fi vs gg ft fi1 vs1 gg1 ft1 fe) σ H Q → tLc2 (tUI K fi) (tUG K sl gg) (tUT K ft) (tUI K fi1) (tUG K sl1 gg1) (tUT K ft1) (tU K fe) vs vs1 σ H Q := fun σ H Q ⟨ρ, s, r, s', w, F, e, a, k⟩ => by
  obtain ⟨l, s1, e1, e⟩ := bnd_eq e
  split at e
  · next hlim =>
    refine ⟨ρ, s, l, s1, w, F, e1, a, fun J F1 H1 p1 k1 it Dl hD => ?_⟩
    have dn : Dl ∉ dcells w := k1.fresh hD
    have hD0 : H Dl = none := p1.dom _ hD
    have pm := Post.made (w := w) (o := .lst []) p1.inn hD
    refine ⟨fun i m H' => ∃ acc vsa s2 F2, m = l.length - i ∧ i ≤ l.length ∧ dComp2.comp2 vs gg ft fi1 vs1 gg1 ft1 fe ρ (l.drop i) acc s2 = some (r, s') ∧
      Post w F H F2 H' ∧ DOk w s2 F2 H' ∧ Sub F1 F2 ∧ F2 Dl = none ∧ H' Dl = some (.lst vsa) ∧ Reps K w F2 acc vsa, ⟨l.length, [], [], s1, F1, by simp, Nat.zero_le _, e, p1.trans pm, k1.made dn, .refl F1, p1.free hD, upd_same, rfl⟩,
      fun i m H2 ⟨acc, vsa, s2, F2, em, hi, ec, p2, k2, sb, fD, hD2, ra⟩ => ?_⟩
    subst em
    obtain ⟨t1, t2⟩ := it F2 H2 sb p2.inn i
    cases q : l[i]? with
    | none =>
      refine .inl ⟨t2 q, ?_⟩
      have hd : l.drop i = [] := List.drop_eq_nil_of_le (List.getElem?_eq_none_iff.mp q)
      rw [hd] at ec
      cases ec
      exact k Dl vsa F2 H2 p2 k2 fD hD0 dn hD2 ra
    | some d =>
      obtain ⟨go, yld⟩ := t1 d q
      have hlt : i < l.length := (List.getElem?_eq_some_iff.mp q).1
      have hd : l.drop i = d :: l.drop (i + 1) := by
        rw [List.drop_eq_getElem_cons hlt, (List.getElem?_eq_some_iff.mp q).2]
      rw [hd] at ec
      unfold dComp2.comp2 at ec
      split at ec
      · cases ec
      · next ρ3 e3 =>
        obtain ⟨b, s3, eb, ec⟩ := bnd_eq ec
        refine .inr ⟨go, fun H' => ∃ m', m' < l.length - i ∧ ∃ acc vsa s2 F2, m' = l.length - (i + 1) ∧ i + 1 ≤ l.length ∧ dComp2.comp2 vs gg ft fi1 vs1 gg1 ft1 fe ρ (l.drop (i + 1)) acc s2 = some (r, s') ∧
          Post w F H F2 H' ∧ DOk w s2 F2 H' ∧ Sub F1 F2 ∧ F2 Dl = none ∧ H' Dl = some (.lst vsa) ∧ Reps K w F2 acc vsa, fun H' h => h, fun x H3 y => ?_⟩
        obtain ⟨F3, p3, k3, r3⟩ := yld x H3 y
        have k3' := k3 s2 k2
        have env3 : EnvR K w F3 (wipeE ρ vs) (wipe σ vs) := (a.env.wipe vs).mono (p2.ex.trans p3.ex)
        have I3 : SInv K w F3 F3 H3 (toRho (wipeE ρ vs)) (wipe σ vs) s2 F3 H3 := sinv_of env3 p3.inn k3' (by rw [wipe_length, wipeE_length, a.len])
        have f3 := p3.unf fD ⟨_, hD2⟩
        have h3 := p3.kept _ _ dn hD2
        refine ⟨d, toRho (wipeE ρ vs), ρ3, s2, w, F3, F3, H3, F3, e3, I3, r3, fun σ4 I4 w4 => ⟨?_, ?_⟩⟩
        · rw [w4 vs hsl]
          exact wipe_wipe fun _ h => h
        · refine ⟨hide ρ3, s2, b, s3, w, F3, eb, I4.at, fun F5 H5 p5 k5 => ?_⟩
          have f5 := p5.unf f3 ⟨_, h3⟩
          have h5 := p5.kept _ _ dn h3
          cases b with
          | true =>
            rw [if_pos rfl] at ec
            refine iteT ?_
            obtain ⟨ml, s6, em, ec⟩ := bnd_eq ec
            obtain ⟨ys, s7, ey, ec⟩ := bnd_eq ec
            split at ec
            · next hlen =>
              have I5 := I4.grow p5 k5
              refine ⟨hide ρ3, s3, ml, s6, w, F5, em, I5.at, fun J1 F6 H6 p6 k6 it1 => ?_⟩
              have f6 := p6.unf f5 ⟨_, h5⟩
              have h6 := p6.kept _ _ dn h5
              have I6 := I5.grow p6 k6
              have ra6 : Reps K w F6 acc vsa := ra.mono ((p3.ex.trans p5.ex).trans p6.ex)
              have sb6 := ((sb.trans p3.ex).trans p5.ex).trans p6.ex
              have pp6 := ((p2.trans p3).trans p5).trans p6
              have at6 := I6.at
              refine ⟨fun j n H' => ∃ ac va ls sj F7, n = ml.length - j ∧ j ≤ ml.length ∧ compLoop gg1 ft1 fe (wipeE (hide ρ3) vs1) (ml.drop j) sj = some (ls, s7) ∧ ac ++ ls = acc ++ ys ∧
                Post w F H F7 H' ∧ DOk w sj F7 H' ∧ Sub F6 F7 ∧ F7 Dl = none ∧ H' Dl = some (.lst va) ∧ Reps K w F7 ac va, ⟨ml.length, acc, vsa, ys, s6, F6, by simp, Nat.zero_le _, ey, rfl, pp6, k6, .refl F6, f6, h6, ra6⟩,
                fun j n H7 ⟨ac, va, ls, sj, F7, en, hj, ej, el, p7, k7, sb7, f7, h7, ra7⟩ => ?_⟩
              subst en
              obtain ⟨u1, u2⟩ := it1 F7 H7 sb7 p7.inn j
              cases qj : ml[j]? with
              | none =>
                refine .inl ⟨u2 qj, ?_⟩
                have hd : ml.drop j = [] := List.drop_eq_nil_of_le (List.getElem?_eq_none_iff.mp qj)
                rw [hd] at ej
                cases ej
                rw [List.append_nil] at el
                subst el
                exact ⟨l.length - (i + 1), by omega, _, va, _, F7, rfl, hlt, ec, p7, k7, sb6.trans sb7, f7, h7, ra7⟩
              | some d1 =>
                obtain ⟨go1, yld1⟩ := u1 d1 qj
                have hltj : j < ml.length := (List.getElem?_eq_some_iff.mp qj).1
                have hdj : ml.drop j = d1 :: ml.drop (j + 1) := by
                  rw [List.drop_eq_getElem_cons hltj, (List.getElem?_eq_some_iff.mp qj).2]
                rw [hdj] at ej
                unfold compLoop at ej
                split at ej
                · cases ej
                · next ρ8 e8 =>
                  obtain ⟨b1, s8, eb1, ej⟩ := bnd_eq ej
                  refine .inr ⟨go1, fun H' => ∃ n', n' < ml.length - j ∧ ∃ ac va ls sj F7, n' = ml.length - (j + 1) ∧ j + 1 ≤ ml.length ∧ compLoop gg1 ft1 fe (wipeE (hide ρ3) vs1) (ml.drop (j + 1)) sj = some (ls, s7) ∧ ac ++ ls = acc ++ ys ∧
                    Post w F H F7 H' ∧ DOk w sj F7 H' ∧ Sub F6 F7 ∧ F7 Dl = none ∧ H' Dl = some (.lst va) ∧ Reps K w F7 ac va, fun H' h => h, fun x1 H8 y1 => ?_⟩
                  obtain ⟨F8, p8, k8, r8⟩ := yld1 x1 H8 y1
                  have k8' := k8 sj k7
                  have f8 := p8.unf f7 ⟨_, h7⟩
                  have h8 := p8.kept _ _ dn h7
                  have env8 : EnvR K w F8 (wipeE (hide ρ3) vs1) (wipe σ4 vs1) := (at6.env.wipe vs1).mono (sb7.trans p8.ex)
                  have I8 : SInv K w F8 F8 H8 (toRho (wipeE (hide ρ3) vs1)) (wipe σ4 vs1) sj F8 H8 := sinv_of env8 p8.inn k8' (by rw [wipe_length, wipeE_length, at6.len])
                  refine ⟨d1, toRho (wipeE (hide ρ3) vs1), ρ8, sj, w, F8, F8, H8, F8, e8, I8, r8, fun σ9 I9 w9 => ⟨?_, ?_⟩⟩
                  · rw [w9 vs1 hsl1]
                    exact wipe_wipe fun _ h => h
                  · refine ⟨hide ρ8, sj, b1, s8, w, F8, eb1, I9.at, fun Fa Ha pa ka => ?_⟩
                    have fa' := pa.unf f8 ⟨_, h8⟩
                    have ha' := pa.kept _ _ dn h8
                    cases b1 with
                    | true =>
                      rw [if_pos rfl] at ej
                      refine iteT ?_
                      obtain ⟨yv, sb', ey', ej⟩ := bnd_eq ej
                      obtain ⟨yr, sc', ez', ej⟩ := bnd_eq ej
                      cases ej
                      have Ia := I9.grow pa ka
                      refine ⟨hide ρ8, s8, yv, sb', w, Fa, ey', Ia.at, fun v Fb Hb pb kb rb => ?_⟩
                      have fb := pb.unf fa' ⟨_, ha'⟩
                      have hb := pb.kept _ _ dn ha'
                      have rab : Reps K w Fb ac va := ra7.mono ((p8.ex.trans pa.ex).trans pb.ex)
                      have hacl : ac.length + (yr.length + 1) ≤ lim := by
                        have := congrArg List.length el
                        rw [List.length_append, List.length_cons] at this
                        omega
                      exact ⟨va, hb, lim_lt (by rw [rab.length]; omega), ml.length - (j + 1), by omega, ac ++ [yv], va ++ [v], yr, sb', Fb, rfl, hltj, ez', by rw [List.append_assoc]; exact el,
                        (((p7.trans p8).trans pa).trans pb).app hD0 fb, kb.made dn, ((sb7.trans p8.ex).trans pa.ex).trans pb.ex, fb, upd_same, rab.append ⟨v, [], rfl, rb, rfl⟩⟩
                    | false =>
                      rw [if_neg Bool.false_ne_true] at ej
                      refine iteF ?_
                      exact ⟨ml.length - (j + 1), by omega, ac, va, ls, s8, Fa, rfl, hltj, ej, el, (p7.trans p8).trans pa, ka, (sb7.trans p8.ex).trans pa.ex, fa', ha', ra7.mono (p8.ex.trans pa.ex)⟩
            · cases ec
          | false =>
            rw [if_neg Bool.false_ne_true] at ec
            refine iteF ?_
            exact ⟨l.length - (i + 1), by omega, acc, vsa, s3, F5, rfl, hlt, ec, (p2.trans p3).trans p5, k5, (sb.trans p3.ex).trans p5.ex, f5, h5, ra.mono (p3.ex.trans p5.ex)⟩
  · cases e
theorem l_lc2 {elt tg iter tg1 iter1 : Expr} {ifs ifs1 : List Expr} {scope : Scope} {own : List (Str × Nat)} {vs1 : List Nat} {pos : Pos} {fi fi1 : DA} {gg gg1 : DG} {sl sl1 : List Nat} {ft ft1 : DT} (hc : X.calm = true) (hN : X.N.Nodup) (hi : RefI X tg iter fi) (ok : BlkOk X.N X.env.scope scope own) (hv : ∀ i ∈ vs1, i ∈ own.map (·.2))
    (hg : ∀ (s : Shared) (H : Hp) (C : Addr) (cl : List (Str × Addr)) (fp : List Addr), RefG (X.blk s H scope (compEnvC scope cl C X.env) fp) tg sl gg) (ht : ∀ (s : Shared) (H : Hp) (C : Addr) (cl : List (Str × Addr)) (fp : List Addr), RefTs (X.blk s H scope (compEnvC scope cl C X.env) fp) ifs ft)
    (hi1 : ∀ (s : Shared) (H : Hp) (C : Addr) (cl : List (Str × Addr)) (fp : List Addr), RefI (X.blk s H scope (compEnvC scope cl C X.env) fp) tg1 iter1 fi1)
    (hg1 : ∀ (s : Shared) (H : Hp) (C : Addr) (cl : List (Str × Addr)) (fp : List Addr), RefG (X.blk s H scope (compEnvC scope cl C X.env) fp) tg1 sl1 gg1) (ht1 : ∀ (s : Shared) (H : Hp) (C : Addr) (cl : List (Str × Addr)) (fp : List Addr), RefTs (X.blk s H scope (compEnvC scope cl C X.env) fp) ifs1 ft1)
    (he : ∀ (s : Shared) (H : Hp) (C : Addr) (cl : List (Str × Addr)) (fp : List Addr), RefE (X.blk s H scope (compEnvC scope cl C X.env) fp) elt fe) (hsl : ∀ i ∈ sl, i ∈ own.map (·.2) := by decide) (hsl1 : ∀ i ∈ sl1, i ∈ vs1 := by decide)
    (hs : ∀ x, foldedSetIterable iter X.env x = pure x := by intro _; rfl) (hs1 : ∀ env x, foldedSetIterable iter1 env x = pure x := by intro _ _; rfl) :
    RefL X (.ListComp elt [⟨tg, iter, ifs, 0⟩, ⟨tg1, iter1, ifs1, 0⟩] scope pos) (dComp2 fi (own.map (·.2)) gg ft fi1 vs1 gg1 ft1 fe) := pe_weak (pe_lc2 hc hN hi ok hv hg ht hi1 hg1 ht1 he hs hs1) (tLc2_of hsl hsl1)
theorem s_setLc2 {i : Nat} {y : Str} {py : Pos} {elt tg iter tg1 iter1 : Expr} {ifs ifs1 : List Expr} {scope : Scope} {own : List (Str × Nat)} {vs1 : List Nat} {pos spos : Pos} {fi fi1 : DA} {gg gg1 : DG} {sl sl1 : List Nat} {ft ft1 : DT} (hc : X.calm = true) (hN : X.N.Nodup) (hy : X.N[i]? = some y) (hyl : X.env.scope.names.lookup y = some .local)
    (hsw : swapsWith (.ListComp elt [⟨tg, iter, ifs, 0⟩, ⟨tg1, iter1, ifs1, 0⟩] scope pos) (some (.Name y py)) spos.line X.env = pure true) (hi : RefI X tg iter fi) (ok : BlkOk X.N X.env.scope scope own) (hv : ∀ i ∈ vs1, i ∈ own.map (·.2))
    (hg : ∀ (s : Shared) (H : Hp) (C : Addr) (cl : List (Str × Addr)) (fp : List Addr), RefG (X.blk s H scope (compEnvC scope cl C X.env) fp) tg sl gg) (ht : ∀ (s : Shared) (H : Hp) (C : Addr) (cl : List (Str × Addr)) (fp : List Addr), RefTs (X.blk s H scope (compEnvC scope cl C X.env) fp) ifs ft)
    (hi1 : ∀ (s : Shared) (H : Hp) (C : Addr) (cl : List (Str × Addr)) (fp : List Addr), RefI (X.blk s H scope (compEnvC scope cl C X.env) fp) tg1 iter1 fi1)
    (hg1 : ∀ (s : Shared) (H : Hp) (C : Addr) (cl : List (Str × Addr)) (fp : List Addr), RefG (X.blk s H scope (compEnvC scope cl C X.env) fp) tg1 sl1 gg1) (ht1 : ∀ (s : Shared) (H : Hp) (C : Addr) (cl : List (Str × Addr)) (fp : List Addr), RefTs (X.blk s H scope (compEnvC scope cl C X.env) fp) ifs1 ft1)
    (he : ∀ (s : Shared) (H : Hp) (C : Addr) (cl : List (Str × Addr)) (fp : List Addr), RefE (X.blk s H scope (compEnvC scope cl C X.env) fp) elt fe) (hsl : ∀ i ∈ sl, i ∈ own.map (·.2) := by decide) (hsl1 : ∀ i ∈ sl1, i ∈ vs1 := by decide)
    (hs : ∀ x, foldedSetIterable iter X.env x = pure x := by intro _; rfl) (hs1 : ∀ env x, foldedSetIterable iter1 env x = pure x := by intro _ _; rfl) :
    PS X (.Assign [.Name y py] (.ListComp elt [⟨tg, iter, ifs, 0⟩, ⟨tg1, iter1, ifs1, 0⟩] scope pos) spos) (tAsg (tUL X.K (dComp2 fi (own.map (·.2)) gg ft fi1 vs1 gg1 ft1 fe)) (gName i)) :=
  ps_weak (ps_setLc2 hc hN hy hyl hsw hi ok hv hg ht hi1 hg1 ht1 he hs hs1) fun E σ H h => tLc2_of hsl hsl1 σ H _ h
end
end Mp

set_option Elab.async false
set_option linter.all false
set_option maxRecDepth 100000
/-! Mp7: more statements -/
namespace Mp
open PySem L2
abbrev iaddD : D → D → Option D := iiD0 fun i j => .int (i + j)
abbrev isubD : D → D → Option D := iiD0 fun i j => .int (i - j)
section
variable {X : Cx} {st : Stmt} {f g : DS} {i j m : Nat} {fe fe2 : DE} {fa : DA}
/-- x, y, z = a, b, c -/
def dPar3 (i j m : Nat) (f : DA) : DS := fun ρ s => bnd (f (hide ρ) s) fun l s1 => match l with
  | [x, y, z] => if i < ρ.length ∧ j < ρ.length ∧ m < ρ.length then some (.nx (((ρ.set i (.v x)).set j (.v y)).set m (.v z)), s1) else none
  | _ => none
theorem s_par3 (h : PS X st (tPar3 i j m (tUA X.K fa))) : RefS X st (dPar3 i j m fa) := ps_weak h fun E σ H ⟨ρ, s, o, s', w, B, F0, H0, F, e, I, k⟩ => by
  obtain ⟨l, s1, e1, e⟩ := bnd_eq e
  split at e
  · next x y z =>
    split at e
    · next hi =>
      cases e
      refine ⟨hide ρ, s, _, _, w, F, e1, I.at, fun vs F1 H1 p1 k1 r1 => ?_⟩
      obtain ⟨v, r, rfl, q1, u, r', rfl, q2, t, r2, rfl, q3, rfl⟩ := r1
      exact ⟨v, u, t, rfl, k _ F1 H1 ((((I.grow p1 k1).setV hi.1 q1).setV (by rw [List.length_set]; exact hi.2.1) q2).setV (by rw [List.length_set, List.length_set]; exact hi.2.2) q3)⟩
    · cases e
  · cases e
/-- x, y, z = a, b, a new list of the def's own -/
def dPar3L (i j m : Nat) (fe fe2 : DE) (fa : DA) : DS := fun ρ s => bnd (fe (hide ρ) s) fun x s1 => bnd (fe2 (hide ρ) s1) fun y s2 => bnd (fa (hide ρ) s2) fun l s3 =>
  if i < ρ.length ∧ j < ρ.length ∧ m < ρ.length then some (.nx (((ρ.set i (.v x)).set j (.v y)).set m (.own l)), s3) else none
theorem s_par3L (h : PS X st (tPar3 i j m (tCons (tU X.K fe) (tCons (tU X.K fe2) (tCons (tUL X.K fa) tNil))))) : RefS X st (dPar3L i j m fe fe2 fa) := ps_weak h fun E σ H ⟨ρ, s, o, s', w, B, F0, H0, F, e, I, k⟩ => by
  obtain ⟨x, s1, e1, e⟩ := bnd_eq e
  obtain ⟨y, s2, e2, e⟩ := bnd_eq e
  obtain ⟨l, s3, e3, e⟩ := bnd_eq e
  split at e
  · next hi =>
    cases e
    refine ⟨hide ρ, s, x, s1, w, F, e1, I.at, fun v F1 H1 p1 k1 r1 => ⟨hide ρ, s1, y, s2, w, F1, e2, (I.grow p1 k1).at, fun u F2 H2 p2 k2 r2 => ⟨hide ρ, s2, l, _, w, F2, e3, ((I.grow p1 k1).grow p2 k2).at, fun a vs F3 H3 p3 k3 n1 n2 n3 h1 r3 => ?_⟩⟩⟩
    refine ⟨v, u, _, rfl, ?_⟩
    have I3 := ((I.grow p1 k1).grow p2 k2).grow p3 k3
    have J := (I3.setV hi.1 (r1.mono (p2.ex.trans p3.ex))).setV (i := j) (by rw [List.length_set]; exact hi.2.1) (r2.mono p3.ex)
    refine k _ F3 H3 (J.setO (by rw [List.length_set, List.length_set]; exact hi.2.2) h1 n1 (I.post.dom a (p1.dom a (p2.dom a n2))) n3 r3 fun q mm hq => .inl fun z => ?_)
    obtain ⟨b, ws, z1, z2, z3, _⟩ := J.own q mm hq
    rcases set_get hq with ⟨_, c, _⟩ | ⟨n1', hq⟩
    · cases c
    · rcases set_get hq with ⟨_, c, _⟩ | ⟨n2', hq⟩
      · cases c
      · rw [List.getElem?_set_ne n1', List.getElem?_set_ne n2'] at z
        obtain ⟨b', ws', y1, y2, _⟩ := I.own q mm hq
        rw [y1] at z
        cases z
        have := I.post.dom
        have hH : H a = none := p1.dom a (p2.dom a n2)
        rw [y2] at hH
        cases hH
  · cases e
/-- the same by a tuple that is made and taken apart (a name is a cell) -/
theorem s_unp3L (h : PS X st (tAsg (tTup (tCons (tU X.K fe) (tCons (tU X.K fe2) (tCons (tUL X.K fa) tNil)))) (gTup X.K 3 (gCons (gName i) (gCons (gName j) (gCons (gName m) gNil)))))) : RefS X st (dPar3L i j m fe fe2 fa) := ps_weak h fun E σ H ⟨ρ, s, o, s', w, B, F0, H0, F, e, I, k⟩ => by
  obtain ⟨x, s1, e1, e⟩ := bnd_eq e
  obtain ⟨y, s2, e2, e⟩ := bnd_eq e
  obtain ⟨l, s3, e3, e⟩ := bnd_eq e
  split at e
  · next hi =>
    cases e
    refine ⟨hide ρ, s, x, s1, w, F, e1, I.at, fun v F1 H1 p1 k1 r1 => ⟨hide ρ, s1, y, s2, w, F1, e2, (I.grow p1 k1).at, fun u F2 H2 p2 k2 r2 => ⟨hide ρ, s2, l, _, w, F2, e3, ((I.grow p1 k1).grow p2 k2).at, fun a vs F3 H3 p3 k3 n1 n2 n3 h1 r3 => ⟨(by show 3 ≤ sizeLine; decide), fun p hp => ?_⟩⟩⟩⟩
    refine ⟨p, _, rfl, .of upd_same, rfl, v, _, rfl, u, _, rfl, .ref a, _, rfl, rfl, ?_⟩
    have I3 := (((I.grow p1 k1).grow p2 k2).grow p3 k3).grow (Post.made (o := .tup [v, u, .ref a]) p3.inn hp) (k3.made (k3.fresh hp))
    have J := (I3.setV hi.1 (r1.mono (p2.ex.trans p3.ex))).setV (i := j) (by rw [List.length_set]; exact hi.2.1) (r2.mono p3.ex)
    refine k _ F3 _ (J.setO (by rw [List.length_set, List.length_set]; exact hi.2.2) (by rw [upd_ne (ne_of_none h1 hp)]; exact h1) n1 (I.post.dom a (p1.dom a (p2.dom a n2))) n3 r3 fun q mm hq => .inl fun z => ?_)
    rcases set_get hq with ⟨_, c, _⟩ | ⟨n1', hq⟩
    · cases c
    · rcases set_get hq with ⟨_, c, _⟩ | ⟨n2', hq⟩
      · cases c
      · rw [List.getElem?_set_ne n1', List.getElem?_set_ne n2'] at z
        obtain ⟨b', ws', y1, y2, _⟩ := I.own q mm hq
        rw [y1] at z
        cases z
        have hH : H a = none := p1.dom a (p2.dom a n2)
        rw [y2] at hH
        cases hH
  · cases e
end
end Mp

set_option Elab.async false
set_option linter.all false
set_option maxRecDepth 100000
/-! Mp8: items stored, dict displays looked up -/
namespace Mp
open PySem L2
section
variable {X : Cx} {st : Stmt} {f g : DS} {i j m : Nat} {fe fi : DE} {fa : DA}
theorem get_list : PGet X (rIxL X.K) := by
  intro pins s σ H x y v u Q I rx ry h
  obtain ⟨p, xs, i, z, rfl, rfl, hq, he, q⟩ := h
  cases rx
  obtain ⟨t, rfl⟩ := ry
  obtain ⟨its, r, pl, hz⟩ := I.list hq
  obtain ⟨j, h1, h2, h3, h4, h5⟩ := atI_get he
  obtain ⟨w, ew, rw'⟩ := r.get h2
  have hl := r.length
  have hn := line63
  have fin : EP X pins σ Q w s := ⟨z, H, I, rw', q⟩
  by_cases h0 : 0 ≤ i
  · have hj : i.toNat = j := by
      rw [PySem.seqIndex_of h0 h5] at h1
      exact Option.some.inj h1
    exact PySem.wpAny_getItem_list pl.isList h0 (by omega) (by rw [hj]; simpa using ew) fin
  · have hj : (i + (its.toArray.size : Int)).toNat = j := by
      rw [PySem.seqIndex_neg (by omega) h4] at h1
      rw [List.size_toArray, ← hl]
      exact Option.some.inj h1
    exact PySem.wpAny_getItem_list_neg pl.isList (by omega) (by rw [List.size_toArray] <;> omega) (by omega) (by rw [hj]; simpa using ew) fin
/-! x[i] += e, x a list of the def's own -/
def dAugI (i : Nat) (fi : DE) (g : D → D → Option D) (fe : DE) : DS := fun ρ s => match ρ[i]? with
  | some (.own l) => bnd (fi (peek ρ) s) fun n s1 => match n with
    | .int k => match atI l k with
      | some old => bnd (fe (peek ρ) s1) fun d s2 => match g old d, ixN l.length k with
        | some z, some j => if flat old = true ∧ flat d = true ∧ flat z = true then some (.nx (ρ.set i (.own (l.set j z))), s2) else none
        | _, _ => none
      | none => none
    | _ => none
  | _ => none
theorem Reps.set {K : Fg} {w : Wd} {F : Hp} : ∀ {l : List D} {vs : List V} (j : Nat) {d : D} {v : V}, Reps K w F l vs → Rep K w F d v → Reps K w F (l.set j d) (vs.set j v)
  | [], _, _, _, _, h, _ => by rw [show _ = [] from h]; rfl
  | _ :: _, _, 0, _, _, ⟨v, r, h1, h2, h3⟩, k => by subst h1; exact ⟨_, r, rfl, k, h3⟩
  | _ :: _, _, j + 1, _, _, ⟨v, r, h1, h2, h3⟩, k => by subst h1; exact ⟨v, _, rfl, h2, Reps.set j h3 k⟩
theorem s_augI {r : R2} {g : D → D → Option D} (hg : Op2 X.K r g) (h : PS X st (tAugS (tVar i) (tU X.K fi) (tU X.K fe) (rIxL X.K) r rSetL)) : RefS X st (dAugI i fi g fe) := ps_weak h fun E σ H ⟨ρ, s, o, s', w, B, F0, H0, F, e, I, k⟩ => by
  unfold dAugI at e
  split at e
  · next l hl =>
    obtain ⟨n, s1, e1, e⟩ := bnd_eq e
    split at e
    · next kk =>
      split at e
      · next old ho =>
        obtain ⟨d, s2, e2, e⟩ := bnd_eq e
        split at e
        · next z j hz hj =>
          split at e
          · next hf =>
            cases e
            obtain ⟨a, vs, z1, z2, z3, z4, z5, z6⟩ := I.own i l hl
            refine ⟨.ref a, z1, peek ρ, s, _, s1, w, _, e1, I.peek.2, fun v1 F1 H1 p1 k1 r1 => ?_⟩
            have I1 := I.peek_back p1 k1
            obtain ⟨a', vs', y1, y2, y3, y4, y5, y6⟩ := I1.own i l hl
            rw [z1] at y1
            cases y1
            obtain ⟨vo, o1, o2⟩ := y6.atI ho
            refine ⟨a, vs', kk, vo, rfl, r1, .of y2, o1, peek ρ, s1, d, _, w, _, e2, I1.peek.2, fun v2 F2 H2 p2 k2 r2 => ?_⟩
            have I2 := I1.peek_back p2 k2
            refine hg old d z hz w _ F H2 vo v2 _ I2.post.inn I2.dok (flat_rep hf.1 o2) (flat_rep hf.2.1 r2) fun y F3 H3 p3 k3 r3 => ?_
            have I3 := I2.grow p3 k3
            obtain ⟨a', vs3, x1, x2, x3, x4, x5, x6⟩ := I3.own i l hl
            rw [z1] at x1
            cases x1
            refine ⟨a, vs3, kk, j, rfl, r1, x2, by rw [x6.length]; exact hj, k _ F3 _ (I3.turn hl z1 x2 x3 x4 x5 (x6.set j r3))⟩
          · cases e
        · cases e
      · cases e
    · cases e
  · cases e
/-! x[i] = e, x a list of the def's own -/
def dPut (i : Nat) (fi : DE) (fe : DE) : DS := fun ρ s => match ρ[i]? with
  | some (.own l) => bnd (fe (hide ρ) s) fun d s1 => bnd (fi (peek ρ) s1) fun n s2 => match n with
    | .int k => match ixN l.length k with
      | some j => some (.nx (ρ.set i (.own (l.set j d))), s2)
      | none => none
    | _ => none
  | _ => none
theorem s_put (h : PS X st (tAsg (tU X.K fe) (gSub (tVar i) (tU X.K fi) rSetL))) : RefS X st (dPut i fi fe) := ps_weak h fun E σ H ⟨ρ, s, o, s', w, B, F0, H0, F, e, I, k⟩ => by
  unfold dPut at e
  split at e
  · next l hl =>
    obtain ⟨d, s1, e1, e⟩ := bnd_eq e
    obtain ⟨n, s2, e2, e⟩ := bnd_eq e
    split at e
    · next kk =>
      split at e
      · next j hj =>
        cases e
        refine ⟨hide ρ, s, d, s1, w, F, e1, I.at, fun v F1 H1 p1 k1 r1 => ?_⟩
        have I1 := I.grow p1 k1
        obtain ⟨a, vs, z1, z2, z3, z4, z5, z6⟩ := I1.own i l hl
        refine ⟨.ref a, z1, peek ρ, s1, _, _, w, _, e2, I1.peek.2, fun v2 F2 H2 p2 k2 r2 => ?_⟩
        have I2 := I1.peek_back p2 k2
        obtain ⟨a', vs', y1, y2, y3, y4, y5, y6⟩ := I2.own i l hl
        rw [z1] at y1
        cases y1
        exact ⟨a, vs', kk, j, rfl, r2, y2, by rw [y6.length]; exact hj, k _ F1 _ (I2.turn hl z1 y2 y3 y4 y5 (y6.set j r1))⟩
      · cases e
    · cases e
  · cases e
/-! {k: v, ..}[e], the keys written ints -/
def evs : List (Int × DE) → Env → S → Option (List (Int × D) × S)
  | [], _, s => some ([], s)
  | (k, f) :: l, ρ, s => bnd (f ρ s) fun d s1 => bnd (evs l ρ s1) fun ds s2 => some ((k, d) :: ds, s2)
def lastOf : List (Int × D) → Int → Option D
  | [], _ => none
  | (k, d) :: l, n => match lastOf l n with
    | some e => some e
    | none => if n = k then some d else none
def dDict (l : List (Int × DE)) (fi : DE) : DE := fun ρ s => bnd (evs l ρ s) fun ds s1 => bnd (fi ρ s1) fun x s2 => match x with
  | .int n => lft (lastOf ds n) s2
  | _ => none
def trsOf (K : Fg) (l : List (Int × DE)) : List (TE × TE) := l.map fun p => (tC (.int p.1), tU K p.2)
theorem pps_c {pos p1 : Pos} {k : Int} {j : Nat} {v : Expr} {ks : List (Option Expr)} {vs : List Expr} {l : List (Int × DE)} (hv : RefE X v fe) (hr : PPs X pos ks vs (trsOf X.K l)) : PPs X pos (some (.Constant (.int k) j p1) :: ks) (v :: vs) (trsOf X.K ((k, fe) :: l)) := pps_cons pe_int hv hr
theorem tPairs_of {K : Fg} : ∀ {l : List (Int × DE)} {ρ : Env} {σ : L2.St} {s s' : S} {w : Wd} {F H : Hp} {ds : List (Int × D)} {Q : List (V × V) → Hp → Prop}, evs l ρ s = some (ds, s') → At K w F H ρ σ s →
    (∀ vs F' H', Post w F H F' H' → DOk w s' F' H' → Reps K w F' (ds.map (·.2)) vs → Q ((ds.map (·.1)).zip vs |>.map fun p => (V.int p.1, p.2)) H') → tPairs (trsOf K l) σ H Q
  | [], _, _, _, _, _, _, _, _, _, e, a, k => by cases e; exact k [] _ _ (.refl a.inn) a.dok rfl
  | (n, f) :: l, ρ, σ, s, s', w, F, H, ds, Q, e, a, k => by
    unfold evs at e
    obtain ⟨d, s1, e1, e⟩ := bnd_eq e
    obtain ⟨dr, s2, e2, e⟩ := bnd_eq e
    cases e
    refine ⟨ρ, s, d, s1, w, F, e1, a, fun v F1 H1 p1 k1 r1 => ?_⟩
    refine tPairs_of e2 (a.next p1 k1) fun vs F2 H2 p2 k2 r2 => ?_
    exact k (v :: vs) F2 H2 (p1.trans p2) k2 ⟨v, vs, rfl, r1.mono p2.ex, r2⟩
theorem lastOf_val {K : Fg} {w : Wd} {F : Hp} : ∀ {ds : List (Int × D)} {vs : List V} {n : Int} (kvs : List (Key × V)), Reps K w F (ds.map (·.2)) vs →
    match lastOf ds n with
    | some d => ∃ v, valV (mergeK kvs (((ds.map (·.1)).zip vs).map fun p => (Sum.inl p.1, p.2))) (Sum.inl n) = some v ∧ Rep K w F d v
    | none => valV (mergeK kvs (((ds.map (·.1)).zip vs).map fun p => (Sum.inl p.1, p.2))) (Sum.inl n) = valV kvs (Sum.inl n)
  | [], _, n, kvs, h => by
    rw [show _ = [] from h]
    rfl
  | (k, d) :: ds, _, n, kvs, ⟨v, r, h1, h2, h3⟩ => by
    subst h1
    have ih := lastOf_val (n := n) (putK kvs (Sum.inl k) v) h3
    unfold lastOf
    cases q : lastOf ds n with
    | some e =>
      rw [q] at ih
      exact ih
    | none =>
      rw [q] at ih
      have ih' : valV (mergeK kvs (((((k, d) :: ds).map (·.1)).zip (v :: r)).map fun p => (Sum.inl p.1, p.2))) (Sum.inl n) = valV (putK kvs (Sum.inl k) v) (Sum.inl n) := ih
      rw [valV_put] at ih'
      by_cases hn : n = k
      · subst hn
        rw [if_pos rfl] at ih'
        show match (if n = n then some d else none) with
          | some d => _
          | none => _
        rw [if_pos rfl]
        exact ⟨v, ih', h2⟩
      · have hk : ¬ (Sum.inl n : Key) = Sum.inl k := fun z => hn (Sum.inl.inj z)
        rw [if_neg hk] at ih'
        show match (if n = k then some d else none) with
          | some d => _
          | none => _
        rw [if_neg hn]
        exact ih'
theorem evs_len : ∀ {l : List (Int × DE)} {ρ : Env} {s s' : S} {ds : List (Int × D)}, evs l ρ s = some (ds, s') → ds.length = l.length
  | [], _, _, _, _, e => by cases e; rfl
  | (n, f) :: l, ρ, s, s', ds, e => by
    unfold evs at e
    obtain ⟨d, s1, e1, e⟩ := bnd_eq e
    obtain ⟨dr, s2, e2, e⟩ := bnd_eq e
    cases e
    rw [List.length_cons, List.length_cons, evs_len e2]
theorem r_dict {keys : List (Option Expr)} {values : List Expr} {idx : Expr} {p1 pos : Pos} {l : List (Int × DE)} (hu : X.A.units + 1 < cLine) (h : PPs X p1 keys values (trsOf X.K l)) (hi : RefE X idx fi) (hs : NoSl idx) (hz : l.length ≤ 15) (hall : keys.all (·.isSome) = true := by rfl) (hl : keys.length = values.length := by rfl) (h0 : keys ≠ [] := by exact fun z => by cases z)
    (h15 : keys.length ≤ 15 := by decide) : RefE X (.Subscript (.Dict keys values p1) idx pos) (dDict l fi) := pe_weak (pe_dget hu (pe_disp h hall hl h0 h15) hi hs) fun σ H Q ⟨ρ, s, d, s', w, F, e, a, k⟩ => by
  obtain ⟨ds, s1, e1, e⟩ := bnd_eq e
  obtain ⟨x, s2, e2, e⟩ := bnd_eq e
  split at e
  · next n =>
    obtain ⟨e3, rfl⟩ := lft_eq e
    intro p hp
    have pm := Post.made (w := w) (o := .dK []) a.inn hp
    have dn : p ∉ dcells w := a.dok.fresh hp
    have hF : F p = none := by
      cases q : F p with
      | none => rfl
      | some o => rw [a.inn p o q] at hp; cases hp
    refine tPairs_of e1 (a.next pm (a.dok.made dn)) fun vs F1 H1 p1 k1 r1 => ?_
    have hp1 : H1 p = some (.dK []) := p1.kept _ _ dn upd_same
    refine ⟨hp1, ((ds.map (·.1)).zip vs).map fun p => (Sum.inl p.1, p.2), by rw [List.map_map]; rfl, ?_, ?_⟩
    · rw [List.length_map, List.length_zip]
      have := evs_len e1
      simp only [List.length_map]
      omega
    · have f1 : F1 p = none := by
        cases q : F1 p with
        | none => rfl
        | some o =>
          rcases p1.new p o q with z | z
          · rw [hF] at z; cases z
          · rw [upd_same] at z; cases z
      have pw : Post w F H F1 (upd H1 p (.dK (mergeK [] (((ds.map (·.1)).zip vs).map fun p => (Sum.inl p.1, p.2))))) := by
        have pp := pm.trans p1
        refine ⟨pp.ex, fun b o hb => ?_, pp.new, fun b o hn hb => ?_, fun b hb => ?_⟩
        · rw [upd_ne (ne_of_none hb f1)]; exact pp.inn b o hb
        · rw [upd_ne (ne_of_none hb hp)]; exact pp.kept b o hn hb
        · by_cases hbD : b = p
          · subst hbD; rw [upd_same] at hb; cases hb
          · rw [upd_ne hbD] at hb; exact pp.dom b hb
      refine ⟨ρ, s1, _, _, w, F1, e2, a.next pw (k1.made dn), fun u F2 H2 p2 k2 r2 => ?_⟩
      have hp2 := p2.kept p _ dn upd_same
      have z := lastOf_val (n := n) ([] : List (Key × V)) (r1.mono p2.ex)
      rw [e3] at z
      obtain ⟨v, z1, z2⟩ := z
      have r2' : u = V.int n := r2
      refine ⟨p, v, rfl, ?_, k v F2 H2 (pw.trans p2) k2 z2⟩
      rw [← z1, r2']
      exact DGet.k (k := Sum.inl n) hp2
  · cases e
end
end Mp

set_option Elab.async false
set_option linter.all false
set_option maxRecDepth 100000
/-! Mp9: the draws' object, constants, defs that call themselves, the law's own end -/
namespace Mp
open PySem L2
section
variable {X : Cx} {st : Stmt} {f g : DS} {i j m : Nat} {fe fi : DE} {fa : DA} {e : Expr}
theorem r_k {x : Str} {n : Int} {pos : Pos} (hg : Gl X x) (h : ∃ t, X.mg x = some (.int n t)) (hd : (x == ("__debug__" : Str)) = false := by decide) : RefE X (.Name x pos) (dC (.int n)) := by
  obtain ⟨t, h⟩ := h
  exact r_c (pe_glob (v := .int n) hg h ⟨t, rfl⟩ hd) fun _ _ _ => rfl
/-- the draws' object at hand -/
theorem At.deal {K : Fg} {w : Wd} {F H : Hp} {ρ : Env} {σ : L2.St} {s : S} (a : At K w F H ρ σ s) (h : ρ[i]? = some (some .deal)) : ∃ x y, w = some (x, y) ∧ σ[i]? = some (some (.ref x)) ∧ x ≠ y ∧ F x = none ∧ F y = none ∧ H x = some (.lst [.ref y, .int s.2]) ∧ H y = some (.lst (s.1.map V.int)) := by
  obtain ⟨v, h1, x, y, h2, h3⟩ := a.env i _ h
  subst h3
  have k := a.dok
  rw [h2] at k
  exact ⟨x, y, h2, h1, k⟩
def isDeal (ρ : Env) (i : Nat) : Bool := match ρ[i]? with
  | some (some .deal) => true
  | _ => false
theorem isDeal_eq {ρ : Env} (h : isDeal ρ i = true) : ρ[i]? = some (some .deal) := by
  unfold isDeal at h
  split at h
  · assumption
  · cases h
theorem atI0 {α : Type} {x : α} {l : List α} : atI (x :: l) 0 = some x := atI_nat (j := 0) rfl
theorem atI1 {α : Type} {x y : α} {l : List α} : atI (x :: y :: l) 1 = some y := atI_nat (j := 1) rfl
def dD_ne (i : Nat) : DE := fun ρ s => if isDeal ρ i = true ∧ s.1.length ≤ 1000 then some (.bl (!s.1.isEmpty), s) else none
theorem canLay_ints : ∀ ns : List Int, ∀ p ∈ ns.map PyData.int, p = p := fun _ _ _ => rfl
theorem dpAll_ints {K : Fg} {H : Hp} : ∀ ns : List Int, DpAll K H (ns.map V.int) (ns.map PyData.int)
  | [] => .nil
  | n :: ns => .cons (.int n) (dpAll_ints ns)
theorem depth_ints : ∀ ns : List Int, PyData.depthAll (ns.map PyData.int) ≤ 1
  | [] => by decide
  | n :: ns => by
    have := depth_ints ns
    simp only [List.map_cons, PyData.depthAll, PyData.depth]
    omega
theorem lay_ints : ∀ ns : List Int, PyData.canLayAll0 (ns.map PyData.int) = true
  | [] => rfl
  | n :: ns => lay_ints ns
theorem shaped_ints (ns : List Int) (_ : ns.length ≤ 1000) : SeqAt.shaped (.list (ns.map PyData.int)) = true := by
  have := depth_ints ns
  have h2 := lay_ints ns
  unfold SeqAt.shaped
  rw [Bool.and_eq_true]
  refine ⟨h2, decide_eq_true ?_⟩
  simp only [PyData.depth]
  omega
theorem eqv_nil (ns : List Int) : PyData.eqv (.list (ns.map PyData.int)) (.list []) = ns.isEmpty := by
  cases ns <;> rfl
/-- deal[0] != [] -/
theorem xne_t {K : Fg} : ∀ σ H Q, tU K (dD_ne i) σ H Q → tOp (rNeD K) (tOp (rIx K) (tVar i) (tC (.int 0))) (tLst tNil) σ H Q := fun σ H Q ⟨ρ, s, d, s', w, F, e, a, k⟩ => by
  unfold dD_ne at e
  split at e
  · next hd =>
    cases e
    obtain ⟨x, y, hw, h1, h2, h3, h4, h5, h6⟩ := a.deal (isDeal_eq hd.1)
    refine ⟨_, h1, .inl ⟨x, _, 0, .ref y, rfl, rfl, .of h5, atI0, Nat.zero_le _, fun p hp => ?_⟩⟩
    have py : y ≠ p := ne_of_none h6 hp
    have pm := Post.made (w := w) (o := .lst []) a.inn hp
    refine ⟨.list (s.1.map PyData.int), .list [], .lst (.of (by rw [upd_ne py]; exact h6)) (dpAll_ints _), .lst (.of upd_same) .nil, shaped_ints _ hd.2, rfl, ?_⟩
    rw [eqv_nil]
    exact k _ F _ pm (a.dok.made (a.dok.fresh hp)) rfl
  · cases e
theorem x_ne (h : PE X e (tOp (rNeD X.K) (tOp (rIx X.K) (tVar i) (tC (.int 0))) (tLst tNil))) : RefE X e (dD_ne i) := pe_weak h xne_t
theorem x_neT (h : PT X e (tTest (tOp (rNeD X.K) (tOp (rIx X.K) (tVar i) (tC (.int 0))) (tLst tNil)))) : RefT X e (dTest (dD_ne i)) := pt_weak h fun σ H Q q => xne_t σ H _ (tU_test σ H Q q)
def dD_last (i : Nat) : DE := fun ρ s => if isDeal ρ i = true then match s.1.getLast? with
  | some n => some (.int n, s)
  | none => none
  else none
theorem atI_neg1 {α : Type} {l : List α} {x : α} (h : l.getLast? = some x) : atI l (-1) = some x := by
  obtain ⟨ys, rfl⟩ := List.getLast?_eq_some_iff.mp h
  exact atI_last ys x
/-- deal[0][-1] -/
theorem x_last (h : PE X e (tOp (rIx X.K) (tOp (rIx X.K) (tVar i) (tC (.int 0))) (tUn (rU fun i => .int (-i)) (tC (.int 1))))) : RefE X e (dD_last i) := pe_weak h fun σ H Q ⟨ρ, s, d, s', w, F, e, a, k⟩ => by
  unfold dD_last at e
  split at e
  · next hd =>
    split at e
    · next n hn =>
      cases e
      obtain ⟨x, y, hw, h1, h2, h3, h4, h5, h6⟩ := a.deal (isDeal_eq hd)
      refine ⟨_, h1, .inl ⟨x, _, 0, .ref y, rfl, rfl, .of h5, atI0, 1, rfl, .inl ⟨y, _, -1, .int n, rfl, rfl, .of h6, ?_, k _ F H (.refl a.inn) a.dok rfl⟩⟩⟩
      exact atI_neg1 (by rw [List.getLast?_map, hn]; rfl)
    · cases e
  · cases e
theorem last_get {α : Type} {l : List α} {x : α} (h : l.getLast? = some x) : l[l.length - 1]? = some x := by
  obtain ⟨ys, rfl⟩ := List.getLast?_eq_some_iff.mp h
  simp
/-- what is left when the draws' list is turned -/
theorem deal_turn {w : Wd} {F H : Hp} {s : S} {x y : Addr} {ns : List Int} (hw : w = some (x, y)) (hs : Sub F H) (k : DOk w s F H) : Post w F H F (upd H y (.lst (ns.map V.int))) ∧ DOk w (ns, s.2) F (upd H y (.lst (ns.map V.int))) := by
  subst hw
  obtain ⟨h2, h3, h4, h5, h6⟩ := k
  refine ⟨⟨.refl F, fun b o hb => ?_, fun b o hb => .inl hb, fun b o hn hb => ?_, fun b hb => ?_⟩, h2, h3, h4, by rw [upd_ne h2]; exact h5, upd_same⟩
  · rw [upd_ne (ne_of_none hb h4)]; exact hs b o hb
  · rw [upd_ne (fun z => hn (by rw [z]; simp [dcells]))]; exact hb
  · by_cases hbD : b = y
    · subst hbD; rw [upd_same] at hb; cases hb
    · rw [upd_ne hbD] at hb; exact hb
theorem deal_turn1 {w : Wd} {F H : Hp} {s : S} {x y : Addr} {n : Int} (hw : w = some (x, y)) (hs : Sub F H) (k : DOk w s F H) : Post w F H F (upd H x (.lst [.ref y, .int n])) ∧ DOk w (s.1, n) F (upd H x (.lst [.ref y, .int n])) := by
  subst hw
  obtain ⟨h2, h3, h4, h5, h6⟩ := k
  refine ⟨⟨.refl F, fun b o hb => ?_, fun b o hb => .inl hb, fun b o hn hb => ?_, fun b hb => ?_⟩, h2, h3, h4, upd_same, by rw [upd_ne h2.symm]; exact h6⟩
  · rw [upd_ne (ne_of_none hb h3)]; exact hs b o hb
  · rw [upd_ne (fun z => hn (by rw [z]; simp [dcells]))]; exact hb
  · by_cases hbD : b = x
    · subst hbD; rw [upd_same] at hb; cases hb
    · rw [upd_ne hbD] at hb; exact hb
def dD_pop (i : Nat) : DE := fun ρ s => if isDeal ρ i = true then match s.1.getLast? with
  | some n => some (.int n, (s.1.dropLast, s.2))
  | none => none
  else none
/-- deal[0].pop() -/
theorem x_pop {K : Fg} (h : PE X e (tBM0 K "list" rPop (tOp (rIx X.K) (tVar i) (tC (.int 0))))) : RefE X e (dD_pop i) := pe_weak h fun σ H Q ⟨ρ, s, d, s', w, F, e, a, k⟩ => by
  unfold dD_pop at e
  split at e
  · next hd =>
    split at e
    · next n hn =>
      cases e
      obtain ⟨x, y, hw, h1, h2, h3, h4, h5, h6⟩ := a.deal (isDeal_eq hd)
      refine ⟨_, h1, .inl ⟨x, _, 0, .ref y, rfl, rfl, .of h5, atI0, .inl ⟨rfl, _, .of h6⟩, y, _, .int n, rfl, rfl, h6, ?_, ?_⟩⟩
      · exact last_get (by rw [List.getLast?_map, hn]; rfl)
      · have := deal_turn (ns := s.1.dropLast) hw a.inn a.dok
        rw [List.map_dropLast] at this
        exact k _ F _ this.1 this.2 rfl
    · cases e
  · cases e
def dD_get (i : Nat) : DE := fun ρ s => if isDeal ρ i = true then some (.int s.2, s) else none
/-- deal[1] -/
theorem x_get (h : PE X e (tOp (rIx X.K) (tVar i) (tC (.int 1)))) : RefE X e (dD_get i) := pe_weak h fun σ H Q ⟨ρ, s, d, s', w, F, e, a, k⟩ => by
  unfold dD_get at e
  split at e
  · next hd =>
    cases e
    obtain ⟨x, y, hw, h1, h2, h3, h4, h5, h6⟩ := a.deal (isDeal_eq hd)
    exact ⟨_, h1, .inl ⟨x, _, 1, .int s.2, rfl, rfl, .of h5, atI1, k _ F H (.refl a.inn) a.dok rfl⟩⟩
  · cases e
/-- deal[0].append(e) -/
def dD_app (i : Nat) (f : DE) : DS := fun ρ s => if isDeal (hide ρ) i = true then bnd (f (hide ρ) s) fun d s1 => match d with
    | .int n => if s1.1.length < lim then some (.nx ρ, (s1.1 ++ [n], s1.2)) else none
    | _ => none
  else none
theorem x_app {K : Fg} (h : PS X st (tDrop (tBM K "list" rAppend (tOp (rIx X.K) (tVar i) (tC (.int 0))) (tCons (tU X.K fe) tNil)))) : RefS X st (dD_app i fe) := ps_weak h fun E σ H ⟨ρ, s, o, s', w, B, F0, H0, F, e, I, k⟩ => by
  unfold dD_app at e
  split at e
  · next hd =>
    obtain ⟨d, s1, e1, e⟩ := bnd_eq e
    split at e
    · next n =>
      split at e
      · next hl =>
        cases e
        obtain ⟨x, y, hw, h1, h2, h3, h4, h5, h6⟩ := I.at.deal (isDeal_eq hd)
        refine ⟨_, h1, .inl ⟨x, _, 0, .ref y, rfl, rfl, .of h5, atI0, .inl ⟨rfl, _, .of h6⟩, hide ρ, s, _, s1, w, F, e1, I.at, fun v F1 H1 p1 k1 r1 => ?_⟩⟩
        have k1' := k1
        rw [hw] at k1'
        obtain ⟨g2, g3, g4, g5, g6⟩ := k1'
        refine ⟨y, _, v, rfl, rfl, g6, lim_lt (by rw [List.length_map]; exact hl), ?_⟩
        have r1' : v = V.int n := r1
        subst r1'
        have I1 := I.grow p1 k1
        have := deal_turn (ns := s1.1 ++ [n]) hw I1.post.inn k1
        rw [List.map_append] at this
        exact k _ F1 _ (I1.grow this.1 this.2)
      · cases e
    · cases e
  · cases e
/-- deal[1] = e -/
def dD_put (i : Nat) (f : DE) : DS := fun ρ s => if isDeal (hide ρ) i = true then bnd (f (hide ρ) s) fun d s1 => match d with
    | .int n => some (.nx ρ, (s1.1, n))
    | _ => none
  else none
theorem x_put (h : PS X st (tAsg (tU X.K fe) (gSub (tVar i) (tC (.int 1)) rSetL))) : RefS X st (dD_put i fe) := ps_weak h fun E σ H ⟨ρ, s, o, s', w, B, F0, H0, F, e, I, k⟩ => by
  unfold dD_put at e
  split at e
  · next hd =>
    obtain ⟨d, s1, e1, e⟩ := bnd_eq e
    split at e
    · next n =>
      cases e
      obtain ⟨x, y, hw, h1, h2, h3, h4, h5, h6⟩ := I.at.deal (isDeal_eq hd)
      refine ⟨hide ρ, s, _, s1, w, F, e1, I.at, fun v F1 H1 p1 k1 r1 => ?_⟩
      have k1' := k1
      rw [hw] at k1'
      obtain ⟨g2, g3, g4, g5, g6⟩ := k1'
      have r1' : v = V.int n := r1
      subst r1'
      refine ⟨_, h1, x, _, 1, 1, rfl, rfl, g5, rfl, ?_⟩
      have I1 := I.grow p1 k1
      have := deal_turn1 (n := n) hw I1.post.inn k1
      exact k _ F1 _ (I1.grow this.1 this.2)
    · cases e
  · cases e
end
section
variable {P : Program} {wd : World} {K : Fg} {mg : Str → Option Value} {base : Heap}
theorem fn_none {x : Str} {st : Stmt} {f : Addr} {fd : FuncData} {ps : List Str} (F : Fun K x x st f fd) (hm : mg x = some (.ref f)) (b : Binds K fd ps []) : Fn P wd K mg base 0 x ps (fun _ _ => none) :=
  ⟨f, fd, ⟨fun vs H Q E ⟨_, _, _, _, _, _, _, e, _⟩ => (nomatch e), fun A outer s H args us vs Q E hr he hb hv ⟨_, _, _, _, _, _, _, e, _⟩ => (nomatch e)⟩, hm, F.kp, b⟩
end
end Mp

set_option Elab.async false
set_option linter.all false
set_option maxRecDepth 100000
/-! Mp10: the law's own def -/
namespace Mp
open PySem L2
def spLaw (K : Fg) : Sp := fun vs H Q _ => ∃ (a : Addr) (ns : List Int), vs = [.ref a] ∧ SqL K H a (ns.map V.int) ∧ ns.length ≤ 63 ∧ ∀ H', Q (.bl true) H'
section
variable {P : Program} {wd : World} {K : Fg} {mg : Str → Option Value} {base : Heap}
/-- deal = .. ahead, then the rest, whatever the draws -/
theorem law_ok {st st1 : Stmt} {rest : List Stmt} {f : Addr} {fd : FuncData} {N : List Str} {k : Nat} {fdeal : DE} {den : DS} (F : Fun K "law" "law" st f fd) (Sc : FnScope N ["script"] (defScope st)) (hst : defBody st = st1 :: rest) (hN : 1 < N.length)
    (h1 : ∀ (cdv : Value) (A : Around) (outer : List PySem.Env) (s : Shared) (H : Hp) (E : XK), Room k (A.deeper (PyProof.Rows.envOfC "law" (defScope st) s.heap.objs.size f cdv)) → RefS (cxOf CX0 P wd K mg base N "law" (defScope st) f cdv A outer s H E).nox st1 (dSet 1 fdeal))
    (h2 : ∀ (cdv : Value) (A : Around) (outer : List PySem.Env) (s : Shared) (H : Hp) (E : XK), Room k (A.deeper (PyProof.Rows.envOfC "law" (defScope st) s.heap.objs.size f cdv)) → RefB (cxOf CX0 P wd K mg base N "law" (defScope st) f cdv A outer s H E).nox rest den)
    (hres : ∀ ns : List Int, ns.length ≤ 63 → ∃ (zs : List Int) (m : Int) (s' : S), fdeal (hide ([Sl.v (.scr ns)] ++ List.replicate (N.length - 1) Sl.none)) ([], 0) = some (.lst [.lst (zs.map D.int), .int m], ([], 0)) ∧
      den ((List.replicate N.length Sl.none).set 1 (.v .deal)) (zs, m) = some (.rt (.bl true), s')) : FnOk P wd K mg base CX0 (k + 1) f fd ["script"] (spLaw K) := by
  refine F.ok Sc (fun vs H Q E h => ?_) (fun cdv A outer s H vs Q E hr h => ?_)
  · obtain ⟨a, ns, rfl, _⟩ := h
    rfl
  · obtain ⟨a, ns, rfl, hS, hlen, q⟩ := h
    obtain ⟨zs, m, s', e1, e2⟩ := hres ns hlen
    rw [hst]
    refine ⟨_, pss_cons (h1 cdv A outer s H E hr) (h2 cdv A outer s H E hr), ?_⟩
    have I0 : SInv K none H H H ([Sl.v (.scr ns)] ++ List.replicate (N.length - 1) Sl.none) (L2.start N [.ref a]) ([], 0) H H :=
      start_inv (N := N) (ds := [.scr ns]) (K := K) (w := none) (F := H) (H := H) (s := ([], 0)) ⟨.ref a, [], rfl, ⟨a, rfl, hS⟩, rfl⟩ (.refl H) trivial
    have hl : ([Sl.v (.scr ns)] ++ List.replicate (N.length - 1) Sl.none).length = N.length := by simp; omega
    refine ⟨_, ([], 0), .nx (([Sl.v (.scr ns)] ++ List.replicate (N.length - 1) Sl.none).set 1 (.v (.lst [.lst (zs.map D.int), .int m]))), ([], 0), none, H, H, H, H, ?_, I0, fun σ' F' H' I' => ?_⟩
    · unfold dSet
      rw [e1, bnd_some, if_pos (by rw [hl]; exact hN)]
    · obtain ⟨v, v1, v2⟩ := I'.env 1 _ (List.getElem?_set_self (by rw [hl]; exact hN))
      obtain ⟨dl, vs, rfl, d1, d2⟩ := v2
      obtain ⟨u, r, rfl, ⟨b, us, rfl, b1, b2⟩, u2, r2, rfl, rfl, rfl⟩ := d2
      have z := Reps.ints b2
      subst z
      have hd := I'.post.inn _ _ d1
      have hb := I'.post.inn _ _ b1
      have ne : dl ≠ b := fun z => by
        subst z
        rw [d1] at b1
        cases zs with
        | nil => cases b1
        | cons n ns => cases b1
      refine ⟨(List.replicate N.length Sl.none).set 1 (.v .deal), (zs, m), _, s', some (dl, b), fun _ => none, fun _ => none, H', fun _ => none, e2, ⟨.refl (fun _ _ z => by cases z), ⟨ne, rfl, rfl, hd, hb⟩, fun i d z => ?_, fun i l z => ?_, fun i j l m a hij z => ?_, ?_, .refl _⟩, fun v F1 H1 _ _ r => ?_⟩
      · rcases set_get z with ⟨rfl, z, _⟩ | ⟨_, z⟩
        · cases z
          exact ⟨_, v1, dl, b, rfl, rfl⟩
        · have := List.eq_of_mem_replicate (List.mem_of_getElem? z); cases this
      · rcases set_get z with ⟨rfl, z, _⟩ | ⟨_, z⟩
        · cases z
        · have := List.eq_of_mem_replicate (List.mem_of_getElem? z); cases this
      · rcases set_get z with ⟨rfl, z, _⟩ | ⟨_, z⟩
        · cases z
        · have := List.eq_of_mem_replicate (List.mem_of_getElem? z); cases this
      · have := I'.len
        rw [List.length_set, hl] at this
        rw [this, List.length_set, List.length_replicate]
      · have r' : v = V.bl true := r
        rw [r']
        exact q H1
theorem walk {l : PySem.W.OpenLaw} {q : Program} {loose : List Str} {XP : (Str → Option Value) → Heap → Prop} {YP : World → Heap → Prop} {d : DefRec} {K : Params → PySem.W.Frag} {k : Nat} (hn : l.most = some 63) (hdf : d.params.defaults = []) (hr : Room k callerA)
    (hY : ∀ (w : World) (h : Heap), YP w h → (K w.params).In h)
    (F : ∀ (w : World) (mg : Str → Option Value) (fa : Addr) (h : Heap), (K w.params).In h → h.Ns mainGlobals mg → mg d.name = some (.ref fa) →
      ∃ fd : FuncData, (∀ (s : Shared) (u : Value), BindsTo s fd ⟨[u], []⟩ [("script", u)]) ∧ ∀ base : Heap, (K w.params).In base → base.Ns mainGlobals mg → FnOk l.prog w (K w.params) mg base CX0 k fa fd ["script"] (spLaw (K w.params))) :
    PySem.W.WalkO q loose XP YP l.row.toRowW d [] (fun f vs => PySem.call f vs) :=
  L2.walk_of (n := 63) (k := k) (x := "script") (CX := fun _ => CX0) (sp := fun w => spLaw (K w.params)) hn (by decide) hdf hr hY F (fun _ _ a ns hl _ hS => ⟨a, ns, rfl, hS, hl, fun _ => rfl⟩) fun _ _ _ _ _ z => z
end
end Mp

set_option Elab.async false
set_option linter.all false
set_option maxRecDepth 100000
/-! Mx: reading denotations: sizes, words for simp -/
namespace Mp
open PySem L2
def Bd (n : Nat) (a : Int) : Prop := a.natAbs < 2 ^ n
theorem Bd.mono {n m : Nat} {a : Int} (h : Bd n a) (e : n ≤ m) : Bd m a := Nat.lt_of_lt_of_le h (Nat.pow_le_pow_right (by decide) e)
theorem Bd.mul {n m : Nat} {a b : Int} (h : Bd n a) (k : Bd m b) : Bd (n + m) (a * b) := by
  unfold Bd at *
  rw [Int.natAbs_mul, Nat.pow_add]
  exact Nat.mul_lt_mul'' h k
theorem Bd.add {n m : Nat} {a b : Int} (h : Bd n a) (k : Bd m b) : Bd (n + m + 1) (a + b) := by
  unfold Bd at *
  have h1 : 2 ^ n ≤ 2 ^ (n + m) := Nat.pow_le_pow_right (by decide) (by omega)
  have h2 : 2 ^ m ≤ 2 ^ (n + m) := Nat.pow_le_pow_right (by decide) (by omega)
  have h3 := Int.natAbs_add_le a b
  rw [Nat.pow_succ]
  omega
theorem Bd.neg {n : Nat} {a : Int} (h : Bd n a) : Bd n (-a) := by
  unfold Bd at *
  rw [Int.natAbs_neg]; exact h
theorem Bd.sub {n m : Nat} {a b : Int} (h : Bd n a) (k : Bd m b) : Bd (n + m + 1) (a - b) := by
  rw [Int.sub_eq_add_neg]
  exact h.add k.neg
theorem Bd.lit {a : Int} (h : a.natAbs < 2 ^ 64) : Bd 64 a := h
theorem Bd.of_lt {n : Nat} {a : Int} (h : 0 ≤ a) (k : a < 2 ^ n) : Bd n a := by
  unfold Bd
  have : ((a.natAbs : Nat) : Int) = a := Int.natAbs_of_nonneg h
  have h2 : ((2 ^ n : Nat) : Int) = 2 ^ n := by simp
  omega
def Fits (a b : Int) : Prop := mulC a b = true
theorem Bd.log {n : Nat} {a : Int} (h : Bd n a) : a.natAbs.log2 < n + 1 := PySem.Flt.log2_lt_of (by omega) (h.mono (Nat.le_succ n))
theorem Fits.of {n m : Nat} {a b : Int} (h : Bd n a) (k : Bd m b) (e : n + m ≤ 900000) : Fits a b := by
  have x := h.log
  have y := k.log
  unfold Fits mulC
  exact decide_eq_true (by omega)
def DivOk (b : Int) : Prop := b ≠ 0 ∧ b.natAbs.log2 < 9000
theorem DivOk.of {n : Nat} {b : Int} (h : b ≠ 0) (k : Bd n b) (e : n ≤ 8990) : DivOk b := ⟨h, Nat.lt_of_lt_of_le k.log (by omega)⟩
theorem DivOk.pos {n : Nat} {b : Int} (h : 0 < b) (k : Bd n b) (e : n ≤ 8990) : DivOk b := DivOk.of (by omega) k e

theorem addD_ii (a b : Int) : addD (.int a) (.int b) = some (.int (a + b)) := rfl
theorem subD_ii (a b : Int) : subD (.int a) (.int b) = some (.int (a - b)) := rfl
theorem iaddD_ii (a b : Int) : iaddD (.int a) (.int b) = some (.int (a + b)) := rfl
theorem isubD_ii (a b : Int) : isubD (.int a) (.int b) = some (.int (a - b)) := rfl
theorem mulD_ii {a b : Int} (h : Fits a b) : mulD (.int a) (.int b) = some (.int (a * b)) := if_pos h
theorem fdivD_ii {a b : Int} (h : DivOk b) : fdivD (.int a) (.int b) = some (.int (a.fdiv b)) := if_pos (decide_eq_true (show b ≠ 0 ∧ b.natAbs.log2 < 9000 from h))
theorem modD_ii {a b : Int} (h : b ≠ 0) : modD (.int a) (.int b) = some (.int (a.fmod b)) := if_pos (decide_eq_true h)
theorem negD_i (a : Int) : negD (.int a) = some (.int (-a)) := rfl
theorem ltD_ii (a b : Int) : ltD (.int a) (.int b) = some (.bl (decide (a < b))) := rfl
theorem leD_ii (a b : Int) : leD (.int a) (.int b) = some (.bl (decide (a ≤ b))) := rfl
theorem gtD_ii (a b : Int) : gtD (.int a) (.int b) = some (.bl (decide (b < a))) := rfl
theorem geD_ii (a b : Int) : geD (.int a) (.int b) = some (.bl (decide (b ≤ a))) := rfl
theorem eqV_ii (a b : Int) : eqV (.int a) (.int b) = some (.bl (decide (a = b))) := rfl
theorem neV_ii (a b : Int) : neV (.int a) (.int b) = some (.bl (!decide (a = b))) := rfl
theorem ixt0 (x : D) (l : List D) : ixD (.tup (x :: l)) (.int 0) = some x := atI0
theorem ixt1 (x y : D) (l : List D) : ixD (.tup (x :: y :: l)) (.int 1) = some y := atI1
theorem ixt2 (x y z : D) (l : List D) : ixD (.tup (x :: y :: z :: l)) (.int 2) = some z := atI_nat (j := 2) rfl
theorem ixt3 (x y z u : D) (l : List D) : ixD (.tup (x :: y :: z :: u :: l)) (.int 3) = some u := atI_nat (j := 3) rfl
theorem ixl0 (x : D) (l : List D) : ixD (.lst (x :: l)) (.int 0) = some x := atI0
theorem ixl1 (x y : D) (l : List D) : ixD (.lst (x :: y :: l)) (.int 1) = some y := atI1
theorem ixl2 (x y z : D) (l : List D) : ixD (.lst (x :: y :: z :: l)) (.int 2) = some z := atI_nat (j := 2) rfl
theorem ixl3 (x y z u : D) (l : List D) : ixD (.lst (x :: y :: z :: u :: l)) (.int 3) = some u := atI_nat (j := 3) rfl
theorem gcdG_ii (a b : Int) : gcdG [.int a, .int b] = some (.int (Nat.gcd a.natAbs b.natAbs : Nat)) := rfl
theorem abs_i (a : Int) : g1 absD [.int a] = some (.int (if a < 0 then -a else a)) := rfl
theorem int_i (a : Int) : g1 intD [.int a] = some (.int a) := rfl
theorem tuple_l (l : List D) : g1 tupleD [.lst l] = some (.tup l) := rfl
theorem list_t (l : List D) : gL1 listL [.tup l] = some l := rfl
theorem list_l (l : List D) : gL1 listL [.lst l] = some l := rfl
theorem len_l (l : List D) : g1 lenD [.lst l] = some (.int l.length) := rfl
theorem len_t (l : List D) : g1 lenD [.tup l] = some (.int l.length) := rfl
theorem catL_ll {l m : List D} (h : l.length + m.length ≤ lim) : catL (.lst l) (.lst m) = some (l ++ m) := if_pos h
theorem bnd_none {α β : Type} {k : α → S → Option (β × S)} : bnd none k = none := rfl
/-- it ends, and Q holds of the end -/
def ok {α : Type} (x : Option (α × S)) (Q : α → S → Prop) : Prop := match x with
  | some (a, s) => Q a s
  | none => False
section
variable {α β : Type}
theorem ok_bnd {x : Option (α × S)} {k : α → S → Option (β × S)} {Q : β → S → Prop} : ok (bnd x k) Q = ok x (fun a s => ok (k a s) Q) := by
  cases x <;> rfl
theorem ok_some {a : α} {s : S} {Q : α → S → Prop} : ok (some (a, s)) Q = Q a s := rfl
theorem ok_lft {a : α} {s : S} {Q : α → S → Prop} : ok (lft (some a) s) Q = Q a s := rfl
theorem ok_if {c : Prop} [Decidable c] {x y : Option (α × S)} {Q : α → S → Prop} : ok (if c then x else y) Q = if c then ok x Q else ok y Q := by
  split <;> rfl
theorem ok_mul {a b : Int} {s : S} {Q : D → S → Prop} : ok (lft (mulD (.int a) (.int b)) s) Q = (Fits a b ∧ Q (.int (a * b)) s) := by
  by_cases h : Fits a b
  · rw [mulD_ii h]; exact propext ⟨fun q => ⟨h, q⟩, fun q => q.2⟩
  · have e : mulD (.int a) (.int b) = none := if_neg h
    rw [e]
    exact propext ⟨fun q => q.elim, fun q => h q.1⟩
theorem ok_fdiv {a b : Int} {s : S} {Q : D → S → Prop} : ok (lft (fdivD (.int a) (.int b)) s) Q = (DivOk b ∧ Q (.int (a.fdiv b)) s) := by
  by_cases h : DivOk b
  · rw [fdivD_ii h]; exact propext ⟨fun q => ⟨h, q⟩, fun q => q.2⟩
  · have e : fdivD (.int a) (.int b) = none := if_neg fun z => h (show b ≠ 0 ∧ b.natAbs.log2 < 9000 from of_decide_eq_true z)
    rw [e]
    exact propext ⟨fun q => q.elim, fun q => h q.1⟩
theorem ok_mod {a b : Int} {s : S} {Q : D → S → Prop} : ok (lft (modD (.int a) (.int b)) s) Q = (b ≠ 0 ∧ Q (.int (a.fmod b)) s) := by
  by_cases h : b ≠ 0
  · rw [modD_ii h]; exact propext ⟨fun q => ⟨h, q⟩, fun q => q.2⟩
  · have e : modD (.int a) (.int b) = none := if_neg fun z => h (of_decide_eq_true z)
    rw [e]
    exact propext ⟨fun q => q.elim, fun q => h q.1⟩
theorem ok_eq {x : Option (α × S)} {a : α} {s : S} (h : ok x fun r t => r = a ∧ t = s) : x = some (a, s) := by
  cases x with
  | none => exact h.elim
  | some p =>
    obtain ⟨q, t⟩ := p
    obtain ⟨h1, h2⟩ := h
    rw [show q = a from h1, show t = s from h2]
theorem ok_imp {x : Option (α × S)} {Q R : α → S → Prop} (h : ok x Q) (k : ∀ a s, Q a s → R a s) : ok x R := by
  cases x with
  | none => exact h.elim
  | some p => exact k _ _ h
theorem ok_of {x : Option (α × S)} {Q : α → S → Prop} (h : ok x Q) : ∃ a s, x = some (a, s) ∧ Q a s := by
  cases x with
  | none => exact h.elim
  | some p => exact ⟨p.1, p.2, rfl, h⟩
theorem ok_def {n : Nat} {f : DS} {l : List D} {s : S} {Q : D → S → Prop} : ok (dDef n f l s) Q = ok (f ((l.map Sl.v) ++ List.replicate (n - l.length) .none) s) (fun o t => match o with
  | .rt d => Q d t
  | .nx _ => Q .non t
  | _ => False) := by
  unfold dDef
  cases f ((l.map Sl.v) ++ List.replicate (n - l.length) .none) s with
  | none => rfl
  | some p =>
    obtain ⟨o, t⟩ := p
    cases o <;> rfl
end
end Mp

set_option Elab.async false
set_option linter.all false
set_option maxRecDepth 100000
/-! K03a: numbers of four letters, in lowest terms; their worths as rationals -/
namespace Mp
structure R4 where
  a : Int
  b : Int
  c : Int
  d : Int
abbrev E4 := R4 × Int
/-- the greatest common divisor, as it is reckoned -/
def g5 (r : R4) (l : Int) : Nat := Nat.gcd (Nat.gcd (Nat.gcd (Nat.gcd (Nat.gcd 0 r.a.natAbs) r.b.natAbs) r.c.natAbs) r.d.natAbs) l.natAbs
def prt (r : R4) (l : Int) : Int := if l < 0 then -(g5 r l : Int) else (g5 r l : Int)
def nf (r : R4) (l : Int) : E4 := (⟨r.a.fdiv (prt r l), r.b.fdiv (prt r l), r.c.fdiv (prt r l), r.d.fdiv (prt r l)⟩, l.fdiv (prt r l))
theorem g5_pos {r : R4} {l : Int} (h : l ≠ 0) : 0 < g5 r l := Nat.gcd_pos_of_pos_right _ (by omega)
theorem g5_l (r : R4) (l : Int) : (g5 r l : Int) ∣ l := Int.ofNat_dvd_left.mpr (Nat.gcd_dvd_right _ _)
theorem g5_d (r : R4) (l : Int) : (g5 r l : Int) ∣ r.d := Int.ofNat_dvd_left.mpr (Nat.dvd_trans (Nat.gcd_dvd_left _ _) (Nat.gcd_dvd_right _ _))
theorem g5_c (r : R4) (l : Int) : (g5 r l : Int) ∣ r.c := Int.ofNat_dvd_left.mpr (Nat.dvd_trans (Nat.dvd_trans (Nat.gcd_dvd_left _ _) (Nat.gcd_dvd_left _ _)) (Nat.gcd_dvd_right _ _))
theorem g5_b (r : R4) (l : Int) : (g5 r l : Int) ∣ r.b := Int.ofNat_dvd_left.mpr (Nat.dvd_trans (Nat.dvd_trans (Nat.dvd_trans (Nat.gcd_dvd_left _ _) (Nat.gcd_dvd_left _ _)) (Nat.gcd_dvd_left _ _)) (Nat.gcd_dvd_right _ _))
theorem g5_a (r : R4) (l : Int) : (g5 r l : Int) ∣ r.a := Int.ofNat_dvd_left.mpr (Nat.dvd_trans (Nat.dvd_trans (Nat.dvd_trans (Nat.dvd_trans (Nat.gcd_dvd_left _ _) (Nat.gcd_dvd_left _ _)) (Nat.gcd_dvd_left _ _)) (Nat.gcd_dvd_left _ _)) (Nat.gcd_dvd_right _ _))
theorem prt_dvd {r : R4} {l x : Int} (h : (g5 r l : Int) ∣ x) : prt r l ∣ x := by
  unfold prt
  split
  · exact Int.neg_dvd.mpr h
  · exact h
theorem prt_ne {r : R4} {l : Int} (h : l ≠ 0) : prt r l ≠ 0 := by
  have := g5_pos (r := r) h
  unfold prt
  split <;> omega
theorem fdiv_mul {x p : Int} (h : p ∣ x) : x.fdiv p * p = x := by
  rw [Int.fdiv_eq_ediv_of_dvd h]
  exact Int.ediv_mul_cancel h
theorem nf_a (r : R4) (l : Int) : (nf r l).1.a * prt r l = r.a := fdiv_mul (prt_dvd (g5_a r l))
theorem nf_b (r : R4) (l : Int) : (nf r l).1.b * prt r l = r.b := fdiv_mul (prt_dvd (g5_b r l))
theorem nf_c (r : R4) (l : Int) : (nf r l).1.c * prt r l = r.c := fdiv_mul (prt_dvd (g5_c r l))
theorem nf_d (r : R4) (l : Int) : (nf r l).1.d * prt r l = r.d := fdiv_mul (prt_dvd (g5_d r l))
theorem nf_l (r : R4) (l : Int) : (nf r l).2 * prt r l = l := fdiv_mul (prt_dvd (g5_l r l))
/-- in lowest terms, the bottom above 0 -/
def Nm (x : E4) : Prop := 0 < x.2 ∧ g5 x.1 x.2 = 1
def r4s (k : Int) (r : R4) : R4 := ⟨k * r.a, k * r.b, k * r.c, k * r.d⟩
theorem g5_scale (k : Int) (r : R4) (l : Int) : g5 (r4s k r) (k * l) = k.natAbs * g5 r l := by
  unfold g5 r4s
  simp only [Int.natAbs_mul]
  rw [← Nat.gcd_mul_left, ← Nat.gcd_mul_left, ← Nat.gcd_mul_left, ← Nat.gcd_mul_left, ← Nat.gcd_mul_left, Nat.mul_zero]
theorem nf_pos {r : R4} {l : Int} (h : l ≠ 0) : 0 < (nf r l).2 := by
  have h1 := nf_l r l
  have h2 := g5_pos (r := r) h
  unfold prt at h1
  split at h1
  · next hl =>
    by_cases hp : 0 < (nf r l).2
    · exact hp
    · exfalso
      have : (nf r l).2 * -(g5 r l : Int) ≥ 0 := by
        rw [Int.mul_neg]
        have : (nf r l).2 * (g5 r l : Int) ≤ 0 := Int.mul_nonpos_of_nonpos_of_nonneg (by omega) (by omega)
        omega
      omega
  · next hl =>
    by_cases hp : 0 < (nf r l).2
    · exact hp
    · exfalso
      have : (nf r l).2 * (g5 r l : Int) ≤ 0 := Int.mul_nonpos_of_nonpos_of_nonneg (by omega) (by omega)
      omega
theorem nf_nm {r : R4} {l : Int} (h : l ≠ 0) : Nm (nf r l) := by
  refine ⟨nf_pos h, ?_⟩
  have e : g5 (r4s (prt r l) (nf r l).1) (prt r l * (nf r l).2) = g5 r l := by
    unfold r4s
    rw [Int.mul_comm (prt r l) (nf r l).1.a, Int.mul_comm (prt r l) (nf r l).1.b, Int.mul_comm (prt r l) (nf r l).1.c, Int.mul_comm (prt r l) (nf r l).1.d, Int.mul_comm (prt r l) (nf r l).2, nf_a, nf_b, nf_c, nf_d, nf_l]
  rw [g5_scale] at e
  have hp : (prt r l).natAbs = g5 r l := by
    unfold prt
    split <;> simp
  rw [hp] at e
  have := g5_pos (r := r) h
  exact Nat.eq_of_mul_eq_mul_left this (by omega)
theorem nf_id {x : E4} (h : Nm x) : nf x.1 x.2 = x := by
  obtain ⟨⟨a, b, c, d⟩, l⟩ := x
  have hp : prt ⟨a, b, c, d⟩ l = 1 := by
    unfold prt
    have h1 : g5 ⟨a, b, c, d⟩ l = 1 := h.2
    have h2 : 0 < l := h.1
    rw [if_neg (by omega), h1]
    rfl
  show nf ⟨a, b, c, d⟩ l = _
  unfold nf
  rw [hp]
  simp [Int.fdiv_one]
theorem nf_scale {k : Int} (hk : 0 < k) (r : R4) (l : Int) : nf (r4s k r) (k * l) = nf r l := by
  have hp : prt (r4s k r) (k * l) = k * prt r l := by
    unfold prt
    rw [g5_scale]
    have h1 : (k.natAbs : Int) = k := Int.natAbs_of_nonneg (by omega)
    by_cases h : l < 0
    · have : k * l < 0 := Int.mul_neg_of_pos_of_neg hk h
      rw [if_pos h, if_pos this, Int.natCast_mul, h1, Int.mul_neg]
    · have : ¬ k * l < 0 := by
        have := Int.mul_nonneg (show 0 ≤ k by omega) (show 0 ≤ l by omega)
        omega
      rw [if_neg h, if_neg this, Int.natCast_mul, h1]
  unfold nf
  rw [hp]
  unfold r4s
  simp only [Int.mul_fdiv_mul_of_pos _ _ hk]
theorem nm_ext {x y : E4} (hx : Nm x) (hy : Nm y) (ha : x.1.a * y.2 = y.1.a * x.2) (hb : x.1.b * y.2 = y.1.b * x.2) (hc : x.1.c * y.2 = y.1.c * x.2) (hd : x.1.d * y.2 = y.1.d * x.2) : x = y := by
  have e : r4s y.2 x.1 = r4s x.2 y.1 := by
    unfold r4s
    rw [Int.mul_comm y.2, Int.mul_comm y.2, Int.mul_comm y.2, Int.mul_comm y.2, ha, hb, hc, hd, Int.mul_comm x.2, Int.mul_comm x.2, Int.mul_comm x.2, Int.mul_comm x.2]
  have h1 := nf_scale hy.1 x.1 x.2
  have h2 := nf_scale hx.1 y.1 y.2
  rw [e, Int.mul_comm y.2 x.2, h2, nf_id hx, nf_id hy] at h1
  exact h1.symm
/-! worths -/
structure Q4 where
  a : Rat
  b : Rat
  c : Rat
  d : Rat
theorem Q4.ext {x y : Q4} (h1 : x.a = y.a) (h2 : x.b = y.b) (h3 : x.c = y.c) (h4 : x.d = y.d) : x = y := by cases x; cases y; simp_all
def qv (r : R4) (l : Int) : Q4 := ⟨(r.a : Rat) / l, (r.b : Rat) / l, (r.c : Rat) / l, (r.d : Rat) / l⟩
def v4 (x : E4) : Q4 := qv x.1 x.2
theorem cross {a b c d : Int} (hb : b ≠ 0) (hd : d ≠ 0) (h : (a : Rat) / b = (c : Rat) / d) : a * d = c * b := by
  have h1 : (b : Rat) ≠ 0 := by simpa using hb
  have h2 : (d : Rat) ≠ 0 := by simpa using hd
  have h3 : (a : Rat) * d = c * b := by grind
  exact_mod_cast h3
theorem v4_inj {x y : E4} (hx : Nm x) (hy : Nm y) (h : v4 x = v4 y) : x = y := by
  have nx : x.2 ≠ 0 := by have := hx.1; omega
  have ny : y.2 ≠ 0 := by have := hy.1; omega
  exact nm_ext hx hy (cross nx ny (congrArg Q4.a h)) (cross nx ny (congrArg Q4.b h)) (cross nx ny (congrArg Q4.c h)) (cross nx ny (congrArg Q4.d h))
theorem div_of {a p x l n : Int} (hn : n ≠ 0) (hl : l ≠ 0) (h1 : x * p = a) (h2 : n * p = l) : (x : Rat) / n = (a : Rat) / l := by
  have e1 : (x : Rat) * p = a := by exact_mod_cast h1
  have e2 : (n : Rat) * p = l := by exact_mod_cast h2
  have h3 : (n : Rat) ≠ 0 := by simpa using hn
  have h4 : (l : Rat) ≠ 0 := by simpa using hl
  have h5 : (p : Rat) ≠ 0 := by
    intro z
    rw [z] at e2
    apply h4
    rw [← e2]
    grind
  rw [← e1, ← e2]
  grind
theorem v4_nf {r : R4} {l : Int} (h : l ≠ 0) : v4 (nf r l) = qv r l := by
  have hn : (nf r l).2 ≠ 0 := by have := nf_pos (r := r) h; omega
  exact Q4.ext (div_of hn h (nf_a r l) (nf_l r l)) (div_of hn h (nf_b r l) (nf_l r l)) (div_of hn h (nf_c r l) (nf_l r l)) (div_of hn h (nf_d r l) (nf_l r l))
/-! fractions -/
def fprt (t b : Int) : Int := if b < 0 then -(Nat.gcd t.natAbs b.natAbs : Int) else (Nat.gcd t.natAbs b.natAbs : Int)
def fr (t b : Int) : Int × Int := (t.fdiv (fprt t b), b.fdiv (fprt t b))
theorem fr_nf (t b : Int) : fr t b = ((nf ⟨t, 0, 0, 0⟩ b).1.a, (nf ⟨t, 0, 0, 0⟩ b).2) := by
  have e : g5 ⟨t, 0, 0, 0⟩ b = Nat.gcd t.natAbs b.natAbs := by
    unfold g5
    simp
  unfold fr fprt nf prt
  rw [e]
def NmF (x : Int × Int) : Prop := 0 < x.2 ∧ Nat.gcd x.1.natAbs x.2.natAbs = 1
theorem nmF_of {x : Int × Int} : NmF x ↔ Nm (⟨x.1, 0, 0, 0⟩, x.2) := by
  unfold NmF Nm g5
  simp
theorem nf_zero (t b : Int) : (nf ⟨t, 0, 0, 0⟩ b).1 = ⟨(nf ⟨t, 0, 0, 0⟩ b).1.a, 0, 0, 0⟩ := by
  unfold nf
  simp [Int.zero_fdiv]
theorem fr_nm {t b : Int} (h : b ≠ 0) : NmF (fr t b) := by
  rw [nmF_of, fr_nf]
  have := nf_nm (r := ⟨t, 0, 0, 0⟩) h
  rw [show nf ⟨t, 0, 0, 0⟩ b = (⟨(nf ⟨t, 0, 0, 0⟩ b).1.a, 0, 0, 0⟩, (nf ⟨t, 0, 0, 0⟩ b).2) from by rw [← nf_zero]] at this
  exact this
def vf (x : Int × Int) : Rat := (x.1 : Rat) / x.2
theorem vf_fr {t b : Int} (h : b ≠ 0) : vf (fr t b) = (t : Rat) / b := by
  rw [fr_nf]
  exact congrArg Q4.a (v4_nf (r := ⟨t, 0, 0, 0⟩) h)
theorem vf_inj {x y : Int × Int} (hx : NmF x) (hy : NmF y) (h : vf x = vf y) : x = y := by
  have nx : x.2 ≠ 0 := by have := hx.1; omega
  have ny : y.2 ≠ 0 := by have := hy.1; omega
  have e := nm_ext (nmF_of.mp hx) (nmF_of.mp hy) (cross nx ny h) (by simp) (by simp) (by simp)
  have e1 : x.1 = y.1 := congrArg (fun z : E4 => z.1.a) e
  have e2 : x.2 = y.2 := congrArg (fun z : E4 => z.2) e
  exact Prod.ext e1 e2
end Mp

set_option Elab.async false
set_option linter.all false
set_option maxRecDepth 100000
/-! K03b: sums, products, norms of elements; the laws in lowest terms -/
namespace Mp
def rmul (q p : Int) (x y : R4) : R4 :=
  ⟨x.a * y.a - q * x.b * y.b - p * x.c * y.c - q * p * x.d * y.d,
   x.a * y.b + x.b * y.a + p * (x.c * y.d - x.d * y.c),
   x.a * y.c + x.c * y.a + q * (x.d * y.b - x.b * y.d),
   x.a * y.d + x.d * y.a + x.b * y.c - x.c * y.b⟩
def radd (x y : E4) : R4 := ⟨x.1.a * y.2 + y.1.a * x.2, x.1.b * y.2 + y.1.b * x.2, x.1.c * y.2 + y.1.c * x.2, x.1.d * y.2 + y.1.d * x.2⟩
def rjoin (x y : E4) (m : Int) : R4 := ⟨x.1.a * y.2 + m * y.1.a * x.2, x.1.b * y.2 + m * y.1.b * x.2, x.1.c * y.2 + m * y.1.c * x.2, x.1.d * y.2 + m * y.1.d * x.2⟩
def addE (x y : E4) : E4 := nf (radd x y) (x.2 * y.2)
def joinE (x y : E4) (m : Int) : E4 := nf (rjoin x y m) (x.2 * y.2)
def oftE (x : E4) (t b : Int) : E4 := nf (r4s t x.1) (x.2 * b)
def lessE (x y : E4) : E4 := addE x (oftE y (-1) 1)
def mulE (q p : Int) (x y : E4) : E4 := nf (rmul q p x.1 y.1) (x.2 * y.2)
def turnR (r : R4) : R4 := ⟨r.a, -r.b, -r.c, -r.d⟩
def turnE (x : E4) : E4 := (turnR x.1, x.2)
def nrm (q p : Int) (r : R4) : Int := r.a * r.a + q * r.b * r.b + p * (r.c * r.c + q * r.d * r.d)
def trF (x : E4) : Int × Int := fr (2 * x.1.a) x.2
def nrF (q p : Int) (x : E4) : Int × Int := fr (nrm q p x.1) (x.2 * x.2)
def backE (q p : Int) (x : E4) : E4 := nf (r4s x.2 (turnR x.1)) (nrm q p x.1)
def flatE (f : Int × Int) : E4 := (⟨f.1, 0, 0, 0⟩, f.2)

/-! rationals -/
def qadd (x y : Q4) : Q4 := ⟨x.a + y.a, x.b + y.b, x.c + y.c, x.d + y.d⟩
def qs (k : Rat) (x : Q4) : Q4 := ⟨k * x.a, k * x.b, k * x.c, k * x.d⟩
def qmul (q p : Rat) (x y : Q4) : Q4 :=
  ⟨x.a * y.a - q * x.b * y.b - p * x.c * y.c - q * p * x.d * y.d,
   x.a * y.b + x.b * y.a + p * (x.c * y.d - x.d * y.c),
   x.a * y.c + x.c * y.a + q * (x.d * y.b - x.b * y.d),
   x.a * y.d + x.d * y.a + x.b * y.c - x.c * y.b⟩
def qt (x : Q4) : Q4 := ⟨x.a, -x.b, -x.c, -x.d⟩
def qn (q p : Rat) (x : Q4) : Rat := x.a * x.a + q * x.b * x.b + p * (x.c * x.c + q * x.d * x.d)

theorem Nm.ne {x : E4} (h : Nm x) : x.2 ≠ 0 := by have := h.1; omega
theorem Nm.neR {x : E4} (h : Nm x) : (x.2 : Rat) ≠ 0 := by simpa using h.ne
theorem NmF.ne {x : Int × Int} (h : NmF x) : x.2 ≠ 0 := by have := h.1; omega
theorem NmF.neR {x : Int × Int} (h : NmF x) : (x.2 : Rat) ≠ 0 := by simpa using h.ne
theorem Nm.mul {x y : E4} (h : Nm x) (k : Nm y) : x.2 * y.2 ≠ 0 := Int.mul_ne_zero h.ne k.ne
theorem addE_nm {x y : E4} (h : Nm x) (k : Nm y) : Nm (addE x y) := nf_nm (h.mul k)
theorem joinE_nm {x y : E4} {m : Int} (h : Nm x) (k : Nm y) : Nm (joinE x y m) := nf_nm (h.mul k)
theorem oftE_nm {x : E4} {t b : Int} (h : Nm x) (k : b ≠ 0) : Nm (oftE x t b) := nf_nm (Int.mul_ne_zero h.ne k)
theorem lessE_nm {x y : E4} (h : Nm x) (k : Nm y) : Nm (lessE x y) := addE_nm h (oftE_nm k (by decide))
theorem mulE_nm {q p : Int} {x y : E4} (h : Nm x) (k : Nm y) : Nm (mulE q p x y) := nf_nm (h.mul k)
theorem turnE_nm {x : E4} (h : Nm x) : Nm (turnE x) := by
  refine ⟨h.1, ?_⟩
  have := h.2
  unfold g5 at this
  show Nat.gcd (Nat.gcd (Nat.gcd (Nat.gcd (Nat.gcd 0 x.1.a.natAbs) (-x.1.b).natAbs) (-x.1.c).natAbs) (-x.1.d).natAbs) x.2.natAbs = 1
  rw [Int.natAbs_neg, Int.natAbs_neg, Int.natAbs_neg]
  exact this
theorem trF_nm {x : E4} (h : Nm x) : NmF (trF x) := fr_nm h.ne
theorem nrF_nm {q p : Int} {x : E4} (h : Nm x) : NmF (nrF q p x) := fr_nm (h.mul h)
theorem flatE_nm {f : Int × Int} (h : NmF f) : Nm (flatE f) := nmF_of.mp h
theorem one_nm (n : Int) : NmF (n, 1) := ⟨(by decide : (0 : Int) < 1), by simp⟩

theorem v4_add {x y : E4} (h : Nm x) (k : Nm y) : v4 (addE x y) = qadd (v4 x) (v4 y) := by
  unfold addE
  rw [v4_nf (h.mul k)]
  have h1 := h.neR
  have h2 := k.neR
  refine Q4.ext ?_ ?_ ?_ ?_ <;> (simp only [qv, radd, v4, qadd, Rat.intCast_mul, Rat.intCast_add]; grind)
theorem v4_join {x y : E4} {m : Int} (h : Nm x) (k : Nm y) : v4 (joinE x y m) = qadd (v4 x) (qs m (v4 y)) := by
  unfold joinE
  rw [v4_nf (h.mul k)]
  have h1 := h.neR
  have h2 := k.neR
  refine Q4.ext ?_ ?_ ?_ ?_ <;> (simp only [qv, rjoin, v4, qadd, qs, Rat.intCast_mul, Rat.intCast_add]; grind)
theorem v4_oft {x : E4} {t b : Int} (h : Nm x) (k : b ≠ 0) : v4 (oftE x t b) = qs ((t : Rat) / b) (v4 x) := by
  unfold oftE
  rw [v4_nf (Int.mul_ne_zero h.ne k)]
  have h1 := h.neR
  have h2 : (b : Rat) ≠ 0 := by simpa using k
  refine Q4.ext ?_ ?_ ?_ ?_ <;> (simp only [qv, r4s, v4, qs, Rat.intCast_mul]; grind)
theorem v4_less {x y : E4} (h : Nm x) (k : Nm y) : v4 (lessE x y) = qadd (v4 x) (qs (-1) (v4 y)) := by
  unfold lessE
  rw [v4_add h (oftE_nm k (by decide)), v4_oft k (by decide)]
  have e : ((-1 : Int) : Rat) / ((1 : Int) : Rat) = -1 := by grind
  rw [e]
theorem v4_mul {q p : Int} {x y : E4} (h : Nm x) (k : Nm y) : v4 (mulE q p x y) = qmul q p (v4 x) (v4 y) := by
  unfold mulE
  rw [v4_nf (h.mul k)]
  have h1 := h.neR
  have h2 := k.neR
  refine Q4.ext ?_ ?_ ?_ ?_ <;> (simp only [qv, rmul, v4, qmul, Rat.intCast_mul, Rat.intCast_add, Rat.intCast_sub]; grind)
theorem v4_turn (x : E4) : v4 (turnE x) = qt (v4 x) := by
  refine Q4.ext ?_ ?_ ?_ ?_ <;> (simp only [v4, qv, turnE, turnR, qt, Rat.intCast_neg]; try grind)
theorem v4_flat (f : Int × Int) : v4 (flatE f) = ⟨vf f, 0, 0, 0⟩ := by
  refine Q4.ext ?_ ?_ ?_ ?_ <;> (simp only [v4, qv, flatE, vf]; try grind)
theorem vf_tr {x : E4} (h : Nm x) : vf (trF x) = 2 * (v4 x).a := by
  unfold trF
  rw [vf_fr h.ne]
  simp only [v4, qv, Rat.intCast_mul]
  have := h.neR
  grind
theorem vf_nr {q p : Int} {x : E4} (h : Nm x) : vf (nrF q p x) = qn q p (v4 x) := by
  unfold nrF
  rw [vf_fr (h.mul h)]
  simp only [v4, qv, qn, nrm, Rat.intCast_mul, Rat.intCast_add]
  have := h.neR
  grind
theorem nrm_pos {q p : Int} {r : R4} (hq : 0 < q) (hp : 0 < p) (h : r ≠ ⟨0, 0, 0, 0⟩) : 0 < nrm q p r := by
  obtain ⟨a, b, c, d⟩ := r
  unfold nrm
  have sq : ∀ z : Int, 0 ≤ z * z := fun z => by
    rcases Int.le_total 0 z with k | k
    · exact Int.mul_nonneg k k
    · exact Int.mul_nonneg_of_nonpos_of_nonpos k k
  have sp : ∀ z : Int, z ≠ 0 → 0 < z * z := fun z hz => by
    rcases Int.lt_or_gt_of_ne hz with k | k
    · exact Int.mul_pos_of_neg_of_neg k k
    · exact Int.mul_pos k k
  have e1 : q * b * b = q * (b * b) := Int.mul_assoc _ _ _
  have e2 : q * d * d = q * (d * d) := Int.mul_assoc _ _ _
  simp only
  rw [e1, e2]
  have n1 := sq a
  have n2 := Int.mul_nonneg (Int.le_of_lt hq) (sq b)
  have n3 := sq c
  have n4 := Int.mul_nonneg (Int.le_of_lt hq) (sq d)
  have n5 := Int.mul_nonneg (Int.le_of_lt hp) (Int.add_nonneg n3 n4)
  by_cases ha : a = 0
  · by_cases hb : b = 0
    · have : 0 < c * c + q * (d * d) := by
        by_cases hc : c = 0
        · have hd : d ≠ 0 := fun hd => h (by rw [ha, hb, hc, hd])
          have := Int.mul_pos hq (sp d hd)
          omega
        · have := sp c hc
          omega
      have := Int.mul_pos hp this
      omega
    · have := Int.mul_pos hq (sp b hb)
      omega
  · have := sp a ha
    omega
theorem backE_nm {q p : Int} {x : E4} (hn : nrm q p x.1 ≠ 0) : Nm (backE q p x) := nf_nm hn
theorem v4_back {q p : Int} {x : E4} (h : Nm x) (hn : nrm q p x.1 ≠ 0) : v4 (backE q p x) = qs (1 / qn q p (v4 x)) (qt (v4 x)) := by
  have h1 := h.neR
  have h2 : ((nrm q p x.1 : Int) : Rat) ≠ 0 := by simpa using hn
  have e : qn q p (v4 x) = (nrm q p x.1 : Int) / ((x.2 : Rat) * x.2) := by
    rw [← vf_nr h]
    unfold nrF
    rw [vf_fr (h.mul h), Rat.intCast_mul]
  rw [e]
  unfold backE
  rw [v4_nf hn]
  refine Q4.ext ?_ ?_ ?_ ?_ <;> (simp only [qv, r4s, turnR, v4, qs, qt, Rat.intCast_mul, Rat.intCast_neg]; grind)
theorem qn_ne {q p : Int} {x : E4} (h : Nm x) (hn : nrm q p x.1 ≠ 0) : qn q p (v4 x) ≠ 0 := by
  have h1 := h.neR
  have h2 : ((nrm q p x.1 : Int) : Rat) ≠ 0 := by simpa using hn
  have e : qn q p (v4 x) = (nrm q p x.1 : Int) / ((x.2 : Rat) * x.2) := by
    rw [← vf_nr h]
    unfold nrF
    rw [vf_fr (h.mul h), Rat.intCast_mul]
  rw [e]
  grind

/-! the laws -/
section
variable {q p : Int} {x y z : E4} (hx : Nm x) (hy : Nm y) (hz : Nm z)
include hx
theorem l_flat_self : lessE x x = (⟨0, 0, 0, 0⟩, 1) := v4_inj (lessE_nm hx hx) (flatE_nm (one_nm 0)) (by
  rw [v4_less hx hx, show ((⟨0, 0, 0, 0⟩, 1) : E4) = flatE (0, 1) from rfl, v4_flat]
  refine Q4.ext ?_ ?_ ?_ ?_ <;> (simp only [qadd, qs, vf]; grind))
theorem l_twice : addE x x = oftE x 2 1 := v4_inj (addE_nm hx hx) (oftE_nm hx (by decide)) (by
  rw [v4_add hx hx, v4_oft hx (by decide)]
  refine Q4.ext ?_ ?_ ?_ ?_ <;> (simp only [qadd, qs]; grind))
theorem l_none {b : Int} (hb : b ≠ 0) : oftE x 0 b = (⟨0, 0, 0, 0⟩, 1) := v4_inj (oftE_nm hx hb) (flatE_nm (one_nm 0)) (by
  rw [v4_oft hx hb, show ((⟨0, 0, 0, 0⟩, 1) : E4) = flatE (0, 1) from rfl, v4_flat]
  refine Q4.ext ?_ ?_ ?_ ?_ <;> (simp only [qs, vf]; grind))
theorem r_norm : mulE q p x (turnE x) = flatE (nrF q p x) := v4_inj (mulE_nm hx (turnE_nm hx)) (flatE_nm (nrF_nm hx)) (by
  rw [v4_mul hx (turnE_nm hx), v4_turn, v4_flat, vf_nr hx]
  refine Q4.ext ?_ ?_ ?_ ?_ <;> (simp only [qmul, qt, qn]; grind))
theorem r_trace : addE x (turnE x) = flatE (trF x) := v4_inj (addE_nm hx (turnE_nm hx)) (flatE_nm (trF_nm hx)) (by
  rw [v4_add hx (turnE_nm hx), v4_turn, v4_flat, vf_tr hx]
  refine Q4.ext ?_ ?_ ?_ ?_ <;> (simp only [qadd, qt]; grind))
theorem r_quad : lessE (oftE x (trF x).1 (trF x).2) (mulE q p x x) = flatE (nrF q p x) :=
  have h1 := oftE_nm (t := (trF x).1) hx (trF_nm hx).ne
  have h2 := mulE_nm (q := q) (p := p) hx hx
  v4_inj (lessE_nm h1 h2) (flatE_nm (nrF_nm hx)) (by
  rw [v4_less h1 h2, v4_oft hx (trF_nm hx).ne, v4_mul hx hx, v4_flat, vf_nr hx, show ((trF x).1 : Rat) / ((trF x).2 : Int) = vf (trF x) from rfl, vf_tr hx]
  refine Q4.ext ?_ ?_ ?_ ?_ <;> (simp only [qadd, qs, qmul, qn]; grind))
theorem n_turn : nrF q p (turnE x) = nrF q p x := vf_inj (nrF_nm (turnE_nm hx)) (nrF_nm hx) (by
  rw [vf_nr (turnE_nm hx), vf_nr hx, v4_turn]
  simp only [qt, qn]; grind)
section
variable (hn : nrm q p x.1 ≠ 0)
include hn
theorem b_right : mulE q p x (backE q p x) = (⟨1, 0, 0, 0⟩, 1) := v4_inj (mulE_nm hx (backE_nm hn)) (flatE_nm (one_nm 1)) (by
  rw [v4_mul hx (backE_nm hn), v4_back hx hn, show ((⟨1, 0, 0, 0⟩, 1) : E4) = flatE (1, 1) from rfl, v4_flat]
  have := qn_ne hx hn
  revert this
  generalize v4 x = v
  intro this
  unfold qn at this ⊢
  refine Q4.ext ?_ ?_ ?_ ?_ <;> (simp only [qmul, qs, qt, vf]; grind))
theorem b_left : mulE q p (backE q p x) x = (⟨1, 0, 0, 0⟩, 1) := v4_inj (mulE_nm (backE_nm hn) hx) (flatE_nm (one_nm 1)) (by
  rw [v4_mul (backE_nm hn) hx, v4_back hx hn, show ((⟨1, 0, 0, 0⟩, 1) : E4) = flatE (1, 1) from rfl, v4_flat]
  have := qn_ne hx hn
  revert this
  generalize v4 x = v
  intro this
  unfold qn at this ⊢
  refine Q4.ext ?_ ?_ ?_ ?_ <;> (simp only [qmul, qs, qt, vf]; grind))
theorem qn_back : qn q p (v4 (backE q p x)) = 1 / qn q p (v4 x) := by
  rw [v4_back hx hn]
  have := qn_ne hx hn
  revert this
  generalize v4 x = v
  intro this
  have e : qn q p (qs (1 / qn q p v) (qt v)) = (1 / qn q p v) * (1 / qn q p v) * qn q p v := by
    simp only [qn, qs, qt]; grind
  rw [e]
  generalize qn q p v = k at this ⊢
  grind
theorem nrm_back : nrm q p (backE q p x).1 ≠ 0 := by
  intro e
  have h1 := qn_back hx hn
  have h2 := qn_ne hx hn
  have h3 : vf (nrF q p (backE q p x)) = 0 := by
    unfold nrF
    rw [vf_fr ((backE_nm hn).mul (backE_nm hn)), e]
    grind
  rw [vf_nr (backE_nm hn), h1] at h3
  grind
theorem b_back : backE q p (backE q p x) = x := v4_inj (backE_nm (nrm_back hx hn)) hx (by
  rw [v4_back (backE_nm hn) (nrm_back hx hn), qn_back hx hn, v4_back hx hn]
  have := qn_ne hx hn
  generalize v4 x = v at this ⊢
  generalize qn q p v = k at this ⊢
  refine Q4.ext ?_ ?_ ?_ ?_ <;> (simp only [qs, qt]; grind))
theorem nr0 : 0 < (nrF q p x).1 ∨ (nrF q p x).1 < 0 := by
  have h2 := qn_ne hx hn
  rw [← vf_nr hx] at h2
  have : (nrF q p x).1 ≠ 0 := by
    intro e
    apply h2
    unfold vf
    rw [e]
    grind
  omega
theorem b_turn : backE q p (turnE x) = turnE (backE q p x) := by
  have e : nrm q p (turnE x).1 = nrm q p x.1 := by
    show nrm q p (turnR x.1) = _
    simp only [nrm, turnR]
    grind
  have hn2 : nrm q p (turnE x).1 ≠ 0 := by rw [e]; exact hn
  refine v4_inj (backE_nm hn2) (turnE_nm (backE_nm hn)) ?_
  have e2 : qn q p (qt (v4 x)) = qn q p (v4 x) := by simp only [qn, qt]; grind
  rw [v4_back (turnE_nm hx) hn2, v4_turn, v4_turn, v4_back hx hn, e2]
  refine Q4.ext ?_ ?_ ?_ ?_ <;> (simp only [qs, qt]; try grind)
theorem b_norm (hp : 0 < nrm q p x.1) : nrF q p (backE q p x) = ((nrF q p x).2, (nrF q p x).1) := by
  have h1 := nrF_nm (q := q) (p := p) hx
  have hpos : 0 < (nrF q p x).1 := by
    have e := nf_a ⟨nrm q p x.1, 0, 0, 0⟩ (x.2 * x.2)
    have e0 : (nrF q p x).1 * prt ⟨nrm q p x.1, 0, 0, 0⟩ (x.2 * x.2) = nrm q p x.1 := by
      unfold nrF
      rw [fr_nf]
      exact e
    have hl : 0 < x.2 * x.2 := Int.mul_pos hx.1 hx.1
    have hpp : 0 ≤ prt ⟨nrm q p x.1, 0, 0, 0⟩ (x.2 * x.2) := by
      unfold prt
      rw [if_neg (by omega)]
      omega
    rcases nr0 hx hn with k | k
    · exact k
    · exfalso
      have := Int.mul_nonpos_of_nonpos_of_nonneg (Int.le_of_lt k) hpp
      omega
  refine vf_inj (nrF_nm (backE_nm hn)) ⟨hpos, ?_⟩ ?_
  · rw [Nat.gcd_comm]; exact h1.2
  · rw [vf_nr (backE_nm hn), qn_back hx hn, ← vf_nr hx]
    have a1 := h1.neR
    have a2 : ((nrF q p x).1 : Rat) ≠ 0 := by
      have : (nrF q p x).1 ≠ 0 := by omega
      simpa using this
    unfold vf
    grind
end
include hy
theorem lw_plus : addE x y = joinE x y 1 := v4_inj (addE_nm hx hy) (joinE_nm hx hy) (by
  rw [v4_add hx hy, v4_join hx hy]
  refine Q4.ext ?_ ?_ ?_ ?_ <;> (simp only [qadd, qs]; grind))
theorem lw_plus2 : addE y x = joinE x y 1 := v4_inj (addE_nm hy hx) (joinE_nm hx hy) (by
  rw [v4_add hy hx, v4_join hx hy]
  refine Q4.ext ?_ ?_ ?_ ?_ <;> (simp only [qadd, qs]; grind))
theorem lw_less : lessE x y = joinE x y (-1) := v4_inj (lessE_nm hx hy) (joinE_nm hx hy) (by
  rw [v4_less hx hy, v4_join hx hy]
  refine Q4.ext ?_ ?_ ?_ ?_ <;> (simp only [qadd, qs]; grind))
theorem p_turn : turnE (mulE q p x y) = mulE q p (turnE y) (turnE x) := v4_inj (turnE_nm (mulE_nm hx hy)) (mulE_nm (turnE_nm hy) (turnE_nm hx)) (by
  rw [v4_turn, v4_mul hx hy, v4_mul (turnE_nm hy) (turnE_nm hx), v4_turn, v4_turn]
  refine Q4.ext ?_ ?_ ?_ ?_ <;> (simp only [qmul, qt]; grind))
theorem p_trace : trF (mulE q p x y) = trF (mulE q p y x) := vf_inj (trF_nm (mulE_nm hx hy)) (trF_nm (mulE_nm hy hx)) (by
  rw [vf_tr (mulE_nm hx hy), vf_tr (mulE_nm hy hx), v4_mul hx hy, v4_mul hy hx]
  simp only [qmul]; grind)
theorem qn_mul (a b : Q4) (q p : Rat) : qn q p (qmul q p a b) = qn q p a * qn q p b := by
  simp only [qn, qmul]; grind
theorem p_norm : nrF q p (mulE q p x y) = fr ((nrF q p x).1 * (nrF q p y).1) ((nrF q p x).2 * (nrF q p y).2) := by
  have h1 := nrF_nm (q := q) (p := p) hx
  have h2 := nrF_nm (q := q) (p := p) hy
  have h3 := Int.mul_ne_zero h1.ne h2.ne
  refine vf_inj (nrF_nm (mulE_nm hx hy)) (fr_nm h3) ?_
  rw [vf_nr (mulE_nm hx hy), v4_mul hx hy, qn_mul hx hy, ← vf_nr hx, ← vf_nr hy, vf_fr h3, Rat.intCast_mul, Rat.intCast_mul]
  have a1 := h1.neR
  have a2 := h2.neR
  unfold vf
  grind
include hz
theorem p_assoc : mulE q p x (mulE q p y z) = mulE q p (mulE q p x y) z := v4_inj (mulE_nm hx (mulE_nm hy hz)) (mulE_nm (mulE_nm hx hy) hz) (by
  rw [v4_mul hx (mulE_nm hy hz), v4_mul hy hz, v4_mul (mulE_nm hx hy) hz, v4_mul hx hy]
  refine Q4.ext ?_ ?_ ?_ ?_ <;> (simp only [qmul]; grind))
theorem p_dist : mulE q p x (addE y z) = joinE (mulE q p x y) (mulE q p x z) 1 := v4_inj (mulE_nm hx (addE_nm hy hz)) (joinE_nm (mulE_nm hx hy) (mulE_nm hx hz)) (by
  rw [v4_mul hx (addE_nm hy hz), v4_add hy hz, v4_join (mulE_nm hx hy) (mulE_nm hx hz), v4_mul hx hy, v4_mul hx hz]
  refine Q4.ext ?_ ?_ ?_ ?_ <;> (simp only [qmul, qadd, qs]; grind))
theorem p_less : mulE q p (lessE x y) z = joinE (mulE q p x z) (mulE q p y z) (-1) := v4_inj (mulE_nm (lessE_nm hx hy) hz) (joinE_nm (mulE_nm hx hz) (mulE_nm hy hz)) (by
  rw [v4_mul (lessE_nm hx hy) hz, v4_less hx hy, v4_join (mulE_nm hx hz) (mulE_nm hy hz), v4_mul hx hz, v4_mul hy hz]
  refine Q4.ext ?_ ?_ ?_ ?_ <;> (simp only [qmul, qadd, qs]; grind))
theorem p_norm3 : nrF q p (mulE q p (mulE q p x y) z) = fr ((nrF q p x).1 * (nrF q p y).1 * (nrF q p z).1) ((nrF q p x).2 * (nrF q p y).2 * (nrF q p z).2) := by
  have h1 := nrF_nm (q := q) (p := p) hx
  have h2 := nrF_nm (q := q) (p := p) hy
  have h4 := nrF_nm (q := q) (p := p) hz
  have h3 := Int.mul_ne_zero (Int.mul_ne_zero h1.ne h2.ne) h4.ne
  have hxy := mulE_nm (q := q) (p := p) hx hy
  refine vf_inj (nrF_nm (mulE_nm hxy hz)) (fr_nm h3) ?_
  rw [vf_nr (mulE_nm hxy hz), v4_mul hxy hz, v4_mul hx hy, qn_mul hx hy, qn_mul hx hy, ← vf_nr hx, ← vf_nr hy, ← vf_nr hz, vf_fr h3, Rat.intCast_mul, Rat.intCast_mul, Rat.intCast_mul, Rat.intCast_mul]
  have a1 := h1.neR
  have a2 := h2.neR
  have a4 := h4.neR
  unfold vf
  grind
end
end Mp

set_option Elab.async false
set_option maxRecDepth 100000
set_option maxHeartbeats 4000000
namespace Mp
open PySem L2
def top (i : Nat) : Stmt := PySem.Challenge.pw_allideals_k03_whole_sums_products_and_no.main.body.getD i (.Pass ⟨0, 0, 0, 0⟩)
section
variable {P : Program} {wd : World} {K : Fg} {mg : Str → Option Value} {base : Heap}
abbrev s_fraction : Stmt := top 2
theorem sc_fraction : FnScope ["top", "bottom", "part"] ["top", "bottom"] (defScope s_fraction) := ⟨rfl, rfl, rfl, by decide +kernel, rfl, by decide +kernel, by decide +kernel⟩
noncomputable def den_fraction : DS :=
  (dSeq (dSet 2 (dArgs gcdG (dCons (dVar 0) (dCons (dVar 1) dNil))))
  (dSeq (dIfS (dTest (dBin ltD (dVar 1) (dC (.int 0)))) (dSet 2 (dUn negD (dVar 2))) dSkip)
  (dRet (dTup (dCons (dBin fdivD (dVar 0) (dVar 2)) (dCons (dBin fdivD (dVar 1) (dVar 2)) dNil))))))
noncomputable def G_fraction : List D → S → Option (D × S) := dDef 3 den_fraction
theorem ok_fraction {f : Addr} {fd : FuncData} (F : Fun K "fraction" "fraction" s_fraction f fd) (hm : mg "fraction" = some (.ref f)) (m_gcd : mg "gcd" = some (.builtin "math.gcd")) : Fn P wd K mg base 1 "fraction" ["top", "bottom"] G_fraction :=
  fn_mk F hm (F.binds (ps := ["top", "bottom"]) fun _ _ _ _ _ _ us hl => match us, hl with | [_, _], _ => rfl) sc_fraction fun cdv A outer s H E hr =>
  (b_cons (s_set (ps_set (i := 2) sc_fraction.nd rfl (.inl rfl) (r_cb opA_gcd (pe_callBfun cr_gcd (by rfl) m_gcd (a_cons (r_var (pv 0)) (a_cons (r_var (pv 1)) a_nil))))))
  (b_cons (s_if (r_cmpT op_lt op2_lt (r_var (pv 1)) r_int (nomark _)) (b_one (s_set (ps_set (i := 2) sc_fraction.nd rfl (.inl rfl) (r_neg (r_var (pv 2)))))) b_nil)
  (b_one (s_ret (ps_ret (r_tup (a_cons (r_fdiv (r_var (pv 0)) (r_var (pv 2))) (a_cons (r_fdiv (r_var (pv 1)) (r_var (pv 2))) a_nil))))))))

abbrev s_row_product : Stmt := top 4
theorem sc_row_product : FnScope ["rule", "one", "other", "plain", "of_i", "of_j", "of_k", "q", "p", "a", "b", "c", "d", "e", "f", "g", "h"] ["rule", "one", "other"] (defScope s_row_product) := ⟨rfl, rfl, rfl, by decide +kernel, rfl, by decide +kernel, by decide +kernel⟩
noncomputable def den_row_product : DS :=
  (dSeq (dUnp (gT 2 (gsC (gN 7) (gsC (gN 8) gsN))) (dVar 0))
  (dSeq (dUnp (gT 4 (gsC (gN 9) (gsC (gN 10) (gsC (gN 11) (gsC (gN 12) gsN))))) (dVar 1))
  (dSeq (dUnp (gT 4 (gsC (gN 13) (gsC (gN 14) (gsC (gN 15) (gsC (gN 16) gsN))))) (dVar 2))
  (dSeq (dSet 3 (dBin subD (dBin subD (dBin subD (dBin mulD (dVar 9) (dVar 13)) (dBin mulD (dBin mulD (dVar 7) (dVar 10)) (dVar 14))) (dBin mulD (dBin mulD (dVar 8) (dVar 11)) (dVar 15))) (dBin mulD (dBin mulD (dBin mulD (dVar 7) (dVar 8)) (dVar 12)) (dVar 16))))
  (dSeq (dSet 4 (dBin addD (dBin addD (dBin mulD (dVar 9) (dVar 14)) (dBin mulD (dVar 10) (dVar 13))) (dBin mulD (dVar 8) (dBin subD (dBin mulD (dVar 11) (dVar 16)) (dBin mulD (dVar 12) (dVar 15))))))
  (dSeq (dSet 5 (dBin addD (dBin addD (dBin mulD (dVar 9) (dVar 15)) (dBin mulD (dVar 11) (dVar 13))) (dBin mulD (dVar 7) (dBin subD (dBin mulD (dVar 12) (dVar 14)) (dBin mulD (dVar 10) (dVar 16))))))
  (dSeq (dSet 6 (dBin subD (dBin addD (dBin addD (dBin mulD (dVar 9) (dVar 16)) (dBin mulD (dVar 12) (dVar 13))) (dBin mulD (dVar 10) (dVar 15))) (dBin mulD (dVar 11) (dVar 14))))
  (dRet (dFrz (dLst (dCons (dVar 3) (dCons (dVar 4) (dCons (dVar 5) (dCons (dVar 6) dNil))))))))))))))
noncomputable def G_row_product : List D → S → Option (D × S) := dDef 17 den_row_product
theorem ok_row_product {f : Addr} {fd : FuncData} (F : Fun K "row_product" "row_product" s_row_product f fd) (hm : mg "row_product" = some (.ref f)) : Fn P wd K mg base 1 "row_product" ["rule", "one", "other"] G_row_product :=
  fn_mk F hm (F.binds (ps := ["rule", "one", "other"]) fun _ _ _ _ _ _ us hl => match us, hl with | [_, _, _], _ => rfl) sc_row_product fun cdv A outer s H E hr =>
  (b_cons (s_unp (ps_asg (r_var (pv 0)) (g_tup rfl (gs_cons (g_name (pg_name (i := 7) sc_row_product.nd rfl (.inl rfl))) (gs_cons (g_name (pg_name (i := 8) sc_row_product.nd rfl (.inl rfl))) gs_nil)))))
  (b_cons (s_unp (ps_asg (r_var (pv 1)) (g_tup rfl (gs_cons (g_name (pg_name (i := 9) sc_row_product.nd rfl (.inl rfl))) (gs_cons (g_name (pg_name (i := 10) sc_row_product.nd rfl (.inl rfl))) (gs_cons (g_name (pg_name (i := 11) sc_row_product.nd rfl (.inl rfl))) (gs_cons (g_name (pg_name (i := 12) sc_row_product.nd rfl (.inl rfl))) gs_nil)))))))
  (b_cons (s_unp (ps_asg (r_var (pv 2)) (g_tup rfl (gs_cons (g_name (pg_name (i := 13) sc_row_product.nd rfl (.inl rfl))) (gs_cons (g_name (pg_name (i := 14) sc_row_product.nd rfl (.inl rfl))) (gs_cons (g_name (pg_name (i := 15) sc_row_product.nd rfl (.inl rfl))) (gs_cons (g_name (pg_name (i := 16) sc_row_product.nd rfl (.inl rfl))) gs_nil)))))))
  (b_cons (s_set (ps_set (i := 3) sc_row_product.nd rfl (.inl rfl) (r_sub (r_sub (r_sub (r_mul (r_var (pv 9)) (r_var (pv 13))) (r_mul (r_mul (r_var (pv 7)) (r_var (pv 10))) (r_var (pv 14)))) (r_mul (r_mul (r_var (pv 8)) (r_var (pv 11))) (r_var (pv 15)))) (r_mul (r_mul (r_mul (r_var (pv 7)) (r_var (pv 8))) (r_var (pv 12))) (r_var (pv 16))))))
  (b_cons (s_set (ps_set (i := 4) sc_row_product.nd rfl (.inl rfl) (r_add (r_add (r_mul (r_var (pv 9)) (r_var (pv 14))) (r_mul (r_var (pv 10)) (r_var (pv 13)))) (r_mul (r_var (pv 8)) (r_sub (r_mul (r_var (pv 11)) (r_var (pv 16))) (r_mul (r_var (pv 12)) (r_var (pv 15))))))))
  (b_cons (s_set (ps_set (i := 5) sc_row_product.nd rfl (.inl rfl) (r_add (r_add (r_mul (r_var (pv 9)) (r_var (pv 15))) (r_mul (r_var (pv 11)) (r_var (pv 13)))) (r_mul (r_var (pv 7)) (r_sub (r_mul (r_var (pv 12)) (r_var (pv 14))) (r_mul (r_var (pv 10)) (r_var (pv 16))))))))
  (b_cons (s_set (ps_set (i := 6) sc_row_product.nd rfl (.inl rfl) (r_sub (r_add (r_add (r_mul (r_var (pv 9)) (r_var (pv 16))) (r_mul (r_var (pv 12)) (r_var (pv 13)))) (r_mul (r_var (pv 10)) (r_var (pv 15)))) (r_mul (r_var (pv 11)) (r_var (pv 14))))))
  (b_one (s_ret (ps_ret (r_frz (l_lst (a_cons (r_var (pv 3)) (a_cons (r_var (pv 4)) (a_cons (r_var (pv 5)) (a_cons (r_var (pv 6)) a_nil))))))))))))))))

abbrev s_turned_row : Stmt := top 5
theorem sc_turned_row : FnScope ["row"] ["row"] (defScope s_turned_row) := ⟨rfl, rfl, rfl, by decide +kernel, rfl, by decide +kernel, by decide +kernel⟩
noncomputable def den_turned_row : DS :=
  (dRet (dFrz (dLst (dCons (dBin ixD (dVar 0) (dC (.int 0))) (dCons (dUn negD (dBin ixD (dVar 0) (dC (.int 1)))) (dCons (dUn negD (dBin ixD (dVar 0) (dC (.int 2)))) (dCons (dUn negD (dBin ixD (dVar 0) (dC (.int 3)))) dNil)))))))
noncomputable def G_turned_row : List D → S → Option (D × S) := dDef 1 den_turned_row
theorem ok_turned_row {f : Addr} {fd : FuncData} (F : Fun K "turned_row" "turned_row" s_turned_row f fd) (hm : mg "turned_row" = some (.ref f)) : Fn P wd K mg base 1 "turned_row" ["row"] G_turned_row :=
  fn_mk F hm (F.binds (ps := ["row"]) fun _ _ _ _ _ _ us hl => match us, hl with | [_], _ => rfl) sc_turned_row fun cdv A outer s H E hr =>
  (b_one (s_ret (ps_ret (r_frz (l_lst (a_cons (r_item (r_var (pv 0)) r_int (fun _ _ => rfl)) (a_cons (r_neg (r_item (r_var (pv 0)) r_int (fun _ _ => rfl))) (a_cons (r_neg (r_item (r_var (pv 0)) r_int (fun _ _ => rfl))) (a_cons (r_neg (r_item (r_var (pv 0)) r_int (fun _ _ => rfl))) a_nil)))))))))

abbrev s_common_divisor : Stmt := top 8
theorem sc_common_divisor : FnScope ["numbers", "found", "number"] ["numbers"] (defScope s_common_divisor) := ⟨rfl, rfl, rfl, by decide +kernel, rfl, by decide +kernel, by decide +kernel⟩
noncomputable def den_common_divisor : DS :=
  (dSeq (dSet 1 (dC (.int 0)))
  (dSeq (dFor (dItems (dVar 0)) (gN 2) (dSet 1 (dArgs gcdG (dCons (dVar 1) (dCons (dVar 2) dNil)))))
  (dRet (dVar 1))))
noncomputable def G_common_divisor : List D → S → Option (D × S) := dDef 3 den_common_divisor
theorem ok_common_divisor {f : Addr} {fd : FuncData} (F : Fun K "common_divisor" "common_divisor" s_common_divisor f fd) (hm : mg "common_divisor" = some (.ref f)) (m_gcd : mg "gcd" = some (.builtin "math.gcd")) : Fn P wd K mg base 1 "common_divisor" ["numbers"] G_common_divisor :=
  fn_mk F hm (F.binds (ps := ["numbers"]) fun _ _ _ _ _ _ us hl => match us, hl with | [_], _ => rfl) sc_common_divisor fun cdv A outer s H E hr =>
  (b_cons (s_set (ps_set (i := 1) sc_common_divisor.nd rfl (.inl rfl) r_int))
  (b_cons (s_for PassesOwn.never rfl (i_seq (r_var (pv 0))) (g_name (pg_name (i := 2) sc_common_divisor.nd rfl (.inl rfl))) (b_one (s_set (ps_set (i := 1) sc_common_divisor.nd rfl (.inl rfl) (r_cb opA_gcd (pe_callBfun cr_gcd (by rfl) m_gcd (a_cons (r_var (pv 1)) (a_cons (r_var (pv 2)) a_nil))))))))
  (b_one (s_ret (ps_ret (r_var (pv 1)))))))

abbrev s_row_times : Stmt := top 9
theorem sc_row_times : FnScope ["row", "number", "entry"] ["row", "number"] (defScope s_row_times) := ⟨rfl, rfl, rfl, by decide +kernel, rfl, by decide +kernel, by decide +kernel⟩
noncomputable def den_row_times : DS :=
  (dRet (dFrz (dComp (dItems (dVar 0)) [2] (gN 2) dYes (dBin mulD (dVar 1) (dVar 2)))))
noncomputable def G_row_times : List D → S → Option (D × S) := dDef 3 den_row_times
theorem ok_row_times {f : Addr} {fd : FuncData} (F : Fun K "row_times" "row_times" s_row_times f fd) (hm : mg "row_times" = some (.ref f)) : Fn P wd K mg base 1 "row_times" ["row", "number"] G_row_times :=
  fn_mk F hm (F.binds (ps := ["row", "number"]) fun _ _ _ _ _ _ us hl => match us, hl with | [_, _], _ => rfl) sc_row_times fun cdv A outer s H E hr =>
  (b_one (s_ret (ps_ret (r_frz (l_lc (own := [("entry", 2)]) rfl sc_row_times.nd (i_seq (r_var (pv 0))) (blkOk_by (own := [("entry", 2)]) (N := ["row", "number", "entry"]) (sc := defScope s_row_times) (by decide +kernel)) (fun _ _ _ _ _ => (g_name (pg_name (i := 2) sc_row_times.nd rfl (.inl rfl)))) (fun _ _ _ _ _ => ts_nil) (fun _ _ _ _ _ => (r_mul (r_var (pv 1)) (r_var (pv 2)))))))))

abbrev s_element : Stmt := top 11
theorem sc_element : FnScope ["row", "bottom", "part", "number"] ["row", "bottom"] (defScope s_element) := ⟨rfl, rfl, rfl, by decide +kernel, rfl, by decide +kernel, by decide +kernel⟩
noncomputable def den_element : DS :=
  (dSeq (dSet 2 (dCall G_common_divisor (dCons (dFrz (lBin catL (dFrz (lArgs (gL1 listL) (dCons (dVar 0) dNil))) (dFrz (dLst (dCons (dVar 1) dNil))))) dNil)))
  (dSeq (dIfS (dTest (dBin ltD (dVar 1) (dC (.int 0)))) (dSet 2 (dUn negD (dVar 2))) dSkip)
  (dRet (dTup (dCons (dArgs (g1 tupleD) (dCons (dFrz (dComp (dItems (dVar 0)) [3] (gN 3) dYes (dBin fdivD (dVar 3) (dVar 2)))) dNil)) (dCons (dBin fdivD (dVar 1) (dVar 2)) dNil))))))
noncomputable def G_element : List D → S → Option (D × S) := dDef 4 den_element
theorem kw_element {f : Addr} {fd : FuncData} (F : Fun K "element" "element" s_element f fd) : KwOk fd ["row", "bottom"] := by
  obtain ⟨oc, od, kV, doc, pm, an, cdv, ct, osl, rfl, lk, hcd⟩ := F.ex
  intro s us ws h
  rcases us with _ | ⟨a2, _ | ⟨a1, _ | ⟨a0, _⟩⟩⟩ <;> rcases ws with _ | ⟨b2, _ | ⟨b1, _ | ⟨b0, _⟩⟩⟩ <;> first | (exfalso; simp only [List.length_cons, List.length_nil] at h; omega) | exact .of_eq rfl
theorem ok_element {f : Addr} {fd : FuncData} (F : Fun K "element" "element" s_element f fd) (hm : mg "element" = some (.ref f)) (F_common_divisor : Fn P wd K mg base 1 "common_divisor" ["numbers"] G_common_divisor) (m_list : mg "list" = none) (m_tuple : mg "tuple" = none) : FnK P wd K mg base 2 "element" ["row", "bottom"] G_element :=
  fnk_mk F hm (F.binds (ps := ["row", "bottom"]) fun _ _ _ _ _ _ us hl => match us, hl with | [_, _], _ => rfl) (kw_element F) sc_element fun cdv A outer s H E hr =>
  (b_cons (s_set (ps_set (i := 2) sc_element.nd rfl (.inr rfl) (r_call F_common_divisor hr (by decide) (by rfl) (a_cons (r_frz (l_cat (r_frz (l_cb opLA_list (pe_callTy call_list_of (by rfl) m_list (by decide +kernel) (a_cons (r_var (pv 0)) a_nil)))) (r_frz (l_lst (a_cons (r_var (pv 1)) a_nil))))) a_nil) rfl (dCons_len dNil_len))))
  (b_cons (s_if (r_cmpT op_lt op2_lt (r_var (pv 1)) r_int (nomark _)) (b_one (s_set (ps_set (i := 2) sc_element.nd rfl (.inr rfl) (r_neg (r_var (pv 2)))))) b_nil)
  (b_one (s_ret (ps_ret (r_tup (a_cons (r_cb opA_tuple (pe_callTy call_tuple_of (by rfl) m_tuple (by decide +kernel) (a_cons (r_frz (l_lc (own := [("number", 3)]) rfl sc_element.nd (i_seq (r_var (pv 0))) (blkOk_by (own := [("number", 3)]) (N := ["row", "bottom", "part", "number"]) (sc := defScope s_element) (by decide +kernel)) (fun _ _ _ _ _ => (g_name (pg_name (i := 3) sc_element.nd rfl (.inl rfl)))) (fun _ _ _ _ _ => ts_nil) (fun _ _ _ _ _ => (r_fdiv (r_var (pv 3)) (r_var (pv 2)))))) a_nil))) (a_cons (r_fdiv (r_var (pv 1)) (r_var (pv 2))) a_nil))))))))

abbrev s_whole : Stmt := top 12
theorem sc_whole : FnScope ["number"] ["number"] (defScope s_whole) := ⟨rfl, rfl, rfl, by decide +kernel, rfl, by decide +kernel, by decide +kernel⟩
noncomputable def den_whole : DS :=
  (dRet (dTup (dCons (dTup (dCons (dVar 0) (dCons (dC (.int 0)) (dCons (dC (.int 0)) (dCons (dC (.int 0)) dNil))))) (dCons (dC (.int 1)) dNil))))
noncomputable def G_whole : List D → S → Option (D × S) := dDef 1 den_whole
theorem ok_whole {f : Addr} {fd : FuncData} (F : Fun K "whole" "whole" s_whole f fd) (hm : mg "whole" = some (.ref f)) : Fn P wd K mg base 1 "whole" ["number"] G_whole :=
  fn_mk F hm (F.binds (ps := ["number"]) fun _ _ _ _ _ _ us hl => match us, hl with | [_], _ => rfl) sc_whole fun cdv A outer s H E hr =>
  (b_one (s_ret (ps_ret (r_tup (a_cons (r_tup (a_cons (r_var (pv 0)) (a_cons r_int (a_cons r_int (a_cons r_int a_nil))))) (a_cons r_int a_nil))))))

abbrev s_plus : Stmt := top 13
theorem sc_plus : FnScope ["one", "other", "row", "low", "other_row", "other_low", "at"] ["one", "other"] (defScope s_plus) := ⟨rfl, rfl, rfl, by decide +kernel, rfl, by decide +kernel, by decide +kernel⟩
noncomputable def den_plus : DS :=
  (dSeq (dUnp (gT 2 (gsC (gT 2 (gsC (gN 2) (gsC (gN 3) gsN))) (gsC (gT 2 (gsC (gN 4) (gsC (gN 5) gsN))) gsN))) (dTup (dCons (dVar 0) (dCons (dVar 1) dNil))))
  (dRet (dCall G_element (dCons (dFrz (dComp (dRng1 (dCons (dC (.int 4)) dNil)) [6] (gN 6) dYes (dBin addD (dBin mulD (dBin ixD (dVar 2) (dVar 6)) (dVar 5)) (dBin mulD (dBin ixD (dVar 4) (dVar 6)) (dVar 3))))) (dCons (dBin mulD (dVar 3) (dVar 5)) dNil)))))
noncomputable def G_plus : List D → S → Option (D × S) := dDef 7 den_plus
theorem kw_plus {f : Addr} {fd : FuncData} (F : Fun K "plus" "plus" s_plus f fd) : KwOk fd ["one", "other"] := by
  obtain ⟨oc, od, kV, doc, pm, an, cdv, ct, osl, rfl, lk, hcd⟩ := F.ex
  intro s us ws h
  rcases us with _ | ⟨a2, _ | ⟨a1, _ | ⟨a0, _⟩⟩⟩ <;> rcases ws with _ | ⟨b2, _ | ⟨b1, _ | ⟨b0, _⟩⟩⟩ <;> first | (exfalso; simp only [List.length_cons, List.length_nil] at h; omega) | exact .of_eq rfl
theorem ok_plus {f : Addr} {fd : FuncData} (F : Fun K "plus" "plus" s_plus f fd) (hm : mg "plus" = some (.ref f)) (F_element : Fn P wd K mg base 2 "element" ["row", "bottom"] G_element) (m_range : mg "range" = none) (c_WIDE : ∃ t, mg "WIDE" = some (.int 4 t)) : FnK P wd K mg base 3 "plus" ["one", "other"] G_plus :=
  fnk_mk F hm (F.binds (ps := ["one", "other"]) fun _ _ _ _ _ _ us hl => match us, hl with | [_, _], _ => rfl) (kw_plus F) sc_plus fun cdv A outer s H E hr =>
  (b_cons (s_unp (ps_asg (r_tup (a_cons (r_var (pv 0)) (a_cons (r_var (pv 1)) a_nil))) (g_tup rfl (gs_cons (g_tup rfl (gs_cons (g_name (pg_name (i := 2) sc_plus.nd rfl (.inr rfl))) (gs_cons (g_name (pg_name (i := 3) sc_plus.nd rfl (.inr rfl))) gs_nil))) (gs_cons (g_tup rfl (gs_cons (g_name (pg_name (i := 4) sc_plus.nd rfl (.inr rfl))) (gs_cons (g_name (pg_name (i := 5) sc_plus.nd rfl (.inr rfl))) gs_nil))) gs_nil)))))
  (b_one (s_ret (ps_ret (r_call F_element hr (by decide) (by rfl) (a_cons (r_frz (l_lc (own := [("at", 6)]) rfl sc_plus.nd (i_rng1 (by rfl) m_range (a_cons (r_k (by rfl) c_WIDE) a_nil)) (blkOk_by (own := [("at", 6)]) (N := ["one", "other", "row", "low", "other_row", "other_low", "at"]) (sc := defScope s_plus) (by decide +kernel)) (fun _ _ _ _ _ => (g_name (pg_name (i := 6) sc_plus.nd rfl (.inl rfl)))) (fun _ _ _ _ _ => ts_nil) (fun _ _ _ _ _ => (r_add (r_mul (r_item (r_var (pv 2)) (r_var (pv 6)) (fun _ _ => rfl)) (r_var (pv 5))) (r_mul (r_item (r_var (pv 4)) (r_var (pv 6)) (fun _ _ => rfl)) (r_var (pv 3))))))) (a_cons (r_mul (r_var (pv 3)) (r_var (pv 5))) a_nil)) rfl (dCons_len (dCons_len dNil_len)))))))

abbrev s_often : Stmt := top 14
theorem sc_often : FnScope ["one", "top", "bottom"] ["one", "top", "bottom"] (defScope s_often) := ⟨rfl, rfl, rfl, by decide +kernel, rfl, by decide +kernel, by decide +kernel⟩
noncomputable def den_often : DS :=
  (dRet (dCall G_element (dCons (dCall G_row_times (dCons (dBin ixD (dVar 0) (dC (.int 0))) (dCons (dVar 1) dNil))) (dCons (dBin mulD (dBin ixD (dVar 0) (dC (.int 1))) (dVar 2)) dNil))))
noncomputable def G_often : List D → S → Option (D × S) := dDef 3 den_often
theorem kw_often {f : Addr} {fd : FuncData} (F : Fun K "often" "often" s_often f fd) : KwOk fd ["one", "top", "bottom"] := by
  obtain ⟨oc, od, kV, doc, pm, an, cdv, ct, osl, rfl, lk, hcd⟩ := F.ex
  intro s us ws h
  rcases us with _ | ⟨a3, _ | ⟨a2, _ | ⟨a1, _ | ⟨a0, _⟩⟩⟩⟩ <;> rcases ws with _ | ⟨b3, _ | ⟨b2, _ | ⟨b1, _ | ⟨b0, _⟩⟩⟩⟩ <;> first | (exfalso; simp only [List.length_cons, List.length_nil] at h; omega) | exact .of_eq rfl
theorem ok_often {f : Addr} {fd : FuncData} (F : Fun K "often" "often" s_often f fd) (hm : mg "often" = some (.ref f)) (F_element : Fn P wd K mg base 2 "element" ["row", "bottom"] G_element) (F_row_times : Fn P wd K mg base 1 "row_times" ["row", "number"] G_row_times) : FnK P wd K mg base 3 "often" ["one", "top", "bottom"] G_often :=
  fnk_mk F hm (F.binds (ps := ["one", "top", "bottom"]) fun _ _ _ _ _ _ us hl => match us, hl with | [_, _, _], _ => rfl) (kw_often F) sc_often fun cdv A outer s H E hr =>
  (b_one (s_ret (ps_ret (r_call F_element hr (by decide) (by rfl) (a_cons (r_call F_row_times hr (by decide) (by rfl) (a_cons (r_item (r_var (pv 0)) r_int (fun _ _ => rfl)) (a_cons (r_var (pv 1)) a_nil)) rfl (dCons_len (dCons_len dNil_len))) (a_cons (r_mul (r_item (r_var (pv 0)) r_int (fun _ _ => rfl)) (r_var (pv 2))) a_nil)) rfl (dCons_len (dCons_len dNil_len))))))

abbrev s_less : Stmt := top 15
theorem sc_less : FnScope ["one", "other"] ["one", "other"] (defScope s_less) := ⟨rfl, rfl, rfl, by decide +kernel, rfl, by decide +kernel, by decide +kernel⟩
noncomputable def den_less : DS :=
  (dRet (dCall G_plus (dCons (dVar 0) (dCons (dCall G_often (dCons (dVar 1) (dCons (dUn negD (dC (.int 1))) (dCons (dC (.int 1)) dNil)))) dNil))))
noncomputable def G_less : List D → S → Option (D × S) := dDef 2 den_less
theorem kw_less {f : Addr} {fd : FuncData} (F : Fun K "less" "less" s_less f fd) : KwOk fd ["one", "other"] := by
  obtain ⟨oc, od, kV, doc, pm, an, cdv, ct, osl, rfl, lk, hcd⟩ := F.ex
  intro s us ws h
  rcases us with _ | ⟨a2, _ | ⟨a1, _ | ⟨a0, _⟩⟩⟩ <;> rcases ws with _ | ⟨b2, _ | ⟨b1, _ | ⟨b0, _⟩⟩⟩ <;> first | (exfalso; simp only [List.length_cons, List.length_nil] at h; omega) | exact .of_eq rfl
theorem ok_less {f : Addr} {fd : FuncData} (F : Fun K "less" "less" s_less f fd) (hm : mg "less" = some (.ref f)) (F_plus : Fn P wd K mg base 3 "plus" ["one", "other"] G_plus) (F_often : Fn P wd K mg base 3 "often" ["one", "top", "bottom"] G_often) : FnK P wd K mg base 4 "less" ["one", "other"] G_less :=
  fnk_mk F hm (F.binds (ps := ["one", "other"]) fun _ _ _ _ _ _ us hl => match us, hl with | [_, _], _ => rfl) (kw_less F) sc_less fun cdv A outer s H E hr =>
  (b_one (s_ret (ps_ret (r_call F_plus hr (by decide) (by rfl) (a_cons (r_var (pv 0)) (a_cons (r_call F_often hr (by decide) (by rfl) (a_cons (r_var (pv 1)) (a_cons (r_neg r_int) (a_cons r_int a_nil))) rfl (dCons_len (dCons_len (dCons_len dNil_len)))) a_nil)) rfl (dCons_len (dCons_len dNil_len))))))

abbrev s_by : Stmt := top 16
theorem sc_by : FnScope ["rule", "one", "other"] ["rule", "one", "other"] (defScope s_by) := ⟨rfl, rfl, rfl, by decide +kernel, rfl, by decide +kernel, by decide +kernel⟩
noncomputable def den_by : DS :=
  (dRet (dCall G_element (dCons (dCall G_row_product (dCons (dVar 0) (dCons (dBin ixD (dVar 1) (dC (.int 0))) (dCons (dBin ixD (dVar 2) (dC (.int 0))) dNil)))) (dCons (dBin mulD (dBin ixD (dVar 1) (dC (.int 1))) (dBin ixD (dVar 2) (dC (.int 1)))) dNil))))
noncomputable def G_by : List D → S → Option (D × S) := dDef 3 den_by
theorem kw_by {f : Addr} {fd : FuncData} (F : Fun K "by" "by" s_by f fd) : KwOk fd ["rule", "one", "other"] := by
  obtain ⟨oc, od, kV, doc, pm, an, cdv, ct, osl, rfl, lk, hcd⟩ := F.ex
  intro s us ws h
  rcases us with _ | ⟨a3, _ | ⟨a2, _ | ⟨a1, _ | ⟨a0, _⟩⟩⟩⟩ <;> rcases ws with _ | ⟨b3, _ | ⟨b2, _ | ⟨b1, _ | ⟨b0, _⟩⟩⟩⟩ <;> first | (exfalso; simp only [List.length_cons, List.length_nil] at h; omega) | exact .of_eq rfl
theorem ok_by {f : Addr} {fd : FuncData} (F : Fun K "by" "by" s_by f fd) (hm : mg "by" = some (.ref f)) (F_element : Fn P wd K mg base 2 "element" ["row", "bottom"] G_element) (F_row_product : Fn P wd K mg base 1 "row_product" ["rule", "one", "other"] G_row_product) : FnK P wd K mg base 3 "by" ["rule", "one", "other"] G_by :=
  fnk_mk F hm (F.binds (ps := ["rule", "one", "other"]) fun _ _ _ _ _ _ us hl => match us, hl with | [_, _, _], _ => rfl) (kw_by F) sc_by fun cdv A outer s H E hr =>
  (b_one (s_ret (ps_ret (r_call F_element hr (by decide) (by rfl) (a_cons (r_call F_row_product hr (by decide) (by rfl) (a_cons (r_var (pv 0)) (a_cons (r_item (r_var (pv 1)) r_int (fun _ _ => rfl)) (a_cons (r_item (r_var (pv 2)) r_int (fun _ _ => rfl)) a_nil))) rfl (dCons_len (dCons_len (dCons_len dNil_len)))) (a_cons (r_mul (r_item (r_var (pv 1)) r_int (fun _ _ => rfl)) (r_item (r_var (pv 2)) r_int (fun _ _ => rfl))) a_nil)) rfl (dCons_len (dCons_len dNil_len))))))

abbrev s_turned : Stmt := top 17
theorem sc_turned : FnScope ["one"] ["one"] (defScope s_turned) := ⟨rfl, rfl, rfl, by decide +kernel, rfl, by decide +kernel, by decide +kernel⟩
noncomputable def den_turned : DS :=
  (dRet (dTup (dCons (dArgs (g1 tupleD) (dCons (dCall G_turned_row (dCons (dBin ixD (dVar 0) (dC (.int 0))) dNil)) dNil)) (dCons (dBin ixD (dVar 0) (dC (.int 1))) dNil))))
noncomputable def G_turned : List D → S → Option (D × S) := dDef 1 den_turned
theorem ok_turned {f : Addr} {fd : FuncData} (F : Fun K "turned" "turned" s_turned f fd) (hm : mg "turned" = some (.ref f)) (F_turned_row : Fn P wd K mg base 1 "turned_row" ["row"] G_turned_row) (m_tuple : mg "tuple" = none) : Fn P wd K mg base 2 "turned" ["one"] G_turned :=
  fn_mk F hm (F.binds (ps := ["one"]) fun _ _ _ _ _ _ us hl => match us, hl with | [_], _ => rfl) sc_turned fun cdv A outer s H E hr =>
  (b_one (s_ret (ps_ret (r_tup (a_cons (r_cb opA_tuple (pe_callTy call_tuple_of (by rfl) m_tuple (by decide +kernel) (a_cons (r_call F_turned_row hr (by decide) (by rfl) (a_cons (r_item (r_var (pv 0)) r_int (fun _ _ => rfl)) a_nil) rfl (dCons_len dNil_len)) a_nil))) (a_cons (r_item (r_var (pv 0)) r_int (fun _ _ => rfl)) a_nil))))))

abbrev s_trace : Stmt := top 18
theorem sc_trace : FnScope ["one"] ["one"] (defScope s_trace) := ⟨rfl, rfl, rfl, by decide +kernel, rfl, by decide +kernel, by decide +kernel⟩
noncomputable def den_trace : DS :=
  (dRet (dCall G_fraction (dCons (dBin mulD (dC (.int 2)) (dBin ixD (dBin ixD (dVar 0) (dC (.int 0))) (dC (.int 0)))) (dCons (dBin ixD (dVar 0) (dC (.int 1))) dNil))))
noncomputable def G_trace : List D → S → Option (D × S) := dDef 1 den_trace
theorem ok_trace {f : Addr} {fd : FuncData} (F : Fun K "trace" "trace" s_trace f fd) (hm : mg "trace" = some (.ref f)) (F_fraction : Fn P wd K mg base 1 "fraction" ["top", "bottom"] G_fraction) : Fn P wd K mg base 2 "trace" ["one"] G_trace :=
  fn_mk F hm (F.binds (ps := ["one"]) fun _ _ _ _ _ _ us hl => match us, hl with | [_], _ => rfl) sc_trace fun cdv A outer s H E hr =>
  (b_one (s_ret (ps_ret (r_call F_fraction hr (by decide) (by rfl) (a_cons (r_mul r_int (r_item (r_item (r_var (pv 0)) r_int (fun _ _ => rfl)) r_int (fun _ _ => rfl))) (a_cons (r_item (r_var (pv 0)) r_int (fun _ _ => rfl)) a_nil)) rfl (dCons_len (dCons_len dNil_len))))))

abbrev s_norm_of_row : Stmt := top 19
theorem sc_norm_of_row : FnScope ["rule", "row", "q", "p", "a", "b", "c", "d"] ["rule", "row"] (defScope s_norm_of_row) := ⟨rfl, rfl, rfl, by decide +kernel, rfl, by decide +kernel, by decide +kernel⟩
noncomputable def den_norm_of_row : DS :=
  (dSeq (dUnp (gT 2 (gsC (gN 2) (gsC (gN 3) gsN))) (dVar 0))
  (dSeq (dUnp (gT 4 (gsC (gN 4) (gsC (gN 5) (gsC (gN 6) (gsC (gN 7) gsN))))) (dVar 1))
  (dRet (dBin addD (dBin addD (dBin mulD (dVar 4) (dVar 4)) (dBin mulD (dBin mulD (dVar 2) (dVar 5)) (dVar 5))) (dBin mulD (dVar 3) (dBin addD (dBin mulD (dVar 6) (dVar 6)) (dBin mulD (dBin mulD (dVar 2) (dVar 7)) (dVar 7))))))))
noncomputable def G_norm_of_row : List D → S → Option (D × S) := dDef 8 den_norm_of_row
theorem ok_norm_of_row {f : Addr} {fd : FuncData} (F : Fun K "norm_of_row" "norm_of_row" s_norm_of_row f fd) (hm : mg "norm_of_row" = some (.ref f)) : Fn P wd K mg base 1 "norm_of_row" ["rule", "row"] G_norm_of_row :=
  fn_mk F hm (F.binds (ps := ["rule", "row"]) fun _ _ _ _ _ _ us hl => match us, hl with | [_, _], _ => rfl) sc_norm_of_row fun cdv A outer s H E hr =>
  (b_cons (s_unp (ps_asg (r_var (pv 0)) (g_tup rfl (gs_cons (g_name (pg_name (i := 2) sc_norm_of_row.nd rfl (.inl rfl))) (gs_cons (g_name (pg_name (i := 3) sc_norm_of_row.nd rfl (.inl rfl))) gs_nil)))))
  (b_cons (s_unp (ps_asg (r_var (pv 1)) (g_tup rfl (gs_cons (g_name (pg_name (i := 4) sc_norm_of_row.nd rfl (.inl rfl))) (gs_cons (g_name (pg_name (i := 5) sc_norm_of_row.nd rfl (.inl rfl))) (gs_cons (g_name (pg_name (i := 6) sc_norm_of_row.nd rfl (.inl rfl))) (gs_cons (g_name (pg_name (i := 7) sc_norm_of_row.nd rfl (.inl rfl))) gs_nil)))))))
  (b_one (s_ret (ps_ret (r_add (r_add (r_mul (r_var (pv 4)) (r_var (pv 4))) (r_mul (r_mul (r_var (pv 2)) (r_var (pv 5))) (r_var (pv 5)))) (r_mul (r_var (pv 3)) (r_add (r_mul (r_var (pv 6)) (r_var (pv 6))) (r_mul (r_mul (r_var (pv 2)) (r_var (pv 7))) (r_var (pv 7)))))))))))

abbrev s_norm : Stmt := top 20
theorem sc_norm : FnScope ["rule", "one"] ["rule", "one"] (defScope s_norm) := ⟨rfl, rfl, rfl, by decide +kernel, rfl, by decide +kernel, by decide +kernel⟩
noncomputable def den_norm : DS :=
  (dRet (dCall G_fraction (dCons (dCall G_norm_of_row (dCons (dVar 0) (dCons (dBin ixD (dVar 1) (dC (.int 0))) dNil))) (dCons (dBin mulD (dBin ixD (dVar 1) (dC (.int 1))) (dBin ixD (dVar 1) (dC (.int 1)))) dNil))))
noncomputable def G_norm : List D → S → Option (D × S) := dDef 2 den_norm
theorem kw_norm {f : Addr} {fd : FuncData} (F : Fun K "norm" "norm" s_norm f fd) : KwOk fd ["rule", "one"] := by
  obtain ⟨oc, od, kV, doc, pm, an, cdv, ct, osl, rfl, lk, hcd⟩ := F.ex
  intro s us ws h
  rcases us with _ | ⟨a2, _ | ⟨a1, _ | ⟨a0, _⟩⟩⟩ <;> rcases ws with _ | ⟨b2, _ | ⟨b1, _ | ⟨b0, _⟩⟩⟩ <;> first | (exfalso; simp only [List.length_cons, List.length_nil] at h; omega) | exact .of_eq rfl
theorem ok_norm {f : Addr} {fd : FuncData} (F : Fun K "norm" "norm" s_norm f fd) (hm : mg "norm" = some (.ref f)) (F_fraction : Fn P wd K mg base 1 "fraction" ["top", "bottom"] G_fraction) (F_norm_of_row : Fn P wd K mg base 1 "norm_of_row" ["rule", "row"] G_norm_of_row) : FnK P wd K mg base 2 "norm" ["rule", "one"] G_norm :=
  fnk_mk F hm (F.binds (ps := ["rule", "one"]) fun _ _ _ _ _ _ us hl => match us, hl with | [_, _], _ => rfl) (kw_norm F) sc_norm fun cdv A outer s H E hr =>
  (b_one (s_ret (ps_ret (r_call F_fraction hr (by decide) (by rfl) (a_cons (r_call F_norm_of_row hr (by decide) (by rfl) (a_cons (r_var (pv 0)) (a_cons (r_item (r_var (pv 1)) r_int (fun _ _ => rfl)) a_nil)) rfl (dCons_len (dCons_len dNil_len))) (a_cons (r_mul (r_item (r_var (pv 1)) r_int (fun _ _ => rfl)) (r_item (r_var (pv 1)) r_int (fun _ _ => rfl))) a_nil)) rfl (dCons_len (dCons_len dNil_len))))))

abbrev s_back : Stmt := top 21
theorem sc_back : FnScope ["rule", "one"] ["rule", "one"] (defScope s_back) := ⟨rfl, rfl, rfl, by decide +kernel, rfl, by decide +kernel, by decide +kernel⟩
noncomputable def den_back : DS :=
  (dRet (dCall G_element (dCons (dCall G_row_times (dCons (dCall G_turned_row (dCons (dBin ixD (dVar 1) (dC (.int 0))) dNil)) (dCons (dBin ixD (dVar 1) (dC (.int 1))) dNil))) (dCons (dCall G_norm_of_row (dCons (dVar 0) (dCons (dBin ixD (dVar 1) (dC (.int 0))) dNil))) dNil))))
noncomputable def G_back : List D → S → Option (D × S) := dDef 2 den_back
theorem kw_back {f : Addr} {fd : FuncData} (F : Fun K "back" "back" s_back f fd) : KwOk fd ["rule", "one"] := by
  obtain ⟨oc, od, kV, doc, pm, an, cdv, ct, osl, rfl, lk, hcd⟩ := F.ex
  intro s us ws h
  rcases us with _ | ⟨a2, _ | ⟨a1, _ | ⟨a0, _⟩⟩⟩ <;> rcases ws with _ | ⟨b2, _ | ⟨b1, _ | ⟨b0, _⟩⟩⟩ <;> first | (exfalso; simp only [List.length_cons, List.length_nil] at h; omega) | exact .of_eq rfl
theorem ok_back {f : Addr} {fd : FuncData} (F : Fun K "back" "back" s_back f fd) (hm : mg "back" = some (.ref f)) (F_element : Fn P wd K mg base 2 "element" ["row", "bottom"] G_element) (F_norm_of_row : Fn P wd K mg base 1 "norm_of_row" ["rule", "row"] G_norm_of_row) (F_row_times : Fn P wd K mg base 1 "row_times" ["row", "number"] G_row_times) (F_turned_row : Fn P wd K mg base 1 "turned_row" ["row"] G_turned_row) : FnK P wd K mg base 3 "back" ["rule", "one"] G_back :=
  fnk_mk F hm (F.binds (ps := ["rule", "one"]) fun _ _ _ _ _ _ us hl => match us, hl with | [_, _], _ => rfl) (kw_back F) sc_back fun cdv A outer s H E hr =>
  (b_one (s_ret (ps_ret (r_call F_element hr (by decide) (by rfl) (a_cons (r_call F_row_times hr (by decide) (by rfl) (a_cons (r_call F_turned_row hr (by decide) (by rfl) (a_cons (r_item (r_var (pv 1)) r_int (fun _ _ => rfl)) a_nil) rfl (dCons_len dNil_len)) (a_cons (r_item (r_var (pv 1)) r_int (fun _ _ => rfl)) a_nil)) rfl (dCons_len (dCons_len dNil_len))) (a_cons (r_call F_norm_of_row hr (by decide) (by rfl) (a_cons (r_var (pv 0)) (a_cons (r_item (r_var (pv 1)) r_int (fun _ _ => rfl)) a_nil)) rfl (dCons_len (dCons_len dNil_len))) a_nil)) rfl (dCons_len (dCons_len dNil_len))))))

abbrev s_least_factor : Stmt := top 23
theorem sc_least_factor : FnScope ["number", "small", "at"] ["number"] (defScope s_least_factor) := ⟨rfl, rfl, rfl, by decide +kernel, rfl, by decide +kernel, by decide +kernel⟩
noncomputable def den_least_factor : DS :=
  (dSeq (dFor (dItems (dTup (dCons (dC (.int 2)) (dCons (dC (.int 3)) dNil)))) (gN 1) (dIfS (dTest (dBin eqV (dBin modD (dVar 0) (dVar 1)) (dC (.int 0)))) (dRet (dVar 1)) dSkip))
  (dSeq (dSet 2 (dC (.int 5)))
  (dSeq (dWhile (dTest (dBin leD (dBin mulD (dVar 2) (dVar 2)) (dVar 0))) (dSeq (dIfS (dTest (dBin eqV (dBin modD (dVar 0) (dVar 2)) (dC (.int 0)))) (dRet (dVar 2)) dSkip)
  (dSeq (dIfS (dTest (dBin eqV (dBin modD (dVar 0) (dBin addD (dVar 2) (dC (.int 2)))) (dC (.int 0)))) (dRet (dBin addD (dVar 2) (dC (.int 2)))) dSkip)
  (dAug 2 iaddD (dC (.int 6))))))
  (dRet (dVar 0)))))
noncomputable def G_least_factor : List D → S → Option (D × S) := dDef 3 den_least_factor
theorem ok_least_factor {f : Addr} {fd : FuncData} (F : Fun K "least_factor" "least_factor" s_least_factor f fd) (hm : mg "least_factor" = some (.ref f)) : Fn P wd K mg base 1 "least_factor" ["number"] G_least_factor :=
  fn_mk F hm (F.binds (ps := ["number"]) fun _ _ _ _ _ _ us hl => match us, hl with | [_], _ => rfl) sc_least_factor fun cdv A outer s H E hr =>
  (b_cons (s_for PassesOwn.never rfl (i_seq (r_tup (a_cons r_int (a_cons r_int a_nil)))) (g_name (pg_name (i := 1) sc_least_factor.nd rfl (.inl rfl))) (b_one (s_if (r_cmpT (op_eqD hr.units) op2_eq (r_mod (r_var (pv 0)) (r_var (pv 1))) r_int (nomark _)) (b_one (s_ret (ps_ret (r_var (pv 1))))) b_nil)))
  (b_cons (s_set (ps_set (i := 2) sc_least_factor.nd rfl (.inl rfl) r_int))
  (b_cons (s_while PassesOwn.never (r_cmpT op_le op2_le (r_mul (r_var (pv 2)) (r_var (pv 2))) (r_var (pv 0)) (nomark _)) (b_cons (s_if (r_cmpT (op_eqD hr.units) op2_eq (r_mod (r_var (pv 0)) (r_var (pv 2))) r_int (nomark _)) (b_one (s_ret (ps_ret (r_var (pv 2))))) b_nil)
  (b_cons (s_if (r_cmpT (op_eqD hr.units) op2_eq (r_mod (r_var (pv 0)) (r_add (r_var (pv 2)) r_int)) r_int (nomark _)) (b_one (s_ret (ps_ret (r_add (r_var (pv 2)) r_int)))) b_nil)
  (b_one (s_aug op2_ipI (ps_aug (i := 2) sc_least_factor.nd rfl (.inl rfl) r_int ip_add))))))
  (b_one (s_ret (ps_ret (r_var (pv 0))))))))

abbrev s_squares_modulo : Stmt := top 24
theorem sc_squares_modulo : FnScope ["prime", "root"] ["prime"] (defScope s_squares_modulo) := ⟨rfl, rfl, rfl, by decide +kernel, rfl, by decide +kernel, by decide +kernel⟩
noncomputable def den_squares_modulo : DS :=
  (dRet (dFrz (dComp (dRng2 (dCons (dC (.int 1)) (dCons (dBin fdivD (dBin addD (dVar 0) (dC (.int 1))) (dC (.int 2))) dNil))) [1] (gN 1) dYes (dBin modD (dBin mulD (dVar 1) (dVar 1)) (dVar 0)))))
noncomputable def G_squares_modulo : List D → S → Option (D × S) := dDef 2 den_squares_modulo
theorem ok_squares_modulo {f : Addr} {fd : FuncData} (F : Fun K "squares_modulo" "squares_modulo" s_squares_modulo f fd) (hm : mg "squares_modulo" = some (.ref f)) (m_range : mg "range" = none) : Fn P wd K mg base 1 "squares_modulo" ["prime"] G_squares_modulo :=
  fn_mk F hm (F.binds (ps := ["prime"]) fun _ _ _ _ _ _ us hl => match us, hl with | [_], _ => rfl) sc_squares_modulo fun cdv A outer s H E hr =>
  (b_one (s_ret (ps_ret (r_frz (l_lc (own := [("root", 1)]) rfl sc_squares_modulo.nd (i_rng2 (by rfl) m_range (a_cons r_int (a_cons (r_fdiv (r_add (r_var (pv 0)) r_int) r_int) a_nil))) (blkOk_by (own := [("root", 1)]) (N := ["prime", "root"]) (sc := defScope s_squares_modulo) (by decide +kernel)) (fun _ _ _ _ _ => (g_name (pg_name (i := 1) sc_squares_modulo.nd rfl (.inl rfl)))) (fun _ _ _ _ _ => ts_nil) (fun _ _ _ _ _ => (r_mod (r_mul (r_var (pv 1)) (r_var (pv 1))) (r_var (pv 0)))))))))

abbrev s_is_prime : Stmt := top 26
theorem sc_is_prime : FnScope ["number"] ["number"] (defScope s_is_prime) := ⟨rfl, rfl, rfl, by decide +kernel, rfl, by decide +kernel, by decide +kernel⟩
noncomputable def den_is_prime : DS :=
  (dRet (dB (dAnd (dTest (dBin geD (dVar 0) (dC (.int 2)))) (dTest (dBin eqV (dCall G_least_factor (dCons (dVar 0) dNil)) (dVar 0))))))
noncomputable def G_is_prime : List D → S → Option (D × S) := dDef 1 den_is_prime
theorem ok_is_prime {f : Addr} {fd : FuncData} (F : Fun K "is_prime" "is_prime" s_is_prime f fd) (hm : mg "is_prime" = some (.ref f)) (F_least_factor : Fn P wd K mg base 1 "least_factor" ["number"] G_least_factor) : Fn P wd K mg base 2 "is_prime" ["number"] G_is_prime :=
  fn_mk F hm (F.binds (ps := ["number"]) fun _ _ _ _ _ _ us hl => match us, hl with | [_], _ => rfl) sc_is_prime fun cdv A outer s H E hr =>
  (b_one (s_ret (ps_ret (v_and (r_cmp op_ge op2_ge (r_var (pv 0)) r_int (nomark _)) (v_one (r_cmp (op_eqD hr.units) op2_eq (r_call F_least_factor hr (by decide) (by rfl) (a_cons (r_var (pv 0)) a_nil) rfl (dCons_len dNil_len)) (r_var (pv 0)) (nomark _)))))))

abbrev s_symbol : Stmt := top 27
theorem sc_symbol : FnScope ["p", "number", "left"] ["p", "number"] (defScope s_symbol) := ⟨rfl, rfl, rfl, by decide +kernel, rfl, by decide +kernel, by decide +kernel⟩
noncomputable def den_symbol : DS :=
  (dSeq (dSet 2 (dBin modD (dVar 1) (dVar 0)))
  (dSeq (dIfS (dTest (dBin eqV (dVar 2) (dC (.int 0)))) (dRet (dC (.int 0))) dSkip)
  (dSeq (dIfS (dTest (dBin inD (dVar 2) (dCall G_squares_modulo (dCons (dVar 0) dNil)))) (dRet (dC (.int 1))) dSkip)
  (dRet (dUn negD (dC (.int 1)))))))
noncomputable def G_symbol : List D → S → Option (D × S) := dDef 3 den_symbol
theorem ok_symbol {f : Addr} {fd : FuncData} (F : Fun K "symbol" "symbol" s_symbol f fd) (hm : mg "symbol" = some (.ref f)) (F_squares_modulo : Fn P wd K mg base 1 "squares_modulo" ["prime"] G_squares_modulo) : Fn P wd K mg base 2 "symbol" ["p", "number"] G_symbol :=
  fn_mk F hm (F.binds (ps := ["p", "number"]) fun _ _ _ _ _ _ us hl => match us, hl with | [_, _], _ => rfl) sc_symbol fun cdv A outer s H E hr =>
  (b_cons (s_set (ps_set (i := 2) sc_symbol.nd rfl (.inl rfl) (r_mod (r_var (pv 1)) (r_var (pv 0)))))
  (b_cons (s_if (r_cmpT (op_eqD hr.units) op2_eq (r_var (pv 2)) r_int (nomark _)) (b_one (s_ret (ps_ret r_int))) b_nil)
  (b_cons (s_if (r_cmpT op_in_seq op2_in (r_var (pv 2)) (r_call F_squares_modulo hr (by decide) (by rfl) (a_cons (r_var (pv 0)) a_nil) rfl (dCons_len dNil_len)) (by rfl)) (b_one (s_ret (ps_ret r_int))) b_nil)
  (b_one (s_ret (ps_ret (r_neg r_int)))))))

abbrev s_least_companion : Stmt := top 28
theorem sc_least_companion : FnScope ["p", "q"] ["p"] (defScope s_least_companion) := ⟨rfl, rfl, rfl, by decide +kernel, rfl, by decide +kernel, by decide +kernel⟩
noncomputable def den_least_companion : DS :=
  (dSeq (dSet 1 (dC (.int 3)))
  (dSeq (dWhile (dOr (dNot (dTest (dCall G_is_prime (dCons (dVar 1) dNil)))) (dTest (dBin neV (dCall G_symbol (dCons (dVar 1) (dCons (dVar 0) dNil))) (dUn negD (dC (.int 1)))))) (dAug 1 iaddD (dC (.int 4))))
  (dRet (dVar 1))))
noncomputable def G_least_companion : List D → S → Option (D × S) := dDef 2 den_least_companion
theorem ok_least_companion {f : Addr} {fd : FuncData} (F : Fun K "least_companion" "least_companion" s_least_companion f fd) (hm : mg "least_companion" = some (.ref f)) (F_is_prime : Fn P wd K mg base 2 "is_prime" ["number"] G_is_prime) (F_symbol : Fn P wd K mg base 2 "symbol" ["p", "number"] G_symbol) : Fn P wd K mg base 3 "least_companion" ["p"] G_least_companion :=
  fn_mk F hm (F.binds (ps := ["p"]) fun _ _ _ _ _ _ us hl => match us, hl with | [_], _ => rfl) sc_least_companion fun cdv A outer s H E hr =>
  (b_cons (s_set (ps_set (i := 1) sc_least_companion.nd rfl (.inl rfl) r_int))
  (b_cons (s_while PassesOwn.never (r_pw (w_or (r_not (r_test (r_call F_is_prime hr (by decide) (by rfl) (a_cons (r_var (pv 1)) a_nil) rfl (dCons_len dNil_len)))) (w_or1 (r_cmpT (op_neD hr.units) op2_ne (r_call F_symbol hr (by decide) (by rfl) (a_cons (r_var (pv 1)) (a_cons (r_var (pv 0)) a_nil)) rfl (dCons_len (dCons_len dNil_len))) (r_neg r_int) (nomark _))))) (b_one (s_aug op2_ipI (ps_aug (i := 1) sc_least_companion.nd rfl (.inl rfl) r_int ip_add))))
  (b_one (s_ret (ps_ret (r_var (pv 1)))))))

abbrev s_rule_of : Stmt := top 29
theorem sc_rule_of : FnScope ["p"] ["p"] (defScope s_rule_of) := ⟨rfl, rfl, rfl, by decide +kernel, rfl, by decide +kernel, by decide +kernel⟩
noncomputable def den_rule_of : DS :=
  (dSeq (dIfS (dOr (dTest (dBin eqV (dVar 0) (dC (.int 2)))) (dTest (dBin eqV (dBin modD (dVar 0) (dC (.int 4))) (dC (.int 3))))) (dRet (dTup (dCons (dC (.int 1)) (dCons (dVar 0) dNil)))) dSkip)
  (dSeq (dIfS (dTest (dBin eqV (dBin modD (dVar 0) (dC (.int 8))) (dC (.int 5)))) (dRet (dTup (dCons (dC (.int 2)) (dCons (dVar 0) dNil)))) dSkip)
  (dRet (dTup (dCons (dCall G_least_companion (dCons (dVar 0) dNil)) (dCons (dVar 0) dNil))))))
noncomputable def G_rule_of : List D → S → Option (D × S) := dDef 1 den_rule_of
theorem ok_rule_of {f : Addr} {fd : FuncData} (F : Fun K "rule_of" "rule_of" s_rule_of f fd) (hm : mg "rule_of" = some (.ref f)) (F_least_companion : Fn P wd K mg base 3 "least_companion" ["p"] G_least_companion) : Fn P wd K mg base 4 "rule_of" ["p"] G_rule_of :=
  fn_mk F hm (F.binds (ps := ["p"]) fun _ _ _ _ _ _ us hl => match us, hl with | [_], _ => rfl) sc_rule_of fun cdv A outer s H E hr =>
  (b_cons (s_if (r_pw (w_or (r_cmpT (op_eqD hr.units) op2_eq (r_var (pv 0)) r_int (nomark _)) (w_or1 (r_cmpT (op_eqD hr.units) op2_eq (r_mod (r_var (pv 0)) r_int) r_int (nomark _))))) (b_one (s_ret (ps_ret (r_tup (a_cons r_int (a_cons (r_var (pv 0)) a_nil)))))) b_nil)
  (b_cons (s_if (r_cmpT (op_eqD hr.units) op2_eq (r_mod (r_var (pv 0)) r_int) r_int (nomark _)) (b_one (s_ret (ps_ret (r_tup (a_cons r_int (a_cons (r_var (pv 0)) a_nil)))))) b_nil)
  (b_one (s_ret (ps_ret (r_tup (a_cons (r_call F_least_companion hr (by decide) (by rfl) (a_cons (r_var (pv 0)) a_nil) rfl (dCons_len dNil_len)) (a_cons (r_var (pv 0)) a_nil))))))))

abbrev s__law_deal : Stmt := top 31
theorem sc__law_deal : FnScope ["script", "salt", "most", "cells", "mix", "cell"] ["script", "salt"] (defScope s__law_deal) := ⟨rfl, rfl, rfl, by decide +kernel, rfl, by decide +kernel, by decide +kernel⟩
noncomputable def den__law_deal : DS :=
  (dSeq (dSet 2 (dBin mulD (dBin mulD (dBin mulD (dBin mulD (dBin mulD (dBin powD (dC (.int 10)) (dC (.int 64))) (dBin powD (dC (.int 10)) (dC (.int 64)))) (dBin powD (dC (.int 10)) (dC (.int 64)))) (dBin powD (dC (.int 10)) (dC (.int 64)))) (dBin powD (dC (.int 10)) (dC (.int 64)))) (dBin powD (dC (.int 10)) (dC (.int 64)))))
  (dSeq (dSetL 3 (dComp (dItems (dFrz (lCut (dVar 0) oNone (oSome (dC (.int 63)))))) [5] (gN 5) dYes (dBin modD (dArgs (g1 intD) (dCons (dArgs (g1 absD) (dCons (dArgs (g1 intD) (dCons (dVar 5) dNil)) dNil)) dNil)) (dVar 2))))
  (dFreeze 3 (dSeq (dSet 4 (dBin addD (dC (.int 70001)) (dBin mulD (dC (.int 7919)) (dVar 1))))
  (dSeq (dFor (dItems (dVar 3)) (gN 5) (dSet 4 (dBin modD (dArgs (g1 intD) (dCons (dBin addD (dBin addD (dBin mulD (dVar 4) (dC (.int 69621))) (dBin modD (dArgs (g1 intD) (dCons (dVar 5) dNil)) (dC (.int 2147483563)))) (dC (.int 23))) dNil)) (dC (.int 2147483647)))))
  (dRet (dFrz (dLst (dCons (dFrz (lRev (dFrz (dComp (dItems (dVar 3)) [5] (gN 5) (dTest (dBin geD (dVar 5) (dBin powD (dC (.int 10)) (dC (.int 18))))) (dVar 5))))) (dCons (dVar 4) dNil))))))))))
noncomputable def G__law_deal : List D → S → Option (D × S) := dDef 6 den__law_deal
theorem ok__law_deal {f : Addr} {fd : FuncData} (F : Fun K "_law_deal" "_law_deal" s__law_deal f fd) (hm : mg "_law_deal" = some (.ref f)) (m_int : mg "int" = none) (m_abs : mg "abs" = none) : Fn P wd K mg base 1 "_law_deal" ["script", "salt"] G__law_deal :=
  fn_mk F hm (F.binds (ps := ["script", "salt"]) fun _ _ _ _ _ _ us hl => match us, hl with | [_, _], _ => rfl) sc__law_deal fun cdv A outer s H E hr =>
  (b_cons (s_set (ps_set (i := 2) sc__law_deal.nd rfl (.inr rfl) (r_mul (r_mul (r_mul (r_mul (r_mul (r_pow r_int r_int) (r_pow r_int r_int)) (r_pow r_int r_int)) (r_pow r_int r_int)) (r_pow r_int r_int)) (r_pow r_int r_int))))
  (b_cons (s_setL (s_setLc (i := 3) (own := [("cell", 5)]) rfl sc__law_deal.nd rfl rfl (sw_true rfl rfl rfl (by decide +kernel)) (i_seq (r_frz (l_cut (r_var (pv 0)) o_none (o_some r_int)))) (blkOk_by (own := [("cell", 5)]) (N := ["script", "salt", "most", "cells", "mix", "cell"]) (sc := defScope s__law_deal) (by decide +kernel)) (fun _ _ _ _ _ => (g_name (pg_name (i := 5) sc__law_deal.nd rfl (.inl rfl)))) (fun _ _ _ _ _ => ts_nil) (fun _ _ _ _ _ => (r_mod (r_cb opA_int (pe_callTy call_int1 (by rfl) m_int (by decide +kernel) (a_cons (r_cb opA_abs (pe_callB call_abs (by rfl) m_abs (by decide +kernel) (a_cons (r_cb opA_int (pe_callTy call_int1 (by rfl) m_int (by decide +kernel) (a_cons (r_var (pv 5)) a_nil))) a_nil))) a_nil))) (r_var (pv 2))))))
  (b_frz 3 (b_cons (s_set (ps_set (i := 4) sc__law_deal.nd rfl (.inl rfl) (r_add r_int (r_mul r_int (r_var (pv 1))))))
  (b_cons (s_for PassesOwn.never rfl (i_seq (r_var (pv 3))) (g_name (pg_name (i := 5) sc__law_deal.nd rfl (.inl rfl))) (b_one (s_set (ps_set (i := 4) sc__law_deal.nd rfl (.inl rfl) (r_mod (r_cb opA_int (pe_callTy call_int1 (by rfl) m_int (by decide +kernel) (a_cons (r_add (r_add (r_mul (r_var (pv 4)) r_int) (r_mod (r_cb opA_int (pe_callTy call_int1 (by rfl) m_int (by decide +kernel) (a_cons (r_var (pv 5)) a_nil))) r_int)) r_int) a_nil))) r_int)))))
  (b_one (s_ret (ps_ret (r_frz (l_lst (a_cons (r_frz (l_rev (r_frz (l_lc (own := [("cell", 5)]) rfl sc__law_deal.nd (i_seq (r_var (pv 3))) (blkOk_by (own := [("cell", 5)]) (N := ["script", "salt", "most", "cells", "mix", "cell"]) (sc := defScope s__law_deal) (by decide +kernel)) (fun _ _ _ _ _ => (g_name (pg_name (i := 5) sc__law_deal.nd rfl (.inl rfl)))) (fun _ _ _ _ _ => (ts_one (r_cmpT op_ge op2_ge (r_var (pv 5)) (r_pow r_int r_int) (nomark _)))) (fun _ _ _ _ _ => (r_var (pv 5))))))) (a_cons (r_var (pv 4)) a_nil))))))))))))

abbrev s__law_any : Stmt := top 32
theorem sc__law_any : FnScope ["deal", "bound", "rest"] ["deal", "bound"] (defScope s__law_any) := ⟨rfl, rfl, rfl, by decide +kernel, rfl, by decide +kernel, by decide +kernel⟩
noncomputable def den__law_any : DS :=
  (dSeq (dWhile (dAnd (dTest (dD_ne 0)) (dTest (dBin eqV (dD_last 0) (dC (.int 0))))) (dExp (dD_pop 0)))
  (dSeq (dIfS (dTest (dD_ne 0)) (dSeq (dSet 2 (dArgs (g1 intD) (dCons (dD_pop 0) dNil)))
  (dSeq (dD_app 0 (dBin fdivD (dVar 2) (dVar 1)))
  (dRet (dBin modD (dVar 2) (dVar 1))))) dSkip)
  (dSeq (dD_put 0 (dBin modD (dArgs (g1 intD) (dCons (dBin addD (dBin mulD (dD_get 0) (dC (.int 48271))) (dC (.int 31))) dNil)) (dC (.int 2147483647))))
  (dRet (dBin modD (dArgs (g1 intD) (dCons (dBin fdivD (dD_get 0) (dC (.int 64))) dNil)) (dVar 1))))))
noncomputable def G__law_any : List D → S → Option (D × S) := dDef 3 den__law_any
theorem ok__law_any {f : Addr} {fd : FuncData} (F : Fun K "_law_any" "_law_any" s__law_any f fd) (hm : mg "_law_any" = some (.ref f)) (m_int : mg "int" = none) : Fn P wd K mg base 1 "_law_any" ["deal", "bound"] G__law_any :=
  fn_mk F hm (F.binds (ps := ["deal", "bound"]) fun _ _ _ _ _ _ us hl => match us, hl with | [_, _], _ => rfl) sc__law_any fun cdv A outer s H E hr =>
  (b_cons (s_while PassesOwn.never (r_pw (w_and (x_neT (pt_cmpR (op_neD hr.units) (pe_ix ix_seq (pv 0) pe_int (fun _ _ => rfl)) (pe_lst pa_nil) (nomark _))) (w_and1 (r_cmpT (op_eqD hr.units) op2_eq (x_last (pe_ix ix_seq (pe_ix ix_seq (pv 0) pe_int (fun _ _ => rfl)) (pe_un un_neg pe_int) (fun _ _ => rfl))) r_int (nomark _))))) (b_one (s_exp (ps_expr (x_pop (pe_bm0 PySem.F.plainAttrs_list PySem.F.slot_list_pop PySem.F.type_list_pop mt_pop (pe_ix ix_seq (pv 0) pe_int (fun _ _ => rfl))))))))
  (b_cons (s_if (x_neT (pt_cmpR (op_neD hr.units) (pe_ix ix_seq (pv 0) pe_int (fun _ _ => rfl)) (pe_lst pa_nil) (nomark _))) (b_cons (s_set (ps_set (i := 2) sc__law_any.nd rfl (.inl rfl) (r_cb opA_int (pe_callTy call_int1 (by rfl) m_int (by decide +kernel) (a_cons (x_pop (pe_bm0 PySem.F.plainAttrs_list PySem.F.slot_list_pop PySem.F.type_list_pop mt_pop (pe_ix ix_seq (pv 0) pe_int (fun _ _ => rfl)))) a_nil)))))
  (b_cons (x_app (ps_expr (pe_bm PySem.F.plainAttrs_list PySem.F.slot_list_append PySem.F.type_list_append mt_append (pe_ix ix_seq (pv 0) pe_int (fun _ _ => rfl)) (pa_cons (r_fdiv (r_var (pv 2)) (r_var (pv 1))) pa_nil))))
  (b_one (s_ret (ps_ret (r_mod (r_var (pv 2)) (r_var (pv 1)))))))) b_nil)
  (b_cons (x_put (ps_asg (r_mod (r_cb opA_int (pe_callTy call_int1 (by rfl) m_int (by decide +kernel) (a_cons (r_add (r_mul (x_get (pe_ix ix_seq (pv 0) pe_int (fun _ _ => rfl))) r_int) r_int) a_nil))) r_int) (pg_sub (pv 0) pe_int set_list)))
  (b_one (s_ret (ps_ret (r_mod (r_cb opA_int (pe_callTy call_int1 (by rfl) m_int (by decide +kernel) (a_cons (r_fdiv (x_get (pe_ix ix_seq (pv 0) pe_int (fun _ _ => rfl))) r_int) a_nil))) (r_var (pv 1)))))))))

abbrev s__law_wide : Stmt := top 33
theorem sc__law_wide : FnScope ["deal", "bound", "many", "turn"] ["deal", "bound"] (defScope s__law_wide) := ⟨rfl, rfl, rfl, by decide +kernel, rfl, by decide +kernel, by decide +kernel⟩
noncomputable def den__law_wide : DS :=
  (dSeq (dIfS (dTest (dBin leD (dVar 1) (dBin powD (dC (.int 10)) (dC (.int 6))))) (dRet (dCall G__law_any (dCons (dVar 0) (dCons (dVar 1) dNil)))) dSkip)
  (dSeq (dSet 2 (dC (.int 0)))
  (dSeq (dFor (dRng1 (dCons (dC (.int 10)) dNil)) (gN 3) (dSet 2 (dBin addD (dBin mulD (dVar 2) (dC (.int 1048573))) (dCall G__law_any (dCons (dVar 0) (dCons (dC (.int 1048573)) dNil))))))
  (dRet (dBin modD (dArgs (g1 intD) (dCons (dVar 2) dNil)) (dVar 1))))))
noncomputable def G__law_wide : List D → S → Option (D × S) := dDef 4 den__law_wide
theorem ok__law_wide {f : Addr} {fd : FuncData} (F : Fun K "_law_wide" "_law_wide" s__law_wide f fd) (hm : mg "_law_wide" = some (.ref f)) (F__law_any : Fn P wd K mg base 1 "_law_any" ["deal", "bound"] G__law_any) (m_range : mg "range" = none) (m_int : mg "int" = none) : Fn P wd K mg base 2 "_law_wide" ["deal", "bound"] G__law_wide :=
  fn_mk F hm (F.binds (ps := ["deal", "bound"]) fun _ _ _ _ _ _ us hl => match us, hl with | [_, _], _ => rfl) sc__law_wide fun cdv A outer s H E hr =>
  (b_cons (s_if (r_cmpT op_le op2_le (r_var (pv 1)) (r_pow r_int r_int) (nomark _)) (b_one (s_ret (ps_ret (r_call F__law_any hr (by decide) (by rfl) (a_cons (r_var (pv 0)) (a_cons (r_var (pv 1)) a_nil)) rfl (dCons_len (dCons_len dNil_len)))))) b_nil)
  (b_cons (s_set (ps_set (i := 2) sc__law_wide.nd rfl (.inl rfl) r_int))
  (b_cons (s_for PassesOwn.never rfl (i_rng1 (by rfl) m_range (a_cons r_int a_nil)) (g_name (pg_name (i := 3) sc__law_wide.nd rfl (.inl rfl))) (b_one (s_set (ps_set (i := 2) sc__law_wide.nd rfl (.inl rfl) (r_add (r_mul (r_var (pv 2)) r_int) (r_call F__law_any hr (by decide) (by rfl) (a_cons (r_var (pv 0)) (a_cons r_int a_nil)) rfl (dCons_len (dCons_len dNil_len))))))))
  (b_one (s_ret (ps_ret (r_mod (r_cb opA_int (pe_callTy call_int1 (by rfl) m_int (by decide +kernel) (a_cons (r_var (pv 2)) a_nil))) (r_var (pv 1)))))))))

abbrev s__law_of : Stmt := top 34
theorem sc__law_of : FnScope ["deal", "some"] ["deal", "some"] (defScope s__law_of) := ⟨rfl, rfl, rfl, by decide +kernel, rfl, by decide +kernel, by decide +kernel⟩
noncomputable def den__law_of : DS :=
  (dRet (dBin ixD (dVar 1) (dCall G__law_any (dCons (dVar 0) (dCons (dArgs (g1 lenD) (dCons (dVar 1) dNil)) dNil)))))
noncomputable def G__law_of : List D → S → Option (D × S) := dDef 2 den__law_of
theorem ok__law_of {f : Addr} {fd : FuncData} (F : Fun K "_law_of" "_law_of" s__law_of f fd) (hm : mg "_law_of" = some (.ref f)) (F__law_any : Fn P wd K mg base 1 "_law_any" ["deal", "bound"] G__law_any) (m_len : mg "len" = none) : Fn P wd K mg base 2 "_law_of" ["deal", "some"] G__law_of :=
  fn_mk F hm (F.binds (ps := ["deal", "some"]) fun _ _ _ _ _ _ us hl => match us, hl with | [_, _], _ => rfl) sc__law_of fun cdv A outer s H E hr =>
  (b_one (s_ret (ps_ret (r_item (r_var (pv 1)) (r_call F__law_any hr (by decide) (by rfl) (a_cons (r_var (pv 0)) (a_cons (r_cb opA_len (pe_callB call_len_seq (by rfl) m_len PySem.boot_len (a_cons (r_var (pv 1)) a_nil))) a_nil)) rfl (dCons_len (dCons_len dNil_len))) (fun _ _ => rfl)))))

abbrev s__law_same : Stmt := top 35
theorem sc__law_same : FnScope ["told", "due", "at"] ["told", "due"] (defScope s__law_same) := ⟨rfl, rfl, rfl, by decide +kernel, rfl, by decide +kernel, by decide +kernel⟩
noncomputable def den__law_same (G__law_same : List D → S → Option (D × S)) : DS :=
  (dSeq (dIfS (dTest (dArgs (isiG) (dCons (dVar 1) (dCons (dC (.ty "tuple")) dNil)))) (dSeq (dIfS (dOr (dNot (dTest (dArgs (isiG) (dCons (dVar 0) (dCons (dC (.ty "tuple")) dNil))))) (dTest (dBin neV (dArgs (g1 lenD) (dCons (dVar 0) dNil)) (dArgs (g1 lenD) (dCons (dVar 1) dNil))))) (dRet (dC (.bl false))) dSkip)
  (dRet (dBin eqV (dArgs (g1 lenD) (dCons (dFrz (dComp (dRng1 (dCons (dArgs (g1 lenD) (dCons (dVar 1) dNil)) dNil)) [2] (gN 2) (dNot (dTest (dCall G__law_same (dCons (dBin ixD (dVar 0) (dVar 2)) (dCons (dBin ixD (dVar 1) (dVar 2)) dNil))))) (dVar 2))) dNil)) (dC (.int 0))))) dSkip)
  (dSeq (dIfS (dTest (dBin isD (dVar 1) (dC .non))) (dRet (dBin isD (dVar 0) (dC .non))) dSkip)
  (dSeq (dIfS (dOr (dTest (dBin isD (dVar 1) (dC (.bl true)))) (dTest (dBin isD (dVar 1) (dC (.bl false))))) (dRet (dIf (dTest (dVar 1)) (dBin isD (dVar 0) (dC (.bl true))) (dBin isD (dVar 0) (dC (.bl false))))) dSkip)
  (dSeq (dIfS (dTest (dArgs (isiG) (dCons (dVar 1) (dCons (dC (.ty "str")) dNil)))) (dRet (dB (dAnd (dTest (dArgs (isiG) (dCons (dVar 0) (dCons (dC (.ty "str")) dNil)))) (dTest (dBin eqV (dVar 0) (dVar 1)))))) dSkip)
  (dRet (dB (dAnd (dTest (dArgs (isiG) (dCons (dVar 0) (dCons (dC (.ty "int")) dNil)))) (dAnd (dTest (dB (dNot (dTest (dArgs (isiG) (dCons (dVar 0) (dCons (dC (.ty "bool")) dNil))))))) (dTest (dBin eqV (dVar 0) (dVar 1)))))))))))
noncomputable def GN__law_same : Nat → List D → S → Option (D × S)
  | 0 => fun _ _ => none
  | n + 1 => dDef 3 (den__law_same (GN__law_same n))
noncomputable abbrev G__law_same : List D → S → Option (D × S) := GN__law_same 8
theorem st__law_same {f : Addr} {fd : FuncData} {k : Nat} {Gs : List D → S → Option (D × S)} (F : Fun K "_law_same" "_law_same" s__law_same f fd) (hm : mg "_law_same" = some (.ref f)) (F__law_same : Fn P wd K mg base k "_law_same" ["told", "due"] Gs) (m_tuple : mg "tuple" = none) (m_isinstance : mg "isinstance" = none) (m_len : mg "len" = none) (m_range : mg "range" = none) (m_str : mg "str" = none) (m_int : mg "int" = none) (m_bool : mg "bool" = none) : Fn P wd K mg base (k + 1) "_law_same" ["told", "due"] (dDef 3 (den__law_same Gs)) :=
  fn_mk F hm (F.binds (ps := ["told", "due"]) fun _ _ _ _ _ _ us hl => match us, hl with | [_, _], _ => rfl) sc__law_same fun cdv A outer s H E hr =>
  (b_cons (s_if (r_test (r_cb opA_isi (pe_callB call_isi (by rfl) m_isinstance (by decide +kernel) (a_cons (r_var (pv 1)) (a_cons (r_ty (by rfl) m_tuple (by decide +kernel)) a_nil))))) (b_cons (s_if (r_pw (w_or (r_not (r_test (r_cb opA_isi (pe_callB call_isi (by rfl) m_isinstance (by decide +kernel) (a_cons (r_var (pv 0)) (a_cons (r_ty (by rfl) m_tuple (by decide +kernel)) a_nil)))))) (w_or1 (r_cmpT (op_neD hr.units) op2_ne (r_cb opA_len (pe_callB call_len_seq (by rfl) m_len PySem.boot_len (a_cons (r_var (pv 0)) a_nil))) (r_cb opA_len (pe_callB call_len_seq (by rfl) m_len PySem.boot_len (a_cons (r_var (pv 1)) a_nil))) (nomark _))))) (b_one (s_ret (ps_ret r_bl))) b_nil)
  (b_one (s_ret (ps_ret (r_cmp (op_eqD hr.units) op2_eq (r_cb opA_len (pe_callB call_len_seq (by rfl) m_len PySem.boot_len (a_cons (r_frz (l_lc (own := [("at", 2)]) rfl sc__law_same.nd (i_rng1 (by rfl) m_range (a_cons (r_cb opA_len (pe_callB call_len_seq (by rfl) m_len PySem.boot_len (a_cons (r_var (pv 1)) a_nil))) a_nil)) (blkOk_by (own := [("at", 2)]) (N := ["told", "due", "at"]) (sc := defScope s__law_same) (by decide +kernel)) (fun _ _ _ _ _ => (g_name (pg_name (i := 2) sc__law_same.nd rfl (.inl rfl)))) (fun _ _ _ _ _ => (ts_one (r_not (r_test (r_call F__law_same hr (Nat.le_refl _) (by rfl) (a_cons (r_item (r_var (pv 0)) (r_var (pv 2)) (fun _ _ => rfl)) (a_cons (r_item (r_var (pv 1)) (r_var (pv 2)) (fun _ _ => rfl)) a_nil)) rfl (dCons_len (dCons_len dNil_len))))))) (fun _ _ _ _ _ => (r_var (pv 2))))) a_nil))) r_int (nomark _)))))) b_nil)
  (b_cons (s_if (r_cmpT or_is op2_is (r_var (pv 1)) r_non (nomark _)) (b_one (s_ret (ps_ret (r_cmp or_is op2_is (r_var (pv 0)) r_non (nomark _))))) b_nil)
  (b_cons (s_if (r_pw (w_or (r_cmpT or_is op2_is (r_var (pv 1)) r_bl (nomark _)) (w_or1 (r_cmpT or_is op2_is (r_var (pv 1)) r_bl (nomark _))))) (b_one (s_ret (ps_ret (r_ifExp (r_test (r_var (pv 1))) (r_cmp or_is op2_is (r_var (pv 0)) r_bl (nomark _)) (r_cmp or_is op2_is (r_var (pv 0)) r_bl (nomark _)))))) b_nil)
  (b_cons (s_if (r_test (r_cb opA_isi (pe_callB call_isi (by rfl) m_isinstance (by decide +kernel) (a_cons (r_var (pv 1)) (a_cons (r_ty (by rfl) m_str (by decide +kernel)) a_nil))))) (b_one (s_ret (ps_ret (v_and (r_cb opA_isi (pe_callB call_isi (by rfl) m_isinstance (by decide +kernel) (a_cons (r_var (pv 0)) (a_cons (r_ty (by rfl) m_str (by decide +kernel)) a_nil)))) (v_one (r_cmp (op_eqD hr.units) op2_eq (r_var (pv 0)) (r_var (pv 1)) (nomark _))))))) b_nil)
  (b_one (s_ret (ps_ret (v_and (r_cb opA_isi (pe_callB call_isi (by rfl) m_isinstance (by decide +kernel) (a_cons (r_var (pv 0)) (a_cons (r_ty (by rfl) m_int (by decide +kernel)) a_nil)))) (v_and (v_not (r_cb opA_isi (pe_callB call_isi (by rfl) m_isinstance (by decide +kernel) (a_cons (r_var (pv 0)) (a_cons (r_ty (by rfl) m_bool (by decide +kernel)) a_nil))))) (v_one (r_cmp (op_eqD hr.units) op2_eq (r_var (pv 0)) (r_var (pv 1)) (nomark _))))))))))))
theorem ok__law_same {f : Addr} {fd : FuncData} (F : Fun K "_law_same" "_law_same" s__law_same f fd) (hm : mg "_law_same" = some (.ref f)) (m_tuple : mg "tuple" = none) (m_isinstance : mg "isinstance" = none) (m_len : mg "len" = none) (m_range : mg "range" = none) (m_str : mg "str" = none) (m_int : mg "int" = none) (m_bool : mg "bool" = none) : Fn P wd K mg base 8 "_law_same" ["told", "due"] G__law_same := by
  have h : ∀ n : Nat, Fn P wd K mg base n "_law_same" ["told", "due"] (GN__law_same n) := fun n => by
    induction n with
    | zero => exact fn_none F hm (F.binds (ps := ["told", "due"]) fun _ _ _ _ _ _ us hl => match us, hl with | [_, _], _ => rfl)
    | succ n ih => exact st__law_same F hm ih m_tuple m_isinstance m_len m_range m_str m_int m_bool
  exact h 8

abbrev s__law_all : Stmt := top 36
theorem sc__law_all : FnScope ["pairs", "told", "due"] ["pairs"] (defScope s__law_all) := ⟨rfl, rfl, rfl, by decide +kernel, rfl, by decide +kernel, by decide +kernel⟩
noncomputable def den__law_all : DS :=
  (dRet (dBin eqV (dArgs (g1 lenD) (dCons (dFrz (dComp (dItems (dVar 0)) [1, 2] (gT 2 (gsC (gN 1) (gsC (gN 2) gsN))) (dNot (dTest (dCall G__law_same (dCons (dVar 1) (dCons (dVar 2) dNil))))) (dVar 1))) dNil)) (dC (.int 0))))
noncomputable def G__law_all : List D → S → Option (D × S) := dDef 3 den__law_all
theorem ok__law_all {f : Addr} {fd : FuncData} (F : Fun K "_law_all" "_law_all" s__law_all f fd) (hm : mg "_law_all" = some (.ref f)) (F__law_same : Fn P wd K mg base 8 "_law_same" ["told", "due"] G__law_same) (m_len : mg "len" = none) : Fn P wd K mg base 9 "_law_all" ["pairs"] G__law_all :=
  fn_mk F hm (F.binds (ps := ["pairs"]) fun _ _ _ _ _ _ us hl => match us, hl with | [_], _ => rfl) sc__law_all fun cdv A outer s H E hr =>
  (b_one (s_ret (ps_ret (r_cmp (op_eqD hr.units) op2_eq (r_cb opA_len (pe_callB call_len_seq (by rfl) m_len PySem.boot_len (a_cons (r_frz (l_lc (own := [("told", 1), ("due", 2)]) rfl sc__law_all.nd (i_seq (r_var (pv 0))) (blkOk_by (own := [("told", 1), ("due", 2)]) (N := ["pairs", "told", "due"]) (sc := defScope s__law_all) (by decide +kernel)) (fun _ _ _ _ _ => (g_tup rfl (gs_cons (g_name (pg_name (i := 1) sc__law_all.nd rfl (.inl rfl))) (gs_cons (g_name (pg_name (i := 2) sc__law_all.nd rfl (.inl rfl))) gs_nil)))) (fun _ _ _ _ _ => (ts_one (r_not (r_test (r_call F__law_same hr (by decide) (by rfl) (a_cons (r_var (pv 1)) (a_cons (r_var (pv 2)) a_nil)) rfl (dCons_len (dCons_len dNil_len))))))) (fun _ _ _ _ _ => (r_var (pv 1))))) a_nil))) r_int (nomark _)))))

abbrev s__law_gcd : Stmt := top 37
theorem sc__law_gcd : FnScope ["left", "right"] ["left", "right"] (defScope s__law_gcd) := ⟨rfl, rfl, rfl, by decide +kernel, rfl, by decide +kernel, by decide +kernel⟩
noncomputable def den__law_gcd : DS :=
  (dSeq (dPar 0 1 (dCons (dArgs (g1 absD) (dCons (dVar 0) dNil)) (dCons (dArgs (g1 absD) (dCons (dVar 1) dNil)) dNil)))
  (dSeq (dWhile (dTest (dBin neV (dVar 1) (dC (.int 0)))) (dPar 0 1 (dCons (dVar 1) (dCons (dBin modD (dArgs (g1 intD) (dCons (dVar 0) dNil)) (dVar 1)) dNil))))
  (dRet (dVar 0))))
noncomputable def G__law_gcd : List D → S → Option (D × S) := dDef 2 den__law_gcd
theorem ok__law_gcd {f : Addr} {fd : FuncData} (F : Fun K "_law_gcd" "_law_gcd" s__law_gcd f fd) (hm : mg "_law_gcd" = some (.ref f)) (m_abs : mg "abs" = none) (m_int : mg "int" = none) : Fn P wd K mg base 1 "_law_gcd" ["left", "right"] G__law_gcd :=
  fn_mk F hm (F.binds (ps := ["left", "right"]) fun _ _ _ _ _ _ us hl => match us, hl with | [_, _], _ => rfl) sc__law_gcd fun cdv A outer s H E hr =>
  (b_cons (s_par (ps_par (i := 0) (j := 1) rfl sc__law_gcd.nd rfl rfl (by decide) rfl rfl (a_cons (r_cb opA_abs (pe_callB call_abs (by rfl) m_abs (by decide +kernel) (a_cons (r_var (pv 0)) a_nil))) (a_cons (r_cb opA_abs (pe_callB call_abs (by rfl) m_abs (by decide +kernel) (a_cons (r_var (pv 1)) a_nil))) a_nil)) (by rfl)))
  (b_cons (s_while PassesOwn.never (r_cmpT (op_neD hr.units) op2_ne (r_var (pv 1)) r_int (nomark _)) (b_one (s_par (ps_par (i := 0) (j := 1) rfl sc__law_gcd.nd rfl rfl (by decide) rfl rfl (a_cons (r_var (pv 1)) (a_cons (r_mod (r_cb opA_int (pe_callTy call_int1 (by rfl) m_int (by decide +kernel) (a_cons (r_var (pv 0)) a_nil))) (r_var (pv 1))) a_nil)) (by rfl)))))
  (b_one (s_ret (ps_ret (r_var (pv 0)))))))

abbrev s__law_gcd_of : Stmt := top 38
theorem sc__law_gcd_of : FnScope ["numbers", "found", "entry"] ["numbers"] (defScope s__law_gcd_of) := ⟨rfl, rfl, rfl, by decide +kernel, rfl, by decide +kernel, by decide +kernel⟩
noncomputable def den__law_gcd_of : DS :=
  (dSeq (dSet 1 (dC (.int 0)))
  (dSeq (dFor (dItems (dVar 0)) (gN 2) (dSet 1 (dCall G__law_gcd (dCons (dVar 1) (dCons (dVar 2) dNil)))))
  (dRet (dVar 1))))
noncomputable def G__law_gcd_of : List D → S → Option (D × S) := dDef 3 den__law_gcd_of
theorem ok__law_gcd_of {f : Addr} {fd : FuncData} (F : Fun K "_law_gcd_of" "_law_gcd_of" s__law_gcd_of f fd) (hm : mg "_law_gcd_of" = some (.ref f)) (F__law_gcd : Fn P wd K mg base 1 "_law_gcd" ["left", "right"] G__law_gcd) : Fn P wd K mg base 2 "_law_gcd_of" ["numbers"] G__law_gcd_of :=
  fn_mk F hm (F.binds (ps := ["numbers"]) fun _ _ _ _ _ _ us hl => match us, hl with | [_], _ => rfl) sc__law_gcd_of fun cdv A outer s H E hr =>
  (b_cons (s_set (ps_set (i := 1) sc__law_gcd_of.nd rfl (.inl rfl) r_int))
  (b_cons (s_for PassesOwn.never rfl (i_seq (r_var (pv 0))) (g_name (pg_name (i := 2) sc__law_gcd_of.nd rfl (.inl rfl))) (b_one (s_set (ps_set (i := 1) sc__law_gcd_of.nd rfl (.inl rfl) (r_call F__law_gcd hr (by decide) (by rfl) (a_cons (r_var (pv 1)) (a_cons (r_var (pv 2)) a_nil)) rfl (dCons_len (dCons_len dNil_len)))))))
  (b_one (s_ret (ps_ret (r_var (pv 1)))))))

abbrev s__law_lowest : Stmt := top 39
theorem sc__law_lowest : FnScope ["row", "low", "part", "entry"] ["row", "low"] (defScope s__law_lowest) := ⟨rfl, rfl, rfl, by decide +kernel, rfl, by decide +kernel, by decide +kernel⟩
noncomputable def den__law_lowest : DS :=
  (dSeq (dSet 2 (dCall G__law_gcd_of (dCons (dFrz (lBin catL (dFrz (lArgs (gL1 listL) (dCons (dVar 0) dNil))) (dFrz (dLst (dCons (dVar 1) dNil))))) dNil)))
  (dSeq (dIfS (dTest (dBin ltD (dVar 1) (dC (.int 0)))) (dSet 2 (dUn negD (dVar 2))) dSkip)
  (dRet (dTup (dCons (dArgs (g1 tupleD) (dCons (dFrz (dComp (dItems (dVar 0)) [3] (gN 3) dYes (dBin fdivD (dVar 3) (dVar 2)))) dNil)) (dCons (dBin fdivD (dVar 1) (dVar 2)) dNil))))))
noncomputable def G__law_lowest : List D → S → Option (D × S) := dDef 4 den__law_lowest
theorem ok__law_lowest {f : Addr} {fd : FuncData} (F : Fun K "_law_lowest" "_law_lowest" s__law_lowest f fd) (hm : mg "_law_lowest" = some (.ref f)) (F__law_gcd_of : Fn P wd K mg base 2 "_law_gcd_of" ["numbers"] G__law_gcd_of) (m_list : mg "list" = none) (m_tuple : mg "tuple" = none) : Fn P wd K mg base 3 "_law_lowest" ["row", "low"] G__law_lowest :=
  fn_mk F hm (F.binds (ps := ["row", "low"]) fun _ _ _ _ _ _ us hl => match us, hl with | [_, _], _ => rfl) sc__law_lowest fun cdv A outer s H E hr =>
  (b_cons (s_set (ps_set (i := 2) sc__law_lowest.nd rfl (.inr rfl) (r_call F__law_gcd_of hr (by decide) (by rfl) (a_cons (r_frz (l_cat (r_frz (l_cb opLA_list (pe_callTy call_list_of (by rfl) m_list (by decide +kernel) (a_cons (r_var (pv 0)) a_nil)))) (r_frz (l_lst (a_cons (r_var (pv 1)) a_nil))))) a_nil) rfl (dCons_len dNil_len))))
  (b_cons (s_if (r_cmpT op_lt op2_lt (r_var (pv 1)) r_int (nomark _)) (b_one (s_set (ps_set (i := 2) sc__law_lowest.nd rfl (.inr rfl) (r_neg (r_var (pv 2)))))) b_nil)
  (b_one (s_ret (ps_ret (r_tup (a_cons (r_cb opA_tuple (pe_callTy call_tuple_of (by rfl) m_tuple (by decide +kernel) (a_cons (r_frz (l_lc (own := [("entry", 3)]) rfl sc__law_lowest.nd (i_seq (r_var (pv 0))) (blkOk_by (own := [("entry", 3)]) (N := ["row", "low", "part", "entry"]) (sc := defScope s__law_lowest) (by decide +kernel)) (fun _ _ _ _ _ => (g_name (pg_name (i := 3) sc__law_lowest.nd rfl (.inl rfl)))) (fun _ _ _ _ _ => ts_nil) (fun _ _ _ _ _ => (r_fdiv (r_var (pv 3)) (r_var (pv 2)))))) a_nil))) (a_cons (r_fdiv (r_var (pv 1)) (r_var (pv 2))) a_nil))))))))

abbrev s__law_fraction : Stmt := top 40
theorem sc__law_fraction : FnScope ["high", "low", "part"] ["high", "low"] (defScope s__law_fraction) := ⟨rfl, rfl, rfl, by decide +kernel, rfl, by decide +kernel, by decide +kernel⟩
noncomputable def den__law_fraction : DS :=
  (dSeq (dSet 2 (dIf (dTest (dBin gtD (dVar 1) (dC (.int 0)))) (dCall G__law_gcd (dCons (dVar 0) (dCons (dVar 1) dNil))) (dUn negD (dCall G__law_gcd (dCons (dVar 0) (dCons (dVar 1) dNil))))))
  (dRet (dTup (dCons (dBin fdivD (dVar 0) (dVar 2)) (dCons (dBin fdivD (dVar 1) (dVar 2)) dNil)))))
noncomputable def G__law_fraction : List D → S → Option (D × S) := dDef 3 den__law_fraction
theorem ok__law_fraction {f : Addr} {fd : FuncData} (F : Fun K "_law_fraction" "_law_fraction" s__law_fraction f fd) (hm : mg "_law_fraction" = some (.ref f)) (F__law_gcd : Fn P wd K mg base 1 "_law_gcd" ["left", "right"] G__law_gcd) : Fn P wd K mg base 2 "_law_fraction" ["high", "low"] G__law_fraction :=
  fn_mk F hm (F.binds (ps := ["high", "low"]) fun _ _ _ _ _ _ us hl => match us, hl with | [_, _], _ => rfl) sc__law_fraction fun cdv A outer s H E hr =>
  (b_cons (s_set (ps_set (i := 2) sc__law_fraction.nd rfl (.inl rfl) (r_ifExp (r_cmpT op_gt op2_gt (r_var (pv 1)) r_int (nomark _)) (r_call F__law_gcd hr (by decide) (by rfl) (a_cons (r_var (pv 0)) (a_cons (r_var (pv 1)) a_nil)) rfl (dCons_len (dCons_len dNil_len))) (r_neg (r_call F__law_gcd hr (by decide) (by rfl) (a_cons (r_var (pv 0)) (a_cons (r_var (pv 1)) a_nil)) rfl (dCons_len (dCons_len dNil_len)))))))
  (b_one (s_ret (ps_ret (r_tup (a_cons (r_fdiv (r_var (pv 0)) (r_var (pv 2))) (a_cons (r_fdiv (r_var (pv 1)) (r_var (pv 2))) a_nil)))))))

abbrev s__law_times : Stmt := top 41
theorem sc__law_times : FnScope ["row", "many", "entry"] ["row", "many"] (defScope s__law_times) := ⟨rfl, rfl, rfl, by decide +kernel, rfl, by decide +kernel, by decide +kernel⟩
noncomputable def den__law_times : DS :=
  (dRet (dFrz (dComp (dItems (dVar 0)) [2] (gN 2) dYes (dBin mulD (dVar 1) (dVar 2)))))
noncomputable def G__law_times : List D → S → Option (D × S) := dDef 3 den__law_times
theorem ok__law_times {f : Addr} {fd : FuncData} (F : Fun K "_law_times" "_law_times" s__law_times f fd) (hm : mg "_law_times" = some (.ref f)) : Fn P wd K mg base 1 "_law_times" ["row", "many"] G__law_times :=
  fn_mk F hm (F.binds (ps := ["row", "many"]) fun _ _ _ _ _ _ us hl => match us, hl with | [_, _], _ => rfl) sc__law_times fun cdv A outer s H E hr =>
  (b_one (s_ret (ps_ret (r_frz (l_lc (own := [("entry", 2)]) rfl sc__law_times.nd (i_seq (r_var (pv 0))) (blkOk_by (own := [("entry", 2)]) (N := ["row", "many", "entry"]) (sc := defScope s__law_times) (by decide +kernel)) (fun _ _ _ _ _ => (g_name (pg_name (i := 2) sc__law_times.nd rfl (.inl rfl)))) (fun _ _ _ _ _ => ts_nil) (fun _ _ _ _ _ => (r_mul (r_var (pv 1)) (r_var (pv 2)))))))))

abbrev s__law_by : Stmt := top 42
theorem sc__law_by : FnScope ["signs", "left", "right", "found", "factors", "at", "q", "ground", "to"] ["signs", "left", "right"] (defScope s__law_by) := ⟨rfl, rfl, rfl, by decide +kernel, rfl, by decide +kernel, by decide +kernel⟩
noncomputable def den__law_by : DS :=
  (dSeq (dUnp (gT 2 (gsC (gN 6) (gsC (gN 7) gsN))) (dVar 0))
  (dSeq (dSetL 3 (dLst (dCons (dC (.int 0)) (dCons (dC (.int 0)) (dCons (dC (.int 0)) (dCons (dC (.int 0)) dNil))))))
  (dSeq (dSet 4 (dFrz (dLst (dCons (dFrz (dLst (dCons (dC (.int 1)) (dCons (dC (.int 1)) (dCons (dC (.int 1)) (dCons (dC (.int 1)) dNil)))))) (dCons (dFrz (dLst (dCons (dC (.int 1)) (dCons (dUn negD (dVar 6)) (dCons (dC (.int 1)) (dCons (dUn negD (dVar 6)) dNil)))))) (dCons (dFrz (dLst (dCons (dC (.int 1)) (dCons (dUn negD (dC (.int 1))) (dCons (dUn negD (dVar 7)) (dCons (dVar 7) dNil)))))) (dCons (dFrz (dLst (dCons (dC (.int 1)) (dCons (dVar 6) (dCons (dUn negD (dVar 7)) (dCons (dBin mulD (dUn negD (dVar 6)) (dVar 7)) dNil)))))) dNil)))))))
  (dSeq (dFor (dRng1 (dCons (dC (.int 4)) dNil)) (gN 5) (dFor (dRng1 (dCons (dC (.int 4)) dNil)) (gN 8) (dAugI 3 (dBin ixD (dBin ixD (dFrz (dLst (dCons (dFrz (dLst (dCons (dC (.int 0)) (dCons (dC (.int 1)) (dCons (dC (.int 2)) (dCons (dC (.int 3)) dNil)))))) (dCons (dFrz (dLst (dCons (dC (.int 1)) (dCons (dC (.int 0)) (dCons (dC (.int 3)) (dCons (dC (.int 2)) dNil)))))) (dCons (dFrz (dLst (dCons (dC (.int 2)) (dCons (dC (.int 3)) (dCons (dC (.int 0)) (dCons (dC (.int 1)) dNil)))))) (dCons (dFrz (dLst (dCons (dC (.int 3)) (dCons (dC (.int 2)) (dCons (dC (.int 1)) (dCons (dC (.int 0)) dNil)))))) dNil)))))) (dVar 5)) (dVar 8)) iaddD (dBin mulD (dBin mulD (dBin ixD (dVar 1) (dVar 5)) (dBin ixD (dVar 2) (dVar 8))) (dBin ixD (dBin ixD (dVar 4) (dVar 5)) (dVar 8))))))
  (dRet (dVar 3))))))
noncomputable def G__law_by : List D → S → Option (D × S) := dDef 9 den__law_by
theorem ok__law_by {f : Addr} {fd : FuncData} (F : Fun K "_law_by" "_law_by" s__law_by f fd) (hm : mg "_law_by" = some (.ref f)) (m_range : mg "range" = none) : Fn P wd K mg base 1 "_law_by" ["signs", "left", "right"] G__law_by :=
  fn_mk F hm (F.binds (ps := ["signs", "left", "right"]) fun _ _ _ _ _ _ us hl => match us, hl with | [_, _, _], _ => rfl) sc__law_by fun cdv A outer s H E hr =>
  (b_cons (s_unp (ps_asg (r_var (pv 0)) (g_tup rfl (gs_cons (g_name (pg_name (i := 6) sc__law_by.nd rfl (.inl rfl))) (gs_cons (g_name (pg_name (i := 7) sc__law_by.nd rfl (.inl rfl))) gs_nil)))))
  (b_cons (s_setL (ps_set (i := 3) sc__law_by.nd rfl (.inl rfl) (l_lst (a_cons r_int (a_cons r_int (a_cons r_int (a_cons r_int a_nil)))))))
  (b_cons (s_set (ps_set (i := 4) sc__law_by.nd rfl (.inl rfl) (r_frz (l_lst (a_cons (r_frz (l_lst (a_cons r_int (a_cons r_int (a_cons r_int (a_cons r_int a_nil)))))) (a_cons (r_frz (l_lst (a_cons r_int (a_cons (r_neg (r_var (pv 6))) (a_cons r_int (a_cons (r_neg (r_var (pv 6))) a_nil)))))) (a_cons (r_frz (l_lst (a_cons r_int (a_cons (r_neg r_int) (a_cons (r_neg (r_var (pv 7))) (a_cons (r_var (pv 7)) a_nil)))))) (a_cons (r_frz (l_lst (a_cons r_int (a_cons (r_var (pv 6)) (a_cons (r_neg (r_var (pv 7))) (a_cons (r_mul (r_neg (r_var (pv 6))) (r_var (pv 7))) a_nil)))))) a_nil))))))))
  (b_cons (s_for PassesOwn.never rfl (i_rng1 (by rfl) m_range (a_cons r_int a_nil)) (g_name (pg_name (i := 5) sc__law_by.nd rfl (.inl rfl))) (b_one (s_for PassesOwn.never rfl (i_rng1 (by rfl) m_range (a_cons r_int a_nil)) (g_name (pg_name (i := 8) sc__law_by.nd rfl (.inl rfl))) (b_one (s_augI op2_ipI (ps_augS (pv 3) (r_item (r_item (r_frz (l_lst (a_cons (r_frz (l_lst (a_cons r_int (a_cons r_int (a_cons r_int (a_cons r_int a_nil)))))) (a_cons (r_frz (l_lst (a_cons r_int (a_cons r_int (a_cons r_int (a_cons r_int a_nil)))))) (a_cons (r_frz (l_lst (a_cons r_int (a_cons r_int (a_cons r_int (a_cons r_int a_nil)))))) (a_cons (r_frz (l_lst (a_cons r_int (a_cons r_int (a_cons r_int (a_cons r_int a_nil)))))) a_nil)))))) (r_var (pv 5)) (fun _ _ => rfl)) (r_var (pv 8)) (fun _ _ => rfl)) get_list (r_mul (r_mul (r_item (r_var (pv 1)) (r_var (pv 5)) (fun _ _ => rfl)) (r_item (r_var (pv 2)) (r_var (pv 8)) (fun _ _ => rfl))) (r_item (r_item (r_var (pv 4)) (r_var (pv 5)) (fun _ _ => rfl)) (r_var (pv 8)) (fun _ _ => rfl))) ip_add set_list))))))
  (b_one (s_ret (ps_ret (r_var (pv 3)))))))))

abbrev s__law_norm_of : Stmt := top 43
theorem sc__law_norm_of : FnScope ["signs", "row", "high"] ["signs", "row"] (defScope s__law_norm_of) := ⟨rfl, rfl, rfl, by decide +kernel, rfl, by decide +kernel, by decide +kernel⟩
noncomputable def den__law_norm_of : DS :=
  (dSeq (dSet 2 (dBin addD (dBin mulD (dBin ixD (dVar 1) (dC (.int 2))) (dBin ixD (dVar 1) (dC (.int 2)))) (dBin mulD (dBin mulD (dBin ixD (dVar 0) (dC (.int 0))) (dBin ixD (dVar 1) (dC (.int 3)))) (dBin ixD (dVar 1) (dC (.int 3))))))
  (dRet (dBin addD (dBin addD (dBin mulD (dBin ixD (dVar 1) (dC (.int 0))) (dBin ixD (dVar 1) (dC (.int 0)))) (dBin mulD (dBin mulD (dBin ixD (dVar 0) (dC (.int 0))) (dBin ixD (dVar 1) (dC (.int 1)))) (dBin ixD (dVar 1) (dC (.int 1))))) (dBin mulD (dBin ixD (dVar 0) (dC (.int 1))) (dVar 2)))))
noncomputable def G__law_norm_of : List D → S → Option (D × S) := dDef 3 den__law_norm_of
theorem ok__law_norm_of {f : Addr} {fd : FuncData} (F : Fun K "_law_norm_of" "_law_norm_of" s__law_norm_of f fd) (hm : mg "_law_norm_of" = some (.ref f)) : Fn P wd K mg base 1 "_law_norm_of" ["signs", "row"] G__law_norm_of :=
  fn_mk F hm (F.binds (ps := ["signs", "row"]) fun _ _ _ _ _ _ us hl => match us, hl with | [_, _], _ => rfl) sc__law_norm_of fun cdv A outer s H E hr =>
  (b_cons (s_set (ps_set (i := 2) sc__law_norm_of.nd rfl (.inl rfl) (r_add (r_mul (r_item (r_var (pv 1)) r_int (fun _ _ => rfl)) (r_item (r_var (pv 1)) r_int (fun _ _ => rfl))) (r_mul (r_mul (r_item (r_var (pv 0)) r_int (fun _ _ => rfl)) (r_item (r_var (pv 1)) r_int (fun _ _ => rfl))) (r_item (r_var (pv 1)) r_int (fun _ _ => rfl))))))
  (b_one (s_ret (ps_ret (r_add (r_add (r_mul (r_item (r_var (pv 1)) r_int (fun _ _ => rfl)) (r_item (r_var (pv 1)) r_int (fun _ _ => rfl))) (r_mul (r_mul (r_item (r_var (pv 0)) r_int (fun _ _ => rfl)) (r_item (r_var (pv 1)) r_int (fun _ _ => rfl))) (r_item (r_var (pv 1)) r_int (fun _ _ => rfl)))) (r_mul (r_item (r_var (pv 0)) r_int (fun _ _ => rfl)) (r_var (pv 2))))))))

abbrev s__law_turned : Stmt := top 44
theorem sc__law_turned : FnScope ["row"] ["row"] (defScope s__law_turned) := ⟨rfl, rfl, rfl, by decide +kernel, rfl, by decide +kernel, by decide +kernel⟩
noncomputable def den__law_turned : DS :=
  (dRet (dFrz (dLst (dCons (dBin ixD (dVar 0) (dC (.int 0))) (dCons (dUn negD (dBin ixD (dVar 0) (dC (.int 1)))) (dCons (dUn negD (dBin ixD (dVar 0) (dC (.int 2)))) (dCons (dUn negD (dBin ixD (dVar 0) (dC (.int 3)))) dNil)))))))
noncomputable def G__law_turned : List D → S → Option (D × S) := dDef 1 den__law_turned
theorem ok__law_turned {f : Addr} {fd : FuncData} (F : Fun K "_law_turned" "_law_turned" s__law_turned f fd) (hm : mg "_law_turned" = some (.ref f)) : Fn P wd K mg base 1 "_law_turned" ["row"] G__law_turned :=
  fn_mk F hm (F.binds (ps := ["row"]) fun _ _ _ _ _ _ us hl => match us, hl with | [_], _ => rfl) sc__law_turned fun cdv A outer s H E hr =>
  (b_one (s_ret (ps_ret (r_frz (l_lst (a_cons (r_item (r_var (pv 0)) r_int (fun _ _ => rfl)) (a_cons (r_neg (r_item (r_var (pv 0)) r_int (fun _ _ => rfl))) (a_cons (r_neg (r_item (r_var (pv 0)) r_int (fun _ _ => rfl))) (a_cons (r_neg (r_item (r_var (pv 0)) r_int (fun _ _ => rfl))) a_nil)))))))))

abbrev s__law_mul : Stmt := top 45
theorem sc__law_mul : FnScope ["signs", "left", "right"] ["signs", "left", "right"] (defScope s__law_mul) := ⟨rfl, rfl, rfl, by decide +kernel, rfl, by decide +kernel, by decide +kernel⟩
noncomputable def den__law_mul : DS :=
  (dRet (dCall G__law_lowest (dCons (dCall G__law_by (dCons (dVar 0) (dCons (dBin ixD (dVar 1) (dC (.int 0))) (dCons (dBin ixD (dVar 2) (dC (.int 0))) dNil)))) (dCons (dBin mulD (dBin ixD (dVar 1) (dC (.int 1))) (dBin ixD (dVar 2) (dC (.int 1)))) dNil))))
noncomputable def G__law_mul : List D → S → Option (D × S) := dDef 3 den__law_mul
theorem ok__law_mul {f : Addr} {fd : FuncData} (F : Fun K "_law_mul" "_law_mul" s__law_mul f fd) (hm : mg "_law_mul" = some (.ref f)) (F__law_lowest : Fn P wd K mg base 3 "_law_lowest" ["row", "low"] G__law_lowest) (F__law_by : Fn P wd K mg base 1 "_law_by" ["signs", "left", "right"] G__law_by) : Fn P wd K mg base 4 "_law_mul" ["signs", "left", "right"] G__law_mul :=
  fn_mk F hm (F.binds (ps := ["signs", "left", "right"]) fun _ _ _ _ _ _ us hl => match us, hl with | [_, _, _], _ => rfl) sc__law_mul fun cdv A outer s H E hr =>
  (b_one (s_ret (ps_ret (r_call F__law_lowest hr (by decide) (by rfl) (a_cons (r_call F__law_by hr (by decide) (by rfl) (a_cons (r_var (pv 0)) (a_cons (r_item (r_var (pv 1)) r_int (fun _ _ => rfl)) (a_cons (r_item (r_var (pv 2)) r_int (fun _ _ => rfl)) a_nil))) rfl (dCons_len (dCons_len (dCons_len dNil_len)))) (a_cons (r_mul (r_item (r_var (pv 1)) r_int (fun _ _ => rfl)) (r_item (r_var (pv 2)) r_int (fun _ _ => rfl))) a_nil)) rfl (dCons_len (dCons_len dNil_len))))))

abbrev s__law_back : Stmt := top 46
theorem sc__law_back : FnScope ["signs", "thing"] ["signs", "thing"] (defScope s__law_back) := ⟨rfl, rfl, rfl, by decide +kernel, rfl, by decide +kernel, by decide +kernel⟩
noncomputable def den__law_back : DS :=
  (dRet (dCall G__law_lowest (dCons (dCall G__law_times (dCons (dCall G__law_turned (dCons (dBin ixD (dVar 1) (dC (.int 0))) dNil)) (dCons (dBin ixD (dVar 1) (dC (.int 1))) dNil))) (dCons (dCall G__law_norm_of (dCons (dVar 0) (dCons (dBin ixD (dVar 1) (dC (.int 0))) dNil))) dNil))))
noncomputable def G__law_back : List D → S → Option (D × S) := dDef 2 den__law_back
theorem ok__law_back {f : Addr} {fd : FuncData} (F : Fun K "_law_back" "_law_back" s__law_back f fd) (hm : mg "_law_back" = some (.ref f)) (F__law_lowest : Fn P wd K mg base 3 "_law_lowest" ["row", "low"] G__law_lowest) (F__law_norm_of : Fn P wd K mg base 1 "_law_norm_of" ["signs", "row"] G__law_norm_of) (F__law_times : Fn P wd K mg base 1 "_law_times" ["row", "many"] G__law_times) (F__law_turned : Fn P wd K mg base 1 "_law_turned" ["row"] G__law_turned) : Fn P wd K mg base 4 "_law_back" ["signs", "thing"] G__law_back :=
  fn_mk F hm (F.binds (ps := ["signs", "thing"]) fun _ _ _ _ _ _ us hl => match us, hl with | [_, _], _ => rfl) sc__law_back fun cdv A outer s H E hr =>
  (b_one (s_ret (ps_ret (r_call F__law_lowest hr (by decide) (by rfl) (a_cons (r_call F__law_times hr (by decide) (by rfl) (a_cons (r_call F__law_turned hr (by decide) (by rfl) (a_cons (r_item (r_var (pv 1)) r_int (fun _ _ => rfl)) a_nil) rfl (dCons_len dNil_len)) (a_cons (r_item (r_var (pv 1)) r_int (fun _ _ => rfl)) a_nil)) rfl (dCons_len (dCons_len dNil_len))) (a_cons (r_call F__law_norm_of hr (by decide) (by rfl) (a_cons (r_var (pv 0)) (a_cons (r_item (r_var (pv 1)) r_int (fun _ _ => rfl)) a_nil)) rfl (dCons_len (dCons_len dNil_len))) a_nil)) rfl (dCons_len (dCons_len dNil_len))))))

abbrev s__law_signs : Stmt := top 47
theorem sc__law_signs : FnScope ["prime"] ["prime"] (defScope s__law_signs) := ⟨rfl, rfl, rfl, by decide +kernel, rfl, by decide +kernel, by decide +kernel⟩
noncomputable def den__law_signs : DS :=
  (dSeq (dIfS (dOr (dTest (dBin eqV (dVar 0) (dC (.int 2)))) (dTest (dBin eqV (dBin modD (dArgs (g1 intD) (dCons (dVar 0) dNil)) (dC (.int 4))) (dC (.int 3))))) (dRet (dTup (dCons (dC (.int 1)) (dCons (dVar 0) dNil)))) dSkip)
  (dRet (dIf (dTest (dBin eqV (dBin modD (dArgs (g1 intD) (dCons (dVar 0) dNil)) (dC (.int 8))) (dC (.int 5)))) (dTup (dCons (dC (.int 2)) (dCons (dVar 0) dNil))) (dTup (dCons (dDict [(17, (dC (.int 3))), (41, (dC (.int 3))), (73, (dC (.int 7))), (89, (dC (.int 3))), (97, (dC (.int 7)))] (dVar 0)) (dCons (dVar 0) dNil))))))
noncomputable def G__law_signs : List D → S → Option (D × S) := dDef 1 den__law_signs
theorem ok__law_signs {f : Addr} {fd : FuncData} (F : Fun K "_law_signs" "_law_signs" s__law_signs f fd) (hm : mg "_law_signs" = some (.ref f)) (m_int : mg "int" = none) : Fn P wd K mg base 1 "_law_signs" ["prime"] G__law_signs :=
  fn_mk F hm (F.binds (ps := ["prime"]) fun _ _ _ _ _ _ us hl => match us, hl with | [_], _ => rfl) sc__law_signs fun cdv A outer s H E hr =>
  (b_cons (s_if (r_pw (w_or (r_cmpT (op_eqD hr.units) op2_eq (r_var (pv 0)) r_int (nomark _)) (w_or1 (r_cmpT (op_eqD hr.units) op2_eq (r_mod (r_cb opA_int (pe_callTy call_int1 (by rfl) m_int (by decide +kernel) (a_cons (r_var (pv 0)) a_nil))) r_int) r_int (nomark _))))) (b_one (s_ret (ps_ret (r_tup (a_cons r_int (a_cons (r_var (pv 0)) a_nil)))))) b_nil)
  (b_one (s_ret (ps_ret (r_ifExp (r_cmpT (op_eqD hr.units) op2_eq (r_mod (r_cb opA_int (pe_callTy call_int1 (by rfl) m_int (by decide +kernel) (a_cons (r_var (pv 0)) a_nil))) r_int) r_int (nomark _)) (r_tup (a_cons r_int (a_cons (r_var (pv 0)) a_nil))) (r_tup (a_cons (r_dict (hu_of hr) (pps_c r_int (pps_c r_int (pps_c r_int (pps_c r_int (pps_c r_int pps_nil))))) (r_var (pv 0)) (fun _ _ => rfl) (by decide)) (a_cons (r_var (pv 0)) a_nil))))))))

abbrev s__law_row : Stmt := top 48
theorem sc__law_row : FnScope ["deal", "tall", "found", "spot", "entry"] ["deal", "tall"] (defScope s__law_row) := ⟨rfl, rfl, rfl, by decide +kernel, rfl, by decide +kernel, by decide +kernel⟩
noncomputable def den__law_row : DS :=
  (dSeq (dSetL 2 (dLst dNil))
  (dSeq (dFor (dRng1 (dCons (dC (.int 4)) dNil)) (gN 3) (dSeq (dSet 4 (dCall G__law_wide (dCons (dVar 0) (dCons (dCall G__law_of (dCons (dVar 0) (dCons (dVar 1) dNil))) dNil))))
  (dApp 2 (dIf (dTest (dBin eqV (dCall G__law_any (dCons (dVar 0) (dCons (dC (.int 2)) dNil))) (dC (.int 0)))) (dUn negD (dVar 4)) (dVar 4)))))
  (dRet (dVar 2))))
noncomputable def G__law_row : List D → S → Option (D × S) := dDef 5 den__law_row
theorem ok__law_row {f : Addr} {fd : FuncData} (F : Fun K "_law_row" "_law_row" s__law_row f fd) (hm : mg "_law_row" = some (.ref f)) (F__law_wide : Fn P wd K mg base 2 "_law_wide" ["deal", "bound"] G__law_wide) (F__law_of : Fn P wd K mg base 2 "_law_of" ["deal", "some"] G__law_of) (F__law_any : Fn P wd K mg base 1 "_law_any" ["deal", "bound"] G__law_any) (m_range : mg "range" = none) : Fn P wd K mg base 3 "_law_row" ["deal", "tall"] G__law_row :=
  fn_mk F hm (F.binds (ps := ["deal", "tall"]) fun _ _ _ _ _ _ us hl => match us, hl with | [_, _], _ => rfl) sc__law_row fun cdv A outer s H E hr =>
  (b_cons (s_setL (ps_set (i := 2) sc__law_row.nd rfl (.inl rfl) (l_lst a_nil)))
  (b_cons (s_for PassesOwn.never rfl (i_rng1 (by rfl) m_range (a_cons r_int a_nil)) (g_name (pg_name (i := 3) sc__law_row.nd rfl (.inl rfl))) (b_cons (s_set (ps_set (i := 4) sc__law_row.nd rfl (.inl rfl) (r_call F__law_wide hr (by decide) (by rfl) (a_cons (r_var (pv 0)) (a_cons (r_call F__law_of hr (by decide) (by rfl) (a_cons (r_var (pv 0)) (a_cons (r_var (pv 1)) a_nil)) rfl (dCons_len (dCons_len dNil_len))) a_nil)) rfl (dCons_len (dCons_len dNil_len)))))
  (b_one (s_app (ps_expr (pe_bm PySem.F.plainAttrs_list PySem.F.slot_list_append PySem.F.type_list_append mt_append (pv 2) (pa_cons (r_ifExp (r_cmpT (op_eqD hr.units) op2_eq (r_call F__law_any hr (by decide) (by rfl) (a_cons (r_var (pv 0)) (a_cons r_int a_nil)) rfl (dCons_len (dCons_len dNil_len))) r_int (nomark _)) (r_neg (r_var (pv 4))) (r_var (pv 4))) pa_nil)))))))
  (b_one (s_ret (ps_ret (r_var (pv 2)))))))

abbrev s__law_thing : Stmt := top 49
theorem sc__law_thing : FnScope ["deal", "tall"] ["deal", "tall"] (defScope s__law_thing) := ⟨rfl, rfl, rfl, by decide +kernel, rfl, by decide +kernel, by decide +kernel⟩
noncomputable def den__law_thing : DS :=
  (dRet (dCall G__law_lowest (dCons (dCall G__law_row (dCons (dVar 0) (dCons (dVar 1) dNil))) (dCons (dBin addD (dC (.int 1)) (dCall G__law_wide (dCons (dVar 0) (dCons (dBin subD (dCall G__law_of (dCons (dVar 0) (dCons (dVar 1) dNil))) (dC (.int 1))) dNil)))) dNil))))
noncomputable def G__law_thing : List D → S → Option (D × S) := dDef 2 den__law_thing
theorem ok__law_thing {f : Addr} {fd : FuncData} (F : Fun K "_law_thing" "_law_thing" s__law_thing f fd) (hm : mg "_law_thing" = some (.ref f)) (F__law_lowest : Fn P wd K mg base 3 "_law_lowest" ["row", "low"] G__law_lowest) (F__law_wide : Fn P wd K mg base 2 "_law_wide" ["deal", "bound"] G__law_wide) (F__law_of : Fn P wd K mg base 2 "_law_of" ["deal", "some"] G__law_of) (F__law_row : Fn P wd K mg base 3 "_law_row" ["deal", "tall"] G__law_row) : Fn P wd K mg base 4 "_law_thing" ["deal", "tall"] G__law_thing :=
  fn_mk F hm (F.binds (ps := ["deal", "tall"]) fun _ _ _ _ _ _ us hl => match us, hl with | [_, _], _ => rfl) sc__law_thing fun cdv A outer s H E hr =>
  (b_one (s_ret (ps_ret (r_call F__law_lowest hr (by decide) (by rfl) (a_cons (r_call F__law_row hr (by decide) (by rfl) (a_cons (r_var (pv 0)) (a_cons (r_var (pv 1)) a_nil)) rfl (dCons_len (dCons_len dNil_len))) (a_cons (r_add r_int (r_call F__law_wide hr (by decide) (by rfl) (a_cons (r_var (pv 0)) (a_cons (r_sub (r_call F__law_of hr (by decide) (by rfl) (a_cons (r_var (pv 0)) (a_cons (r_var (pv 1)) a_nil)) rfl (dCons_len (dCons_len dNil_len))) r_int) a_nil)) rfl (dCons_len (dCons_len dNil_len)))) a_nil)) rfl (dCons_len (dCons_len dNil_len))))))

abbrev s__law_joined : Stmt := top 50
theorem sc__law_joined : FnScope ["left", "right", "many", "spot"] ["left", "right", "many"] (defScope s__law_joined) := ⟨rfl, rfl, rfl, by decide +kernel, rfl, by decide +kernel, by decide +kernel⟩
noncomputable def den__law_joined : DS :=
  (dRet (dCall G__law_lowest (dCons (dFrz (dComp (dRng1 (dCons (dC (.int 4)) dNil)) [3] (gN 3) dYes (dBin addD (dBin mulD (dBin ixD (dBin ixD (dVar 0) (dC (.int 0))) (dVar 3)) (dBin ixD (dVar 1) (dC (.int 1)))) (dBin mulD (dBin mulD (dVar 2) (dBin ixD (dBin ixD (dVar 1) (dC (.int 0))) (dVar 3))) (dBin ixD (dVar 0) (dC (.int 1))))))) (dCons (dBin mulD (dBin ixD (dVar 0) (dC (.int 1))) (dBin ixD (dVar 1) (dC (.int 1)))) dNil))))
noncomputable def G__law_joined : List D → S → Option (D × S) := dDef 4 den__law_joined
theorem ok__law_joined {f : Addr} {fd : FuncData} (F : Fun K "_law_joined" "_law_joined" s__law_joined f fd) (hm : mg "_law_joined" = some (.ref f)) (F__law_lowest : Fn P wd K mg base 3 "_law_lowest" ["row", "low"] G__law_lowest) (m_range : mg "range" = none) : Fn P wd K mg base 4 "_law_joined" ["left", "right", "many"] G__law_joined :=
  fn_mk F hm (F.binds (ps := ["left", "right", "many"]) fun _ _ _ _ _ _ us hl => match us, hl with | [_, _, _], _ => rfl) sc__law_joined fun cdv A outer s H E hr =>
  (b_one (s_ret (ps_ret (r_call F__law_lowest hr (by decide) (by rfl) (a_cons (r_frz (l_lc (own := [("spot", 3)]) rfl sc__law_joined.nd (i_rng1 (by rfl) m_range (a_cons r_int a_nil)) (blkOk_by (own := [("spot", 3)]) (N := ["left", "right", "many", "spot"]) (sc := defScope s__law_joined) (by decide +kernel)) (fun _ _ _ _ _ => (g_name (pg_name (i := 3) sc__law_joined.nd rfl (.inl rfl)))) (fun _ _ _ _ _ => ts_nil) (fun _ _ _ _ _ => (r_add (r_mul (r_item (r_item (r_var (pv 0)) r_int (fun _ _ => rfl)) (r_var (pv 3)) (fun _ _ => rfl)) (r_item (r_var (pv 1)) r_int (fun _ _ => rfl))) (r_mul (r_mul (r_var (pv 2)) (r_item (r_item (r_var (pv 1)) r_int (fun _ _ => rfl)) (r_var (pv 3)) (fun _ _ => rfl))) (r_item (r_var (pv 0)) r_int (fun _ _ => rfl))))))) (a_cons (r_mul (r_item (r_var (pv 0)) r_int (fun _ _ => rfl)) (r_item (r_var (pv 1)) r_int (fun _ _ => rfl))) a_nil)) rfl (dCons_len (dCons_len dNil_len))))))

abbrev s__law_over : Stmt := top 51
theorem sc__law_over : FnScope ["thing", "high", "low"] ["thing", "high", "low"] (defScope s__law_over) := ⟨rfl, rfl, rfl, by decide +kernel, rfl, by decide +kernel, by decide +kernel⟩
noncomputable def den__law_over : DS :=
  (dRet (dCall G__law_lowest (dCons (dCall G__law_times (dCons (dBin ixD (dVar 0) (dC (.int 0))) (dCons (dVar 1) dNil))) (dCons (dBin mulD (dBin ixD (dVar 0) (dC (.int 1))) (dVar 2)) dNil))))
noncomputable def G__law_over : List D → S → Option (D × S) := dDef 3 den__law_over
theorem ok__law_over {f : Addr} {fd : FuncData} (F : Fun K "_law_over" "_law_over" s__law_over f fd) (hm : mg "_law_over" = some (.ref f)) (F__law_lowest : Fn P wd K mg base 3 "_law_lowest" ["row", "low"] G__law_lowest) (F__law_times : Fn P wd K mg base 1 "_law_times" ["row", "many"] G__law_times) : Fn P wd K mg base 4 "_law_over" ["thing", "high", "low"] G__law_over :=
  fn_mk F hm (F.binds (ps := ["thing", "high", "low"]) fun _ _ _ _ _ _ us hl => match us, hl with | [_, _, _], _ => rfl) sc__law_over fun cdv A outer s H E hr =>
  (b_one (s_ret (ps_ret (r_call F__law_lowest hr (by decide) (by rfl) (a_cons (r_call F__law_times hr (by decide) (by rfl) (a_cons (r_item (r_var (pv 0)) r_int (fun _ _ => rfl)) (a_cons (r_var (pv 1)) a_nil)) rfl (dCons_len (dCons_len dNil_len))) (a_cons (r_mul (r_item (r_var (pv 0)) r_int (fun _ _ => rfl)) (r_var (pv 2))) a_nil)) rfl (dCons_len (dCons_len dNil_len))))))

abbrev s__law_round : Stmt := top 52
theorem sc__law_round : FnScope ["thing"] ["thing"] (defScope s__law_round) := ⟨rfl, rfl, rfl, by decide +kernel, rfl, by decide +kernel, by decide +kernel⟩
noncomputable def den__law_round : DS :=
  (dRet (dTup (dCons (dArgs (g1 tupleD) (dCons (dCall G__law_turned (dCons (dBin ixD (dVar 0) (dC (.int 0))) dNil)) dNil)) (dCons (dBin ixD (dVar 0) (dC (.int 1))) dNil))))
noncomputable def G__law_round : List D → S → Option (D × S) := dDef 1 den__law_round
theorem ok__law_round {f : Addr} {fd : FuncData} (F : Fun K "_law_round" "_law_round" s__law_round f fd) (hm : mg "_law_round" = some (.ref f)) (F__law_turned : Fn P wd K mg base 1 "_law_turned" ["row"] G__law_turned) (m_tuple : mg "tuple" = none) : Fn P wd K mg base 2 "_law_round" ["thing"] G__law_round :=
  fn_mk F hm (F.binds (ps := ["thing"]) fun _ _ _ _ _ _ us hl => match us, hl with | [_], _ => rfl) sc__law_round fun cdv A outer s H E hr =>
  (b_one (s_ret (ps_ret (r_tup (a_cons (r_cb opA_tuple (pe_callTy call_tuple_of (by rfl) m_tuple (by decide +kernel) (a_cons (r_call F__law_turned hr (by decide) (by rfl) (a_cons (r_item (r_var (pv 0)) r_int (fun _ _ => rfl)) a_nil) rfl (dCons_len dNil_len)) a_nil))) (a_cons (r_item (r_var (pv 0)) r_int (fun _ _ => rfl)) a_nil))))))

abbrev s__law_worth_of : Stmt := top 53
theorem sc__law_worth_of : FnScope ["signs", "thing"] ["signs", "thing"] (defScope s__law_worth_of) := ⟨rfl, rfl, rfl, by decide +kernel, rfl, by decide +kernel, by decide +kernel⟩
noncomputable def den__law_worth_of : DS :=
  (dRet (dCall G__law_fraction (dCons (dCall G__law_norm_of (dCons (dVar 0) (dCons (dBin ixD (dVar 1) (dC (.int 0))) dNil))) (dCons (dBin mulD (dBin ixD (dVar 1) (dC (.int 1))) (dBin ixD (dVar 1) (dC (.int 1)))) dNil))))
noncomputable def G__law_worth_of : List D → S → Option (D × S) := dDef 2 den__law_worth_of
theorem ok__law_worth_of {f : Addr} {fd : FuncData} (F : Fun K "_law_worth_of" "_law_worth_of" s__law_worth_of f fd) (hm : mg "_law_worth_of" = some (.ref f)) (F__law_fraction : Fn P wd K mg base 2 "_law_fraction" ["high", "low"] G__law_fraction) (F__law_norm_of : Fn P wd K mg base 1 "_law_norm_of" ["signs", "row"] G__law_norm_of) : Fn P wd K mg base 3 "_law_worth_of" ["signs", "thing"] G__law_worth_of :=
  fn_mk F hm (F.binds (ps := ["signs", "thing"]) fun _ _ _ _ _ _ us hl => match us, hl with | [_, _], _ => rfl) sc__law_worth_of fun cdv A outer s H E hr =>
  (b_one (s_ret (ps_ret (r_call F__law_fraction hr (by decide) (by rfl) (a_cons (r_call F__law_norm_of hr (by decide) (by rfl) (a_cons (r_var (pv 0)) (a_cons (r_item (r_var (pv 1)) r_int (fun _ _ => rfl)) a_nil)) rfl (dCons_len (dCons_len dNil_len))) (a_cons (r_mul (r_item (r_var (pv 1)) r_int (fun _ _ => rfl)) (r_item (r_var (pv 1)) r_int (fun _ _ => rfl))) a_nil)) rfl (dCons_len (dCons_len dNil_len))))))

abbrev s__law_signed : Stmt := top 54
theorem sc__law_signed : FnScope ["deal", "tall", "entry"] ["deal", "tall"] (defScope s__law_signed) := ⟨rfl, rfl, rfl, by decide +kernel, rfl, by decide +kernel, by decide +kernel⟩
noncomputable def den__law_signed : DS :=
  (dSeq (dSet 2 (dCall G__law_wide (dCons (dVar 0) (dCons (dCall G__law_of (dCons (dVar 0) (dCons (dVar 1) dNil))) dNil))))
  (dRet (dIf (dTest (dBin eqV (dCall G__law_any (dCons (dVar 0) (dCons (dC (.int 2)) dNil))) (dC (.int 0)))) (dUn negD (dVar 2)) (dVar 2))))
noncomputable def G__law_signed : List D → S → Option (D × S) := dDef 3 den__law_signed
theorem ok__law_signed {f : Addr} {fd : FuncData} (F : Fun K "_law_signed" "_law_signed" s__law_signed f fd) (hm : mg "_law_signed" = some (.ref f)) (F__law_wide : Fn P wd K mg base 2 "_law_wide" ["deal", "bound"] G__law_wide) (F__law_of : Fn P wd K mg base 2 "_law_of" ["deal", "some"] G__law_of) (F__law_any : Fn P wd K mg base 1 "_law_any" ["deal", "bound"] G__law_any) : Fn P wd K mg base 3 "_law_signed" ["deal", "tall"] G__law_signed :=
  fn_mk F hm (F.binds (ps := ["deal", "tall"]) fun _ _ _ _ _ _ us hl => match us, hl with | [_, _], _ => rfl) sc__law_signed fun cdv A outer s H E hr =>
  (b_cons (s_set (ps_set (i := 2) sc__law_signed.nd rfl (.inl rfl) (r_call F__law_wide hr (by decide) (by rfl) (a_cons (r_var (pv 0)) (a_cons (r_call F__law_of hr (by decide) (by rfl) (a_cons (r_var (pv 0)) (a_cons (r_var (pv 1)) a_nil)) rfl (dCons_len (dCons_len dNil_len))) a_nil)) rfl (dCons_len (dCons_len dNil_len)))))
  (b_one (s_ret (ps_ret (r_ifExp (r_cmpT (op_eqD hr.units) op2_eq (r_call F__law_any hr (by decide) (by rfl) (a_cons (r_var (pv 0)) (a_cons r_int a_nil)) rfl (dCons_len (dCons_len dNil_len))) r_int (nomark _)) (r_neg (r_var (pv 2))) (r_var (pv 2)))))))

abbrev s__law_drawn : Stmt := top 55
theorem sc__law_drawn : FnScope ["deal", "tall", "kind", "thing"] ["deal"] (defScope s__law_drawn) := ⟨rfl, rfl, rfl, by decide +kernel, rfl, by decide +kernel, by decide +kernel⟩
noncomputable def den__law_drawn : DS :=
  (dSeq (dSet 1 (dCall G__law_of (dCons (dVar 0) (dCons (dFrz (dLst (dCons (dFrz (dLst (dCons (dC (.int 2)) dNil))) (dCons (dFrz (dLst (dCons (dC (.int 4)) (dCons (dC (.int 2)) dNil)))) (dCons (dFrz (dLst (dCons (dBin powD (dC (.int 10)) (dC (.int 6))) (dCons (dC (.int 3)) dNil)))) (dCons (dFrz (dLst (dCons (dBin powD (dC (.int 10)) (dC (.int 40))) dNil))) (dCons (dFrz (dLst (dCons (dBin powD (dC (.int 10)) (dC (.int 40))) (dCons (dC (.int 2)) dNil)))) (dCons (dFrz (dLst (dCons (dBin powD (dC (.int 10)) (dC (.int 20))) (dCons (dBin powD (dC (.int 10)) (dC (.int 40))) dNil)))) dNil)))))))) dNil))))
  (dSeq (dSet 2 (dCall G__law_any (dCons (dVar 0) (dCons (dC (.int 12)) dNil))))
  (dSeq (dIfS (dTest (dBin eqV (dVar 2) (dC (.int 0)))) (dRet (dTup (dCons (dTup (dCons (dC (.int 0)) (dCons (dC (.int 0)) (dCons (dC (.int 0)) (dCons (dC (.int 0)) dNil))))) (dCons (dC (.int 1)) dNil)))) dSkip)
  (dSeq (dIfS (dTest (dBin eqV (dVar 2) (dC (.int 1)))) (dRet (dTup (dCons (dTup (dCons (dCall G__law_signed (dCons (dVar 0) (dCons (dFrz (dLst (dCons (dC (.int 3)) (dCons (dBin powD (dC (.int 10)) (dC (.int 40))) dNil)))) dNil))) (dCons (dC (.int 0)) (dCons (dC (.int 0)) (dCons (dC (.int 0)) dNil))))) (dCons (dC (.int 1)) dNil)))) dSkip)
  (dSeq (dSet 3 (dCall G__law_thing (dCons (dVar 0) (dCons (dVar 1) dNil))))
  (dSeq (dIfS (dTest (dBin eqV (dVar 2) (dC (.int 2)))) (dSet 3 (dCall G__law_lowest (dCons (dFrz (lBin catL (dFrz (dLst (dCons (dC (.int 0)) (dCons (dC (.int 0)) dNil)))) (dFrz (lArgs (gL1 listL) (dCons (dCutT (dBin ixD (dVar 3) (dC (.int 0))) (oSome (dC (.int 2))) oNone) dNil))))) (dCons (dBin ixD (dVar 3) (dC (.int 1))) dNil)))) dSkip)
  (dRet (dVar 3))))))))
noncomputable def G__law_drawn : List D → S → Option (D × S) := dDef 4 den__law_drawn
theorem ok__law_drawn {f : Addr} {fd : FuncData} (F : Fun K "_law_drawn" "_law_drawn" s__law_drawn f fd) (hm : mg "_law_drawn" = some (.ref f)) (F__law_of : Fn P wd K mg base 2 "_law_of" ["deal", "some"] G__law_of) (F__law_any : Fn P wd K mg base 1 "_law_any" ["deal", "bound"] G__law_any) (F__law_signed : Fn P wd K mg base 3 "_law_signed" ["deal", "tall"] G__law_signed) (F__law_thing : Fn P wd K mg base 4 "_law_thing" ["deal", "tall"] G__law_thing) (F__law_lowest : Fn P wd K mg base 3 "_law_lowest" ["row", "low"] G__law_lowest) (m_list : mg "list" = none) : Fn P wd K mg base 5 "_law_drawn" ["deal"] G__law_drawn :=
  fn_mk F hm (F.binds (ps := ["deal"]) fun _ _ _ _ _ _ us hl => match us, hl with | [_], _ => rfl) sc__law_drawn fun cdv A outer s H E hr =>
  (b_cons (s_set (ps_set (i := 1) sc__law_drawn.nd rfl (.inl rfl) (r_call F__law_of hr (by decide) (by rfl) (a_cons (r_var (pv 0)) (a_cons (r_frz (l_lst (a_cons (r_frz (l_lst (a_cons r_int a_nil))) (a_cons (r_frz (l_lst (a_cons r_int (a_cons r_int a_nil)))) (a_cons (r_frz (l_lst (a_cons (r_pow r_int r_int) (a_cons r_int a_nil)))) (a_cons (r_frz (l_lst (a_cons (r_pow r_int r_int) a_nil))) (a_cons (r_frz (l_lst (a_cons (r_pow r_int r_int) (a_cons r_int a_nil)))) (a_cons (r_frz (l_lst (a_cons (r_pow r_int r_int) (a_cons (r_pow r_int r_int) a_nil)))) a_nil)))))))) a_nil)) rfl (dCons_len (dCons_len dNil_len)))))
  (b_cons (s_set (ps_set (i := 2) sc__law_drawn.nd rfl (.inl rfl) (r_call F__law_any hr (by decide) (by rfl) (a_cons (r_var (pv 0)) (a_cons r_int a_nil)) rfl (dCons_len (dCons_len dNil_len)))))
  (b_cons (s_if (r_cmpT (op_eqD hr.units) op2_eq (r_var (pv 2)) r_int (nomark _)) (b_one (s_ret (ps_ret (r_tup (a_cons (r_tup (a_cons r_int (a_cons r_int (a_cons r_int (a_cons r_int a_nil))))) (a_cons r_int a_nil)))))) b_nil)
  (b_cons (s_if (r_cmpT (op_eqD hr.units) op2_eq (r_var (pv 2)) r_int (nomark _)) (b_one (s_ret (ps_ret (r_tup (a_cons (r_tup (a_cons (r_call F__law_signed hr (by decide) (by rfl) (a_cons (r_var (pv 0)) (a_cons (r_frz (l_lst (a_cons r_int (a_cons (r_pow r_int r_int) a_nil)))) a_nil)) rfl (dCons_len (dCons_len dNil_len))) (a_cons r_int (a_cons r_int (a_cons r_int a_nil))))) (a_cons r_int a_nil)))))) b_nil)
  (b_cons (s_set (ps_set (i := 3) sc__law_drawn.nd rfl (.inl rfl) (r_call F__law_thing hr (by decide) (by rfl) (a_cons (r_var (pv 0)) (a_cons (r_var (pv 1)) a_nil)) rfl (dCons_len (dCons_len dNil_len)))))
  (b_cons (s_if (r_cmpT (op_eqD hr.units) op2_eq (r_var (pv 2)) r_int (nomark _)) (b_one (s_set (ps_set (i := 3) sc__law_drawn.nd rfl (.inl rfl) (r_call F__law_lowest hr (by decide) (by rfl) (a_cons (r_frz (l_cat (r_frz (l_lst (a_cons r_int (a_cons r_int a_nil)))) (r_frz (l_cb opLA_list (pe_callTy call_list_of (by rfl) m_list (by decide +kernel) (a_cons (r_cutT (r_item (r_var (pv 3)) r_int (fun _ _ => rfl)) (o_some r_int) o_none) a_nil)))))) (a_cons (r_item (r_var (pv 3)) r_int (fun _ _ => rfl)) a_nil)) rfl (dCons_len (dCons_len dNil_len)))))) b_nil)
  (b_one (s_ret (ps_ret (r_var (pv 3)))))))))))

abbrev s__law_sums : Stmt := top 56
theorem sc__law_sums : FnScope ["deal", "left", "right", "low", "more", "found", "high", "row", "many", "less_low"] ["deal", "left", "right"] (defScope s__law_sums) := ⟨rfl, rfl, rfl, by decide +kernel, rfl, by decide +kernel, by decide +kernel⟩
noncomputable def den__law_sums : DS :=
  (dSeq (dPar 6 3 (dCons (dCall G__law_signed (dCons (dVar 0) (dCons (dFrz (dLst (dCons (dC (.int 3)) (dCons (dC (.int 50)) (dCons (dBin powD (dC (.int 10)) (dC (.int 40))) dNil))))) dNil))) (dCons (dCall G__law_signed (dCons (dVar 0) (dCons (dFrz (dLst (dCons (dC (.int 3)) (dCons (dC (.int 50)) (dCons (dBin powD (dC (.int 10)) (dC (.int 40))) dNil))))) dNil))) dNil)))
  (dSeq (dSet 3 (dIf (dTest (dBin neV (dVar 3) (dC (.int 0)))) (dVar 3) (dUn negD (dC (.int 1)))))
  (dSeq (dPar3 7 8 9 (dCons (dCall G__law_row (dCons (dVar 0) (dCons (dFrz (dLst (dCons (dC (.int 3)) (dCons (dBin powD (dC (.int 10)) (dC (.int 20))) (dCons (dBin powD (dC (.int 10)) (dC (.int 19))) dNil))))) dNil))) (dCons (dCall G__law_of (dCons (dVar 0) (dCons (dFrz (dLst (dCons (dC (.int 2)) (dCons (dC (.int 3)) (dCons (dC (.int 10)) (dCons (dC (.int 1009)) (dCons (dBin powD (dC (.int 10)) (dC (.int 19))) dNil))))))) dNil))) (dCons (dBin addD (dC (.int 1)) (dCall G__law_wide (dCons (dVar 0) (dCons (dCall G__law_of (dCons (dVar 0) (dCons (dFrz (dLst (dCons (dC (.int 3)) (dCons (dBin powD (dC (.int 10)) (dC (.int 20))) dNil)))) dNil))) dNil)))) dNil))))
  (dSeq (dSet 4 (dArgs (g1 tupleD) (dCons (dCall G__law_times (dCons (dVar 7) (dCons (dVar 8) dNil))) dNil)))
  (dSeq (dSet 5 (dFrz (dLst (dCons (dTup (dCons (dCall G_plus (dCons (dVar 1) (dCons (dVar 2) dNil))) (dCons (dCall G__law_joined (dCons (dVar 1) (dCons (dVar 2) (dCons (dC (.int 1)) dNil)))) dNil))) (dCons (dTup (dCons (dCall G_less (dCons (dVar 1) (dCons (dVar 2) dNil))) (dCons (dCall G__law_joined (dCons (dVar 1) (dCons (dVar 2) (dCons (dUn negD (dC (.int 1))) dNil)))) dNil))) (dCons (dTup (dCons (dCall G_plus (dCons (dVar 2) (dCons (dVar 1) dNil))) (dCons (dCall G__law_joined (dCons (dVar 1) (dCons (dVar 2) (dCons (dC (.int 1)) dNil)))) dNil))) dNil))))))
  (dSeq (dSet 5 (dFrz (lBin catL (dVar 5) (dFrz (dLst (dCons (dTup (dCons (dCall G_often (dCons (dVar 1) (dCons (dVar 6) (dCons (dVar 3) dNil)))) (dCons (dCall G__law_over (dCons (dVar 1) (dCons (dVar 6) (dCons (dVar 3) dNil)))) dNil))) (dCons (dTup (dCons (dCall G_often (dCons (dVar 2) (dCons (dVar 6) (dCons (dVar 3) dNil)))) (dCons (dCall G__law_over (dCons (dVar 2) (dCons (dVar 6) (dCons (dVar 3) dNil)))) dNil))) (dCons (dTup (dCons (dCall G_turned (dCons (dVar 1) dNil)) (dCons (dCall G__law_round (dCons (dVar 1) dNil)) dNil))) dNil))))))))
  (dSeq (dSet 5 (dFrz (lBin catL (dVar 5) (dFrz (dLst (dCons (dTup (dCons (dCall G_trace (dCons (dVar 1) dNil)) (dCons (dCall G__law_fraction (dCons (dBin mulD (dC (.int 2)) (dBin ixD (dBin ixD (dVar 1) (dC (.int 0))) (dC (.int 0)))) (dCons (dBin ixD (dVar 1) (dC (.int 1))) dNil))) dNil))) (dCons (dTup (dCons (dCall G_trace (dCons (dVar 2) dNil)) (dCons (dCall G__law_fraction (dCons (dBin mulD (dC (.int 2)) (dBin ixD (dBin ixD (dVar 2) (dC (.int 0))) (dC (.int 0)))) (dCons (dBin ixD (dVar 2) (dC (.int 1))) dNil))) dNil))) dNil)))))))
  (dSeq (dSet 5 (dFrz (lBin catL (dVar 5) (dFrz (dLst (dCons (dTup (dCons (dCall G_element (dCons (dVar 4) (dCons (dVar 8) dNil))) (dCons (dTup (dCons (dArgs (g1 tupleD) (dCons (dVar 7) dNil)) (dCons (dC (.int 1)) dNil))) dNil))) (dCons (dTup (dCons (dCall G_element (dCons (dVar 4) (dCons (dBin mulD (dUn negD (dVar 8)) (dVar 9)) dNil))) (dCons (dCall G__law_lowest (dCons (dVar 7) (dCons (dUn negD (dVar 9)) dNil))) dNil))) (dCons (dTup (dCons (dCall G_element (dCons (dArgs (g1 tupleD) (dCons (dVar 7) dNil)) (dCons (dVar 3) dNil))) (dCons (dCall G__law_lowest (dCons (dVar 7) (dCons (dVar 3) dNil))) dNil))) dNil))))))))
  (dSeq (dSet 5 (dFrz (lBin catL (dVar 5) (dFrz (dLst (dCons (dTup (dCons (dCall G_whole (dCons (dVar 6) dNil)) (dCons (dTup (dCons (dTup (dCons (dVar 6) (dCons (dC (.int 0)) (dCons (dC (.int 0)) (dCons (dC (.int 0)) dNil))))) (dCons (dC (.int 1)) dNil))) dNil))) (dCons (dTup (dCons (dCall G_less (dCons (dVar 1) (dCons (dVar 1) dNil))) (dCons (dTup (dCons (dTup (dCons (dC (.int 0)) (dCons (dC (.int 0)) (dCons (dC (.int 0)) (dCons (dC (.int 0)) dNil))))) (dCons (dC (.int 1)) dNil))) dNil))) (dCons (dTup (dCons (dCall G_plus (dCons (dVar 1) (dCons (dVar 1) dNil))) (dCons (dCall G__law_over (dCons (dVar 1) (dCons (dC (.int 2)) (dCons (dC (.int 1)) dNil)))) dNil))) dNil))))))))
  (dRet (dFrz (lBin catL (dVar 5) (dFrz (dLst (dCons (dTup (dCons (dCall G_often (dCons (dVar 1) (dCons (dC (.int 0)) (dCons (dVar 3) dNil)))) (dCons (dTup (dCons (dTup (dCons (dC (.int 0)) (dCons (dC (.int 0)) (dCons (dC (.int 0)) (dCons (dC (.int 0)) dNil))))) (dCons (dC (.int 1)) dNil))) dNil))) (dCons (dTup (dCons (dCall G_less (dCons (dVar 2) (dCons (dVar 1) dNil))) (dCons (dCall G__law_joined (dCons (dVar 2) (dCons (dVar 1) (dCons (dUn negD (dC (.int 1))) dNil)))) dNil))) dNil))))))))))))))))
noncomputable def G__law_sums : List D → S → Option (D × S) := dDef 10 den__law_sums
theorem ok__law_sums {f : Addr} {fd : FuncData} (F : Fun K "_law_sums" "_law_sums" s__law_sums f fd) (hm : mg "_law_sums" = some (.ref f)) (F__law_signed : Fn P wd K mg base 3 "_law_signed" ["deal", "tall"] G__law_signed) (F__law_wide : Fn P wd K mg base 2 "_law_wide" ["deal", "bound"] G__law_wide) (F__law_of : Fn P wd K mg base 2 "_law_of" ["deal", "some"] G__law_of) (F__law_row : Fn P wd K mg base 3 "_law_row" ["deal", "tall"] G__law_row) (F__law_times : Fn P wd K mg base 1 "_law_times" ["row", "many"] G__law_times) (F__law_joined : Fn P wd K mg base 4 "_law_joined" ["left", "right", "many"] G__law_joined) (F_plus : Fn P wd K mg base 3 "plus" ["one", "other"] G_plus) (F_less : Fn P wd K mg base 4 "less" ["one", "other"] G_less) (F__law_round : Fn P wd K mg base 2 "_law_round" ["thing"] G__law_round) (F_turned : Fn P wd K mg base 2 "turned" ["one"] G_turned) (F__law_over : Fn P wd K mg base 4 "_law_over" ["thing", "high", "low"] G__law_over) (F_often : Fn P wd K mg base 3 "often" ["one", "top", "bottom"] G_often) (F__law_fraction : Fn P wd K mg base 2 "_law_fraction" ["high", "low"] G__law_fraction) (F_trace : Fn P wd K mg base 2 "trace" ["one"] G_trace) (F__law_lowest : Fn P wd K mg base 3 "_law_lowest" ["row", "low"] G__law_lowest) (K_element : FnK P wd K mg base 2 "element" ["row", "bottom"] G_element) (F_element : Fn P wd K mg base 2 "element" ["row", "bottom"] G_element) (K_plus : FnK P wd K mg base 3 "plus" ["one", "other"] G_plus) (F_whole : Fn P wd K mg base 1 "whole" ["number"] G_whole) (K_less : FnK P wd K mg base 4 "less" ["one", "other"] G_less) (K_often : FnK P wd K mg base 3 "often" ["one", "top", "bottom"] G_often) (m_tuple : mg "tuple" = none) : Fn P wd K mg base 5 "_law_sums" ["deal", "left", "right"] G__law_sums :=
  fn_mk F hm (F.binds (ps := ["deal", "left", "right"]) fun _ _ _ _ _ _ us hl => match us, hl with | [_, _, _], _ => rfl) sc__law_sums fun cdv A outer s H E hr =>
  (b_cons (s_par (ps_par (i := 6) (j := 3) rfl sc__law_sums.nd rfl rfl (by decide) rfl rfl (a_cons (r_call F__law_signed hr (by decide) (by rfl) (a_cons (r_var (pv 0)) (a_cons (r_frz (l_lst (a_cons r_int (a_cons r_int (a_cons (r_pow r_int r_int) a_nil))))) a_nil)) rfl (dCons_len (dCons_len dNil_len))) (a_cons (r_call F__law_signed hr (by decide) (by rfl) (a_cons (r_var (pv 0)) (a_cons (r_frz (l_lst (a_cons r_int (a_cons r_int (a_cons (r_pow r_int r_int) a_nil))))) a_nil)) rfl (dCons_len (dCons_len dNil_len))) a_nil)) (by rfl)))
  (b_cons (s_set (ps_set (i := 3) sc__law_sums.nd rfl (.inl rfl) (r_ifExp (r_cmpT (op_neD hr.units) op2_ne (r_var (pv 3)) r_int (nomark _)) (r_var (pv 3)) (r_neg r_int))))
  (b_cons (s_par3 (ps_par3 (i := 7) (j := 8) (l := 9) rfl sc__law_sums.nd rfl rfl rfl (by decide) (by decide) (by decide) rfl rfl rfl (a_cons (r_call F__law_row hr (by decide) (by rfl) (a_cons (r_var (pv 0)) (a_cons (r_frz (l_lst (a_cons r_int (a_cons (r_pow r_int r_int) (a_cons (r_pow r_int r_int) a_nil))))) a_nil)) rfl (dCons_len (dCons_len dNil_len))) (a_cons (r_call F__law_of hr (by decide) (by rfl) (a_cons (r_var (pv 0)) (a_cons (r_frz (l_lst (a_cons r_int (a_cons r_int (a_cons r_int (a_cons r_int (a_cons (r_pow r_int r_int) a_nil))))))) a_nil)) rfl (dCons_len (dCons_len dNil_len))) (a_cons (r_add r_int (r_call F__law_wide hr (by decide) (by rfl) (a_cons (r_var (pv 0)) (a_cons (r_call F__law_of hr (by decide) (by rfl) (a_cons (r_var (pv 0)) (a_cons (r_frz (l_lst (a_cons r_int (a_cons (r_pow r_int r_int) a_nil)))) a_nil)) rfl (dCons_len (dCons_len dNil_len))) a_nil)) rfl (dCons_len (dCons_len dNil_len)))) a_nil))) (by rfl)))
  (b_cons (s_set (ps_set (i := 4) sc__law_sums.nd rfl (.inl rfl) (r_cb opA_tuple (pe_callTy call_tuple_of (by rfl) m_tuple (by decide +kernel) (a_cons (r_call F__law_times hr (by decide) (by rfl) (a_cons (r_var (pv 7)) (a_cons (r_var (pv 8)) a_nil)) rfl (dCons_len (dCons_len dNil_len))) a_nil)))))
  (b_cons (s_set (ps_set (i := 5) sc__law_sums.nd rfl (.inl rfl) (r_frz (l_lst (a_cons (r_tup (a_cons (r_call F_plus hr (by decide) (by rfl) (a_cons (r_var (pv 1)) (a_cons (r_var (pv 2)) a_nil)) rfl (dCons_len (dCons_len dNil_len))) (a_cons (r_call F__law_joined hr (by decide) (by rfl) (a_cons (r_var (pv 1)) (a_cons (r_var (pv 2)) (a_cons r_int a_nil))) rfl (dCons_len (dCons_len (dCons_len dNil_len)))) a_nil))) (a_cons (r_tup (a_cons (r_call F_less hr (by decide) (by rfl) (a_cons (r_var (pv 1)) (a_cons (r_var (pv 2)) a_nil)) rfl (dCons_len (dCons_len dNil_len))) (a_cons (r_call F__law_joined hr (by decide) (by rfl) (a_cons (r_var (pv 1)) (a_cons (r_var (pv 2)) (a_cons (r_neg r_int) a_nil))) rfl (dCons_len (dCons_len (dCons_len dNil_len)))) a_nil))) (a_cons (r_tup (a_cons (r_call F_plus hr (by decide) (by rfl) (a_cons (r_var (pv 2)) (a_cons (r_var (pv 1)) a_nil)) rfl (dCons_len (dCons_len dNil_len))) (a_cons (r_call F__law_joined hr (by decide) (by rfl) (a_cons (r_var (pv 1)) (a_cons (r_var (pv 2)) (a_cons r_int a_nil))) rfl (dCons_len (dCons_len (dCons_len dNil_len)))) a_nil))) a_nil)))))))
  (b_cons (s_set (ps_set (i := 5) sc__law_sums.nd rfl (.inl rfl) (r_frz (l_cat (r_var (pv 5)) (r_frz (l_lst (a_cons (r_tup (a_cons (r_call F_often hr (by decide) (by rfl) (a_cons (r_var (pv 1)) (a_cons (r_var (pv 6)) (a_cons (r_var (pv 3)) a_nil))) rfl (dCons_len (dCons_len (dCons_len dNil_len)))) (a_cons (r_call F__law_over hr (by decide) (by rfl) (a_cons (r_var (pv 1)) (a_cons (r_var (pv 6)) (a_cons (r_var (pv 3)) a_nil))) rfl (dCons_len (dCons_len (dCons_len dNil_len)))) a_nil))) (a_cons (r_tup (a_cons (r_call F_often hr (by decide) (by rfl) (a_cons (r_var (pv 2)) (a_cons (r_var (pv 6)) (a_cons (r_var (pv 3)) a_nil))) rfl (dCons_len (dCons_len (dCons_len dNil_len)))) (a_cons (r_call F__law_over hr (by decide) (by rfl) (a_cons (r_var (pv 2)) (a_cons (r_var (pv 6)) (a_cons (r_var (pv 3)) a_nil))) rfl (dCons_len (dCons_len (dCons_len dNil_len)))) a_nil))) (a_cons (r_tup (a_cons (r_call F_turned hr (by decide) (by rfl) (a_cons (r_var (pv 1)) a_nil) rfl (dCons_len dNil_len)) (a_cons (r_call F__law_round hr (by decide) (by rfl) (a_cons (r_var (pv 1)) a_nil) rfl (dCons_len dNil_len)) a_nil))) a_nil)))))))))
  (b_cons (s_set (ps_set (i := 5) sc__law_sums.nd rfl (.inl rfl) (r_frz (l_cat (r_var (pv 5)) (r_frz (l_lst (a_cons (r_tup (a_cons (r_call F_trace hr (by decide) (by rfl) (a_cons (r_var (pv 1)) a_nil) rfl (dCons_len dNil_len)) (a_cons (r_call F__law_fraction hr (by decide) (by rfl) (a_cons (r_mul r_int (r_item (r_item (r_var (pv 1)) r_int (fun _ _ => rfl)) r_int (fun _ _ => rfl))) (a_cons (r_item (r_var (pv 1)) r_int (fun _ _ => rfl)) a_nil)) rfl (dCons_len (dCons_len dNil_len))) a_nil))) (a_cons (r_tup (a_cons (r_call F_trace hr (by decide) (by rfl) (a_cons (r_var (pv 2)) a_nil) rfl (dCons_len dNil_len)) (a_cons (r_call F__law_fraction hr (by decide) (by rfl) (a_cons (r_mul r_int (r_item (r_item (r_var (pv 2)) r_int (fun _ _ => rfl)) r_int (fun _ _ => rfl))) (a_cons (r_item (r_var (pv 2)) r_int (fun _ _ => rfl)) a_nil)) rfl (dCons_len (dCons_len dNil_len))) a_nil))) a_nil))))))))
  (b_cons (s_set (ps_set (i := 5) sc__law_sums.nd rfl (.inl rfl) (r_frz (l_cat (r_var (pv 5)) (r_frz (l_lst (a_cons (r_tup (a_cons (r_call F_element hr (by decide) (by rfl) (a_cons (r_var (pv 4)) (a_cons (r_var (pv 8)) a_nil)) rfl (dCons_len (dCons_len dNil_len))) (a_cons (r_tup (a_cons (r_cb opA_tuple (pe_callTy call_tuple_of (by rfl) m_tuple (by decide +kernel) (a_cons (r_var (pv 7)) a_nil))) (a_cons r_int a_nil))) a_nil))) (a_cons (r_tup (a_cons (r_call F_element hr (by decide) (by rfl) (a_cons (r_var (pv 4)) (a_cons (r_mul (r_neg (r_var (pv 8))) (r_var (pv 9))) a_nil)) rfl (dCons_len (dCons_len dNil_len))) (a_cons (r_call F__law_lowest hr (by decide) (by rfl) (a_cons (r_var (pv 7)) (a_cons (r_neg (r_var (pv 9))) a_nil)) rfl (dCons_len (dCons_len dNil_len))) a_nil))) (a_cons (r_tup (a_cons (r_callK0 K_element hr (by decide) (by rfl) (k_cons (r_cb opA_tuple (pe_callTy call_tuple_of (by rfl) m_tuple (by decide +kernel) (a_cons (r_var (pv 7)) a_nil))) (k_cons (r_var (pv 3)) k_nil)) (dCons_len (dCons_len dNil_len))) (a_cons (r_call F__law_lowest hr (by decide) (by rfl) (a_cons (r_var (pv 7)) (a_cons (r_var (pv 3)) a_nil)) rfl (dCons_len (dCons_len dNil_len))) a_nil))) a_nil)))))))))
  (b_cons (s_set (ps_set (i := 5) sc__law_sums.nd rfl (.inl rfl) (r_frz (l_cat (r_var (pv 5)) (r_frz (l_lst (a_cons (r_tup (a_cons (r_call F_whole hr (by decide) (by rfl) (a_cons (r_var (pv 6)) a_nil) rfl (dCons_len dNil_len)) (a_cons (r_tup (a_cons (r_tup (a_cons (r_var (pv 6)) (a_cons r_int (a_cons r_int (a_cons r_int a_nil))))) (a_cons r_int a_nil))) a_nil))) (a_cons (r_tup (a_cons (r_call F_less hr (by decide) (by rfl) (a_cons (r_var (pv 1)) (a_cons (r_var (pv 1)) a_nil)) rfl (dCons_len (dCons_len dNil_len))) (a_cons (r_tup (a_cons (r_tup (a_cons r_int (a_cons r_int (a_cons r_int (a_cons r_int a_nil))))) (a_cons r_int a_nil))) a_nil))) (a_cons (r_tup (a_cons (r_callK0 K_plus hr (by decide) (by rfl) (k_cons (r_var (pv 1)) (k_cons (r_var (pv 1)) k_nil)) (dCons_len (dCons_len dNil_len))) (a_cons (r_call F__law_over hr (by decide) (by rfl) (a_cons (r_var (pv 1)) (a_cons r_int (a_cons r_int a_nil))) rfl (dCons_len (dCons_len (dCons_len dNil_len)))) a_nil))) a_nil)))))))))
  (b_one (s_ret (ps_ret (r_frz (l_cat (r_var (pv 5)) (r_frz (l_lst (a_cons (r_tup (a_cons (r_callK0 K_often hr (by decide) (by rfl) (k_cons (r_var (pv 1)) (k_cons r_int (k_cons (r_var (pv 3)) k_nil))) (dCons_len (dCons_len (dCons_len dNil_len)))) (a_cons (r_tup (a_cons (r_tup (a_cons r_int (a_cons r_int (a_cons r_int (a_cons r_int a_nil))))) (a_cons r_int a_nil))) a_nil))) (a_cons (r_tup (a_cons (r_callK0 K_less hr (by decide) (by rfl) (k_cons (r_var (pv 2)) (k_cons (r_var (pv 1)) k_nil)) (dCons_len (dCons_len dNil_len))) (a_cons (r_call F__law_joined hr (by decide) (by rfl) (a_cons (r_var (pv 2)) (a_cons (r_var (pv 1)) (a_cons (r_neg r_int) a_nil))) rfl (dCons_len (dCons_len (dCons_len dNil_len)))) a_nil))) a_nil))))))))))))))))))

abbrev s__law_products : Stmt := top 57
theorem sc__law_products : FnScope ["signs", "left", "right", "last", "all_three", "found", "norms", "both", "back_way", "thing"] ["signs", "left", "right", "last"] (defScope s__law_products) := ⟨rfl, rfl, rfl, by decide +kernel, rfl, by decide +kernel, by decide +kernel⟩
noncomputable def den__law_products : DS :=
  (dSeq (dPar 7 8 (dCons (dCall G__law_mul (dCons (dVar 0) (dCons (dVar 1) (dCons (dVar 2) dNil)))) (dCons (dCall G__law_mul (dCons (dVar 0) (dCons (dVar 2) (dCons (dVar 1) dNil)))) dNil)))
  (dSeq (dSet 4 (dCall G__law_mul (dCons (dVar 0) (dCons (dVar 7) (dCons (dVar 3) dNil)))))
  (dSeq (dSetL 5 (dLst (dCons (dTup (dCons (dCall G_by (dCons (dVar 0) (dCons (dVar 1) (dCons (dVar 2) dNil)))) (dCons (dVar 7) dNil))) (dCons (dTup (dCons (dCall G_by (dCons (dVar 0) (dCons (dVar 2) (dCons (dVar 1) dNil)))) (dCons (dVar 8) dNil))) (dCons (dTup (dCons (dCall G_by (dCons (dVar 0) (dCons (dVar 7) (dCons (dVar 3) dNil)))) (dCons (dVar 4) dNil))) dNil)))))
  (dFreeze 5 (dSeq (dSetL 5 (lBin catL (dVar 5) (dFrz (dLst (dCons (dTup (dCons (dCall G_by (dCons (dVar 0) (dCons (dVar 1) (dCons (dCall G_by (dCons (dVar 0) (dCons (dVar 2) (dCons (dVar 3) dNil)))) dNil)))) (dCons (dVar 4) dNil))) (dCons (dTup (dCons (dCall G_by (dCons (dVar 0) (dCons (dVar 1) (dCons (dCall G_plus (dCons (dVar 2) (dCons (dVar 3) dNil))) dNil)))) (dCons (dCall G__law_joined (dCons (dVar 7) (dCons (dCall G__law_mul (dCons (dVar 0) (dCons (dVar 1) (dCons (dVar 3) dNil)))) (dCons (dC (.int 1)) dNil)))) dNil))) dNil))))))
  (dFreeze 5 (dSeq (dSetL 5 (lBin catL (dVar 5) (dFrz (dLst (dCons (dTup (dCons (dCall G_by (dCons (dVar 0) (dCons (dCall G_less (dCons (dVar 1) (dCons (dVar 2) dNil))) (dCons (dVar 3) dNil)))) (dCons (dCall G__law_joined (dCons (dCall G__law_mul (dCons (dVar 0) (dCons (dVar 1) (dCons (dVar 3) dNil)))) (dCons (dCall G__law_mul (dCons (dVar 0) (dCons (dVar 2) (dCons (dVar 3) dNil)))) (dCons (dUn negD (dC (.int 1))) dNil)))) dNil))) dNil)))))
  (dFreeze 5 (dSeq (dSetL 5 (lBin catL (dVar 5) (dFrz (dLst (dCons (dTup (dCons (dCall G_turned (dCons (dVar 7) dNil)) (dCons (dCall G__law_mul (dCons (dVar 0) (dCons (dCall G__law_round (dCons (dVar 2) dNil)) (dCons (dCall G__law_round (dCons (dVar 1) dNil)) dNil)))) dNil))) (dCons (dTup (dCons (dCall G_by (dCons (dVar 0) (dCons (dCall G_turned (dCons (dVar 2) dNil)) (dCons (dCall G_turned (dCons (dVar 1) dNil)) dNil)))) (dCons (dCall G__law_round (dCons (dVar 7) dNil)) dNil))) dNil))))))
  (dSeq (dSetL 6 (dComp (dItems (dTup (dCons (dVar 1) (dCons (dVar 2) (dCons (dVar 3) dNil))))) [9] (gN 9) dYes (dCall G__law_worth_of (dCons (dVar 0) (dCons (dVar 9) dNil)))))
  (dFreeze 6 (dFreeze 5 (dSeq (dSetL 5 (lBin catL (dVar 5) (dFrz (dLst (dCons (dTup (dCons (dCall G_norm (dCons (dVar 0) (dCons (dVar 1) dNil))) (dCons (dBin ixD (dVar 6) (dC (.int 0))) dNil))) (dCons (dTup (dCons (dCall G_norm (dCons (dVar 0) (dCons (dVar 2) dNil))) (dCons (dBin ixD (dVar 6) (dC (.int 1))) dNil))) (dCons (dTup (dCons (dCall G_norm (dCons (dVar 0) (dCons (dCall G_turned (dCons (dVar 3) dNil)) dNil))) (dCons (dBin ixD (dVar 6) (dC (.int 2))) dNil))) dNil)))))))
  (dSeq (dApp 5 (dTup (dCons (dCall G_norm (dCons (dVar 0) (dCons (dVar 7) dNil))) (dCons (dCall G__law_fraction (dCons (dBin mulD (dBin ixD (dBin ixD (dVar 6) (dC (.int 0))) (dC (.int 0))) (dBin ixD (dBin ixD (dVar 6) (dC (.int 1))) (dC (.int 0)))) (dCons (dBin mulD (dBin ixD (dBin ixD (dVar 6) (dC (.int 0))) (dC (.int 1))) (dBin ixD (dBin ixD (dVar 6) (dC (.int 1))) (dC (.int 1)))) dNil))) dNil))))
  (dSeq (dApp 5 (dTup (dCons (dCall G_norm (dCons (dVar 0) (dCons (dVar 4) dNil))) (dCons (dCall G__law_fraction (dCons (dBin mulD (dBin mulD (dBin ixD (dBin ixD (dVar 6) (dC (.int 0))) (dC (.int 0))) (dBin ixD (dBin ixD (dVar 6) (dC (.int 1))) (dC (.int 0)))) (dBin ixD (dBin ixD (dVar 6) (dC (.int 2))) (dC (.int 0)))) (dCons (dBin mulD (dBin mulD (dBin ixD (dBin ixD (dVar 6) (dC (.int 0))) (dC (.int 1))) (dBin ixD (dBin ixD (dVar 6) (dC (.int 1))) (dC (.int 1)))) (dBin ixD (dBin ixD (dVar 6) (dC (.int 2))) (dC (.int 1)))) dNil))) dNil))))
  (dRet (dFrz (lBin catL (dVar 5) (dFrz (dLst (dCons (dTup (dCons (dCall G_trace (dCons (dVar 7) dNil)) (dCons (dCall G__law_fraction (dCons (dBin mulD (dC (.int 2)) (dBin ixD (dBin ixD (dVar 8) (dC (.int 0))) (dC (.int 0)))) (dCons (dBin ixD (dVar 8) (dC (.int 1))) dNil))) dNil))) (dCons (dTup (dCons (dCall G_trace (dCons (dVar 8) dNil)) (dCons (dCall G_trace (dCons (dCall G_by (dCons (dVar 0) (dCons (dVar 1) (dCons (dVar 2) dNil)))) dNil)) dNil))) dNil))))))))))))))))))))))
noncomputable def G__law_products : List D → S → Option (D × S) := dDef 10 den__law_products
theorem ok__law_products {f : Addr} {fd : FuncData} (F : Fun K "_law_products" "_law_products" s__law_products f fd) (hm : mg "_law_products" = some (.ref f)) (F__law_mul : Fn P wd K mg base 4 "_law_mul" ["signs", "left", "right"] G__law_mul) (K_by : FnK P wd K mg base 3 "by" ["rule", "one", "other"] G_by) (F_by : Fn P wd K mg base 3 "by" ["rule", "one", "other"] G_by) (F__law_joined : Fn P wd K mg base 4 "_law_joined" ["left", "right", "many"] G__law_joined) (F_plus : Fn P wd K mg base 3 "plus" ["one", "other"] G_plus) (F_less : Fn P wd K mg base 4 "less" ["one", "other"] G_less) (F__law_round : Fn P wd K mg base 2 "_law_round" ["thing"] G__law_round) (F_turned : Fn P wd K mg base 2 "turned" ["one"] G_turned) (F__law_worth_of : Fn P wd K mg base 3 "_law_worth_of" ["signs", "thing"] G__law_worth_of) (F_norm : Fn P wd K mg base 2 "norm" ["rule", "one"] G_norm) (K_norm : FnK P wd K mg base 2 "norm" ["rule", "one"] G_norm) (F__law_fraction : Fn P wd K mg base 2 "_law_fraction" ["high", "low"] G__law_fraction) (F_trace : Fn P wd K mg base 2 "trace" ["one"] G_trace) : Fn P wd K mg base 5 "_law_products" ["signs", "left", "right", "last"] G__law_products :=
  fn_mk F hm (F.binds (ps := ["signs", "left", "right", "last"]) fun _ _ _ _ _ _ us hl => match us, hl with | [_, _, _, _], _ => rfl) sc__law_products fun cdv A outer s H E hr =>
  (b_cons (s_par (ps_par (i := 7) (j := 8) rfl sc__law_products.nd rfl rfl (by decide) rfl rfl (a_cons (r_call F__law_mul hr (by decide) (by rfl) (a_cons (r_var (pv 0)) (a_cons (r_var (pv 1)) (a_cons (r_var (pv 2)) a_nil))) rfl (dCons_len (dCons_len (dCons_len dNil_len)))) (a_cons (r_call F__law_mul hr (by decide) (by rfl) (a_cons (r_var (pv 0)) (a_cons (r_var (pv 2)) (a_cons (r_var (pv 1)) a_nil))) rfl (dCons_len (dCons_len (dCons_len dNil_len)))) a_nil)) (by rfl)))
  (b_cons (s_set (ps_set (i := 4) sc__law_products.nd rfl (.inl rfl) (r_call F__law_mul hr (by decide) (by rfl) (a_cons (r_var (pv 0)) (a_cons (r_var (pv 7)) (a_cons (r_var (pv 3)) a_nil))) rfl (dCons_len (dCons_len (dCons_len dNil_len))))))
  (b_cons (s_setL (ps_set (i := 5) sc__law_products.nd rfl (.inl rfl) (l_lst (a_cons (r_tup (a_cons (r_call F_by hr (by decide) (by rfl) (a_cons (r_var (pv 0)) (a_cons (r_var (pv 1)) (a_cons (r_var (pv 2)) a_nil))) rfl (dCons_len (dCons_len (dCons_len dNil_len)))) (a_cons (r_var (pv 7)) a_nil))) (a_cons (r_tup (a_cons (r_call F_by hr (by decide) (by rfl) (a_cons (r_var (pv 0)) (a_cons (r_var (pv 2)) (a_cons (r_var (pv 1)) a_nil))) rfl (dCons_len (dCons_len (dCons_len dNil_len)))) (a_cons (r_var (pv 8)) a_nil))) (a_cons (r_tup (a_cons (r_callK0 K_by hr (by decide) (by rfl) (k_cons (r_var (pv 0)) (k_cons (r_var (pv 7)) (k_cons (r_var (pv 3)) k_nil))) (dCons_len (dCons_len (dCons_len dNil_len)))) (a_cons (r_var (pv 4)) a_nil))) a_nil))))))
  (b_frz 5 (b_cons (s_setL (ps_set (i := 5) sc__law_products.nd rfl (.inl rfl) (l_cat (r_var (pv 5)) (r_frz (l_lst (a_cons (r_tup (a_cons (r_call F_by hr (by decide) (by rfl) (a_cons (r_var (pv 0)) (a_cons (r_var (pv 1)) (a_cons (r_call F_by hr (by decide) (by rfl) (a_cons (r_var (pv 0)) (a_cons (r_var (pv 2)) (a_cons (r_var (pv 3)) a_nil))) rfl (dCons_len (dCons_len (dCons_len dNil_len)))) a_nil))) rfl (dCons_len (dCons_len (dCons_len dNil_len)))) (a_cons (r_var (pv 4)) a_nil))) (a_cons (r_tup (a_cons (r_call F_by hr (by decide) (by rfl) (a_cons (r_var (pv 0)) (a_cons (r_var (pv 1)) (a_cons (r_call F_plus hr (by decide) (by rfl) (a_cons (r_var (pv 2)) (a_cons (r_var (pv 3)) a_nil)) rfl (dCons_len (dCons_len dNil_len))) a_nil))) rfl (dCons_len (dCons_len (dCons_len dNil_len)))) (a_cons (r_call F__law_joined hr (by decide) (by rfl) (a_cons (r_var (pv 7)) (a_cons (r_call F__law_mul hr (by decide) (by rfl) (a_cons (r_var (pv 0)) (a_cons (r_var (pv 1)) (a_cons (r_var (pv 3)) a_nil))) rfl (dCons_len (dCons_len (dCons_len dNil_len)))) (a_cons r_int a_nil))) rfl (dCons_len (dCons_len (dCons_len dNil_len)))) a_nil))) a_nil)))))))
  (b_frz 5 (b_cons (s_setL (ps_set (i := 5) sc__law_products.nd rfl (.inl rfl) (l_cat (r_var (pv 5)) (r_frz (l_lst (a_cons (r_tup (a_cons (r_call F_by hr (by decide) (by rfl) (a_cons (r_var (pv 0)) (a_cons (r_call F_less hr (by decide) (by rfl) (a_cons (r_var (pv 1)) (a_cons (r_var (pv 2)) a_nil)) rfl (dCons_len (dCons_len dNil_len))) (a_cons (r_var (pv 3)) a_nil))) rfl (dCons_len (dCons_len (dCons_len dNil_len)))) (a_cons (r_call F__law_joined hr (by decide) (by rfl) (a_cons (r_call F__law_mul hr (by decide) (by rfl) (a_cons (r_var (pv 0)) (a_cons (r_var (pv 1)) (a_cons (r_var (pv 3)) a_nil))) rfl (dCons_len (dCons_len (dCons_len dNil_len)))) (a_cons (r_call F__law_mul hr (by decide) (by rfl) (a_cons (r_var (pv 0)) (a_cons (r_var (pv 2)) (a_cons (r_var (pv 3)) a_nil))) rfl (dCons_len (dCons_len (dCons_len dNil_len)))) (a_cons (r_neg r_int) a_nil))) rfl (dCons_len (dCons_len (dCons_len dNil_len)))) a_nil))) a_nil))))))
  (b_frz 5 (b_cons (s_setL (ps_set (i := 5) sc__law_products.nd rfl (.inl rfl) (l_cat (r_var (pv 5)) (r_frz (l_lst (a_cons (r_tup (a_cons (r_call F_turned hr (by decide) (by rfl) (a_cons (r_var (pv 7)) a_nil) rfl (dCons_len dNil_len)) (a_cons (r_call F__law_mul hr (by decide) (by rfl) (a_cons (r_var (pv 0)) (a_cons (r_call F__law_round hr (by decide) (by rfl) (a_cons (r_var (pv 2)) a_nil) rfl (dCons_len dNil_len)) (a_cons (r_call F__law_round hr (by decide) (by rfl) (a_cons (r_var (pv 1)) a_nil) rfl (dCons_len dNil_len)) a_nil))) rfl (dCons_len (dCons_len (dCons_len dNil_len)))) a_nil))) (a_cons (r_tup (a_cons (r_call F_by hr (by decide) (by rfl) (a_cons (r_var (pv 0)) (a_cons (r_call F_turned hr (by decide) (by rfl) (a_cons (r_var (pv 2)) a_nil) rfl (dCons_len dNil_len)) (a_cons (r_call F_turned hr (by decide) (by rfl) (a_cons (r_var (pv 1)) a_nil) rfl (dCons_len dNil_len)) a_nil))) rfl (dCons_len (dCons_len (dCons_len dNil_len)))) (a_cons (r_call F__law_round hr (by decide) (by rfl) (a_cons (r_var (pv 7)) a_nil) rfl (dCons_len dNil_len)) a_nil))) a_nil)))))))
  (b_cons (s_setL (s_setLc (i := 6) (own := [("thing", 9)]) rfl sc__law_products.nd rfl rfl (sw_true rfl rfl rfl (by decide +kernel)) (i_seq (r_tup (a_cons (r_var (pv 1)) (a_cons (r_var (pv 2)) (a_cons (r_var (pv 3)) a_nil))))) (blkOk_by (own := [("thing", 9)]) (N := ["signs", "left", "right", "last", "all_three", "found", "norms", "both", "back_way", "thing"]) (sc := defScope s__law_products) (by decide +kernel)) (fun _ _ _ _ _ => (g_name (pg_name (i := 9) sc__law_products.nd rfl (.inl rfl)))) (fun _ _ _ _ _ => ts_nil) (fun _ _ _ _ _ => (r_call F__law_worth_of hr (by decide) (by rfl) (a_cons (r_var (pv 0)) (a_cons (r_var (pv 9)) a_nil)) rfl (dCons_len (dCons_len dNil_len))))))
  (b_frz 6 (b_frz 5 (b_cons (s_setL (ps_set (i := 5) sc__law_products.nd rfl (.inl rfl) (l_cat (r_var (pv 5)) (r_frz (l_lst (a_cons (r_tup (a_cons (r_call F_norm hr (by decide) (by rfl) (a_cons (r_var (pv 0)) (a_cons (r_var (pv 1)) a_nil)) rfl (dCons_len (dCons_len dNil_len))) (a_cons (r_item (r_var (pv 6)) r_int (fun _ _ => rfl)) a_nil))) (a_cons (r_tup (a_cons (r_callK0 K_norm hr (by decide) (by rfl) (k_cons (r_var (pv 0)) (k_cons (r_var (pv 2)) k_nil)) (dCons_len (dCons_len dNil_len))) (a_cons (r_item (r_var (pv 6)) r_int (fun _ _ => rfl)) a_nil))) (a_cons (r_tup (a_cons (r_call F_norm hr (by decide) (by rfl) (a_cons (r_var (pv 0)) (a_cons (r_call F_turned hr (by decide) (by rfl) (a_cons (r_var (pv 3)) a_nil) rfl (dCons_len dNil_len)) a_nil)) rfl (dCons_len (dCons_len dNil_len))) (a_cons (r_item (r_var (pv 6)) r_int (fun _ _ => rfl)) a_nil))) a_nil))))))))
  (b_cons (s_app (ps_expr (pe_bm PySem.F.plainAttrs_list PySem.F.slot_list_append PySem.F.type_list_append mt_append (pv 5) (pa_cons (r_tup (a_cons (r_call F_norm hr (by decide) (by rfl) (a_cons (r_var (pv 0)) (a_cons (r_var (pv 7)) a_nil)) rfl (dCons_len (dCons_len dNil_len))) (a_cons (r_call F__law_fraction hr (by decide) (by rfl) (a_cons (r_mul (r_item (r_item (r_var (pv 6)) r_int (fun _ _ => rfl)) r_int (fun _ _ => rfl)) (r_item (r_item (r_var (pv 6)) r_int (fun _ _ => rfl)) r_int (fun _ _ => rfl))) (a_cons (r_mul (r_item (r_item (r_var (pv 6)) r_int (fun _ _ => rfl)) r_int (fun _ _ => rfl)) (r_item (r_item (r_var (pv 6)) r_int (fun _ _ => rfl)) r_int (fun _ _ => rfl))) a_nil)) rfl (dCons_len (dCons_len dNil_len))) a_nil))) pa_nil))))
  (b_cons (s_app (ps_expr (pe_bm PySem.F.plainAttrs_list PySem.F.slot_list_append PySem.F.type_list_append mt_append (pv 5) (pa_cons (r_tup (a_cons (r_call F_norm hr (by decide) (by rfl) (a_cons (r_var (pv 0)) (a_cons (r_var (pv 4)) a_nil)) rfl (dCons_len (dCons_len dNil_len))) (a_cons (r_call F__law_fraction hr (by decide) (by rfl) (a_cons (r_mul (r_mul (r_item (r_item (r_var (pv 6)) r_int (fun _ _ => rfl)) r_int (fun _ _ => rfl)) (r_item (r_item (r_var (pv 6)) r_int (fun _ _ => rfl)) r_int (fun _ _ => rfl))) (r_item (r_item (r_var (pv 6)) r_int (fun _ _ => rfl)) r_int (fun _ _ => rfl))) (a_cons (r_mul (r_mul (r_item (r_item (r_var (pv 6)) r_int (fun _ _ => rfl)) r_int (fun _ _ => rfl)) (r_item (r_item (r_var (pv 6)) r_int (fun _ _ => rfl)) r_int (fun _ _ => rfl))) (r_item (r_item (r_var (pv 6)) r_int (fun _ _ => rfl)) r_int (fun _ _ => rfl))) a_nil)) rfl (dCons_len (dCons_len dNil_len))) a_nil))) pa_nil))))
  (b_one (s_ret (ps_ret (r_frz (l_cat (r_var (pv 5)) (r_frz (l_lst (a_cons (r_tup (a_cons (r_call F_trace hr (by decide) (by rfl) (a_cons (r_var (pv 7)) a_nil) rfl (dCons_len dNil_len)) (a_cons (r_call F__law_fraction hr (by decide) (by rfl) (a_cons (r_mul r_int (r_item (r_item (r_var (pv 8)) r_int (fun _ _ => rfl)) r_int (fun _ _ => rfl))) (a_cons (r_item (r_var (pv 8)) r_int (fun _ _ => rfl)) a_nil)) rfl (dCons_len (dCons_len dNil_len))) a_nil))) (a_cons (r_tup (a_cons (r_call F_trace hr (by decide) (by rfl) (a_cons (r_var (pv 8)) a_nil) rfl (dCons_len dNil_len)) (a_cons (r_call F_trace hr (by decide) (by rfl) (a_cons (r_call F_by hr (by decide) (by rfl) (a_cons (r_var (pv 0)) (a_cons (r_var (pv 1)) (a_cons (r_var (pv 2)) a_nil))) rfl (dCons_len (dCons_len (dCons_len dNil_len)))) a_nil) rfl (dCons_len dNil_len)) a_nil))) a_nil))))))))))))))))))))))))

abbrev s__law_roots : Stmt := top 58
theorem sc__law_roots : FnScope ["signs", "thing", "square", "found", "high", "size", "due"] ["signs", "thing"] (defScope s__law_roots) := ⟨rfl, rfl, rfl, by decide +kernel, rfl, by decide +kernel, by decide +kernel⟩
noncomputable def den__law_roots : DS :=
  (dSeq (dPar 4 5 (dCons (dCall G__law_fraction (dCons (dBin mulD (dC (.int 2)) (dBin ixD (dBin ixD (dVar 1) (dC (.int 0))) (dC (.int 0)))) (dCons (dBin ixD (dVar 1) (dC (.int 1))) dNil))) (dCons (dCall G__law_worth_of (dCons (dVar 0) (dCons (dVar 1) dNil))) dNil)))
  (dSeq (dSet 2 (dCall G__law_mul (dCons (dVar 0) (dCons (dVar 1) (dCons (dVar 1) dNil)))))
  (dSeq (dSetL 3 (dLst (dCons (dTup (dCons (dCall G_trace (dCons (dVar 1) dNil)) (dCons (dVar 4) dNil))) (dCons (dTup (dCons (dCall G_by (dCons (dVar 0) (dCons (dVar 1) (dCons (dVar 1) dNil)))) (dCons (dVar 2) dNil))) (dCons (dTup (dCons (dCall G_by (dCons (dVar 0) (dCons (dVar 1) (dCons (dCall G_turned (dCons (dVar 1) dNil)) dNil)))) (dCons (dTup (dCons (dTup (dCons (dBin ixD (dVar 5) (dC (.int 0))) (dCons (dC (.int 0)) (dCons (dC (.int 0)) (dCons (dC (.int 0)) dNil))))) (dCons (dBin ixD (dVar 5) (dC (.int 1))) dNil))) dNil))) (dCons (dTup (dCons (dCall G_plus (dCons (dVar 1) (dCons (dCall G_turned (dCons (dVar 1) dNil)) dNil))) (dCons (dTup (dCons (dTup (dCons (dBin ixD (dVar 4) (dC (.int 0))) (dCons (dC (.int 0)) (dCons (dC (.int 0)) (dCons (dC (.int 0)) dNil))))) (dCons (dBin ixD (dVar 4) (dC (.int 1))) dNil))) dNil))) dNil))))))
  (dSeq (dApp 3 (dTup (dCons (dCall G_less (dCons (dCall G_often (dCons (dVar 1) (dCons (dBin ixD (dVar 4) (dC (.int 0))) (dCons (dBin ixD (dVar 4) (dC (.int 1))) dNil)))) (dCons (dVar 2) dNil))) (dCons (dTup (dCons (dTup (dCons (dBin ixD (dVar 5) (dC (.int 0))) (dCons (dC (.int 0)) (dCons (dC (.int 0)) (dCons (dC (.int 0)) dNil))))) (dCons (dBin ixD (dVar 5) (dC (.int 1))) dNil))) dNil))))
  (dSeq (dIfS (dTest (dBin neV (dBin ixD (dVar 1) (dC (.int 0))) (dTup (dCons (dC (.int 0)) (dCons (dC (.int 0)) (dCons (dC (.int 0)) (dCons (dC (.int 0)) dNil))))))) (dSeq (dSet 6 (dCall G__law_back (dCons (dVar 0) (dCons (dVar 1) dNil))))
  (dFreeze 3 (dSeq (dSetL 3 (lBin catL (dVar 3) (dFrz (dLst (dCons (dTup (dCons (dCall G_back (dCons (dVar 0) (dCons (dVar 1) dNil))) (dCons (dVar 6) dNil))) (dCons (dTup (dCons (dCall G_by (dCons (dVar 0) (dCons (dVar 1) (dCons (dCall G_back (dCons (dVar 0) (dCons (dVar 1) dNil))) dNil)))) (dCons (dTup (dCons (dTup (dCons (dC (.int 1)) (dCons (dC (.int 0)) (dCons (dC (.int 0)) (dCons (dC (.int 0)) dNil))))) (dCons (dC (.int 1)) dNil))) dNil))) (dCons (dTup (dCons (dCall G_by (dCons (dVar 0) (dCons (dVar 6) (dCons (dVar 1) dNil)))) (dCons (dTup (dCons (dTup (dCons (dC (.int 1)) (dCons (dC (.int 0)) (dCons (dC (.int 0)) (dCons (dC (.int 0)) dNil))))) (dCons (dC (.int 1)) dNil))) dNil))) dNil)))))))
  (dFreeze 3 (dSetL 3 (lBin catL (dVar 3) (dFrz (dLst (dCons (dTup (dCons (dCall G_back (dCons (dVar 0) (dCons (dVar 6) dNil))) (dCons (dVar 1) dNil))) (dCons (dTup (dCons (dCall G_norm (dCons (dVar 0) (dCons (dVar 6) dNil))) (dCons (dTup (dCons (dBin ixD (dVar 5) (dC (.int 1))) (dCons (dBin ixD (dVar 5) (dC (.int 0))) dNil))) dNil))) (dCons (dTup (dCons (dCall G_back (dCons (dVar 0) (dCons (dCall G_turned (dCons (dVar 1) dNil)) dNil))) (dCons (dCall G__law_round (dCons (dVar 6) dNil)) dNil))) dNil))))))))))) dSkip)
  (dRet (dVar 3)))))))
noncomputable def G__law_roots : List D → S → Option (D × S) := dDef 7 den__law_roots
theorem ok__law_roots {f : Addr} {fd : FuncData} (F : Fun K "_law_roots" "_law_roots" s__law_roots f fd) (hm : mg "_law_roots" = some (.ref f)) (F__law_worth_of : Fn P wd K mg base 3 "_law_worth_of" ["signs", "thing"] G__law_worth_of) (F__law_fraction : Fn P wd K mg base 2 "_law_fraction" ["high", "low"] G__law_fraction) (F__law_mul : Fn P wd K mg base 4 "_law_mul" ["signs", "left", "right"] G__law_mul) (F_plus : Fn P wd K mg base 3 "plus" ["one", "other"] G_plus) (F_turned : Fn P wd K mg base 2 "turned" ["one"] G_turned) (F_by : Fn P wd K mg base 3 "by" ["rule", "one", "other"] G_by) (F_trace : Fn P wd K mg base 2 "trace" ["one"] G_trace) (F_less : Fn P wd K mg base 4 "less" ["one", "other"] G_less) (F_often : Fn P wd K mg base 3 "often" ["one", "top", "bottom"] G_often) (F__law_back : Fn P wd K mg base 4 "_law_back" ["signs", "thing"] G__law_back) (F_back : Fn P wd K mg base 3 "back" ["rule", "one"] G_back) (F__law_round : Fn P wd K mg base 2 "_law_round" ["thing"] G__law_round) (F_norm : Fn P wd K mg base 2 "norm" ["rule", "one"] G_norm) (K_back : FnK P wd K mg base 3 "back" ["rule", "one"] G_back) : Fn P wd K mg base 5 "_law_roots" ["signs", "thing"] G__law_roots :=
  fn_mk F hm (F.binds (ps := ["signs", "thing"]) fun _ _ _ _ _ _ us hl => match us, hl with | [_, _], _ => rfl) sc__law_roots fun cdv A outer s H E hr =>
  (b_cons (s_par (ps_par (i := 4) (j := 5) rfl sc__law_roots.nd rfl rfl (by decide) rfl rfl (a_cons (r_call F__law_fraction hr (by decide) (by rfl) (a_cons (r_mul r_int (r_item (r_item (r_var (pv 1)) r_int (fun _ _ => rfl)) r_int (fun _ _ => rfl))) (a_cons (r_item (r_var (pv 1)) r_int (fun _ _ => rfl)) a_nil)) rfl (dCons_len (dCons_len dNil_len))) (a_cons (r_call F__law_worth_of hr (by decide) (by rfl) (a_cons (r_var (pv 0)) (a_cons (r_var (pv 1)) a_nil)) rfl (dCons_len (dCons_len dNil_len))) a_nil)) (by rfl)))
  (b_cons (s_set (ps_set (i := 2) sc__law_roots.nd rfl (.inl rfl) (r_call F__law_mul hr (by decide) (by rfl) (a_cons (r_var (pv 0)) (a_cons (r_var (pv 1)) (a_cons (r_var (pv 1)) a_nil))) rfl (dCons_len (dCons_len (dCons_len dNil_len))))))
  (b_cons (s_setL (ps_set (i := 3) sc__law_roots.nd rfl (.inl rfl) (l_lst (a_cons (r_tup (a_cons (r_call F_trace hr (by decide) (by rfl) (a_cons (r_var (pv 1)) a_nil) rfl (dCons_len dNil_len)) (a_cons (r_var (pv 4)) a_nil))) (a_cons (r_tup (a_cons (r_call F_by hr (by decide) (by rfl) (a_cons (r_var (pv 0)) (a_cons (r_var (pv 1)) (a_cons (r_var (pv 1)) a_nil))) rfl (dCons_len (dCons_len (dCons_len dNil_len)))) (a_cons (r_var (pv 2)) a_nil))) (a_cons (r_tup (a_cons (r_call F_by hr (by decide) (by rfl) (a_cons (r_var (pv 0)) (a_cons (r_var (pv 1)) (a_cons (r_call F_turned hr (by decide) (by rfl) (a_cons (r_var (pv 1)) a_nil) rfl (dCons_len dNil_len)) a_nil))) rfl (dCons_len (dCons_len (dCons_len dNil_len)))) (a_cons (r_tup (a_cons (r_tup (a_cons (r_item (r_var (pv 5)) r_int (fun _ _ => rfl)) (a_cons r_int (a_cons r_int (a_cons r_int a_nil))))) (a_cons (r_item (r_var (pv 5)) r_int (fun _ _ => rfl)) a_nil))) a_nil))) (a_cons (r_tup (a_cons (r_call F_plus hr (by decide) (by rfl) (a_cons (r_var (pv 1)) (a_cons (r_call F_turned hr (by decide) (by rfl) (a_cons (r_var (pv 1)) a_nil) rfl (dCons_len dNil_len)) a_nil)) rfl (dCons_len (dCons_len dNil_len))) (a_cons (r_tup (a_cons (r_tup (a_cons (r_item (r_var (pv 4)) r_int (fun _ _ => rfl)) (a_cons r_int (a_cons r_int (a_cons r_int a_nil))))) (a_cons (r_item (r_var (pv 4)) r_int (fun _ _ => rfl)) a_nil))) a_nil))) a_nil)))))))
  (b_cons (s_app (ps_expr (pe_bm PySem.F.plainAttrs_list PySem.F.slot_list_append PySem.F.type_list_append mt_append (pv 3) (pa_cons (r_tup (a_cons (r_call F_less hr (by decide) (by rfl) (a_cons (r_call F_often hr (by decide) (by rfl) (a_cons (r_var (pv 1)) (a_cons (r_item (r_var (pv 4)) r_int (fun _ _ => rfl)) (a_cons (r_item (r_var (pv 4)) r_int (fun _ _ => rfl)) a_nil))) rfl (dCons_len (dCons_len (dCons_len dNil_len)))) (a_cons (r_var (pv 2)) a_nil)) rfl (dCons_len (dCons_len dNil_len))) (a_cons (r_tup (a_cons (r_tup (a_cons (r_item (r_var (pv 5)) r_int (fun _ _ => rfl)) (a_cons r_int (a_cons r_int (a_cons r_int a_nil))))) (a_cons (r_item (r_var (pv 5)) r_int (fun _ _ => rfl)) a_nil))) a_nil))) pa_nil))))
  (b_cons (s_if (r_cmpT (op_neD hr.units) op2_ne (r_item (r_var (pv 1)) r_int (fun _ _ => rfl)) (r_tup (a_cons r_int (a_cons r_int (a_cons r_int (a_cons r_int a_nil))))) (nomark _)) (b_cons (s_set (ps_set (i := 6) sc__law_roots.nd rfl (.inl rfl) (r_call F__law_back hr (by decide) (by rfl) (a_cons (r_var (pv 0)) (a_cons (r_var (pv 1)) a_nil)) rfl (dCons_len (dCons_len dNil_len)))))
  (b_frz 3 (b_cons (s_setL (ps_set (i := 3) sc__law_roots.nd rfl (.inl rfl) (l_cat (r_var (pv 3)) (r_frz (l_lst (a_cons (r_tup (a_cons (r_call F_back hr (by decide) (by rfl) (a_cons (r_var (pv 0)) (a_cons (r_var (pv 1)) a_nil)) rfl (dCons_len (dCons_len dNil_len))) (a_cons (r_var (pv 6)) a_nil))) (a_cons (r_tup (a_cons (r_call F_by hr (by decide) (by rfl) (a_cons (r_var (pv 0)) (a_cons (r_var (pv 1)) (a_cons (r_call F_back hr (by decide) (by rfl) (a_cons (r_var (pv 0)) (a_cons (r_var (pv 1)) a_nil)) rfl (dCons_len (dCons_len dNil_len))) a_nil))) rfl (dCons_len (dCons_len (dCons_len dNil_len)))) (a_cons (r_tup (a_cons (r_tup (a_cons r_int (a_cons r_int (a_cons r_int (a_cons r_int a_nil))))) (a_cons r_int a_nil))) a_nil))) (a_cons (r_tup (a_cons (r_call F_by hr (by decide) (by rfl) (a_cons (r_var (pv 0)) (a_cons (r_var (pv 6)) (a_cons (r_var (pv 1)) a_nil))) rfl (dCons_len (dCons_len (dCons_len dNil_len)))) (a_cons (r_tup (a_cons (r_tup (a_cons r_int (a_cons r_int (a_cons r_int (a_cons r_int a_nil))))) (a_cons r_int a_nil))) a_nil))) a_nil))))))))
  (b_frz 3 (b_one (s_setL (ps_set (i := 3) sc__law_roots.nd rfl (.inl rfl) (l_cat (r_var (pv 3)) (r_frz (l_lst (a_cons (r_tup (a_cons (r_callK0 K_back hr (by decide) (by rfl) (k_cons (r_var (pv 0)) (k_cons (r_var (pv 6)) k_nil)) (dCons_len (dCons_len dNil_len))) (a_cons (r_var (pv 1)) a_nil))) (a_cons (r_tup (a_cons (r_call F_norm hr (by decide) (by rfl) (a_cons (r_var (pv 0)) (a_cons (r_var (pv 6)) a_nil)) rfl (dCons_len (dCons_len dNil_len))) (a_cons (r_tup (a_cons (r_item (r_var (pv 5)) r_int (fun _ _ => rfl)) (a_cons (r_item (r_var (pv 5)) r_int (fun _ _ => rfl)) a_nil))) a_nil))) (a_cons (r_tup (a_cons (r_call F_back hr (by decide) (by rfl) (a_cons (r_var (pv 0)) (a_cons (r_call F_turned hr (by decide) (by rfl) (a_cons (r_var (pv 1)) a_nil) rfl (dCons_len dNil_len)) a_nil)) rfl (dCons_len (dCons_len dNil_len))) (a_cons (r_call F__law_round hr (by decide) (by rfl) (a_cons (r_var (pv 6)) a_nil) rfl (dCons_len dNil_len)) a_nil))) a_nil))))))))))))) b_nil)
  (b_one (s_ret (ps_ret (r_var (pv 3))))))))))

abbrev s_law : Stmt := top 59
theorem sc_law : FnScope ["script", "deal", "turn", "prime", "signs", "pairs", "thing", "left", "right", "last"] ["script"] (defScope s_law) := ⟨rfl, rfl, rfl, by decide +kernel, rfl, by decide +kernel, by decide +kernel⟩
noncomputable def den_law0 : DE :=
  (dCall G__law_deal (dCons (dVar 0) (dCons (dC (.int 3)) dNil)))
noncomputable def den_law : DS :=
  (dSeq (dFor (dRng1 (dCons (dC (.int 3)) dNil)) (gN 2) (dSeq (dSet 3 (dCall G__law_of (dCons (dVar 1) (dCons (dFrz (dLst (dCons (dC (.int 2)) (dCons (dC (.int 3)) (dCons (dC (.int 5)) (dCons (dC (.int 7)) (dCons (dC (.int 11)) (dCons (dC (.int 13)) (dCons (dC (.int 17)) (dCons (dC (.int 19)) (dCons (dC (.int 23)) (dCons (dC (.int 29)) (dCons (dC (.int 31)) (dCons (dC (.int 37)) (dCons (dC (.int 41)) (dCons (dC (.int 43)) (dCons (dC (.int 47)) (dCons (dC (.int 53)) (dCons (dC (.int 59)) (dCons (dC (.int 61)) (dCons (dC (.int 67)) (dCons (dC (.int 71)) (dCons (dC (.int 73)) (dCons (dC (.int 79)) (dCons (dC (.int 83)) (dCons (dC (.int 89)) (dCons (dC (.int 97)) dNil))))))))))))))))))))))))))) dNil))))
  (dSeq (dSet 4 (dCall G__law_signs (dCons (dVar 3) dNil)))
  (dSeq (dPar3 7 8 9 (dCons (dCall G__law_drawn (dCons (dVar 1) dNil)) (dCons (dCall G__law_drawn (dCons (dVar 1) dNil)) (dCons (dCall G__law_drawn (dCons (dVar 1) dNil)) dNil))))
  (dSeq (dSet 5 (dFrz (lBin catL (dFrz (lBin catL (dFrz (dLst (dCons (dTup (dCons (dCall G_rule_of (dCons (dVar 3) dNil)) (dCons (dVar 4) dNil))) dNil))) (dCall G__law_sums (dCons (dVar 1) (dCons (dVar 7) (dCons (dVar 8) dNil)))))) (dCall G__law_products (dCons (dVar 4) (dCons (dVar 7) (dCons (dVar 8) (dCons (dVar 9) dNil))))))))
  (dSeq (dFor (dItems (dTup (dCons (dVar 7) (dCons (dVar 8) (dCons (dVar 9) dNil))))) (gN 6) (dSet 5 (dFrz (lBin catL (dVar 5) (dCall G__law_roots (dCons (dVar 4) (dCons (dVar 6) dNil)))))))
  (dIfS (dNot (dTest (dCall G__law_all (dCons (dVar 5) dNil)))) (dRet (dC (.bl false))) dSkip)))))))
  (dRet (dC (.bl true))))
theorem ok_law {f : Addr} {fd : FuncData} (F : Fun K "law" "law" s_law f fd) (F__law_deal : Fn P wd K mg base 1 "_law_deal" ["script", "salt"] G__law_deal) (F__law_of : Fn P wd K mg base 2 "_law_of" ["deal", "some"] G__law_of) (F__law_signs : Fn P wd K mg base 1 "_law_signs" ["prime"] G__law_signs) (F__law_drawn : Fn P wd K mg base 5 "_law_drawn" ["deal"] G__law_drawn) (F_rule_of : Fn P wd K mg base 4 "rule_of" ["p"] G_rule_of) (F__law_sums : Fn P wd K mg base 5 "_law_sums" ["deal", "left", "right"] G__law_sums) (F__law_products : Fn P wd K mg base 5 "_law_products" ["signs", "left", "right", "last"] G__law_products) (F__law_roots : Fn P wd K mg base 5 "_law_roots" ["signs", "thing"] G__law_roots) (F__law_all : Fn P wd K mg base 9 "_law_all" ["pairs"] G__law_all) (m_range : mg "range" = none) (hres : ∀ ns : List Int, ns.length ≤ 63 → ∃ (zs : List Int) (m : Int) (s : S), den_law0 (hide ([Sl.v (.scr ns)] ++ List.replicate (10 - 1) .none)) ([], 0) = some (.lst [.lst (zs.map D.int), .int m], ([], 0)) ∧
      den_law ((List.replicate 10 Sl.none).set 1 (.v .deal)) (zs, m) = some (.rt (.bl true), s)) : FnOk P wd K mg base CX0 10 f fd ["script"] (spLaw K) :=
  law_ok F sc_law rfl (by decide) (fun cdv A outer s H E hr => (s_set (ps_set (i := 1) sc_law.nd rfl (.inl rfl) (r_call F__law_deal hr (by decide) (by rfl) (a_cons (r_var (pv 0)) (a_cons r_int a_nil)) rfl (dCons_len (dCons_len dNil_len))))))
  (fun cdv A outer s H E hr =>
  (b_cons (s_for PassesOwn.never rfl (i_rng1 (by rfl) m_range (a_cons r_int a_nil)) (g_name (pg_name (i := 2) sc_law.nd rfl (.inl rfl))) (b_cons (s_set (ps_set (i := 3) sc_law.nd rfl (.inl rfl) (r_call F__law_of hr (by decide) (by rfl) (a_cons (r_var (pv 1)) (a_cons (r_frz (l_lst (a_cons r_int (a_cons r_int (a_cons r_int (a_cons r_int (a_cons r_int (a_cons r_int (a_cons r_int (a_cons r_int (a_cons r_int (a_cons r_int (a_cons r_int (a_cons r_int (a_cons r_int (a_cons r_int (a_cons r_int (a_cons r_int (a_cons r_int (a_cons r_int (a_cons r_int (a_cons r_int (a_cons r_int (a_cons r_int (a_cons r_int (a_cons r_int (a_cons r_int a_nil))))))))))))))))))))))))))) a_nil)) rfl (dCons_len (dCons_len dNil_len)))))
  (b_cons (s_set (ps_set (i := 4) sc_law.nd rfl (.inl rfl) (r_call F__law_signs hr (by decide) (by rfl) (a_cons (r_var (pv 3)) a_nil) rfl (dCons_len dNil_len))))
  (b_cons (s_par3 (ps_par3 (i := 7) (j := 8) (l := 9) rfl sc_law.nd rfl rfl rfl (by decide) (by decide) (by decide) rfl rfl rfl (a_cons (r_call F__law_drawn hr (by decide) (by rfl) (a_cons (r_var (pv 1)) a_nil) rfl (dCons_len dNil_len)) (a_cons (r_call F__law_drawn hr (by decide) (by rfl) (a_cons (r_var (pv 1)) a_nil) rfl (dCons_len dNil_len)) (a_cons (r_call F__law_drawn hr (by decide) (by rfl) (a_cons (r_var (pv 1)) a_nil) rfl (dCons_len dNil_len)) a_nil))) (by rfl)))
  (b_cons (s_set (ps_set (i := 5) sc_law.nd rfl (.inl rfl) (r_frz (l_cat (r_frz (l_cat (r_frz (l_lst (a_cons (r_tup (a_cons (r_call F_rule_of hr (by decide) (by rfl) (a_cons (r_var (pv 3)) a_nil) rfl (dCons_len dNil_len)) (a_cons (r_var (pv 4)) a_nil))) a_nil))) (r_call F__law_sums hr (by decide) (by rfl) (a_cons (r_var (pv 1)) (a_cons (r_var (pv 7)) (a_cons (r_var (pv 8)) a_nil))) rfl (dCons_len (dCons_len (dCons_len dNil_len)))))) (r_call F__law_products hr (by decide) (by rfl) (a_cons (r_var (pv 4)) (a_cons (r_var (pv 7)) (a_cons (r_var (pv 8)) (a_cons (r_var (pv 9)) a_nil)))) rfl (dCons_len (dCons_len (dCons_len (dCons_len dNil_len)))))))))
  (b_cons (s_for PassesOwn.never rfl (i_seq (r_tup (a_cons (r_var (pv 7)) (a_cons (r_var (pv 8)) (a_cons (r_var (pv 9)) a_nil))))) (g_name (pg_name (i := 6) sc_law.nd rfl (.inl rfl))) (b_one (s_set (ps_set (i := 5) sc_law.nd rfl (.inl rfl) (r_frz (l_cat (r_var (pv 5)) (r_call F__law_roots hr (by decide) (by rfl) (a_cons (r_var (pv 4)) (a_cons (r_var (pv 6)) a_nil)) rfl (dCons_len (dCons_len dNil_len)))))))))
  (b_one (s_if (r_not (r_test (r_call F__law_all hr (by decide) (by rfl) (a_cons (r_var (pv 5)) a_nil) rfl (dCons_len dNil_len)))) (b_one (s_ret (ps_ret r_bl))) b_nil))))))))
  (b_one (s_ret (ps_ret r_bl))))) hres

end
end Mp

set_option Elab.async false
set_option linter.all false
set_option maxRecDepth 100000
set_option maxHeartbeats 4000000
/-! K03c: what the defs answer -/
namespace Mp
open PySem L2
local macro_rules | `(tactic| walk_at "bd") => `(tactic| first
  | (with_reducible assumption)
  | ((with_reducible apply Bd.mul) <;> walk_at "bd")
  | ((with_reducible apply Bd.add) <;> walk_at "bd")
  | ((with_reducible apply Bd.sub) <;> walk_at "bd")
  | ((with_reducible apply Bd.neg) <;> walk_at "bd")
  | exact Bd.lit (by decide))
local macro_rules | `(tactic| walk_at "fits") => `(tactic| (apply Fits.of; (walk_at "bd"); (walk_at "bd"); decide))
theorem ok_cat {l m : List D} {s : S} {Q : List D → S → Prop} : ok (lft (catL (.lst l) (.lst m)) s) Q = (l.length + m.length ≤ lim ∧ Q (l ++ m) s) := by
  by_cases h : l.length + m.length ≤ lim
  · rw [catL_ll h]; exact propext ⟨fun q => ⟨h, q⟩, fun q => q.2⟩
  · have e : catL (.lst l) (.lst m) = none := if_neg h
    rw [e]
    exact propext ⟨fun q => q.elim, fun q => h q.1⟩
local macro_rules | `(tactic| walk_at "ev") => `(tactic| simp [ok_def, ok_bnd, ok_some, ok_lft, ok_mul, ok_fdiv, ok_mod, ok_if, dSeq, dPar, dPar3, dSet, dSetL, dFor, dLoop, dItems, dC, dCall, dVar, hide, Sl.hide, peek, Sl.peek, dCons, dNil, dArgs, dTup, dLst, dFrz, dRet, dIfS, dIf, dTest, dNot, dOr, dAnd, dSkip, dBin, dUn, dUnp, gT, gsC, gsN, gN, lim, subD_ii, addD_ii, iaddD_ii, negD_i, ltD_ii, leD_ii, gtD_ii, geD_ii, eqV_ii, neV_ii, gcdG_ii, abs_i, int_i, tuple_l, list_t, list_l, len_l, len_t, ixt0, ixt1, ixt2, ixt3, ixl0, ixl1, ixl2, ixl3, lBin, lArgs, dFreeze, dApp, dExp, dYes, dB, dComp, compLoop, wipeE, toRho, ok_cat, *])
def rA (r : R4) : List D := [.int r.a, .int r.b, .int r.c, .int r.d]
def eD (x : E4) : D := .tup [.tup (rA x.1), .int x.2]
def fD (x : Int × Int) : D := .tup [.int x.1, .int x.2]
def BdR (n : Nat) (r : R4) : Prop := Bd n r.a ∧ Bd n r.b ∧ Bd n r.c ∧ Bd n r.d
def BdE (n : Nat) (x : E4) : Prop := BdR n x.1 ∧ Bd n x.2
theorem BdR.mono {n m : Nat} {r : R4} (h : BdR n r) (e : n ≤ m) : BdR m r := ⟨h.1.mono e, h.2.1.mono e, h.2.2.1.mono e, h.2.2.2.mono e⟩
theorem BdE.mono {n m : Nat} {x : E4} (h : BdE n x) (e : n ≤ m) : BdE m x := ⟨h.1.mono e, h.2.mono e⟩
theorem g5_le {r : R4} {l : Int} (h : l ≠ 0) : g5 r l ≤ l.natAbs := Nat.gcd_le_right _ (by omega)
theorem prt_abs (r : R4) (l : Int) : (prt r l).natAbs = g5 r l := by
  unfold prt
  split <;> simp
theorem prt_ok {n : Nat} {r : R4} {l : Int} (h : l ≠ 0) (k : Bd n l) (e : n ≤ 8990) : DivOk (prt r l) := by
  refine DivOk.of (n := n) (prt_ne h) ?_ e
  unfold Bd at *
  rw [prt_abs]
  exact Nat.lt_of_le_of_lt (g5_le h) k
theorem prt_neg {r : R4} {l : Int} (h : l < 0) : prt r l = -(g5 r l : Int) := if_pos h
theorem prt_pos {r : R4} {l : Int} (h : ¬ l < 0) : prt r l = (g5 r l : Int) := if_neg h
theorem fprt_g (t b : Int) : (Nat.gcd t.natAbs b.natAbs) = g5 ⟨t, 0, 0, 0⟩ b := by
  unfold g5
  simp
theorem fprt_prt (t b : Int) : fprt t b = prt ⟨t, 0, 0, 0⟩ b := by
  unfold fprt prt
  rw [fprt_g]
theorem fprt_ok {n : Nat} {t l : Int} (h : l ≠ 0) (k : Bd n l) (e : n ≤ 8990) : DivOk (fprt t l) := by
  rw [fprt_prt]; exact prt_ok h k e
/-! greatest common divisors -/
theorem common_eq (r : R4) (l : Int) (s : S) : G_common_divisor [.lst (rA r ++ [.int l])] s = some (.int (g5 r l), s) := rfl
theorem lgcd_loop : ∀ (b a : Nat) (s : S), ∃ n, dWhileN (dTest (dBin neV (dVar 1) (dC (.int 0)))) (dPar 0 1 (dCons (dVar 1) (dCons (dBin modD (dArgs (g1 intD) (dCons (dVar 0) dNil)) (dVar 1)) dNil))) n [.v (.int a), .v (.int b)] s = some (Out.nx [.v (.int (Nat.gcd a b : Nat)), .v (.int 0)], s) := by
  intro b
  induction b using Nat.strongRecOn with
  | _ b ih =>
    intro a s
    by_cases hb : b = 0
    · subst hb
      refine ⟨1, ?_⟩
      show _ = some (Out.nx [.v (.int (Nat.gcd a 0 : Nat)), .v (.int 0)], s)
      rw [Nat.gcd_zero_right]
      rfl
    · obtain ⟨n, hn⟩ := ih (a % b) (Nat.mod_lt _ (by omega)) b s
      refine ⟨n + 1, ?_⟩
      rw [show Nat.gcd a b = Nat.gcd b (a % b) from by rw [Nat.gcd_comm, Nat.gcd_rec, Nat.gcd_comm]]
      unfold dWhileN
      have hz : ((b : Int)) ≠ 0 := by omega
      have hz2 : ¬ b = 0 := hb
      simp [bnd, dTest, dBin, dVar, dC, peek, Sl.peek, lft, neV_ii, hz, hz2, dPar, hide, Sl.hide, dCons, dNil, dArgs, int_i, modD_ii hz]
      rw [Int.fmod_eq_emod_of_nonneg _ (by omega : (0:Int) ≤ (b:Int)), ← Int.natCast_emod]
      exact hn
theorem lgcd_eq (a b : Int) (s : S) : G__law_gcd [.int a, .int b] s = some (.int (Nat.gcd a.natAbs b.natAbs : Nat), s) := by
  obtain ⟨n, hn⟩ := lgcd_loop b.natAbs a.natAbs s
  have hw := dWhile_of hn
  have ea : (if a < 0 then -a else a) = (a.natAbs : Int) := by split <;> omega
  have eb : (if b < 0 then -b else b) = (b.natAbs : Int) := by split <;> omega
  refine ok_eq ?_
  unfold G__law_gcd den__law_gcd
  walk_at "ev"
theorem lgcd_of_eq (r : R4) (l : Int) (s : S) : G__law_gcd_of [.lst (rA r ++ [.int l])] s = some (.int (g5 r l), s) := by
  refine ok_eq ?_
  have h := lgcd_eq
  unfold G__law_gcd_of den__law_gcd_of
  simp only [rA, List.cons_append, List.nil_append, g5]
  walk_at "ev"
/-! in lowest terms -/
section
variable {r : R4} {l : Int} {s : S} (hl : l ≠ 0) (hb : Bd 8900 l)
include hl hb
theorem element_l : G_element [.lst (rA r), .int l] s = some (eD (nf r l), s) := by
  refine ok_eq ?_
  have h := common_eq r l
  have hp := prt_ok (r := r) hl hb (by decide)
  simp only [rA, List.cons_append, List.nil_append] at h
  unfold G_element den_element nf
  simp only [rA, eD]
  by_cases hn : l < 0
  · rw [prt_neg hn] at hp ⊢
    walk_at "ev"
  · rw [prt_pos hn] at hp ⊢
    walk_at "ev"
end
end Mp

set_option Elab.async false
set_option linter.all false
set_option maxRecDepth 100000
set_option maxHeartbeats 4000000
/-! K03f: what the defs answer, more -/
namespace Mp
open PySem L2
local macro_rules | `(tactic| walk_at "bd") => `(tactic| first
  | (with_reducible assumption)
  | ((with_reducible apply Bd.mul) <;> walk_at "bd")
  | ((with_reducible apply Bd.add) <;> walk_at "bd")
  | ((with_reducible apply Bd.sub) <;> walk_at "bd")
  | ((with_reducible apply Bd.neg) <;> walk_at "bd")
  | exact Bd.lit (by decide))
local macro_rules | `(tactic| walk_at "fits") => `(tactic| (apply Fits.of; (walk_at "bd"); (walk_at "bd"); decide))
local macro_rules | `(tactic| walk_at "ev") => `(tactic| simp [ok_def, ok_bnd, ok_some, ok_lft, ok_mul, ok_fdiv, ok_mod, ok_if, dSeq, dPar, dPar3, dSet, dSetL, dFor, dLoop, dItems, dC, dCall, dVar, hide, Sl.hide, peek, Sl.peek, dCons, dNil, dArgs, dTup, dLst, dFrz, dRet, dIfS, dIf, dTest, dNot, dOr, dAnd, dSkip, dBin, dUn, dUnp, gT, gsC, gsN, gN, lim, subD_ii, addD_ii, iaddD_ii, negD_i, ltD_ii, leD_ii, gtD_ii, geD_ii, eqV_ii, neV_ii, gcdG_ii, abs_i, int_i, tuple_l, list_t, list_l, len_l, len_t, ixt0, ixt1, ixt2, ixt3, ixl0, ixl1, ixl2, ixl3, lBin, lArgs, dFreeze, dApp, dExp, dYes, dB, dComp, compLoop, wipeE, toRho, ok_cat, *])

section
variable {r : R4} {l : Int} {s : S} (hl : l ≠ 0) (hb : Bd 8900 l)
include hl hb
theorem element_t : G_element [.tup (rA r), .int l] s = some (eD (nf r l), s) := by
  refine ok_eq ?_
  have h := common_eq r l
  have hp := prt_ok (r := r) hl hb (by decide)
  simp only [rA, List.cons_append, List.nil_append] at h
  unfold G_element den_element nf
  simp only [rA, eD]
  by_cases hn : l < 0
  · rw [prt_neg hn] at hp ⊢
    walk_at "ev"
  · rw [prt_pos hn] at hp ⊢
    walk_at "ev"
theorem lowest_l : G__law_lowest [.lst (rA r), .int l] s = some (eD (nf r l), s) := by
  refine ok_eq ?_
  have h := lgcd_of_eq r l
  have hp := prt_ok (r := r) hl hb (by decide)
  simp only [rA, List.cons_append, List.nil_append] at h
  unfold G__law_lowest den__law_lowest nf
  simp only [rA, eD]
  by_cases hn : l < 0
  · rw [prt_neg hn] at hp ⊢
    walk_at "ev"
  · rw [prt_pos hn] at hp ⊢
    walk_at "ev"
theorem fraction_eq {t : Int} : G_fraction [.int t, .int l] s = some (fD (fr t l), s) := by
  refine ok_eq ?_
  have hp := fprt_ok (t := t) hl hb (by decide)
  unfold G_fraction den_fraction fr
  simp only [fD]
  by_cases hn : l < 0
  · unfold fprt at hp ⊢
    rw [if_pos hn] at hp ⊢
    walk_at "ev"
  · unfold fprt at hp ⊢
    rw [if_neg hn] at hp ⊢
    walk_at "ev"
theorem lfraction_eq {t : Int} : G__law_fraction [.int t, .int l] s = some (fD (fr t l), s) := by
  refine ok_eq ?_
  have h := lgcd_eq t l
  have hp := fprt_ok (t := t) hl hb (by decide)
  unfold G__law_fraction den__law_fraction fr
  simp only [fD]
  by_cases hn : l < 0
  · have hn2 : ¬ 0 < l := by omega
    unfold fprt at hp ⊢
    rw [if_pos hn] at hp ⊢
    walk_at "ev"
  · have hn2 : 0 < l := by omega
    unfold fprt at hp ⊢
    rw [if_neg hn] at hp ⊢
    walk_at "ev"
end
section
variable {r x y : R4} {q p k : Int} {s : S}
theorem times_t (h : BdR 8000 r) (hk : Bd 8000 k) : G_row_times [.tup (rA r), .int k] s = some (.lst (rA (r4s k r)), s) := by
  obtain ⟨h1, h2, h3, h4⟩ := h
  refine ok_eq ?_
  unfold G_row_times den_row_times
  simp only [rA, r4s]
  walk_at "ev"
  (repeat' apply And.intro) <;> walk_at "fits"
theorem times_l (h : BdR 8000 r) (hk : Bd 8000 k) : G_row_times [.lst (rA r), .int k] s = some (.lst (rA (r4s k r)), s) := by
  obtain ⟨h1, h2, h3, h4⟩ := h
  refine ok_eq ?_
  unfold G_row_times den_row_times
  simp only [rA, r4s]
  walk_at "ev"
  (repeat' apply And.intro) <;> walk_at "fits"
theorem ltimes_t (h : BdR 8000 r) (hk : Bd 8000 k) : G__law_times [.tup (rA r), .int k] s = some (.lst (rA (r4s k r)), s) := by
  obtain ⟨h1, h2, h3, h4⟩ := h
  refine ok_eq ?_
  unfold G__law_times den__law_times
  simp only [rA, r4s]
  walk_at "ev"
  (repeat' apply And.intro) <;> walk_at "fits"
theorem ltimes_l (h : BdR 8000 r) (hk : Bd 8000 k) : G__law_times [.lst (rA r), .int k] s = some (.lst (rA (r4s k r)), s) := by
  obtain ⟨h1, h2, h3, h4⟩ := h
  refine ok_eq ?_
  unfold G__law_times den__law_times
  simp only [rA, r4s]
  walk_at "ev"
  (repeat' apply And.intro) <;> walk_at "fits"
theorem turned_row_eq : G_turned_row [.tup (rA r)] s = some (.lst (rA (turnR r)), s) := rfl
theorem lturned_eq : G__law_turned [.tup (rA r)] s = some (.lst (rA (turnR r)), s) := rfl
theorem product_eq (hq : Bd 64 q) (hp : Bd 64 p) (hx : BdR 8000 x) (hy : BdR 8000 y) : G_row_product [.tup [.int q, .int p], .tup (rA x), .tup (rA y)] s = some (.lst (rA (rmul q p x y)), s) := by
  obtain ⟨h1, h2, h3, h4⟩ := hx
  obtain ⟨k1, k2, k3, k4⟩ := hy
  refine ok_eq ?_
  unfold G_row_product den_row_product
  simp only [rA, rmul]
  walk_at "ev"
  (repeat' apply And.intro) <;> first | walk_at "fits" | grind
theorem norm_row_eq (hq : Bd 64 q) (hp : Bd 64 p) (hx : BdR 8000 x) : G_norm_of_row [.tup [.int q, .int p], .tup (rA x)] s = some (.int (nrm q p x), s) := by
  obtain ⟨h1, h2, h3, h4⟩ := hx
  refine ok_eq ?_
  unfold G_norm_of_row den_norm_of_row
  simp only [rA, nrm]
  walk_at "ev"
  (repeat' apply And.intro) <;> first | walk_at "fits" | grind
theorem lnorm_of_eq (hq : Bd 64 q) (hp : Bd 64 p) (hx : BdR 8000 x) : G__law_norm_of [.tup [.int q, .int p], .tup (rA x)] s = some (.int (nrm q p x), s) := by
  obtain ⟨h1, h2, h3, h4⟩ := hx
  refine ok_eq ?_
  unfold G__law_norm_of den__law_norm_of
  simp only [rA, nrm]
  walk_at "ev"
  (repeat' apply And.intro) <;> first | walk_at "fits" | grind
end
end Mp

set_option Elab.async false
set_option linter.all false
set_option maxRecDepth 100000
set_option maxHeartbeats 4000000
/-! K03g: what the defs answer, more -/
namespace Mp
open PySem L2
local macro_rules | `(tactic| walk_at "bd") => `(tactic| first
  | (with_reducible assumption)
  | ((with_reducible apply Bd.mul) <;> walk_at "bd")
  | ((with_reducible apply Bd.add) <;> walk_at "bd")
  | ((with_reducible apply Bd.sub) <;> walk_at "bd")
  | ((with_reducible apply Bd.neg) <;> walk_at "bd")
  | exact Bd.lit (by decide))
local macro_rules | `(tactic| walk_at "fits") => `(tactic| (apply Fits.of; (walk_at "bd"); (walk_at "bd"); decide))
local macro_rules | `(tactic| walk_at "ev") => `(tactic| simp [ok_def, ok_bnd, ok_some, ok_lft, ok_mul, ok_fdiv, ok_mod, ok_if, dSeq, dPar, dPar3, dSet, dSetL, dFor, dLoop, dItems, dC, dCall, dVar, hide, Sl.hide, peek, Sl.peek, dCons, dNil, dArgs, dTup, dLst, dFrz, dRet, dIfS, dIf, dTest, dNot, dOr, dAnd, dSkip, dBin, dUn, dUnp, gT, gsC, gsN, gN, lim, subD_ii, addD_ii, iaddD_ii, negD_i, ltD_ii, leD_ii, gtD_ii, geD_ii, eqV_ii, neV_ii, gcdG_ii, abs_i, int_i, tuple_l, list_t, list_l, len_l, len_t, ixt0, ixt1, ixt2, ixt3, ixl0, ixl1, ixl2, ixl3, lBin, lArgs, dFreeze, dApp, dExp, dYes, dB, dComp, compLoop, wipeE, toRho, ok_cat, *])

section
variable {x y : R4} {q p : Int} {s : S}
theorem atI4_0 (a b c d : D) : atI [a, b, c, d] 0 = some a := rfl
theorem atI4_1 (a b c d : D) : atI [a, b, c, d] 1 = some b := rfl
theorem atI4_2 (a b c d : D) : atI [a, b, c, d] 2 = some c := rfl
theorem atI4_3 (a b c d : D) : atI [a, b, c, d] 3 = some d := rfl
theorem ixN4_0 : ixN 4 0 = some 0 := rfl
theorem ixN4_1 : ixN 4 1 = some 1 := rfl
theorem ixN4_2 : ixN 4 2 = some 2 := rfl
theorem ixN4_3 : ixN 4 3 = some 3 := rfl
theorem flat_i (a : Int) : flat (.int a) = true := rfl
theorem rng4 : rngL 0 4 = [.int 0, .int 1, .int 2, .int 3] := rfl
theorem lby_eq (hq : Bd 64 q) (hp : Bd 64 p) (hx : BdR 8000 x) (hy : BdR 8000 y) : G__law_by [.tup [.int q, .int p], .tup (rA x), .tup (rA y)] s = some (.lst (rA (rmul q p x y)), s) := by
  obtain ⟨h1, h2, h3, h4⟩ := hx
  obtain ⟨k1, k2, k3, k4⟩ := hy
  refine ok_eq ?_
  unfold G__law_by den__law_by
  simp only [rA, rmul]
  simp [ok_def, ok_bnd, ok_some, ok_lft, ok_mul, dSeq, dSet, dSetL, dFrz, dLst, dCons, dNil, dC, dVar, dUnp, gT, gsC, gsN, gN, hide, Sl.hide, peek, Sl.peek, lim, dBin, dUn, negD_i, dFreeze, dFor, dRng1, rng4, dLoop, dAugI, ixl0, ixl1, ixl2, ixl3, ixt0, ixt1, ixt2, ixt3, atI4_0, atI4_1, atI4_2, atI4_3, ixN4_0, ixN4_1, ixN4_2, ixN4_3, flat_i, iaddD_ii, dRet]
  (repeat' apply And.intro) <;> first | walk_at "fits" | grind
end
end Mp

set_option Elab.async false
set_option linter.all false
set_option maxRecDepth 100000
set_option maxHeartbeats 4000000
/-! K03h: what the defs answer, more -/
namespace Mp
open PySem L2
local macro_rules | `(tactic| walk_at "bd") => `(tactic| first
  | (with_reducible assumption)
  | ((with_reducible apply Bd.mul) <;> walk_at "bd")
  | ((with_reducible apply Bd.add) <;> walk_at "bd")
  | ((with_reducible apply Bd.sub) <;> walk_at "bd")
  | ((with_reducible apply Bd.neg) <;> walk_at "bd")
  | exact Bd.lit (by decide))
local macro_rules | `(tactic| walk_at "fits") => `(tactic| (apply Fits.of; (walk_at "bd"); (walk_at "bd"); decide))
local macro_rules | `(tactic| walk_at "ev") => `(tactic| simp [ok_def, ok_bnd, ok_some, ok_lft, ok_mul, ok_fdiv, ok_mod, ok_if, dSeq, dPar, dPar3, dSet, dSetL, dFor, dLoop, dItems, dC, dCall, dVar, hide, Sl.hide, peek, Sl.peek, dCons, dNil, dArgs, dTup, dLst, dFrz, dRet, dIfS, dIf, dTest, dNot, dOr, dAnd, dSkip, dBin, dUn, dUnp, gT, gsC, gsN, gN, lim, subD_ii, addD_ii, iaddD_ii, negD_i, ltD_ii, leD_ii, gtD_ii, geD_ii, eqV_ii, neV_ii, gcdG_ii, abs_i, int_i, tuple_l, list_t, list_l, len_l, len_t, ixt0, ixt1, ixt2, ixt3, ixl0, ixl1, ixl2, ixl3, lBin, lArgs, dFreeze, dApp, dExp, dYes, dB, dComp, compLoop, wipeE, toRho, ok_cat, *])

theorem abs_le_of_mul {z p x : Int} (h : z * p = x) (hp : p ≠ 0) : z.natAbs ≤ x.natAbs := by
  rw [← h, Int.natAbs_mul]
  exact Nat.le_mul_of_pos_right _ (by omega)
theorem nf_bd {n : Nat} {r : R4} {l : Int} (hr : BdR n r) (hl : Bd n l) (h : l ≠ 0) : BdE n (nf r l) := by
  have hp := prt_ne (r := r) h
  exact ⟨⟨Nat.lt_of_le_of_lt (abs_le_of_mul (nf_a r l) hp) hr.1, Nat.lt_of_le_of_lt (abs_le_of_mul (nf_b r l) hp) hr.2.1, Nat.lt_of_le_of_lt (abs_le_of_mul (nf_c r l) hp) hr.2.2.1, Nat.lt_of_le_of_lt (abs_le_of_mul (nf_d r l) hp) hr.2.2.2⟩, Nat.lt_of_le_of_lt (abs_le_of_mul (nf_l r l) hp) hl⟩
theorem Bd.add' {n : Nat} {a b : Int} (h : Bd n a) (k : Bd n b) : Bd (n + 1) (a + b) := by
  unfold Bd at *
  have h3 := Int.natAbs_add_le a b
  rw [Nat.pow_succ]
  omega
theorem Bd.sub' {n : Nat} {a b : Int} (h : Bd n a) (k : Bd n b) : Bd (n + 1) (a - b) := by
  rw [Int.sub_eq_add_neg]; exact h.add' k.neg
theorem Bd.mul' {n m k : Nat} {a b : Int} (h : Bd n a) (g : Bd m b) (e : n + m = k) : Bd k (a * b) := e ▸ h.mul g
theorem r4s_bd {n m : Nat} {r : R4} {k : Int} (h : BdR n r) (hk : Bd m k) : BdR (n + m) (r4s k r) :=
  ⟨hk.mul' h.1 (Nat.add_comm _ _), hk.mul' h.2.1 (Nat.add_comm _ _), hk.mul' h.2.2.1 (Nat.add_comm _ _), hk.mul' h.2.2.2 (Nat.add_comm _ _)⟩
theorem turnR_bd {n : Nat} {r : R4} (h : BdR n r) : BdR n (turnR r) := ⟨h.1, h.2.1.neg, h.2.2.1.neg, h.2.2.2.neg⟩
theorem turnE_bd {n : Nat} {x : E4} (h : BdE n x) : BdE n (turnE x) := ⟨turnR_bd h.1, h.2⟩
section
variable {q p : Int} {n : Nat}
theorem rmul_bd {x y : R4} (hq : Bd 10 q) (hp : Bd 10 p) (h : BdR n x) (k : BdR n y) : BdR (n + n + 24) (rmul q p x y) := by
  obtain ⟨h1, h2, h3, h4⟩ := h
  obtain ⟨k1, k2, k3, k4⟩ := k
  have m : ∀ {a b : Int}, Bd n a → Bd n b → Bd (n + n + 20) (a * b) := fun u v => (u.mul v).mono (by omega)
  have m1 : ∀ {c a b : Int}, Bd 10 c → Bd n a → Bd n b → Bd (n + n + 20) (c * a * b) := fun w u v => ((w.mul u).mul v).mono (by omega)
  have m2 : ∀ {c e a b : Int}, Bd 10 c → Bd 10 e → Bd n a → Bd n b → Bd (n + n + 20) (c * e * a * b) := fun w z u v => (((w.mul z).mul u).mul v).mono (by omega)
  have m3 : ∀ {c a b a' b' : Int}, Bd 10 c → Bd n a → Bd n b → Bd n a' → Bd n b' → Bd (n + n + 21) (c * (a * b - a' * b')) := fun w u v u' v' => (w.mul ((u.mul v).sub' (u'.mul v'))).mono (by omega)
  refine ⟨?_, ?_, ?_, ?_⟩
  · exact ((((m h1 k1).sub' (m1 hq h2 k2)).sub' ((m1 hp h3 k3).mono (by omega))).sub' ((m2 hq hp h4 k4).mono (by omega))).mono (by omega)
  · exact (((m h1 k2).add' (m h2 k1)).add' (m3 hp h3 k4 h4 k3)).mono (by omega)
  · exact (((m h1 k3).add' (m h3 k1)).add' (m3 hq h4 k2 h2 k4)).mono (by omega)
  · exact ((((m h1 k4).add' (m h4 k1)).add' ((m h2 k3).mono (by omega))).sub' ((m h3 k2).mono (by omega))).mono (by omega)
theorem nrm_bd {x : R4} (hq : Bd 10 q) (hp : Bd 10 p) (h : BdR n x) : Bd (n + n + 24) (nrm q p x) := by
  obtain ⟨h1, h2, h3, h4⟩ := h
  have a1 : Bd (n + n + 10) (x.a * x.a) := (h1.mul h1).mono (by omega)
  have a2 : Bd (n + n + 10) (q * x.b * x.b) := ((hq.mul h2).mul h2).mono (by omega)
  have a3 : Bd (n + n + 10) (x.c * x.c) := (h3.mul h3).mono (by omega)
  have a4 : Bd (n + n + 10) (q * x.d * x.d) := ((hq.mul h4).mul h4).mono (by omega)
  exact (((a1.add' a2).mono (by omega : _ ≤ n + n + 22)).add' ((hp.mul (a3.add' a4)).mono (by omega))).mono (by omega)
theorem radd_bd {x y : E4} (h : BdE n x) (k : BdE n y) : BdR (n + n + 24) (radd x y) :=
  have m : ∀ {a b a' b' : Int}, Bd n a → Bd n b → Bd n a' → Bd n b' → Bd (n + n + 24) (a * b + a' * b') := fun u v u' v' => ((u.mul v).add' (u'.mul v')).mono (by omega)
  ⟨m h.1.1 k.2 k.1.1 h.2, m h.1.2.1 k.2 k.1.2.1 h.2, m h.1.2.2.1 k.2 k.1.2.2.1 h.2, m h.1.2.2.2 k.2 k.1.2.2.2 h.2⟩
theorem rjoin_bd {x y : E4} {m : Int} (h : BdE n x) (k : BdE n y) (hm : Bd 10 m) : BdR (n + n + 24) (rjoin x y m) :=
  have m : ∀ {a b a' b' : Int}, Bd n a → Bd n b → Bd n a' → Bd n b' → Bd (n + n + 24) (a * b + m * a' * b') := fun u v u' v' => (((u.mul v).mono (by omega : _ ≤ n + n + 10)).add' (((hm.mul u').mul v').mono (by omega))).mono (by omega)
  ⟨m h.1.1 k.2 k.1.1 h.2, m h.1.2.1 k.2 k.1.2.1 h.2, m h.1.2.2.1 k.2 k.1.2.2.1 h.2, m h.1.2.2.2 k.2 k.1.2.2.2 h.2⟩
theorem mulE_bd {x y : E4} (hq : Bd 10 q) (hp : Bd 10 p) (hx : Nm x) (hy : Nm y) (h : BdE n x) (k : BdE n y) : BdE (n + n + 24) (mulE q p x y) := nf_bd (rmul_bd hq hp h.1 k.1) ((h.2.mul k.2).mono (by omega)) (hx.mul hy)
theorem addE_bd {x y : E4} (hx : Nm x) (hy : Nm y) (h : BdE n x) (k : BdE n y) : BdE (n + n + 24) (addE x y) := nf_bd (radd_bd h k) ((h.2.mul k.2).mono (by omega)) (hx.mul hy)
theorem oftE_bd {m : Nat} {x : E4} {t b : Int} (hx : Nm x) (hb : b ≠ 0) (h : BdE n x) (ht : Bd m t) (kb : Bd m b) : BdE (n + m) (oftE x t b) := nf_bd (r4s_bd h.1 ht) (h.2.mul kb) (Int.mul_ne_zero hx.ne hb)
theorem lessE_bd {x y : E4} (hx : Nm x) (hy : Nm y) (h : BdE n x) (k : BdE n y) : BdE (n + n + 34) (lessE x y) :=
  (addE_bd (n := n + 5) hx (oftE_nm hy (by decide)) (h.mono (by omega)) (oftE_bd hy (by decide) k (show Bd 5 (-1) from (by decide : ((-1) : Int).natAbs < 2 ^ 5)) (show Bd 5 1 from (by decide : (1 : Int).natAbs < 2 ^ 5)))).mono (by omega)
theorem backE_bd {x : E4} (hq : Bd 10 q) (hp : Bd 10 p) (hn : nrm q p x.1 ≠ 0) (h : BdE n x) : BdE (n + n + 24) (backE q p x) := nf_bd ((r4s_bd (turnR_bd h.1) h.2).mono (by omega)) (nrm_bd hq hp h.1) hn
theorem fr_bd {t b : Int} (ht : Bd n t) (hb : Bd n b) (h : b ≠ 0) : Bd n (fr t b).1 ∧ Bd n (fr t b).2 := by
  rw [fr_nf]
  have := nf_bd (n := n) (r := ⟨t, 0, 0, 0⟩) ⟨ht, Nat.two_pow_pos n, Nat.two_pow_pos n, Nat.two_pow_pos n⟩ hb h
  exact ⟨this.1.1, this.2⟩
theorem nrF_bd {x : E4} (hq : Bd 10 q) (hp : Bd 10 p) (hx : Nm x) (h : BdE n x) : Bd (n + n + 24) (nrF q p x).1 ∧ Bd (n + n + 24) (nrF q p x).2 := fr_bd (nrm_bd hq hp h.1) ((h.2.mul h.2).mono (by omega)) (hx.mul hx)
theorem trF_bd {x : E4} (hx : Nm x) (h : BdE n x) : Bd (n + 5) (trF x).1 ∧ Bd (n + 5) (trF x).2 := fr_bd (((show Bd 5 2 from (by decide : (2 : Int).natAbs < 2 ^ 5)).mul h.1.1).mono (by omega)) (h.2.mono (by omega)) hx.ne
end
/-! the defs of elements -/
section
variable {q p : Int} {x y : E4} {s : S} (hx : Nm x) (bx : BdE 4000 x)
include hx bx
theorem often_eq {t b : Int} (ht : Bd 4000 t) (hb : Bd 4000 b) (h : b ≠ 0) : G_often [eD x, .int t, .int b] s = some (eD (oftE x t b), s) := by
  have e1 := times_t (s := s) (bx.1.mono (by decide : 4000 ≤ 8000)) (ht.mono (by decide : 4000 ≤ 8000))
  have e2 := element_l (r := r4s t x.1) (s := s) (Int.mul_ne_zero hx.ne h) ((bx.2.mul hb).mono (by decide))
  have e3 : Fits x.2 b := Fits.of bx.2 hb (by decide)
  refine ok_eq ?_
  unfold G_often den_often oftE
  unfold eD at *
  walk_at "ev"
theorem turned_eq : G_turned [eD x] s = some (eD (turnE x), s) := by
  have e1 := turned_row_eq (r := x.1) (s := s)
  refine ok_eq ?_
  unfold G_turned den_turned
  unfold eD turnE at *
  walk_at "ev"
theorem lround_eq : G__law_round [eD x] s = some (eD (turnE x), s) := by
  have e1 := lturned_eq (r := x.1) (s := s)
  refine ok_eq ?_
  unfold G__law_round den__law_round
  unfold eD turnE at *
  walk_at "ev"
theorem lover_eq {t b : Int} (ht : Bd 4000 t) (hb : Bd 4000 b) (h : b ≠ 0) : G__law_over [eD x, .int t, .int b] s = some (eD (oftE x t b), s) := by
  have e1 := ltimes_t (s := s) (bx.1.mono (by decide : 4000 ≤ 8000)) (ht.mono (by decide : 4000 ≤ 8000))
  have e2 := lowest_l (r := r4s t x.1) (s := s) (Int.mul_ne_zero hx.ne h) ((bx.2.mul hb).mono (by decide))
  have e3 : Fits x.2 b := Fits.of bx.2 hb (by decide)
  refine ok_eq ?_
  unfold G__law_over den__law_over oftE
  unfold eD at *
  walk_at "ev"
theorem trace_eq : G_trace [eD x] s = some (fD (trF x), s) := by
  have e1 := fraction_eq (t := 2 * x.1.a) (s := s) hx.ne (bx.2.mono (by decide))
  have e3 : Fits 2 x.1.a := Fits.of (show Bd 5 2 from (by decide : (2 : Int).natAbs < 2 ^ 5)) bx.1.1 (by decide)
  refine ok_eq ?_
  unfold G_trace den_trace trF
  unfold eD rA at *
  walk_at "ev"
section
variable (hq : Bd 10 q) (hp : Bd 10 p)
include hq hp
theorem norm_eq : G_norm [.tup [.int q, .int p], eD x] s = some (fD (nrF q p x), s) := by
  have e0 := norm_row_eq (s := s) (hq.mono (by decide : 10 ≤ 64)) (hp.mono (by decide : 10 ≤ 64)) (bx.1.mono (by decide : 4000 ≤ 8000))
  have e1 := fraction_eq (t := nrm q p x.1) (s := s) (hx.mul hx) ((bx.2.mul bx.2).mono (by decide))
  have e3 : Fits x.2 x.2 := Fits.of bx.2 bx.2 (by decide)
  refine ok_eq ?_
  unfold G_norm den_norm nrF
  unfold eD at *
  walk_at "ev"
theorem lworth_eq : G__law_worth_of [.tup [.int q, .int p], eD x] s = some (fD (nrF q p x), s) := by
  have e0 := lnorm_of_eq (s := s) (hq.mono (by decide : 10 ≤ 64)) (hp.mono (by decide : 10 ≤ 64)) (bx.1.mono (by decide : 4000 ≤ 8000))
  have e1 := lfraction_eq (t := nrm q p x.1) (s := s) (hx.mul hx) ((bx.2.mul bx.2).mono (by decide))
  have e3 : Fits x.2 x.2 := Fits.of bx.2 bx.2 (by decide)
  refine ok_eq ?_
  unfold G__law_worth_of den__law_worth_of nrF
  unfold eD at *
  walk_at "ev"
theorem back_eq (hn : nrm q p x.1 ≠ 0) : G_back [.tup [.int q, .int p], eD x] s = some (eD (backE q p x), s) := by
  have e0 := norm_row_eq (s := s) (hq.mono (by decide : 10 ≤ 64)) (hp.mono (by decide : 10 ≤ 64)) (bx.1.mono (by decide : 4000 ≤ 8000))
  have e1 := turned_row_eq (r := x.1) (s := s)
  have e2 := times_l (s := s) (turnR_bd (bx.1.mono (by decide : 4000 ≤ 8000))) (bx.2.mono (by decide : 4000 ≤ 8000))
  have e3 := element_l (r := r4s x.2 (turnR x.1)) (s := s) hn ((nrm_bd hq hp bx.1).mono (by decide))
  refine ok_eq ?_
  unfold G_back den_back backE
  unfold eD at *
  walk_at "ev"
theorem lback_eq (hn : nrm q p x.1 ≠ 0) : G__law_back [.tup [.int q, .int p], eD x] s = some (eD (backE q p x), s) := by
  have e0 := lnorm_of_eq (s := s) (hq.mono (by decide : 10 ≤ 64)) (hp.mono (by decide : 10 ≤ 64)) (bx.1.mono (by decide : 4000 ≤ 8000))
  have e1 := lturned_eq (r := x.1) (s := s)
  have e2 := ltimes_l (s := s) (turnR_bd (bx.1.mono (by decide : 4000 ≤ 8000))) (bx.2.mono (by decide : 4000 ≤ 8000))
  have e3 := lowest_l (r := r4s x.2 (turnR x.1)) (s := s) hn ((nrm_bd hq hp bx.1).mono (by decide))
  refine ok_eq ?_
  unfold G__law_back den__law_back backE
  unfold eD at *
  walk_at "ev"
end
section
variable (hy : Nm y) (by_ : BdE 4000 y)
include hy by_
theorem plus_eq : G_plus [eD x, eD y] s = some (eD (addE x y), s) := by
  have e2 := element_l (r := radd x y) (s := s) (hx.mul hy) ((bx.2.mul by_.2).mono (by decide))
  have f : ∀ {a b : Int}, Bd 4000 a → Bd 4000 b → Fits a b := fun u v => Fits.of u v (by decide)
  have f1 := f bx.1.1 by_.2
  have f2 := f bx.1.2.1 by_.2
  have f3 := f bx.1.2.2.1 by_.2
  have f4 := f bx.1.2.2.2 by_.2
  have k1 := f by_.1.1 bx.2
  have k2 := f by_.1.2.1 bx.2
  have k3 := f by_.1.2.2.1 bx.2
  have k4 := f by_.1.2.2.2 bx.2
  have k5 := f bx.2 by_.2
  clear f
  refine ok_eq ?_
  unfold G_plus den_plus addE
  have r4 := rng4
  unfold eD rA radd at *
  simp [ok_def, ok_bnd, ok_some, ok_lft, ok_mul, dSeq, dUnp, gT, gsC, gsN, gN, hide, Sl.hide, peek, Sl.peek, dTup, dCons, dNil, dVar, lim, dRet, dCall, dFrz, dComp, compLoop, wipeE, toRho, dRng1, dC, dYes, dBin, addD_ii, ixt0, ixt1, ixt2, ixt3, *]
theorem ljoined_eq {m : Int} (hm : Bd 10 m) : G__law_joined [eD x, eD y, .int m] s = some (eD (joinE x y m), s) := by
  have e2 := lowest_l (r := rjoin x y m) (s := s) (hx.mul hy) ((bx.2.mul by_.2).mono (by decide))
  have f : ∀ {a b : Int}, Bd 4000 a → Bd 4000 b → Fits a b := fun u v => Fits.of u v (by decide)
  have g : ∀ {a b : Int}, Bd 4000 a → Bd 4000 b → Fits (m * a) b := fun u v => Fits.of (hm.mul u) v (by decide)
  have g' : ∀ {a : Int}, Bd 4000 a → Fits m a := fun u => Fits.of hm u (by decide)
  have f1 := f bx.1.1 by_.2
  have f2 := f bx.1.2.1 by_.2
  have f3 := f bx.1.2.2.1 by_.2
  have f4 := f bx.1.2.2.2 by_.2
  have k1 := g by_.1.1 bx.2
  have k2 := g by_.1.2.1 bx.2
  have k3 := g by_.1.2.2.1 bx.2
  have k4 := g by_.1.2.2.2 bx.2
  have g1' := g' by_.1.1
  have g2' := g' by_.1.2.1
  have g3' := g' by_.1.2.2.1
  have g4' := g' by_.1.2.2.2
  have k5 := f bx.2 by_.2
  clear f g g'
  refine ok_eq ?_
  unfold G__law_joined den__law_joined joinE
  have r4 := rng4
  unfold eD rA rjoin at *
  simp [ok_def, ok_bnd, ok_some, ok_lft, ok_mul, dSeq, dUnp, gT, gsC, gsN, gN, hide, Sl.hide, peek, Sl.peek, dTup, dCons, dNil, dVar, lim, dRet, dCall, dFrz, dComp, compLoop, wipeE, toRho, dRng1, dC, dYes, dBin, addD_ii, ixt0, ixt1, ixt2, ixt3, *]
section
variable (hq : Bd 10 q) (hp : Bd 10 p)
include hq hp
theorem by_eq : G_by [.tup [.int q, .int p], eD x, eD y] s = some (eD (mulE q p x y), s) := by
  have e0 := product_eq (s := s) (hq.mono (by decide : 10 ≤ 64)) (hp.mono (by decide : 10 ≤ 64)) (bx.1.mono (by decide : 4000 ≤ 8000)) (by_.1.mono (by decide : 4000 ≤ 8000))
  have e2 := element_l (r := rmul q p x.1 y.1) (s := s) (hx.mul hy) ((bx.2.mul by_.2).mono (by decide))
  have e3 : Fits x.2 y.2 := Fits.of bx.2 by_.2 (by decide)
  refine ok_eq ?_
  unfold G_by den_by mulE
  unfold eD at *
  walk_at "ev"
theorem lmul_eq : G__law_mul [.tup [.int q, .int p], eD x, eD y] s = some (eD (mulE q p x y), s) := by
  have e0 := lby_eq (s := s) (hq.mono (by decide : 10 ≤ 64)) (hp.mono (by decide : 10 ≤ 64)) (bx.1.mono (by decide : 4000 ≤ 8000)) (by_.1.mono (by decide : 4000 ≤ 8000))
  have e2 := lowest_l (r := rmul q p x.1 y.1) (s := s) (hx.mul hy) ((bx.2.mul by_.2).mono (by decide))
  have e3 : Fits x.2 y.2 := Fits.of bx.2 by_.2 (by decide)
  refine ok_eq ?_
  unfold G__law_mul den__law_mul mulE
  unfold eD at *
  walk_at "ev"
end
end
end
theorem less_eq {x y : E4} {s : S} (hx : Nm x) (bx : BdE 3900 x) (hy : Nm y) (by_ : BdE 3900 y) : G_less [eD x, eD y] s = some (eD (lessE x y), s) := by
  have e1 := often_eq (s := s) hy (by_.mono (by decide)) (show Bd 4000 (-1) from (show Bd 5 (-1) from (by decide : (-1 : Int).natAbs < 2 ^ 5)).mono (by decide)) (show Bd 4000 1 from (show Bd 5 1 from (by decide : (1 : Int).natAbs < 2 ^ 5)).mono (by decide)) (by decide)
  have e2 := plus_eq (s := s) hx (bx.mono (by decide)) (oftE_nm (t := -1) hy (by decide : (1 : Int) ≠ 0)) ((oftE_bd (t := -1) (m := 5) hy (by decide : (1 : Int) ≠ 0) by_ (by decide : (-1 : Int).natAbs < 2 ^ 5) (by decide : (1 : Int).natAbs < 2 ^ 5)).mono (by decide))
  refine ok_eq ?_
  unfold G_less den_less lessE
  walk_at "ev"
end Mp

set_option Elab.async false
set_option linter.all false
set_option maxRecDepth 100000
set_option maxHeartbeats 4000000
/-! K03i: what the defs answer, more -/
namespace Mp
open PySem L2
local macro_rules | `(tactic| walk_at "bd") => `(tactic| first
  | (with_reducible assumption)
  | ((with_reducible apply Bd.mul) <;> walk_at "bd")
  | ((with_reducible apply Bd.add) <;> walk_at "bd")
  | ((with_reducible apply Bd.sub) <;> walk_at "bd")
  | ((with_reducible apply Bd.neg) <;> walk_at "bd")
  | exact Bd.lit (by decide))
local macro_rules | `(tactic| walk_at "fits") => `(tactic| (apply Fits.of; (walk_at "bd"); (walk_at "bd"); decide))
local macro_rules | `(tactic| walk_at "ev") => `(tactic| simp [ok_def, ok_bnd, ok_some, ok_lft, ok_mul, ok_fdiv, ok_mod, ok_if, dSeq, dPar, dPar3, dSet, dSetL, dFor, dLoop, dItems, dC, dCall, dVar, hide, Sl.hide, peek, Sl.peek, dCons, dNil, dArgs, dTup, dLst, dFrz, dRet, dIfS, dIf, dTest, dNot, dOr, dAnd, dSkip, dBin, dUn, dUnp, gT, gsC, gsN, gN, lim, subD_ii, addD_ii, iaddD_ii, negD_i, ltD_ii, leD_ii, gtD_ii, geD_ii, eqV_ii, neV_ii, gcdG_ii, abs_i, int_i, tuple_l, list_t, list_l, len_l, len_t, ixt0, ixt1, ixt2, ixt3, ixl0, ixl1, ixl2, ixl3, lBin, lArgs, dFreeze, dApp, dExp, dYes, dB, dComp, compLoop, wipeE, toRho, ok_cat, *])

/-! draws -/
structure DI (s : S) : Prop where
  len : s.1.length ≤ 63
  all : ∀ z ∈ s.1, 0 ≤ z ∧ Bd 1300 z
  lo : 0 ≤ s.2
  hi : s.2 < 2147483647
theorem fmod_lo {a b : Int} (h : 0 < b) : 0 ≤ a.fmod b := Int.fmod_nonneg_of_pos a h
theorem fmod_hi {a b : Int} (h : 0 < b) : a.fmod b < b := Int.fmod_lt_of_pos a h
theorem Bd.of_le {n : Nat} {a b : Int} (h : 0 ≤ a) (k : a ≤ b) (e : Bd n b) : Bd n a := by
  unfold Bd at *
  omega
theorem any_loop (b : Int) (m : Int) : ∀ t : List Int, ∃ (k : Nat) (l : List Int), dWhileN (dAnd (dTest (dD_ne 0)) (dTest (dBin eqV (dD_last 0) (dC (.int 0))))) (dExp (dD_pop 0)) k [Sl.v .deal, Sl.v (.int b), Sl.none] (t.reverse, m) = some (Out.nx [Sl.v .deal, Sl.v (.int b), Sl.none], (l, m)) ∧ l.length ≤ t.length ∧ (∀ z ∈ l, z ∈ t) ∨ ¬ t.length ≤ 1000
  | [] => ⟨1, [], .inl ⟨rfl, Nat.le_refl _, fun z h => h⟩⟩
  | z :: t => by
    by_cases hl : (z :: t).length ≤ 1000
    · have hl2 : t.length ≤ 1000 := by rw [List.length_cons] at hl; omega
      obtain ⟨k, l, h⟩ := any_loop b m t
      rcases h with h | h
      · by_cases hz : z = 0
        · refine ⟨k + 1, l, .inl ⟨?_, ?_, ?_⟩⟩
          · subst hz
            unfold dWhileN
            rw [← h.1]
            have e : (List.length t) + 1 ≤ 1000 := by rw [List.length_cons] at hl; omega
            simp [bnd, dAnd, dTest, dD_ne, isDeal, peek, Sl.peek, hide, Sl.hide, dBin, dD_last, dC, lft, eqV_ii, dExp, dD_pop, e]
          · rw [List.length_cons]; omega
          · exact fun y hy => List.mem_cons_of_mem _ (h.2.2 y hy)
        · refine ⟨1, (z :: t).reverse, .inl ⟨?_, ?_, ?_⟩⟩
          · unfold dWhileN
            have e : (List.length t) + 1 ≤ 1000 := by rw [List.length_cons] at hl; omega
            simp [bnd, dAnd, dTest, dD_ne, isDeal, peek, Sl.peek, hide, Sl.hide, dBin, dD_last, dC, lft, eqV_ii, dExp, dD_pop, e, hz]
          · simp
          · exact fun y hy => List.mem_reverse.mp hy
      · exact absurd hl2 h
    · exact ⟨0, [], .inr hl⟩
theorem any_while {s : S} (b : Int) (h : DI s) : ∃ s', dWhile (dAnd (dTest (dD_ne 0)) (dTest (dBin eqV (dD_last 0) (dC (.int 0))))) (dExp (dD_pop 0)) [Sl.v .deal, Sl.v (.int b), Sl.none] s = some (Out.nx [Sl.v .deal, Sl.v (.int b), Sl.none], s') ∧ DI s' := by
  obtain ⟨l0, m⟩ := s
  obtain ⟨k, l, hk⟩ := any_loop b m l0.reverse
  have hlen := h.len
  rcases hk with ⟨h1, h2, h3⟩ | h1
  · rw [List.reverse_reverse] at h1
    exact ⟨(l, m), dWhile_of h1, ⟨by rw [List.length_reverse] at h2; exact Nat.le_trans h2 h.len, fun z hz => h.all z (List.mem_reverse.mp (h3 z hz)), h.lo, h.hi⟩⟩
  · rw [List.length_reverse] at h1
    exact absurd (Nat.le_trans h.len (by decide)) h1
theorem any_ok {s : S} {b : Int} (hb : 1 ≤ b) (kb : Bd 1000 b) (h : DI s) : ok (G__law_any [.deal, .int b] s) fun d s' => ∃ r, d = .int r ∧ 0 ≤ r ∧ r < b ∧ DI s' := by
  obtain ⟨s1, hw, h1⟩ := any_while b h
  have hb0 : b ≠ 0 := by omega
  have hbp : 0 < b := by omega
  have hd : DivOk b := DivOk.pos hbp kb (by decide)
  unfold G__law_any den__law_any
  simp only [ok_def, List.map_cons, List.map_nil, List.length_cons, List.length_nil]
  show ok (dSeq _ _ [Sl.v .deal, Sl.v (.int b), Sl.none] s) _
  unfold dSeq
  rw [ok_bnd, hw, ok_some]
  obtain ⟨l, m⟩ := s1
  by_cases hl : l = []
  · subst hl
    have f1 : Fits m 48271 := Fits.of (Bd.of_le h1.lo (Int.le_of_lt h1.hi) (Bd.lit (by decide))) (Bd.lit (by decide)) (by decide)
    have d64 : DivOk 64 := DivOk.of (by decide) (Bd.lit (by decide)) (by decide)
    simp [ok_bnd, ok_some, ok_lft, ok_mul, ok_mod, ok_fdiv, dIfS, dTest, dD_ne, isDeal, peek, Sl.peek, hide, Sl.hide, dSkip, dD_put, dBin, dArgs, dCons, dNil, dD_get, dC, addD_ii, int_i, dRet, dVar, f1, hb0, d64]
    refine ⟨fmod_lo hbp, fmod_hi hbp, ⟨by simp, by simp, ?_, ?_⟩⟩
    · exact fmod_lo (by decide)
    · exact fmod_hi (by decide)
  · obtain ⟨t, z, rfl⟩ : ∃ t z, l = t ++ [z] := ⟨l.dropLast, l.getLast hl, (List.dropLast_concat_getLast hl).symm⟩
    have hlen := h1.len
    simp only [List.length_append, List.length_cons, List.length_nil] at hlen
    have hz := h1.all z (by simp)
    have e1 : t.length + 1 ≤ 1000 := by omega
    have e2 : t.length < 1000000 := by omega
    simp [ok_bnd, ok_some, ok_lft, ok_mul, ok_mod, ok_fdiv, ok_if, dIfS, dTest, dD_ne, isDeal, peek, Sl.peek, hide, Sl.hide, dSkip, dD_pop, dD_app, dSet, dBin, dArgs, dCons, dNil, dC, int_i, dRet, dVar, hb0, hd, e1, e2, lim]
    refine ⟨fmod_lo hbp, fmod_hi hbp, ⟨by simp; omega, ?_, h1.lo, h1.hi⟩⟩
    intro y hy
    rcases List.mem_append.mp hy with q | q
    · exact h1.all y (List.mem_append_left _ q)
    · rw [List.mem_singleton] at q
      subst q
      have e : z.fdiv b = z / b := Int.fdiv_eq_ediv_of_nonneg z (by omega)
      have e3 : 0 ≤ z / b := Int.ediv_nonneg hz.1 (by omega)
      have e4 : z / b ≤ z := Int.ediv_le_self b hz.1
      rw [e]
      exact ⟨e3, Bd.of_le e3 e4 hz.2⟩
end Mp

set_option Elab.async false
set_option linter.all false
set_option maxRecDepth 100000
set_option maxHeartbeats 4000000
/-! K03j: what the defs answer, more -/
namespace Mp
open PySem L2
local macro_rules | `(tactic| walk_at "bd") => `(tactic| first
  | (with_reducible assumption)
  | ((with_reducible apply Bd.mul) <;> walk_at "bd")
  | ((with_reducible apply Bd.add) <;> walk_at "bd")
  | ((with_reducible apply Bd.sub) <;> walk_at "bd")
  | ((with_reducible apply Bd.neg) <;> walk_at "bd")
  | exact Bd.lit (by decide))
local macro_rules | `(tactic| walk_at "fits") => `(tactic| (apply Fits.of; (walk_at "bd"); (walk_at "bd"); decide))
local macro_rules | `(tactic| walk_at "ev") => `(tactic| simp [ok_def, ok_bnd, ok_some, ok_lft, ok_mul, ok_fdiv, ok_mod, ok_if, dSeq, dPar, dPar3, dSet, dSetL, dFor, dLoop, dItems, dC, dCall, dVar, hide, Sl.hide, peek, Sl.peek, dCons, dNil, dArgs, dTup, dLst, dFrz, dRet, dIfS, dIf, dTest, dNot, dOr, dAnd, dSkip, dBin, dUn, dUnp, gT, gsC, gsN, gN, lim, subD_ii, addD_ii, iaddD_ii, negD_i, ltD_ii, leD_ii, gtD_ii, geD_ii, eqV_ii, neV_ii, gcdG_ii, abs_i, int_i, tuple_l, list_t, list_l, len_l, len_t, ixt0, ixt1, ixt2, ixt3, ixl0, ixl1, ixl2, ixl3, lBin, lArgs, dFreeze, dApp, dExp, dYes, dB, dComp, compLoop, wipeE, toRho, ok_cat, *])

theorem of_ok {s : S} {l : List D} (h0 : 0 < l.length) (h1 : l.length ≤ 1000) (h : DI s) : ok (G__law_of [.deal, .lst l] s) fun d s' => d ∈ l ∧ DI s' := by
  unfold G__law_of den__law_of
  simp [ok_def, ok_bnd, ok_some, ok_lft, dRet, dBin, dVar, peek, Sl.peek, dCall, dCons, dNil, dArgs, len_l]
  refine ok_imp (any_ok (by omega) (Bd.of_le (b := 1000) (by omega) (by omega) ((Bd.lit (by decide)).mono (by decide))) h) ?_
  rintro _ s1 ⟨r, rfl, r0, r1, hs⟩
  obtain ⟨j, rfl⟩ := Int.eq_ofNat_of_zero_le r0
  have hj : j < l.length := by omega
  have e : ixD (.lst l) (.int (j : Int)) = some l[j] := atI_nat (j := j) (List.getElem?_eq_getElem hj)
  rw [e, ok_lft]
  exact ⟨List.getElem_mem hj, hs⟩
/-- of whole numbers -/
theorem of_int {s : S} {l : List Int} (h0 : 0 < l.length) (h1 : l.length ≤ 1000) (h : DI s) : ok (G__law_of [.deal, .lst (l.map D.int)] s) fun d s' => ∃ z ∈ l, d = .int z ∧ DI s' :=
  ok_imp (of_ok (by rw [List.length_map]; exact h0) (by rw [List.length_map]; exact h1) h) fun d s' ⟨k1, k2⟩ => by
    obtain ⟨z, hz, rfl⟩ := List.mem_map.mp k1
    exact ⟨z, hz, rfl, k2⟩
theorem wide_loop (b : Int) : ∀ (l : List D) (n : Nat) (a : Int) (x : Sl) (s : S), n + 22 * l.length ≤ 900 → Bd n a → 20 ≤ n → DI s →
    ok (dLoop (gN 3) (dSet 2 (dBin addD (dBin mulD (dVar 2) (dC (.int 1048573))) (dCall G__law_any (dCons (dVar 0) (dCons (dC (.int 1048573)) dNil))))) l [Sl.v .deal, Sl.v (.int b), Sl.v (.int a), x] s) fun o s' => (∃ a' x', o = Out.nx [Sl.v .deal, Sl.v (.int b), Sl.v (.int a'), x']) ∧ DI s'
  | [], n, a, x, s, _, _, _, h => ⟨⟨a, x, rfl⟩, h⟩
  | d :: l, n, a, x, s, hn, ha, h20, h => by
    rw [List.length_cons] at hn
    have f : Fits a 1048573 := Fits.of ha (Bd.lit (by decide)) (by omega)
    unfold dLoop
    simp [gN, dSet, ok_bnd, ok_lft, ok_mul, ok_some, hide, Sl.hide, dBin, dVar, dC, dCall, dCons, dNil, f]
    refine ok_imp (any_ok (by decide) ((Bd.lit (by decide)).mono (by decide)) h) ?_
    rintro _ s1 ⟨r, rfl, r0, r1, hs⟩
    rw [addD_ii, ok_lft]
    have hc : Bd 20 1048573 := (by decide : (1048573 : Int).natAbs < 2 ^ 20)
    have hr : Bd 20 r := Bd.of_le r0 (by omega) hc
    exact wide_loop b l (n + 22) _ _ s1 (by omega) (((ha.mul hc).add' (hr.mono (by omega))).mono (by omega)) (by omega) hs
theorem pow10_6 : powD (.int 10) (.int 6) = some (.int 1000000) := rfl
theorem rng10 : rngL 0 10 = [.int 0, .int 1, .int 2, .int 3, .int 4, .int 5, .int 6, .int 7, .int 8, .int 9] := rfl
theorem wide_ok {s : S} {b : Int} (hb : 1 ≤ b) (kb : Bd 900 b) (h : DI s) : ok (G__law_wide [.deal, .int b] s) fun d s' => ∃ r, d = .int r ∧ 0 ≤ r ∧ r < b ∧ DI s' := by
  unfold G__law_wide den__law_wide
  have hbp : 0 < b := by omega
  by_cases h6 : b ≤ 1000000
  · simp [ok_def, ok_bnd, ok_some, ok_lft, dSeq, dIfS, dTest, dBin, leD_ii, pow10_6, dC, dVar, peek, Sl.peek, hide, Sl.hide, h6, dRet, dCall, dCons, dNil]
    exact any_ok hb (kb.mono (by decide)) h
  · simp [ok_def, ok_bnd, ok_some, ok_lft, dSeq, dIfS, dTest, dBin, leD_ii, pow10_6, dC, dVar, peek, Sl.peek, hide, Sl.hide, h6, dSkip, dSet, dFor, dRng1, dCons, dNil, rng10]
    refine ok_imp (wide_loop b _ 64 0 _ s (by decide) (Bd.lit (by decide)) (by decide) h) ?_
    rintro _ s1 ⟨⟨a, x, rfl⟩, hs⟩
    have hb0 : b ≠ 0 := by omega
    simp [ok_def, ok_bnd, ok_some, ok_lft, ok_mod, dRet, dBin, dArgs, dCons, dNil, dVar, peek, Sl.peek, int_i, hb0]
    exact ⟨fmod_lo hbp, fmod_hi hbp, hs⟩
/-- what may be drawn -/
def Tall (lo : Int) (l : List Int) : Prop := 0 < l.length ∧ l.length ≤ 1000 ∧ ∀ z ∈ l, lo ≤ z ∧ Bd 140 z
theorem signed_ok {s : S} {l : List Int} (hl : Tall 1 l) (h : DI s) : ok (G__law_signed [.deal, .lst (l.map D.int)] s) fun d s' => ∃ r, d = .int r ∧ Bd 140 r ∧ DI s' := by
  unfold G__law_signed den__law_signed
  simp [ok_def, ok_bnd, ok_some, ok_lft, dSeq, dSet, dCall, dCons, dNil, dVar, hide, Sl.hide, peek, Sl.peek]
  refine ok_imp (of_int hl.1 hl.2.1 h) ?_
  rintro _ s1 ⟨z, hz, rfl, h1⟩
  have hb := hl.2.2 z hz
  refine ok_imp (wide_ok hb.1 (hb.2.mono (by decide)) h1) ?_
  rintro _ s2 ⟨r, rfl, r0, r1, h2⟩
  have hr : Bd 140 r := Bd.of_le r0 (by omega) hb.2
  simp [ok_def, ok_bnd, ok_some, ok_lft, dRet, dIf, dTest, dBin, dCall, dCons, dNil, dVar, dC, hide, Sl.hide, peek, Sl.peek]
  refine ok_imp (any_ok (by decide) ((Bd.lit (by decide)).mono (by decide)) h2) ?_
  rintro _ s3 ⟨c, rfl, c0, c1, h3⟩
  simp [eqV_ii, ok_lft, ok_if, ok_bnd, ok_some, dUn, dVar, hide, Sl.hide, peek, Sl.peek, negD_i]
  split
  · exact ⟨hr.neg, h3⟩
  · exact ⟨hr, h3⟩
/-- one turn of a row -/
theorem row_step {s : S} {l : List Int} {lD : D} (hD : lD = .lst (l.map D.int)) (hl : Tall 1 l) (h : DI s) (m : List D) (hm : m.length ≤ 10) (x y : Sl) : ok (dSeq (dSet 4 (dCall G__law_wide (dCons (dVar 0) (dCons (dCall G__law_of (dCons (dVar 0) (dCons (dVar 1) dNil))) dNil))))
  (dApp 2 (dIf (dTest (dBin eqV (dCall G__law_any (dCons (dVar 0) (dCons (dC (.int 2)) dNil))) (dC (.int 0)))) (dUn negD (dVar 4)) (dVar 4))) [Sl.v .deal, Sl.v lD, Sl.own m, x, y] s) fun o s' => ∃ r y', o = Out.nx [Sl.v .deal, Sl.v lD, Sl.own (m ++ [.int r]), x, y'] ∧ Bd 140 r ∧ DI s' := by
  subst hD
  simp [ok_def, ok_bnd, ok_some, ok_lft, dSeq, dSet, dCall, dCons, dNil, dVar, hide, Sl.hide, peek, Sl.peek]
  refine ok_imp (of_int hl.1 hl.2.1 h) ?_
  rintro _ s1 ⟨z, hz, rfl, h1⟩
  have hb := hl.2.2 z hz
  refine ok_imp (wide_ok hb.1 (hb.2.mono (by decide)) h1) ?_
  rintro _ s2 ⟨r, rfl, r0, r1, h2⟩
  have hr : Bd 140 r := Bd.of_le r0 (by omega) hb.2
  have hm2 : m.length < 1000000 := by omega
  simp [ok_def, ok_bnd, ok_some, ok_lft, dApp, dIf, dTest, dBin, dCall, dCons, dNil, dVar, dC, hide, Sl.hide, peek, Sl.peek, lim, hm2]
  refine ok_imp (any_ok (by decide) ((Bd.lit (by decide)).mono (by decide)) h2) ?_
  rintro _ s3 ⟨c, rfl, c0, c1, h3⟩
  simp [eqV_ii, ok_lft, ok_if, ok_bnd, ok_some, dUn, dVar, hide, Sl.hide, peek, Sl.peek, negD_i]
  split
  · exact ⟨hr.neg, h3⟩
  · exact ⟨hr, h3⟩
theorem row_loop {l : List Int} {lD : D} (hD : lD = .lst (l.map D.int)) (hl : Tall 1 l) : ∀ (is m : List D) (x y : Sl) (s : S), DI s → m.length + is.length ≤ 10 → ok (dLoop (gN 3) (dSeq (dSet 4 (dCall G__law_wide (dCons (dVar 0) (dCons (dCall G__law_of (dCons (dVar 0) (dCons (dVar 1) dNil))) dNil))))
  (dApp 2 (dIf (dTest (dBin eqV (dCall G__law_any (dCons (dVar 0) (dCons (dC (.int 2)) dNil))) (dC (.int 0)))) (dUn negD (dVar 4)) (dVar 4)))) is [Sl.v .deal, Sl.v lD, Sl.own m, x, y] s) fun o s' => ∃ (rs : List Int) (x' y' : Sl), o = Out.nx [Sl.v .deal, Sl.v lD, Sl.own (m ++ rs.map D.int), x', y'] ∧ rs.length = is.length ∧ (∀ r ∈ rs, Bd 140 r) ∧ DI s'
  | [], m, x, y, s, h, _ => ⟨[], x, y, by simp, rfl, by simp, h⟩
  | d :: is, m, x, y, s, h, hn => by
    rw [List.length_cons] at hn
    unfold dLoop
    simp only [gN, List.length_cons, List.length_nil]
    simp only [show (3 < 0 + 1 + 1 + 1 + 1 + 1) = True from by decide, if_true, List.set_cons_succ, List.set_cons_zero, ok_bnd]
    refine ok_imp (row_step hD hl h m (by omega) _ _) ?_
    rintro _ s1 ⟨r, y', rfl, hr, h1⟩
    refine ok_imp (row_loop hD hl is (m ++ [.int r]) _ y' s1 h1 (by simp; omega)) ?_
    rintro _ s2 ⟨rs, x2, y2, rfl, h2, h3, h4⟩
    exact ⟨r :: rs, x2, y2, by simp, by simp [h2], fun z hz => by rcases List.mem_cons.mp hz with q | q; exact q ▸ hr; exact h3 z q, h4⟩
theorem row_ok {s : S} {l : List Int} (hl : Tall 1 l) (h : DI s) : ok (G__law_row [.deal, .lst (l.map D.int)] s) fun d s' => ∃ r, d = .lst (rA r) ∧ BdR 140 r ∧ DI s' := by
  unfold G__law_row den__law_row
  simp [ok_def, ok_bnd, ok_some, ok_lft, dSeq, dSetL, dFor, dRng1, dLst, dCons, dNil, dVar, dC, hide, Sl.hide, peek, Sl.peek, rng4]
  refine ok_imp (row_loop rfl hl _ [] _ _ s h (by decide)) ?_
  rintro _ s1 ⟨rs, x, y, rfl, h1, h2, h3⟩
  rcases rs with _ | ⟨a, _ | ⟨b, _ | ⟨c, _ | ⟨d, _ | ⟨e, rs⟩⟩⟩⟩⟩
  · exact absurd h1 (by simp)
  · exact absurd h1 (by simp)
  · exact absurd h1 (by simp)
  · exact absurd h1 (by simp)
  · simp [ok_some, ok_bnd, dRet, dVar, peek, Sl.peek, ok]
    exact ⟨⟨a, b, c, d⟩, rfl, ⟨h2 a (by simp), h2 b (by simp), h2 c (by simp), h2 d (by simp)⟩, h3⟩
  · simp at h1
theorem Tall.le {a b : Int} {l : List Int} (h : Tall b l) (e : a ≤ b) : Tall a l := ⟨h.1, h.2.1, fun z hz => ⟨Int.le_trans e (h.2.2 z hz).1, (h.2.2 z hz).2⟩⟩
theorem thing_ok {s : S} {l : List Int} (hl : Tall 2 l) (h : DI s) : ok (G__law_thing [.deal, .lst (l.map D.int)] s) fun d s' => ∃ x, d = eD x ∧ Nm x ∧ BdE 150 x ∧ DI s' := by
  unfold G__law_thing den__law_thing
  simp [ok_def, ok_bnd, ok_some, ok_lft, dRet, dBin, dCall, dCons, dNil, dVar, dC, peek, Sl.peek]
  refine ok_imp (row_ok (hl.le (by decide)) h) ?_
  rintro _ s1 ⟨r, rfl, hr, h1⟩
  refine ok_imp (of_int hl.1 hl.2.1 h1) ?_
  rintro _ s2 ⟨z, hz, rfl, h2⟩
  have hb := hl.2.2 z hz
  rw [subD_ii, ok_lft]
  refine ok_imp (wide_ok (by omega) (Bd.of_le (b := z) (by omega) (by omega) (hb.2.mono (by decide))) h2) ?_
  rintro _ s3 ⟨w, rfl, w0, w1, h3⟩
  rw [addD_ii, ok_lft]
  have hw : Bd 140 (1 + w) := Bd.of_le (b := z) (by omega) (by omega) hb.2
  rw [lowest_l (by omega) (hw.mono (by decide)), ok_some]
  have hw0 : 1 + w ≠ 0 := by omega
  exact ⟨(nf r (1 + w)).1, (nf r (1 + w)).2, rfl, nf_nm hw0, (nf_bd hr hw hw0).mono (by decide), h3⟩
end Mp

set_option Elab.async false
set_option linter.all false
set_option maxRecDepth 100000
set_option maxHeartbeats 4000000
/-! K03k: what the defs answer, more -/
namespace Mp
open PySem L2
local macro_rules | `(tactic| walk_at "bd") => `(tactic| first
  | (with_reducible assumption)
  | ((with_reducible apply Bd.mul) <;> walk_at "bd")
  | ((with_reducible apply Bd.add) <;> walk_at "bd")
  | ((with_reducible apply Bd.sub) <;> walk_at "bd")
  | ((with_reducible apply Bd.neg) <;> walk_at "bd")
  | exact Bd.lit (by decide))
local macro_rules | `(tactic| walk_at "fits") => `(tactic| (apply Fits.of; (walk_at "bd"); (walk_at "bd"); decide))
local macro_rules | `(tactic| walk_at "ev") => `(tactic| simp [ok_def, ok_bnd, ok_some, ok_lft, ok_mul, ok_fdiv, ok_mod, ok_if, dSeq, dPar, dPar3, dSet, dSetL, dFor, dLoop, dItems, dC, dCall, dVar, hide, Sl.hide, peek, Sl.peek, dCons, dNil, dArgs, dTup, dLst, dFrz, dRet, dIfS, dIf, dTest, dNot, dOr, dAnd, dSkip, dBin, dUn, dUnp, gT, gsC, gsN, gN, lim, subD_ii, addD_ii, iaddD_ii, negD_i, ltD_ii, leD_ii, gtD_ii, geD_ii, eqV_ii, neV_ii, gcdG_ii, abs_i, int_i, tuple_l, list_t, list_l, len_l, len_t, ixt0, ixt1, ixt2, ixt3, ixl0, ixl1, ixl2, ixl3, lBin, lArgs, dFreeze, dApp, dExp, dYes, dB, dComp, compLoop, wipeE, toRho, ok_cat, *])

theorem pow10_20 : powD (.int 10) (.int 20) = some (.int 100000000000000000000) := rfl
theorem pow10_19 : powD (.int 10) (.int 19) = some (.int 10000000000000000000) := rfl
theorem pow10_18 : powD (.int 10) (.int 18) = some (.int 1000000000000000000) := rfl
theorem pow10_40 : powD (.int 10) (.int 40) = some (.int 10000000000000000000000000000000000000000) := rfl
theorem bd140 {a : Int} (h : a.natAbs < 2 ^ 140) : Bd 140 a := h
theorem tall_of {lo : Int} {l : List Int} (h : (0 < l.length ∧ l.length ≤ 1000) ∧ (l.all fun z => decide (lo ≤ z ∧ z.natAbs < 2 ^ 140)) = true) : Tall lo l :=
  ⟨h.1.1, h.1.2, fun z hz => (of_decide_eq_true (List.all_eq_true.mp h.2 z hz) : lo ≤ z ∧ z.natAbs < 2 ^ 140)⟩
def talls : List (List Int) := [[2], [4, 2], [1000000, 3], [10000000000000000000000000000000000000000], [10000000000000000000000000000000000000000, 2], [100000000000000000000, 10000000000000000000000000000000000000000]]
theorem talls_ok : ∀ l ∈ talls, Tall 2 l := by
  intro l hl
  unfold talls at hl
  simp only [List.mem_cons, List.not_mem_nil, or_false] at hl
  rcases hl with rfl | rfl | rfl | rfl | rfl | rfl <;> exact tall_of (by decide)
theorem cut2 (a b c d : D) : cutD [a, b, c, d] (some 2) none = [c, d] := rfl
theorem drawn_ok {s : S} (h : DI s) : ok (G__law_drawn [.deal] s) fun d s' => ∃ x, d = eD x ∧ Nm x ∧ BdE 150 x ∧ DI s' := by
  unfold G__law_drawn den__law_drawn
  simp [ok_def, ok_bnd, ok_some, ok_lft, dSeq, dSet, dCall, dCons, dNil, dVar, dC, dFrz, dLst, dBin, pow10_6, pow10_20, pow10_40, hide, Sl.hide, peek, Sl.peek, lim]
  have ht : ok (G__law_of [.deal, .lst (talls.map fun l => .lst (l.map D.int))] s) fun d s' => (∃ l, l ∈ talls ∧ d = .lst (l.map D.int)) ∧ DI s' :=
    ok_imp (of_ok (by decide) (by decide) h) fun d s' ⟨k1, k2⟩ => by
      obtain ⟨l, hl, rfl⟩ := List.mem_map.mp k1
      exact ⟨⟨l, hl, rfl⟩, k2⟩
  refine ok_imp ht ?_
  rintro _ s1 ⟨⟨l, hl, rfl⟩, h1⟩
  refine ok_imp (any_ok (by decide) ((Bd.lit (by decide)).mono (by decide)) h1) ?_
  rintro _ s2 ⟨r, rfl, r0, r1, h2⟩
  simp [ok_bnd, ok_some, ok_lft, dIfS, dTest, dBin, dVar, dC, peek, Sl.peek, hide, Sl.hide, eqV_ii]
  by_cases e0 : r = 0
  · simp [e0, ok_bnd, ok_some, dRet, dTup, dCons, dNil, dC, lim]
    exact ⟨⟨0, 0, 0, 0⟩, 1, rfl, ⟨by decide, by decide⟩, ⟨⟨(Bd.lit (by decide)).mono (by decide), (Bd.lit (by decide)).mono (by decide), (Bd.lit (by decide)).mono (by decide), (Bd.lit (by decide)).mono (by decide)⟩, (Bd.lit (by decide)).mono (by decide)⟩, h2⟩
  by_cases e1 : r = 1
  · simp [e0, e1, ok_bnd, ok_some, ok_lft, eqV_ii, hide, Sl.hide, dSkip, dRet, dTup, dCons, dNil, dC, lim, dCall, dVar, peek, Sl.peek, dFrz, dLst, dBin, pow10_40]
    refine ok_imp (signed_ok (l := [3, 10000000000000000000000000000000000000000]) (tall_of (by decide)) h2) ?_
    rintro _ s3 ⟨z, rfl, hz, h3⟩
    have b0 : Bd 150 0 := (Bd.lit (by decide)).mono (by decide)
    have b1 : Bd 150 1 := (Bd.lit (by decide)).mono (by decide)
    exact ⟨⟨z, 0, 0, 0⟩, 1, rfl, flatE_nm (one_nm z), ⟨⟨hz.mono (by decide), b0, b0, b0⟩, b1⟩, h3⟩
  simp [e0, e1, ok_bnd, ok_some, ok_lft, dSkip, eqV_ii, peek, Sl.peek, hide, Sl.hide]
  refine ok_imp (thing_ok (talls_ok l hl) h2) ?_
  rintro _ s3 ⟨x, rfl, nx, bx, h3⟩
  by_cases e2 : r = 2
  · have f := lowest_l (r := ⟨0, 0, x.1.c, x.1.d⟩) (s := s3) nx.ne (bx.2.mono (by decide))
    unfold eD rA at *
    simp [e2, ok_bnd, ok_some, ok_lft, dSet, lBin, lArgs, dLst, dFrz, dCons, dNil, dC, dVar, hide, Sl.hide, peek, Sl.peek, lim, dCutT, oSome, oNone, ixt0, ixt1, cut2, list_t, ok_cat, dBin, f, dRet, dCall]
    have b0 : Bd 150 0 := (Bd.lit (by decide)).mono (by decide)
    exact ⟨(nf ⟨0, 0, x.1.c, x.1.d⟩ x.2).1, (nf ⟨0, 0, x.1.c, x.1.d⟩ x.2).2, ⟨⟨rfl, rfl, rfl, rfl⟩, rfl⟩, nf_nm nx.ne, nf_bd ⟨b0, b0, bx.1.2.2.1, bx.1.2.2.2⟩ bx.2 nx.ne, h3⟩
  · simp [e2, ok_bnd, ok_some, ok_lft, dRet, dVar, peek, Sl.peek]
    exact ⟨x.1, x.2, rfl, nx, bx, h3⟩
end Mp

set_option Elab.async false
set_option linter.all false
set_option maxRecDepth 100000
set_option maxHeartbeats 4000000
/-! K03l: what the defs answer, more -/
namespace Mp
open PySem L2
local macro_rules | `(tactic| walk_at "bd") => `(tactic| first
  | (with_reducible assumption)
  | ((with_reducible apply Bd.mul) <;> walk_at "bd")
  | ((with_reducible apply Bd.add) <;> walk_at "bd")
  | ((with_reducible apply Bd.sub) <;> walk_at "bd")
  | ((with_reducible apply Bd.neg) <;> walk_at "bd")
  | exact Bd.lit (by decide))
local macro_rules | `(tactic| walk_at "fits") => `(tactic| (apply Fits.of; (walk_at "bd"); (walk_at "bd"); decide))
local macro_rules | `(tactic| walk_at "ev") => `(tactic| simp [ok_def, ok_bnd, ok_some, ok_lft, ok_mul, ok_fdiv, ok_mod, ok_if, dSeq, dPar, dPar3, dSet, dSetL, dFor, dLoop, dItems, dC, dCall, dVar, hide, Sl.hide, peek, Sl.peek, dCons, dNil, dArgs, dTup, dLst, dFrz, dRet, dIfS, dIf, dTest, dNot, dOr, dAnd, dSkip, dBin, dUn, dUnp, gT, gsC, gsN, gN, lim, subD_ii, addD_ii, iaddD_ii, negD_i, ltD_ii, leD_ii, gtD_ii, geD_ii, eqV_ii, neV_ii, gcdG_ii, abs_i, int_i, tuple_l, list_t, list_l, len_l, len_t, ixt0, ixt1, ixt2, ixt3, ixl0, ixl1, ixl2, ixl3, lBin, lArgs, dFreeze, dApp, dExp, dYes, dB, dComp, compLoop, wipeE, toRho, ok_cat, *])

/-! the same -/
theorem isi_it (a : Int) : isiG [.int a, .ty "tuple"] = some (.bl false) := rfl
theorem isi_is (a : Int) : isiG [.int a, .ty "str"] = some (.bl false) := rfl
theorem isi_ii (a : Int) : isiG [.int a, .ty "int"] = some (.bl true) := rfl
theorem isi_ib (a : Int) : isiG [.int a, .ty "bool"] = some (.bl false) := rfl
theorem isi_tt (l : List D) : isiG [.tup l, .ty "tuple"] = some (.bl true) := rfl
theorem isD_in (a : Int) : isD (.int a) .non = some (.bl false) := rfl
theorem isD_ib (a : Int) (b : Bool) : isD (.int a) (.bl b) = some (.bl false) := rfl
theorem same_int (n : Nat) (a : Int) (s : S) : GN__law_same (n + 1) [.int a, .int a] s = some (.bl true, s) := by
  refine ok_eq ?_
  unfold GN__law_same den__law_same
  simp [ok_def, ok_bnd, ok_some, ok_lft, dSeq, dIfS, dTest, dArgs, dCons, dNil, dVar, dC, peek, Sl.peek, hide, Sl.hide, isi_it, isi_is, isi_ii, isi_ib, isD_in, isD_ib, dBin, dSkip, dOr, dRet, dB, dAnd, dNot, eqV_ii]
theorem rng2 : rngL 0 2 = [.int 0, .int 1] := rfl
theorem same_two {n : Nat} {a b : D} (ha : ∀ s, GN__law_same n [a, a] s = some (.bl true, s)) (hb : ∀ s, GN__law_same n [b, b] s = some (.bl true, s)) (s : S) : GN__law_same (n + 1) [.tup [a, b], .tup [a, b]] s = some (.bl true, s) := by
  refine ok_eq ?_
  unfold GN__law_same den__law_same
  simp [ok_def, ok_bnd, ok_some, ok_lft, dSeq, dIfS, dTest, dArgs, dCons, dNil, dVar, dC, peek, Sl.peek, hide, Sl.hide, isi_tt, dBin, dSkip, dOr, dRet, dB, dAnd, dNot, eqV_ii, neV_ii, len_t, len_l, dFrz, dComp, compLoop, wipeE, toRho, dRng1, rng2, gN, dCall, ixt0, ixt1, ha, hb, lim]
theorem same_four {n : Nat} {a b c d : D} (ha : ∀ s, GN__law_same n [a, a] s = some (.bl true, s)) (hb : ∀ s, GN__law_same n [b, b] s = some (.bl true, s)) (hc : ∀ s, GN__law_same n [c, c] s = some (.bl true, s)) (hd : ∀ s, GN__law_same n [d, d] s = some (.bl true, s)) (s : S) : GN__law_same (n + 1) [.tup [a, b, c, d], .tup [a, b, c, d]] s = some (.bl true, s) := by
  refine ok_eq ?_
  unfold GN__law_same den__law_same
  simp [ok_def, ok_bnd, ok_some, ok_lft, dSeq, dIfS, dTest, dArgs, dCons, dNil, dVar, dC, peek, Sl.peek, hide, Sl.hide, isi_tt, dBin, dSkip, dOr, dRet, dB, dAnd, dNot, eqV_ii, neV_ii, len_t, len_l, dFrz, dComp, compLoop, wipeE, toRho, dRng1, rng4, gN, dCall, ixt0, ixt1, ixt2, ixt3, ha, hb, hc, hd, lim]
def Sm (d : D) : Prop := ∀ s, G__law_same [d, d] s = some (.bl true, s)
theorem sm_e (x : E4) : Sm (eD x) := same_two (same_four (same_int 5 _) (same_int 5 _) (same_int 5 _) (same_int 5 _)) (same_int 6 _)
theorem sm_f (x : Int × Int) : Sm (fD x) := same_two (same_int 6 _) (same_int 6 _)
/-- a pair of told and due -/
def pr (d : D) : D := .tup [d, d]
theorem all_loop (ρ0 : Option D) : ∀ (l : List D) (s : S), (∀ d ∈ l, Sm d) → compLoop (gT 2 (gsC (gN 1) (gsC (gN 2) gsN))) (dNot (dTest (dCall G__law_same (dCons (dVar 1) (dCons (dVar 2) dNil))))) (dVar 1) [ρ0, none, none] (l.map pr) s = some ([], s)
  | [], _, _ => rfl
  | d :: l, s, h => by
    have h1 := h d (List.mem_cons_self ..) s
    have h2 := all_loop ρ0 l s fun e he => h e (List.mem_cons_of_mem _ he)
    rw [List.map_cons]
    unfold compLoop
    simp [pr, gT, gsC, gsN, gN, toRho, bnd, dNot, dTest, dCall, dCons, dNil, dVar, hide, Sl.hide, h1] 
    exact h2
theorem all_ok {l : List D} {s : S} (h : ∀ d ∈ l, Sm d) (hl : l.length ≤ 1000) : G__law_all [.lst (l.map pr)] s = some (.bl true, s) := by
  have hl2 : l.length ≤ lim := Nat.le_trans hl (by decide)
  have f := all_loop (some (.lst (l.map pr))) l s h
  refine ok_eq ?_
  unfold G__law_all den__law_all
  simp [ok_def, ok_bnd, ok_some, ok_lft, dRet, dBin, dArgs, dCons, dNil, dFrz, dComp, dItems, dVar, peek, Sl.peek, hl2, wipeE, f, len_l, dC, eqV_ii]
/-! signs -/
def primes : List Int := [2, 3, 5, 7, 11, 13, 17, 19, 23, 29, 31, 37, 41, 43, 47, 53, 59, 61, 67, 71, 73, 79, 83, 89, 97]
def sgn (p : Int) : Int := if p = 2 ∨ p % 4 = 3 then 1 else if p % 8 = 5 then 2 else if p = 73 ∨ p = 97 then 7 else 3
theorem lsigns_eq (s : S) : ∀ p ∈ primes, G__law_signs [.int p] s = some (.tup [.int (sgn p), .int p], s) := by
  intro p hp
  unfold primes at hp
  simp only [List.mem_cons, List.not_mem_nil, or_false] at hp
  rcases hp with rfl | rfl | rfl | rfl | rfl | rfl | rfl | rfl | rfl | rfl | rfl | rfl | rfl | rfl | rfl | rfl | rfl | rfl | rfl | rfl | rfl | rfl | rfl | rfl | rfl <;> rfl
theorem sgn_bd : ∀ p ∈ primes, 0 < sgn p ∧ (sgn p).natAbs < 2 ^ 10 ∧ 0 < p ∧ p.natAbs < 2 ^ 10 := by decide
theorem lf3 (s : S) : G_least_factor [.int 3] s = some (.int 3, s) := rfl
theorem fits5 : Fits 5 5 := Fits.of (Bd.lit (by decide)) (Bd.lit (by decide)) (by decide)
theorem lf7 (s : S) : G_least_factor [.int 7] s = some (.int 7, s) := by
  have h : ∀ f, dWhile (dTest (dBin leD (dBin mulD (dVar 2) (dVar 2)) (dVar 0))) f [Sl.v (.int 7), Sl.v (.int 3), Sl.v (.int 5)] s = some (Out.nx [Sl.v (.int 7), Sl.v (.int 3), Sl.v (.int 5)], s) := fun f => dWhile_of (n := 1) (by
    unfold dWhileN
    simp [bnd, dTest, dBin, dVar, peek, Sl.peek, lft, mulD_ii fits5, leD_ii])
  unfold G_least_factor den_least_factor
  refine ok_eq ?_
  simp [ok_def, ok_bnd, ok_some, ok_lft, dSeq, dFor, dItems, dTup, dCons, dNil, dC, hide, Sl.hide, peek, Sl.peek, lim, dLoop, gN, dIfS, dTest, dBin, dVar, modD_ii, eqV_ii, dSkip, dSet]
  rw [h, ok_some]
  exact ⟨rfl, rfl⟩
theorem pr3 (s : S) : G_is_prime [.int 3] s = some (.bl true, s) := by
  refine ok_eq ?_
  unfold G_is_prime den_is_prime
  simp [ok_def, ok_bnd, ok_some, ok_lft, dRet, dB, dAnd, dTest, dBin, dVar, dC, peek, Sl.peek, geD_ii, dCall, dCons, dNil, lf3, eqV_ii]
theorem pr7 (s : S) : G_is_prime [.int 7] s = some (.bl true, s) := by
  refine ok_eq ?_
  unfold G_is_prime den_is_prime
  simp [ok_def, ok_bnd, ok_some, ok_lft, dRet, dB, dAnd, dTest, dBin, dVar, dC, peek, Sl.peek, geD_ii, dCall, dCons, dNil, lf7, eqV_ii]
theorem sy17 (s : S) : G_symbol [.int 3, .int 17] s = some (.int (-1), s) := rfl
theorem sy73 (s : S) : G_symbol [.int 3, .int 73] s = some (.int 1, s) := rfl
theorem sy73' (s : S) : G_symbol [.int 7, .int 73] s = some (.int (-1), s) := rfl
theorem comp1 (s : S) (p : Int) (h : G_symbol [.int 3, .int p] s = some (.int (-1), s)) : G_least_companion [.int p] s = some (.int 3, s) := by
  have hw : ∀ f, dWhile (dOr (dNot (dTest (dCall G_is_prime (dCons (dVar 1) dNil)))) (dTest (dBin neV (dCall G_symbol (dCons (dVar 1) (dCons (dVar 0) dNil))) (dUn negD (dC (.int 1)))))) f [Sl.v (.int p), Sl.v (.int 3)] s = some (Out.nx [Sl.v (.int p), Sl.v (.int 3)], s) := fun f => dWhile_of (n := 1) (by
    unfold dWhileN
    simp [bnd, dOr, dNot, dTest, dCall, dCons, dNil, dVar, peek, Sl.peek, pr3, h, dBin, dUn, dC, lft, negD_i, neV_ii])
  refine ok_eq ?_
  unfold G_least_companion den_least_companion
  simp [ok_def, ok_bnd, ok_some, ok_lft, dSeq, dSet, dC, hide, Sl.hide, peek, Sl.peek, hw, dRet, dVar]
theorem comp2' (s : S) (p : Int) (h : G_symbol [.int 3, .int p] s = some (.int 1, s)) (h2 : G_symbol [.int 7, .int p] s = some (.int (-1), s)) : G_least_companion [.int p] s = some (.int 7, s) := by
  have hw : dWhile (dOr (dNot (dTest (dCall G_is_prime (dCons (dVar 1) dNil)))) (dTest (dBin neV (dCall G_symbol (dCons (dVar 1) (dCons (dVar 0) dNil))) (dUn negD (dC (.int 1)))))) (dAug 1 iaddD (dC (.int 4))) [Sl.v (.int p), Sl.v (.int 3)] s = some (Out.nx [Sl.v (.int p), Sl.v (.int 7)], s) := dWhile_of (n := 2) (by
    unfold dWhileN
    simp [bnd, dOr, dNot, dTest, dCall, dCons, dNil, dVar, peek, Sl.peek, pr3, h, dBin, dUn, dC, lft, negD_i, neV_ii, dAug, iaddD_ii, flat_i]
    unfold dWhileN
    simp [bnd, dOr, dNot, dTest, dCall, dCons, dNil, dVar, peek, Sl.peek, pr7, h2, dBin, dUn, dC, lft, negD_i, neV_ii, dAug, iaddD_ii, flat_i])
  refine ok_eq ?_
  unfold G_least_companion den_least_companion
  simp [ok_def, ok_bnd, ok_some, ok_lft, dSeq, dSet, dC, hide, Sl.hide, peek, Sl.peek, hw, dRet, dVar]
theorem rule_8 (s : S) (p q : Int) (h0 : p ≠ 2) (h1 : p.fmod 4 ≠ 3) (h2 : p.fmod 8 ≠ 5) (h : G_least_companion [.int p] s = some (.int q, s)) : G_rule_of [.int p] s = some (.tup [.int q, .int p], s) := by
  refine ok_eq ?_
  unfold G_rule_of den_rule_of
  simp [ok_def, ok_bnd, ok_some, ok_lft, dSeq, dIfS, dOr, dTest, dBin, dVar, dC, peek, Sl.peek, hide, Sl.hide, eqV_ii, modD_ii, h0, h1, h2, dSkip, dRet, dTup, dCons, dNil, dCall, h, lim]
theorem rule_eq (s : S) : ∀ p ∈ primes, G_rule_of [.int p] s = some (.tup [.int (sgn p), .int p], s) := by
  intro p hp
  unfold primes at hp
  simp only [List.mem_cons, List.not_mem_nil, or_false] at hp
  rcases hp with rfl | rfl | rfl | rfl | rfl | rfl | rfl | rfl | rfl | rfl | rfl | rfl | rfl | rfl | rfl | rfl | rfl | rfl | rfl | rfl | rfl | rfl | rfl | rfl | rfl
  all_goals first
    | rfl
    | exact rule_8 s _ 3 (by decide) (by decide) (by decide) (comp1 s _ rfl)
    | exact rule_8 s _ 7 (by decide) (by decide) (by decide) (comp2' s _ rfl rfl)
end Mp

set_option Elab.async false
set_option linter.all false
set_option maxRecDepth 100000
set_option maxHeartbeats 4000000
/-! K03n: what the defs answer, more -/
namespace Mp
open PySem L2
local macro_rules | `(tactic| walk_at "bd") => `(tactic| first
  | (with_reducible assumption)
  | ((with_reducible apply Bd.mul) <;> walk_at "bd")
  | ((with_reducible apply Bd.add) <;> walk_at "bd")
  | ((with_reducible apply Bd.sub) <;> walk_at "bd")
  | ((with_reducible apply Bd.neg) <;> walk_at "bd")
  | exact Bd.lit (by decide))
local macro_rules | `(tactic| walk_at "fits") => `(tactic| (apply Fits.of; (walk_at "bd"); (walk_at "bd"); decide))
local macro_rules | `(tactic| walk_at "ev") => `(tactic| simp [ok_def, ok_bnd, ok_some, ok_lft, ok_mul, ok_fdiv, ok_mod, ok_if, dSeq, dPar, dPar3, dSet, dSetL, dFor, dLoop, dItems, dC, dCall, dVar, hide, Sl.hide, peek, Sl.peek, dCons, dNil, dArgs, dTup, dLst, dFrz, dRet, dIfS, dIf, dTest, dNot, dOr, dAnd, dSkip, dBin, dUn, dUnp, gT, gsC, gsN, gN, lim, subD_ii, addD_ii, iaddD_ii, negD_i, ltD_ii, leD_ii, gtD_ii, geD_ii, eqV_ii, neV_ii, gcdG_ii, abs_i, int_i, tuple_l, list_t, list_l, len_l, len_t, ixt0, ixt1, ixt2, ixt3, ixl0, ixl1, ixl2, ixl3, lBin, lArgs, dFreeze, dApp, dExp, dYes, dB, dComp, compLoop, wipeE, toRho, ok_cat, *])

/-! the words, each at its place -/
section
variable {ρ : Rho} {e : Env} {s : S} {i j m n : Nat} {f g : DS} {x y z : DE} {a b : DA} {c d : DT} {h : D → D → Option D}
theorem ap_dSeq : dSeq f g ρ s = bnd (f ρ s) fun o s1 => match o with
  | .nx ρ1 => g ρ1 s1
  | .rt d => some (.rt d, s1)
  | .bk ρ1 => some (.bk ρ1, s1)
  | .ct ρ1 => some (.ct ρ1, s1) := rfl
theorem ap_dSet : dSet i x ρ s = bnd (x (hide ρ) s) fun d s1 => if i < ρ.length then some (.nx (ρ.set i (.v d)), s1) else none := rfl
theorem ap_dSetL : dSetL i a ρ s = bnd (a (hide ρ) s) fun d s1 => if i < ρ.length then some (.nx (ρ.set i (.own d)), s1) else none := rfl
theorem ap_dIfS : dIfS c f g ρ s = bnd (c (peek ρ) s) fun b s1 => if b = true then f ρ s1 else g ρ s1 := rfl
theorem ap_dRet : dRet x ρ s = bnd (x (peek ρ) s) fun d s1 => some (.rt d, s1) := rfl
theorem ap_dSkip : dSkip ρ s = some (.nx ρ, s) := rfl
theorem ap_dFor {k : DG} : dFor a k f ρ s = bnd (a (hide ρ) s) fun l s1 => dLoop k f l ρ s1 := rfl
theorem ap_dPar : dPar i j a ρ s = bnd (a (hide ρ) s) fun l s1 => match l with
  | [x, y] => if i < ρ.length ∧ j < ρ.length then some (.nx ((ρ.set i (.v x)).set j (.v y)), s1) else none
  | _ => none := rfl
theorem ap_dPar3 : dPar3 i j m a ρ s = bnd (a (hide ρ) s) fun l s1 => match l with
  | [x, y, z] => if i < ρ.length ∧ j < ρ.length ∧ m < ρ.length then some (.nx (((ρ.set i (.v x)).set j (.v y)).set m (.v z)), s1) else none
  | _ => none := rfl
theorem ap_dApp : dApp i x ρ s = match ρ[i]? with
  | some (.own l) => bnd (x (hide ρ) s) fun d s1 => if l.length < lim then some (.nx (ρ.set i (.own (l ++ [d]))), s1) else none
  | _ => none := rfl
theorem ap_dFreeze : dFreeze i f ρ s = match ρ[i]? with
  | some (.own l) => f (ρ.set i (.v (.lst l))) s
  | _ => none := rfl
theorem ap_dVar : dVar i e s = match e[i]? with
  | some (some d) => some (d, s)
  | _ => none := rfl
theorem ap_dC {k : D} : dC k e s = some (k, s) := rfl
theorem ap_dBin : dBin h x y e s = bnd (x e s) fun u s1 => bnd (y e s1) fun v s2 => lft (h u v) s2 := rfl
theorem ap_dUn {k : D → Option D} : dUn k x e s = bnd (x e s) fun u s1 => lft (k u) s1 := rfl
theorem ap_dTest : dTest x e s = bnd (x e s) fun d s1 => match d with
  | .bl b => some (b, s1)
  | _ => none := rfl
theorem ap_dNot : dNot c e s = bnd (c e s) fun b s1 => some (!b, s1) := rfl
theorem ap_dIf : dIf c x y e s = bnd (c e s) fun b s1 => if b = true then x e s1 else y e s1 := rfl
theorem ap_dNil : dNil e s = some ([], s) := rfl
theorem ap_dCons : dCons x a e s = bnd (x e s) fun u s1 => bnd (a e s1) fun l s2 => some (u :: l, s2) := rfl
theorem ap_dTup : dTup a e s = bnd (a e s) fun l s1 => if l.length ≤ lim then some (.tup l, s1) else none := rfl
theorem ap_dFrz : dFrz a e s = bnd (a e s) fun l s1 => some (.lst l, s1) := rfl
theorem ap_dLst : dLst a e s = bnd (a e s) fun l s1 => if l.length ≤ lim then some (l, s1) else none := rfl
theorem ap_dArgs {k : List D → Option D} : dArgs k a e s = bnd (a e s) fun x s1 => lft (k x) s1 := rfl
theorem ap_lArgs {k : List D → Option (List D)} : lArgs k a e s = bnd (a e s) fun x s1 => lft (k x) s1 := rfl
theorem ap_lBin {k : D → D → Option (List D)} : lBin k x y e s = bnd (x e s) fun u s1 => bnd (y e s1) fun v s2 => lft (k u v) s2 := rfl
theorem ap_dCall {k : List D → S → Option (D × S)} : dCall k a e s = bnd (a e s) fun l s1 => k l s1 := rfl
theorem ap_dCallK {k : List D → S → Option (D × S)} : dCallK k a b e s = bnd (a e s) fun l s1 => bnd (b e s1) fun m s2 => k (l ++ m) s2 := rfl
theorem ap_dItems : dItems x e s = bnd (x e s) fun d s1 => match d with
  | .lst l => some (l, s1)
  | .tup l => some (l, s1)
  | _ => none := rfl
theorem ap_dRng1 : dRng1 a e s = bnd (a e s) fun l s1 => match l with
  | [.int n] => if -(10 ^ 9) ≤ n ∧ n ≤ 10 ^ 9 then some (rngL 0 n.toNat, s1) else none
  | _ => none := rfl
theorem ap_dComp {vs : List Nat} {k : DG} : dComp a vs k c x e s = bnd (a e s) fun l s1 => if l.length ≤ lim then compLoop k c x (wipeE e vs) l s1 else none := rfl
theorem ap_lRev : lRev x e s = bnd (x e s) fun d s1 => match d with
  | .lst l => some (l.reverse, s1)
  | _ => none := rfl
theorem ap_lCut {p q : DO} : lCut x p q e s = bnd (x e s) fun d s1 => bnd (p e s1) fun a s2 => bnd (q e s2) fun b s3 => match d with
  | .lst l => some (cutD l a b, s3)
  | .scr l => some (cutD (l.map D.int) a b, s3)
  | _ => none := rfl
theorem ap_oNone : oNone e s = some (none, s) := rfl
theorem ap_oSome : oSome x e s = bnd (x e s) fun d s1 => match d with
  | .int i => some (some i, s1)
  | _ => none := rfl
theorem ap_dDef {l : List D} : dDef n f l s = match f ((l.map Sl.v) ++ List.replicate (n - l.length) .none) s with
  | some (.rt d, s') => some (d, s')
  | some (.nx _, s') => some (.non, s')
  | _ => none := rfl
end

/-! the deal -/
def LL : Int := 10 ^ 64 * 10 ^ 64 * 10 ^ 64 * 10 ^ 64 * 10 ^ 64 * 10 ^ 64
theorem pow10_64 : powD (.int 10) (.int 64) = some (.int (10 ^ 64)) := rfl
theorem ll_eq (ρ : Env) (s : S) : (dBin mulD (dBin mulD (dBin mulD (dBin mulD (dBin mulD (dBin powD (dC (.int 10)) (dC (.int 64))) (dBin powD (dC (.int 10)) (dC (.int 64)))) (dBin powD (dC (.int 10)) (dC (.int 64)))) (dBin powD (dC (.int 10)) (dC (.int 64)))) (dBin powD (dC (.int 10)) (dC (.int 64)))) (dBin powD (dC (.int 10)) (dC (.int 64)))) ρ s = some (.int LL, s) := rfl
theorem ll_ne : LL ≠ 0 := by decide
theorem ll_pos : 0 < LL := by decide
theorem ll_bd : Bd 1300 LL := (by decide : LL.natAbs < 2 ^ 1300)
theorem deal_comp (a b c d e : Option D) : ∀ (l : List Int) (s : S), compLoop (gN 5) dYes (dBin modD (dArgs (g1 intD) (dCons (dArgs (g1 absD) (dCons (dArgs (g1 intD) (dCons (dVar 5) dNil)) dNil)) dNil)) (dVar 2)) [a, b, some (.int LL), c, d, e] (l.map D.int) s = some ((l.map fun z => (if z < 0 then -z else z).fmod LL).map D.int, s)
  | [], s => rfl
  | z :: l, s => by
    have h := deal_comp a b c d e l s
    rw [List.map_cons]
    unfold compLoop
    simp [bnd, gN, toRho, dYes, dBin, dArgs, dCons, dNil, dVar, hide, Sl.hide, lft, int_i, abs_i, modD_ii ll_ne] 
    rw [h]
    simp
theorem salt_loop (a b c d : Sl) : ∀ (l : List Int) (m : Int) (x : Sl) (s : S), 0 ≤ m ∧ m < 2147483647 → ok (dLoop (gN 5) (dSet 4 (dBin modD (dArgs (g1 intD) (dCons (dBin addD (dBin addD (dBin mulD (dVar 4) (dC (.int 69621))) (dBin modD (dArgs (g1 intD) (dCons (dVar 5) dNil)) (dC (.int 2147483563)))) (dC (.int 23))) dNil)) (dC (.int 2147483647)))) (l.map D.int) [a, b, c, d, Sl.v (.int m), x] s) fun o s' => ∃ m' x', o = Out.nx [a, b, c, d, Sl.v (.int m'), x'] ∧ (0 ≤ m' ∧ m' < 2147483647) ∧ s' = s
  | [], m, x, s, h => ⟨m, x, rfl, h, rfl⟩
  | z :: l, m, x, s, h => by
    have f : Fits m 69621 := Fits.of (Bd.of_le h.1 (Int.le_of_lt h.2) (Bd.lit (by decide))) (Bd.lit (by decide)) (by decide)
    rw [List.map_cons]
    unfold dLoop
    simp [gN, dSet, ok_bnd, ok_lft, ok_mul, ok_mod, ok_some, hide, Sl.hide, dBin, dVar, dC, dArgs, dCons, dNil, int_i, addD_ii, f]
    refine ok_imp (salt_loop a b c d l _ _ s ⟨fmod_lo (by decide), fmod_hi (by decide)⟩) ?_
    rintro _ s1 ⟨m', x', rfl, h1, rfl⟩
    exact ⟨m', ⟨x', rfl⟩, h1, rfl⟩
theorem sift (a b c d e f : Option D) : ∀ (l : List Int) (s : S), ∃ ys : List Int, compLoop (gN 5) (dTest (dBin geD (dVar 5) (dBin powD (dC (.int 10)) (dC (.int 18))))) (dVar 5) [a, b, c, d, e, f] (l.map D.int) s = some (ys.map D.int, s) ∧ ys.length ≤ l.length ∧ ∀ y ∈ ys, y ∈ l
  | [], s => ⟨[], rfl, Nat.le_refl _, by simp⟩
  | z :: l, s => by
    obtain ⟨ys, h1, h2, h3⟩ := sift a b c d e f l s
    by_cases hz : 1000000000000000000 ≤ z
    · refine ⟨z :: ys, ?_, by simp [h2], fun y hy => ?_⟩
      · rw [List.map_cons]
        unfold compLoop
        simp [bnd, gN, toRho, dTest, dBin, dVar, dC, hide, Sl.hide, lft, geD_ii, pow10_18, hz]
        rw [h1]
      · rcases List.mem_cons.mp hy with q | q
        · exact q ▸ List.mem_cons_self ..
        · exact List.mem_cons_of_mem _ (h3 y q)
    · refine ⟨ys, ?_, by simp; omega, fun y hy => List.mem_cons_of_mem _ (h3 y hy)⟩
      rw [List.map_cons]
      unfold compLoop
      simp [bnd, gN, toRho, dTest, dBin, dVar, dC, hide, Sl.hide, lft, geD_ii, pow10_18, hz]
      rw [h1]
theorem cut_ints (ns : List Int) (a b : Option Int) : ∃ cs : List Int, cutD (ns.map D.int) a b = cs.map D.int ∧ cs.length ≤ ns.length := by
  refine ⟨(ns.drop (HT.sIx ns.length 0 a)).take (HT.sIx ns.length ns.length b - HT.sIx ns.length 0 a), ?_, ?_⟩
  · unfold cutD
    rw [List.length_map, List.map_take, List.map_drop]
  · rw [List.length_take, List.length_drop]
    omega
theorem deal_ok (ns : List Int) (hns : ns.length ≤ 63) (s : S) : ok (G__law_deal [.scr ns, .int 3] s) fun d s' => ∃ (zs : List Int) (m : Int), d = .lst [.lst (zs.map D.int), .int m] ∧ s' = s ∧ DI (zs, m) := by
  obtain ⟨cs, hc, hcl⟩ := cut_ints ns none (some 63)
  have hl : cs.length ≤ 1000000 := by omega
  have f3 : Fits 7919 3 := Fits.of (Bd.lit (by decide)) (Bd.lit (by decide)) (by decide)
  have hdc := deal_comp (some (.scr ns)) (some (.int 3)) none none none cs s
  have hws : ∀ w ∈ cs.map fun z => (if z < 0 then -z else z).fmod LL, 0 ≤ w ∧ w < LL := fun w hw => by
    obtain ⟨z, hz, rfl⟩ := List.mem_map.mp hw
    exact ⟨fmod_lo ll_pos, fmod_hi ll_pos⟩
  have hwl : (cs.map fun z => (if z < 0 then -z else z).fmod LL).length = cs.length := List.length_map ..
  revert hdc hws hwl
  generalize (cs.map fun z => (if z < 0 then -z else z).fmod LL) = ws
  intro hdc hws hwl
  have hl2 : ws.length ≤ 1000000 := by omega
  unfold G__law_deal den__law_deal
  simp only [ok_def, List.map_cons, List.map_nil, List.length_cons, List.length_nil]
  show ok (dSeq _ _ [Sl.v (.scr ns), Sl.v (.int 3), Sl.none, Sl.none, Sl.none, Sl.none] s) _
  rw [ap_dSeq, ok_bnd, ap_dSet, ok_bnd, ll_eq, ok_some]
  simp [ok_bnd, ok_some, ok_lft, ok_mul, ok_fdiv, ok_mod, ok_if, ap_dSeq, ap_dSet, ap_dSetL, ap_dIfS, ap_dRet, ap_dSkip, ap_dFor, ap_dPar, ap_dPar3, ap_dApp, ap_dFreeze, ap_dVar, ap_dC, ap_dBin, ap_dUn, ap_dTest, ap_dNot, ap_dIf, ap_dNil, ap_dCons, ap_dTup, ap_dFrz, ap_dLst, ap_dArgs, ap_lArgs, ap_lBin, ap_dCall, ap_dCallK, ap_dItems, ap_dRng1, ap_dComp, ap_lRev, ap_lCut, ap_oNone, ap_oSome, hide, Sl.hide, peek, Sl.peek, lim, wipeE, hc, hl, hdc, addD_ii, f3]
  refine ok_imp (salt_loop _ _ _ _ ws 93758 _ s (by decide)) ?_
  rintro _ s1 ⟨m, x, rfl, hm, rfl⟩
  obtain ⟨ys, h1, h2, h3⟩ := sift (some (.scr ns)) (some (.int 3)) (some (.int LL)) (some (.lst (ws.map D.int))) (some (.int m)) none ws s1
  simp [ok_bnd, ok_some, ok_lft, ok_mul, ok_fdiv, ok_mod, ok_if, ap_dSeq, ap_dSet, ap_dSetL, ap_dIfS, ap_dRet, ap_dSkip, ap_dFor, ap_dPar, ap_dPar3, ap_dApp, ap_dFreeze, ap_dVar, ap_dC, ap_dBin, ap_dUn, ap_dTest, ap_dNot, ap_dIf, ap_dNil, ap_dCons, ap_dTup, ap_dFrz, ap_dLst, ap_dArgs, ap_lArgs, ap_lBin, ap_dCall, ap_dCallK, ap_dItems, ap_dRng1, ap_dComp, ap_lRev, ap_lCut, ap_oNone, ap_oSome, hide, Sl.hide, peek, Sl.peek, lim, wipeE, hl2, h1]
  refine ⟨ys.reverse, m, by simp, ⟨?_, ?_, hm.1, hm.2⟩⟩
  · simp; omega
  · intro y hy
    have := hws y (h3 y (List.mem_reverse.mp hy))
    exact ⟨this.1, Bd.of_le this.1 (Int.le_of_lt this.2) ll_bd⟩
end Mp

set_option Elab.async false
set_option linter.all false
set_option maxRecDepth 100000
set_option maxHeartbeats 4000000
/-! K03q: what the defs answer, more -/
namespace Mp
open PySem L2
local macro_rules | `(tactic| walk_at "bd") => `(tactic| first
  | (with_reducible assumption)
  | ((with_reducible apply Bd.mul) <;> walk_at "bd")
  | ((with_reducible apply Bd.add) <;> walk_at "bd")
  | ((with_reducible apply Bd.sub) <;> walk_at "bd")
  | ((with_reducible apply Bd.neg) <;> walk_at "bd")
  | exact Bd.lit (by decide))
local macro_rules | `(tactic| walk_at "fits") => `(tactic| (apply Fits.of; (walk_at "bd"); (walk_at "bd"); decide))

/-! one rule for each word -/
section
variable {ρ ρ1 : Rho} {e : Env} {s : S} {i j m n : Nat} {f g : DS} {x y z : DE} {a b : DA} {c : DT} {l k : List D} {u v d : D} {o : Out}
theorem ev_nil : dNil e s = some ([], s) := rfl
theorem ev_cons (h1 : x e s = some (u, s)) (h2 : a e s = some (l, s)) : dCons x a e s = some (u :: l, s) := by unfold dCons; rw [h1]; show bnd (a e s) _ = _; rw [h2]; rfl
theorem ev_var (h : e[i]? = some (some d)) : dVar i e s = some (d, s) := by unfold dVar; rw [h]
theorem ev_c : dC u e s = some (u, s) := rfl
theorem ev_call {G : List D → S → Option (D × S)} (h1 : a e s = some (l, s)) (h2 : G l s = some (d, s)) : dCall G a e s = some (d, s) := by unfold dCall; rw [h1]; exact h2
theorem ev_tup (h1 : a e s = some (l, s)) (h2 : Nat.ble l.length 40 = true) : dTup a e s = some (.tup l, s) := by
  unfold dTup; rw [h1]; exact if_pos (Nat.le_trans (Nat.le_of_ble_eq_true h2) (by decide))
theorem ev_lst (h1 : a e s = some (l, s)) (h2 : Nat.ble l.length 40 = true) : dLst a e s = some (l, s) := by
  unfold dLst; rw [h1]; exact if_pos (Nat.le_trans (Nat.le_of_ble_eq_true h2) (by decide))
theorem ev_frz (h1 : a e s = some (l, s)) : dFrz a e s = some (.lst l, s) := by unfold dFrz; rw [h1]; rfl
theorem ev_bin {p : D → D → Option D} (h1 : x e s = some (u, s)) (h2 : y e s = some (v, s)) (h3 : p u v = some d) : dBin p x y e s = some (d, s) := by
  unfold dBin; rw [h1]; show bnd (y e s) _ = _; rw [h2]; show lft (p u v) s = _; rw [h3]; rfl
theorem ev_un {p : D → Option D} (h1 : x e s = some (u, s)) (h3 : p u = some d) : dUn p x e s = some (d, s) := by
  unfold dUn; rw [h1]; show lft (p u) s = _; rw [h3]; rfl
theorem ev_args {p : List D → Option D} (h1 : a e s = some (l, s)) (h3 : p l = some d) : dArgs p a e s = some (d, s) := by
  unfold dArgs; rw [h1]; show lft (p l) s = _; rw [h3]; rfl
theorem ev_cat (h1 : x e s = some (.lst l, s)) (h2 : y e s = some (.lst k, s)) (h3 : Nat.ble (l.length + k.length) 40 = true) : lBin catL x y e s = some (l ++ k, s) := by
  unfold lBin; rw [h1]; show bnd (y e s) _ = _; rw [h2]; show lft (catL (.lst l) (.lst k)) s = _
  rw [catL_ll (Nat.le_trans (Nat.le_of_ble_eq_true h3) (by decide))]; rfl
theorem ev_test {t : Bool} (h1 : x e s = some (.bl t, s)) : dTest x e s = some (t, s) := by unfold dTest; rw [h1]; rfl
theorem ev_items (h1 : x e s = some (.tup l, s)) : dItems x e s = some (l, s) := by unfold dItems; rw [h1]; rfl
theorem e_seq (h1 : f ρ s = some (Out.nx ρ1, s)) (h2 : g ρ1 s = some (o, s)) : dSeq f g ρ s = some (o, s) := by unfold dSeq; rw [h1]; exact h2
theorem e_set (h : x (hide ρ) s = some (d, s)) (hi : Nat.ble (i + 1) ρ.length = true) : dSet i x ρ s = some (Out.nx (ρ.set i (.v d)), s) := by
  unfold dSet; rw [h]; exact if_pos (Nat.le_of_ble_eq_true hi)
theorem e_setL (h : a (hide ρ) s = some (l, s)) (hi : Nat.ble (i + 1) ρ.length = true) : dSetL i a ρ s = some (Out.nx (ρ.set i (.own l)), s) := by
  unfold dSetL; rw [h]; exact if_pos (Nat.le_of_ble_eq_true hi)
theorem e_par (h : a (hide ρ) s = some ([u, v], s)) (hi : Nat.ble (i + 1) ρ.length = true) (hj : Nat.ble (j + 1) ρ.length = true) : dPar i j a ρ s = some (Out.nx ((ρ.set i (.v u)).set j (.v v)), s) := by
  unfold dPar; rw [h]; exact if_pos ⟨Nat.le_of_ble_eq_true hi, Nat.le_of_ble_eq_true hj⟩
theorem e_frz (h : ρ[i]? = some (.own l)) (h2 : f (ρ.set i (.v (.lst l))) s = some (o, s)) : dFreeze i f ρ s = some (o, s) := by unfold dFreeze; rw [h]; exact h2
theorem e_app (h : ρ[i]? = some (.own l)) (h2 : x (hide ρ) s = some (d, s)) (h3 : Nat.ble l.length 40 = true) : dApp i x ρ s = some (Out.nx (ρ.set i (.own (l ++ [d]))), s) := by
  unfold dApp; rw [h]; show bnd (x (hide ρ) s) _ = _; rw [h2]; exact if_pos (Nat.lt_of_le_of_lt (Nat.le_of_ble_eq_true h3) (by decide))
theorem e_ret (h : x (peek ρ) s = some (d, s)) : dRet x ρ s = some (Out.rt d, s) := by unfold dRet; rw [h]; rfl
theorem e_ift (h : c (peek ρ) s = some (true, s)) (h2 : f ρ s = some (o, s)) : dIfS c f g ρ s = some (o, s) := by unfold dIfS; rw [h]; exact h2
theorem e_iff (h : c (peek ρ) s = some (false, s)) (h2 : g ρ s = some (o, s)) : dIfS c f g ρ s = some (o, s) := by unfold dIfS; rw [h]; exact h2
theorem e_skip : dSkip ρ s = some (Out.nx ρ, s) := rfl
theorem e_def (h : f ((l.map Sl.v) ++ List.replicate (n - l.length) .none) s = some (Out.rt d, s)) : dDef n f l s = some (d, s) := by unfold dDef; rw [h]
end
theorem e_def' {n : Nat} {f : DS} {l : List D} {s : S} {d d' : D} (h : f ((l.map Sl.v) ++ List.replicate (n - l.length) .none) s = some (Out.rt d, s)) (e : d = d') : dDef n f l s = some (d', s) := e ▸ e_def h
theorem ixE0 (x : E4) : ixD (eD x) (.int 0) = some (.tup (rA x.1)) := rfl
theorem ixE1 (x : E4) : ixD (eD x) (.int 1) = some (.int x.2) := rfl
theorem ixR0 (r : R4) : ixD (.tup (rA r)) (.int 0) = some (.int r.a) := rfl
theorem ixF0 (f : Int × Int) : ixD (fD f) (.int 0) = some (.int f.1) := rfl
theorem ixF1 (f : Int × Int) : ixD (fD f) (.int 1) = some (.int f.2) := rfl
local macro_rules | `(tactic| walk_at "run") => `(tactic| first
  | with_reducible exact ev_nil
  | with_reducible exact ev_c
  | with_reducible exact e_skip
  | ((with_reducible apply ev_var); exact rfl)
  | ((with_reducible apply ev_cons); walk_at "run"; walk_at "run")
  | ((with_reducible apply ev_call); walk_at "run"; with_reducible assumption)
  | ((with_reducible apply ev_tup); walk_at "run"; exact rfl)
  | ((with_reducible apply ev_lst); walk_at "run"; exact rfl)
  | ((with_reducible apply ev_frz); walk_at "run")
  | ((with_reducible apply ev_cat); walk_at "run"; walk_at "run"; exact rfl)
  | ((with_reducible apply ev_bin); walk_at "run"; walk_at "run"; first
      | (with_reducible assumption) | with_reducible exact ixE0 _ | with_reducible exact ixE1 _ | with_reducible exact ixR0 _ | with_reducible exact ixF0 _ | with_reducible exact ixF1 _ | with_reducible exact ixl0 _ _ | with_reducible exact ixl1 _ _ _ | with_reducible exact ixl2 _ _ _ _ | (with_reducible exact mulD_ii (by assumption)))
  | ((with_reducible apply ev_un); walk_at "run"; with_reducible exact negD_i _)
  | ((with_reducible apply ev_args); walk_at "run"; with_reducible exact tuple_l _)
  | ((with_reducible apply ev_test); walk_at "run")
  | ((with_reducible apply e_seq); walk_at "run"; walk_at "run")
  | ((with_reducible apply e_set); walk_at "run"; exact rfl)
  | ((with_reducible apply e_setL); walk_at "run"; exact rfl)
  | ((with_reducible apply e_par); walk_at "run"; exact rfl; exact rfl)
  | ((with_reducible apply e_frz); exact rfl; walk_at "run")
  | ((with_reducible apply e_app); exact rfl; walk_at "run"; exact rfl)
  | ((with_reducible apply e_ret); walk_at "run"))

theorem row_cmp (a b c d : Int) : neV (.tup [.int a, .int b, .int c, .int d]) (.tup [.int 0, .int 0, .int 0, .int 0]) = some (.bl (!(decide (a = 0) && (decide (b = 0) && (decide (c = 0) && (decide (d = 0) && true)))))) := by
  have s1 : SeqAt.shaped (.tuple [.int a, .int b, .int c, .int d]) = true := rfl
  have s2 : SeqAt.shaped (.tuple [.int 0, .int 0, .int 0, .int 0]) = true := rfl
  have e : PyData.eqv (.tuple [.int a, .int b, .int c, .int d]) (.tuple [.int 0, .int 0, .int 0, .int 0]) = (decide (a = 0) && (decide (b = 0) && (decide (c = 0) && (decide (d = 0) && true)))) := by
    simp only [PyData.eqv, PyData.eqvAll, Bool.beq_eq_decide_eq]
  show (eqP (.tup [.int a, .int b, .int c, .int d]) (.tup [.int 0, .int 0, .int 0, .int 0])).map _ = _
  have e2 : eqP (.tup [.int a, .int b, .int c, .int d]) (.tup [.int 0, .int 0, .int 0, .int 0]) = some (decide (a = 0) && (decide (b = 0) && (decide (c = 0) && (decide (d = 0) && true)))) := by
    show (if SeqAt.shaped (.tuple [.int a, .int b, .int c, .int d]) = true ∧ SeqAt.shaped (.tuple [.int 0, .int 0, .int 0, .int 0]) = true then some (PyData.eqv (.tuple [.int a, .int b, .int c, .int d]) (.tuple [.int 0, .int 0, .int 0, .int 0])) else none) = _
    rw [if_pos ⟨s1, s2⟩, e]
  rw [e2]
  rfl
theorem ne_row (r : R4) (h : r ≠ ⟨0, 0, 0, 0⟩) : neV (.tup (rA r)) (.tup [.int 0, .int 0, .int 0, .int 0]) = some (.bl true) := by
  obtain ⟨a, b, c, d⟩ := r
  show neV (.tup [.int a, .int b, .int c, .int d]) _ = _
  rw [row_cmp]
  by_cases ha : a = 0
  · by_cases hb : b = 0
    · by_cases hc : c = 0
      · by_cases hd : d = 0
        · exact absurd (by rw [ha, hb, hc, hd]) h
        · simp [hd]
      · simp [hc]
    · simp [hb]
  · simp [ha]
theorem eq_row : neV (.tup (rA ⟨0, 0, 0, 0⟩)) (.tup [.int 0, .int 0, .int 0, .int 0]) = some (.bl false) := by
  show neV (.tup [.int 0, .int 0, .int 0, .int 0]) _ = _
  rw [row_cmp]
  rfl
def PL (d : D) : Prop := ∃ l : List D, d = .lst (l.map pr) ∧ l.length ≤ 30 ∧ ∀ e ∈ l, Sm e
theorem bd2 : Bd 64 2 := Bd.lit (by decide)
theorem m4 {n : Nat} {x : E4} (h : BdE n x) (e : n ≤ 4000) : BdE 4000 x := h.mono e
theorem roots_ok {q p : Int} {x : E4} {s : S} (hq0 : 0 < q) (hp0 : 0 < p) (hq : Bd 10 q) (hp : Bd 10 p) (hx : Nm x) (bx : BdE 150 x) : ∃ d, PL d ∧ G__law_roots [.tup [.int q, .int p], eD x] s = some (d, s) := by
  have b4 := m4 bx (by decide)
  have tx := turnE_nm hx
  have btx := m4 (turnE_bd bx) (by decide)
  have mx := mulE_nm (q := q) (p := p) hx hx
  have bmx := mulE_bd hq hp hx hx bx bx
  have nF := nrF_nm (q := q) (p := p) hx
  have tF := trF_nm hx
  have btF := trF_bd hx bx
  have ox := oftE_nm (t := (trF x).1) hx tF.ne
  have box := oftE_bd hx tF.ne bx btF.1 btF.2
  have f2 : Fits 2 x.1.a := Fits.of bd2 bx.1.1 (by decide)
  have h1 : G__law_fraction [.int (2 * x.1.a), .int x.2] s = some (fD (trF x), s) := lfraction_eq hx.ne (bx.2.mono (by decide))
  have h2 := lworth_eq (s := s) hx b4 hq hp
  have h3 := lmul_eq (s := s) hx b4 hx b4 hq hp
  have h4 := trace_eq (s := s) hx b4
  have h5 := by_eq (s := s) hx b4 hx b4 hq hp
  have h6 := turned_eq (s := s) hx b4
  have h7 : G_by [.tup [.int q, .int p], eD x, eD (turnE x)] s = some (eD (flatE (nrF q p x)), s) := by rw [by_eq hx b4 tx btx hq hp, r_norm hx]
  have h8 : G_plus [eD x, eD (turnE x)] s = some (eD (flatE (trF x)), s) := by rw [plus_eq hx b4 tx btx, r_trace hx]
  have h9 := often_eq (s := s) hx b4 (btF.1.mono (by decide)) (btF.2.mono (by decide)) tF.ne
  have h10 : G_less [eD (oftE x (trF x).1 (trF x).2), eD (mulE q p x x)] s = some (eD (flatE (nrF q p x)), s) := by rw [less_eq ox (box.mono (by decide)) mx (bmx.mono (by decide)), r_quad hx]
  unfold G__law_roots den__law_roots
  by_cases hr : x.1 = ⟨0, 0, 0, 0⟩
  · have hne : neV (.tup (rA x.1)) (.tup [.int 0, .int 0, .int 0, .int 0]) = some (.bl false) := by rw [hr]; exact eq_row
    refine ⟨.lst ([fD (trF x), eD (mulE q p x x), eD (flatE (nrF q p x)), eD (flatE (trF x)), eD (flatE (nrF q p x))].map pr), ⟨_, rfl, Nat.le_of_ble_eq_true rfl, by simp [sm_e, sm_f]⟩, ?_⟩
    apply e_def'
    · apply e_seq
      walk_at "run"
      apply e_seq
      walk_at "run"
      apply e_seq
      walk_at "run"
      apply e_seq
      walk_at "run"
      apply e_seq
      apply e_iff
      walk_at "run"
      walk_at "run"
      walk_at "run"
    · rfl
  · have hne := ne_row x.1 hr
    have hn0 := nrm_pos hq0 hp0 hr
    have hn : nrm q p x.1 ≠ 0 := by omega
    have kx := backE_nm (x := x) hn
    have bkx := backE_bd hq hp hn bx
    have k4 := m4 bkx (by decide)
    have hnb := nrm_back hx hn
    have hnt : nrm q p (turnE x).1 ≠ 0 := by
      have e : nrm q p (turnE x).1 = nrm q p x.1 := by
        show nrm q p (turnR x.1) = _
        simp only [nrm, turnR]
        grind
      rw [e]; exact hn
    have g1 := lback_eq (s := s) hx b4 hq hp hn
    have g2 := back_eq (s := s) hx b4 hq hp hn
    have g3 : G_by [.tup [.int q, .int p], eD x, eD (backE q p x)] s = some (eD (⟨1, 0, 0, 0⟩, 1), s) := by rw [by_eq hx b4 kx k4 hq hp, b_right hx hn]
    have g4 : G_by [.tup [.int q, .int p], eD (backE q p x), eD x] s = some (eD (⟨1, 0, 0, 0⟩, 1), s) := by rw [by_eq kx k4 hx b4 hq hp, b_left hx hn]
    have g5' : G_back [.tup [.int q, .int p], eD (backE q p x)] s = some (eD x, s) := by rw [back_eq kx k4 hq hp hnb, b_back hx hn]
    have g6 : G_norm [.tup [.int q, .int p], eD (backE q p x)] s = some (fD ((nrF q p x).2, (nrF q p x).1), s) := by rw [norm_eq kx k4 hq hp, b_norm hx hn hn0]
    have g7 : G_back [.tup [.int q, .int p], eD (turnE x)] s = some (eD (turnE (backE q p x)), s) := by rw [back_eq tx btx hq hp hnt, b_turn hx hn]
    have g8 := lround_eq (s := s) kx k4
    refine ⟨.lst ([fD (trF x), eD (mulE q p x x), eD (flatE (nrF q p x)), eD (flatE (trF x)), eD (flatE (nrF q p x)), eD (backE q p x), eD (⟨1, 0, 0, 0⟩, 1), eD (⟨1, 0, 0, 0⟩, 1), eD x, fD ((nrF q p x).2, (nrF q p x).1), eD (turnE (backE q p x))].map pr), ⟨_, rfl, Nat.le_of_ble_eq_true rfl, by simp [sm_e, sm_f]⟩, ?_⟩
    apply e_def'
    · apply e_seq
      walk_at "run"
      apply e_seq
      walk_at "run"
      apply e_seq
      walk_at "run"
      apply e_seq
      walk_at "run"
      apply e_seq
      apply e_ift
      walk_at "run"
      walk_at "run"
      walk_at "run"
    · rfl
end Mp

set_option Elab.async false
set_option linter.all false
set_option maxRecDepth 100000
set_option maxHeartbeats 4000000
/-! K03s: what the defs answer, more -/
namespace Mp
open PySem L2
local macro_rules | `(tactic| walk_at "bd") => `(tactic| first
  | (with_reducible assumption)
  | ((with_reducible apply Bd.mul) <;> walk_at "bd")
  | ((with_reducible apply Bd.add) <;> walk_at "bd")
  | ((with_reducible apply Bd.sub) <;> walk_at "bd")
  | ((with_reducible apply Bd.neg) <;> walk_at "bd")
  | exact Bd.lit (by decide))
local macro_rules | `(tactic| walk_at "fits") => `(tactic| (apply Fits.of; (walk_at "bd"); (walk_at "bd"); decide))
local macro_rules | `(tactic| walk_at "run") => `(tactic| first
  | with_reducible exact ev_nil
  | with_reducible exact ev_c
  | with_reducible exact e_skip
  | ((with_reducible apply ev_var); exact rfl)
  | ((with_reducible apply ev_cons); walk_at "run"; walk_at "run")
  | ((with_reducible apply ev_call); walk_at "run"; with_reducible assumption)
  | ((with_reducible apply ev_tup); walk_at "run"; exact rfl)
  | ((with_reducible apply ev_lst); walk_at "run"; exact rfl)
  | ((with_reducible apply ev_frz); walk_at "run")
  | ((with_reducible apply ev_cat); walk_at "run"; walk_at "run"; exact rfl)
  | ((with_reducible apply ev_bin); walk_at "run"; walk_at "run"; first
      | (with_reducible assumption) | with_reducible exact ixE0 _ | with_reducible exact ixE1 _ | with_reducible exact ixR0 _ | with_reducible exact ixF0 _ | with_reducible exact ixF1 _ | with_reducible exact ixl0 _ _ | with_reducible exact ixl1 _ _ _ | with_reducible exact ixl2 _ _ _ _ | (with_reducible exact mulD_ii (by assumption)))
  | ((with_reducible apply ev_un); walk_at "run"; with_reducible exact negD_i _)
  | ((with_reducible apply ev_args); walk_at "run"; with_reducible exact tuple_l _)
  | ((with_reducible apply ev_test); walk_at "run")
  | ((with_reducible apply e_seq); walk_at "run"; walk_at "run")
  | ((with_reducible apply e_set); walk_at "run"; exact rfl)
  | ((with_reducible apply e_setL); walk_at "run"; exact rfl)
  | ((with_reducible apply e_par); walk_at "run"; exact rfl; exact rfl)
  | ((with_reducible apply e_frz); exact rfl; walk_at "run")
  | ((with_reducible apply e_app); exact rfl; walk_at "run"; exact rfl)
  | ((with_reducible apply e_ret); walk_at "run"))


/-- the norms' list -/
theorem norms_eq {q p : Int} {x y z : E4} {s : S} (e : Env) (he : e[0]? = some (some (.tup [.int q, .int p]))) (hl : 9 < e.length) (he1 : e[1]? = some (some (eD x))) (he2 : e[2]? = some (some (eD y))) (he3 : e[3]? = some (some (eD z))) (h1 : G__law_worth_of [.tup [.int q, .int p], eD x] s = some (fD (nrF q p x), s)) (h2 : G__law_worth_of [.tup [.int q, .int p], eD y] s = some (fD (nrF q p y), s)) (h3 : G__law_worth_of [.tup [.int q, .int p], eD z] s = some (fD (nrF q p z), s)) :
    dComp (dItems (dTup (dCons (dVar 1) (dCons (dVar 2) (dCons (dVar 3) dNil))))) [9] (gN 9) dYes (dCall G__law_worth_of (dCons (dVar 0) (dCons (dVar 9) dNil))) e s = some ([fD (nrF q p x), fD (nrF q p y), fD (nrF q p z)], s) := by
  have hi : dItems (dTup (dCons (dVar 1) (dCons (dVar 2) (dCons (dVar 3) dNil)))) e s = some ([eD x, eD y, eD z], s) :=
    ev_items (ev_tup (ev_cons (ev_var he1) (ev_cons (ev_var he2) (ev_cons (ev_var he3) ev_nil))) rfl)
  have he0 : (e.set 9 none)[0]? = some (some (.tup [.int q, .int p])) := by rw [List.getElem?_set_ne (by decide)]; exact he
  have step : ∀ (u w : D) (l m : List D), G__law_worth_of [.tup [.int q, .int p], u] s = some (w, s) → compLoop (gN 9) dYes (dCall G__law_worth_of (dCons (dVar 0) (dCons (dVar 9) dNil))) (e.set 9 none) l s = some (m, s) → compLoop (gN 9) dYes (dCall G__law_worth_of (dCons (dVar 0) (dCons (dVar 9) dNil))) (e.set 9 none) (u :: l) s = some (w :: m, s) := by
    intro u w l m hu hm
    have hlen : 9 < (toRho (e.set 9 none)).length := by unfold toRho; rw [List.length_map, List.length_set]; exact hl
    have hv9 : (hide ((toRho (e.set 9 none)).set 9 (.v u)))[9]? = some (some u) := by
      unfold hide
      rw [List.getElem?_map, List.getElem?_set_self hlen]
      rfl
    have hv0 : (hide ((toRho (e.set 9 none)).set 9 (.v u)))[0]? = some (some (.tup [.int q, .int p])) := by
      unfold hide toRho
      rw [List.getElem?_map, List.getElem?_set_ne (by decide), List.getElem?_map, he0]
      rfl
    have hc := ev_call (s := s) (ev_cons (ev_var hv0) (ev_cons (ev_var hv9) ev_nil)) hu
    unfold compLoop
    rw [show gN 9 u (toRho (e.set 9 none)) = some ((toRho (e.set 9 none)).set 9 (.v u)) from if_pos hlen]
    show bnd (dCall _ _ _ s) _ = _
    rw [hc]
    show bnd (compLoop _ _ _ _ _ s) _ = _
    rw [hm]
    rfl
  unfold dComp
  rw [hi]
  show (if [eD x, eD y, eD z].length ≤ lim then _ else none) = _
  rw [if_pos (by show 3 ≤ lim; decide)]
  exact step _ _ _ _ h1 (step _ _ _ _ h2 (step _ _ _ _ h3 rfl))
theorem products_ok {q p : Int} {x y z : E4} {s : S} (hq : Bd 10 q) (hp : Bd 10 p) (hx : Nm x) (bx : BdE 150 x) (hy : Nm y) (by_ : BdE 150 y) (hz : Nm z) (bz : BdE 150 z) : ∃ d, PL d ∧ G__law_products [.tup [.int q, .int p], eD x, eD y, eD z] s = some (d, s) := by
  have bx4 := m4 bx (by decide)
  have by4 := m4 by_ (by decide)
  have bz4 := m4 bz (by decide)
  have nxy := mulE_nm (q := q) (p := p) hx hy
  have nyx := mulE_nm (q := q) (p := p) hy hx
  have nxz := mulE_nm (q := q) (p := p) hx hz
  have nyz := mulE_nm (q := q) (p := p) hy hz
  have bxy := mulE_bd hq hp hx hy bx by_
  have byx := mulE_bd hq hp hy hx by_ bx
  have bxz := mulE_bd hq hp hx hz bx bz
  have byz := mulE_bd hq hp hy hz by_ bz
  have bxy4 := m4 bxy (by decide)
  have byx4 := m4 byx (by decide)
  have bxz4 := m4 bxz (by decide)
  have byz4 := m4 byz (by decide)
  have na := mulE_nm (q := q) (p := p) nxy hz
  have ba4 := m4 (mulE_bd hq hp nxy hz bxy (bz.mono (by decide))) (by decide)
  have tx := turnE_nm hx
  have ty := turnE_nm hy
  have tz := turnE_nm hz
  have btx := m4 (turnE_bd bx) (by decide)
  have bty := m4 (turnE_bd by_) (by decide)
  have btz := m4 (turnE_bd bz) (by decide)
  have npl := addE_nm hy hz
  have bpl := m4 (addE_bd hy hz by_ bz) (by decide)
  have nls := lessE_nm hx hy
  have bls := m4 (lessE_bd hx hy bx by_) (by decide)
  have one : Bd 10 1 := (by decide : (1 : Int).natAbs < 2 ^ 10)
  have mone : Bd 10 (-1) := (by decide : (-1 : Int).natAbs < 2 ^ 10)
  have fx := nrF_nm (q := q) (p := p) hx
  have fy := nrF_nm (q := q) (p := p) hy
  have fz := nrF_nm (q := q) (p := p) hz
  have bfx := nrF_bd hq hp hx bx
  have bfy := nrF_bd hq hp hy by_
  have bfz := nrF_bd hq hp hz bz
  have i1 := lmul_eq (s := s) hx bx4 hy by4 hq hp
  have i2 := lmul_eq (s := s) hy by4 hx bx4 hq hp
  have i3 := lmul_eq (s := s) nxy bxy4 hz bz4 hq hp
  have i4 := by_eq (s := s) hx bx4 hy by4 hq hp
  have i5 := by_eq (s := s) hy by4 hx bx4 hq hp
  have i6 := by_eq (s := s) nxy bxy4 hz bz4 hq hp
  have i7 := by_eq (s := s) hy by4 hz bz4 hq hp
  have i8 : G_by [.tup [.int q, .int p], eD x, eD (mulE q p y z)] s = some (eD (mulE q p (mulE q p x y) z), s) := by rw [by_eq hx bx4 nyz byz4 hq hp, p_assoc hx hy hz]
  have i9 := plus_eq (s := s) hy by4 hz bz4
  have i10 := lmul_eq (s := s) hx bx4 hz bz4 hq hp
  have i11 : G_by [.tup [.int q, .int p], eD x, eD (addE y z)] s = some (eD (joinE (mulE q p x y) (mulE q p x z) 1), s) := by rw [by_eq hx bx4 npl bpl hq hp, p_dist hx hy hz]
  have i12 := ljoined_eq (s := s) nxy bxy4 nxz bxz4 one
  have i13 := less_eq (s := s) hx (bx.mono (by decide)) hy (by_.mono (by decide))
  have i14 : G_by [.tup [.int q, .int p], eD (lessE x y), eD z] s = some (eD (joinE (mulE q p x z) (mulE q p y z) (-1)), s) := by rw [by_eq nls bls hz bz4 hq hp, p_less hx hy hz]
  have i15 := lmul_eq (s := s) hy by4 hz bz4 hq hp
  have i16 := ljoined_eq (s := s) nxz bxz4 nyz byz4 mone
  have i17 := turned_eq (s := s) nxy bxy4
  have i18 := lround_eq (s := s) hx bx4
  have i19 := lround_eq (s := s) hy by4
  have i20 : G__law_mul [.tup [.int q, .int p], eD (turnE y), eD (turnE x)] s = some (eD (turnE (mulE q p x y)), s) := by rw [lmul_eq ty bty tx btx hq hp, p_turn hx hy]
  have i21 := turned_eq (s := s) hx bx4
  have i22 := turned_eq (s := s) hy by4
  have i23 : G_by [.tup [.int q, .int p], eD (turnE y), eD (turnE x)] s = some (eD (turnE (mulE q p x y)), s) := by rw [by_eq ty bty tx btx hq hp, p_turn hx hy]
  have i24 := lround_eq (s := s) nxy bxy4
  have j1 := lworth_eq (s := s) hx bx4 hq hp
  have j2 := lworth_eq (s := s) hy by4 hq hp
  have j3 := lworth_eq (s := s) hz bz4 hq hp
  have j4 := norm_eq (s := s) hx bx4 hq hp
  have j5 := norm_eq (s := s) hy by4 hq hp
  have j6 := turned_eq (s := s) hz bz4
  have j7 : G_norm [.tup [.int q, .int p], eD (turnE z)] s = some (fD (nrF q p z), s) := by rw [norm_eq tz btz hq hp, n_turn hz]
  have j8 := norm_eq (s := s) nxy bxy4 hq hp
  have j9 := norm_eq (s := s) na ba4 hq hp
  have f1 : Fits (nrF q p x).1 (nrF q p y).1 := Fits.of bfx.1 bfy.1 (by decide)
  have f2 : Fits (nrF q p x).2 (nrF q p y).2 := Fits.of bfx.2 bfy.2 (by decide)
  have f3 : Fits ((nrF q p x).1 * (nrF q p y).1) (nrF q p z).1 := Fits.of (bfx.1.mul bfy.1) bfz.1 (by decide)
  have f4 : Fits ((nrF q p x).2 * (nrF q p y).2) (nrF q p z).2 := Fits.of (bfx.2.mul bfy.2) bfz.2 (by decide)
  have f5 : Fits 2 (mulE q p y x).1.a := Fits.of bd2 byx4.1.1 (by decide)
  have j10 : G__law_fraction [.int ((nrF q p x).1 * (nrF q p y).1), .int ((nrF q p x).2 * (nrF q p y).2)] s = some (fD (nrF q p (mulE q p x y)), s) := by
    rw [lfraction_eq (Int.mul_ne_zero fx.ne fy.ne) ((bfx.2.mul bfy.2).mono (by decide)), p_norm hx hy]
  have j11 : G__law_fraction [.int ((nrF q p x).1 * (nrF q p y).1 * (nrF q p z).1), .int ((nrF q p x).2 * (nrF q p y).2 * (nrF q p z).2)] s = some (fD (nrF q p (mulE q p (mulE q p x y) z)), s) := by
    rw [lfraction_eq (Int.mul_ne_zero (Int.mul_ne_zero fx.ne fy.ne) fz.ne) (((bfx.2.mul bfy.2).mul bfz.2).mono (by decide)), p_norm3 hx hy hz]
  have j12 : G_trace [eD (mulE q p x y)] s = some (fD (trF (mulE q p x y)), s) := trace_eq nxy bxy4
  have j13 : G__law_fraction [.int (2 * (mulE q p y x).1.a), .int (mulE q p y x).2] s = some (fD (trF (mulE q p x y)), s) := by
    rw [lfraction_eq nyx.ne (byx4.2.mono (by decide)), p_trace hx hy]; rfl
  have j14 : G_trace [eD (mulE q p y x)] s = some (fD (trF (mulE q p x y)), s) := by rw [trace_eq nyx byx4, p_trace hx hy]
  unfold G__law_products
  refine ⟨.lst ([eD (mulE q p x y), eD (mulE q p y x), eD (mulE q p (mulE q p x y) z), eD (mulE q p (mulE q p x y) z), eD (joinE (mulE q p x y) (mulE q p x z) 1), eD (joinE (mulE q p x z) (mulE q p y z) (-1)), eD (turnE (mulE q p x y)), eD (turnE (mulE q p x y)), fD (nrF q p x), fD (nrF q p y), fD (nrF q p z), fD (nrF q p (mulE q p x y)), fD (nrF q p (mulE q p (mulE q p x y) z)), fD (trF (mulE q p x y)), fD (trF (mulE q p x y))].map pr), ⟨_, rfl, Nat.le_of_ble_eq_true rfl, by simp [sm_e, sm_f]⟩, ?_⟩
  apply e_def'
  · show den__law_products [Sl.v (.tup [.int q, .int p]), Sl.v (eD x), Sl.v (eD y), Sl.v (eD z), Sl.none, Sl.none, Sl.none, Sl.none, Sl.none, Sl.none] s = _
    unfold den__law_products
    apply e_seq
    walk_at "run"
    dsimp only [List.set]
    apply e_seq
    walk_at "run"
    dsimp only [List.set]
    apply e_seq
    walk_at "run"
    dsimp only [List.set]
    apply e_frz
    exact rfl
    dsimp only [List.set]
    apply e_seq
    walk_at "run"
    dsimp only [List.set]
    apply e_frz
    exact rfl
    dsimp only [List.set]
    apply e_seq
    walk_at "run"
    dsimp only [List.set]
    apply e_frz
    exact rfl
    dsimp only [List.set]
    apply e_seq
    walk_at "run"
    dsimp only [List.set]
    apply e_seq
    · apply e_setL
      exact norms_eq _ rfl (Nat.le_of_ble_eq_true rfl) rfl rfl rfl j1 j2 j3
      exact rfl
    dsimp only [List.set]
    apply e_frz
    exact rfl
    dsimp only [List.set]
    apply e_frz
    exact rfl
    dsimp only [List.set]
    apply e_seq
    walk_at "run"
    dsimp only [List.set]
    apply e_seq
    walk_at "run"
    dsimp only [List.set]
    apply e_seq
    walk_at "run"
    dsimp only [List.set]
    walk_at "run"
  · rfl
end Mp

set_option Elab.async false
set_option linter.all false
set_option maxRecDepth 100000
set_option maxHeartbeats 4000000
/-! K03t: what the defs answer, more -/
namespace Mp
open PySem L2
local macro_rules | `(tactic| walk_at "bd") => `(tactic| first
  | (with_reducible assumption)
  | ((with_reducible apply Bd.mul) <;> walk_at "bd")
  | ((with_reducible apply Bd.add) <;> walk_at "bd")
  | ((with_reducible apply Bd.sub) <;> walk_at "bd")
  | ((with_reducible apply Bd.neg) <;> walk_at "bd")
  | exact Bd.lit (by decide))
local macro_rules | `(tactic| walk_at "fits") => `(tactic| (apply Fits.of; (walk_at "bd"); (walk_at "bd"); decide))
local macro_rules | `(tactic| walk_at "run") => `(tactic| first
  | with_reducible exact ev_nil
  | with_reducible exact ev_c
  | with_reducible exact e_skip
  | ((with_reducible apply ev_var); exact rfl)
  | ((with_reducible apply ev_cons); walk_at "run"; walk_at "run")
  | ((with_reducible apply ev_call); walk_at "run"; with_reducible assumption)
  | ((with_reducible apply ev_tup); walk_at "run"; exact rfl)
  | ((with_reducible apply ev_lst); walk_at "run"; exact rfl)
  | ((with_reducible apply ev_frz); walk_at "run")
  | ((with_reducible apply ev_cat); walk_at "run"; walk_at "run"; exact rfl)
  | ((with_reducible apply ev_bin); walk_at "run"; walk_at "run"; first
      | (with_reducible assumption) | with_reducible exact ixE0 _ | with_reducible exact ixE1 _ | with_reducible exact ixR0 _ | with_reducible exact ixF0 _ | with_reducible exact ixF1 _ | with_reducible exact ixl0 _ _ | with_reducible exact ixl1 _ _ _ | with_reducible exact ixl2 _ _ _ _ | (with_reducible exact mulD_ii (by assumption)))
  | ((with_reducible apply ev_un); walk_at "run"; with_reducible exact negD_i _)
  | ((with_reducible apply ev_args); walk_at "run"; with_reducible exact tuple_l _)
  | ((with_reducible apply ev_test); walk_at "run")
  | ((with_reducible apply e_seq); walk_at "run"; walk_at "run")
  | ((with_reducible apply e_set); walk_at "run"; exact rfl)
  | ((with_reducible apply e_setL); walk_at "run"; exact rfl)
  | ((with_reducible apply e_par); walk_at "run"; exact rfl; exact rfl)
  | ((with_reducible apply e_frz); exact rfl; walk_at "run")
  | ((with_reducible apply e_app); exact rfl; walk_at "run"; exact rfl)
  | ((with_reducible apply e_ret); walk_at "run"))

theorem e_rt' {f : DS} {ρ : Rho} {s : S} {d d' : D} (h : f ρ s = some (Out.rt d, s)) (e : d = d') : f ρ s = some (Out.rt d', s) := e ▸ h

theorem k_seq {f g : DS} {ρ : Rho} {s : S} {Q : Out → S → Prop} (R : Rho → S → Prop) (h : ok (f ρ s) fun o s1 => ∃ ρ1, o = Out.nx ρ1 ∧ R ρ1 s1) (k : ∀ ρ1 s1, R ρ1 s1 → ok (g ρ1 s1) Q) : ok (dSeq f g ρ s) Q := by
  rw [ap_dSeq, ok_bnd]
  refine ok_imp h ?_
  rintro _ s1 ⟨ρ1, rfl, hr⟩
  exact k ρ1 s1 hr
theorem sums_tail {q p h l z w : Int} {r : R4} {x y : E4} {s : S} (hx : Nm x) (bx : BdE 150 x) (hy : Nm y) (by_ : BdE 150 y) (bh : Bd 140 h) (hl : l ≠ 0) (bl : Bd 140 l) (hr : BdR 140 r) (hz : 0 < z) (bz : Bd 140 z) (hw : 0 < w) (bw : Bd 140 w) : ∃ d, PL d ∧ dSeq (dSet 4 (dArgs (g1 tupleD) (dCons (dCall G__law_times (dCons (dVar 7) (dCons (dVar 8) dNil))) dNil))) (dSeq (dSet 5 (dFrz (dLst (dCons (dTup (dCons (dCall G_plus (dCons (dVar 1) (dCons (dVar 2) dNil))) (dCons (dCall G__law_joined (dCons (dVar 1) (dCons (dVar 2) (dCons (dC (.int 1)) dNil)))) dNil))) (dCons (dTup (dCons (dCall G_less (dCons (dVar 1) (dCons (dVar 2) dNil))) (dCons (dCall G__law_joined (dCons (dVar 1) (dCons (dVar 2) (dCons (dUn negD (dC (.int 1))) dNil)))) dNil))) (dCons (dTup (dCons (dCall G_plus (dCons (dVar 2) (dCons (dVar 1) dNil))) (dCons (dCall G__law_joined (dCons (dVar 1) (dCons (dVar 2) (dCons (dC (.int 1)) dNil)))) dNil))) dNil))))))
  (dSeq (dSet 5 (dFrz (lBin catL (dVar 5) (dFrz (dLst (dCons (dTup (dCons (dCall G_often (dCons (dVar 1) (dCons (dVar 6) (dCons (dVar 3) dNil)))) (dCons (dCall G__law_over (dCons (dVar 1) (dCons (dVar 6) (dCons (dVar 3) dNil)))) dNil))) (dCons (dTup (dCons (dCall G_often (dCons (dVar 2) (dCons (dVar 6) (dCons (dVar 3) dNil)))) (dCons (dCall G__law_over (dCons (dVar 2) (dCons (dVar 6) (dCons (dVar 3) dNil)))) dNil))) (dCons (dTup (dCons (dCall G_turned (dCons (dVar 1) dNil)) (dCons (dCall G__law_round (dCons (dVar 1) dNil)) dNil))) dNil))))))))
  (dSeq (dSet 5 (dFrz (lBin catL (dVar 5) (dFrz (dLst (dCons (dTup (dCons (dCall G_trace (dCons (dVar 1) dNil)) (dCons (dCall G__law_fraction (dCons (dBin mulD (dC (.int 2)) (dBin ixD (dBin ixD (dVar 1) (dC (.int 0))) (dC (.int 0)))) (dCons (dBin ixD (dVar 1) (dC (.int 1))) dNil))) dNil))) (dCons (dTup (dCons (dCall G_trace (dCons (dVar 2) dNil)) (dCons (dCall G__law_fraction (dCons (dBin mulD (dC (.int 2)) (dBin ixD (dBin ixD (dVar 2) (dC (.int 0))) (dC (.int 0)))) (dCons (dBin ixD (dVar 2) (dC (.int 1))) dNil))) dNil))) dNil)))))))
  (dSeq (dSet 5 (dFrz (lBin catL (dVar 5) (dFrz (dLst (dCons (dTup (dCons (dCall G_element (dCons (dVar 4) (dCons (dVar 8) dNil))) (dCons (dTup (dCons (dArgs (g1 tupleD) (dCons (dVar 7) dNil)) (dCons (dC (.int 1)) dNil))) dNil))) (dCons (dTup (dCons (dCall G_element (dCons (dVar 4) (dCons (dBin mulD (dUn negD (dVar 8)) (dVar 9)) dNil))) (dCons (dCall G__law_lowest (dCons (dVar 7) (dCons (dUn negD (dVar 9)) dNil))) dNil))) (dCons (dTup (dCons (dCall G_element (dCons (dArgs (g1 tupleD) (dCons (dVar 7) dNil)) (dCons (dVar 3) dNil))) (dCons (dCall G__law_lowest (dCons (dVar 7) (dCons (dVar 3) dNil))) dNil))) dNil))))))))
  (dSeq (dSet 5 (dFrz (lBin catL (dVar 5) (dFrz (dLst (dCons (dTup (dCons (dCall G_whole (dCons (dVar 6) dNil)) (dCons (dTup (dCons (dTup (dCons (dVar 6) (dCons (dC (.int 0)) (dCons (dC (.int 0)) (dCons (dC (.int 0)) dNil))))) (dCons (dC (.int 1)) dNil))) dNil))) (dCons (dTup (dCons (dCall G_less (dCons (dVar 1) (dCons (dVar 1) dNil))) (dCons (dTup (dCons (dTup (dCons (dC (.int 0)) (dCons (dC (.int 0)) (dCons (dC (.int 0)) (dCons (dC (.int 0)) dNil))))) (dCons (dC (.int 1)) dNil))) dNil))) (dCons (dTup (dCons (dCall G_plus (dCons (dVar 1) (dCons (dVar 1) dNil))) (dCons (dCall G__law_over (dCons (dVar 1) (dCons (dC (.int 2)) (dCons (dC (.int 1)) dNil)))) dNil))) dNil))))))))
  (dRet (dFrz (lBin catL (dVar 5) (dFrz (dLst (dCons (dTup (dCons (dCall G_often (dCons (dVar 1) (dCons (dC (.int 0)) (dCons (dVar 3) dNil)))) (dCons (dTup (dCons (dTup (dCons (dC (.int 0)) (dCons (dC (.int 0)) (dCons (dC (.int 0)) (dCons (dC (.int 0)) dNil))))) (dCons (dC (.int 1)) dNil))) dNil))) (dCons (dTup (dCons (dCall G_less (dCons (dVar 2) (dCons (dVar 1) dNil))) (dCons (dCall G__law_joined (dCons (dVar 2) (dCons (dVar 1) (dCons (dUn negD (dC (.int 1))) dNil)))) dNil))) dNil)))))))))))) [Sl.v .deal, Sl.v (eD x), Sl.v (eD y), Sl.v (.int l), Sl.none, Sl.none, Sl.v (.int h), Sl.v (.lst (rA r)), Sl.v (.int z), Sl.v (.int w)] s = some (Out.rt d, s) := by
  have bx4 := m4 bx (by decide)
  have by4 := m4 by_ (by decide)
  have one : Bd 10 1 := (by decide : (1 : Int).natAbs < 2 ^ 10)
  have mone : Bd 10 (-1) := (by decide : (-1 : Int).natAbs < 2 ^ 10)
  have two : Bd 10 2 := (by decide : (2 : Int).natAbs < 2 ^ 10)
  have zero : Bd 10 0 := (by decide : (0 : Int).natAbs < 2 ^ 10)
  have i1 := ltimes_l (r := r) (k := z) (s := s) (hr.mono (by decide)) (bz.mono (by decide))
  have i2 : G_plus [eD x, eD y] s = some (eD (joinE x y 1), s) := by rw [plus_eq hx bx4 hy by4, lw_plus hx hy]
  have i3 := ljoined_eq (s := s) hx bx4 hy by4 one
  have i4 : G_less [eD x, eD y] s = some (eD (joinE x y (-1)), s) := by rw [less_eq hx (bx.mono (by decide)) hy (by_.mono (by decide)), lw_less hx hy]
  have i5 := ljoined_eq (s := s) hx bx4 hy by4 mone
  have i6 : G_plus [eD y, eD x] s = some (eD (joinE x y 1), s) := by rw [plus_eq hy by4 hx bx4, lw_plus2 hx hy]
  have i7 := often_eq (s := s) hx bx4 (bh.mono (by decide : 140 ≤ 4000)) (bl.mono (by decide : 140 ≤ 4000)) hl
  have i8 := lover_eq (s := s) hx bx4 (bh.mono (by decide : 140 ≤ 4000)) (bl.mono (by decide : 140 ≤ 4000)) hl
  have i9 := often_eq (s := s) hy by4 (bh.mono (by decide : 140 ≤ 4000)) (bl.mono (by decide : 140 ≤ 4000)) hl
  have i10 := lover_eq (s := s) hy by4 (bh.mono (by decide : 140 ≤ 4000)) (bl.mono (by decide : 140 ≤ 4000)) hl
  have i11 := turned_eq (s := s) hx bx4
  have i12 := lround_eq (s := s) hx bx4
  have i13 := trace_eq (s := s) hx bx4
  have i14 : G__law_fraction [.int (2 * x.1.a), .int x.2] s = some (fD (trF x), s) := lfraction_eq hx.ne (bx.2.mono (by decide))
  have i15 := trace_eq (s := s) hy by4
  have i16 : G__law_fraction [.int (2 * y.1.a), .int y.2] s = some (fD (trF y), s) := lfraction_eq hy.ne (by_.2.mono (by decide))
  have f1 : Fits 2 x.1.a := Fits.of bd2 bx.1.1 (by decide)
  have f2 : Fits 2 y.1.a := Fits.of bd2 by_.1.1 (by decide)
  have f3 : Fits (-z) w := Fits.of bz.neg bw (by decide)
  have one_r : Nm (r, 1) := ⟨(by decide : (0 : Int) < 1), Nat.gcd_one_right _⟩
  have i17 : G_element [.tup (rA (r4s z r)), .int z] s = some (eD (r, 1), s) := by
    rw [element_t (by omega) (bz.mono (by decide))]
    have e := nf_scale hz r 1
    rw [Int.mul_one, nf_id one_r] at e
    rw [e]
  have hzw : -z * w ≠ 0 := Int.mul_ne_zero (by omega) (by omega)
  have i18 : G_element [.tup (rA (r4s z r)), .int (-z * w)] s = some (eD (nf r (-w)), s) := by
    rw [element_t hzw ((bz.neg.mul bw).mono (by decide))]
    have e := nf_scale hz r (-w)
    rw [show z * -w = -z * w from by grind] at e
    rw [e]
  have i19 : G__law_lowest [.lst (rA r), .int (-w)] s = some (eD (nf r (-w)), s) := lowest_l (by omega) (bw.neg.mono (by decide))
  have i20 : G_element [.tup (rA r), .int l] s = some (eD (nf r l), s) := element_t hl (bl.mono (by decide))
  have i21 : G__law_lowest [.lst (rA r), .int l] s = some (eD (nf r l), s) := lowest_l hl (bl.mono (by decide))
  have i22 : G_whole [.int h] s = some (eD (⟨h, 0, 0, 0⟩, 1), s) := rfl
  have i23 : G_less [eD x, eD x] s = some (eD (⟨0, 0, 0, 0⟩, 1), s) := by rw [less_eq hx (bx.mono (by decide)) hx (bx.mono (by decide)), l_flat_self hx]
  have i24 : G_plus [eD x, eD x] s = some (eD (oftE x 2 1), s) := by rw [plus_eq hx bx4 hx bx4, l_twice hx]
  have i25 := lover_eq (s := s) hx bx4 (two.mono (by decide : 10 ≤ 4000)) (one.mono (by decide : 10 ≤ 4000)) (by decide)
  have i26 : G_often [eD x, .int 0, .int l] s = some (eD (⟨0, 0, 0, 0⟩, 1), s) := by rw [often_eq hx bx4 (zero.mono (by decide : 10 ≤ 4000)) (bl.mono (by decide : 140 ≤ 4000)) hl, l_none hx hl]
  have i27 : G_less [eD y, eD x] s = some (eD (joinE y x (-1)), s) := by rw [less_eq hy (by_.mono (by decide)) hx (bx.mono (by decide)), lw_less hy hx]
  have i28 := ljoined_eq (s := s) hy by4 hx bx4 mone
  refine ⟨.lst ([eD (joinE x y 1), eD (joinE x y (-1)), eD (joinE x y 1), eD (oftE x h l), eD (oftE y h l), eD (turnE x), fD (trF x), fD (trF y), eD (r, 1), eD (nf r (-w)), eD (nf r l), eD (⟨h, 0, 0, 0⟩, 1), eD (⟨0, 0, 0, 0⟩, 1), eD (oftE x 2 1), eD (⟨0, 0, 0, 0⟩, 1), eD (joinE y x (-1))].map pr), ⟨_, rfl, Nat.le_of_ble_eq_true rfl, by simp [sm_e, sm_f]⟩, ?_⟩
  apply e_rt'
  · apply e_seq
    walk_at "run"
    dsimp only [List.set]
    apply e_seq
    walk_at "run"
    dsimp only [List.set]
    apply e_seq
    walk_at "run"
    dsimp only [List.set]
    apply e_seq
    walk_at "run"
    dsimp only [List.set]
    apply e_seq
    walk_at "run"
    dsimp only [List.set]
    apply e_seq
    walk_at "run"
    dsimp only [List.set]
    walk_at "run"
  · rfl
theorem sums_ok {x y : E4} {s : S} (hx : Nm x) (bx : BdE 150 x) (hy : Nm y) (by_ : BdE 150 y) (h : DI s) : ok (G__law_sums [.deal, eD x, eD y] s) fun d s' => PL d ∧ DI s' := by
  unfold G__law_sums
  rw [ok_def]
  show ok (den__law_sums [Sl.v .deal, Sl.v (eD x), Sl.v (eD y), Sl.none, Sl.none, Sl.none, Sl.none, Sl.none, Sl.none, Sl.none] s) _
  unfold den__law_sums
  refine k_seq (fun ρ1 s1 => ∃ h l, ρ1 = [Sl.v .deal, Sl.v (eD x), Sl.v (eD y), Sl.v (.int l), Sl.none, Sl.none, Sl.v (.int h), Sl.none, Sl.none, Sl.none] ∧ Bd 140 h ∧ Bd 140 l ∧ DI s1) ?_ ?_
  · simp [ok_bnd, ok_some, ok_lft, ap_dPar, ap_dCons, ap_dNil, ap_dCall, ap_dVar, ap_dFrz, ap_dLst, ap_dC, ap_dBin, pow10_40, hide, Sl.hide, lim]
    refine ok_imp (signed_ok (l := [3, 50, 10000000000000000000000000000000000000000]) (tall_of (by decide)) h) ?_
    rintro _ s1 ⟨u, rfl, hu, h1⟩
    refine ok_imp (signed_ok (l := [3, 50, 10000000000000000000000000000000000000000]) (tall_of (by decide)) h1) ?_
    rintro _ s2 ⟨v, rfl, hv, h2⟩
    exact ⟨u, v, ⟨rfl, rfl⟩, hu, hv, h2⟩
  rintro _ s1 ⟨u, v, rfl, hu, hv, h1⟩
  refine k_seq (fun ρ1 s1 => ∃ l, ρ1 = [Sl.v .deal, Sl.v (eD x), Sl.v (eD y), Sl.v (.int l), Sl.none, Sl.none, Sl.v (.int u), Sl.none, Sl.none, Sl.none] ∧ l ≠ 0 ∧ Bd 140 l ∧ DI s1) ?_ ?_
  · by_cases e : v = 0
    · subst e
      exact ⟨_, rfl, -1, rfl, by decide, (by decide : (-1 : Int).natAbs < 2 ^ 140), h1⟩
    · have ht : neV (.int v) (.int 0) = some (.bl true) := by rw [neV_ii]; simp [e]
      simp [ok_bnd, ok_some, ok_lft, ap_dSet, ap_dIf, ap_dTest, ap_dBin, ap_dVar, ap_dC, hide, Sl.hide, ht]
      exact ⟨e, hv, h1⟩
  rintro _ s2 ⟨l, rfl, hl, bl, h2⟩
  refine k_seq (fun ρ1 s1 => ∃ r z w, ρ1 = [Sl.v .deal, Sl.v (eD x), Sl.v (eD y), Sl.v (.int l), Sl.none, Sl.none, Sl.v (.int u), Sl.v (.lst (rA r)), Sl.v (.int z), Sl.v (.int w)] ∧ BdR 140 r ∧ (0 < z ∧ Bd 140 z) ∧ (0 < w ∧ Bd 140 w) ∧ DI s1) ?_ ?_
  · simp [ok_bnd, ok_some, ok_lft, ap_dPar3, ap_dCons, ap_dNil, ap_dCall, ap_dVar, ap_dFrz, ap_dLst, ap_dC, ap_dBin, pow10_20, pow10_19, hide, Sl.hide, lim]
    refine ok_imp (row_ok (l := [3, 100000000000000000000, 10000000000000000000]) (tall_of (by decide)) h2) ?_
    rintro _ s3 ⟨r, rfl, hr, h3⟩
    refine ok_imp (of_int (l := [2, 3, 10, 1009, 10000000000000000000]) (by decide) (by decide) h3) ?_
    rintro _ s4 ⟨z, hz, rfl, h4⟩
    have tz : Tall 1 [2, 3, 10, 1009, 10000000000000000000] := tall_of (by decide)
    have bz := tz.2.2 z hz
    refine ok_imp (of_int (l := [3, 100000000000000000000]) (by decide) (by decide) h4) ?_
    rintro _ s5 ⟨t, ht, rfl, h5⟩
    have tt : Tall 1 [3, 100000000000000000000] := tall_of (by decide)
    have bt := tt.2.2 t ht
    refine ok_imp (wide_ok bt.1 (bt.2.mono (by decide)) h5) ?_
    rintro _ s6 ⟨w, rfl, w0, w1, h6⟩
    rw [addD_ii]
    exact ⟨r, z, 1 + w, ⟨rfl, rfl, rfl⟩, hr, ⟨by omega, bz.2⟩, ⟨by omega, Bd.of_le (b := t) (by omega) (by omega) bt.2⟩, h6⟩
  rintro _ s3 ⟨r, z, w, rfl, hr, hz, hw, h3⟩
  obtain ⟨d, hd, e⟩ := sums_tail (q := 1) (p := 1) (s := s3) hx bx hy by_ hu hl bl hr hz.1 hz.2 hw.1 hw.2
  rw [e]
  exact ⟨hd, h3⟩
end Mp

set_option Elab.async false
set_option linter.all false
set_option maxRecDepth 100000
set_option maxHeartbeats 4000000
/-! K03m: what the defs answer, more -/
namespace Mp
open PySem L2

theorem pl_loop {q p : Int} {s : S} (hq0 : 0 < q) (hp0 : 0 < p) (hq : Bd 10 q) (hp : Bd 10 p) (a b c d v7 v8 v9 : Sl) : ∀ (xs : List E4) (n : Nat) (l : List D) (x6 : Sl), (∀ x ∈ xs, Nm x ∧ BdE 150 x) → l.length ≤ n → n + 30 * xs.length ≤ 1000 → (∀ e ∈ l, Sm e) →
    ∃ (l' : List D) (y6 : Sl), dLoop (gN 6) (dSet 5 (dFrz (lBin catL (dVar 5) (dCall G__law_roots (dCons (dVar 4) (dCons (dVar 6) dNil)))))) (xs.map eD) [a, b, c, d, Sl.v (.tup [.int q, .int p]), Sl.v (.lst (l.map pr)), x6, v7, v8, v9] s = some (Out.nx [a, b, c, d, Sl.v (.tup [.int q, .int p]), Sl.v (.lst (l'.map pr)), y6, v7, v8, v9], s) ∧ l'.length ≤ 1000 ∧ ∀ e ∈ l', Sm e
  | [], n, l, x6, _, hl, hn, hs => ⟨l, x6, rfl, by omega, hs⟩
  | x :: xs, n, l, x6, hx, hl, hn, hs => by
    rw [List.length_cons] at hn
    obtain ⟨dd, ⟨m, rfl, hm, hms⟩, hr⟩ := roots_ok (s := s) hq0 hp0 hq hp (hx x (List.mem_cons_self ..)).1 (hx x (List.mem_cons_self ..)).2
    obtain ⟨l', y6, h1, h2, h3⟩ := pl_loop hq0 hp0 hq hp a b c d v7 v8 v9 xs (n + 30) (l ++ m) (Sl.v (eD x)) (fun z hz => hx z (List.mem_cons_of_mem _ hz)) (by rw [List.length_append]; omega) (by omega) (fun e he => by
      rcases List.mem_append.mp he with k | k
      · exact hs e k
      · exact hms e k)
    refine ⟨l', y6, ?_, h2, h3⟩
    have hcat : catL (.lst (l.map pr)) (.lst (m.map pr)) = some ((l ++ m).map pr) := by
      rw [catL_ll (by rw [List.length_map, List.length_map]; exact Nat.le_trans (show _ ≤ 1000 by omega) (by decide)), List.map_append]
    have hst : (dSet 5 (dFrz (lBin catL (dVar 5) (dCall G__law_roots (dCons (dVar 4) (dCons (dVar 6) dNil)))))) [a, b, c, d, Sl.v (.tup [.int q, .int p]), Sl.v (.lst (l.map pr)), Sl.v (eD x), v7, v8, v9] s = some (Out.nx [a, b, c, d, Sl.v (.tup [.int q, .int p]), Sl.v (.lst ((l ++ m).map pr)), Sl.v (eD x), v7, v8, v9], s) := by
      have hcall : dCall G__law_roots (dCons (dVar 4) (dCons (dVar 6) dNil)) (hide [a, b, c, d, Sl.v (.tup [.int q, .int p]), Sl.v (.lst (l.map pr)), Sl.v (eD x), v7, v8, v9]) s = some (.lst (m.map pr), s) :=
        ev_call (ev_cons (ev_var rfl) (ev_cons (ev_var rfl) ev_nil)) hr
      have hb : lBin catL (dVar 5) (dCall G__law_roots (dCons (dVar 4) (dCons (dVar 6) dNil))) (hide [a, b, c, d, Sl.v (.tup [.int q, .int p]), Sl.v (.lst (l.map pr)), Sl.v (eD x), v7, v8, v9]) s = some ((l ++ m).map pr, s) := by
        rw [ap_lBin, ev_var (d := .lst (l.map pr)) rfl]
        show bnd (dCall _ _ _ s) _ = _
        rw [hcall]
        show lft (catL _ _) s = _
        rw [hcat]
        rfl
      exact e_set (ev_frz hb) rfl
    rw [List.map_cons]
    unfold dLoop
    show bnd ((dSet 5 (dFrz (lBin catL (dVar 5) (dCall G__law_roots (dCons (dVar 4) (dCons (dVar 6) dNil)))))) [a, b, c, d, Sl.v (.tup [.int q, .int p]), Sl.v (.lst (l.map pr)), Sl.v (eD x), v7, v8, v9] s) _ = _
    rw [hst]
    exact h1
noncomputable abbrev BODY : DS := (dSeq (dSet 3 (dCall G__law_of (dCons (dVar 1) (dCons (dFrz (dLst (dCons (dC (.int 2)) (dCons (dC (.int 3)) (dCons (dC (.int 5)) (dCons (dC (.int 7)) (dCons (dC (.int 11)) (dCons (dC (.int 13)) (dCons (dC (.int 17)) (dCons (dC (.int 19)) (dCons (dC (.int 23)) (dCons (dC (.int 29)) (dCons (dC (.int 31)) (dCons (dC (.int 37)) (dCons (dC (.int 41)) (dCons (dC (.int 43)) (dCons (dC (.int 47)) (dCons (dC (.int 53)) (dCons (dC (.int 59)) (dCons (dC (.int 61)) (dCons (dC (.int 67)) (dCons (dC (.int 71)) (dCons (dC (.int 73)) (dCons (dC (.int 79)) (dCons (dC (.int 83)) (dCons (dC (.int 89)) (dCons (dC (.int 97)) dNil))))))))))))))))))))))))))) dNil))))
  (dSeq (dSet 4 (dCall G__law_signs (dCons (dVar 3) dNil)))
  (dSeq (dPar3 7 8 9 (dCons (dCall G__law_drawn (dCons (dVar 1) dNil)) (dCons (dCall G__law_drawn (dCons (dVar 1) dNil)) (dCons (dCall G__law_drawn (dCons (dVar 1) dNil)) dNil))))
  (dSeq (dSet 5 (dFrz (lBin catL (dFrz (lBin catL (dFrz (dLst (dCons (dTup (dCons (dCall G_rule_of (dCons (dVar 3) dNil)) (dCons (dVar 4) dNil))) dNil))) (dCall G__law_sums (dCons (dVar 1) (dCons (dVar 7) (dCons (dVar 8) dNil)))))) (dCall G__law_products (dCons (dVar 4) (dCons (dVar 7) (dCons (dVar 8) (dCons (dVar 9) dNil))))))))
  (dSeq (dFor (dItems (dTup (dCons (dVar 7) (dCons (dVar 8) (dCons (dVar 9) dNil))))) (gN 6) (dSet 5 (dFrz (lBin catL (dVar 5) (dCall G__law_roots (dCons (dVar 4) (dCons (dVar 6) dNil)))))))
  (dIfS (dNot (dTest (dCall G__law_all (dCons (dVar 5) dNil)))) (dRet (dC (.bl false))) dSkip))))))
theorem turn_ok {s : S} (h : DI s) (a0 a2 a3 a4 a5 a6 a7 a8 a9 : Sl) : ok (BODY [a0, Sl.v .deal, a2, a3, a4, a5, a6, a7, a8, a9] s) fun o s' => (∃ b3 b4 b5 b6 b7 b8 b9, o = Out.nx [a0, Sl.v .deal, a2, b3, b4, b5, b6, b7, b8, b9]) ∧ DI s' := by
  unfold BODY
  refine k_seq (fun ρ1 s1 => ∃ p, ρ1 = [a0, Sl.v .deal, a2, Sl.v (.int p), a4, a5, a6, a7, a8, a9] ∧ p ∈ primes ∧ DI s1) ?_ ?_
  · simp [ok_bnd, ok_some, ok_lft, ap_dSet, ap_dCons, ap_dNil, ap_dCall, ap_dVar, ap_dFrz, ap_dLst, ap_dC, hide, Sl.hide, lim]
    refine ok_imp (of_int (l := primes) (by decide) (by decide) h) ?_
    rintro _ s1 ⟨p, hp, rfl, h1⟩
    exact ⟨p, rfl, hp, h1⟩
  rintro _ s1 ⟨p, rfl, hpp, h1⟩
  have hsg := sgn_bd p hpp
  have hq : Bd 10 (sgn p) := hsg.2.1
  have hp : Bd 10 p := hsg.2.2.2
  refine k_seq (fun ρ1 s2 => ρ1 = [a0, Sl.v .deal, a2, Sl.v (.int p), Sl.v (.tup [.int (sgn p), .int p]), a5, a6, a7, a8, a9] ∧ s2 = s1) ?_ ?_
  · have hl := lsigns_eq s1 p hpp
    rw [e_set (ev_call (ev_cons (ev_var rfl) ev_nil) hl) rfl]
    exact ⟨_, rfl, rfl, rfl⟩
  rintro _ s1 ⟨rfl, rfl⟩
  refine k_seq (fun ρ1 s2 => ∃ x y z, ρ1 = [a0, Sl.v .deal, a2, Sl.v (.int p), Sl.v (.tup [.int (sgn p), .int p]), a5, a6, Sl.v (eD x), Sl.v (eD y), Sl.v (eD z)] ∧ (Nm x ∧ BdE 150 x) ∧ (Nm y ∧ BdE 150 y) ∧ (Nm z ∧ BdE 150 z) ∧ DI s2) ?_ ?_
  · rw [ap_dPar3, ok_bnd, ap_dCons, ok_bnd, ap_dCall, ok_bnd]
    rw [show dCons (dVar 1) dNil (hide [a0, Sl.v .deal, a2, Sl.v (.int p), Sl.v (.tup [.int (sgn p), .int p]), a5, a6, a7, a8, a9]) s1 = some ([.deal], s1) from ev_cons (ev_var rfl) ev_nil, ok_some]
    refine ok_imp (drawn_ok h1) ?_
    rintro _ s2 ⟨x, rfl, nx, bx, h2⟩
    rw [ok_bnd, ap_dCons, ok_bnd, ap_dCall, ok_bnd]
    rw [show dCons (dVar 1) dNil (hide [a0, Sl.v .deal, a2, Sl.v (.int p), Sl.v (.tup [.int (sgn p), .int p]), a5, a6, a7, a8, a9]) s2 = some ([.deal], s2) from ev_cons (ev_var rfl) ev_nil, ok_some]
    refine ok_imp (drawn_ok h2) ?_
    rintro _ s3 ⟨y, rfl, ny, by_, h3⟩
    rw [ok_bnd, ap_dCons, ok_bnd, ap_dCall, ok_bnd]
    rw [show dCons (dVar 1) dNil (hide [a0, Sl.v .deal, a2, Sl.v (.int p), Sl.v (.tup [.int (sgn p), .int p]), a5, a6, a7, a8, a9]) s3 = some ([.deal], s3) from ev_cons (ev_var rfl) ev_nil, ok_some]
    refine ok_imp (drawn_ok h3) ?_
    rintro _ s4 ⟨z, rfl, nz, bz, h4⟩
    exact ⟨_, rfl, x, y, z, rfl, ⟨nx, bx⟩, ⟨ny, by_⟩, ⟨nz, bz⟩, h4⟩
  rintro _ s2 ⟨x, y, z, rfl, hx, hy, hz, h2⟩
  refine k_seq (fun ρ1 s3 => ∃ l : List D, ρ1 = [a0, Sl.v .deal, a2, Sl.v (.int p), Sl.v (.tup [.int (sgn p), .int p]), Sl.v (.lst (l.map pr)), a6, Sl.v (eD x), Sl.v (eD y), Sl.v (eD z)] ∧ l.length ≤ 100 ∧ (∀ e ∈ l, Sm e) ∧ DI s3) ?_ ?_
  · have hr := rule_eq s2 p hpp
    rw [ap_dSet, ok_bnd, ap_dFrz, ok_bnd, ap_lBin, ok_bnd, ap_dFrz, ok_bnd, ap_lBin, ok_bnd]
    rw [show dFrz (dLst (dCons (dTup (dCons (dCall G_rule_of (dCons (dVar 3) dNil)) (dCons (dVar 4) dNil))) dNil)) (hide [a0, Sl.v .deal, a2, Sl.v (.int p), Sl.v (.tup [.int (sgn p), .int p]), a5, a6, Sl.v (eD x), Sl.v (eD y), Sl.v (eD z)]) s2 = some (.lst ([fD (sgn p, p)].map pr), s2) from
      ev_frz (ev_lst (ev_cons (ev_tup (ev_cons (ev_call (ev_cons (ev_var rfl) ev_nil) hr) (ev_cons (ev_var rfl) ev_nil)) rfl) ev_nil) rfl), ok_some, ok_bnd, ap_dCall, ok_bnd]
    rw [show dCons (dVar 1) (dCons (dVar 7) (dCons (dVar 8) dNil)) (hide [a0, Sl.v .deal, a2, Sl.v (.int p), Sl.v (.tup [.int (sgn p), .int p]), a5, a6, Sl.v (eD x), Sl.v (eD y), Sl.v (eD z)]) s2 = some ([.deal, eD x, eD y], s2) from ev_cons (ev_var rfl) (ev_cons (ev_var rfl) (ev_cons (ev_var rfl) ev_nil)), ok_some]
    refine ok_imp (sums_ok hx.1 hx.2 hy.1 hy.2 h2) ?_
    rintro _ s3 ⟨⟨m, rfl, hm, hms⟩, h3⟩
    obtain ⟨_, ⟨n, rfl, hn, hns⟩, hpr⟩ := products_ok (q := sgn p) (p := p) (s := s3) hq hp hx.1 hx.2 hy.1 hy.2 hz.1 hz.2
    rw [catL_ll (by rw [List.length_map, List.length_map]; exact Nat.le_trans (show _ ≤ 1000 by simp only [List.length_cons, List.length_nil]; omega) (by decide)), ok_lft, ok_some, ok_bnd]
    rw [show dCall G__law_products (dCons (dVar 4) (dCons (dVar 7) (dCons (dVar 8) (dCons (dVar 9) dNil)))) (hide [a0, Sl.v .deal, a2, Sl.v (.int p), Sl.v (.tup [.int (sgn p), .int p]), a5, a6, Sl.v (eD x), Sl.v (eD y), Sl.v (eD z)]) s3 = some (.lst (n.map pr), s3) from ev_call (ev_cons (ev_var rfl) (ev_cons (ev_var rfl) (ev_cons (ev_var rfl) (ev_cons (ev_var rfl) ev_nil)))) hpr, ok_some]
    rw [catL_ll (by simp only [List.length_append, List.length_map]; exact Nat.le_trans (show _ ≤ 1000 by simp only [List.length_cons, List.length_nil]; omega) (by decide)), ok_lft, ok_some]
    refine ⟨_, rfl, [fD (sgn p, p)] ++ m ++ n, ?_, by simp; omega, ?_, h3⟩
    · rw [List.map_append, List.map_append]; rfl
    · intro e he
      rcases List.mem_append.mp he with k | k
      · rcases List.mem_append.mp k with k | k
        · rw [List.mem_singleton] at k
          rw [k]; exact sm_f _
        · exact hms e k
      · exact hns e k
  rintro _ s3 ⟨l, rfl, hl, hls, h3⟩
  obtain ⟨l', y6, e1, hl', hs'⟩ := pl_loop (s := s3) hsg.1 hsg.2.2.1 hq hp a0 (Sl.v .deal) a2 (Sl.v (.int p)) (Sl.v (eD x)) (Sl.v (eD y)) (Sl.v (eD z)) [x, y, z] 100 l a6 (by
    intro u hu
    simp only [List.mem_cons, List.not_mem_nil, or_false] at hu
    rcases hu with rfl | rfl | rfl
    · exact hx
    · exact hy
    · exact hz) hl (Nat.le_of_ble_eq_true rfl) hls
  refine k_seq (fun ρ1 s4 => ρ1 = [a0, Sl.v .deal, a2, Sl.v (.int p), Sl.v (.tup [.int (sgn p), .int p]), Sl.v (.lst (l'.map pr)), y6, Sl.v (eD x), Sl.v (eD y), Sl.v (eD z)] ∧ s4 = s3) ?_ ?_
  · rw [ap_dFor, ok_bnd]
    rw [show dItems (dTup (dCons (dVar 7) (dCons (dVar 8) (dCons (dVar 9) dNil)))) (hide [a0, Sl.v .deal, a2, Sl.v (.int p), Sl.v (.tup [.int (sgn p), .int p]), Sl.v (.lst (l.map pr)), a6, Sl.v (eD x), Sl.v (eD y), Sl.v (eD z)]) s3 = some ([x, y, z].map eD, s3) from ev_items (ev_tup (ev_cons (ev_var rfl) (ev_cons (ev_var rfl) (ev_cons (ev_var rfl) ev_nil))) rfl), ok_some, e1]
    exact ⟨_, rfl, rfl, rfl⟩
  rintro _ s3 ⟨rfl, rfl⟩
  have ha := all_ok (s := s3) hs' hl'
  have ht : dNot (dTest (dCall G__law_all (dCons (dVar 5) dNil))) (peek [a0, Sl.v .deal, a2, Sl.v (.int p), Sl.v (.tup [.int (sgn p), .int p]), Sl.v (.lst (l'.map pr)), y6, Sl.v (eD x), Sl.v (eD y), Sl.v (eD z)]) s3 = some (false, s3) := by
    rw [ap_dNot, ev_test (ev_call (ev_cons (ev_var rfl) ev_nil) ha)]
    rfl
  rw [e_iff ht e_skip]
  exact ⟨⟨_, _, _, _, _, _, _, rfl⟩, h3⟩
theorem turns_ok (a0 : Sl) : ∀ (is : List D) (s : S) (a2 a3 a4 a5 a6 a7 a8 a9 : Sl), DI s → ok (dLoop (gN 2) BODY is [a0, Sl.v .deal, a2, a3, a4, a5, a6, a7, a8, a9] s) fun o s' => ∃ ρ, o = Out.nx ρ
  | [], s, a2, a3, a4, a5, a6, a7, a8, a9, h => ⟨_, rfl⟩
  | i :: is, s, a2, a3, a4, a5, a6, a7, a8, a9, h => by
    unfold dLoop
    show ok (bnd (BODY [a0, Sl.v .deal, Sl.v i, a3, a4, a5, a6, a7, a8, a9] s) _) _
    rw [ok_bnd]
    refine ok_imp (turn_ok h a0 (Sl.v i) a3 a4 a5 a6 a7 a8 a9) ?_
    rintro _ s1 ⟨⟨b3, b4, b5, b6, b7, b8, b9, rfl⟩, h1⟩
    exact turns_ok a0 is s1 _ _ _ _ _ _ _ _ h1
theorem law_holds : ∀ ns : List Int, ns.length ≤ 63 → ∃ (zs : List Int) (m : Int) (s : S), den_law0 (hide ([Sl.v (.scr ns)] ++ List.replicate (10 - 1) Sl.none)) ([], 0) = some (.lst [.lst (zs.map D.int), .int m], ([], 0)) ∧
      den_law ((List.replicate 10 Sl.none).set 1 (.v .deal)) (zs, m) = some (.rt (.bl true), s) := by
  intro ns hns
  obtain ⟨d, s', e, zs, m, rfl, rfl, hD⟩ := ok_of (deal_ok ns hns ([], 0))
  have h := turns_ok .none [.int 0, .int 1, .int 2] (zs, m) .none .none .none .none .none .none .none .none hD
  obtain ⟨o, s2, e2, ρ, rfl⟩ := ok_of h
  refine ⟨zs, m, s2, ?_, ?_⟩
  · exact ev_call (ev_cons (ev_var rfl) (ev_cons ev_c ev_nil)) e
  · show den_law [Sl.none, Sl.v .deal, Sl.none, Sl.none, Sl.none, Sl.none, Sl.none, Sl.none, Sl.none, Sl.none] (zs, m) = _
    unfold den_law
    rw [ap_dSeq, ap_dFor]
    rw [show dRng1 (dCons (dC (.int 3)) dNil) (hide [Sl.none, Sl.v .deal, Sl.none, Sl.none, Sl.none, Sl.none, Sl.none, Sl.none, Sl.none, Sl.none]) (zs, m) = some ([.int 0, .int 1, .int 2], (zs, m)) from rfl]
    show bnd (dLoop (gN 2) BODY [.int 0, .int 1, .int 2] [Sl.none, Sl.v .deal, Sl.none, Sl.none, Sl.none, Sl.none, Sl.none, Sl.none, Sl.none, Sl.none] (zs, m)) _ = _
    rw [e2]
    rfl
end Mp

set_option Elab.async false
set_option maxRecDepth 100000
set_option maxHeartbeats 4000000
namespace Mp
open PySem L2
theorem all_mk {l : PySem.W.OpenLaw} {w : World} {K : PySem.W.Frag} {h : Heap} {mg : Str → Option Value} {fa : Addr} (X : K.In h) (G : h.Ns mainGlobals mg) (hfa : mg "law" = some (.ref fa))
    {f0 : Addr} {od0 an0 : Option Addr} {sl0 : Array (Option Value)} {oc0 kV0 dc0 pm0 cd0 ct0 : Value}
    (a0 : PySem.W.nsIn K mainGlobals "fraction" = some (some (.ref f0))) (l0 : K.lookup f0 = some ⟨oc0, od0, .func (PySem.W.fnOf "fraction" "fraction" (defArgs s_fraction) (defBody s_fraction) (defScope s_fraction) .none kV0 dc0 pm0 an0 cd0 ct0), sl0⟩) (c0 : PySem.W.codeIn K cd0 "fraction" = true) (k0 : PySem.W.keepIn K (.ref f0) = true)
    {f1 : Addr} {od1 an1 : Option Addr} {sl1 : Array (Option Value)} {oc1 kV1 dc1 pm1 cd1 ct1 : Value}
    (a1 : PySem.W.nsIn K mainGlobals "row_product" = some (some (.ref f1))) (l1 : K.lookup f1 = some ⟨oc1, od1, .func (PySem.W.fnOf "row_product" "row_product" (defArgs s_row_product) (defBody s_row_product) (defScope s_row_product) .none kV1 dc1 pm1 an1 cd1 ct1), sl1⟩) (c1 : PySem.W.codeIn K cd1 "row_product" = true) (k1 : PySem.W.keepIn K (.ref f1) = true)
    {f2 : Addr} {od2 an2 : Option Addr} {sl2 : Array (Option Value)} {oc2 kV2 dc2 pm2 cd2 ct2 : Value}
    (a2 : PySem.W.nsIn K mainGlobals "turned_row" = some (some (.ref f2))) (l2 : K.lookup f2 = some ⟨oc2, od2, .func (PySem.W.fnOf "turned_row" "turned_row" (defArgs s_turned_row) (defBody s_turned_row) (defScope s_turned_row) .none kV2 dc2 pm2 an2 cd2 ct2), sl2⟩) (c2 : PySem.W.codeIn K cd2 "turned_row" = true) (k2 : PySem.W.keepIn K (.ref f2) = true)
    {f3 : Addr} {od3 an3 : Option Addr} {sl3 : Array (Option Value)} {oc3 kV3 dc3 pm3 cd3 ct3 : Value}
    (a3 : PySem.W.nsIn K mainGlobals "common_divisor" = some (some (.ref f3))) (l3 : K.lookup f3 = some ⟨oc3, od3, .func (PySem.W.fnOf "common_divisor" "common_divisor" (defArgs s_common_divisor) (defBody s_common_divisor) (defScope s_common_divisor) .none kV3 dc3 pm3 an3 cd3 ct3), sl3⟩) (c3 : PySem.W.codeIn K cd3 "common_divisor" = true) (k3 : PySem.W.keepIn K (.ref f3) = true)
    {f4 : Addr} {od4 an4 : Option Addr} {sl4 : Array (Option Value)} {oc4 kV4 dc4 pm4 cd4 ct4 : Value}
    (a4 : PySem.W.nsIn K mainGlobals "row_times" = some (some (.ref f4))) (l4 : K.lookup f4 = some ⟨oc4, od4, .func (PySem.W.fnOf "row_times" "row_times" (defArgs s_row_times) (defBody s_row_times) (defScope s_row_times) .none kV4 dc4 pm4 an4 cd4 ct4), sl4⟩) (c4 : PySem.W.codeIn K cd4 "row_times" = true) (k4 : PySem.W.keepIn K (.ref f4) = true)
    {f5 : Addr} {od5 an5 : Option Addr} {sl5 : Array (Option Value)} {oc5 kV5 dc5 pm5 cd5 ct5 : Value}
    (a5 : PySem.W.nsIn K mainGlobals "element" = some (some (.ref f5))) (l5 : K.lookup f5 = some ⟨oc5, od5, .func (PySem.W.fnOf "element" "element" (defArgs s_element) (defBody s_element) (defScope s_element) .none kV5 dc5 pm5 an5 cd5 ct5), sl5⟩) (c5 : PySem.W.codeIn K cd5 "element" = true) (k5 : PySem.W.keepIn K (.ref f5) = true)
    {f6 : Addr} {od6 an6 : Option Addr} {sl6 : Array (Option Value)} {oc6 kV6 dc6 pm6 cd6 ct6 : Value}
    (a6 : PySem.W.nsIn K mainGlobals "whole" = some (some (.ref f6))) (l6 : K.lookup f6 = some ⟨oc6, od6, .func (PySem.W.fnOf "whole" "whole" (defArgs s_whole) (defBody s_whole) (defScope s_whole) .none kV6 dc6 pm6 an6 cd6 ct6), sl6⟩) (c6 : PySem.W.codeIn K cd6 "whole" = true) (k6 : PySem.W.keepIn K (.ref f6) = true)
    {f7 : Addr} {od7 an7 : Option Addr} {sl7 : Array (Option Value)} {oc7 kV7 dc7 pm7 cd7 ct7 : Value}
    (a7 : PySem.W.nsIn K mainGlobals "plus" = some (some (.ref f7))) (l7 : K.lookup f7 = some ⟨oc7, od7, .func (PySem.W.fnOf "plus" "plus" (defArgs s_plus) (defBody s_plus) (defScope s_plus) .none kV7 dc7 pm7 an7 cd7 ct7), sl7⟩) (c7 : PySem.W.codeIn K cd7 "plus" = true) (k7 : PySem.W.keepIn K (.ref f7) = true)
    {f8 : Addr} {od8 an8 : Option Addr} {sl8 : Array (Option Value)} {oc8 kV8 dc8 pm8 cd8 ct8 : Value}
    (a8 : PySem.W.nsIn K mainGlobals "often" = some (some (.ref f8))) (l8 : K.lookup f8 = some ⟨oc8, od8, .func (PySem.W.fnOf "often" "often" (defArgs s_often) (defBody s_often) (defScope s_often) .none kV8 dc8 pm8 an8 cd8 ct8), sl8⟩) (c8 : PySem.W.codeIn K cd8 "often" = true) (k8 : PySem.W.keepIn K (.ref f8) = true)
    {f9 : Addr} {od9 an9 : Option Addr} {sl9 : Array (Option Value)} {oc9 kV9 dc9 pm9 cd9 ct9 : Value}
    (a9 : PySem.W.nsIn K mainGlobals "less" = some (some (.ref f9))) (l9 : K.lookup f9 = some ⟨oc9, od9, .func (PySem.W.fnOf "less" "less" (defArgs s_less) (defBody s_less) (defScope s_less) .none kV9 dc9 pm9 an9 cd9 ct9), sl9⟩) (c9 : PySem.W.codeIn K cd9 "less" = true) (k9 : PySem.W.keepIn K (.ref f9) = true)
    {f10 : Addr} {od10 an10 : Option Addr} {sl10 : Array (Option Value)} {oc10 kV10 dc10 pm10 cd10 ct10 : Value}
    (a10 : PySem.W.nsIn K mainGlobals "by" = some (some (.ref f10))) (l10 : K.lookup f10 = some ⟨oc10, od10, .func (PySem.W.fnOf "by" "by" (defArgs s_by) (defBody s_by) (defScope s_by) .none kV10 dc10 pm10 an10 cd10 ct10), sl10⟩) (c10 : PySem.W.codeIn K cd10 "by" = true) (k10 : PySem.W.keepIn K (.ref f10) = true)
    {f11 : Addr} {od11 an11 : Option Addr} {sl11 : Array (Option Value)} {oc11 kV11 dc11 pm11 cd11 ct11 : Value}
    (a11 : PySem.W.nsIn K mainGlobals "turned" = some (some (.ref f11))) (l11 : K.lookup f11 = some ⟨oc11, od11, .func (PySem.W.fnOf "turned" "turned" (defArgs s_turned) (defBody s_turned) (defScope s_turned) .none kV11 dc11 pm11 an11 cd11 ct11), sl11⟩) (c11 : PySem.W.codeIn K cd11 "turned" = true) (k11 : PySem.W.keepIn K (.ref f11) = true)
    {f12 : Addr} {od12 an12 : Option Addr} {sl12 : Array (Option Value)} {oc12 kV12 dc12 pm12 cd12 ct12 : Value}
    (a12 : PySem.W.nsIn K mainGlobals "trace" = some (some (.ref f12))) (l12 : K.lookup f12 = some ⟨oc12, od12, .func (PySem.W.fnOf "trace" "trace" (defArgs s_trace) (defBody s_trace) (defScope s_trace) .none kV12 dc12 pm12 an12 cd12 ct12), sl12⟩) (c12 : PySem.W.codeIn K cd12 "trace" = true) (k12 : PySem.W.keepIn K (.ref f12) = true)
    {f13 : Addr} {od13 an13 : Option Addr} {sl13 : Array (Option Value)} {oc13 kV13 dc13 pm13 cd13 ct13 : Value}
    (a13 : PySem.W.nsIn K mainGlobals "norm_of_row" = some (some (.ref f13))) (l13 : K.lookup f13 = some ⟨oc13, od13, .func (PySem.W.fnOf "norm_of_row" "norm_of_row" (defArgs s_norm_of_row) (defBody s_norm_of_row) (defScope s_norm_of_row) .none kV13 dc13 pm13 an13 cd13 ct13), sl13⟩) (c13 : PySem.W.codeIn K cd13 "norm_of_row" = true) (k13 : PySem.W.keepIn K (.ref f13) = true)
    {f14 : Addr} {od14 an14 : Option Addr} {sl14 : Array (Option Value)} {oc14 kV14 dc14 pm14 cd14 ct14 : Value}
    (a14 : PySem.W.nsIn K mainGlobals "norm" = some (some (.ref f14))) (l14 : K.lookup f14 = some ⟨oc14, od14, .func (PySem.W.fnOf "norm" "norm" (defArgs s_norm) (defBody s_norm) (defScope s_norm) .none kV14 dc14 pm14 an14 cd14 ct14), sl14⟩) (c14 : PySem.W.codeIn K cd14 "norm" = true) (k14 : PySem.W.keepIn K (.ref f14) = true)
    {f15 : Addr} {od15 an15 : Option Addr} {sl15 : Array (Option Value)} {oc15 kV15 dc15 pm15 cd15 ct15 : Value}
    (a15 : PySem.W.nsIn K mainGlobals "back" = some (some (.ref f15))) (l15 : K.lookup f15 = some ⟨oc15, od15, .func (PySem.W.fnOf "back" "back" (defArgs s_back) (defBody s_back) (defScope s_back) .none kV15 dc15 pm15 an15 cd15 ct15), sl15⟩) (c15 : PySem.W.codeIn K cd15 "back" = true) (k15 : PySem.W.keepIn K (.ref f15) = true)
    {f16 : Addr} {od16 an16 : Option Addr} {sl16 : Array (Option Value)} {oc16 kV16 dc16 pm16 cd16 ct16 : Value}
    (a16 : PySem.W.nsIn K mainGlobals "least_factor" = some (some (.ref f16))) (l16 : K.lookup f16 = some ⟨oc16, od16, .func (PySem.W.fnOf "least_factor" "least_factor" (defArgs s_least_factor) (defBody s_least_factor) (defScope s_least_factor) .none kV16 dc16 pm16 an16 cd16 ct16), sl16⟩) (c16 : PySem.W.codeIn K cd16 "least_factor" = true) (k16 : PySem.W.keepIn K (.ref f16) = true)
    {f17 : Addr} {od17 an17 : Option Addr} {sl17 : Array (Option Value)} {oc17 kV17 dc17 pm17 cd17 ct17 : Value}
    (a17 : PySem.W.nsIn K mainGlobals "squares_modulo" = some (some (.ref f17))) (l17 : K.lookup f17 = some ⟨oc17, od17, .func (PySem.W.fnOf "squares_modulo" "squares_modulo" (defArgs s_squares_modulo) (defBody s_squares_modulo) (defScope s_squares_modulo) .none kV17 dc17 pm17 an17 cd17 ct17), sl17⟩) (c17 : PySem.W.codeIn K cd17 "squares_modulo" = true) (k17 : PySem.W.keepIn K (.ref f17) = true)
    {f18 : Addr} {od18 an18 : Option Addr} {sl18 : Array (Option Value)} {oc18 kV18 dc18 pm18 cd18 ct18 : Value}
    (a18 : PySem.W.nsIn K mainGlobals "is_prime" = some (some (.ref f18))) (l18 : K.lookup f18 = some ⟨oc18, od18, .func (PySem.W.fnOf "is_prime" "is_prime" (defArgs s_is_prime) (defBody s_is_prime) (defScope s_is_prime) .none kV18 dc18 pm18 an18 cd18 ct18), sl18⟩) (c18 : PySem.W.codeIn K cd18 "is_prime" = true) (k18 : PySem.W.keepIn K (.ref f18) = true)
    {f19 : Addr} {od19 an19 : Option Addr} {sl19 : Array (Option Value)} {oc19 kV19 dc19 pm19 cd19 ct19 : Value}
    (a19 : PySem.W.nsIn K mainGlobals "symbol" = some (some (.ref f19))) (l19 : K.lookup f19 = some ⟨oc19, od19, .func (PySem.W.fnOf "symbol" "symbol" (defArgs s_symbol) (defBody s_symbol) (defScope s_symbol) .none kV19 dc19 pm19 an19 cd19 ct19), sl19⟩) (c19 : PySem.W.codeIn K cd19 "symbol" = true) (k19 : PySem.W.keepIn K (.ref f19) = true)
    {f20 : Addr} {od20 an20 : Option Addr} {sl20 : Array (Option Value)} {oc20 kV20 dc20 pm20 cd20 ct20 : Value}
    (a20 : PySem.W.nsIn K mainGlobals "least_companion" = some (some (.ref f20))) (l20 : K.lookup f20 = some ⟨oc20, od20, .func (PySem.W.fnOf "least_companion" "least_companion" (defArgs s_least_companion) (defBody s_least_companion) (defScope s_least_companion) .none kV20 dc20 pm20 an20 cd20 ct20), sl20⟩) (c20 : PySem.W.codeIn K cd20 "least_companion" = true) (k20 : PySem.W.keepIn K (.ref f20) = true)
    {f21 : Addr} {od21 an21 : Option Addr} {sl21 : Array (Option Value)} {oc21 kV21 dc21 pm21 cd21 ct21 : Value}
    (a21 : PySem.W.nsIn K mainGlobals "rule_of" = some (some (.ref f21))) (l21 : K.lookup f21 = some ⟨oc21, od21, .func (PySem.W.fnOf "rule_of" "rule_of" (defArgs s_rule_of) (defBody s_rule_of) (defScope s_rule_of) .none kV21 dc21 pm21 an21 cd21 ct21), sl21⟩) (c21 : PySem.W.codeIn K cd21 "rule_of" = true) (k21 : PySem.W.keepIn K (.ref f21) = true)
    {f22 : Addr} {od22 an22 : Option Addr} {sl22 : Array (Option Value)} {oc22 kV22 dc22 pm22 cd22 ct22 : Value}
    (a22 : PySem.W.nsIn K mainGlobals "_law_deal" = some (some (.ref f22))) (l22 : K.lookup f22 = some ⟨oc22, od22, .func (PySem.W.fnOf "_law_deal" "_law_deal" (defArgs s__law_deal) (defBody s__law_deal) (defScope s__law_deal) .none kV22 dc22 pm22 an22 cd22 ct22), sl22⟩) (c22 : PySem.W.codeIn K cd22 "_law_deal" = true) (k22 : PySem.W.keepIn K (.ref f22) = true)
    {f23 : Addr} {od23 an23 : Option Addr} {sl23 : Array (Option Value)} {oc23 kV23 dc23 pm23 cd23 ct23 : Value}
    (a23 : PySem.W.nsIn K mainGlobals "_law_any" = some (some (.ref f23))) (l23 : K.lookup f23 = some ⟨oc23, od23, .func (PySem.W.fnOf "_law_any" "_law_any" (defArgs s__law_any) (defBody s__law_any) (defScope s__law_any) .none kV23 dc23 pm23 an23 cd23 ct23), sl23⟩) (c23 : PySem.W.codeIn K cd23 "_law_any" = true) (k23 : PySem.W.keepIn K (.ref f23) = true)
    {f24 : Addr} {od24 an24 : Option Addr} {sl24 : Array (Option Value)} {oc24 kV24 dc24 pm24 cd24 ct24 : Value}
    (a24 : PySem.W.nsIn K mainGlobals "_law_wide" = some (some (.ref f24))) (l24 : K.lookup f24 = some ⟨oc24, od24, .func (PySem.W.fnOf "_law_wide" "_law_wide" (defArgs s__law_wide) (defBody s__law_wide) (defScope s__law_wide) .none kV24 dc24 pm24 an24 cd24 ct24), sl24⟩) (c24 : PySem.W.codeIn K cd24 "_law_wide" = true) (k24 : PySem.W.keepIn K (.ref f24) = true)
    {f25 : Addr} {od25 an25 : Option Addr} {sl25 : Array (Option Value)} {oc25 kV25 dc25 pm25 cd25 ct25 : Value}
    (a25 : PySem.W.nsIn K mainGlobals "_law_of" = some (some (.ref f25))) (l25 : K.lookup f25 = some ⟨oc25, od25, .func (PySem.W.fnOf "_law_of" "_law_of" (defArgs s__law_of) (defBody s__law_of) (defScope s__law_of) .none kV25 dc25 pm25 an25 cd25 ct25), sl25⟩) (c25 : PySem.W.codeIn K cd25 "_law_of" = true) (k25 : PySem.W.keepIn K (.ref f25) = true)
    {f26 : Addr} {od26 an26 : Option Addr} {sl26 : Array (Option Value)} {oc26 kV26 dc26 pm26 cd26 ct26 : Value}
    (a26 : PySem.W.nsIn K mainGlobals "_law_same" = some (some (.ref f26))) (l26 : K.lookup f26 = some ⟨oc26, od26, .func (PySem.W.fnOf "_law_same" "_law_same" (defArgs s__law_same) (defBody s__law_same) (defScope s__law_same) .none kV26 dc26 pm26 an26 cd26 ct26), sl26⟩) (c26 : PySem.W.codeIn K cd26 "_law_same" = true) (k26 : PySem.W.keepIn K (.ref f26) = true)
    {f27 : Addr} {od27 an27 : Option Addr} {sl27 : Array (Option Value)} {oc27 kV27 dc27 pm27 cd27 ct27 : Value}
    (a27 : PySem.W.nsIn K mainGlobals "_law_all" = some (some (.ref f27))) (l27 : K.lookup f27 = some ⟨oc27, od27, .func (PySem.W.fnOf "_law_all" "_law_all" (defArgs s__law_all) (defBody s__law_all) (defScope s__law_all) .none kV27 dc27 pm27 an27 cd27 ct27), sl27⟩) (c27 : PySem.W.codeIn K cd27 "_law_all" = true) (k27 : PySem.W.keepIn K (.ref f27) = true)
    {f28 : Addr} {od28 an28 : Option Addr} {sl28 : Array (Option Value)} {oc28 kV28 dc28 pm28 cd28 ct28 : Value}
    (a28 : PySem.W.nsIn K mainGlobals "_law_gcd" = some (some (.ref f28))) (l28 : K.lookup f28 = some ⟨oc28, od28, .func (PySem.W.fnOf "_law_gcd" "_law_gcd" (defArgs s__law_gcd) (defBody s__law_gcd) (defScope s__law_gcd) .none kV28 dc28 pm28 an28 cd28 ct28), sl28⟩) (c28 : PySem.W.codeIn K cd28 "_law_gcd" = true) (k28 : PySem.W.keepIn K (.ref f28) = true)
    {f29 : Addr} {od29 an29 : Option Addr} {sl29 : Array (Option Value)} {oc29 kV29 dc29 pm29 cd29 ct29 : Value}
    (a29 : PySem.W.nsIn K mainGlobals "_law_gcd_of" = some (some (.ref f29))) (l29 : K.lookup f29 = some ⟨oc29, od29, .func (PySem.W.fnOf "_law_gcd_of" "_law_gcd_of" (defArgs s__law_gcd_of) (defBody s__law_gcd_of) (defScope s__law_gcd_of) .none kV29 dc29 pm29 an29 cd29 ct29), sl29⟩) (c29 : PySem.W.codeIn K cd29 "_law_gcd_of" = true) (k29 : PySem.W.keepIn K (.ref f29) = true)
    {f30 : Addr} {od30 an30 : Option Addr} {sl30 : Array (Option Value)} {oc30 kV30 dc30 pm30 cd30 ct30 : Value}
    (a30 : PySem.W.nsIn K mainGlobals "_law_lowest" = some (some (.ref f30))) (l30 : K.lookup f30 = some ⟨oc30, od30, .func (PySem.W.fnOf "_law_lowest" "_law_lowest" (defArgs s__law_lowest) (defBody s__law_lowest) (defScope s__law_lowest) .none kV30 dc30 pm30 an30 cd30 ct30), sl30⟩) (c30 : PySem.W.codeIn K cd30 "_law_lowest" = true) (k30 : PySem.W.keepIn K (.ref f30) = true)
    {f31 : Addr} {od31 an31 : Option Addr} {sl31 : Array (Option Value)} {oc31 kV31 dc31 pm31 cd31 ct31 : Value}
    (a31 : PySem.W.nsIn K mainGlobals "_law_fraction" = some (some (.ref f31))) (l31 : K.lookup f31 = some ⟨oc31, od31, .func (PySem.W.fnOf "_law_fraction" "_law_fraction" (defArgs s__law_fraction) (defBody s__law_fraction) (defScope s__law_fraction) .none kV31 dc31 pm31 an31 cd31 ct31), sl31⟩) (c31 : PySem.W.codeIn K cd31 "_law_fraction" = true) (k31 : PySem.W.keepIn K (.ref f31) = true)
    {f32 : Addr} {od32 an32 : Option Addr} {sl32 : Array (Option Value)} {oc32 kV32 dc32 pm32 cd32 ct32 : Value}
    (a32 : PySem.W.nsIn K mainGlobals "_law_times" = some (some (.ref f32))) (l32 : K.lookup f32 = some ⟨oc32, od32, .func (PySem.W.fnOf "_law_times" "_law_times" (defArgs s__law_times) (defBody s__law_times) (defScope s__law_times) .none kV32 dc32 pm32 an32 cd32 ct32), sl32⟩) (c32 : PySem.W.codeIn K cd32 "_law_times" = true) (k32 : PySem.W.keepIn K (.ref f32) = true)
    {f33 : Addr} {od33 an33 : Option Addr} {sl33 : Array (Option Value)} {oc33 kV33 dc33 pm33 cd33 ct33 : Value}
    (a33 : PySem.W.nsIn K mainGlobals "_law_by" = some (some (.ref f33))) (l33 : K.lookup f33 = some ⟨oc33, od33, .func (PySem.W.fnOf "_law_by" "_law_by" (defArgs s__law_by) (defBody s__law_by) (defScope s__law_by) .none kV33 dc33 pm33 an33 cd33 ct33), sl33⟩) (c33 : PySem.W.codeIn K cd33 "_law_by" = true) (k33 : PySem.W.keepIn K (.ref f33) = true)
    {f34 : Addr} {od34 an34 : Option Addr} {sl34 : Array (Option Value)} {oc34 kV34 dc34 pm34 cd34 ct34 : Value}
    (a34 : PySem.W.nsIn K mainGlobals "_law_norm_of" = some (some (.ref f34))) (l34 : K.lookup f34 = some ⟨oc34, od34, .func (PySem.W.fnOf "_law_norm_of" "_law_norm_of" (defArgs s__law_norm_of) (defBody s__law_norm_of) (defScope s__law_norm_of) .none kV34 dc34 pm34 an34 cd34 ct34), sl34⟩) (c34 : PySem.W.codeIn K cd34 "_law_norm_of" = true) (k34 : PySem.W.keepIn K (.ref f34) = true)
    {f35 : Addr} {od35 an35 : Option Addr} {sl35 : Array (Option Value)} {oc35 kV35 dc35 pm35 cd35 ct35 : Value}
    (a35 : PySem.W.nsIn K mainGlobals "_law_turned" = some (some (.ref f35))) (l35 : K.lookup f35 = some ⟨oc35, od35, .func (PySem.W.fnOf "_law_turned" "_law_turned" (defArgs s__law_turned) (defBody s__law_turned) (defScope s__law_turned) .none kV35 dc35 pm35 an35 cd35 ct35), sl35⟩) (c35 : PySem.W.codeIn K cd35 "_law_turned" = true) (k35 : PySem.W.keepIn K (.ref f35) = true)
    {f36 : Addr} {od36 an36 : Option Addr} {sl36 : Array (Option Value)} {oc36 kV36 dc36 pm36 cd36 ct36 : Value}
    (a36 : PySem.W.nsIn K mainGlobals "_law_mul" = some (some (.ref f36))) (l36 : K.lookup f36 = some ⟨oc36, od36, .func (PySem.W.fnOf "_law_mul" "_law_mul" (defArgs s__law_mul) (defBody s__law_mul) (defScope s__law_mul) .none kV36 dc36 pm36 an36 cd36 ct36), sl36⟩) (c36 : PySem.W.codeIn K cd36 "_law_mul" = true) (k36 : PySem.W.keepIn K (.ref f36) = true)
    {f37 : Addr} {od37 an37 : Option Addr} {sl37 : Array (Option Value)} {oc37 kV37 dc37 pm37 cd37 ct37 : Value}
    (a37 : PySem.W.nsIn K mainGlobals "_law_back" = some (some (.ref f37))) (l37 : K.lookup f37 = some ⟨oc37, od37, .func (PySem.W.fnOf "_law_back" "_law_back" (defArgs s__law_back) (defBody s__law_back) (defScope s__law_back) .none kV37 dc37 pm37 an37 cd37 ct37), sl37⟩) (c37 : PySem.W.codeIn K cd37 "_law_back" = true) (k37 : PySem.W.keepIn K (.ref f37) = true)
    {f38 : Addr} {od38 an38 : Option Addr} {sl38 : Array (Option Value)} {oc38 kV38 dc38 pm38 cd38 ct38 : Value}
    (a38 : PySem.W.nsIn K mainGlobals "_law_signs" = some (some (.ref f38))) (l38 : K.lookup f38 = some ⟨oc38, od38, .func (PySem.W.fnOf "_law_signs" "_law_signs" (defArgs s__law_signs) (defBody s__law_signs) (defScope s__law_signs) .none kV38 dc38 pm38 an38 cd38 ct38), sl38⟩) (c38 : PySem.W.codeIn K cd38 "_law_signs" = true) (k38 : PySem.W.keepIn K (.ref f38) = true)
    {f39 : Addr} {od39 an39 : Option Addr} {sl39 : Array (Option Value)} {oc39 kV39 dc39 pm39 cd39 ct39 : Value}
    (a39 : PySem.W.nsIn K mainGlobals "_law_row" = some (some (.ref f39))) (l39 : K.lookup f39 = some ⟨oc39, od39, .func (PySem.W.fnOf "_law_row" "_law_row" (defArgs s__law_row) (defBody s__law_row) (defScope s__law_row) .none kV39 dc39 pm39 an39 cd39 ct39), sl39⟩) (c39 : PySem.W.codeIn K cd39 "_law_row" = true) (k39 : PySem.W.keepIn K (.ref f39) = true)
    {f40 : Addr} {od40 an40 : Option Addr} {sl40 : Array (Option Value)} {oc40 kV40 dc40 pm40 cd40 ct40 : Value}
    (a40 : PySem.W.nsIn K mainGlobals "_law_thing" = some (some (.ref f40))) (l40 : K.lookup f40 = some ⟨oc40, od40, .func (PySem.W.fnOf "_law_thing" "_law_thing" (defArgs s__law_thing) (defBody s__law_thing) (defScope s__law_thing) .none kV40 dc40 pm40 an40 cd40 ct40), sl40⟩) (c40 : PySem.W.codeIn K cd40 "_law_thing" = true) (k40 : PySem.W.keepIn K (.ref f40) = true)
    {f41 : Addr} {od41 an41 : Option Addr} {sl41 : Array (Option Value)} {oc41 kV41 dc41 pm41 cd41 ct41 : Value}
    (a41 : PySem.W.nsIn K mainGlobals "_law_joined" = some (some (.ref f41))) (l41 : K.lookup f41 = some ⟨oc41, od41, .func (PySem.W.fnOf "_law_joined" "_law_joined" (defArgs s__law_joined) (defBody s__law_joined) (defScope s__law_joined) .none kV41 dc41 pm41 an41 cd41 ct41), sl41⟩) (c41 : PySem.W.codeIn K cd41 "_law_joined" = true) (k41 : PySem.W.keepIn K (.ref f41) = true)
    {f42 : Addr} {od42 an42 : Option Addr} {sl42 : Array (Option Value)} {oc42 kV42 dc42 pm42 cd42 ct42 : Value}
    (a42 : PySem.W.nsIn K mainGlobals "_law_over" = some (some (.ref f42))) (l42 : K.lookup f42 = some ⟨oc42, od42, .func (PySem.W.fnOf "_law_over" "_law_over" (defArgs s__law_over) (defBody s__law_over) (defScope s__law_over) .none kV42 dc42 pm42 an42 cd42 ct42), sl42⟩) (c42 : PySem.W.codeIn K cd42 "_law_over" = true) (k42 : PySem.W.keepIn K (.ref f42) = true)
    {f43 : Addr} {od43 an43 : Option Addr} {sl43 : Array (Option Value)} {oc43 kV43 dc43 pm43 cd43 ct43 : Value}
    (a43 : PySem.W.nsIn K mainGlobals "_law_round" = some (some (.ref f43))) (l43 : K.lookup f43 = some ⟨oc43, od43, .func (PySem.W.fnOf "_law_round" "_law_round" (defArgs s__law_round) (defBody s__law_round) (defScope s__law_round) .none kV43 dc43 pm43 an43 cd43 ct43), sl43⟩) (c43 : PySem.W.codeIn K cd43 "_law_round" = true) (k43 : PySem.W.keepIn K (.ref f43) = true)
    {f44 : Addr} {od44 an44 : Option Addr} {sl44 : Array (Option Value)} {oc44 kV44 dc44 pm44 cd44 ct44 : Value}
    (a44 : PySem.W.nsIn K mainGlobals "_law_worth_of" = some (some (.ref f44))) (l44 : K.lookup f44 = some ⟨oc44, od44, .func (PySem.W.fnOf "_law_worth_of" "_law_worth_of" (defArgs s__law_worth_of) (defBody s__law_worth_of) (defScope s__law_worth_of) .none kV44 dc44 pm44 an44 cd44 ct44), sl44⟩) (c44 : PySem.W.codeIn K cd44 "_law_worth_of" = true) (k44 : PySem.W.keepIn K (.ref f44) = true)
    {f45 : Addr} {od45 an45 : Option Addr} {sl45 : Array (Option Value)} {oc45 kV45 dc45 pm45 cd45 ct45 : Value}
    (a45 : PySem.W.nsIn K mainGlobals "_law_signed" = some (some (.ref f45))) (l45 : K.lookup f45 = some ⟨oc45, od45, .func (PySem.W.fnOf "_law_signed" "_law_signed" (defArgs s__law_signed) (defBody s__law_signed) (defScope s__law_signed) .none kV45 dc45 pm45 an45 cd45 ct45), sl45⟩) (c45 : PySem.W.codeIn K cd45 "_law_signed" = true) (k45 : PySem.W.keepIn K (.ref f45) = true)
    {f46 : Addr} {od46 an46 : Option Addr} {sl46 : Array (Option Value)} {oc46 kV46 dc46 pm46 cd46 ct46 : Value}
    (a46 : PySem.W.nsIn K mainGlobals "_law_drawn" = some (some (.ref f46))) (l46 : K.lookup f46 = some ⟨oc46, od46, .func (PySem.W.fnOf "_law_drawn" "_law_drawn" (defArgs s__law_drawn) (defBody s__law_drawn) (defScope s__law_drawn) .none kV46 dc46 pm46 an46 cd46 ct46), sl46⟩) (c46 : PySem.W.codeIn K cd46 "_law_drawn" = true) (k46 : PySem.W.keepIn K (.ref f46) = true)
    {f47 : Addr} {od47 an47 : Option Addr} {sl47 : Array (Option Value)} {oc47 kV47 dc47 pm47 cd47 ct47 : Value}
    (a47 : PySem.W.nsIn K mainGlobals "_law_sums" = some (some (.ref f47))) (l47 : K.lookup f47 = some ⟨oc47, od47, .func (PySem.W.fnOf "_law_sums" "_law_sums" (defArgs s__law_sums) (defBody s__law_sums) (defScope s__law_sums) .none kV47 dc47 pm47 an47 cd47 ct47), sl47⟩) (c47 : PySem.W.codeIn K cd47 "_law_sums" = true) (k47 : PySem.W.keepIn K (.ref f47) = true)
    {f48 : Addr} {od48 an48 : Option Addr} {sl48 : Array (Option Value)} {oc48 kV48 dc48 pm48 cd48 ct48 : Value}
    (a48 : PySem.W.nsIn K mainGlobals "_law_products" = some (some (.ref f48))) (l48 : K.lookup f48 = some ⟨oc48, od48, .func (PySem.W.fnOf "_law_products" "_law_products" (defArgs s__law_products) (defBody s__law_products) (defScope s__law_products) .none kV48 dc48 pm48 an48 cd48 ct48), sl48⟩) (c48 : PySem.W.codeIn K cd48 "_law_products" = true) (k48 : PySem.W.keepIn K (.ref f48) = true)
    {f49 : Addr} {od49 an49 : Option Addr} {sl49 : Array (Option Value)} {oc49 kV49 dc49 pm49 cd49 ct49 : Value}
    (a49 : PySem.W.nsIn K mainGlobals "_law_roots" = some (some (.ref f49))) (l49 : K.lookup f49 = some ⟨oc49, od49, .func (PySem.W.fnOf "_law_roots" "_law_roots" (defArgs s__law_roots) (defBody s__law_roots) (defScope s__law_roots) .none kV49 dc49 pm49 an49 cd49 ct49), sl49⟩) (c49 : PySem.W.codeIn K cd49 "_law_roots" = true) (k49 : PySem.W.keepIn K (.ref f49) = true)
    {f50 : Addr} {od50 an50 : Option Addr} {sl50 : Array (Option Value)} {oc50 kV50 dc50 pm50 cd50 ct50 : Value}
    (a50 : PySem.W.nsIn K mainGlobals "law" = some (some (.ref f50))) (l50 : K.lookup f50 = some ⟨oc50, od50, .func (PySem.W.fnOf "law" "law" (defArgs s_law) (defBody s_law) (defScope s_law) .none kV50 dc50 pm50 an50 cd50 ct50), sl50⟩) (c50 : PySem.W.codeIn K cd50 "law" = true) (k50 : PySem.W.keepIn K (.ref f50) = true)
    (z_gcd : PySem.W.nsIn K mainGlobals "gcd" = some (some (.builtin "math.gcd")))
    (z_list : PySem.W.nsIn K mainGlobals "list" = some none)
    (z_tuple : PySem.W.nsIn K mainGlobals "tuple" = some none)
    (z_range : PySem.W.nsIn K mainGlobals "range" = some none)
    (z_int : PySem.W.nsIn K mainGlobals "int" = some none)
    (z_abs : PySem.W.nsIn K mainGlobals "abs" = some none)
    (z_len : PySem.W.nsIn K mainGlobals "len" = some none)
    (z_isinstance : PySem.W.nsIn K mainGlobals "isinstance" = some none)
    (z_str : PySem.W.nsIn K mainGlobals "str" = some none)
    (z_bool : PySem.W.nsIn K mainGlobals "bool" = some none)
    {t_WIDE : Tok} (y_WIDE : PySem.W.nsIn K mainGlobals "WIDE" = some (some (.int 4 t_WIDE)))
    : ∃ fd : FuncData, (∀ (s : Shared) (v : Value), BindsTo s fd ⟨[v], []⟩ [("script", v)]) ∧ ∀ base : Heap, K.In base → base.Ns mainGlobals mg → FnOk l.prog w K mg base CX0 10 fa fd ["script"] (spLaw K) := by
  have e := hfa.symm.trans (PySem.W.mg_of X G a50)
  cases e
  have m_gcd := PySem.W.mg_of X G z_gcd
  have m_list := PySem.W.mg_none_of X G z_list
  have m_tuple := PySem.W.mg_none_of X G z_tuple
  have m_range := PySem.W.mg_none_of X G z_range
  have m_int := PySem.W.mg_none_of X G z_int
  have m_abs := PySem.W.mg_none_of X G z_abs
  have m_len := PySem.W.mg_none_of X G z_len
  have m_isinstance := PySem.W.mg_none_of X G z_isinstance
  have m_str := PySem.W.mg_none_of X G z_str
  have m_bool := PySem.W.mg_none_of X G z_bool
  have c_WIDE : ∃ t, mg "WIDE" = some (Value.int 4 t) := ⟨_, PySem.W.mg_of X G y_WIDE⟩
  refine ⟨PySem.W.fnOf "law" "law" (defArgs s_law) (defBody s_law) (defScope s_law) .none kV50 dc50 pm50 an50 cd50 ct50, fun s v => .of_eq rfl, fun base _ _ => ?_⟩
  have F_fraction := ok_fraction (P := l.prog) (wd := w) (base := base) (fun_mk (st := s_fraction) l0 c0 k0) (PySem.W.mg_of X G a0) m_gcd
  have F_row_product := ok_row_product (P := l.prog) (wd := w) (base := base) (fun_mk (st := s_row_product) l1 c1 k1) (PySem.W.mg_of X G a1) 
  have F_turned_row := ok_turned_row (P := l.prog) (wd := w) (base := base) (fun_mk (st := s_turned_row) l2 c2 k2) (PySem.W.mg_of X G a2) 
  have F_common_divisor := ok_common_divisor (P := l.prog) (wd := w) (base := base) (fun_mk (st := s_common_divisor) l3 c3 k3) (PySem.W.mg_of X G a3) m_gcd
  have F_row_times := ok_row_times (P := l.prog) (wd := w) (base := base) (fun_mk (st := s_row_times) l4 c4 k4) (PySem.W.mg_of X G a4) 
  have K_element := ok_element (P := l.prog) (wd := w) (base := base) (fun_mk (st := s_element) l5 c5 k5) (PySem.W.mg_of X G a5) F_common_divisor m_list m_tuple
  have F_element := K_element.fn
  have F_whole := ok_whole (P := l.prog) (wd := w) (base := base) (fun_mk (st := s_whole) l6 c6 k6) (PySem.W.mg_of X G a6) 
  have K_plus := ok_plus (P := l.prog) (wd := w) (base := base) (fun_mk (st := s_plus) l7 c7 k7) (PySem.W.mg_of X G a7) F_element m_range c_WIDE
  have F_plus := K_plus.fn
  have K_often := ok_often (P := l.prog) (wd := w) (base := base) (fun_mk (st := s_often) l8 c8 k8) (PySem.W.mg_of X G a8) F_element F_row_times
  have F_often := K_often.fn
  have K_less := ok_less (P := l.prog) (wd := w) (base := base) (fun_mk (st := s_less) l9 c9 k9) (PySem.W.mg_of X G a9) F_plus F_often
  have F_less := K_less.fn
  have K_by := ok_by (P := l.prog) (wd := w) (base := base) (fun_mk (st := s_by) l10 c10 k10) (PySem.W.mg_of X G a10) F_element F_row_product
  have F_by := K_by.fn
  have F_turned := ok_turned (P := l.prog) (wd := w) (base := base) (fun_mk (st := s_turned) l11 c11 k11) (PySem.W.mg_of X G a11) F_turned_row m_tuple
  have F_trace := ok_trace (P := l.prog) (wd := w) (base := base) (fun_mk (st := s_trace) l12 c12 k12) (PySem.W.mg_of X G a12) F_fraction
  have F_norm_of_row := ok_norm_of_row (P := l.prog) (wd := w) (base := base) (fun_mk (st := s_norm_of_row) l13 c13 k13) (PySem.W.mg_of X G a13) 
  have K_norm := ok_norm (P := l.prog) (wd := w) (base := base) (fun_mk (st := s_norm) l14 c14 k14) (PySem.W.mg_of X G a14) F_fraction F_norm_of_row
  have F_norm := K_norm.fn
  have K_back := ok_back (P := l.prog) (wd := w) (base := base) (fun_mk (st := s_back) l15 c15 k15) (PySem.W.mg_of X G a15) F_element F_norm_of_row F_row_times F_turned_row
  have F_back := K_back.fn
  have F_least_factor := ok_least_factor (P := l.prog) (wd := w) (base := base) (fun_mk (st := s_least_factor) l16 c16 k16) (PySem.W.mg_of X G a16) 
  have F_squares_modulo := ok_squares_modulo (P := l.prog) (wd := w) (base := base) (fun_mk (st := s_squares_modulo) l17 c17 k17) (PySem.W.mg_of X G a17) m_range
  have F_is_prime := ok_is_prime (P := l.prog) (wd := w) (base := base) (fun_mk (st := s_is_prime) l18 c18 k18) (PySem.W.mg_of X G a18) F_least_factor
  have F_symbol := ok_symbol (P := l.prog) (wd := w) (base := base) (fun_mk (st := s_symbol) l19 c19 k19) (PySem.W.mg_of X G a19) F_squares_modulo
  have F_least_companion := ok_least_companion (P := l.prog) (wd := w) (base := base) (fun_mk (st := s_least_companion) l20 c20 k20) (PySem.W.mg_of X G a20) F_is_prime F_symbol
  have F_rule_of := ok_rule_of (P := l.prog) (wd := w) (base := base) (fun_mk (st := s_rule_of) l21 c21 k21) (PySem.W.mg_of X G a21) F_least_companion
  have F__law_deal := ok__law_deal (P := l.prog) (wd := w) (base := base) (fun_mk (st := s__law_deal) l22 c22 k22) (PySem.W.mg_of X G a22) m_int m_abs
  have F__law_any := ok__law_any (P := l.prog) (wd := w) (base := base) (fun_mk (st := s__law_any) l23 c23 k23) (PySem.W.mg_of X G a23) m_int
  have F__law_wide := ok__law_wide (P := l.prog) (wd := w) (base := base) (fun_mk (st := s__law_wide) l24 c24 k24) (PySem.W.mg_of X G a24) F__law_any m_range m_int
  have F__law_of := ok__law_of (P := l.prog) (wd := w) (base := base) (fun_mk (st := s__law_of) l25 c25 k25) (PySem.W.mg_of X G a25) F__law_any m_len
  have F__law_same := ok__law_same (P := l.prog) (wd := w) (base := base) (fun_mk (st := s__law_same) l26 c26 k26) (PySem.W.mg_of X G a26) m_tuple m_isinstance m_len m_range m_str m_int m_bool
  have F__law_all := ok__law_all (P := l.prog) (wd := w) (base := base) (fun_mk (st := s__law_all) l27 c27 k27) (PySem.W.mg_of X G a27) F__law_same m_len
  have F__law_gcd := ok__law_gcd (P := l.prog) (wd := w) (base := base) (fun_mk (st := s__law_gcd) l28 c28 k28) (PySem.W.mg_of X G a28) m_abs m_int
  have F__law_gcd_of := ok__law_gcd_of (P := l.prog) (wd := w) (base := base) (fun_mk (st := s__law_gcd_of) l29 c29 k29) (PySem.W.mg_of X G a29) F__law_gcd
  have F__law_lowest := ok__law_lowest (P := l.prog) (wd := w) (base := base) (fun_mk (st := s__law_lowest) l30 c30 k30) (PySem.W.mg_of X G a30) F__law_gcd_of m_list m_tuple
  have F__law_fraction := ok__law_fraction (P := l.prog) (wd := w) (base := base) (fun_mk (st := s__law_fraction) l31 c31 k31) (PySem.W.mg_of X G a31) F__law_gcd
  have F__law_times := ok__law_times (P := l.prog) (wd := w) (base := base) (fun_mk (st := s__law_times) l32 c32 k32) (PySem.W.mg_of X G a32) 
  have F__law_by := ok__law_by (P := l.prog) (wd := w) (base := base) (fun_mk (st := s__law_by) l33 c33 k33) (PySem.W.mg_of X G a33) m_range
  have F__law_norm_of := ok__law_norm_of (P := l.prog) (wd := w) (base := base) (fun_mk (st := s__law_norm_of) l34 c34 k34) (PySem.W.mg_of X G a34) 
  have F__law_turned := ok__law_turned (P := l.prog) (wd := w) (base := base) (fun_mk (st := s__law_turned) l35 c35 k35) (PySem.W.mg_of X G a35) 
  have F__law_mul := ok__law_mul (P := l.prog) (wd := w) (base := base) (fun_mk (st := s__law_mul) l36 c36 k36) (PySem.W.mg_of X G a36) F__law_lowest F__law_by
  have F__law_back := ok__law_back (P := l.prog) (wd := w) (base := base) (fun_mk (st := s__law_back) l37 c37 k37) (PySem.W.mg_of X G a37) F__law_lowest F__law_norm_of F__law_times F__law_turned
  have F__law_signs := ok__law_signs (P := l.prog) (wd := w) (base := base) (fun_mk (st := s__law_signs) l38 c38 k38) (PySem.W.mg_of X G a38) m_int
  have F__law_row := ok__law_row (P := l.prog) (wd := w) (base := base) (fun_mk (st := s__law_row) l39 c39 k39) (PySem.W.mg_of X G a39) F__law_wide F__law_of F__law_any m_range
  have F__law_thing := ok__law_thing (P := l.prog) (wd := w) (base := base) (fun_mk (st := s__law_thing) l40 c40 k40) (PySem.W.mg_of X G a40) F__law_lowest F__law_wide F__law_of F__law_row
  have F__law_joined := ok__law_joined (P := l.prog) (wd := w) (base := base) (fun_mk (st := s__law_joined) l41 c41 k41) (PySem.W.mg_of X G a41) F__law_lowest m_range
  have F__law_over := ok__law_over (P := l.prog) (wd := w) (base := base) (fun_mk (st := s__law_over) l42 c42 k42) (PySem.W.mg_of X G a42) F__law_lowest F__law_times
  have F__law_round := ok__law_round (P := l.prog) (wd := w) (base := base) (fun_mk (st := s__law_round) l43 c43 k43) (PySem.W.mg_of X G a43) F__law_turned m_tuple
  have F__law_worth_of := ok__law_worth_of (P := l.prog) (wd := w) (base := base) (fun_mk (st := s__law_worth_of) l44 c44 k44) (PySem.W.mg_of X G a44) F__law_fraction F__law_norm_of
  have F__law_signed := ok__law_signed (P := l.prog) (wd := w) (base := base) (fun_mk (st := s__law_signed) l45 c45 k45) (PySem.W.mg_of X G a45) F__law_wide F__law_of F__law_any
  have F__law_drawn := ok__law_drawn (P := l.prog) (wd := w) (base := base) (fun_mk (st := s__law_drawn) l46 c46 k46) (PySem.W.mg_of X G a46) F__law_of F__law_any F__law_signed F__law_thing F__law_lowest m_list
  have F__law_sums := ok__law_sums (P := l.prog) (wd := w) (base := base) (fun_mk (st := s__law_sums) l47 c47 k47) (PySem.W.mg_of X G a47) F__law_signed F__law_wide F__law_of F__law_row F__law_times F__law_joined F_plus F_less F__law_round F_turned F__law_over F_often F__law_fraction F_trace F__law_lowest K_element F_element K_plus F_whole K_less K_often m_tuple
  have F__law_products := ok__law_products (P := l.prog) (wd := w) (base := base) (fun_mk (st := s__law_products) l48 c48 k48) (PySem.W.mg_of X G a48) F__law_mul K_by F_by F__law_joined F_plus F_less F__law_round F_turned F__law_worth_of F_norm K_norm F__law_fraction F_trace
  have F__law_roots := ok__law_roots (P := l.prog) (wd := w) (base := base) (fun_mk (st := s__law_roots) l49 c49 k49) (PySem.W.mg_of X G a49) F__law_worth_of F__law_fraction F__law_mul F_plus F_turned F_by F_trace F_less F_often F__law_back F_back F__law_round F_norm K_back
  exact ok_law (P := l.prog) (wd := w) (base := base) (fun_mk (st := s_law) l50 c50 k50) F__law_deal F__law_of F__law_signs F__law_drawn F_rule_of F__law_sums F__law_products F__law_roots F__law_all m_range law_holds
end Mp
open PySem PySem.W PyProof.Rows in
set_option maxRecDepth 100000 in
set_option maxHeartbeats 0 in
theorem PySem.Challenge.cw_allideals_k03_whole_sums_products_and_no_holds : PySem.Challenge.rw_allideals_k03_whole_sums_products_and_no.Holds := by
  w_on; o_law; k_head; (case hw => w_witness2)
  k_fill
  refine Mp.walk (l := PySem.Challenge.rw_allideals_k03_whole_sums_products_and_no) (k := 10) rfl rfl ⟨rfl, by decide, by decide⟩ (fun w h Y => PySem.W.kIn_of Y) ?F
  case F =>
    intro w mg fa h KX G hmg
    refine' Mp.all_mk KX G hmg ?a0 ?l0 ?c0 ?k0 ?a1 ?l1 ?c1 ?k1 ?a2 ?l2 ?c2 ?k2 ?a3 ?l3 ?c3 ?k3 ?a4 ?l4 ?c4 ?k4 ?a5 ?l5 ?c5 ?k5 ?a6 ?l6 ?c6 ?k6 ?a7 ?l7 ?c7 ?k7 ?a8 ?l8 ?c8 ?k8 ?a9 ?l9 ?c9 ?k9 ?a10 ?l10 ?c10 ?k10 ?a11 ?l11 ?c11 ?k11 ?a12 ?l12 ?c12 ?k12 ?a13 ?l13 ?c13 ?k13 ?a14 ?l14 ?c14 ?k14 ?a15 ?l15 ?c15 ?k15 ?a16 ?l16 ?c16 ?k16 ?a17 ?l17 ?c17 ?k17 ?a18 ?l18 ?c18 ?k18 ?a19 ?l19 ?c19 ?k19 ?a20 ?l20 ?c20 ?k20 ?a21 ?l21 ?c21 ?k21 ?a22 ?l22 ?c22 ?k22 ?a23 ?l23 ?c23 ?k23 ?a24 ?l24 ?c24 ?k24 ?a25 ?l25 ?c25 ?k25 ?a26 ?l26 ?c26 ?k26 ?a27 ?l27 ?c27 ?k27 ?a28 ?l28 ?c28 ?k28 ?a29 ?l29 ?c29 ?k29 ?a30 ?l30 ?c30 ?k30 ?a31 ?l31 ?c31 ?k31 ?a32 ?l32 ?c32 ?k32 ?a33 ?l33 ?c33 ?k33 ?a34 ?l34 ?c34 ?k34 ?a35 ?l35 ?c35 ?k35 ?a36 ?l36 ?c36 ?k36 ?a37 ?l37 ?c37 ?k37 ?a38 ?l38 ?c38 ?k38 ?a39 ?l39 ?c39 ?k39 ?a40 ?l40 ?c40 ?k40 ?a41 ?l41 ?c41 ?k41 ?a42 ?l42 ?c42 ?k42 ?a43 ?l43 ?c43 ?k43 ?a44 ?l44 ?c44 ?k44 ?a45 ?l45 ?c45 ?k45 ?a46 ?l46 ?c46 ?k46 ?a47 ?l47 ?c47 ?k47 ?a48 ?l48 ?c48 ?k48 ?a49 ?l49 ?c49 ?k49 ?a50 ?l50 ?c50 ?k50 ?z_gcd ?z_list ?z_tuple ?z_range ?z_int ?z_abs ?z_len ?z_isinstance ?z_str ?z_bool ?y_WIDE
    (case a0 => k_is)
    (case l0 => k_is)
    (case c0 => k_is)
    (case k0 => k_is)
    (case a1 => k_is)
    (case l1 => k_is)
    (case c1 => k_is)
    (case k1 => k_is)
    (case a2 => k_is)
    (case l2 => k_is)
    (case c2 => k_is)
    (case k2 => k_is)
    (case a3 => k_is)
    (case l3 => k_is)
    (case c3 => k_is)
    (case k3 => k_is)
    (case a4 => k_is)
    (case l4 => k_is)
    (case c4 => k_is)
    (case k4 => k_is)
    (case a5 => k_is)
    (case l5 => k_is)
    (case c5 => k_is)
    (case k5 => k_is)
    (case a6 => k_is)
    (case l6 => k_is)
    (case c6 => k_is)
    (case k6 => k_is)
    (case a7 => k_is)
    (case l7 => k_is)
    (case c7 => k_is)
    (case k7 => k_is)
    (case a8 => k_is)
    (case l8 => k_is)
    (case c8 => k_is)
    (case k8 => k_is)
    (case a9 => k_is)
    (case l9 => k_is)
    (case c9 => k_is)
    (case k9 => k_is)
    (case a10 => k_is)
    (case l10 => k_is)
    (case c10 => k_is)
    (case k10 => k_is)
    (case a11 => k_is)
    (case l11 => k_is)
    (case c11 => k_is)
    (case k11 => k_is)
    (case a12 => k_is)
    (case l12 => k_is)
    (case c12 => k_is)
    (case k12 => k_is)
    (case a13 => k_is)
    (case l13 => k_is)
    (case c13 => k_is)
    (case k13 => k_is)
    (case a14 => k_is)
    (case l14 => k_is)
    (case c14 => k_is)
    (case k14 => k_is)
    (case a15 => k_is)
    (case l15 => k_is)
    (case c15 => k_is)
    (case k15 => k_is)
    (case a16 => k_is)
    (case l16 => k_is)
    (case c16 => k_is)
    (case k16 => k_is)
    (case a17 => k_is)
    (case l17 => k_is)
    (case c17 => k_is)
    (case k17 => k_is)
    (case a18 => k_is)
    (case l18 => k_is)
    (case c18 => k_is)
    (case k18 => k_is)
    (case a19 => k_is)
    (case l19 => k_is)
    (case c19 => k_is)
    (case k19 => k_is)
    (case a20 => k_is)
    (case l20 => k_is)
    (case c20 => k_is)
    (case k20 => k_is)
    (case a21 => k_is)
    (case l21 => k_is)
    (case c21 => k_is)
    (case k21 => k_is)
    (case a22 => k_is)
    (case l22 => k_is)
    (case c22 => k_is)
    (case k22 => k_is)
    (case a23 => k_is)
    (case l23 => k_is)
    (case c23 => k_is)
    (case k23 => k_is)
    (case a24 => k_is)
    (case l24 => k_is)
    (case c24 => k_is)
    (case k24 => k_is)
    (case a25 => k_is)
    (case l25 => k_is)
    (case c25 => k_is)
    (case k25 => k_is)
    (case a26 => k_is)
    (case l26 => k_is)
    (case c26 => k_is)
    (case k26 => k_is)
    (case a27 => k_is)
    (case l27 => k_is)
    (case c27 => k_is)
    (case k27 => k_is)
    (case a28 => k_is)
    (case l28 => k_is)
    (case c28 => k_is)
    (case k28 => k_is)
    (case a29 => k_is)
    (case l29 => k_is)
    (case c29 => k_is)
    (case k29 => k_is)
    (case a30 => k_is)
    (case l30 => k_is)
    (case c30 => k_is)
    (case k30 => k_is)
    (case a31 => k_is)
    (case l31 => k_is)
    (case c31 => k_is)
    (case k31 => k_is)
    (case a32 => k_is)
    (case l32 => k_is)
    (case c32 => k_is)
    (case k32 => k_is)
    (case a33 => k_is)
    (case l33 => k_is)
    (case c33 => k_is)
    (case k33 => k_is)
    (case a34 => k_is)
    (case l34 => k_is)
    (case c34 => k_is)
    (case k34 => k_is)
    (case a35 => k_is)
    (case l35 => k_is)
    (case c35 => k_is)
    (case k35 => k_is)
    (case a36 => k_is)
    (case l36 => k_is)
    (case c36 => k_is)
    (case k36 => k_is)
    (case a37 => k_is)
    (case l37 => k_is)
    (case c37 => k_is)
    (case k37 => k_is)
    (case a38 => k_is)
    (case l38 => k_is)
    (case c38 => k_is)
    (case k38 => k_is)
    (case a39 => k_is)
    (case l39 => k_is)
    (case c39 => k_is)
    (case k39 => k_is)
    (case a40 => k_is)
    (case l40 => k_is)
    (case c40 => k_is)
    (case k40 => k_is)
    (case a41 => k_is)
    (case l41 => k_is)
    (case c41 => k_is)
    (case k41 => k_is)
    (case a42 => k_is)
    (case l42 => k_is)
    (case c42 => k_is)
    (case k42 => k_is)
    (case a43 => k_is)
    (case l43 => k_is)
    (case c43 => k_is)
    (case k43 => k_is)
    (case a44 => k_is)
    (case l44 => k_is)
    (case c44 => k_is)
    (case k44 => k_is)
    (case a45 => k_is)
    (case l45 => k_is)
    (case c45 => k_is)
    (case k45 => k_is)
    (case a46 => k_is)
    (case l46 => k_is)
    (case c46 => k_is)
    (case k46 => k_is)
    (case a47 => k_is)
    (case l47 => k_is)
    (case c47 => k_is)
    (case k47 => k_is)
    (case a48 => k_is)
    (case l48 => k_is)
    (case c48 => k_is)
    (case k48 => k_is)
    (case a49 => k_is)
    (case l49 => k_is)
    (case c49 => k_is)
    (case k49 => k_is)
    (case a50 => k_is)
    (case l50 => k_is)
    (case c50 => k_is)
    (case k50 => k_is)
    (case z_gcd => k_is)
    (case z_list => k_is)
    (case z_tuple => k_is)
    (case z_range => k_is)
    (case z_int => k_is)
    (case z_abs => k_is)
    (case z_len => k_is)
    (case z_isinstance => k_is)
    (case z_str => k_is)
    (case z_bool => k_is)
    (case y_WIDE => k_is)

