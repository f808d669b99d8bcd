import PyProof.Rows.All
import Wide.All
import OpenK.AllK
import Wide.FinOn
import HandS.ForMost
import HandS.ForExc
import HandS.Property
import HandS.Defaults
import HandS.Flow
import HandS.TupAny
import HandS.TupMul
import HandS.Conv
import HandS.SuiteRaise
import HandS.RaiseFrom
import HandS.IsInst
import HandS.StrMore
import HandS.DictTup
import HandS.HeadEnd
import HandS.HeadHook2
import HandS.Head2
import HandS.Wide
import HandS.EndBits
import HandS.SetKeys
import HandS.SetFor
import HandS.Style
import HandS.Iter
import HandS.Codes
import HandS.ExcIs
import HandS.Small
import HandS.More
import PySem.Challenge.RW_reactivesynth_k71_matches
import HandS.HeadHook4
import HandS.HeadWalk
import HandS.MakeKwOnly
set_option Elab.async false
set_option linter.all false
set_option maxRecDepth 100000
set_option maxHeartbeats 4000000
/-! Z: typed values, owned cells, judgements by symbolic states. -/
namespace Z
open PySem PySem.Spec PyProof.Rows L2
abbrev Sub (F F' : Hp) : Prop := ∀ b o, F b = some o → F' b = some o
theorem Sub.refl (F : Hp) : Sub F F := fun _ _ h => h
theorem Sub.trans {F G H : Hp} (a : Sub F G) (b : Sub G H) : Sub F H := fun x o h => b x o (a x o h)
theorem Sub.new {F : Hp} {p : Addr} {o : HO} (h : F p = none) : Sub F (upd F p o) := fun a u e => by
  rw [upd_ne (ne_of_none e h)]; exact e
/-- what is true of a value over the frozen heap; it stays true -/
structure VP where
  p : Hp → V → Prop
  mono : ∀ {F F' : Hp} {v : V}, Sub F F' → p F v → p F' v
/-- the value itself -/
def isV (x : V) : VP := ⟨fun _ v => v = x, fun _ h => h⟩
abbrev isI (i : Int) : VP := isV (.int i)
abbrev isB (b : Bool) : VP := isV (.bl b)
abbrev isS (s : Str) : VP := isV (.str s)
abbrev isN : VP := isV .non
abbrev isR (a : Addr) : VP := isV (.ref a)
/-- nothing is known -/
def anyV : VP := ⟨fun _ _ => True, fun _ h => h⟩
inductive All (F : Hp) : List VP → List V → Prop
  | nil : All F [] []
  | cons {P : VP} {v : V} {Ps : List VP} {vs : List V} : P.p F v → All F Ps vs → All F (P :: Ps) (v :: vs)
section
variable {F F' : Hp} {P : VP} {Ps Qs : List VP} {v : V} {vs ws : List V}
theorem All.mono (s : Sub F F') : ∀ {Ps vs}, All F Ps vs → All F' Ps vs
  | _, _, .nil => .nil
  | _, _, .cons h t => .cons (P := _) (VP.mono _ s h) (All.mono s t)
theorem All.len : ∀ {Ps : List VP} {vs : List V}, All F Ps vs → Ps.length = vs.length
  | _, _, .nil => rfl
  | _, _, .cons _ t => by rw [List.length_cons, List.length_cons, All.len t]
theorem All.get : ∀ {Ps : List VP} {vs : List V} {i : Nat} {P : VP}, All F Ps vs → Ps[i]? = some P → ∃ v, vs[i]? = some v ∧ P.p F v
  | _, _, _, _, .nil, e => by simp at e
  | _, _, 0, _, .cons h _, e => by simp at e; subst e; exact ⟨_, rfl, h⟩
  | _, _, i + 1, _, .cons _ t, e => by
    obtain ⟨v, h1, h2⟩ := All.get (i := i) t (by simpa using e)
    exact ⟨v, by simpa using h1, h2⟩
theorem All.getV : ∀ {Ps : List VP} {vs : List V} {i : Nat} {v : V}, All F Ps vs → vs[i]? = some v → ∃ P, Ps[i]? = some P ∧ P.p F v
  | _, _, _, _, .nil, e => by simp at e
  | _, _, 0, _, .cons h _, e => by simp at e; subst e; exact ⟨_, rfl, h⟩
  | _, _, i + 1, _, .cons _ t, e => by
    obtain ⟨v, h1, h2⟩ := All.getV (i := i) t (by simpa using e)
    exact ⟨v, by simpa using h1, h2⟩
theorem All.append : ∀ {Ps Qs : List VP} {vs ws : List V}, All F Ps vs → All F Qs ws → All F (Ps ++ Qs) (vs ++ ws)
  | _, _, _, _, .nil, s => s
  | _, _, _, _, .cons h t, s => .cons h (All.append t s)
theorem All.split : ∀ {Ps Qs : List VP} {vs ws : List V}, Ps.length = vs.length → All F (Ps ++ Qs) (vs ++ ws) → All F Ps vs ∧ All F Qs ws
  | [], _, [], _, _, h => ⟨.nil, h⟩
  | _ :: _, _, [], _, e, _ => by simp at e
  | [], _, _ :: _, _, e, _ => by simp at e
  | _ :: _, _, _ :: _, _, e, .cons h t =>
    let ⟨a, b⟩ := All.split (by simpa using e) t
    ⟨.cons h a, b⟩
theorem All.set : ∀ {Ps : List VP} {vs : List V} (i : Nat) {P : VP} {v : V}, P.p F v → All F Ps vs → All F (Ps.set i P) (vs.set i v)
  | _, _, _, _, _, _, .nil => .nil
  | _, _, 0, _, _, h, .cons _ t => .cons h t
  | _, _, i + 1, _, _, h, .cons q t => .cons q (All.set i h t)
theorem All.take : ∀ {Ps : List VP} {vs : List V} (n : Nat), All F Ps vs → All F (Ps.take n) (vs.take n)
  | _, _, 0, _ => .nil
  | _, _, _ + 1, .nil => .nil
  | _, _, n + 1, .cons r t => .cons r (All.take n t)
theorem All.drop : ∀ {Ps : List VP} {vs : List V} (n : Nat), All F Ps vs → All F (Ps.drop n) (vs.drop n)
  | _, _, 0, r => r
  | _, _, _ + 1, .nil => .nil
  | _, _, n + 1, .cons _ t => All.drop n t
theorem All.reverse : ∀ {Ps : List VP} {vs : List V}, All F Ps vs → All F Ps.reverse vs.reverse
  | _, _, .nil => .nil
  | _, _, .cons h t => by rw [List.reverse_cons, List.reverse_cons]; exact All.append (All.reverse t) (.cons h .nil)
theorem All.dropLast {Ps : List VP} {vs : List V} (h : All F Ps vs) : All F Ps.dropLast vs.dropLast := by
  rw [List.dropLast_eq_take, List.dropLast_eq_take, h.len]; exact h.take _
theorem All.isV : ∀ {xs vs : List V}, All F (xs.map Z.isV) vs → vs = xs
  | [], _, .nil => rfl
  | _ :: _, _, .cons h t => by rw [All.isV t]; rw [show _ = _ from h]
theorem All.ofV : ∀ (xs : List V), All F (xs.map Z.isV) xs
  | [] => .nil
  | _ :: xs => .cons rfl (All.ofV xs)
theorem All.imp : ∀ {Ps Qs : List VP} {vs : List V}, All F Ps vs → Ps.length = Qs.length → (∀ (i : Nat) P Q, Ps[i]? = some P → Qs[i]? = some Q → ∀ v, P.p F v → Q.p F v) → All F Qs vs
  | _, [], _, .nil, _, _ => .nil
  | _, _ :: _, _, .nil, e, _ => by simp at e
  | _, [], _, .cons _ _, e, _ => by simp at e
  | _, _ :: _, _, .cons h t, e, k => .cons (k 0 _ _ rfl rfl _ h) (All.imp t (by simpa using e) fun i P Q a b => k (i + 1) P Q (by simpa using a) (by simpa using b))
end
theorem sqL_mono {K : PySem.W.Frag} {F F' : Hp} {a : Addr} {xs : List V} (e : Sub F F') (h : SqL K F a xs) : SqL K F' a xs := by
  rcases h with (h | ⟨o, h⟩) | h
  · exact .inl (.inl (e _ _ h))
  · exact .inl (.inr ⟨o, e _ _ h⟩)
  · exact .inr h
theorem sqT_mono {K : PySem.W.Frag} {F F' : Hp} {a : Addr} {xs : List V} (e : Sub F F') (h : SqT K F a xs) : SqT K F' a xs := by
  rcases h with (h | ⟨o, h⟩) | h
  · exact .inl (.inl (e _ _ h))
  · exact .inl (.inr ⟨o, e _ _ h⟩)
  · exact .inr h
/-- a frozen list, a tuple -/
def lst (Ps : List VP) : VP := ⟨fun F v => ∃ a vs, v = .ref a ∧ F a = some (.lst vs) ∧ All F Ps vs, fun s ⟨a, vs, e, h, t⟩ => ⟨a, vs, e, s _ _ h, t.mono s⟩⟩
/-- .. or the script, a list of the module -/
def lstG (K : PySem.W.Frag) (Ps : List VP) : VP := ⟨fun F v => ∃ a vs, v = .ref a ∧ SqL K F a vs ∧ All F Ps vs, fun s ⟨a, vs, e, h, t⟩ => ⟨a, vs, e, sqL_mono s h, t.mono s⟩⟩
def IsL (K : PySem.W.Frag) (P : VP) (Ps : List VP) : Prop := ∀ F v, P.p F v → ∃ a vs, v = .ref a ∧ SqL K F a vs ∧ All F Ps vs
theorem isL_lst {K : PySem.W.Frag} {Ps : List VP} : IsL K (lst Ps) Ps := fun _ _ ⟨a, vs, e, h, t⟩ => ⟨a, vs, e, SqL.of h, t⟩
theorem isL_lstG {K : PySem.W.Frag} {Ps : List VP} : IsL K (lstG K Ps) Ps := fun _ _ h => h
def tup (K : PySem.W.Frag) (Ps : List VP) : VP := ⟨fun F v => ∃ a vs, v = .ref a ∧ SqT K F a vs ∧ All F Ps vs, fun s ⟨a, vs, e, h, t⟩ => ⟨a, vs, e, sqT_mono s h, t.mono s⟩⟩
/-- fields -/
inductive Fl (F : Hp) : List (Str × VP) → List (Str × V) → Prop
  | nil : Fl F [] []
  | cons {f : Str} {P : VP} {v : V} {fs : List (Str × VP)} {gs : List (Str × V)} : P.p F v → Fl F fs gs → Fl F ((f, P) :: fs) ((f, v) :: gs)
theorem Fl.mono {F F' : Hp} (s : Sub F F') : ∀ {fs gs}, Fl F fs gs → Fl F' fs gs
  | _, _, .nil => .nil
  | _, _, .cons h t => .cons (P := _) (VP.mono _ s h) (Fl.mono s t)
theorem Fl.len {F : Hp} : ∀ {fs : List (Str × VP)} {gs : List (Str × V)}, Fl F fs gs → fs.length = gs.length
  | _, _, .nil => rfl
  | _, _, .cons _ t => by rw [List.length_cons, List.length_cons, Fl.len t]
theorem Fl.look {F : Hp} {f : Str} {P : VP} : ∀ {fs : List (Str × VP)} {gs : List (Str × V)}, Fl F fs gs → fs.lookup f = some P → ∃ v, gs.lookup f = some v ∧ P.p F v
  | _, _, .nil, e => by simp at e
  | (g, Q) :: fs, (_, v) :: gs, .cons h t, e => by
    rw [List.lookup_cons] at e ⊢
    cases q : (f == g) with
    | true => rw [q] at e; cases e; exact ⟨v, rfl, h⟩
    | false => rw [q] at e; exact Fl.look t e
theorem Fl.none {F : Hp} {f : Str} : ∀ {fs : List (Str × VP)} {gs : List (Str × V)}, Fl F fs gs → fs.lookup f = .none → gs.lookup f = .none
  | _, _, .nil, _ => rfl
  | (g, Q) :: fs, (_, v) :: gs, .cons h t, e => by
    rw [List.lookup_cons] at e ⊢
    cases q : (f == g) with
    | true => rw [q] at e; cases e
    | false => rw [q] at e; exact Fl.none t e
def putP (f : Str) (P : VP) : List (Str × VP) → List (Str × VP)
  | [] => [(f, P)]
  | (g, x) :: r => if g = f then (g, P) :: r else (g, x) :: putP f P r
theorem Fl.put {F : Hp} {f : Str} {P : VP} {v : V} (h : P.p F v) : ∀ {fs : List (Str × VP)} {gs : List (Str × V)}, Fl F fs gs → Fl F (putP f P fs) (putF f v gs)
  | _, _, .nil => .cons h .nil
  | (g, Q) :: fs, (_, u) :: gs, .cons q t => by
    show Fl F (if g = f then (g, P) :: fs else (g, Q) :: putP f P fs) (if g = f then (g, v) :: gs else (g, u) :: putF f v gs)
    by_cases e : g = f
    · rw [if_pos e, if_pos e]; exact .cons h t
    · rw [if_neg e, if_neg e]; exact .cons q (Fl.put h t)
/-- a frozen instance -/
def ins (C : Addr) (fs : List (Str × VP)) : VP := ⟨fun F v => ∃ a dx gs, v = .ref a ∧ F a = some (.ins C dx gs) ∧ Fl F fs gs, fun s ⟨a, dx, gs, e, h, t⟩ => ⟨a, dx, gs, e, s _ _ h, t.mono s⟩⟩
/-- what is true of an owned object -/
structure HP where
  p : Hp → HO → Prop
  mono : ∀ {F F' : Hp} {o : HO}, Sub F F' → p F o → p F' o
def cL (Ps : List VP) : HP := ⟨fun F o => ∃ vs, o = .lst vs ∧ All F Ps vs, fun s ⟨vs, e, h⟩ => ⟨vs, e, h.mono s⟩⟩
def cI (C : Addr) (fs : List (Str × VP)) : HP := ⟨fun F o => ∃ dx gs, o = .ins C dx gs ∧ Fl F fs gs, fun s ⟨dx, vs, e, h⟩ => ⟨dx, vs, e, h.mono s⟩⟩
inductive Kv {κ : Type} (F : Hp) : List (κ × VP) → List (κ × V) → Prop
  | nil : Kv F [] []
  | cons {k : κ} {P : VP} {v : V} {fs : List (κ × VP)} {gs : List (κ × V)} : P.p F v → Kv F fs gs → Kv F ((k, P) :: fs) ((k, v) :: gs)
theorem Kv.mono {κ : Type} {F F' : Hp} (s : Sub F F') : ∀ {fs : List (κ × VP)} {gs : List (κ × V)}, Kv F fs gs → Kv F' fs gs
  | _, _, .nil => .nil
  | _, _, .cons h t => .cons (P := _) (VP.mono _ s h) (Kv.mono s t)
def cD (kvs : List (Key × VP)) : HP := ⟨fun F o => ∃ gs, o = .dK gs ∧ Kv F kvs gs, fun s ⟨vs, e, h⟩ => ⟨vs, e, h.mono s⟩⟩
def cT (kvs : List (List Key × VP)) : HP := ⟨fun F o => ∃ gs, o = .dT gs ∧ Kv F kvs gs, fun s ⟨vs, e, h⟩ => ⟨vs, e, h.mono s⟩⟩
/-- an exception's own dict -/
def cX (fs : List (Str × VP)) : HP := ⟨fun F o => ∃ gs, o = .xd gs ∧ Fl F fs gs, fun s ⟨vs, e, h⟩ => ⟨vs, e, h.mono s⟩⟩
abbrev Ow := List (Addr × HP)
/-- the entry: what was frozen, which addresses were owned, the heap -/
structure En where
  F : Hp
  A : List Addr
  H : Hp
/-- the heap is the frozen part, the owned cells, and things of others, all as at the entry -/
structure Gd (e : En) (F : Hp) (Ts : Ow) (H : Hp) : Prop where
  sub : Sub F H
  own : ∀ x ∈ Ts, F x.1 = none ∧ ∃ o, H x.1 = some o ∧ x.2.p F o
  nd : (Ts.map Prod.fst).Nodup
  keep : ∀ b o, e.H b = some o → b ∉ e.A → H b = some o
  grow : Sub e.F F
  newF : ∀ b, F b ≠ none → e.F b ≠ none ∨ e.H b = none ∨ b ∈ e.A
  newT : ∀ b, b ∈ Ts.map Prod.fst → e.H b = none ∨ b ∈ e.A
inductive Sl (F : Hp) : List (Option VP) → L2.St → Prop
  | nil : Sl F [] []
  | no {x : Option V} {Γ : List (Option VP)} {σ : L2.St} : Sl F Γ σ → Sl F (none :: Γ) (x :: σ)
  | yes {P : VP} {v : V} {Γ : List (Option VP)} {σ : L2.St} : P.p F v → Sl F Γ σ → Sl F (some P :: Γ) (some v :: σ)
section
variable {F F' : Hp}
theorem Sl.mono (s : Sub F F') : ∀ {Γ σ}, Sl F Γ σ → Sl F' Γ σ
  | _, _, .nil => .nil
  | _, _, .no t => .no (Sl.mono s t)
  | _, _, .yes h t => .yes (P := _) (VP.mono _ s h) (Sl.mono s t)
theorem Sl.len : ∀ {Γ : List (Option VP)} {σ : L2.St}, Sl F Γ σ → Γ.length = σ.length
  | _, _, .nil => rfl
  | _, _, .no t => by rw [List.length_cons, List.length_cons, Sl.len t]
  | _, _, .yes _ t => by rw [List.length_cons, List.length_cons, Sl.len t]
theorem Sl.get : ∀ {Γ : List (Option VP)} {σ : L2.St} {i : Nat} {P : VP}, Sl F Γ σ → Γ[i]? = some (some P) → ∃ v, σ[i]? = some (some v) ∧ P.p F v
  | _, _, _, _, .nil, e => by simp at e
  | _, _, 0, _, .no _, e => by simp at e
  | _, _, 0, _, .yes h _, e => by simp at e; subst e; exact ⟨_, rfl, h⟩
  | _, _, i + 1, _, .no t, e => by
    obtain ⟨v, h1, h2⟩ := Sl.get (i := i) t (by simpa using e)
    exact ⟨v, by simpa using h1, h2⟩
  | _, _, i + 1, _, .yes _ t, e => by
    obtain ⟨v, h1, h2⟩ := Sl.get (i := i) t (by simpa using e)
    exact ⟨v, by simpa using h1, h2⟩
theorem Sl.set : ∀ {Γ : List (Option VP)} {σ : L2.St} (i : Nat) {P : VP} {v : V}, P.p F v → Sl F Γ σ → Sl F (Γ.set i (some P)) (σ.set i (some v))
  | _, _, _, _, _, _, .nil => .nil
  | _, _, 0, _, _, h, .no t => .yes h t
  | _, _, 0, _, _, h, .yes _ t => .yes h t
  | _, _, i + 1, _, _, h, .no t => .no (Sl.set i h t)
  | _, _, i + 1, _, _, h, .yes q t => .yes q (Sl.set i h t)
theorem Sl.forget : ∀ {Γ : List (Option VP)} {σ : L2.St} (i : Nat) (x : Option V), Sl F Γ σ → Sl F (Γ.set i none) (σ.set i x)
  | _, _, _, _, .nil => .nil
  | _, _, 0, _, .no t => .no t
  | _, _, 0, _, .yes _ t => .no t
  | _, _, i + 1, x, .no t => .no (Sl.forget i x t)
  | _, _, i + 1, x, .yes q t => .yes q (Sl.forget i x t)
/-- known of fewer slots, less of a slot -/
inductive Wk (F : Hp) : List (Option VP) → List (Option VP) → Prop
  | nil : Wk F [] []
  | no {x : Option VP} {Γ Γ'} : Wk F Γ Γ' → Wk F (x :: Γ) (none :: Γ')
  | yes {P Q : VP} {Γ Γ'} : (∀ v, P.p F v → Q.p F v) → Wk F Γ Γ' → Wk F (some P :: Γ) (some Q :: Γ')
theorem Sl.wk : ∀ {Γ Γ' : List (Option VP)} {σ : L2.St}, Wk F Γ Γ' → Sl F Γ σ → Sl F Γ' σ
  | _, _, _, .nil, .nil => .nil
  | _, _, _, .no w, .no t => .no (Sl.wk w t)
  | _, _, _, .no w, .yes _ t => .no (Sl.wk w t)
  | _, _, _, .yes k w, .yes h t => .yes (k _ h) (Sl.wk w t)
theorem Wk.refl : ∀ Γ : List (Option VP), Wk F Γ Γ
  | [] => .nil
  | none :: Γ => .no (Wk.refl Γ)
  | some _ :: Γ => .yes (fun _ h => h) (Wk.refl Γ)
end
/-- THE STATE: the entry, the slots, the values at hand, the owned cells -/
structure S (e : En) (Γ : List (Option VP)) (Δ : List VP) (Ts : Ow) (σ : L2.St) (vs : List V) (H : Hp) : Prop where
  ex : ∃ F, Gd e F Ts H ∧ Sl F Γ σ ∧ All F Δ vs
section
variable {e : En} {Γ Γ' : List (Option VP)} {Δ Δ' : List VP} {Ts Ts' : Ow} {σ σ' : L2.St} {vs vs' : List V} {H : Hp} {P Q : VP} {v : V}
theorem S.map (s : S e Γ Δ Ts σ vs H) (f : ∀ F, Sub F H → Sl F Γ σ → All F Δ vs → Sl F Γ' σ' ∧ All F Δ' vs') : S e Γ' Δ' Ts σ' vs' H :=
  let ⟨F, g, a, b⟩ := s.ex
  let ⟨c, d⟩ := f F g.sub a b
  ⟨F, g, c, d⟩
theorem S.var {i : Nat} (s : S e Γ Δ Ts σ vs H) (h : Γ[i]? = some (some P)) : ∃ v, σ[i]? = some (some v) ∧ S e Γ (P :: Δ) Ts σ (v :: vs) H := by
  obtain ⟨F, g, a, b⟩ := s.ex
  obtain ⟨v, h1, h2⟩ := a.get h
  exact ⟨v, h1, F, g, a, .cons h2 b⟩
theorem S.put {i : Nat} (s : S e Γ (P :: Δ) Ts σ (v :: vs) H) : S e (Γ.set i (some P)) Δ Ts (σ.set i (some v)) vs H := s.map fun F _ a b => by
  cases b with
  | cons h t => exact ⟨a.set i h, t⟩
theorem S.pop (s : S e Γ (P :: Δ) Ts σ (v :: vs) H) : S e Γ Δ Ts σ vs H := s.map fun F _ a b => by
  cases b with
  | cons h t => exact ⟨a, t⟩
theorem S.push (s : S e Γ Δ Ts σ vs H) (h : ∀ F, Sub F H → P.p F v) : S e Γ (P :: Δ) Ts σ (v :: vs) H := s.map fun F k a b => ⟨a, .cons (h F k) b⟩
theorem S.top (s : S e Γ (P :: Δ) Ts σ (v :: vs) H) : ∃ F, Sub F H ∧ P.p F v := by
  obtain ⟨F, g, a, b⟩ := s.ex
  cases b with
  | cons h t => exact ⟨F, g.sub, h⟩
theorem S.top2 {u : V} (s : S e Γ (P :: Q :: Δ) Ts σ (v :: u :: vs) H) : ∃ F, Sub F H ∧ P.p F v ∧ Q.p F u := by
  obtain ⟨F, g, a, b⟩ := s.ex
  cases b with
  | cons h t => cases t with
    | cons h2 t => exact ⟨F, g.sub, h, h2⟩
theorem S.topV {x : V} (s : S e Γ (isV x :: Δ) Ts σ (v :: vs) H) : v = x := let ⟨_, _, h⟩ := s.top; h
/-- the top by something that follows from it -/
theorem S.imp {w : V} (s : S e Γ (P :: Δ) Ts σ (v :: vs) H) (h : ∀ F, Sub F H → P.p F v → Q.p F w) : S e Γ (Q :: Δ) Ts σ (w :: vs) H := s.map fun F k a b => by
  cases b with
  | cons h1 t => exact ⟨a, .cons (h F k h1) t⟩
theorem S.imp2 {R : VP} {u w : V} (s : S e Γ (P :: Q :: Δ) Ts σ (v :: u :: vs) H) (h : ∀ F, Sub F H → P.p F v → Q.p F u → R.p F w) : S e Γ (R :: Δ) Ts σ (w :: vs) H := s.map fun F k a b => by
  cases b with
  | cons h1 t => cases t with
    | cons h2 t => exact ⟨a, .cons (h F k h1 h2) t⟩
theorem S.wk (s : S e Γ Δ Ts σ vs H) (w : ∀ F, Wk F Γ Γ') : S e Γ' Δ Ts σ vs H := s.map fun F _ a b => ⟨a.wk (w F), b⟩
theorem S.nov (s : S e Γ Δ Ts σ vs H) : S e Γ [] Ts σ [] H := s.map fun F _ a b => ⟨a, .nil⟩
theorem S.nosl (s : S e Γ Δ Ts σ vs H) : S e [] Δ Ts [] vs H := s.map fun F _ a b => ⟨.nil, b⟩
/-! ### the heap's steps -/
theorem map_set {α β : Type} (f : α → β) : ∀ (l : List α) (i : Nat) (x : α), (l.set i x).map f = (l.map f).set i (f x)
  | [], _, _ => rfl
  | _ :: _, 0, _ => rfl
  | a :: l, i + 1, x => by rw [List.set_cons_succ, List.map_cons, List.map_cons, List.set_cons_succ, map_set f l i x]
theorem set_same {α : Type} : ∀ {l : List α} {i : Nat} {x : α}, l[i]? = some x → l.set i x = l
  | [], _, _, h => by simp at h
  | _ :: _, 0, _, h => by simp at h; subst h; rfl
  | a :: l, i + 1, x, h => by rw [List.set_cons_succ, set_same (l := l) (i := i) (by simpa using h)]
theorem nodup_at {α β : Type} {l : List (α × β)} (hN : (l.map Prod.fst).Nodup) {i j : Nat} {x y : α × β} (a : l[i]? = some x) (b : l[j]? = some y) (e : x.1 = y.1) : i = j := by
  have a' : (l.map Prod.fst)[i]? = some x.1 := by rw [List.getElem?_map, a]; rfl
  have b' : (l.map Prod.fst)[j]? = some x.1 := by rw [List.getElem?_map, b, e]; rfl
  obtain ⟨h1, e1⟩ := List.getElem?_eq_some_iff.mp a'
  obtain ⟨h2, e2⟩ := List.getElem?_eq_some_iff.mp b'
  exact (List.getElem_inj hN).mp (e1.trans e2.symm)
theorem map_erase {α β : Type} (f : α → β) : ∀ (l : List α) (i : Nat), (l.eraseIdx i).map f = (l.map f).eraseIdx i
  | [], _ => rfl
  | _ :: _, 0 => rfl
  | a :: l, i + 1 => by rw [List.eraseIdx_cons_succ, List.map_cons, List.map_cons, List.eraseIdx_cons_succ, map_erase f l i]
theorem mem_erase_of {α : Type} {l : List α} {i : Nat} {x : α} (h : x ∈ l.eraseIdx i) : x ∈ l := List.mem_of_mem_eraseIdx h
theorem erase_out {α : Type} : ∀ {l : List α} {i : Nat} {x : α}, l.Nodup → l[i]? = some x → x ∉ l.eraseIdx i
  | [], _, _, _, h => by simp at h
  | a :: l, 0, x, nd, h => by
    simp at h; subst h
    exact (List.nodup_cons.mp nd).1
  | a :: l, i + 1, x, nd, h => by
    rw [List.eraseIdx_cons_succ]
    intro hm
    rcases List.mem_cons.mp hm with e | hm
    · subst e
      exact (List.nodup_cons.mp nd).1 (List.mem_of_getElem? (by simpa using h : l[i]? = some x))
    · exact erase_out (List.nodup_cons.mp nd).2 (by simpa using h) hm
section
variable {F : Hp} {p a : Addr} {o o' : HO} {A A' : HP} {i : Nat}
theorem Gd.free (g : Gd e F Ts H) (hp : H p = none) : F p = none := by
  cases q : F p with
  | none => rfl
  | some u => rw [g.sub p u q] at hp; cases hp
theorem Gd.frz (g : Gd e F Ts H) (hp : H p = none) : Gd e (upd F p o) Ts (upd H p o) := by
  have Fp := g.free hp
  refine ⟨fun x u hx => ?_, fun x hx => ?_, g.nd, fun x u hx hn => ?_, g.grow.trans (Sub.new Fp), fun x hx => ?_, g.newT⟩
  · by_cases h : x = p
    · subst h; rw [upd_same] at hx; rw [upd_same]; exact hx
    · rw [upd_ne h] at hx; rw [upd_ne h]; exact g.sub x u hx
  · obtain ⟨h1, o', h2, h3⟩ := g.own x hx
    have ne : x.1 ≠ p := ne_of_none h2 hp
    exact ⟨by rw [upd_ne ne]; exact h1, o', by rw [upd_ne ne]; exact h2, x.2.mono (Sub.new Fp) h3⟩
  · have q := g.keep x u hx hn
    rw [upd_ne (ne_of_none q hp)]; exact q
  · by_cases h : x = p
    · subst h
      refine .inr ?_
      by_cases ha : x ∈ e.A
      · exact .inr ha
      · refine .inl ?_
        cases q : e.H x with
        | none => rfl
        | some u => rw [g.keep x u q ha] at hp; cases hp
    · rw [upd_ne h] at hx; exact g.newF x hx
theorem Gd.new (g : Gd e F Ts H) (hp : H p = none) (w : A.p F o) : Gd e F ((p, A) :: Ts) (upd H p o) := by
  have Fp := g.free hp
  have out : p ∉ Ts.map Prod.fst := fun hm => by
    obtain ⟨x, hx, rfl⟩ := List.mem_map.mp hm
    obtain ⟨_, o', h2, _⟩ := g.own x hx
    rw [hp] at h2; cases h2
  refine ⟨fun x u hx => ?_, fun x hx => ?_, ?_, fun x u hx hn => ?_, g.grow, g.newF, fun x hx => ?_⟩
  · rw [upd_ne (ne_of_none (g.sub x u hx) hp)]; exact g.sub x u hx
  · rcases List.mem_cons.mp hx with rfl | hx
    · exact ⟨Fp, o, upd_same, w⟩
    · obtain ⟨h1, o', h2, h3⟩ := g.own x hx
      exact ⟨h1, o', by rw [upd_ne (ne_of_none h2 hp)]; exact h2, h3⟩
  · rw [List.map_cons]; exact List.nodup_cons.mpr ⟨out, g.nd⟩
  · have q := g.keep x u hx hn
    rw [upd_ne (ne_of_none q hp)]; exact q
  · rcases List.mem_cons.mp hx with ex | hx
    · have ex' : x = p := ex
      rw [ex']
      by_cases ha : p ∈ e.A
      · exact .inr ha
      · refine .inl ?_
        cases q : e.H p with
        | none => rfl
        | some u => rw [g.keep p u q ha] at hp; cases hp
    · exact g.newT x hx
theorem Gd.at (g : Gd e F Ts H) (h : Ts[i]? = some (a, A)) : F a = none ∧ ∃ o, H a = some o ∧ A.p F o := g.own (a, A) (List.mem_of_getElem? h)
theorem Gd.wr (g : Gd e F Ts H) (h : Ts[i]? = some (a, A)) (w : A'.p F o') : Gd e F (Ts.set i (a, A')) (upd H a o') := by
  obtain ⟨h1, o, h2, h3⟩ := g.at h
  have em : (Ts.set i (a, A')).map Prod.fst = Ts.map Prod.fst := by
    rw [map_set]
    exact set_same (by rw [List.getElem?_map, h]; rfl)
  refine ⟨fun b u hb => ?_, fun z hz => ?_, by rw [em]; exact g.nd, fun b u hb hn => ?_, g.grow, g.newF, fun b hb => g.newT b (by rw [em] at hb; exact hb)⟩
  · rw [upd_ne (ne_of_none hb h1)]; exact g.sub b u hb
  · obtain ⟨j, hj⟩ := List.getElem?_of_mem hz
    by_cases hji : j = i
    · subst hji
      have lt : j < Ts.length := (List.getElem?_eq_some_iff.mp h).1
      rw [List.getElem?_set_self lt] at hj
      have e := Option.some.inj hj
      subst e
      exact ⟨h1, o', upd_same, w⟩
    · rw [List.getElem?_set_ne (Ne.symm hji)] at hj
      obtain ⟨k1, u, k2, k3⟩ := g.own z (List.mem_of_getElem? hj)
      have ne : z.1 ≠ a := fun q => hji (nodup_at g.nd hj h q)
      exact ⟨k1, u, by rw [upd_ne ne]; exact k2, k3⟩
  · have q := g.keep b u hb hn
    have ne : b ≠ a := fun q2 => by
      subst q2
      rcases g.newT b (List.mem_map.mpr ⟨_, List.mem_of_getElem? h, rfl⟩) with r | r
      · rw [r] at hb; cases hb
      · exact hn r
    rw [upd_ne ne]; exact q
theorem Gd.freeze (g : Gd e F Ts H) (h : Ts[i]? = some (a, A)) (h2 : H a = some o) : Sub F (upd F a o) ∧ Gd e (upd F a o) (Ts.eraseIdx i) H := by
  obtain ⟨h1, _⟩ := g.at h
  have sF : Sub F (upd F a o) := Sub.new h1
  have sH : Sub (upd F a o) H := fun b u hb => by
    by_cases q : b = a
    · subst q; rw [upd_same] at hb; cases hb; exact h2
    · rw [upd_ne q] at hb; exact g.sub b u hb
  have em : (Ts.eraseIdx i).map Prod.fst = (Ts.map Prod.fst).eraseIdx i := map_erase _ _ _
  have out : a ∉ (Ts.eraseIdx i).map Prod.fst := by
    rw [em]
    exact erase_out g.nd (by rw [List.getElem?_map, h]; rfl)
  refine ⟨sF, sH, fun z hz => ?_, ?_, g.keep, g.grow.trans sF, fun b hb => ?_, fun b hb => g.newT b (by rw [em] at hb; exact mem_erase_of hb)⟩
  · obtain ⟨k1, u, k2, k3⟩ := g.own z (mem_erase_of hz)
    have ne : z.1 ≠ a := fun q => out (by rw [← q]; exact List.mem_map.mpr ⟨z, hz, rfl⟩)
    exact ⟨by rw [upd_ne ne]; exact k1, u, k2, z.2.mono sF k3⟩
  · rw [em]; exact g.nd.eraseIdx _
  · by_cases q : b = a
    · subst q
      exact .inr (g.newT b (List.mem_map.mpr ⟨_, List.mem_of_getElem? h, rfl⟩))
    · rw [upd_ne q] at hb; exact g.newF b hb
theorem Gd.fewer (g : Gd e F Ts H) (nd : (Ts'.map Prod.fst).Nodup) (h : ∀ x ∈ Ts', x ∈ Ts) : Gd e F Ts' H :=
  ⟨g.sub, fun z hz => g.own z (h z hz), nd, g.keep, g.grow, g.newF, fun b hb => by
    obtain ⟨z, hz, rfl⟩ := List.mem_map.mp hb
    exact g.newT _ (List.mem_map.mpr ⟨z, h z hz, rfl⟩)⟩
theorem Gd.weak (g : Gd e F Ts H) (nd : (Ts'.map Prod.fst) = Ts.map Prod.fst) (h : ∀ x ∈ Ts', ∃ A, (x.1, A) ∈ Ts ∧ ∀ o, A.p F o → x.2.p F o) : Gd e F Ts' H :=
  ⟨g.sub, fun z hz => by
    obtain ⟨A, h1, h2⟩ := h z hz
    obtain ⟨k1, o, k2, k3⟩ := g.own _ h1
    exact ⟨k1, o, k2, h2 o k3⟩, by rw [nd]; exact g.nd, g.keep, g.grow, g.newF, fun b hb => g.newT b (by rw [nd] at hb; exact hb)⟩
end
/-- a new object, frozen at once -/
theorem S.frz {p : Addr} {o : HO} (s : S e Γ Δ Ts σ vs H) (hp : H p = none) (f : ∀ F, F p = none → Sub F H → Sl F Γ σ → All F Δ vs → Sl (upd F p o) Γ' σ' ∧ All (upd F p o) Δ' vs') : S e Γ' Δ' Ts σ' vs' (upd H p o) := by
  obtain ⟨F, g, a, b⟩ := s.ex
  obtain ⟨c, d⟩ := f F (g.free hp) g.sub a b
  exact ⟨upd F p o, g.frz hp, c, d⟩
/-- a new object, owned -/
theorem S.new {p : Addr} {o : HO} {A : HP} (s : S e Γ Δ Ts σ vs H) (hp : H p = none) (f : ∀ F, Sub F H → Sl F Γ σ → All F Δ vs → A.p F o ∧ Sl F Γ' σ' ∧ All F Δ' vs') : S e Γ' Δ' ((p, A) :: Ts) σ' vs' (upd H p o) := by
  obtain ⟨F, g, a, b⟩ := s.ex
  obtain ⟨w, c, d⟩ := f F g.sub a b
  exact ⟨F, g.new hp w, c, d⟩
/-- an owned cell read -/
theorem S.at {i : Nat} {a : Addr} {A : HP} (s : S e Γ Δ Ts σ vs H) (h : Ts[i]? = some (a, A)) : ∃ F o, Sub F H ∧ H a = some o ∧ F a = none ∧ A.p F o ∧ Sl F Γ σ ∧ All F Δ vs := by
  obtain ⟨F, g, x, y⟩ := s.ex
  obtain ⟨h1, o, h2, h3⟩ := g.at h
  exact ⟨F, o, g.sub, h2, h1, h3, x, y⟩
/-- .. written -/
theorem S.wr {i : Nat} {a : Addr} {A A' : HP} {o' : HO} (s : S e Γ Δ Ts σ vs H) (h : Ts[i]? = some (a, A)) (f : ∀ F o, Sub F H → H a = some o → A.p F o → Sl F Γ σ → All F Δ vs → A'.p F o' ∧ Sl F Γ' σ' ∧ All F Δ' vs') :
    S e Γ' Δ' (Ts.set i (a, A')) σ' vs' (upd H a o') := by
  obtain ⟨F, g, x, y⟩ := s.ex
  obtain ⟨h1, o, h2, h3⟩ := g.at h
  obtain ⟨w, c, d⟩ := f F o g.sub h2 h3 x y
  exact ⟨F, g.wr h w, c, d⟩
/-- .. frozen for good: from now on it is told by values -/
theorem S.freeze {i : Nat} {a : Addr} {A : HP} (s : S e Γ Δ Ts σ vs H) (h : Ts[i]? = some (a, A)) (f : ∀ F o, A.p F o → F a = some o → Sub F H → Sl F Γ σ → All F Δ vs → Sl F Γ' σ' ∧ All F Δ' vs') : S e Γ' Δ' (Ts.eraseIdx i) σ' vs' H := by
  obtain ⟨F, g, x, y⟩ := s.ex
  obtain ⟨h1, o, h2, h3⟩ := g.at h
  obtain ⟨sF, g'⟩ := g.freeze h h2
  obtain ⟨c, d⟩ := f (upd F a o) o (A.mono sF h3) upd_same g'.sub (x.mono sF) (y.mono sF)
  exact ⟨upd F a o, g', c, d⟩
/-- the owned cells in another order, or fewer -/
theorem S.perm (s : S e Γ Δ Ts σ vs H) (nd : (Ts'.map Prod.fst).Nodup ∨ Ts'.Sublist Ts ∨ Ts'.Perm Ts) (h : ∀ x ∈ Ts', x ∈ Ts) : S e Γ Δ Ts' σ vs H := by
  obtain ⟨F, g, x, y⟩ := s.ex
  have nd' : (Ts'.map Prod.fst).Nodup := by
    rcases nd with n | n | n
    · exact n
    · exact g.nd.sublist (n.map _)
    · exact (n.map Prod.fst).nodup_iff.mpr g.nd
  exact ⟨F, g.fewer nd' h, x, y⟩
end
end Z
set_option maxHeartbeats 4000000
namespace Z
open PySem PySem.Spec PyProof.Rows L2
/-! ### what code does, by the model itself -/
section
variable (X : Cx)
structure wE (x : Expr) (σ : L2.St) (H : Hp) (Q : VK) : Prop where
  ru : ∀ (pins : List (Addr × Obj)) (s : Shared), Inv X pins σ H s → wpAny (model X.prog X.w) X.A (eval x X.env) (EP X pins σ Q) X.xe s
structure wT (x : Expr) (σ : L2.St) (H : Hp) (Q : Bool → Hp → Prop) : Prop where
  ru : ∀ (pins : List (Addr × Obj)) (s : Shared), Inv X pins σ H s → wpAny (model X.prog X.w) X.A (isTrue x X.env (eval x X.env)) (TP X pins σ Q) X.xe s
structure wW (x : Expr) (σ : L2.St) (H : Hp) (Q : Bool → Hp → Prop) : Prop where
  ru : ∀ (whole : Sem Value) (pins : List (Addr × Obj)) (s : Shared), Inv X pins σ H s → wpAny (model X.prog X.w) X.A (isTrue x X.env whole) (TP X pins σ Q) X.xe s
structure wA (xs : List Expr) (σ : L2.St) (H : Hp) (Q : List V → Hp → Prop) : Prop where
  ru : ∀ (pos : Pos) (pins : List (Addr × Obj)) (s : Shared), Inv X pins σ H s → wpAny (model X.prog X.w) X.A (spliced (backTo pos (starEach xs X.env))) (AP X pins σ Q) X.xe s
structure wS (st : Stmt) (D : Ends) (σ : L2.St) (H : Hp) : Prop where
  ru : ∀ (pins : List (Addr × Obj)) (s : Shared), Inv X pins σ H s → wpAny (model X.prog X.w) X.A (exec st X.env) (SP X pins D) X.xe s
structure wB (sts : List Stmt) (D : Ends) (σ : L2.St) (H : Hp) : Prop where
  ru : ∀ (pins : List (Addr × Obj)) (s : Shared), Inv X pins σ H s → wpAny (model X.prog X.w) X.A (execs sts X.env) (SP X pins D) X.xe s
structure wI (tg iter : Expr) (σ : L2.St) (H : Hp) (R : It → Hp → Prop) : Prop where
  ru : ∀ (pins : List (Addr × Obj)) (s : Shared), Inv X pins σ H s → wpAny (model X.prog X.w) X.A (eval iter X.env) (fun v s1 => wpAny (model X.prog X.w) X.A (pyIter v) (PIE X pins σ tg R) X.xe s1) X.xe s
structure wG (tg : Expr) (v : V) (σ : L2.St) (H : Hp) (Q : L2.St → Hp → Prop) : Prop where
  ru : ∀ (pins : List (Addr × Obj)) (s : Shared) (u : Value), Inv X pins σ H s → RelV v u → wpAny (model X.prog X.w) X.A (assign tg X.env u) (fun _ s' => ∃ σ' H', Inv X pins σ' H' s' ∧ Q σ' H') X.xe s
def wO (f : Value → Value → Sem Value) : R2 := fun x y H Q => ∀ (pins : List (Addr × Obj)) (s : Shared) (σ : L2.St) (u v : Value), Inv X pins σ H s → RelV x u → RelV y v → wpAny (model X.prog X.w) X.A (f u v) (EP X pins σ Q) X.xe s
end
section
variable {X : Cx} {x : Expr} {xs : List Expr} {st : Stmt} {sts : List Stmt}
theorem peW : PE X x (wE X x) := ⟨fun pins s σ H Q I h => h.ru pins s I⟩
theorem ptW : PT X x (wT X x) := ⟨fun pins s σ H Q I h => h.ru pins s I⟩
theorem pwW : PW X x (wW X x) := ⟨fun wh pins s σ H Q I h => h.ru wh pins s I⟩
theorem paW : PA X xs (wA X xs) := ⟨fun pos pins s σ H Q I h => h.ru pos pins s I⟩
theorem psW : PS X st (wS X st) := ⟨fun pins s σ H Q I h => h.ru pins s I⟩
theorem pbW : PSs X sts (wB X sts) := ⟨fun pins s σ H Q I h => h.ru pins s I⟩
theorem opW {f : Value → Value → Sem Value} : OpR X f (wO X f) := fun pins s σ H x y v u Q I rx ry h => h pins s σ v u I rx ry
theorem wE_of {t : TE} {σ H Q} (h : PE X x t) (q : t σ H Q) : wE X x σ H Q := ⟨fun pins s I => h.run pins s σ H Q I q⟩
theorem wT_of {t : TT} {σ H Q} (h : PT X x t) (q : t σ H Q) : wT X x σ H Q := ⟨fun pins s I => h.run pins s σ H Q I q⟩
theorem wW_of {t : TT} {σ H Q} (h : PW X x t) (q : t σ H Q) : wW X x σ H Q := ⟨fun wh pins s I => h.run wh pins s σ H Q I q⟩
theorem wA_of {t : TA} {σ H Q} (h : PA X xs t) (q : t σ H Q) : wA X xs σ H Q := ⟨fun pos pins s I => h.run pos pins s σ H Q I q⟩
theorem wS_of {t : TS} {σ H Q} (h : PS X st t) (q : t Q σ H) : wS X st Q σ H := ⟨fun pins s I => h.run pins s σ H Q I q⟩
theorem wB_of {t : TS} {σ H Q} (h : PSs X sts t) (q : t Q σ H) : wB X sts Q σ H := ⟨fun pins s I => h.run pins s σ H Q I q⟩
theorem wG_of {t : TG} {v σ H Q} (h : PG X x t) (q : t v σ H Q) : wG X x v σ H Q := ⟨fun pins s u I r => h.run pins s σ H v u Q I r q⟩
theorem pgW : PG X x (wG X x) := ⟨fun pins s σ H v u Q I r h => h.ru pins s u I r⟩
theorem wO_of {f : Value → Value → Sem Value} {r : R2} {u v : V} {H Q} (h : OpR X f r) (q : r u v H Q) : wO X f u v H Q := fun pins s σ a b I rx ry => h pins s σ H u v a b Q I rx ry q
end
/-! ### judgements over symbolic states -/
abbrev XP := Value → Option Addr → List (Option VP) → Ow → Prop
abbrev noX : XP := fun _ _ _ _ => False
structure Okx (X : Cx) (W : WX) : Prop where
  tk : Takes X W
  po : PassesOwn (model X.prog X.w) X.A X.env X.xe
  nd : X.N.Nodup
def Xo (e : En) (Ψ : XP) (W : WX) : Prop := ∀ cls d Γ Ts σ H, Ψ cls d Γ Ts → S e Γ [] Ts σ [] H → W cls d σ H
section
variable (X : Cx) (e : En) (Γ : List (Option VP)) (Δ : List VP) (Ts : Ow)
def Ev (x : Expr) (Φ : VP → Ow → Prop) (Ψ : XP) : Prop := ∀ (σ : L2.St) (vs : List V) (H : Hp) (W : WX), S e Γ Δ Ts σ vs H → Okx X W → Xo e Ψ W →
  ∀ Q : VK, (∀ P Ts' v H', Φ P Ts' → S e Γ (P :: Δ) Ts' σ (v :: vs) H' → Q v H') → wE X x σ H Q
def Et (x : Expr) (Φ : Bool → Ow → Prop) (Ψ : XP) : Prop := ∀ (σ : L2.St) (vs : List V) (H : Hp) (W : WX), S e Γ Δ Ts σ vs H → Okx X W → Xo e Ψ W →
  ∀ Q : Bool → Hp → Prop, (∀ b Ts' H', Φ b Ts' → S e Γ Δ Ts' σ vs H' → Q b H') → wT X x σ H Q
def Ew (x : Expr) (Φ : Bool → Ow → Prop) (Ψ : XP) : Prop := ∀ (σ : L2.St) (vs : List V) (H : Hp) (W : WX), S e Γ Δ Ts σ vs H → Okx X W → Xo e Ψ W →
  ∀ Q : Bool → Hp → Prop, (∀ b Ts' H', Φ b Ts' → S e Γ Δ Ts' σ vs H' → Q b H') → wW X x σ H Q
def Ea (xs : List Expr) (Φ : List VP → Ow → Prop) (Ψ : XP) : Prop := ∀ (σ : L2.St) (vs : List V) (H : Hp) (W : WX), S e Γ Δ Ts σ vs H → Okx X W → Xo e Ψ W →
  ∀ Q : List V → Hp → Prop, (∀ Ps Ts' ws H', Φ Ps Ts' → ws.length = Ps.length → S e Γ (Ps ++ Δ) Ts' σ (ws ++ vs) H' → Q ws H') → wA X xs σ H Q
/-- a target is stored -/
def Tg (tg : Expr) (P : VP) (κ : List (Option VP) → Ow → Prop) : Prop := ∀ (σ : L2.St) (vs : List V) (v : V) (H : Hp) (W : WX), S e Γ (P :: Δ) Ts σ (v :: vs) H → Okx X W →
  ∀ Q : L2.St → Hp → Prop, (∀ Γ' Ts' σ' H', κ Γ' Ts' → S e Γ' Δ Ts' σ' vs H' → Q σ' H') → wG X tg v σ H Q
end
/-- an operation of two values at hand -/
def Oz (X : Cx) (e : En) (f : Value → Value → Sem Value) (P1 P2 : VP) (Ts : Ow) (Φ : VP → Ow → Prop) : Prop := ∀ (Γ : List (Option VP)) (Δ : List VP) (σ : L2.St) (vs : List V) (v1 v2 : V) (H : Hp), S e Γ (P2 :: P1 :: Δ) Ts σ (v2 :: v1 :: vs) H →
  ∀ Q : VK, (∀ P Ts' v H', Φ P Ts' → S e Γ (P :: Δ) Ts' σ (v :: vs) H' → Q v H') → wO X f v1 v2 H Q
structure Post where
  nx : List (Option VP) → Ow → Prop
  rt : VP → Ow → Prop
  bk : List (Option VP) → Ow → Prop := fun _ _ => False
  ct : List (Option VP) → Ow → Prop := fun _ _ => False
  ex : XP := noX
structure EndsOk (e : En) (Δ : List VP) (vs : List V) (K : Post) (D : Ends) (W : WX) : Prop where
  nx : ∀ Γ' Ts' σ' H', K.nx Γ' Ts' → S e Γ' Δ Ts' σ' vs H' → D.nx σ' H'
  rt : ∀ P Ts' v H', K.rt P Ts' → S e [] [P] Ts' [] [v] H' → D.rt v H'
  bk : ∀ Γ' Ts' σ' H', K.bk Γ' Ts' → S e Γ' Δ Ts' σ' vs H' → D.bk σ' H'
  ct : ∀ Γ' Ts' σ' H', K.ct Γ' Ts' → S e Γ' Δ Ts' σ' vs H' → D.ct σ' H'
  ex : Xo e K.ex W
section
variable (X : Cx) (e : En) (Γ : List (Option VP)) (Δ : List VP) (Ts : Ow)
def Sx (st : Stmt) (K : Post) : Prop := ∀ (σ : L2.St) (vs : List V) (H : Hp) (W : WX) (D : Ends), S e Γ Δ Ts σ vs H → Okx X W → EndsOk e Δ vs K D W → wS X st D σ H
def Bl (sts : List Stmt) (K : Post) : Prop := ∀ (σ : L2.St) (vs : List V) (H : Hp) (W : WX) (D : Ends), S e Γ Δ Ts σ vs H → Okx X W → EndsOk e Δ vs K D W → wB X sts D σ H
end
/-! ### rules: expressions -/
section
variable {X : Cx} {e : En} {Γ : List (Option VP)} {Δ : List VP} {Ts : Ow} {a b c : Expr} {pos : Pos} {Φ : VP → Ow → Prop} {Ψ : XP} {x : Str}
theorem ev_var (i : Nat) {P : VP} (hp : Γ[i]? = some (some P)) (h : Φ P Ts) (hN : X.N[i]? = some x := by rfl) (hv : Vis X.env.scope x := by first | exact Or.inl rfl | exact Or.inr (Or.inl rfl) | exact Or.inr (Or.inr rfl))
    (hd : (x == ("__debug__" : Str)) = false := by decide) (hcd : (x == ("__classdict__" : Str)) = false := by decide) : Ev X e Γ Δ Ts (.Name x pos) Φ Ψ := fun σ vs H W s ok xo Q q => by
  obtain ⟨v, h1, s1⟩ := s.var hp
  exact wE_of (pe_var (i := i) hN hv hd hcd) ⟨v, h1, q P Ts v H h s1⟩
theorem ev_c {v : V} (hc : PE X a (tC v)) (h : Φ (isV v) Ts) : Ev X e Γ Δ Ts a Φ Ψ := fun σ vs H W s ok xo Q q => wE_of hc (q _ _ _ _ h (s.push fun _ _ => rfl))
theorem ev_int {i : Int} {j : Nat} (h : Φ (isI i) Ts) : Ev X e Γ Δ Ts (.Constant (.int i) j pos) Φ Ψ := ev_c pe_int h
theorem ev_bl {i : Bool} {j : Nat} (h : Φ (isB i) Ts) : Ev X e Γ Δ Ts (.Constant (.bool i) j pos) Φ Ψ := ev_c pe_bl h
theorem ev_str {i : Str} {j : Nat} (h : Φ (isS i) Ts) : Ev X e Γ Δ Ts (.Constant (.str i) j pos) Φ Ψ := ev_c pe_str h
theorem ev_non {j : Nat} (h : Φ isN Ts) : Ev X e Γ Δ Ts (.Constant .none j pos) Φ Ψ := ev_c pe_non h
/-- a module's name -/
theorem ev_glob {v : V} {u : Value} (hm : X.mg x = some u) (r : RelV v u) (h : Φ (isV v) Ts) (hg : Gl X x := by rfl) (hd : (x == ("__debug__" : Str)) = false := by decide) : Ev X e Γ Δ Ts (.Name x pos) Φ Ψ := ev_c (pe_glob hg hm r hd) h
/-- .. told by what it is -/
theorem ev_globP {v : V} {u : Value} {P : VP} (hm : X.mg x = some u) (r : RelV v u) (hP : ∀ F, P.p F v) (h : Φ P Ts) (hg : Gl X x := by rfl) (hd : (x == ("__debug__" : Str)) = false := by decide) : Ev X e Γ Δ Ts (.Name x pos) Φ Ψ := fun σ vs H W s ok xo Q q =>
  wE_of (pe_glob hg hm r hd) (q _ _ _ _ h (s.push fun F _ => hP F))
theorem ev_bin {op : Operator} (h : Ev X e Γ Δ Ts a (fun P1 Ts1 => Ev X e Γ (P1 :: Δ) Ts1 b (fun P2 Ts2 => Oz X e (binaryOp op) P1 P2 Ts2 Φ) Ψ) Ψ) : Ev X e Γ Δ Ts (.BinOp a op b pos) Φ Ψ := fun σ vs H W s ok xo Q q =>
  wE_of (pe_op opW peW peW) (h σ vs H W s ok xo _ fun P1 Ts1 v1 H1 h1 s1 => h1 σ _ H1 W s1 ok xo _ fun P2 Ts2 v2 H2 h2 s2 => h2 Γ Δ σ vs v1 v2 H2 s2 Q q)
theorem ev_cmp {op : CmpOp} (h : Ev X e Γ Δ Ts a (fun P1 Ts1 => Ev X e Γ (P1 :: Δ) Ts1 b (fun P2 Ts2 => Oz X e (compareOp op) P1 P2 Ts2 Φ) Ψ) Ψ) (hm : behindInMarks op b = false := by first | exact nomark _ | rfl | (with_unfolding_all rfl)) : Ev X e Γ Δ Ts (.Compare a [op] [b] pos) Φ Ψ := fun σ vs H W s ok xo Q q =>
  wE_of (pe_cmpR opW peW peW hm) (h σ vs H W s ok xo _ fun P1 Ts1 v1 H1 h1 s1 => h1 σ _ H1 W s1 ok xo _ fun P2 Ts2 v2 H2 h2 s2 => h2 Γ Δ σ vs v1 v2 H2 s2 Q q)
theorem et_cmp {Φt : Bool → Ow → Prop} {op : CmpOp} (h : Ev X e Γ Δ Ts a (fun P1 Ts1 => Ev X e Γ (P1 :: Δ) Ts1 b (fun P2 Ts2 => Oz X e (compareOp op) P1 P2 Ts2 (fun P Ts3 => ∃ k, P = isB k ∧ Φt k Ts3)) Ψ) Ψ) (hm : behindInMarks op b = false := by first | exact nomark _ | rfl | (with_unfolding_all rfl)) :
    Et X e Γ Δ Ts (.Compare a [op] [b] pos) Φt Ψ := fun σ vs H W s ok xo Q q =>
  wT_of (pt_cmpR opW peW peW hm) (h σ vs H W s ok xo _ fun P1 Ts1 v1 H1 h1 s1 => h1 σ _ H1 W s1 ok xo _ fun P2 Ts2 v2 H2 h2 s2 => h2 Γ Δ σ vs v1 v2 H2 s2 _ fun P Ts3 v H3 ⟨k, e1, h3⟩ s3 => by
    subst e1
    exact ⟨k, s3.topV, q k Ts3 H3 h3 s3.pop⟩)
/-- a value that is a bool, as a test -/
theorem et_val {Φt : Bool → Ow → Prop} (h : Ev X e Γ Δ Ts a (fun P Ts1 => ∃ k, P = isB k ∧ Φt k Ts1) Ψ) (he : ∀ whole, isTrue a X.env whole = (do let v ← whole; standAt a.pos; holding [v] (truthy v)) := by intro _; rfl) : Et X e Γ Δ Ts a Φt Ψ := fun σ vs H W s ok xo Q q =>
  wT_of (pt_val peW he) (h σ vs H W s ok xo _ fun P Ts1 v H1 ⟨k, e1, h1⟩ s1 => by
    subst e1
    exact ⟨k, s1.topV, q k Ts1 H1 h1 s1.pop⟩)
theorem et_bool {Φt : Bool → Ow → Prop} (h : Ew X e Γ Δ Ts a Φt Ψ) : Et X e Γ Δ Ts a Φt Ψ := fun σ vs H W s ok xo Q q => wT_of pwW.pt (h σ vs H W s ok xo Q q)
theorem ew_and1 {Φt : Bool → Ow → Prop} (h : Et X e Γ Δ Ts a Φt Ψ) : Ew X e Γ Δ Ts (.BoolOp .And [a] pos) Φt Ψ := fun σ vs H W s ok xo Q q => wW_of (pw_and1 ptW) (h σ vs H W s ok xo Q q)
theorem ew_or1 {Φt : Bool → Ow → Prop} (h : Et X e Γ Δ Ts a Φt Ψ) : Ew X e Γ Δ Ts (.BoolOp .Or [a] pos) Φt Ψ := fun σ vs H W s ok xo Q q => wW_of (pw_or1 ptW) (h σ vs H W s ok xo Q q)
theorem ew_and {Φt : Bool → Ow → Prop} {rest : List Expr} (h : Et X e Γ Δ Ts a (fun k Ts1 => (k = true → Ew X e Γ Δ Ts1 (.BoolOp .And (b :: rest) pos) Φt Ψ) ∧ (k = false → Φt false Ts1)) Ψ) : Ew X e Γ Δ Ts (.BoolOp .And (a :: b :: rest) pos) Φt Ψ := fun σ vs H W s ok xo Q q =>
  wW_of (pw_and ptW pwW) (h σ vs H W s ok xo _ fun k Ts1 H1 h1 s1 => by
    cases k with
    | true => exact iteT (h1.1 rfl σ vs H1 W s1 ok xo Q q)
    | false => exact iteF (q false Ts1 H1 (h1.2 rfl) s1))
theorem ew_or {Φt : Bool → Ow → Prop} {rest : List Expr} (h : Et X e Γ Δ Ts a (fun k Ts1 => (k = true → Φt true Ts1) ∧ (k = false → Ew X e Γ Δ Ts1 (.BoolOp .Or (b :: rest) pos) Φt Ψ)) Ψ) : Ew X e Γ Δ Ts (.BoolOp .Or (a :: b :: rest) pos) Φt Ψ := fun σ vs H W s ok xo Q q =>
  wW_of (pw_or ptW pwW) (h σ vs H W s ok xo _ fun k Ts1 H1 h1 s1 => by
    cases k with
    | true => exact iteT (q true Ts1 H1 (h1.1 rfl) s1)
    | false => exact iteF (h1.2 rfl σ vs H1 W s1 ok xo Q q))
theorem et_not {Φt : Bool → Ow → Prop} (h : Et X e Γ Δ Ts a (fun k Ts1 => Φt (!k) Ts1) Ψ) : Et X e Γ Δ Ts (.UnaryOp .Not a pos) Φt Ψ := fun σ vs H W s ok xo Q q =>
  wT_of (pt_not ptW) (h σ vs H W s ok xo _ fun k Ts1 H1 h1 s1 => q _ Ts1 H1 h1 s1)
/-- .. as values -/
theorem ev_one {op : PySem.BoolOp} (h : Ev X e Γ Δ Ts a Φ Ψ) : Ev X e Γ Δ Ts (.BoolOp op [a] pos) Φ Ψ := fun σ vs H W s ok xo Q q => wE_of (pe_one peW) (h σ vs H W s ok xo Q q)
theorem ev_and {rest : List Expr} (h : Ev X e Γ Δ Ts a (fun P Ts1 => ∃ k, P = isB k ∧ (k = true → Ev X e Γ Δ Ts1 (.BoolOp .And (b :: rest) pos) Φ Ψ) ∧ (k = false → Φ (isB false) Ts1)) Ψ) : Ev X e Γ Δ Ts (.BoolOp .And (a :: b :: rest) pos) Φ Ψ := fun σ vs H W s ok xo Q q =>
  wE_of (pe_and peW peW) (h σ vs H W s ok xo _ fun P Ts1 v H1 ⟨k, e1, h1, h2⟩ s1 => by
    subst e1
    refine ⟨k, s1.topV, ?_⟩
    cases k with
    | true => exact iteT (h1 rfl σ vs H1 W s1.pop ok xo Q q)
    | false => exact iteF (q _ Ts1 _ H1 (h2 rfl) (s1.pop.push fun _ _ => rfl)))
theorem ev_or {rest : List Expr} (h : Ev X e Γ Δ Ts a (fun P Ts1 => ∃ k, P = isB k ∧ (k = true → Φ (isB true) Ts1) ∧ (k = false → Ev X e Γ Δ Ts1 (.BoolOp .Or (b :: rest) pos) Φ Ψ)) Ψ) : Ev X e Γ Δ Ts (.BoolOp .Or (a :: b :: rest) pos) Φ Ψ := fun σ vs H W s ok xo Q q =>
  wE_of (pe_or peW peW) (h σ vs H W s ok xo _ fun P Ts1 v H1 ⟨k, e1, h1, h2⟩ s1 => by
    subst e1
    refine ⟨k, s1.topV, ?_⟩
    cases k with
    | true => exact iteT (q _ Ts1 _ H1 (h1 rfl) (s1.pop.push fun _ _ => rfl))
    | false => exact iteF (h2 rfl σ vs H1 W s1.pop ok xo Q q))
theorem ev_not (h : Ev X e Γ Δ Ts a (fun P Ts1 => ∃ k, P = isB k ∧ Φ (isB (!k)) Ts1) Ψ) : Ev X e Γ Δ Ts (.UnaryOp .Not a pos) Φ Ψ := fun σ vs H W s ok xo Q q =>
  wE_of (pe_not peW) (h σ vs H W s ok xo _ fun P Ts1 v H1 ⟨k, e1, h1⟩ s1 => by
    subst e1
    exact ⟨k, s1.topV, q _ Ts1 _ H1 h1 (s1.pop.push fun _ _ => rfl)⟩)
theorem ev_ifExp (h : Et X e Γ Δ Ts c (fun k Ts1 => (k = true → Ev X e Γ Δ Ts1 a Φ Ψ) ∧ (k = false → Ev X e Γ Δ Ts1 b Φ Ψ)) Ψ) : Ev X e Γ Δ Ts (.IfExp c a b pos) Φ Ψ := fun σ vs H W s ok xo Q q =>
  wE_of (pe_ifExp ptW peW peW) (h σ vs H W s ok xo _ fun k Ts1 H1 h1 s1 => by
    cases k with
    | true => exact iteT (h1.1 rfl σ vs H1 W s1 ok xo Q q)
    | false => exact iteF (h1.2 rfl σ vs H1 W s1 ok xo Q q))
theorem ev_un {op : UnaryOp} {r : V → Hp → VK → Prop} (ho : UnR X (unaryOp op) r) (h : Ev X e Γ Δ Ts a (fun P Ts1 => ∃ v, P = isV v ∧ ∃ z, (∀ H Q, Q z H → r v H Q) ∧ Φ (isV z) Ts1) Ψ) : Ev X e Γ Δ Ts (.UnaryOp op a pos) Φ Ψ := fun σ vs H W s ok xo Q q =>
  wE_of (pe_un ho peW) (h σ vs H W s ok xo _ fun P Ts1 v H1 ⟨v0, e1, z, h1, h2⟩ s1 => by
    subst e1
    have ev := s1.topV
    subst ev
    exact h1 H1 Q (q _ Ts1 z H1 h2 (s1.pop.push fun _ _ => rfl)))
theorem ev_neg (h : Ev X e Γ Δ Ts a (fun P Ts1 => ∃ i, P = isI i ∧ Φ (isI (-i)) Ts1) Ψ) : Ev X e Γ Δ Ts (.UnaryOp .USub a pos) Φ Ψ := fun σ vs H W s ok xo Q q =>
  wE_of (pe_un un_neg peW) (h σ vs H W s ok xo _ fun P Ts1 v H1 ⟨i, e1, h2⟩ s1 => by
    subst e1
    exact ⟨i, s1.topV, (q _ Ts1 _ H1 h2 (s1.pop.push fun _ _ => rfl))⟩)
/-! ### arguments, displays -/
theorem ea_nil {Φa : List VP → Ow → Prop} (h : Φa [] Ts) : Ea X e Γ Δ Ts [] Φa Ψ := fun σ vs H W s ok xo Q q => wA_of pa_nil (q [] Ts [] H h rfl s)
theorem ea_cons {Φa : List VP → Ow → Prop} {es : List Expr} (h : Ev X e Γ Δ Ts a (fun P Ts1 => Ea X e Γ (P :: Δ) Ts1 es (fun Ps Ts2 => Φa (P :: Ps) Ts2) Ψ) Ψ) (hs : starEach (a :: es) X.env = (false, eval a X.env) :: starEach es X.env := by rfl) : Ea X e Γ Δ Ts (a :: es) Φa Ψ := fun σ vs H W s ok xo Q q =>
  wA_of (pa_cons peW paW hs) (h σ vs H W s ok xo _ fun P Ts1 v H1 h1 s1 => h1 σ _ H1 W s1 ok xo _ fun Ps Ts2 ws H2 h2 hl s2 => q (P :: Ps) Ts2 (v :: ws) H2 h2 (by rw [List.length_cons, List.length_cons, hl]) (s2.map fun F _ x y => ⟨x, by
    obtain ⟨y1, y2⟩ := All.split hl.symm y
    cases y2 with
    | cons h t => exact .cons h (y1.append t)⟩))
theorem S.args {Ps : List VP} {ws vs : List V} {σ : L2.St} {H : Hp} (s : S e Γ (Ps ++ Δ) Ts σ (ws ++ vs) H) (hl : ws.length = Ps.length) : ∃ F, Sub F H ∧ All F Ps ws := by
  obtain ⟨F, g, _, y⟩ := s.ex
  exact ⟨F, g.sub, (All.split hl.symm y).1⟩
/-- (a, b): frozen at once -/
theorem ev_tup {es : List Expr} {k : Nat} (h : Ea X e Γ Δ Ts es (fun Ps Ts1 => Ps.length ≤ sizeLine ∧ Φ (tup X.K Ps) Ts1) Ψ) : Ev X e Γ Δ Ts (.Tuple es k pos) Φ Ψ := fun σ vs H W s ok xo Q q =>
  wE_of (pe_tup paW) (h σ vs H W s ok xo _ fun Ps Ts1 ws H1 ⟨hz, h1⟩ hl s1 => ⟨by rw [hl]; exact hz, fun p hp => q _ Ts1 _ _ h1 (s1.frz hp fun F Fp k x y => by
    obtain ⟨y1, y2⟩ := All.split hl.symm y
    have sF : Sub F (upd F p (.tup ws)) := Sub.new Fp
    exact ⟨x.mono sF, .cons ⟨p, ws, rfl, .inl (.inl upd_same), y1.mono sF⟩ (y2.mono sF)⟩)⟩)
/-- [a, b]: owned -/
theorem ev_lst {es : List Expr} (h : Ea X e Γ Δ Ts es (fun Ps Ts1 => Ps.length ≤ sizeLine ∧ ∀ p, Φ (isR p) ((p, cL Ps) :: Ts1)) Ψ) : Ev X e Γ Δ Ts (.List es pos) Φ Ψ := fun σ vs H W s ok xo Q q =>
  wE_of (pe_lst paW) (h σ vs H W s ok xo _ fun Ps Ts1 ws H1 ⟨hz, h1⟩ hl s1 => ⟨by rw [hl]; exact hz, fun p hp => q _ _ _ _ (h1 p) (s1.new hp fun F k x y => by
    obtain ⟨y1, y2⟩ := All.split hl.symm y
    exact ⟨⟨ws, rfl, y1⟩, x, .cons rfl y2⟩)⟩)
/-- [a, b]: frozen -/
theorem ev_lstF {es : List Expr} (h : Ea X e Γ Δ Ts es (fun Ps Ts1 => Ps.length ≤ sizeLine ∧ Φ (lst Ps) Ts1) Ψ) : Ev X e Γ Δ Ts (.List es pos) Φ Ψ := fun σ vs H W s ok xo Q q =>
  wE_of (pe_lst paW) (h σ vs H W s ok xo _ fun Ps Ts1 ws H1 ⟨hz, h1⟩ hl s1 => ⟨by rw [hl]; exact hz, fun p hp => q _ Ts1 _ _ h1 (s1.frz hp fun F Fp k x y => by
    obtain ⟨y1, y2⟩ := All.split hl.symm y
    have sF : Sub F (upd F p (.lst ws)) := Sub.new Fp
    exact ⟨x.mono sF, .cons ⟨p, ws, rfl, upd_same, y1.mono sF⟩ (y2.mono sF)⟩)⟩)
/-- less is wanted -/
theorem Ev.imp {Φ' : VP → Ow → Prop} (h : Ev X e Γ Δ Ts a Φ Ψ) (k : ∀ P Ts, Φ P Ts → Φ' P Ts) : Ev X e Γ Δ Ts a Φ' Ψ := fun σ vs H W s ok xo Q q => h σ vs H W s ok xo Q fun P Ts' v H' h1 s1 => q P Ts' v H' (k _ _ h1) s1
end
/-! ### operations -/
section
variable {X : Cx} {e : En} {P1 P2 : VP} {Ts : Ow} {Φ : VP → Ow → Prop} {i j : Int}
/-- a value out of two, no object touched -/
theorem oz_val {f : Value → Value → Sem Value} {r : R2} {z : V} (ho : OpR X f r) (h : ∀ F H v1 v2, Sub F H → P1.p F v1 → P2.p F v2 → ∀ Q : VK, Q z H → r v1 v2 H Q) (q : Φ (isV z) Ts) : Oz X e f P1 P2 Ts Φ := fun Γ Δ σ vs v1 v2 H s Q k => by
  obtain ⟨F, sF, h2, h1⟩ := s.top2
  exact wO_of ho (h F H v1 v2 sF h1 h2 Q (k _ Ts z H q (s.pop.pop.push fun _ _ => rfl)))
theorem oz_I {f : Value → Value → Sem Value} {C : Int → Int → Prop} {g : Int → Int → V} (ho : OpR X f (rI C g)) (hc : C i j) (q : Φ (isV (g i j)) Ts) : Oz X e f (isI i) (isI j) Ts Φ :=
  oz_val ho (fun F H v1 v2 _ h1 h2 Q k => ⟨i, j, h1, h2, hc, k⟩) q
theorem oz_I0 {f : Value → Value → Sem Value} {g : Int → Int → V} (ho : OpR X f (rI0 g)) (q : Φ (isV (g i j)) Ts) : Oz X e f (isI i) (isI j) Ts Φ :=
  oz_val ho (fun F H v1 v2 _ h1 h2 Q k => ⟨i, j, h1, h2, k⟩) q
theorem oz_add (q : Φ (isI (i + j)) Ts) : Oz X e (binaryOp .Add) (isI i) (isI j) Ts Φ := oz_I0 op_add q
theorem oz_sub (q : Φ (isI (i - j)) Ts) : Oz X e (binaryOp .Sub) (isI i) (isI j) Ts Φ := oz_I0 op_sub q
theorem oz_mul (hc : CMul i j) (q : Φ (isI (i * j)) Ts) : Oz X e (binaryOp .Mult) (isI i) (isI j) Ts Φ := oz_I op_mul hc q
theorem oz_mod (hc : 0 < j) (q : Φ (isI (i % j)) Ts) : Oz X e (binaryOp .Mod) (isI i) (isI j) Ts Φ := oz_I op_mod hc q
theorem oz_fdiv (hc : CDiv i j) (q : Φ (isI (i / j)) Ts) : Oz X e (binaryOp .FloorDiv) (isI i) (isI j) Ts Φ := oz_I op_fdiv hc q
theorem oz_pow (hc : CPow i j) (q : Φ (isI (i ^ j.toNat)) Ts) : Oz X e (binaryOp .Pow) (isI i) (isI j) Ts Φ := oz_I op_pow hc q
theorem oz_shl (hc : CPow i j) (q : Φ (isI (i * 2 ^ j.toNat)) Ts) : Oz X e (binaryOp .LShift) (isI i) (isI j) Ts Φ := oz_I op_shl hc q
theorem oz_shr (hc : 0 ≤ j) (q : Φ (isI (i / 2 ^ j.toNat)) Ts) : Oz X e (binaryOp .RShift) (isI i) (isI j) Ts Φ := oz_I op_shr hc q
theorem oz_band (q : Φ (isI (Builtin.bitAnd i j)) Ts) : Oz X e (binaryOp .BitAnd) (isI i) (isI j) Ts Φ := oz_I0 op_and q
theorem oz_bor (q : Φ (isI (Builtin.bitOr i j)) Ts) : Oz X e (binaryOp .BitOr) (isI i) (isI j) Ts Φ := oz_I0 op_or q
theorem oz_lt (q : Φ (isB (decide (i < j))) Ts) : Oz X e (compareOp .Lt) (isI i) (isI j) Ts Φ := oz_I0 op_lt q
theorem oz_le (q : Φ (isB (decide (i ≤ j))) Ts) : Oz X e (compareOp .LtE) (isI i) (isI j) Ts Φ := oz_I0 op_le q
theorem oz_gt (q : Φ (isB (decide (j < i))) Ts) : Oz X e (compareOp .Gt) (isI i) (isI j) Ts Φ := oz_I0 op_gt q
theorem oz_ge (q : Φ (isB (decide (j ≤ i))) Ts) : Oz X e (compareOp .GtE) (isI i) (isI j) Ts Φ := oz_I0 op_ge q
theorem oz_eq {x y : V} (hs : scal x y = true) (q : Φ (isB (decide (x = y))) Ts) : Oz X e (compareOp .Eq) (isV x) (isV y) Ts Φ := oz_val op_eq (fun F H v1 v2 _ h1 h2 Q k => by
  cases h1; cases h2; exact ⟨hs, k⟩) q
theorem oz_ne {x y : V} (hs : scal x y = true) (q : Φ (isB (!decide (x = y))) Ts) : Oz X e (compareOp .NotEq) (isV x) (isV y) Ts Φ := oz_val op_ne (fun F H v1 v2 _ h1 h2 Q k => by
  cases h1; cases h2; exact ⟨hs, k⟩) q
theorem decV_int {i j : Int} : decide (V.int i = V.int j) = decide (i = j) := by simp
theorem decV_str {i j : Str} : decide (V.str i = V.str j) = decide (i = j) := by simp
theorem decV_bl {i j : Bool} : decide (V.bl i = V.bl j) = decide (i = j) := by simp
theorem oz_eqI (q : Φ (isB (decide (i = j))) Ts) : Oz X e (compareOp .Eq) (isI i) (isI j) Ts Φ := oz_eq rfl (by rw [decV_int]; exact q)
theorem oz_neI (q : Φ (isB (!decide (i = j))) Ts) : Oz X e (compareOp .NotEq) (isI i) (isI j) Ts Φ := oz_ne rfl (by rw [decV_int]; exact q)
theorem oz_eqS {i j : Str} (q : Φ (isB (decide (i = j))) Ts) : Oz X e (compareOp .Eq) (isS i) (isS j) Ts Φ := oz_eq rfl (by rw [decV_str]; exact q)
theorem oz_neS {i j : Str} (q : Φ (isB (!decide (i = j))) Ts) : Oz X e (compareOp .NotEq) (isS i) (isS j) Ts Φ := oz_ne rfl (by rw [decV_str]; exact q)
theorem oz_eqB {i j : Bool} (q : Φ (isB (decide (i = j))) Ts) : Oz X e (compareOp .Eq) (isB i) (isB j) Ts Φ := oz_eq rfl (by rw [decV_bl]; exact q)
theorem oz_neB {i j : Bool} (q : Φ (isB (!decide (i = j))) Ts) : Oz X e (compareOp .NotEq) (isB i) (isB j) Ts Φ := oz_ne rfl (by rw [decV_bl]; exact q)
theorem oz_addS {i j : Str} (hz : i.length + j.length ≤ sizeLine) (q : Φ (isS (i ++ j)) Ts) : Oz X e (binaryOp .Add) (isS i) (isS j) Ts Φ := oz_val op_add_str (fun F H v1 v2 _ h1 h2 Q k => ⟨i, j, h1, h2, hz, k⟩) q
theorem oz_isN {P : VP} {k : Bool} (hk : ∀ F v, P.p F v → decide (v = .non) = k) (q : Φ (isB k) Ts) : Oz X e (compareOp .Is) P isN Ts Φ := oz_val op_isN (fun F H v1 v2 _ h1 h2 Q z => ⟨h2, by rw [hk F v1 h1]; exact z⟩) q
theorem oz_notN {P : VP} {k : Bool} (hk : ∀ F v, P.p F v → decide (v = .non) = k) (q : Φ (isB (!k)) Ts) : Oz X e (compareOp .IsNot) P isN Ts Φ := oz_val op_notN (fun F H v1 v2 _ h1 h2 Q z => ⟨h2, by rw [hk F v1 h1]; exact z⟩) q
end
end Z
set_option maxHeartbeats 4000000
namespace Z
open PySem PySem.Spec PyProof.Rows L2
/-! ### what is done with values at hand, whose kind decides -/
section
variable (X : Cx)
/-- xs[i] -/
def wIx : R2 := fun x y H Q => ∀ (value slice : Expr) (pins : List (Addr × Obj)) (s : Shared) (σ : L2.St) (v u : Value), Inv X pins σ H s → RelV x v → RelV y u → subscripted slice false v u = operate [v, u] (getItem v u) → wpAny (model X.prog X.w) X.A (subscriptTail value slice v u) (EP X pins σ Q) X.xe s
/-- a built-in called -/
def wC (f : Value) : List V → Hp → VK → Prop := fun xs H Q => ∀ (pins : List (Addr × Obj)) (s : Shared) (σ : L2.St) (us : List Value), Inv X pins σ H s → Vals xs us → wpAny (model X.prog X.w) X.A (call f us) (EP X pins σ Q) X.xe s
/-- x.f -/
def wAt (f : Str) : V → Hp → VK → Prop := fun x H Q => ∀ (pins : List (Addr × Obj)) (s : Shared) (σ : L2.St) (u : Value), Inv X pins σ H s → RelV x u → wpAny (model X.prog X.w) X.A (getAttr u f true) (EP X pins σ Q) X.xe s
/-- xs[a:b] -/
def wSl : V → Option Int → Option Int → Hp → VK → Prop := fun x lo hi H Q => ∀ (pins : List (Addr × Obj)) (s : Shared) (σ : L2.St) (v vl vu : Value) (sl : Addr), Inv X pins σ H s → RelV x v → s.heap.IsSliceOf sl vl vu .none → IsPart vl lo → IsPart vu hi →
  ∃ T id, typeLookup (.type T) "__getitem__" = pure (some (.builtin id)) ∧ s.TypeIs v T ∧ wpAny (model X.prog X.w) X.A (getItem v (.ref sl)) (EP X pins σ Q) X.xe s
end
theorem ixW {X : Cx} : IxR X (wIx X) := fun value slice pins s σ H x y v u Q I rx ry h hs => h value slice pins s σ v u I rx ry hs
theorem slW {X : Cx} : SlR X (wSl X) := fun pins s σ H x v vl vu lo hi sl Q I rx hs pl pu h => h pins s σ v vl vu sl I rx hs pl pu
theorem cW {X : Cx} {f : Value} : CallR X f (wC X f) := fun pins s σ H xs us Q I r h => h pins s σ us I r
/-- of one value, of two, of several -/
def Uz (e : En) (rel : V → Hp → VK → Prop) (P : VP) (Ts : Ow) (Φ : VP → Ow → Prop) : Prop := ∀ (Γ : List (Option VP)) (Δ : List VP) (σ : L2.St) (vs : List V) (v : V) (H : Hp), S e Γ (P :: Δ) Ts σ (v :: vs) H →
  ∀ Q : VK, (∀ P' Ts' v' H', Φ P' Ts' → S e Γ (P' :: Δ) Ts' σ (v' :: vs) H' → Q v' H') → rel v H Q
def Bz (e : En) (rel : R2) (P1 P2 : VP) (Ts : Ow) (Φ : VP → Ow → Prop) : Prop := ∀ (Γ : List (Option VP)) (Δ : List VP) (σ : L2.St) (vs : List V) (v1 v2 : V) (H : Hp), S e Γ (P2 :: P1 :: Δ) Ts σ (v2 :: v1 :: vs) H →
  ∀ Q : VK, (∀ P Ts' v H', Φ P Ts' → S e Γ (P :: Δ) Ts' σ (v :: vs) H' → Q v H') → rel v1 v2 H Q
def Nz (e : En) (rel : List V → Hp → VK → Prop) (Ps : List VP) (Ts : Ow) (Φ : VP → Ow → Prop) : Prop := ∀ (Γ : List (Option VP)) (Δ : List VP) (σ : L2.St) (ws vs : List V) (H : Hp), ws.length = Ps.length → S e Γ (Ps ++ Δ) Ts σ (ws ++ vs) H →
  ∀ Q : VK, (∀ P Ts' v H', Φ P Ts' → S e Γ (P :: Δ) Ts' σ (v :: vs) H' → Q v H') → rel ws H Q
/-- told as a list: frozen, or owned -/
inductive IsSq (K : PySem.W.Frag) (Ts : Ow) : VP → List VP → Prop
  | l {P : VP} {Ps : List VP} (h : IsL K P Ps) : IsSq K Ts P Ps
  | o {l : Addr} {Ps : List VP} (k : Nat) (h : Ts[k]? = some (l, cL Ps)) : IsSq K Ts (isR l) Ps
section
variable {X : Cx} {e : En} {Γ : List (Option VP)} {Δ : List VP} {Ts : Ow} {a b c : Expr} {pos : Pos} {Φ : VP → Ow → Prop} {Ψ : XP} {x : Str} {F H : Hp} {P : VP} {Ps : List VP} {v : V}
theorem IsSq.get {K : PySem.W.Frag} (h : IsSq K Ts P Ps) (g : Gd e F Ts H) (hv : P.p F v) : ∃ l ws, v = .ref l ∧ SqL K H l ws ∧ All F Ps ws := by
  cases h with
  | l h =>
    obtain ⟨l, ws, e1, e2, e3⟩ := h F v hv
    exact ⟨l, ws, e1, sqL_mono g.sub e2, e3⟩
  | o k h =>
    obtain ⟨_, o, ho, ws, eo, ha⟩ := g.at h
    subst eo
    exact ⟨_, ws, hv, SqL.of ho, ha⟩
theorem atI_ofNat {α : Type} {xs : List α} {i : Int} {v : α} (h0 : 0 ≤ i) (h : xs[i.toNat]? = some v) : atI xs i = some v := by
  have e : i = ((i.toNat : Nat) : Int) := (Int.toNat_of_nonneg h0).symm
  rw [e]; exact atI_nat h
theorem All.atI {F : Hp} {Ps : List VP} {vs : List V} {i : Int} {P : VP} (h : All F Ps vs) (e : L2.atI Ps i = some P) : ∃ v, L2.atI vs i = some v ∧ P.p F v := by
  have hl := h.len
  unfold L2.atI at e ⊢
  rw [← hl]
  cases q : ixN Ps.length i with
  | none => rw [q] at e; cases e
  | some j => rw [q] at e; exact h.get e
/-! ### items -/
theorem ev_ix (h : Ev X e Γ Δ Ts a (fun P Ts1 => Ev X e Γ (P :: Δ) Ts1 b (fun Q Ts2 => Bz e (wIx X) P Q Ts2 Φ) Ψ) Ψ) (hs : PlainIx b := by intro _ _; rfl) : Ev X e Γ Δ Ts (.Subscript a b pos) Φ Ψ := fun σ vs H W s ok xo Q q =>
  wE_of (pe_ix ixW peW peW hs) (h σ vs H W s ok xo _ fun P Ts1 v H1 h1 s1 => h1 σ _ H1 W s1 ok xo _ fun P2 Ts2 u H2 h2 s2 => h2 Γ Δ σ vs v u H2 s2 Q q)
theorem wIx_of {r : R2} {u v : V} {H Q} (h : IxR X r) (q : r u v H Q) : wIx X u v H Q := fun value slice pins s σ a b I rx ry hs => h value slice pins s σ H u v a b Q I rx ry q hs
theorem ix_L {i : Int} {R : VP} (hl : IsSq X.K Ts P Ps) (hi : atI Ps i = some R) (h : Φ R Ts) : Bz e (wIx X) P (isI i) Ts Φ := fun Γ Δ σ vs v1 v2 H s Q k => by
  obtain ⟨F, g, x, y⟩ := s.ex
  cases y with
  | cons h2 y => cases y with
    | cons h1 y =>
      obtain ⟨l, ws, e1, e2, ha⟩ := hl.get g h1
      obtain ⟨z, hz, hR⟩ := ha.atI hi
      exact wIx_of ix_list ⟨l, ws, i, z, e1, h2, e2, hz, k _ _ _ _ h ⟨F, g, x, .cons hR y⟩⟩
theorem ix_T {i : Int} {R : VP} (hi : atI Ps i = some R) (h : Φ R Ts) : Bz e (wIx X) (tup X.K Ps) (isI i) Ts Φ := fun Γ Δ σ vs v1 v2 H s Q k => by
  obtain ⟨F, g, x, y⟩ := s.ex
  cases y with
  | cons h2 y => cases y with
    | cons h1 y =>
      obtain ⟨l, ws, e1, e2, ha⟩ := h1
      obtain ⟨z, hz, hR⟩ := ha.atI hi
      exact wIx_of ix_tup ⟨l, ws, i, z, e1, h2, sqT_mono g.sub e2, hz, k _ _ _ _ h ⟨F, g, x, .cons hR y⟩⟩
theorem ix_S {i : Int} {z : Str} {c : Nat} (hz : z.length ≤ sizeLine) (hi : atI z.cps.toList i = some c) (h : Φ (isS ⟨#[c]⟩) Ts) : Bz e (wIx X) (isS z) (isI i) Ts Φ := fun Γ Δ σ vs v1 v2 H s Q k => by
  obtain ⟨F, g, x, y⟩ := id s.ex
  cases y with
  | cons h2 y => cases y with
    | cons h1 y => exact wIx_of ix_str ⟨z, i, c, h1, h2, hz, hi, k _ _ _ _ h (s.pop.pop.push fun _ _ => rfl)⟩
/-! ### fields -/
theorem ev_attr {f : Str} (h : Ev X e Γ Δ Ts a (fun P Ts1 => Uz e (wAt X f) P Ts1 Φ) Ψ) (hb : attributeBase a f X.env (eval a X.env) = eval a X.env := by rfl) : Ev X e Γ Δ Ts (.Attribute a f pos) Φ Ψ := fun σ vs H W s ok xo Q q =>
  ⟨fun pins sh I => attr_of hb (thn (peW.run pins sh σ H _ I (h σ vs H W s ok xo (fun v H1 => wAt X f v H1 Q) fun P Ts1 v H1 h1 s1 => h1 Γ Δ σ vs v H1 s1 Q q)) fun u s1 ⟨v, H1, I1, rx, q1⟩ => q1 pins s1 σ u I1 rx)⟩
theorem at_F {f : Str} {C : Addr} {fs : List (Str × VP)} {R : VP} (hc : Cls X.K C) (hn : NoAttr X.K C f) (hl : fs.lookup f = some R) (h : Φ R Ts) : Uz e (wAt X f) (ins C fs) Ts Φ := fun Γ Δ σ vs v H s Q k pins sh σ' u I rx => by
  obtain ⟨F, g, x, y⟩ := s.ex
  cases y with
  | cons hp y =>
    obtain ⟨p, dx, gs, ev, hF, hfl⟩ := hp
    subst ev
    obtain rfl : u = Value.ref p := rx
    obtain ⟨z, hz, hR⟩ := hfl.look hl
    exact getattr_ok I (g.sub _ _ hF) hc hn hz fun u' s2 I2 ru => ⟨z, H, I2, ru, k _ _ _ _ h ⟨F, g, x, .cons hR y⟩⟩
theorem at_O {f : Str} {C l : Addr} {fs : List (Str × VP)} {R : VP} (i : Nat) (hk : Ts[i]? = some (l, cI C fs)) (hc : Cls X.K C) (hn : NoAttr X.K C f) (hl : fs.lookup f = some R) (h : Φ R Ts) : Uz e (wAt X f) (isR l) Ts Φ := fun Γ Δ σ vs v H s Q k pins sh σ' u I rx => by
  have ev := s.topV
  subst ev
  obtain ⟨F, g, x, y⟩ := s.ex
  obtain ⟨_, o, ho, dx, gs, eo, hfl⟩ := g.at hk
  subst eo
  obtain rfl : u = Value.ref l := rx
  cases y with
  | cons hp y =>
    obtain ⟨z, hz, hR⟩ := hfl.look hl
    exact getattr_ok I ho hc hn hz fun u' s2 I2 ru => ⟨z, H, I2, ru, k _ _ _ _ h ⟨F, g, x, .cons hR y⟩⟩
/-! ### slices -/
def cutP {α : Type} (xs : List α) (lo hi : Option Int) : List α := (xs.drop (HT.sIx xs.length 0 lo)).take (HT.sIx xs.length xs.length hi - HT.sIx xs.length 0 lo)
theorem All.cut {F : Hp} {Ps : List VP} {vs : List V} {lo hi : Option Int} (h : All F Ps vs) : All F (cutP Ps lo hi) (cutV vs lo hi) := by
  unfold cutP cutV
  rw [h.len]
  exact (h.drop _).take _
/-- an optional part of a slice -/
def Eo (X : Cx) (e : En) (Γ : List (Option VP)) (Δ : List VP) (Ts : Ow) (x : Option Expr) (Φ : Option Int → Ow → Prop) (Ψ : XP) : Prop := ∀ (σ : L2.St) (vs : List V) (H : Hp) (W : WX), S e Γ Δ Ts σ vs H → Okx X W → Xo e Ψ W →
  ∀ Q : Option Int → Hp → Prop, (∀ o Ts' H', Φ o Ts' → S e Γ Δ Ts' σ vs H' → Q o H') → ∃ t, PO X x t ∧ t σ H Q
theorem eo_none {Φo : Option Int → Ow → Prop} (h : Φo none Ts) : Eo X e Γ Δ Ts none Φo Ψ := fun σ vs H W s ok xo Q q => ⟨_, po_none, q none Ts H h s⟩
theorem eo_some {Φo : Option Int → Ow → Prop} (h : Ev X e Γ Δ Ts a (fun P Ts1 => ∃ i, P = isI i ∧ Φo (some i) Ts1) Ψ) : Eo X e Γ Δ Ts (some a) Φo Ψ := fun σ vs H W s ok xo Q q =>
  ⟨_, po_some peW, h σ vs H W s ok xo _ fun P Ts1 v H1 ⟨i, el, h1⟩ s1 => by
    subst el
    exact ⟨i, s1.topV, q _ Ts1 H1 h1 s1.pop⟩⟩
def wPo (X : Cx) (x : Option Expr) : TO := fun σ H Q => ∀ (pins : List (Addr × Obj)) (s : Shared), Inv X pins σ H s → wpAny (model X.prog X.w) X.A (evalPart x X.env) (fun u s' => ∃ o H', Inv X pins σ H' s' ∧ IsPart u o ∧ Q o H') X.xe s
theorem poW {x : Option Expr} : PO X x (wPo X x) := ⟨fun pins s σ H Q I h => h pins s I⟩
theorem Eo.w {x : Option Expr} {Φo : Option Int → Ow → Prop} (h : Eo X e Γ Δ Ts x Φo Ψ) {σ : L2.St} {vs : List V} {H : Hp} {W : WX} (s : S e Γ Δ Ts σ vs H) (ok : Okx X W) (xo : Xo e Ψ W)
    {Q : Option Int → Hp → Prop} (q : ∀ o Ts' H', Φo o Ts' → S e Γ Δ Ts' σ vs H' → Q o H') : wPo X x σ H Q := fun pins s' I =>
  let ⟨_, h1, h2⟩ := h σ vs H W s ok xo Q q
  h1.run pins s' σ H Q I h2
theorem ev_sl {lo hi : Option Expr} {p2 : Pos} (h : Ev X e Γ Δ Ts a (fun P Ts1 => Eo X e Γ (P :: Δ) Ts1 lo (fun l Ts2 => Eo X e Γ (P :: Δ) Ts2 hi (fun u Ts3 => Uz e (fun v => wSl X v l u) P Ts3 Φ) Ψ) Ψ) Ψ) : Ev X e Γ Δ Ts (.Subscript a (.Slice lo hi none p2) pos) Φ Ψ := fun σ vs H W s ok xo Q q =>
  wE_of (pe_slice slW peW poW poW) (h σ vs H W s ok xo _ fun P Ts1 v H1 h1 s1 => h1.w s1 ok xo fun l Ts2 H2 h2 s2 => h2.w s2 ok xo fun u Ts3 H3 h3 s3 => h3 Γ Δ σ vs v H3 s3 Q q)
theorem wSl_of {r : V → Option Int → Option Int → Hp → VK → Prop} {l u : Option Int} {v : V} {H Q} (h : SlR X r) (q : r v l u H Q) : wSl X v l u H Q := fun pins s σ a vl vu sl I rx hs pl pu => h pins s σ H v a vl vu l u sl Q I rx hs pl pu q
/-- a list: a new one, owned -/
theorem sl_L {l u : Option Int} (hl : IsSq X.K Ts P Ps) (h : ∀ p, Φ (isR p) ((p, cL (cutP Ps l u)) :: Ts)) : Uz e (fun v => wSl X v l u) P Ts Φ := fun Γ Δ σ vs v H s Q k => by
  obtain ⟨F, g, x, y⟩ := s.ex
  cases y with
  | cons hp y =>
    obtain ⟨r, ws, e3, hq, ha⟩ := hl.get g hp
    exact wSl_of sl_list ⟨r, ws, e3, hq, fun p hp => k _ _ _ _ (h p) ⟨F, g.new hp ⟨_, rfl, ha.cut⟩, x, .cons rfl y⟩⟩
theorem cut_whole {xs : List V} {lo hi : Option Int} (h : HT.sIx xs.length 0 lo = 0 ∧ HT.sIx xs.length xs.length hi = xs.length) : cutV xs lo hi = xs := by
  unfold cutV
  rw [h.1, h.2, List.drop_zero, Nat.sub_zero, List.take_length]
/-- of a tuple -/
theorem sl_T {l u : Option Int} (h : Φ (tup X.K (cutP Ps l u)) Ts) : Uz e (fun v => wSl X v l u) (tup X.K Ps) Ts Φ := fun Γ Δ σ vs v H s Q k => by
  obtain ⟨F, g, x, y⟩ := s.ex
  cases y with
  | cons hp y =>
    obtain ⟨r, ws, e3, hq, ha⟩ := hp
    refine wSl_of sl_tupA ⟨r, ws, e3, sqT_mono g.sub hq, fun hw => k _ _ _ _ h ⟨F, g, x, .cons ⟨r, ws, rfl, hq, ?_⟩ y⟩, fun hw p hp => k _ _ _ _ h ⟨_, g.frz hp, x.mono (Sub.new (g.free hp)), .cons ⟨p, cutV ws l u, rfl, .inl (.inl upd_same), ha.cut.mono (Sub.new (g.free hp))⟩ (y.mono (Sub.new (g.free hp)))⟩⟩
    have := ha.cut (lo := l) (hi := u)
    rw [cut_whole hw] at this
    exact this
/-- of a text -/
theorem sl_S {l u : Option Int} {z : Str} (hz : z.length ≤ sizeLine) (h : Φ (isS (cutS z l u)) Ts) : Uz e (fun v => wSl X v l u) (isS z) Ts Φ := fun Γ Δ σ vs v H s Q k =>
  wSl_of sl_str ⟨z, s.topV, hz, k _ _ _ _ h (s.pop.push fun _ _ => rfl)⟩
/-! ### built-ins called -/
theorem bt_len : bootBuiltins "len" = some (.builtin "len") := by decide +kernel
theorem bt_max : bootBuiltins "max" = some (.builtin "max") := by decide +kernel
theorem bt_min : bootBuiltins "min" = some (.builtin "min") := by decide +kernel
theorem bt_sorted : bootBuiltins "sorted" = some (.builtin "sorted") := by decide +kernel
theorem bt_sum : bootBuiltins "sum" = some (.builtin "sum") := by decide +kernel
theorem bt_isinstance : bootBuiltins "isinstance" = some (.builtin "isinstance") := by decide +kernel
theorem bt_any : bootBuiltins "any" = some (.builtin "any") := by decide +kernel
theorem bt_all : bootBuiltins "all" = some (.builtin "all") := by decide +kernel
theorem bt_int : bootBuiltins "int" = some (.type "int") := by decide +kernel
theorem bt_str : bootBuiltins "str" = some (.type "str") := by decide +kernel
theorem bt_list : bootBuiltins "list" = some (.type "list") := by decide +kernel
theorem bt_tuple : bootBuiltins "tuple" = some (.type "tuple") := by decide +kernel
theorem bt_set : bootBuiltins "set" = some (.type "set") := by decide +kernel
theorem bt_range : bootBuiltins "range" = some (.type "range") := by decide +kernel
theorem bt_bool : bootBuiltins "bool" = some (.type "bool") := by decide +kernel
theorem bt_reversed : bootBuiltins "reversed" = some (.type "reversed") := by decide +kernel
theorem bt_enumerate : bootBuiltins "enumerate" = some (.type "enumerate") := by decide +kernel
theorem ev_cb {id : String} {es : List Expr} {p : Pos} (hm : X.mg x = none) (hv : bootBuiltins x = some (.builtin id)) (h : Ea X e Γ Δ Ts (a :: es) (fun Ps Ts1 => Nz e (wC X (.builtin id)) Ps Ts1 Φ) Ψ) (hg : Gl X x := by rfl) (hn : x ≠ "__name__" := by decide) (hdb : (x == ("__debug__" : Str)) = false := by decide)
    (he : starEach (a :: es) X.env = (false, eval a X.env) :: starEach es X.env := by rfl) (hpl : (backTo pos (starEach es X.env)).any (·.1) = false := by rfl) : Ev X e Γ Δ Ts (.Call (.Name x p) (a :: es) [] pos) Φ Ψ := fun σ vs H W s ok xo Q q =>
  wE_of (pe_callB cW hg hm hv paW hn hdb he hpl) (h σ vs H W s ok xo _ fun Ps Ts1 ws H1 h1 hl s1 => h1 Γ Δ σ ws vs H1 hl s1 Q q)
theorem ev_ct {T : String} {es : List Expr} {p : Pos} (hm : X.mg x = none) (hv : bootBuiltins x = some (.type T)) (h : Ea X e Γ Δ Ts (a :: es) (fun Ps Ts1 => Nz e (wC X (.type T)) Ps Ts1 Φ) Ψ) (hg : Gl X x := by rfl) (hn : x ≠ "__name__" := by decide) (hdb : (x == ("__debug__" : Str)) = false := by decide)
    (he : starEach (a :: es) X.env = (false, eval a X.env) :: starEach es X.env := by rfl) (hpl : (backTo pos (starEach es X.env)).any (·.1) = false := by rfl) : Ev X e Γ Δ Ts (.Call (.Name x p) (a :: es) [] pos) Φ Ψ := fun σ vs H W s ok xo Q q =>
  wE_of (pe_callTy cW hg hm hv paW hn hdb he hpl) (h σ vs H W s ok xo _ fun Ps Ts1 ws H1 h1 hl s1 => h1 Γ Δ σ ws vs H1 hl s1 Q q)
theorem wC_of {f : Value} {r : List V → Hp → VK → Prop} {ws : List V} {H Q} (h : CallR X f r) (q : r ws H Q) : wC X f ws H Q := fun pins s σ us I rr => h pins s σ H ws us Q I rr q
/-- one argument -/
theorem nz1 {rel : List V → Hp → VK → Prop} (h : Uz e (fun v => rel [v]) P Ts Φ) : Nz e rel [P] Ts Φ := fun Γ Δ σ ws vs H hl s Q k => by
  cases ws with
  | nil => cases hl
  | cons w ws => cases ws with
    | cons _ _ => cases hl
    | nil => exact h Γ Δ σ vs w H s Q k
theorem nz2 {rel : List V → Hp → VK → Prop} {P1 P2 : VP} (h : Bz e (fun u v => rel [v, u]) P2 P1 Ts Φ) : Nz e rel [P1, P2] Ts Φ := fun Γ Δ σ ws vs H hl s Q k => by
  cases ws with
  | nil => cases hl
  | cons w ws => cases ws with
    | nil => cases hl
    | cons w2 ws => cases ws with
      | cons _ _ => cases hl
      | nil => exact h Γ Δ σ vs w2 w H s Q k
theorem len_L (hl : IsSq X.K Ts P Ps) (h : Φ (isI Ps.length) Ts) : Nz e (wC X (.builtin "len")) [P] Ts Φ := nz1 fun Γ Δ σ vs v H s Q k => by
  obtain ⟨F, g, x, y⟩ := s.ex
  cases y with
  | cons hp y =>
    obtain ⟨r, ws, e3, hq, ha⟩ := hl.get g hp
    exact wC_of call_len_seq ⟨r, ws, by rw [e3], .inl hq, k _ _ _ _ h ⟨F, g, x, .cons (show (isI _).p F _ from (by rw [ha.len]; rfl)) y⟩⟩
theorem len_T (h : Φ (isI Ps.length) Ts) : Nz e (wC X (.builtin "len")) [tup X.K Ps] Ts Φ := nz1 fun Γ Δ σ vs v H s Q k => by
  obtain ⟨F, g, x, y⟩ := s.ex
  cases y with
  | cons hp y =>
    obtain ⟨r, ws, e3, hq, ha⟩ := hp
    exact wC_of call_len_seq ⟨r, ws, by rw [e3], .inr (sqT_mono g.sub hq), k _ _ _ _ h ⟨F, g, x, .cons (show (isI _).p F _ from (by rw [ha.len]; rfl)) y⟩⟩
theorem len_S {z : Str} (hz : z.length ≤ sizeLine) (h : Φ (isI z.length) Ts) : Nz e (wC X (.builtin "len")) [isS z] Ts Φ := nz1 fun Γ Δ σ vs v H s Q k => by
  have ev := s.topV
  subst ev
  exact wC_of call_len_str ⟨z, rfl, hz, k _ _ _ _ h (s.pop.push fun _ _ => rfl)⟩
theorem int_I {i : Int} (h : Φ (isI i) Ts) : Nz e (wC X (.type "int")) [isI i] Ts Φ := nz1 fun Γ Δ σ vs v H s Q k => by
  have ev := s.topV
  subst ev
  exact wC_of call_int1 (.inl ⟨i, rfl, k _ _ _ _ h (s.pop.push fun _ _ => rfl)⟩)
theorem int_B {b : Bool} (h : Φ (isI (if b then 1 else 0)) Ts) : Nz e (wC X (.type "int")) [isB b] Ts Φ := nz1 fun Γ Δ σ vs v H s Q k => by
  have ev := s.topV
  subst ev
  exact wC_of call_int1 (.inr ⟨b, rfl, k _ _ _ _ h (s.pop.push fun _ _ => rfl)⟩)
theorem int_S {z : Str} {n : Int} (hz : PySem.intText? z = some n) (hl : z.length ≤ 640) (h : Φ (isI n) Ts) : Nz e (wC X (.type "int")) [isS z] Ts Φ := nz1 fun Γ Δ σ vs v H s Q k => by
  have ev := s.topV
  subst ev
  exact wC_of call_int_str ⟨z, n, rfl, hz, hl, k _ _ _ _ h (s.pop.push fun _ _ => rfl)⟩
theorem str_I {i : Int} (hz : i.natAbs.log2 < 1920) (h : Φ (isS (toString i)) Ts) : Nz e (wC X (.type "str")) [isI i] Ts Φ := nz1 fun Γ Δ σ vs v H s Q k => by
  have ev := s.topV
  subst ev
  exact wC_of call_str_int ⟨i, rfl, hz, k _ _ _ _ h (s.pop.push fun _ _ => rfl)⟩
/-- list(xs): a new list, owned -/
theorem list_L (hl : IsSq X.K Ts P Ps) (h : ∀ r, Φ (isR r) ((r, cL Ps) :: Ts)) : Nz e (wC X (.type "list")) [P] Ts Φ := nz1 fun Γ Δ σ vs v H s Q k => by
  obtain ⟨F, g, x, y⟩ := s.ex
  cases y with
  | cons hp y =>
    obtain ⟨r, ws, e3, hq, ha⟩ := hl.get g hp
    exact wC_of call_list_of ⟨r, ws, by rw [e3], .inl hq, fun l hl => k _ _ _ _ (h l) ⟨F, g.new hl ⟨_, rfl, ha⟩, x, .cons rfl y⟩⟩
theorem list_T (h : ∀ r, Φ (isR r) ((r, cL Ps) :: Ts)) : Nz e (wC X (.type "list")) [tup X.K Ps] Ts Φ := nz1 fun Γ Δ σ vs v H s Q k => by
  obtain ⟨F, g, x, y⟩ := s.ex
  cases y with
  | cons hp y =>
    obtain ⟨r, ws, e3, hq, ha⟩ := hp
    exact wC_of call_list_of ⟨r, ws, by rw [e3], .inr (sqT_mono g.sub hq), fun l hl => k _ _ _ _ (h l) ⟨F, g.new hl ⟨_, rfl, ha⟩, x, .cons rfl y⟩⟩
/-- tuple(xs): frozen -/
theorem tuple_L (hl : IsSq X.K Ts P Ps) (h : Φ (tup X.K Ps) Ts) : Nz e (wC X (.type "tuple")) [P] Ts Φ := nz1 fun Γ Δ σ vs v H s Q k => by
  obtain ⟨F, g, x, y⟩ := s.ex
  cases y with
  | cons hp y =>
    obtain ⟨r, ws, e3, hq, ha⟩ := hl.get g hp
    exact wC_of call_tuple_of ⟨r, ws, by rw [e3], .inl ⟨hq, fun l hl => k _ _ _ _ h ⟨_, g.frz hl, x.mono (Sub.new (g.free hl)), .cons ⟨l, ws, rfl, .inl (.inl upd_same), ha.mono (Sub.new (g.free hl))⟩ (y.mono (Sub.new (g.free hl)))⟩⟩⟩
theorem tuple_T (h : Φ (tup X.K Ps) Ts) : Nz e (wC X (.type "tuple")) [tup X.K Ps] Ts Φ := nz1 fun Γ Δ σ vs v H s Q k => by
  obtain ⟨F, g, x, y⟩ := s.ex
  cases y with
  | cons hp y =>
    obtain ⟨r, ws, e3, hq, ha⟩ := id hp
    exact wC_of call_tuple_of ⟨r, ws, by rw [e3], .inr ⟨sqT_mono g.sub hq, k _ _ _ _ h ⟨F, g, x, .cons (e3 ▸ hp) y⟩⟩⟩
theorem max_2 {i j : Int} (hc : X.calm = true) (h : Φ (isI (if j > i then j else i)) Ts) : Nz e (wC X (.builtin "max")) [isI i, isI j] Ts Φ := nz2 fun Γ Δ σ vs v1 v2 H s Q k => by
  obtain ⟨F, _, h2, h1⟩ := s.top2
  exact wC_of (call_max2 hc) ⟨i, j, by rw [show v2 = _ from h2, show v1 = _ from h1], k _ _ _ _ h (s.pop.pop.push fun _ _ => rfl)⟩
theorem min_2 {i j : Int} (hc : X.calm = true) (h : Φ (isI (if j < i then j else i)) Ts) : Nz e (wC X (.builtin "min")) [isI i, isI j] Ts Φ := nz2 fun Γ Δ σ vs v1 v2 H s Q k => by
  obtain ⟨F, _, h2, h1⟩ := s.top2
  exact wC_of (call_min2 hc) ⟨i, j, by rw [show v2 = _ from h2, show v1 = _ from h1], k _ _ _ _ h (s.pop.pop.push fun _ _ => rfl)⟩
end
end Z
set_option maxHeartbeats 4000000
namespace Z
open PySem PySem.Spec PyProof.Rows L2
/-! ### methods of built-in types -/
structure BmF (T : String) (m : Str) (id : String) : Prop where
  pa : PlainAttrs T
  slot : Slot T m id
  ty : typeOf (.builtin id) = pure (.type "method_descriptor")
theorem bm_append : BmF "list" "append" "list.append" := ⟨PySem.F.plainAttrs_list, PySem.F.slot_list_append, PySem.F.type_list_append⟩
theorem bm_pop : BmF "list" "pop" "list.pop" := ⟨PySem.F.plainAttrs_list, PySem.F.slot_list_pop, PySem.F.type_list_pop⟩
theorem bm_reverse : BmF "list" "reverse" "list.reverse" := ⟨PySem.F.plainAttrs_list, PySem.F.slot_list_reverse, PySem.F.type_list_reverse⟩
theorem bm_extend : BmF "list" "extend" "list.extend" := ⟨PySem.F.plainAttrs_list, PySem.F.slot_list_extend, PySem.F.type_list_extend⟩
def TyZ (K : PySem.W.Frag) (T : String) (P : VP) (Ts : Ow) : Prop := ∀ (e : En) (F H : Hp) (v : V), Gd e F Ts H → P.p F v → tyV K T v H
section
variable {X : Cx} {e : En} {Γ : List (Option VP)} {Δ : List VP} {Ts : Ow} {a b c o : Expr} {es : List Expr} {pos apos cpos : Pos} {Φ : VP → Ow → Prop} {Ψ : XP} {x name : Str} {P R : VP} {Ps Qs : List VP}
theorem ty_L {K : PySem.W.Frag} (h : IsSq K Ts P Ps) : TyZ K "list" P Ts := fun e F H v g hv => by
  obtain ⟨l, ws, ev, hq, _⟩ := h.get g hv
  subst ev
  exact .inl ⟨rfl, ws, hq⟩
theorem ty_S {K : PySem.W.Frag} {z : Str} : TyZ K "str" (isS z) Ts := fun e F H v g hv => by
  have ev : v = .str z := hv
  subst ev
  exact rfl
theorem ev_bm (h : Ev X e Γ Δ Ts o (fun P Ts1 => ∃ T id, BmF T name id ∧ TyZ X.K T P Ts1 ∧ Ea X e Γ (P :: Δ) Ts1 (a :: es) (fun Ps Ts2 => Nz e (wC X (.builtin id)) (P :: Ps) Ts2 Φ) Ψ) Ψ)
    (hbase : attributeBase o name X.env (eval o X.env) = eval o X.env := by rfl)
    (hfew : ((backTo cpos (starEach (a :: es) X.env)).all (fun x => !x.1) && (backToKw cpos (keywordEach [] X.env)).all (fun x => x.1.isSome)
      && decide ((a :: es).length + ([] : List Keyword).length + (if ([] : List Keyword).isEmpty then 0 else 1) < 30)) = true := by rfl)
    (hline : (apos.endLine == cpos.line) = true := by rfl) (hs : starEach (a :: es) X.env = (false, eval a X.env) :: starEach es X.env := by rfl) (hplain : (backTo cpos (starEach es X.env)).any (·.1) = false := by rfl) :
    Ev X e Γ Δ Ts (.Call (.Attribute o name apos) (a :: es) [] cpos) Φ Ψ := fun σ vs H W s ok xo Q q => by
  refine ⟨fun pins sh I => ?_⟩
  refine wpAny_Call_method_late hbase hfew hline rfl (thn (peW.run pins sh σ H _ I (h σ vs H W s ok xo (fun v H1 => ∃ T id, BmF T name id ∧ tyV X.K T v H1 ∧ wA X (a :: es) σ H1 fun ws H2 => wC X (.builtin id) (v :: ws) H2 Q) fun P Ts1 v H1 ⟨T, id, f, ty, h1⟩ s1 => ?_)) fun u s1 ⟨v, H1, I1, r1, T, id, f, ty, q1⟩ => ?_)
  · obtain ⟨F, g, x, y⟩ := _root_.id s1.ex
    cases y with
    | cons hp y => exact ⟨T, id, f, ty e F H1 v g hp, h1 σ _ H1 W s1 ok xo _ fun Ps Ts2 ws H2 h2 hl s2 => h2 Γ Δ σ (v :: ws) vs H2 (by rw [List.length_cons, List.length_cons, hl]) (s2.map fun F _ x y => by
        obtain ⟨y1, y2⟩ := All.split hl.symm y
        cases y2 with
        | cons hp y2 => exact ⟨x, .cons hp (y1.append y2)⟩) Q q⟩
  · obtain ⟨h1, h2⟩ := tyV_is I1 r1 ty
    refine ⟨T, id, f.pa, f.slot, f.ty, h1, h2, ?_⟩
    have hA := paW.run cpos pins s1 σ H1 _ I1 q1
    rw [hs] at hA ⊢
    refine Calls.callWith_builtin (by show (false || (backTo cpos (starEach es X.env)).any (·.1)) = false; rw [hplain] <;> rfl) (Calls.evalArgs_plain ?_)
    exact thn hA fun us s2 ⟨ws, H2, I2, r2, q2⟩ => q2 pins s2 σ (u :: us) I2 (.cons r1 r2)
theorem ev_bm0 (h : Ev X e Γ Δ Ts o (fun P Ts1 => ∃ T id, BmF T name id ∧ TyZ X.K T P Ts1 ∧ Nz e (wC X (.builtin id)) [P] Ts1 Φ) Ψ)
    (hbase : attributeBase o name X.env (eval o X.env) = eval o X.env := by rfl) (hline : (apos.endLine == cpos.line) = true := by rfl) : Ev X e Γ Δ Ts (.Call (.Attribute o name apos) [] [] cpos) Φ Ψ := fun σ vs H W s ok xo Q q => by
  refine ⟨fun pins sh I => ?_⟩
  refine wpAny_Call_method0_late hbase hline (thn (peW.run pins sh σ H _ I (h σ vs H W s ok xo (fun v H1 => ∃ T id, BmF T name id ∧ tyV X.K T v H1 ∧ wC X (.builtin id) [v] H1 Q) fun P Ts1 v H1 ⟨T, id, f, ty, h1⟩ s1 => ?_)) fun u s1 ⟨v, H1, I1, r1, T, id, f, ty, q1⟩ => ?_)
  · obtain ⟨F, g, x, y⟩ := _root_.id s1.ex
    cases y with
    | cons hp y => exact ⟨T, id, f, ty e F H1 v g hp, h1 Γ Δ σ [v] vs H1 rfl s1 Q q⟩
  · obtain ⟨h1, h2⟩ := tyV_is I1 r1 ty
    exact ⟨T, id, f.pa, f.slot, f.ty, h1, h2, Calls.callWith_builtin rfl (PySem.evalArgs_none (q1 pins s1 σ [u] I1 (.cons r1 .nil)))⟩
theorem wC_ofM {id : String} {r : V → List V → Hp → VK → Prop} {v : V} {ws : List V} {H Q} (h : MtR X id r) (q : r v ws H Q) : wC X (.builtin id) (v :: ws) H Q := fun pins s σ us I rr => by
  cases rr with
  | cons r1 r2 => exact h pins s σ H v ws _ _ Q I r1 r2 q
theorem mt_app {l : Addr} (k : Nat) (hk : Ts[k]? = some (l, cL Ps)) (hz : Ps.length < sizeLine) (h : Φ isN (Ts.set k (l, cL (Ps ++ [R])))) : Nz e (wC X (.builtin "list.append")) [isR l, R] Ts Φ := nz2 fun Γ Δ σ vs v1 v2 H s Q q => by
  have ev := s.topV
  subst ev
  obtain ⟨F, g, x, y⟩ := s.ex
  obtain ⟨_, o, ho, ws, eo, ha⟩ := g.at hk
  subst eo
  cases y with
  | cons _ y => cases y with
    | cons hR y => exact wC_ofM mt_append ⟨l, ws, v1, rfl, rfl, ho, by rw [← ha.len]; exact hz, q _ _ _ _ h ⟨F, g.wr hk ⟨_, rfl, ha.append (.cons hR .nil)⟩, x, .cons rfl y⟩⟩
theorem mt_popL {l : Addr} (k : Nat) (hk : Ts[k]? = some (l, cL Ps)) (hR : Ps[Ps.length - 1]? = some R) (h : Φ R (Ts.set k (l, cL Ps.dropLast))) : Nz e (wC X (.builtin "list.pop")) [isR l] Ts Φ := nz1 fun Γ Δ σ vs v H s Q q => by
  have ev := s.topV
  subst ev
  obtain ⟨F, g, x, y⟩ := s.ex
  obtain ⟨_, o, ho, ws, eo, ha⟩ := g.at hk
  subst eo
  obtain ⟨z, hz, hRz⟩ := ha.get hR
  cases y with
  | cons _ y => exact wC_ofM mt_pop ⟨l, ws, z, rfl, rfl, ho, by rw [← ha.len]; exact hz, q _ _ _ _ h ⟨F, g.wr hk ⟨_, rfl, ha.dropLast⟩, x, .cons hRz y⟩⟩
theorem mt_rev {l : Addr} (k : Nat) (hk : Ts[k]? = some (l, cL Ps)) (h : Φ isN (Ts.set k (l, cL Ps.reverse))) : Nz e (wC X (.builtin "list.reverse")) [isR l] Ts Φ := nz1 fun Γ Δ σ vs v H s Q q => by
  have ev := s.topV
  subst ev
  obtain ⟨F, g, x, y⟩ := s.ex
  obtain ⟨_, o, ho, ws, eo, ha⟩ := g.at hk
  subst eo
  cases y with
  | cons _ y => exact wC_ofM mt_reverse ⟨l, ws, rfl, rfl, ho, q _ _ _ _ h ⟨F, g.wr hk ⟨_, rfl, ha.reverse⟩, x, .cons rfl y⟩⟩
/-- told as a list that the heap tracks -/
inductive IsC (Ts : Ow) : VP → List VP → Prop
  | l {Ps : List VP} : IsC Ts (lst Ps) Ps
  | o {l : Addr} {Ps : List VP} (k : Nat) (h : Ts[k]? = some (l, cL Ps)) : IsC Ts (isR l) Ps
theorem IsC.get (h : IsC Ts P Ps) {F H : Hp} {v : V} (g : Gd e F Ts H) (hv : P.p F v) : ∃ l ws, v = .ref l ∧ H l = some (.lst ws) ∧ All F Ps ws := by
  cases h with
  | l =>
    obtain ⟨r, us, eu, hr, hu⟩ := hv
    exact ⟨r, us, eu, g.sub _ _ hr, hu⟩
  | o k hk =>
    obtain ⟨_, o, ho, ws, eo, ha⟩ := g.at hk
    subst eo
    exact ⟨_, ws, hv, ho, ha⟩
theorem mt_ext {l : Addr} (k : Nat) (hk : Ts[k]? = some (l, cL Ps)) (hq : IsC Ts R Qs) (hz : Ps.length + Qs.length ≤ sizeLine) (h : Φ isN (Ts.set k (l, cL (Ps ++ Qs)))) : Nz e (wC X (.builtin "list.extend")) [isR l, R] Ts Φ := nz2 fun Γ Δ σ vs v1 v2 H s Q q => by
  have ev := s.topV
  subst ev
  obtain ⟨F, g, x, y⟩ := s.ex
  obtain ⟨_, o, ho, ws, eo, ha⟩ := g.at hk
  subst eo
  cases y with
  | cons _ y => cases y with
    | cons hR y =>
      obtain ⟨r, us, eu, hr, hu⟩ := hq.get g hR
      exact wC_ofM mt_extend ⟨l, r, ws, us, rfl, by rw [eu], ho, hr, by rw [← ha.len, ← hu.len]; exact hz, q _ _ _ _ h ⟨F, g.wr hk ⟨_, rfl, ha.append hu⟩, x, .cons rfl y⟩⟩
/-- xs + ys, both told; a new list, owned -/
theorem oz_cat {P1 P2 : VP} {Ps Qs : List VP} (h1 : IsC Ts P1 Ps) (h2 : IsC Ts P2 Qs) (hz : Ps.length + Qs.length ≤ sizeLine) (h : ∀ p, Φ (isR p) ((p, cL (Ps ++ Qs)) :: Ts)) : Oz X e (binaryOp .Add) P1 P2 Ts Φ := fun Γ Δ σ vs v1 v2 H s Q k => by
  obtain ⟨F, g, x, y⟩ := s.ex
  cases y with
  | cons hb y => cases y with
    | cons ha y =>
      obtain ⟨l, ws, e1, m1, a1⟩ := h1.get g ha
      obtain ⟨r, us, e2, m2, a2⟩ := h2.get g hb
      exact wO_of op_cat ⟨l, r, ws, us, e1, e2, m1, m2, by rw [← a1.len, ← a2.len]; exact hz, fun p hp => k _ _ _ _ (h p) ⟨F, g.new hp ⟨_, rfl, a1.append a2⟩, x, .cons rfl y⟩⟩
/-- xs * n -/
theorem oz_rep {P1 : VP} {Ps : List VP} {n : Int} (h1 : IsC Ts P1 Ps) (hn : -(2 ^ 63) ≤ n) (hn2 : n < 2 ^ 63) (hz : Ps.length * n.toNat ≤ sizeLine) (h : ∀ p, Φ (isR p) ((p, cL (List.replicate n.toNat Ps).flatten) :: Ts)) : Oz X e (binaryOp .Mult) P1 (isI n) Ts Φ := fun Γ Δ σ vs v1 v2 H s Q k => by
  obtain ⟨F, g, x, y⟩ := s.ex
  cases y with
  | cons hb y => cases y with
    | cons ha y =>
      obtain ⟨l, ws, e1, m1, a1⟩ := h1.get g ha
      have ar : All F (List.replicate n.toNat Ps).flatten (List.replicate n.toNat ws).flatten := by
        generalize n.toNat = m
        induction m with
        | zero => exact .nil
        | succ m ih => rw [List.replicate_succ, List.replicate_succ, List.flatten_cons, List.flatten_cons]; exact a1.append ih
      exact wO_of op_rep ⟨l, n, ws, e1, hb, m1, hn, hn2, by rw [← a1.len]; exact hz, fun p hp => k _ _ _ _ (h p) ⟨F, g.new hp ⟨_, rfl, ar⟩, x, .cons rfl y⟩⟩
/-- t + u of tuples -/
theorem oz_catT {Ps Qs : List VP} (hz : Ps.length + Qs.length ≤ sizeLine) (h : Φ (tup X.K (Ps ++ Qs)) Ts) : Oz X e (binaryOp .Add) (tup X.K Ps) (tup X.K Qs) Ts Φ := fun Γ Δ σ vs v1 v2 H s Q k => by
  obtain ⟨F, g, x, y⟩ := s.ex
  cases y with
  | cons hb y => cases y with
    | cons ha y =>
      obtain ⟨l, ws, e1, m1, a1⟩ := ha
      obtain ⟨r, us, e2, m2, a2⟩ := hb
      refine wO_of op_catA ⟨l, r, ws, us, e1, e2, sqT_mono g.sub m1, sqT_mono g.sub m2, by rw [← a1.len, ← a2.len]; exact hz, fun hx => ?_, fun hx hy => ?_, fun hx hy p hp => ?_⟩
      · subst hx
        cases a1
        exact k _ _ _ _ h ⟨F, g, x, .cons ⟨r, us, rfl, m2, a2⟩ y⟩
      · subst hy
        cases a2
        exact k _ _ _ _ h ⟨F, g, x, .cons ⟨l, ws, rfl, m1, by rw [List.append_nil]; exact a1⟩ y⟩
      · exact k _ _ _ _ h ⟨_, g.frz hp, x.mono (Sub.new (g.free hp)), .cons ⟨p, _, rfl, .inl (.inl upd_same), (a1.append a2).mono (Sub.new (g.free hp))⟩ (y.mono (Sub.new (g.free hp)))⟩
end
/-! ### statements -/
section
variable {X : Cx} {e : En} {Γ : List (Option VP)} {Δ : List VP} {Ts : Ow} {a b c o : Expr} {pos tpos : Pos} {K : Post} {x : Str} {st : Stmt} {rest body orelse : List Stmt}
theorem Sx.post {K K' : Post} (h : Sx X e Γ Δ Ts st K) (f : ∀ (vs : List V) (D : Ends) (W : WX), EndsOk e Δ vs K' D W → EndsOk e Δ vs K D W) : Sx X e Γ Δ Ts st K' := fun σ vs H W D s ok en => h σ vs H W D s ok (f vs D W en)
theorem bl_nil (h : K.nx Γ Ts) : Bl X e Γ Δ Ts [] K := fun σ vs H W D s ok en => wB_of pss_nil (en.nx _ _ _ _ h s)
theorem bl_cons (h : Sx X e Γ Δ Ts st { K with nx := fun Γ' Ts' => Bl X e Γ' Δ Ts' rest K }) : Bl X e Γ Δ Ts (st :: rest) K := fun σ vs H W D s ok en =>
  wB_of (pss_cons psW pbW) (h σ vs H W { D with nx := wB X rest D } s ok ⟨fun Γ' Ts' σ' H' k s' => k σ' vs H' W D s' ok en, en.rt, en.bk, en.ct, en.ex⟩)
theorem bl_one (h : Sx X e Γ Δ Ts st K) : Bl X e Γ Δ Ts [st] K := fun σ vs H W D s ok en => wB_of (pss_one psW) (h σ vs H W D s ok en)
/-- a word between a statement and what follows -/
theorem bl_cut (M : List (Option VP) → Ow → Prop) (h : Sx X e Γ Δ Ts st { K with nx := M }) (k : ∀ Γ' Ts', M Γ' Ts' → Bl X e Γ' Δ Ts' rest K) : Bl X e Γ Δ Ts (st :: rest) K := bl_cons fun σ vs H W D s ok en => h σ vs H W D s ok ⟨fun Γ' Ts' σ' H' q s' => en.nx Γ' Ts' σ' H' (k Γ' Ts' q) s', en.rt, en.bk, en.ct, en.ex⟩
/-- known of less -/
theorem bl_wk {Γ' : List (Option VP)} (w : ∀ F, Wk F Γ Γ') (h : Bl X e Γ' Δ Ts body K) : Bl X e Γ Δ Ts body K := fun σ vs H W D s ok en => h σ vs H W D (s.wk w) ok en
/-- owned cells in another order, fewer -/
theorem bl_perm {Ts' : Ow} (nd : (Ts'.map Prod.fst).Nodup ∨ Ts'.Sublist Ts ∨ Ts'.Perm Ts) (hm : ∀ x ∈ Ts', x ∈ Ts) (h : Bl X e Γ Δ Ts' body K) : Bl X e Γ Δ Ts body K := fun σ vs H W D s ok en => h σ vs H W D (s.perm nd hm) ok en
theorem bl_sub {Ts' : Ow} (hm : Ts'.Sublist Ts) (h : Bl X e Γ Δ Ts' body K) : Bl X e Γ Δ Ts body K := bl_perm (.inr (.inl hm)) (fun _ hx => hm.subset hx) h
/-- an owned cell frozen: slot j tells it from now on -/
theorem Sl.upg {F : Hp} {Γ : List (Option VP)} {σ : L2.St} {j : Nat} {P Q : VP} (h : Γ[j]? = some (some P)) (k : ∀ v, P.p F v → Q.p F v) (s : Sl F Γ σ) : Sl F (Γ.set j (some Q)) σ := by
  obtain ⟨v, h1, h2⟩ := s.get h
  have := s.set j (k v h2)
  rw [set_same h1] at this
  exact this
theorem bl_freezeL (i j : Nat) {l : Addr} {Ps : List VP} (hi : Ts[i]? = some (l, cL Ps)) (hj : Γ[j]? = some (some (isR l))) (h : Bl X e (Γ.set j (some (lst Ps))) Δ (Ts.eraseIdx i) body K) : Bl X e Γ Δ Ts body K := fun σ vs H W D s ok en =>
  h σ vs H W D (s.freeze hi fun F o ha hF _ x y => ⟨x.upg hj fun v hv => by
    obtain ⟨ws, eo, hw⟩ := ha
    subst eo
    exact ⟨l, ws, hv, hF, hw⟩, y⟩) ok en
theorem sx_asg (i : Nat) (h : Ev X e Γ Δ Ts a (fun P Ts1 => K.nx (Γ.set i (some P)) Ts1) K.ex) (hi : X.N[i]? = some x := by rfl) (hx : Loc X.env.scope x := by first | exact Or.inl rfl | exact Or.inr rfl) (hs : swapsWith a (some (.Name x tpos)) pos.line X.env = pure false := by rfl)
    (hf : X.fn x = true ∨ X.env.scope.names.lookup x = some .local := by first | exact .inl rfl | exact .inr rfl | assumption) : Sx X e Γ Δ Ts (.Assign [.Name x tpos] a pos) K := fun σ vs H W D s ok en =>
  wS_of (ps_set ok.nd hi hx peW hs hf) (h σ vs H W s ok en.ex _ fun P Ts1 v H1 h1 s1 => en.nx _ _ _ _ h1 s1.put)
/-- any target -/
theorem sx_asgT {tg : Expr} (h : Ev X e Γ Δ Ts a (fun P Ts1 => Tg X e Γ Δ Ts1 tg P K.nx) K.ex) (hs : swapsWithSole [tg] a pos.line X.env = pure false := by rfl) (hw : swappedStores [tg] a X.env = pure none := by rfl)
    (h1 : (assignEach [tg] X.env).map (·.2) = [assign tg X.env] := by rfl) : Sx X e Γ Δ Ts (.Assign [tg] a pos) K := fun σ vs H W D s ok en =>
  wS_of (ps_asg peW pgW hs hw h1) (h σ vs H W s ok en.ex _ fun P Ts1 v H1 k s1 => k σ vs v H1 W s1 ok _ fun Γ' Ts' σ' H' k2 s2 => en.nx _ _ _ _ k2 s2)
theorem sx_expr (h : Ev X e Γ Δ Ts a (fun _ Ts1 => K.nx Γ Ts1) K.ex) (hs : swapsWith a none pos.line X.env = pure false := by rfl) : Sx X e Γ Δ Ts (.Expr a pos) K := fun σ vs H W D s ok en =>
  wS_of (ps_expr peW hs) (h σ vs H W s ok en.ex _ fun P Ts1 v H1 h1 s1 => en.nx _ _ _ _ h1 s1.pop)
theorem sx_doc {z : Str} {j : Nat} (h : K.nx Γ Ts) : Sx X e Γ Δ Ts (.Expr (.Constant (.str z) j tpos) pos) K := fun σ vs H W D s ok en => wS_of ps_doc (en.nx _ _ _ _ h s)
theorem sx_ret (h : Ev X e Γ Δ Ts a (fun P Ts1 => K.rt P Ts1) K.ex) : Sx X e Γ Δ Ts (.Return (some a) pos) K := fun σ vs H W D s ok en =>
  wS_of (ps_ret peW) (h σ vs H W s ok en.ex _ fun P Ts1 v H1 h1 s1 => en.rt _ _ _ _ h1 (s1.map fun F _ x y => by
    cases y with
    | cons p y => exact ⟨.nil, .cons p .nil⟩))
theorem sx_retN (h : K.rt isN Ts) : Sx X e Γ Δ Ts (.Return none pos) K := fun σ vs H W D s ok en => wS_of ps_retN (en.rt _ _ _ _ h (s.map fun F _ x y => ⟨.nil, .cons rfl .nil⟩))
theorem sx_pass (h : K.nx Γ Ts) : Sx X e Γ Δ Ts (.Pass pos) K := fun σ vs H W D s ok en => wS_of ps_pass (en.nx _ _ _ _ h s)
theorem sx_break (h : K.bk Γ Ts) : Sx X e Γ Δ Ts (.Break pos) K := fun σ vs H W D s ok en => wS_of ps_break (en.bk _ _ _ _ h s)
theorem sx_continue (h : K.ct Γ Ts) : Sx X e Γ Δ Ts (.Continue pos) K := fun σ vs H W D s ok en => wS_of ps_continue (en.ct _ _ _ _ h s)
theorem sx_if (h : Et X e Γ Δ Ts c (fun k Ts1 => (k = true → Bl X e Γ Δ Ts1 body K) ∧ (k = false → Bl X e Γ Δ Ts1 orelse K)) K.ex) : Sx X e Γ Δ Ts (.If c body orelse pos) K := fun σ vs H W D s ok en =>
  wS_of (ps_if ptW pbW pbW) (h σ vs H W s ok en.ex _ fun k Ts1 H1 h1 s1 => by
    cases k with
    | true => exact iteT (h1.1 rfl σ vs H1 W D s1 ok en)
    | false => exact iteF (h1.2 rfl σ vs H1 W D s1 ok en))
/-- x += e, a local name -/
theorem sx_aug {op : Operator} (i : Nat) {P0 : VP} (h0 : Γ[i]? = some (some P0)) (h : Ev X e Γ (P0 :: Δ) Ts a (fun P Ts1 => Oz X e (inplaceOp op) P0 P Ts1 (fun R Ts2 => K.nx (Γ.set i (some R)) Ts2)) K.ex) (hi : X.N[i]? = some x := by rfl) (hx : Loc X.env.scope x := by first | exact Or.inl rfl | exact Or.inr rfl)
    (hf : X.fn x = true ∨ X.env.scope.names.lookup x = some .local := by first | exact .inl rfl | exact .inr rfl | assumption) : Sx X e Γ Δ Ts (.AugAssign (.Name x tpos) op a pos) K := fun σ vs H W D s ok en => by
  obtain ⟨v0, h1, s0⟩ := s.var h0
  exact wS_of (ps_aug (ti := wO X (inplaceOp op)) ok.nd hi hx peW (fun pins s σ H x y v u Q I rx ry q => q pins s σ v u I rx ry) hf) ⟨v0, h1, h σ _ H W s0 ok en.ex _ fun P Ts1 v H1 k s1 => k Γ Δ σ vs v0 v H1 s1 _ fun R Ts2 w H2 k2 s2 => en.nx _ _ _ _ k2 s2.put⟩
/-! targets -/
theorem tg_name (i : Nat) {P : VP} {κ : List (Option VP) → Ow → Prop} (h : κ (Γ.set i (some P)) Ts) (hi : X.N[i]? = some x := by rfl) (hx : Loc X.env.scope x := by first | exact Or.inl rfl | exact Or.inr rfl)
    (hf : X.fn x = true ∨ X.env.scope.names.lookup x = some .local := by first | exact .inl rfl | exact .inr rfl | assumption) : Tg X e Γ Δ Ts (.Name x pos) P κ := fun σ vs v H W s ok Q q =>
  wG_of (pg_name ok.nd hi hx hf) (q _ _ _ _ h s.put)
/-- several targets, the values told -/
def Tgs (X : Cx) (e : En) (Γ : List (Option VP)) (Δ : List VP) (Ts : Ow) (tgs : List Expr) (Ps : List VP) (κ : List (Option VP) → Ow → Prop) : Prop := ∀ (σ : L2.St) (vs ws : List V) (H : Hp) (W : WX), ws.length = Ps.length → S e Γ (Ps ++ Δ) Ts σ (ws ++ vs) H → Okx X W →
  ∀ Q : L2.St → Hp → Prop, (∀ Γ' Ts' σ' H', κ Γ' Ts' → S e Γ' Δ Ts' σ' vs H' → Q σ' H') → ∃ t, PGs X tgs t ∧ t ws σ H Q
def wGs (X : Cx) (tgs : List Expr) : TGs := fun ws σ H Q => ∀ (pins : List (Addr × Obj)) (s : Shared) (us : List Value), Inv X pins σ H s → Vals ws us →
  wpAny (model X.prog X.w) X.A (assignInOrder ((assignEach tgs X.env).map (·.2)) us) (fun _ s' => ∃ σ' H', Inv X pins σ' H' s' ∧ Q σ' H') X.xe s
theorem pgsW {tgs : List Expr} : PGs X tgs (wGs X tgs) := ⟨fun pins s σ H vs us Q I r h => h pins s us I r⟩
theorem Tgs.w {tgs : List Expr} {Ps : List VP} {κ : List (Option VP) → Ow → Prop} (h : Tgs X e Γ Δ Ts tgs Ps κ) {σ : L2.St} {vs ws : List V} {H : Hp} {W : WX} (hl : ws.length = Ps.length) (s : S e Γ (Ps ++ Δ) Ts σ (ws ++ vs) H) (ok : Okx X W)
    {Q : L2.St → Hp → Prop} (q : ∀ Γ' Ts' σ' H', κ Γ' Ts' → S e Γ' Δ Ts' σ' vs H' → Q σ' H') : wGs X tgs ws σ H Q := fun pins s' us I r =>
  let ⟨_, h1, h2⟩ := h σ vs ws H W hl s ok Q q
  h1.run pins s' σ H ws us Q I r h2
theorem tgs_nil {κ : List (Option VP) → Ow → Prop} (h : κ Γ Ts) : Tgs X e Γ Δ Ts [] [] κ := fun σ vs ws H W hl s ok Q q => ⟨_, pgs_nil, List.length_eq_zero_iff.mp hl, q _ _ _ _ h (by
  cases ws with
  | nil => exact s
  | cons _ _ => cases hl)⟩
theorem tgs_cons {tg : Expr} {tgs : List Expr} {P : VP} {Ps : List VP} {κ : List (Option VP) → Ow → Prop} (h : Tg X e Γ (Ps ++ Δ) Ts tg P (fun Γ' Ts' => Tgs X e Γ' Δ Ts' tgs Ps κ))
    (hs : (assignEach (tg :: tgs) X.env).map (·.2) = assign tg X.env :: (assignEach tgs X.env).map (·.2) := by rfl) : Tgs X e Γ Δ Ts (tg :: tgs) (P :: Ps) κ := fun σ vs ws H W hl s ok Q q => by
  cases ws with
  | nil => cases hl
  | cons w ws => exact ⟨_, pgs_cons pgW pgsW hs, w, ws, rfl, h σ (ws ++ vs) w H W s ok _ fun Γ' Ts' σ' H' k s' => k.w (by simpa using hl) s' ok q⟩
theorem tg_tup {es : List Expr} {k : Nat} {Ps : List VP} {κ : List (Option VP) → Ow → Prop} (hc : X.calm = true) (hn : Ps.length = es.length) (h : Tgs X e Γ Δ Ts es Ps κ)
    (hn' : (assignEach es X.env).length = es.length := by rfl) (hst : (assignEach es X.env).findIdx? (·.1) = none := by rfl) : Tg X e Γ Δ Ts (.Tuple es k pos) (tup X.K Ps) κ := fun σ vs v H W s ok Q q => by
  obtain ⟨F, g, x, y⟩ := s.ex
  cases y with
  | cons hp y =>
    obtain ⟨l, ws, ev, hq, ha⟩ := hp
    have hl : ws.length = Ps.length := ha.len.symm
    exact wG_of (pg_tup hc pgsW hn' hst) ⟨l, ws, ev, sqT_mono g.sub hq, by rw [hl, hn], h.w hl ⟨F, g, x, ha.append y⟩ ok q⟩
/-- o[i] = .., o an owned list -/
theorem tg_subL {P : VP} {κ : List (Option VP) → Ow → Prop} (h : Ev X e Γ (P :: Δ) Ts o (fun P1 Ts1 => ∃ l, P1 = isR l ∧ Ev X e Γ (P1 :: P :: Δ) Ts1 c (fun P2 Ts2 => ∃ (i : Int) (k : Nat) (Ps : List VP) (j : Nat), P2 = isI i ∧ Ts2[k]? = some (l, cL Ps) ∧ ixN Ps.length i = some j ∧ κ Γ (Ts2.set k (l, cL (Ps.set j P)))) noX) noX)
    (ha : ∀ v, assign (.Subscript o c pos) X.env v = (do
      let ov ← holding [v] (eval o X.env)
      let iv ← holding [v, ov] (eval c X.env)
      standAt pos
      holding [v, ov, iv] (setItem ov iv v)
      release [v, ov, iv] []) := by intro _; rfl) : Tg X e Γ Δ Ts (.Subscript o c pos) P κ := fun σ vs v H W s ok Q q =>
  wG_of (pg_sub peW peW set_list ha) (h σ _ H W s ok (fun _ _ _ _ _ _ z => z.elim) _ fun P1 Ts1 v1 H1 ⟨l, el, h1⟩ s1 => h1 σ _ H1 W s1 ok (fun _ _ _ _ _ _ z => z.elim) _ fun P2 Ts2 v2 H2 ⟨i, k, Ps, j, e2, hk, hj, h2⟩ s2 => by
    subst el; subst e2
    have ev2 := s2.topV
    subst ev2
    have ev1 := s2.pop.topV
    subst ev1
    obtain ⟨F, g, x, y⟩ := s2.ex
    obtain ⟨_, o, ho, ws, eo, ha⟩ := g.at hk
    subst eo
    cases y with
    | cons _ y => cases y with
      | cons _ y => cases y with
        | cons hP y => exact ⟨l, ws, i, j, rfl, rfl, ho, by rw [← ha.len]; exact hj, q _ _ _ _ h2 ⟨F, g.wr hk ⟨_, rfl, ha.set j hP⟩, x, y⟩⟩)
/-- o.f = e, o an owned instance -/
theorem sx_fld {f : Str} (h : Ev X e Γ Δ Ts a (fun P Ts1 => Ev X e Γ (P :: Δ) Ts1 o (fun P1 Ts2 => ∃ (l : Addr) (k : Nat) (C : Addr) (fs : List (Str × VP)), P1 = isR l ∧ Ts2[k]? = some (l, cI C fs) ∧ Cls X.K C ∧ NoAttr X.K C f ∧ fs.length < 1000 ∧ K.nx Γ (Ts2.set k (l, cI C (putP f P fs)))) K.ex) K.ex)
    (hs : swapsWith a (some (.Attribute o f tpos)) pos.line X.env = pure false := by rfl) : Sx X e Γ Δ Ts (.Assign [.Attribute o f tpos] a pos) K := fun σ vs H W D s ok en =>
  wS_of (ps_fld peW peW hs) (h σ vs H W s ok en.ex _ fun P Ts1 v H1 h1 s1 => h1 σ _ H1 W s1 ok en.ex _ fun P1 Ts2 u H2 ⟨l, k, C, fs, el, hk, hc, hn, hz, h2⟩ s2 => by
    subst el
    have eu := s2.topV
    subst eu
    obtain ⟨F, g, x, y⟩ := s2.ex
    obtain ⟨_, o, ho, dx, gs, eo, hfl⟩ := g.at hk
    subst eo
    cases y with
    | cons _ y => cases y with
      | cons hP y => exact ⟨l, C, dx, gs, rfl, ho, hc, hn, by rw [← hfl.len]; exact hz, en.nx _ _ _ _ h2 ⟨F, g.wr hk ⟨dx, _, rfl, hfl.put hP⟩, x, y⟩⟩)
/-- o.f += e -/
theorem sx_fldAug {f : Str} {op : Operator} (h : Ev X e Γ Δ Ts o (fun P1 Ts1 => ∃ (l : Addr) (k0 : Nat) (C : Addr) (fs0 : List (Str × VP)) (P0 : VP), P1 = isR l ∧ Ts1[k0]? = some (l, cI C fs0) ∧ Cls X.K C ∧ NoAttr X.K C f ∧ fs0.lookup f = some P0 ∧
      Ev X e Γ (P0 :: P1 :: Δ) Ts1 a (fun P Ts2 => Oz X e (inplaceOp op) P0 P Ts2 (fun R Ts3 => ∃ (k : Nat) (fs : List (Str × VP)), Ts3[k]? = some (l, cI C fs) ∧ fs.length < 1000 ∧ K.nx Γ (Ts3.set k (l, cI C (putP f R fs))))) K.ex) K.ex) : Sx X e Γ Δ Ts (.AugAssign (.Attribute o f tpos) op a pos) K := fun σ vs H W D s ok en =>
  wS_of (ps_fldaug (rd := wO X (inplaceOp op)) peW peW (fun pins s σ H x y v u Q I rx ry q => q pins s σ v u I rx ry)) (h σ vs H W s ok en.ex _ fun P1 Ts1 v H1 ⟨l, k0, C, fs0, P0, el, hk0, hc, hn, hl, h1⟩ s1 => by
    subst el
    have ev := s1.topV
    subst ev
    obtain ⟨F, g, x, y⟩ := s1.ex
    obtain ⟨_, o, ho, dx, gs, eo, hfl⟩ := g.at hk0
    subst eo
    obtain ⟨v0, hv0, hP0⟩ := hfl.look hl
    refine ⟨l, C, dx, gs, v0, rfl, ho, hc, hn, hv0, h1 σ (v0 :: _) H1 W ⟨F, g, x, .cons hP0 y⟩ ok en.ex _ fun P Ts2 w H2 k s2 => k Γ _ σ _ v0 w H2 s2 _ fun R Ts3 z H3 ⟨k3, fs, hk3, hz, h3⟩ s3 => ?_⟩
    obtain ⟨F, g, x, y⟩ := s3.ex
    obtain ⟨_, o, ho, dx, gs, eo, hfl⟩ := g.at hk3
    subst eo
    cases y with
    | cons hR y => cases y with
      | cons _ y => exact ⟨dx, gs, ho, by rw [← hfl.len]; exact hz, en.nx _ _ _ _ h3 ⟨F, g.wr hk3 ⟨dx, _, rfl, hfl.put hR⟩, x, y⟩⟩)
end
end Z
set_option maxHeartbeats 4000000
namespace Z
open PySem PySem.Spec PyProof.Rows L2
/-! ### what is walked -/
structure Src (e : En) (J : It) (Δ : List VP) (vs : List V) (n : Nat) (El : Nat → VP → Prop) (C : Ow → Prop) : Prop where
  go : ∀ (i : Nat) (Γ : List (Option VP)) (Ts : Ow) (σ : L2.St) (H : Hp), i < n → C Ts → S e Γ Δ Ts σ vs H → J.go i H ∧ ∀ x H', J.yld i H x H' → ∃ R, El i R ∧ S e Γ (R :: Δ) Ts σ (x :: vs) H'
  stop : ∀ (Γ : List (Option VP)) (Ts : Ow) (σ : L2.St) (H : Hp), C Ts → S e Γ Δ Ts σ vs H → J.stop n H
abbrev IFn := VP → Nat → (Nat → VP → Prop) → (Ow → Prop) → Ow → Prop
def Ei (X : Cx) (e : En) (Γ : List (Option VP)) (Δ : List VP) (Ts : Ow) (tg iter : Expr) (Φ : IFn) (Ψ : XP) : Prop := ∀ (σ : L2.St) (vs : List V) (H : Hp) (W : WX), S e Γ Δ Ts σ vs H → Okx X W → Xo e Ψ W →
  ∀ R : It → Hp → Prop, (∀ P n El C Ts' v H' J, Φ P n El C Ts' → S e Γ (P :: Δ) Ts' σ (v :: vs) H' → Src e J (P :: Δ) (v :: vs) n El C → R J H') → wI X tg iter σ H R
section
variable {X : Cx} {e : En} {Γ : List (Option VP)} {Δ : List VP} {Ts : Ow} {a b c iter tg : Expr} {pos : Pos} {Φ : VP → Ow → Prop} {Φi : IFn} {Ψ : XP} {x : Str}
theorem wI_of {t : TI} {σ H R} (h : PI X tg iter t) (q : t σ H R) : wI X tg iter σ H R := ⟨fun pins s I => h.run pins s σ H R I q⟩
theorem piW : PI X tg iter (wI X tg iter) := ⟨fun pins s σ H R I h => h.ru pins s I⟩
/-- a value is walked -/
def wV (X : Cx) (tg : Expr) : V → L2.St → Hp → (It → Hp → Prop) → Prop := fun v σ H R => ∀ (pins : List (Addr × Obj)) (s : Shared) (u : Value), Inv X pins σ H s → RelV v u → wpAny (model X.prog X.w) X.A (pyIter u) (PIE X pins σ tg R) X.xe s
def Wz (X : Cx) (e : En) (tg : Expr) (P : VP) (Ts : Ow) (Φ : IFn) : Prop := ∀ (Γ : List (Option VP)) (Δ : List VP) (σ : L2.St) (vs : List V) (v : V) (H : Hp), S e Γ (P :: Δ) Ts σ (v :: vs) H →
  ∀ R : It → Hp → Prop, (∀ n El C J, Φ P n El C Ts → Src e J (P :: Δ) (v :: vs) n El C → R J H) → wV X tg v σ H R
theorem ei_val (h : Ev X e Γ Δ Ts iter (fun P Ts1 => Wz X e tg P Ts1 Φi) Ψ) : Ei X e Γ Δ Ts tg iter Φi Ψ := fun σ vs H W s ok xo R q =>
  ⟨fun pins sh I => thn (peW.run pins sh σ H _ I (h σ vs H W s ok xo (fun v H1 => wV X tg v σ H1 R) fun P Ts1 v H1 h1 s1 => h1 Γ Δ σ vs v H1 s1 R fun n El C J h2 src => q P n El C Ts1 v H1 J h2 s1 src)) fun u s1 ⟨v, H1, I1, r1, q1⟩ => q1 pins s1 u I1 r1⟩
theorem wV_list {l : Addr} {ws : List V} {σ : L2.St} {H : Hp} {R : It → Hp → Prop} (hq : SqL X.K H l ws) (q : R (Itl X.K l) H) : wV X tg (.ref l) σ H R := fun pins s u I r => by
  obtain rfl : u = Value.ref l := r
  obtain ⟨its, _, pl, _⟩ := I.list hq
  exact wpAny_pyIter_list pl.isList ⟨s.heap.objs.size, [s.heap.objs.size], _, _, H, rfl, I.kept (t' := s.toks) fun _ _ z => Heap.get?_push_of_some _ z, turn_list l _, ⟨_, Heap.get?_push_size _ rfl, rfl, rfl⟩, fun b hb => by
    rw [List.mem_singleton.mp hb]
    exact I.fpOk (Nat.le_refl _) (I.hok.fresh (Nat.le_refl _)), q⟩
theorem wV_tup {l : Addr} {ws : List V} {σ : L2.St} {H : Hp} {R : It → Hp → Prop} (hq : SqT X.K H l ws) (q : R (Itt X.K l) H) : wV X tg (.ref l) σ H R := fun pins s u I r => by
  obtain rfl : u = Value.ref l := r
  obtain ⟨its, _, pl, _⟩ := I.tuple hq
  exact wpAny_pyIter_tuple (show s.heap.IsTuple l its.toArray from pl) ⟨s.heap.objs.size, [s.heap.objs.size], _, _, H, rfl, I.kept (t' := s.toks) fun _ _ z => Heap.get?_push_of_some _ z, turn_tuple l _, ⟨_, Heap.get?_push_size _ rfl, rfl, rfl⟩, fun b hb => by
    rw [List.mem_singleton.mp hb]
    exact I.fpOk (Nat.le_refl _) (I.hok.fresh (Nat.le_refl _)), q⟩
/-- a list, frozen or owned (where owned it stays as it is) -/
theorem wz_L {P : VP} {Ps : List VP} (hl : IsSq X.K Ts P Ps) (h : Φi P Ps.length (fun i R => Ps[i]? = some R) (fun Ts' => IsSq X.K Ts' P Ps) Ts) : Wz X e tg P Ts Φi := fun Γ Δ σ vs v H s R q => by
  obtain ⟨F, g, x, y⟩ := id s.ex
  cases y with
  | cons hp y =>
    obtain ⟨l, ws, ev, hq, ha⟩ := hl.get g hp
    subst ev
    refine wV_list hq (q _ _ _ _ h ⟨fun i Γ' Ts' σ' H' hi hc s' => ?_, fun Γ' Ts' σ' H' hc s' => ?_⟩)
    · obtain ⟨F, g, x, y⟩ := id s'.ex
      cases y with
      | cons hp y =>
        obtain ⟨l2, ws, ev, hq, ha⟩ := hc.get g hp
        cases ev
        have hi' : i < ws.length := by rw [← ha.len]; exact hi
        refine ⟨⟨ws, ws[i], hq, by simp [hi']⟩, fun z H2 hy => ?_⟩
        obtain ⟨eH, hx⟩ := hy
        subst eH
        obtain ⟨R, h1, h2⟩ := ha.getV (hx ws hq)
        exact ⟨R, h1, F, g, x, .cons h2 (.cons hp y)⟩
    · obtain ⟨F, g, x, y⟩ := id s'.ex
      cases y with
      | cons hp y =>
        obtain ⟨l2, ws, ev, hq, ha⟩ := hc.get g hp
        cases ev
        exact ⟨ws, hq, by rw [ha.len]; exact Nat.le_refl _⟩
theorem wz_T {Ps : List VP} (h : Φi (tup X.K Ps) Ps.length (fun i R => Ps[i]? = some R) (fun _ => True) Ts) : Wz X e tg (tup X.K Ps) Ts Φi := fun Γ Δ σ vs v H s R q => by
  obtain ⟨F, g, x, y⟩ := id s.ex
  cases y with
  | cons hp y =>
    obtain ⟨l, ws, ev, hq, ha⟩ := hp
    subst ev
    refine wV_tup (sqT_mono g.sub hq) (q _ _ _ _ h ⟨fun i Γ' Ts' σ' H' hi hc s' => ?_, fun Γ' Ts' σ' H' hc s' => ?_⟩)
    · obtain ⟨F, g, x, y⟩ := id s'.ex
      cases y with
      | cons hp y =>
        obtain ⟨l2, ws, ev, hq, ha⟩ := id hp
        cases ev
        have hi' : i < ws.length := by rw [← ha.len]; exact hi
        have hq' := sqT_mono g.sub hq
        refine ⟨⟨ws, ws[i], hq', by simp [hi']⟩, fun z H2 hy => ?_⟩
        obtain ⟨eH, hx⟩ := hy
        subst eH
        obtain ⟨R, h1, h2⟩ := ha.getV (hx ws hq')
        exact ⟨R, h1, F, g, x, .cons h2 (.cons hp y)⟩
    · obtain ⟨F, g, x, y⟩ := id s'.ex
      cases y with
      | cons hp y =>
        obtain ⟨l2, ws, ev, hq, ha⟩ := id hp
        cases ev
        exact ⟨ws, sqT_mono g.sub hq, by rw [ha.len]; exact Nat.le_refl _⟩
theorem src_range {e : En} {Δ : List VP} {vs : List V} {lo : Int} {n : Nat} : Src e (Itr lo n) Δ vs n (fun i R => R = isI (lo + i)) (fun _ => True) :=
  ⟨fun i Γ Ts σ H hi _ s => ⟨hi, fun x H' hy => by
    obtain ⟨eH, ex⟩ := hy
    subst eH; subst ex
    exact ⟨_, rfl, s.push fun _ _ => rfl⟩⟩, fun _ _ _ _ _ _ => Nat.le_refl _⟩
theorem ei_range1 {p : Pos} (hm : X.mg "range" = none) (h : Ev X e Γ Δ Ts a (fun P Ts1 => ∃ n : Int, P = isI n ∧ -(2 ^ 62) ≤ n ∧ n < 2 ^ 62 ∧ Φi P n.toNat (fun i R => R = isI (0 + i)) (fun _ => True) Ts1) Ψ) (hg : Gl X "range" := by rfl) (hs : starEach [a] X.env = [(false, eval a X.env)] := by rfl) (hs' : starEach [a] X.env = (false, eval a X.env) :: starEach [] X.env := by rfl) : Ei X e Γ Δ Ts tg (.Call (.Name "range" p) [a] [] pos) Φi Ψ := fun σ vs H W s ok xo R q =>
  wI_of (pi_range1 hg hm (pa_cons peW pa_nil hs') hs) (h σ vs H W s ok xo _ fun P Ts1 v H1 ⟨n, el, h1, h2, h3⟩ s1 => by
    subst el
    have ev := s1.topV
    subst ev
    exact ⟨n, rfl, h1, h2, q _ _ _ _ _ _ _ _ h3 s1 src_range⟩)
theorem ei_range2 {p : Pos} (hm : X.mg "range" = none) (h : Ev X e Γ Δ Ts a (fun P Ts1 => Ev X e Γ (P :: Δ) Ts1 b (fun P2 Ts2 => ∃ i j : Int, P = isI i ∧ P2 = isI j ∧ (-(2 ^ 62) ≤ i ∧ i < 2 ^ 62 ∧ -(2 ^ 62) ≤ j ∧ j < 2 ^ 62) ∧ Φi P2 (j - i).toNat (fun k R => R = isI (i + k)) (fun _ => True) Ts2) Ψ) Ψ) (hg : Gl X "range" := by rfl)
    (hs : starEach [a, b] X.env = [(false, eval a X.env), (false, eval b X.env)] := by rfl) (hs2 : starEach [b] X.env = [(false, eval b X.env)] := by rfl) (hs3 : starEach [a, b] X.env = (false, eval a X.env) :: starEach [b] X.env := by rfl) (hs4 : starEach [b] X.env = (false, eval b X.env) :: starEach [] X.env := by rfl) : Ei X e Γ Δ Ts tg (.Call (.Name "range" p) [a, b] [] pos) Φi Ψ := fun σ vs H W s ok xo R q =>
  wI_of (pi_range2 hg hm (pa_cons peW (pa_cons peW pa_nil hs4) hs3) hs hs2) (h σ vs H W s ok xo _ fun P Ts1 v H1 h1 s1 => h1 σ _ H1 W s1 ok xo _ fun P2 Ts2 v2 H2 ⟨i, j, e1, e2, hb, h3⟩ s2 => by
    subst e1; subst e2
    have ev2 := s2.topV
    subst ev2
    have ev1 := s2.pop.topV
    subst ev1
    exact ⟨i, j, rfl, hb, q _ _ _ _ _ _ _ _ h3 (s2.map fun F _ x y => by
      cases y with
      | cons p y => cases y with
        | cons _ y => exact ⟨x, .cons p y⟩) src_range⟩)
end
/-! ### loops -/
section
variable {X : Cx} {e : En} {Γ : List (Option VP)} {Δ : List VP} {Ts : Ow} {a b c iter tg : Expr} {pos : Pos} {K : Post} {body : List Stmt}
theorem sx_for (hc : X.calm = true) (h : Ei X e Γ Δ Ts tg iter (fun P n El C Ts1 => ∃ I : Nat → List (Option VP) → Ow → Prop, I 0 Γ Ts1 ∧ (∀ i Γ' Ts', i ≤ n → I i Γ' Ts' → C Ts') ∧
      (∀ i R Γ' Ts', i < n → El i R → I i Γ' Ts' → Tg X e Γ' (P :: Δ) Ts' tg R (fun Γ2 Ts2 => Bl X e Γ2 (P :: Δ) Ts2 body { nx := I (i + 1), rt := K.rt, bk := K.nx, ct := I (i + 1), ex := K.ex })) ∧ (∀ Γ' Ts', I n Γ' Ts' → K.nx Γ' Ts')) K.ex)
    (hs : ∀ x, foldedSetIterable iter X.env x = pure x := by intro _; rfl) : Sx X e Γ Δ Ts (.For tg iter body [] pos) K := fun σ vs H W D s ok en =>
  wS_of (ps_for ok.po hc piW pgW pbW hs) (h σ vs H W s ok en.ex _ fun P n El C Ts1 v H1 J ⟨I, h0, hC, turn, fin⟩ s1 src => by
    refine ⟨fun i m σ' H' => m = n - i ∧ i ≤ n ∧ ∃ Γ' Ts', I i Γ' Ts' ∧ S e Γ' (P :: Δ) Ts' σ' (v :: vs) H', ⟨n, by simp, Nat.zero_le _, Γ, Ts1, h0, s1⟩, ?_⟩
    rintro i m σ' H' ⟨rfl, hi, Γ', Ts', hI, s'⟩
    by_cases hlt : i < n
    · obtain ⟨hgo, hy⟩ := src.go i Γ' Ts' σ' H' hlt (hC i Γ' Ts' hi hI) s'
      refine .inr ⟨hgo, fun σ2 H2 => ∃ Γ2 Ts2, I (i + 1) Γ2 Ts2 ∧ S e Γ2 (P :: Δ) Ts2 σ2 (v :: vs) H2, fun σ2 H2 ⟨Γ2, Ts2, q1, q2⟩ => ⟨n - (i + 1), by omega, rfl, hlt, Γ2, Ts2, q1, q2⟩, fun x H2 hx => ?_⟩
      obtain ⟨R, hR, s2⟩ := hy x H2 hx
      exact turn i R Γ' Ts' hlt hR hI σ' (v :: vs) x H2 W s2 ok _ fun Γ3 Ts3 σ3 H3 hb s3 => hb σ3 (v :: vs) H3 W _ s3 ok ⟨fun Γ4 Ts4 σ4 H4 q1 q2 => ⟨Γ4, Ts4, q1, q2⟩, en.rt, fun Γ4 Ts4 σ4 H4 q1 q2 => en.nx _ _ _ _ q1 q2.pop, fun Γ4 Ts4 σ4 H4 q1 q2 => ⟨Γ4, Ts4, q1, q2⟩, en.ex⟩
    · have ei : i = n := by omega
      subst ei
      exact .inl ⟨src.stop Γ' Ts' σ' H' (hC i Γ' Ts' hi hI) s', en.nx _ _ _ _ (fin _ _ hI) s'.pop⟩)
theorem sx_while (I : Nat → List (Option VP) → Ow → Prop) (m0 : Nat) (h0 : I m0 Γ Ts)
    (turn : ∀ m Γ' Ts', I m Γ' Ts' → Et X e Γ' Δ Ts' c (fun k Ts2 => (k = true → Bl X e Γ' Δ Ts2 body { nx := fun Γ3 Ts3 => ∃ m', m' < m ∧ I m' Γ3 Ts3, rt := K.rt, bk := K.nx, ct := fun Γ3 Ts3 => ∃ m', m' < m ∧ I m' Γ3 Ts3, ex := K.ex }) ∧ (k = false → K.nx Γ' Ts2)) K.ex) :
    Sx X e Γ Δ Ts (.While c body [] pos) K := fun σ vs H W D s ok en =>
  wS_of (ps_while ok.po ptW pbW) (by
    refine ⟨fun m σ' H' => ∃ Γ' Ts', I m Γ' Ts' ∧ S e Γ' Δ Ts' σ' vs H', ⟨m0, Γ, Ts, h0, s⟩, ?_⟩
    rintro m σ' H' ⟨Γ', Ts', hI, s'⟩
    refine turn m Γ' Ts' hI σ' vs H' W s' ok en.ex _ fun k Ts2 H2 ⟨h1, h2⟩ s2 => ?_
    cases k with
    | true =>
      refine iteT ⟨fun σ3 H3 => ∃ m', m' < m ∧ ∃ Γ3 Ts3, I m' Γ3 Ts3 ∧ S e Γ3 Δ Ts3 σ3 vs H3, fun σ3 H3 q => q, ?_⟩
      exact h1 rfl σ' vs H2 W _ s2 ok ⟨fun Γ3 Ts3 σ3 H3 ⟨m', l, q1⟩ q2 => ⟨m', l, Γ3, Ts3, q1, q2⟩, en.rt, en.nx, fun Γ3 Ts3 σ3 H3 ⟨m', l, q1⟩ q2 => ⟨m', l, Γ3, Ts3, q1, q2⟩, en.ex⟩
    | false => exact iteF (en.nx _ _ _ _ (h2 rfl) s2))
end
/-! ### comprehensions -/
def Es (X : Cx) (e : En) (Γ : List (Option VP)) (Δ : List VP) (Ts : Ow) (ifs : List Expr) (Φ : Bool → Ow → Prop) : Prop := ∀ (σ : L2.St) (vs : List V) (H : Hp), S e Γ Δ Ts σ vs H → Okx X (fun _ _ _ _ => False) →
  ∀ Q : Bool → Hp → Prop, (∀ b Ts' H', Φ b Ts' → S e Γ Δ Ts' σ vs H' → Q b H') → ∃ t, PTs X ifs t ∧ t σ H Q
def wTs (X : Cx) (ifs : List Expr) : TT := fun σ H Q => ∀ (pins : List (Addr × Obj)) (s : Shared), Inv X pins σ H s →
  wpAny (model X.prog X.w) X.A (forIn ifs true fun c r => if r = true then do let ok ← isTrue c X.env (eval c X.env); pure (ForInStep.yield ok) else pure (ForInStep.yield r)) (TP X pins σ Q) X.xe s
theorem noXo {e : En} {W : WX} : Xo e noX W := fun _ _ _ _ _ _ z => z.elim
section
variable {X : Cx} {e : En} {Γ : List (Option VP)} {Δ : List VP} {Ts : Ow} {a b c iter tg elt : Expr} {ifs : List Expr} {pos : Pos} {Φ : VP → Ow → Prop} {Ψ : XP} {scope : Scope}
theorem ptsW : PTs X ifs (wTs X ifs) := ⟨fun pins s σ H Q I h => h pins s I⟩
theorem es_nil {Φb : Bool → Ow → Prop} (h : Φb true Ts) : Es X e Γ Δ Ts [] Φb := fun σ vs H s ok Q q => ⟨_, pts_nil, q _ _ _ h s⟩
theorem es_one {Φb : Bool → Ow → Prop} (h : Et X e Γ Δ Ts c Φb noX) : Es X e Γ Δ Ts [c] Φb := fun σ vs H s ok Q q => ⟨_, pts_one ptW, h σ vs H _ s ok noXo Q q⟩
theorem Es.w {Φb : Bool → Ow → Prop} (h : Es X e Γ Δ Ts ifs Φb) {σ : L2.St} {vs : List V} {H : Hp} (s : S e Γ Δ Ts σ vs H) (ok : Okx X (fun _ _ _ _ => False)) {Q : Bool → Hp → Prop} (q : ∀ b Ts' H', Φb b Ts' → S e Γ Δ Ts' σ vs H' → Q b H') : wTs X ifs σ H Q := fun pins s' I =>
  let ⟨_, h1, h2⟩ := h σ vs H s ok Q q
  h1.run pins s' σ H Q I h2
theorem okx_blk {s0 : Shared} {H0 : Hp} {C : Addr} {cl : List (Str × Addr)} {fp : List Addr} (nd : X.N.Nodup) : Okx (X.blk s0 H0 scope (compEnvC scope cl C X.env) fp) (fun _ _ _ _ => False) := ⟨takes0, PassesOwn.never, nd⟩
/-- the slots that a comprehension's target takes -/
inductive Slots1 : Expr → List Nat → (List VP → List (Option VP) → List (Option VP)) → Prop
theorem front_perm {Ts : Ow} {k : Nat} {D : Addr} {A A' : HP} (hk : Ts[k]? = some (D, A)) : ((D, A') :: Ts.eraseIdx k).Perm (Ts.set k (D, A')) := by
  induction Ts generalizing k with
  | nil => simp at hk
  | cons t Ts ih =>
    cases k with
    | zero => exact List.Perm.refl _
    | succ k =>
      rw [List.eraseIdx_cons_succ, List.set_cons_succ]
      exact (List.Perm.swap t (D, A') _).trans ((ih (by simpa using hk)).cons t)
theorem wipe1 (σ : L2.St) (j : Nat) (x : Option V) : wipe ((wipe σ [j]).set j x) [j] = wipe σ [j] := by
  show ((σ.set j none).set j x).set j none = σ.set j none
  rw [List.set_set, List.set_set]
theorem wipe2 (σ : L2.St) (i j : Nat) (x y : Option V) (hij : i ≠ j) : wipe (((wipe σ [i, j]).set i x).set j y) [i, j] = wipe σ [i, j] := by
  show (((((σ.set j none).set i none).set i x).set j y).set j none).set i none = (σ.set j none).set i none
  rw [List.set_set, List.set_set, List.set_comm _ _ hij.symm, List.set_set, List.set_comm _ _ hij, List.set_set]
/-- the slots' values kept at hand -/
theorem Sl.save {F : Hp} : ∀ {Γ : List (Option VP)} {σ : L2.St}, Sl F Γ σ → ∃ vo, All F (Γ.filterMap id) vo ∧ ∀ F', All F' (Γ.filterMap id) vo → Sl F' Γ σ
  | _, _, .nil => ⟨[], .nil, fun _ _ => .nil⟩
  | _, _, .no t =>
    let ⟨vo, h1, h2⟩ := Sl.save t
    ⟨vo, h1, fun F' h => .no (h2 F' h)⟩
  | _, _, .yes h t =>
    let ⟨vo, h1, h2⟩ := Sl.save t
    ⟨_ :: vo, .cons h h1, fun F' h => by
      cases h with
      | cons a b => exact .yes a (h2 F' b)⟩
theorem S.save {Δ1 : List VP} {vs1 vs : List V} {σ : L2.St} {H : Hp} (s : S e Γ (Δ1 ++ Δ) Ts σ (vs1 ++ vs) H) (hl : Δ1.length = vs1.length) : ∃ vo, S e Γ (Δ1 ++ (Γ.filterMap id ++ Δ)) Ts σ (vs1 ++ (vo ++ vs)) H ∧
    ∀ Γ' Ts' σ' Δ2 vs2 H', Δ2.length = vs2.length → S e Γ' (Δ2 ++ (Γ.filterMap id ++ Δ)) Ts' σ' (vs2 ++ (vo ++ vs)) H' → S e Γ (Δ2 ++ Δ) Ts' σ (vs2 ++ vs) H' := by
  obtain ⟨F, g, x, y⟩ := s.ex
  obtain ⟨y1, y2⟩ := All.split hl y
  obtain ⟨vo, h1, h2⟩ := x.save
  refine ⟨vo, ⟨F, g, x, y1.append (h1.append y2)⟩, fun Γ' Ts' σ' Δ2 vs2 H' hl2 s' => s'.map fun F' _ _ y' => ?_⟩
  obtain ⟨z1, z2⟩ := All.split hl2 y'
  obtain ⟨z3, z4⟩ := All.split h1.len z2
  exact ⟨h2 F' z3, z1.append z4⟩
/-- what a turn of a comprehension must do -/
def LcTurn (X : Cx) (e : En) (Γ : List (Option VP)) (P : VP) (scope : Scope) (elt : Expr) (ifs : List Expr) (D : Addr) (acc : List VP) (Ts : Ow) (I : List VP → Ow → Prop) : Prop :=
  ∀ (Δ : List VP) (s0 : Shared) (H0 : Hp) (C : Addr) (cl : List (Str × Addr)) (fp : List Addr), Es (X.blk s0 H0 scope (compEnvC scope cl C X.env) fp) e Γ (P :: Δ) ((D, cL acc) :: Ts) ifs (fun k Ts2 =>
    (k = true → ∀ (s0 : Shared) (H0 : Hp) (C : Addr) (cl : List (Str × Addr)) (fp : List Addr), Ev (X.blk s0 H0 scope (compEnvC scope cl C X.env) fp) e Γ (P :: Δ) Ts2 elt (fun Q Ts3 => ∃ j, Ts3[j]? = some (D, cL acc) ∧ acc.length < sizeLine ∧ I (acc ++ [Q]) (Ts3.eraseIdx j)) noX) ∧ (k = false → ∃ j, Ts2[j]? = some (D, cL acc) ∧ I acc (Ts2.eraseIdx j)))
def LcH (X : Cx) (e : En) (Γ : List (Option VP)) (Δ : List VP) (Ts : Ow) (tg iter : Expr) (g : TG) (vs0 : List Nat) (scope : Scope) (elt : Expr) (ifs : List Expr) (Φ : VP → Ow → Prop) (Ψ : XP) : Prop :=
    Ei X e Γ Δ Ts tg iter (fun P n El C Ts1 => ∃ I : Nat → List VP → Ow → Prop, I 0 [] Ts1 ∧ (∀ i acc Ts' A, i ≤ n → I i acc Ts' → C ((A, cL acc) :: Ts')) ∧
      (∀ i R, i < n → El i R → ∃ Γ', (∀ (Δ : List VP) (Ts : Ow) (σ : L2.St) (x v : V) (vs : List V) (H : Hp) (Q : L2.St → Hp → Prop), S e Γ (R :: P :: Δ) Ts σ (x :: v :: vs) H → (∀ σ' H', wipe σ' vs0 = wipe σ vs0 → S e Γ' (P :: Δ) Ts σ' (v :: vs) H' → Q σ' H') → g x (wipe σ vs0) H Q) ∧ ∀ acc Ts' D, I i acc Ts' → LcTurn X e Γ' P scope elt ifs D acc Ts' (I (i + 1))) ∧ (∀ acc Ts' D, I n acc Ts' → Φ (isR D) ((D, cL acc) :: Ts'))) Ψ
theorem lc_t {vs0 : List Nat} {g : TG} (nd : X.N.Nodup) (h : LcH X e Γ Δ Ts tg iter g vs0 scope elt ifs Φ Ψ) {σ : L2.St} {vs : List V} {H : Hp} {W : WX} (s : S e Γ Δ Ts σ vs H) (ok : Okx X W) (xo : Xo e Ψ W) {Q : VK} (q : ∀ P Ts' v H', Φ P Ts' → S e Γ (P :: Δ) Ts' σ (v :: vs) H' → Q v H') :
    tLc (wI X tg iter) g (fun σ H Q => ∀ (s0 : Shared) (H0 : Hp) (C : Addr) (cl : List (Str × Addr)) (fp : List Addr), wTs (X.blk s0 H0 scope (compEnvC scope cl C X.env) fp) ifs σ H Q)
      (fun σ H Q => ∀ (s0 : Shared) (H0 : Hp) (C : Addr) (cl : List (Str × Addr)) (fp : List Addr), wE (X.blk s0 H0 scope (compEnvC scope cl C X.env) fp) elt σ H Q) vs0 σ H Q := by
  refine h σ vs H W s ok xo _ fun P n El C Ts1 v H1 J ⟨I, h0, hC, turn, fin⟩ s1 src D hD => ?_
  refine ⟨fun i m H' => m = n - i ∧ i ≤ n ∧ ∃ acc Ts', I i acc Ts' ∧ S e Γ (P :: Δ) ((D, cL acc) :: Ts') σ (v :: vs) H', ⟨n, by simp, Nat.zero_le _, [], Ts1, h0, s1.new hD fun F _ x y => ⟨⟨[], rfl, .nil⟩, x, y⟩⟩, ?_⟩
  rintro i m H' ⟨rfl, hi, acc, Ts', hI, s'⟩
  by_cases hlt : i < n
  · obtain ⟨hgo, hy⟩ := src.go i Γ _ σ H' hlt (hC i acc Ts' D hi hI) s'
    refine .inr ⟨hgo, fun H2 => ∃ acc2 Ts2, I (i + 1) acc2 Ts2 ∧ S e Γ (P :: Δ) ((D, cL acc2) :: Ts2) σ (v :: vs) H2, fun H2 ⟨acc2, Ts2, q1, q2⟩ => ⟨n - (i + 1), by omega, rfl, hlt, acc2, Ts2, q1, q2⟩, fun x H2 hx => ?_⟩
    obtain ⟨R, hR, s2⟩ := hy x H2 hx
    obtain ⟨vo, s2', back⟩ := S.save (Δ1 := [R, P]) (vs1 := [x, v]) s2 rfl
    obtain ⟨Γ3, hgs, tn⟩ := turn i R hlt hR
    refine hgs _ _ σ x v _ H2 _ s2' fun σ3 H3 hw s3 => ⟨hw, fun s0 H0 C0 cl fp => ?_⟩
    refine (tn acc Ts' D hI _ s0 H0 C0 cl fp).w s3 (okx_blk ok.nd) fun k Ts4 H4 ⟨k1, k2⟩ s4 => ?_
    cases k with
    | true =>
      refine iteT fun s0 H0 C0 cl fp => ?_
      refine k1 rfl s0 H0 C0 cl fp σ3 _ H4 _ s4 (okx_blk ok.nd) noXo _ fun Q5 Ts5 y H5 ⟨j, hj, hz, hI'⟩ s5 => ?_
      obtain ⟨F, g, x5, y5⟩ := s5.ex
      obtain ⟨_, o, ho, ws, eo, ha⟩ := g.at hj
      subst eo
      cases y5 with
      | cons hQ y5 =>
        refine ⟨ws, ho, by rw [← ha.len]; exact hz, acc ++ [Q5], _, hI', S.perm (back _ _ _ [P] [v] _ rfl ⟨F, g.wr (A' := cL (acc ++ [Q5])) hj ⟨_, rfl, ha.append (.cons hQ .nil)⟩, x5, y5⟩) (.inr (.inr (front_perm hj))) fun z hz => (front_perm hj).mem_iff.mp hz⟩
    | false =>
      obtain ⟨j, hj, hI'⟩ := k2 rfl
      refine iteF ⟨acc, _, hI', (back _ _ _ [P] [v] _ rfl s4).perm (.inr (.inr ?_)) ?_⟩
      · have := front_perm (A' := cL acc) hj
        rw [set_same hj] at this
        exact this
      · intro z hz
        have := (front_perm (A' := cL acc) hj).mem_iff.mp hz
        rw [set_same hj] at this
        exact this
  · have ei : i = n := by omega
    subst ei
    exact .inl ⟨src.stop Γ _ σ H' (hC i acc Ts' D hi hI) s', q _ _ _ _ (fin acc Ts' D hI) (s'.map fun F _ x y => by
      cases y with
      | cons _ y => exact ⟨x, .cons rfl y⟩)⟩
theorem lc_gen {vs0 : List Nat} {g : TG} (hc : X.calm = true) {own : List (Str × Nat)} (hown : own.map (·.2) = vs0) (bo : BlkOk X.N X.env.scope scope own)
    (hg : ∀ (s : Shared) (H : Hp) (C : Addr) (cl : List (Str × Addr)) (fp : List Addr), PG (X.blk s H scope (compEnvC scope cl C X.env) fp) tg g) 
    (hs : ∀ x, foldedSetIterable iter X.env x = pure x)
    (h : LcH X e Γ Δ Ts tg iter g vs0 scope elt ifs Φ Ψ) :
    Ev X e Γ Δ Ts (.ListComp elt [⟨tg, iter, ifs, 0⟩] scope pos) Φ Ψ := fun σ vs H W s ok xo Q q => by
  subst hown
  exact wE_of (pe_lc hc ok.nd piW bo hg (fun s0 H0 C cl fp => ⟨fun pins s σ H Q I h => h s0 H0 C cl fp pins s I⟩) (fun s0 H0 C cl fp => ⟨fun pins s σ H Q I h => (h s0 H0 C cl fp).ru pins s I⟩) hs) (lc_t ok.nd h s ok xo q)
/-- x = [..] -/
theorem sxl_gen {K : Post} {y : Str} {py spos : Pos} {i : Nat} {vs0 : List Nat} {g : TG} (hc : X.calm = true) {own : List (Str × Nat)} (hown : own.map (·.2) = vs0) (bo : BlkOk X.N X.env.scope scope own)
    (hg : ∀ (s : Shared) (H : Hp) (C : Addr) (cl : List (Str × Addr)) (fp : List Addr), PG (X.blk s H scope (compEnvC scope cl C X.env) fp) tg g) 
    (hs : ∀ x, foldedSetIterable iter X.env x = pure x) (hy : X.N[i]? = some y) (hyl : X.env.scope.names.lookup y = some .local)
    (hsw : swapsWith (.ListComp elt [⟨tg, iter, ifs, 0⟩] scope pos) (some (.Name y py)) spos.line X.env = pure true)
    (h : LcH X e Γ Δ Ts tg iter g vs0 scope elt ifs (fun P Ts1 => K.nx (Γ.set i (some P)) Ts1) K.ex) :
    Sx X e Γ Δ Ts (.Assign [.Name y py] (.ListComp elt [⟨tg, iter, ifs, 0⟩] scope pos) spos) K := fun σ vs H W D s ok en => by
  subst hown
  exact wS_of (ps_setLc hc ok.nd hy hyl hsw piW bo hg (fun s0 H0 C cl fp => ⟨fun pins s σ H Q I h => h s0 H0 C cl fp pins s I⟩) (fun s0 H0 C cl fp => ⟨fun pins s σ H Q I h => (h s0 H0 C cl fp).ru pins s I⟩) hs) (lc_t ok.nd h s ok en.ex fun P Ts1 v H1 h1 s1 => en.nx _ _ _ _ h1 s1.put)
/-- [elt for x in xs if ..]: the name x in slot j -/
theorem lc_h1 (j : Nat) {x : Str} {p : Pos} {elt iter : Expr} {ifs : List Expr}
    (h : Ei X e Γ Δ Ts (.Name x p) iter (fun P n El C Ts1 => ∃ I : Nat → List VP → Ow → Prop, I 0 [] Ts1 ∧ (∀ i acc Ts' A, i ≤ n → I i acc Ts' → C ((A, cL acc) :: Ts')) ∧
      (∀ i R, i < n → El i R → ∀ acc Ts' D, I i acc Ts' → LcTurn X e (Γ.set j (some R)) P scope elt ifs D acc Ts' (I (i + 1))) ∧ (∀ acc Ts' D, I n acc Ts' → Φ (isR D) ((D, cL acc) :: Ts'))) Ψ) :
    LcH X e Γ Δ Ts (.Name x p) iter (gName j) [j] scope elt ifs Φ Ψ :=
    (fun σ vs H W s ok xo R q => h σ vs H W s ok xo R fun P n El C Ts1 v H1 J ⟨I, h0, hC, turn, fin⟩ s1 src => q P n El C Ts1 v H1 J ⟨I, h0, hC, fun i R hi hR => ⟨Γ.set j (some R), fun Δ Ts σ x v vs H Q s q => q _ _ (wipe1 σ j _) (s.map fun F _ a b => by
      cases b with
      | cons hR b =>
        refine ⟨?_, b⟩
        show Sl F (Γ.set j (some R)) ((σ.set j none).set j (some x))
        rw [List.set_set]
        exact a.set j hR), turn i R hi hR⟩, fin⟩ s1 src)
theorem ev_lc (j : Nat) {x : Str} {p : Pos} {elt iter : Expr} {ifs : List Expr} (hc : X.calm = true) (bo : BlkOk X.N X.env.scope scope [(x, j)])
    (hg : ∀ (s : Shared) (H : Hp) (C : Addr) (cl : List (Str × Addr)) (fp : List Addr), PG (X.blk s H scope (compEnvC scope cl C X.env) fp) (.Name x p) (gName j))
    (h : Ei X e Γ Δ Ts (.Name x p) iter (fun P n El C Ts1 => ∃ I : Nat → List VP → Ow → Prop, I 0 [] Ts1 ∧ (∀ i acc Ts' A, i ≤ n → I i acc Ts' → C ((A, cL acc) :: Ts')) ∧
      (∀ i R, i < n → El i R → ∀ acc Ts' D, I i acc Ts' → LcTurn X e (Γ.set j (some R)) P scope elt ifs D acc Ts' (I (i + 1))) ∧ (∀ acc Ts' D, I n acc Ts' → Φ (isR D) ((D, cL acc) :: Ts'))) Ψ)
    (hs : ∀ x, foldedSetIterable iter X.env x = pure x := by intro _; rfl) :
    Ev X e Γ Δ Ts (.ListComp elt [⟨.Name x p, iter, ifs, 0⟩] scope pos) Φ Ψ :=
  lc_gen (vs0 := [j]) (g := gName j) hc (own := [(x, j)]) rfl bo hg hs (lc_h1 j h)
/-- y = [elt for x in xs if ..]: x in slot j, y in slot i -/
theorem sx_lc (i j : Nat) {K : Post} {x y : Str} {p py spos : Pos} {elt iter : Expr} {ifs : List Expr} (hc : X.calm = true) (bo : BlkOk X.N X.env.scope scope [(x, j)])
    (hg : ∀ (s : Shared) (H : Hp) (C : Addr) (cl : List (Str × Addr)) (fp : List Addr), PG (X.blk s H scope (compEnvC scope cl C X.env) fp) (.Name x p) (gName j))
    (h : Ei X e Γ Δ Ts (.Name x p) iter (fun P n El C Ts1 => ∃ I : Nat → List VP → Ow → Prop, I 0 [] Ts1 ∧ (∀ i acc Ts' A, i ≤ n → I i acc Ts' → C ((A, cL acc) :: Ts')) ∧
      (∀ i R, i < n → El i R → ∀ acc Ts' D, I i acc Ts' → LcTurn X e (Γ.set j (some R)) P scope elt ifs D acc Ts' (I (i + 1))) ∧ (∀ acc Ts' D, I n acc Ts' → K.nx (Γ.set i (some (isR D))) ((D, cL acc) :: Ts'))) K.ex)
    (hs : ∀ x, foldedSetIterable iter X.env x = pure x := by intro _; rfl) (hy : X.N[i]? = some y := by rfl) (hyl : X.env.scope.names.lookup y = some .local := by rfl)
    (hsw : swapsWith (.ListComp elt [⟨.Name x p, iter, ifs, 0⟩] scope pos) (some (.Name y py)) spos.line X.env = pure true := by exact sw_true rfl rfl rfl rfl) :
    Sx X e Γ Δ Ts (.Assign [.Name y py] (.ListComp elt [⟨.Name x p, iter, ifs, 0⟩] scope pos) spos) K :=
  sxl_gen (vs0 := [j]) (g := gName j) hc (own := [(x, j)]) rfl bo hg hs hy hyl hsw (lc_h1 j h)
theorem set_pair {α : Type} (l : List α) {i j : Nat} (hij : i ≠ j) {a b x y : α} : (((l.set j a).set i b).set i x).set j y = (l.set i x).set j y := by
  rw [List.set_set, List.set_comm _ _ hij.symm, List.set_set]
/-- [elt for x, y in xs ..]: the items pairs -/
theorem lc_h2 (i j : Nat) (hij : i ≠ j) {x y : Str} {p p2 p3 : Pos} {k : Nat} {elt iter : Expr} {ifs : List Expr}
    (h : Ei X e Γ Δ Ts (.Tuple [.Name x p, .Name y p2] k p3) iter (fun P n El C Ts1 => ∃ I : Nat → List VP → Ow → Prop, I 0 [] Ts1 ∧ (∀ i acc Ts' A, i ≤ n → I i acc Ts' → C ((A, cL acc) :: Ts')) ∧
      (∀ t R, t < n → El t R → ∃ R1 R2, R = tup X.K [R1, R2] ∧ ∀ acc Ts' D, I t acc Ts' → LcTurn X e ((Γ.set i (some R1)).set j (some R2)) P scope elt ifs D acc Ts' (I (t + 1))) ∧ (∀ acc Ts' D, I n acc Ts' → Φ (isR D) ((D, cL acc) :: Ts'))) Ψ) :
    LcH X e Γ Δ Ts (.Tuple [.Name x p, .Name y p2] k p3) iter (gTup X.K 2 (gCons (gName i) (gCons (gName j) gNil))) [i, j] scope elt ifs Φ Ψ :=
    (fun σ vs H W s ok xo R q => h σ vs H W s ok xo R fun P n El C Ts1 v H1 J ⟨I, h0, hC, turn, fin⟩ s1 src => q P n El C Ts1 v H1 J ⟨I, h0, hC, fun t R hi hR => by
      obtain ⟨R1, R2, eR, tn⟩ := turn t R hi hR
      subst eR
      refine ⟨_, fun Δ Ts σ x v vs H Q s q => ?_, tn⟩
      obtain ⟨F, g, a, b⟩ := s.ex
      cases b with
      | cons hR b =>
        obtain ⟨l, ws, ex, hq, ha⟩ := hR
        cases ha with
        | cons h1 ha => cases ha with
          | cons h2 ha => cases ha with
            | nil =>
              refine ⟨l, _, ex, sqT_mono g.sub hq, rfl, _, _, rfl, _, _, rfl, rfl, q _ _ (wipe2 σ i j _ _ hij) ⟨F, g, ?_, b⟩⟩
              show Sl F _ ((((σ.set j none).set i none).set i (some _)).set j (some _))
              rw [set_pair _ hij]
              exact (a.set i h1).set j h2, fin⟩ s1 src)
theorem ev_lc2 (i j : Nat) {x y : Str} {p p2 p3 : Pos} {k : Nat} {elt iter : Expr} {ifs : List Expr} (hc : X.calm = true) (bo : BlkOk X.N X.env.scope scope [(x, i), (y, j)]) (hij : i ≠ j)
    (hg : ∀ (s : Shared) (H : Hp) (C : Addr) (cl : List (Str × Addr)) (fp : List Addr), PG (X.blk s H scope (compEnvC scope cl C X.env) fp) (.Tuple [.Name x p, .Name y p2] k p3) (gTup X.K 2 (gCons (gName i) (gCons (gName j) gNil))))
    (h : Ei X e Γ Δ Ts (.Tuple [.Name x p, .Name y p2] k p3) iter (fun P n El C Ts1 => ∃ I : Nat → List VP → Ow → Prop, I 0 [] Ts1 ∧ (∀ i acc Ts' A, i ≤ n → I i acc Ts' → C ((A, cL acc) :: Ts')) ∧
      (∀ t R, t < n → El t R → ∃ R1 R2, R = tup X.K [R1, R2] ∧ ∀ acc Ts' D, I t acc Ts' → LcTurn X e ((Γ.set i (some R1)).set j (some R2)) P scope elt ifs D acc Ts' (I (t + 1))) ∧ (∀ acc Ts' D, I n acc Ts' → Φ (isR D) ((D, cL acc) :: Ts'))) Ψ)
    (hs : ∀ x, foldedSetIterable iter X.env x = pure x := by intro _; rfl) :
    Ev X e Γ Δ Ts (.ListComp elt [⟨.Tuple [.Name x p, .Name y p2] k p3, iter, ifs, 0⟩] scope pos) Φ Ψ :=
  lc_gen (vs0 := [i, j]) hc (own := [(x, i), (y, j)]) rfl bo hg hs (lc_h2 i j hij h)
end
end Z
set_option maxHeartbeats 4000000
namespace Z
open PySem PySem.Spec PyProof.Rows L2
/-! ### what a def promises -/
structure Pr (α : Type) where
  args : α → List VP
  own : α → Ow := fun _ => []
  post : α → VP → Ow → Prop
  exc : α → Value → Option Addr → Ow → Prop := fun _ _ _ _ => False
def Prom {α : Type} (r : Pr α) : Sp := fun ws H Q E => ∃ (a : α) (F : Hp), Gd ⟨F, (r.own a).map Prod.fst, H⟩ F (r.own a) H ∧ All F (r.args a) ws ∧
  (∀ P Ts' F' H' v, r.post a P Ts' → Gd ⟨F, (r.own a).map Prod.fst, H⟩ F' Ts' H' → P.p F' v → Q v H') ∧
  (∀ cls d Ts' F' H', r.exc a cls d Ts' → Gd ⟨F, (r.own a).map Prod.fst, H⟩ F' Ts' H' → E cls d H')
section
variable {e : En} {F F' H H' : Hp} {Ts Ts0 Ts' R : Ow}
theorem Gd.perm (g : Gd e F Ts H) (h : Ts'.Perm Ts) : Gd e F Ts' H := g.fewer ((h.map Prod.fst).nodup_iff.mpr g.nd) fun x hx => h.mem_iff.mp hx
theorem Gd.start (g : Gd e F (Ts0 ++ R) H) : Gd ⟨F, Ts0.map Prod.fst, H⟩ F Ts0 H :=
  ⟨g.sub, fun x hx => g.own x (List.mem_append_left _ hx), by
    have := g.nd
    rw [List.map_append] at this
    exact (List.nodup_append.mp this).1, fun b o hb _ => hb, Sub.refl _, fun b hb => .inl hb, fun b hb => .inr hb⟩
theorem Gd.frame (g : Gd e F (Ts0 ++ R) H) (k : Gd ⟨F, Ts0.map Prod.fst, H⟩ F' Ts' H') : Gd e F' (Ts' ++ R) H' := by
  have nd := g.nd
  rw [List.map_append] at nd
  obtain ⟨n1, n2, n3⟩ := List.nodup_append.mp nd
  have inR : ∀ x ∈ R, x.1 ∉ Ts0.map Prod.fst := fun x hx hm => n3 _ hm _ (List.mem_map.mpr ⟨x, hx, rfl⟩) rfl
  have hR : ∀ x ∈ R, F x.1 = none ∧ ∃ o, H x.1 = some o ∧ x.2.p F o := fun x hx => g.own x (List.mem_append_right _ hx)
  have T0 : ∀ b, b ∈ Ts0.map Prod.fst → e.H b = none ∨ b ∈ e.A := fun b hb => g.newT b (by rw [List.map_append]; exact List.mem_append_left _ hb)
  have back : ∀ b, H b = none → e.H b = none ∨ b ∈ e.A := fun b hb => by
    by_cases ha : b ∈ e.A
    · exact .inr ha
    · refine .inl ?_
      cases q : e.H b with
      | none => rfl
      | some u => rw [g.keep b u q ha] at hb; cases hb
  refine ⟨k.sub, fun x hx => ?_, ?_, fun b o hb hn => ?_, g.grow.trans k.grow, fun b hb => ?_, fun b hb => ?_⟩
  · rcases List.mem_append.mp hx with hx | hx
    · exact k.own x hx
    · obtain ⟨h1, o, h2, h3⟩ := hR x hx
      refine ⟨?_, o, k.keep _ _ h2 (inR x hx), x.2.mono k.grow h3⟩
      cases q : F' x.1 with
      | none => rfl
      | some u =>
        rcases k.newF x.1 (by rw [q]; simp) with z | z | z
        · exact absurd h1 z
        · have z' : H x.1 = none := z
          rw [h2] at z'; cases z'
        · exact absurd z (inR x hx)
  · rw [List.map_append]
    refine List.nodup_append.mpr ⟨k.nd, n2, fun a ha b hb hab => ?_⟩
    subst hab
    obtain ⟨x, hx, ex⟩ := List.mem_map.mp hb
    obtain ⟨h1, o, h2, h3⟩ := hR x hx
    rcases k.newT a ha with z | z
    · have z' : H a = none := z
      rw [← ex, h2] at z'; cases z'
    · exact inR x hx (by rw [ex]; exact z)
  · have q := g.keep b o hb hn
    refine k.keep b o q fun hm => ?_
    rcases T0 b hm with z | z
    · rw [z] at hb; cases hb
    · exact hn z
  · rcases k.newF b hb with z | z | z
    · exact g.newF b z
    · exact .inr (back b z)
    · exact .inr (T0 b z)
  · rw [List.map_append] at hb
    rcases List.mem_append.mp hb with hb | hb
    · rcases k.newT b hb with z | z
      · exact back b z
      · exact T0 b z
    · exact g.newT b (by rw [List.map_append]; exact List.mem_append_right _ hb)
end
/-- weaker values -/
def Ent (Ps Qs : List VP) : Prop := ∀ F ws, All F Ps ws → All F Qs ws
theorem Ent.refl (Ps : List VP) : Ent Ps Ps := fun _ _ h => h
theorem Ent.cons {P Q : VP} {Ps Qs : List VP} (h : ∀ F v, P.p F v → Q.p F v) (t : Ent Ps Qs) : Ent (P :: Ps) (Q :: Qs) := fun F ws a => by
  cases a with
  | cons x y => exact .cons (h F _ x) (t F _ y)
section
variable {X : Cx} {e : En} {Γ : List (Option VP)} {Δ : List VP} {Ts R : Ow} {σ : L2.St} {ws vs : List V} {H : Hp} {α : Type} {r : Pr α}
theorem prom_of (a : α) {Ps : List VP} (ha : Ent Ps (r.args a)) (hp : Ts.Perm (r.own a ++ R)) (s : S e Γ (Ps ++ Δ) Ts σ (ws ++ vs) H) (hl : ws.length = Ps.length) {Q : VK} {E : XK}
    (hq : ∀ P Ts' v H', r.post a P Ts' → S e Γ (P :: Δ) (Ts' ++ R) σ (v :: vs) H' → Q v H') (he : ∀ cls d Ts' H', r.exc a cls d Ts' → S e Γ [] (Ts' ++ R) σ [] H' → E cls d H') : Prom r ws H Q E := by
  obtain ⟨F, g, x, y⟩ := s.ex
  obtain ⟨y1, y2⟩ := All.split hl.symm y
  have g' := g.perm hp.symm
  exact ⟨a, F, g'.start, ha F _ y1, fun P Ts' F' H' v h1 k h2 => hq P Ts' v H' h1 ⟨F', g'.frame k, x.mono k.grow, .cons h2 (y2.mono k.grow)⟩,
    fun cls d Ts' F' H' h1 k => he cls d Ts' H' h1 ⟨F', g'.frame k, x.mono k.grow, .nil⟩⟩
end
/-! ### calls -/
/-- a def of the module under its name: its promise, its trailing defaults -/
structure Fz {α : Type} (P : Program) (w : World) (K : PySem.W.Frag) (mg : Str → Option Value) (base : Heap) (k : Nat) (x : Str) (dvs : List V) (r : Pr α) : Prop where
  ex : ∃ (f : Addr) (fd : FuncData) (ps : List Str) (ds : List Value), FnOk P w K mg base (L2.CX P w) k f fd ps (Prom r) ∧ mg x = some (.ref f) ∧ PySem.W.keepIn K (.ref f) = true ∧ Binds K fd ps ds ∧ Vals dvs ds
structure Mz {α : Type} (P : Program) (w : World) (K : PySem.W.Frag) (mg : Str → Option Value) (base : Heap) (k : Nat) (C : Addr) (m : Str) (dvs : List V) (r : Pr α) : Prop where
  ex : ∃ (f : Addr) (fd : FuncData) (ps : List Str) (ds : List Value), FnOk P w K mg base (L2.CX P w) k f fd ps (Prom r) ∧ Meth K C m f ∧ Binds K fd ps ds ∧ Vals dvs ds
structure Cz {α : Type} (P : Program) (w : World) (K : PySem.W.Frag) (mg : Str → Option Value) (base : Heap) (k : Nat) (x : Str) (C : Addr) (dvs : List V) (r : Pr α) : Prop where
  ex : ∃ (f : Addr) (fd : FuncData) (ps : List Str) (ds : List Value), FnOk P w K mg base (L2.CX P w) k f fd ps (Prom r) ∧ mg x = some (.ref C) ∧ Mk K C f ∧ Binds K fd ps ds ∧ Vals dvs ds
section
variable {X : Cx} {e : En} {Γ : List (Option VP)} {Δ : List VP} {Ts : Ow} {a b c o : Expr} {es : List Expr} {pos apos p : Pos} {Φ : VP → Ow → Prop} {Ψ : XP} {x m : Str} {α : Type} {r : Pr α} {k : Nat} {dvs : List V}
theorem run_z {W : WX} {f : Addr} {fd : FuncData} {ps : List Str} {ds : List Value} {sp : Sp} {pins : List (Addr × Obj)} {σ : L2.St} {H : Hp} {s : Shared} {Q : VK} {us : List Value} {vs : List V} (F : FnOk X.prog X.w X.K X.mg X.base (L2.CX X.prog X.w) k f fd ps sp) (hr : Room k X.A) (hb : Binds X.K fd ps ds) (hd : Vals dvs ds)
    (tk : Takes X W) (I : Inv X pins σ H s) (rr : Vals vs us) (h : sp (vs ++ dvs) H Q (fun cls d H' => W cls d σ H')) : wpAny (model X.prog X.w) X.A (call (.ref f) us) (EP X pins σ Q) X.xe s := by
  have r2 : Vals (vs ++ dvs) (us ++ ds) := rr.append hd
  have hl : (us ++ ds).length = ps.length := by rw [← r2.length]; exact F.len _ _ _ _ h
  refine wpAny_call (codeAny_mono (F.run X.A X.stack s H ⟨us, []⟩ (us ++ ds) (vs ++ dvs) Q _ hr I.env0 (hb s us I.kIn hl) r2 h) fun r s' hq => ?_)
  cases r with
  | error e => exact tk e s' (XE.of_call I (fun _ _ _ z => z) hq)
  | ok fl =>
    cases fl with
    | ret u => exact I.after hq
    | next => exact False.elim hq
    | brk => exact False.elim hq
    | cont => exact False.elim hq
theorem all_dflt {F : Hp} {Ps : List VP} {ws : List V} (h : All F Ps ws) : All F (Ps ++ dvs.map isV) (ws ++ dvs) := h.append (All.ofV dvs)
/-- what behind the arguments' values is to be shown of a call -/
def CallZ (X : Cx) (e : En) (Γ : List (Option VP)) (dvs : List V) (r : Pr α) (Ps : List VP) (Ts : Ow) (Φ : VP → Ow → Prop) (Ψ : XP) : Prop :=
  ∃ (a : α) (R : Ow), Ent (Ps ++ dvs.map isV) (r.args a) ∧ Ts.Perm (r.own a ++ R) ∧ (∀ P Ts', r.post a P Ts' → Φ P (Ts' ++ R)) ∧ (∀ cls d Ts', r.exc a cls d Ts' → Ψ cls d Γ (Ts' ++ R))
theorem CallZ.prom {Ps : List VP} {σ : L2.St} {ws vs : List V} {H : Hp} {W : WX} {Q : VK} (h : CallZ X e Γ dvs r Ps Ts Φ Ψ) (s : S e Γ (Ps ++ Δ) Ts σ (ws ++ vs) H) (hl : ws.length = Ps.length) (xo : Xo e Ψ W)
    (q : ∀ P Ts' v H', Φ P Ts' → S e Γ (P :: Δ) Ts' σ (v :: vs) H' → Q v H') : Prom r (ws ++ dvs) H Q (fun cls d H' => W cls d σ H') := by
  obtain ⟨a, R, ha, hp, h1, h2⟩ := h
  have s' : S e Γ ((Ps ++ dvs.map isV) ++ Δ) Ts σ ((ws ++ dvs) ++ vs) H := s.map fun F _ x y => by
    obtain ⟨y1, y2⟩ := All.split hl.symm y
    exact ⟨x, (all_dflt y1).append y2⟩
  exact prom_of a ha hp s' (by rw [List.length_append, List.length_append, hl, List.length_map]) (fun P Ts' v H' p1 p2 => q P _ v H' (h1 P Ts' p1) p2) fun cls d Ts' H' p1 p2 => xo _ _ _ _ _ _ (h2 cls d Ts' p1) p2
theorem ev_call (F : Fz X.prog X.w X.K X.mg X.base k x dvs r) (hr : Room k X.A) (h : Ea X e Γ Δ Ts (a :: es) (fun Ps Ts1 => CallZ X e Γ dvs r Ps Ts1 Φ Ψ) Ψ) (hg : Gl X x := by rfl) (hdb : (x == ("__debug__" : Str)) = false := by decide)
    (he : starEach (a :: es) X.env = (false, eval a X.env) :: starEach es X.env := by rfl) (hpl : (backTo pos (starEach es X.env)).any (·.1) = false := by rfl) : Ev X e Γ Δ Ts (.Call (.Name x p) (a :: es) [] pos) Φ Ψ := fun σ vs H W s ok xo Q q => by
  refine ⟨fun pins sh I => ?_⟩
  obtain ⟨f, fd, ps, ds, F, hm, hk, hb, hd⟩ := F.ex
  refine wpAny_Call_Name_kw (ld_glob I hg hm ?_ hdb)
  refine PySem.W.callWith_K (h₀ := X.base) I.ok.mod.kin hk (thn (paW.run pos pins sh σ H _ I (h σ vs H W s ok xo _ fun Ps Ts1 ws H1 h1 hl s1 => h1.prom s1 hl xo q)) fun us s1 ⟨ws, H1, I1, rr, q1⟩ => ⟨I1.kIn, ?_⟩) he hpl
  exact run_z F hr hb hd ok.tk I1 rr q1
theorem ev_call0 (F : Fz X.prog X.w X.K X.mg X.base k x dvs r) (hr : Room k X.A) (h : CallZ X e Γ dvs r [] Ts Φ Ψ) (hg : Gl X x := by rfl) (hdb : (x == ("__debug__" : Str)) = false := by decide) : Ev X e Γ Δ Ts (.Call (.Name x p) [] [] pos) Φ Ψ := fun σ vs H W s ok xo Q q => by
  refine ⟨fun pins sh I => ?_⟩
  obtain ⟨f, fd, ps, ds, F, hm, hk, hb, hd⟩ := F.ex
  refine wpAny_Call_Name_kw (ld_glob I hg hm ?_ hdb)
  exact PySem.W.callWith_K0 I.kIn hk (run_z (us := []) F hr hb hd ok.tk I .nil (h.prom (ws := []) s rfl xo q))
/-- the receiver of a method: an instance without a field of that name -/
def RecvZ (X : Cx) (C : Addr) (m : Str) (P : VP) (Ts : Ow) : Prop := Cls X.K C ∧ ((∃ fs, P = ins C fs ∧ fs.lookup m = none) ∨ ∃ (l : Addr) (k : Nat) (fs : List (Str × VP)), P = isR l ∧ Ts[k]? = some (l, cI C fs) ∧ fs.lookup m = none)
theorem RecvZ.get {C : Addr} {P : VP} {F H : Hp} {v : V} (h : RecvZ X C m P Ts) (g : Gd e F Ts H) (hv : P.p F v) : ∃ l dx gs, v = .ref l ∧ H l = some (.ins C dx gs) ∧ gs.lookup m = none := by
  rcases h.2 with ⟨fs, ep, hn⟩ | ⟨l, k, fs, ep, hk, hn⟩
  · subst ep
    obtain ⟨l, dx, gs, e1, e2, e3⟩ := hv
    exact ⟨l, dx, gs, e1, g.sub _ _ e2, e3.none hn⟩
  · subst ep
    obtain ⟨_, o, ho, dx, gs, eo, e3⟩ := g.at hk
    subst eo
    exact ⟨l, dx, gs, hv, ho, e3.none hn⟩
theorem ev_meth {C : Addr} {pl : Sem Bool} (F : Mz X.prog X.w X.K X.mg X.base k C m dvs r) (hr : Room k X.A) (h : Ev X e Γ Δ Ts o (fun P Ts1 => RecvZ X C m P Ts1 ∧ Ea X e Γ (P :: Δ) Ts1 (a :: es) (fun Ps Ts2 => CallZ X e Γ dvs r (P :: Ps) Ts2 Φ Ψ) Ψ) Ψ)
    (hst : starEach (a :: es) X.env = (false, eval a X.env) :: starEach es X.env := by rfl) (hpl : (backTo pos (starEach es X.env)).any (·.1) = false := by rfl)
    (ht : eval (.Call (.Attribute o m apos) (a :: es) [] pos) X.env = (do
      let ov ← eval o X.env
      standAt apos.atName
      let (f, first) ← holding [ov] (getMethod ov m pl)
      callWith pos f first (backTo pos (starEach (a :: es) X.env)) (backToKw pos (keywordEach [] X.env))) := by rfl) :
    Ev X e Γ Δ Ts (.Call (.Attribute o m apos) (a :: es) [] pos) Φ Ψ := fun σ vs H W s ok xo Q q => by
  refine ⟨fun pins sh I => ?_⟩
  obtain ⟨f, fd, ps, ds, F, hm, hb, hd⟩ := F.ex
  refine PySem.W.methodCall_KW (pl := pl) (thn (peW.run pins sh σ H _ I (h σ vs H W s ok xo (fun v H1 => ∃ l dx gs, v = .ref l ∧ H1 l = some (.ins C dx gs) ∧ Cls X.K C ∧ gs.lookup m = none ∧ wA X (a :: es) σ H1 fun ws H2 => Prom r (v :: ws ++ dvs) H2 Q (fun cls d H' => W cls d σ H')) fun P Ts1 v H1 ⟨hv, h1⟩ s1 => ?_)) fun u s1 ⟨v, H1, I1, rx, l, dx, gs, ev, hl, hc, hn, q1⟩ => ?_) ht
  · obtain ⟨F0, g, x, y⟩ := id s1.ex
    cases y with
    | cons hp y =>
      obtain ⟨l, dx, gs, ev, hl, hn⟩ := hv.get g hp
      exact ⟨l, dx, gs, ev, hl, hv.1, hn, h1 σ _ H1 W s1 ok xo _ fun Ps Ts2 ws H2 h2 hl2 s2 => h2.prom (ws := v :: ws) (Δ := Δ) (vs := vs) (s2.map fun F _ x y => by
        obtain ⟨y1, y2⟩ := All.split hl2.symm y
        cases y2 with
        | cons hp y2 => exact ⟨x, .cons hp (y1.append y2)⟩) (by rw [List.length_cons, List.length_cons, hl2]) xo q⟩
  · subst ev
    obtain rfl : u = Value.ref l := rx
    refine getmeth_ok I1 hl hc hm hn ?_
    refine PySem.W.callWith_K (first := [.ref l]) (h₀ := X.base) I.ok.mod.kin hm.kp (thn (paW.run pos pins s1 σ H1 _ I1 q1) fun us s2 ⟨ws, H2, I2, rr, q2⟩ => ⟨I2.kIn, ?_⟩) hst hpl
    exact run_z (us := .ref l :: us) (vs := .ref l :: ws) F hr hb hd ok.tk I2 (.cons rfl rr) q2
theorem ev_meth0 {C : Addr} {pl : Sem Bool} (F : Mz X.prog X.w X.K X.mg X.base k C m dvs r) (hr : Room k X.A) (h : Ev X e Γ Δ Ts o (fun P Ts1 => RecvZ X C m P Ts1 ∧ CallZ X e Γ dvs r [P] Ts1 Φ Ψ) Ψ)
    (ht : eval (.Call (.Attribute o m apos) [] [] pos) X.env = (do
      let ov ← eval o X.env
      standAt apos.atName
      let (f, first) ← holding [ov] (getMethod ov m pl)
      callWith pos f first (backTo pos (starEach [] X.env)) (backToKw pos (keywordEach [] X.env))) := by rfl) :
    Ev X e Γ Δ Ts (.Call (.Attribute o m apos) [] [] pos) Φ Ψ := fun σ vs H W s ok xo Q q => by
  refine ⟨fun pins sh I => ?_⟩
  obtain ⟨f, fd, ps, ds, F, hm, hb, hd⟩ := F.ex
  refine PySem.W.methodCall_KW (pl := pl) (thn (peW.run pins sh σ H _ I (h σ vs H W s ok xo (fun v H1 => ∃ l dx gs, v = .ref l ∧ H1 l = some (.ins C dx gs) ∧ Cls X.K C ∧ gs.lookup m = none ∧ Prom r ([v] ++ dvs) H1 Q (fun cls d H' => W cls d σ H')) fun P Ts1 v H1 ⟨hv, h1⟩ s1 => ?_)) fun u s1 ⟨v, H1, I1, rx, l, dx, gs, ev, hl, hc, hn, q1⟩ => ?_) ht
  · obtain ⟨F0, g, x, y⟩ := id s1.ex
    cases y with
    | cons hp y =>
      obtain ⟨l, dx, gs, ev, hl, hn⟩ := hv.get g hp
      exact ⟨l, dx, gs, ev, hl, hv.1, hn, h1.prom (ws := [v]) (Δ := Δ) (vs := vs) s1 rfl xo q⟩
  · subst ev
    obtain rfl : u = Value.ref l := rx
    refine getmeth_ok I1 hl hc hm hn ?_
    exact PySem.W.callWith_K0 (first := [.ref l]) I1.kIn hm.kp (run_z (us := [.ref l]) (vs := [.ref l]) F hr hb hd ok.tk I1 (.cons rfl .nil) q1)
/-- C(..): a new instance, owned, then __init__ -/
theorem ev_make {C : Addr} (F : Cz X.prog X.w X.K X.mg X.base k x C dvs r) (hr : Room (k + 1) X.A)
    (h : Ea X e Γ Δ Ts (a :: es) (fun Ps Ts1 => ∀ l, CallZ X e Γ dvs r (isR l :: Ps) ((l, cI C []) :: Ts1) (fun P Ts2 => P = isN ∧ Φ (isR l) Ts2) Ψ) Ψ) (hg : Gl X x := by rfl) (hdb : (x == ("__debug__" : Str)) = false := by decide)
    (he : starEach (a :: es) X.env = (false, eval a X.env) :: starEach es X.env := by rfl) (hpl : (backTo pos (starEach es X.env)).any (·.1) = false := by rfl) : Ev X e Γ Δ Ts (.Call (.Name x p) (a :: es) [] pos) Φ Ψ := fun σ vs H W s ok xo Q q => by
  refine ⟨fun pins sh I => ?_⟩
  obtain ⟨f, fd, ps, ds, F, hm, M, hb, hd⟩ := F.ex
  refine wpAny_Call_Name_kw (ld_glob I hg hm ?_ hdb)
  refine PySem.W.callWith_K (h₀ := X.base) I.ok.mod.kin M.kp (thn (paW.run pos pins sh σ H (fun ws H1 => ∀ l dx, H1 l = none → H1 dx = none → dx ≠ l → Prom r (.ref l :: (ws ++ dvs)) (upd (upd H1 dx (.own l)) l (.ins C dx [])) (fun v H2 => v = .non ∧ Q (.ref l) H2) (fun cls d H' => W cls d σ H')) I
    (h σ vs H W s ok xo _ fun Ps Ts1 ws H1 h1 hl s1 l dx nl ndx nex => ?_)) fun us s1 ⟨ws, H1, I1, rr, q1⟩ => ⟨I1.kIn, ?_⟩) he hpl
  · have s2 : S e Γ (Ps ++ Δ) ((l, cI C []) :: Ts1) σ (ws ++ vs) (upd (upd H1 dx (.own l)) l (.ins C dx [])) := by
      have sA : S e Γ (Ps ++ Δ) Ts1 σ (ws ++ vs) (upd H1 dx (.own l)) := s1.frz ndx fun F Fp _ x y => ⟨x.mono (Sub.new Fp), y.mono (Sub.new Fp)⟩
      exact sA.new (by rw [upd_ne nex.symm]; exact nl) fun F _ x y => ⟨⟨dx, [], rfl, .nil⟩, x, y⟩
    have := (h1 l).prom (ws := .ref l :: ws) (Δ := Δ) (vs := vs) (s2.map fun F _ x y => ⟨x, .cons rfl y⟩) (by rw [List.length_cons, List.length_cons, hl]) xo (Q := fun v H2 => v = .non ∧ Q (.ref l) H2) fun P Ts2 v H2 ⟨hP, h2⟩ s3 => by
      subst hP
      exact ⟨s3.topV, q _ _ _ _ h2 (s3.pop.push fun _ _ => rfl)⟩
    exact this
  · have hq := q1 (s1.heap.objs.size + 1) s1.heap.objs.size (I1.hok.fresh (Nat.le_succ _)) (I1.hok.fresh (Nat.le_refl _)) (Nat.ne_of_lt (Nat.lt_succ_self _))
    have I2 := Inv.made (C := C) I1
    have r2 : Vals (V.ref (s1.heap.objs.size + 1) :: (ws ++ dvs)) (Value.ref (s1.heap.objs.size + 1) :: (us ++ ds)) := .cons rfl (rr.append hd)
    have hl : (Value.ref (s1.heap.objs.size + 1) :: us ++ ds).length = ps.length := by
      have e := r2.length
      rw [F.len _ _ _ _ hq] at e
      exact e.symm
    refine wpAny_call (make_map (f := f) I1.kIn M.makes M.init (beq_iff_eq.mp M.fn) (codeAny_mono (F.run _ X.stack _ _ ⟨Value.ref (s1.heap.objs.size + 1) :: us, []⟩ (Value.ref (s1.heap.objs.size + 1) :: (us ++ ds)) _ _ _ (hr.make C us [])
      (I2.env0.make C us []) (hb _ (Value.ref (s1.heap.objs.size + 1) :: us) I2.kIn hl) r2 hq) fun r s' hq' => ?_))
    cases r with
    | error e => exact ok.tk e s' (XE.of_call I2 (fun _ _ _ z => z) hq')
    | ok fl =>
      cases fl with
      | ret u =>
        obtain ⟨v, H', I3, rv, ev, q3⟩ := I2.after hq'
        subst ev
        exact ⟨rv, ⟨V.ref (s1.heap.objs.size + 1), H', I3, rfl, q3⟩⟩
      | next => exact False.elim hq'
      | brk => exact False.elim hq'
      | cont => exact False.elim hq'
end
/-! ### a def's body -/
section
variable {P : Program} {w : World} {K : PySem.W.Frag} {mg : Str → Option Value} {base : Heap} {x qual : Str} {params : Arguments} {body : List Stmt} {scope : Scope} {dvs : List V} {kws : List (Str × V)} {f : Addr} {fd : FuncData}
theorem All.start {F : Hp} {N ps : List Str} {Ps : List VP} {vs : List V} (h : All F Ps vs) (hl : Ps.length = ps.length) : Sl F (Ps.map some ++ List.replicate (N.length - ps.length) none) (start N vs) := by
  unfold L2.start
  rw [← h.len, hl]
  generalize N.length - ps.length = n
  clear hl
  induction h with
  | nil =>
    induction n with
    | zero => exact .nil
    | succ n ih => exact .no ih
  | cons h t ih => exact .yes h ih
/-- THE RULE: a def by its body -/
theorem def_ok {α : Type} {r : Pr α} {N ps : List Str} {k : Nat} (F : FunD K x qual params body scope dvs kws f fd) (Sc : FnScope N ps scope) (len : ∀ a, (r.args a).length = ps.length)
    (hb : ∀ (a : α) (e : En) (cdv : Value) (A : Around) (outer : List Env) (s : Shared) (H : Hp) (E : XK), Room k (cxOf (L2.CX P w) P w K mg base N qual scope f cdv A outer s H E).A →
      Bl (cxOf (L2.CX P w) P w K mg base N qual scope f cdv A outer s H E) e ((r.args a).map some ++ List.replicate (N.length - ps.length) none) [] (r.own a) body { nx := fun _ Ts' => r.post a isN Ts', rt := r.post a, ex := fun cls d _ Ts' => r.exc a cls d Ts' }) :
    FnOk P w K mg base (L2.CX P w) (k + 1) f fd ps (Prom r) := by
  refine F.ok Sc (fun vs H Q E h => ?_) fun cdv A outer s H vs Q E hr h => ?_
  · obtain ⟨a, F, g, ha, _⟩ := h
    rw [← ha.len]; exact len a
  · obtain ⟨a, F, g, ha, hq, he⟩ := h
    refine ⟨_, pbW, hb a _ cdv A outer s H E hr (start N vs) [] H (fun cls d _ H => E cls d H) _ ⟨F, g, ha.start (len a), .nil⟩ ⟨takes_of rfl rfl rfl rfl, passes_of rfl, Sc.nd⟩ ⟨fun Γ' Ts' σ' H' h1 s1 => ?_, fun R Ts' v H' h1 s1 => ?_, fun _ _ _ _ z => z.elim, fun _ _ _ _ z => z.elim, fun cls d Γ' Ts' σ' H' h1 s1 => ?_⟩⟩
    · obtain ⟨F', g', _, _⟩ := s1.ex
      exact hq _ _ F' H' _ h1 g' rfl
    · obtain ⟨F', g', _, y⟩ := s1.ex
      cases y with
      | cons hp _ => exact hq _ _ F' H' _ h1 g' hp
    · obtain ⟨F', g', _, _⟩ := s1.ex
      exact he _ _ _ F' H' h1 g'
end
/-! ### raise, try -/
section
variable {X : Cx} {e : En} {Γ : List (Option VP)} {Δ : List VP} {Ts : Ow} {pos pos' p p2 np : Pos} {K : Post} {x m : Str} {body suite : List Stmt} {b0 : Stmt}
/-- an own class over ValueError without __init__, told by what the head knows -/
structure Xz (K : PySem.W.Frag) (mg : Str → Option Value) (x : Str) (C : Addr) : Prop where
  at_ : mg x = some (.ref C)
  ex : PySem.W.excIn K C He.veBase "ValueError.__new__" = true
  kp : PySem.W.keepIn K (.ref C) = true
  sb : PySem.W.subIn K (.ref C) (.type "BaseException") = some true
  ty : PySem.W.typeIn K (.ref C) = some (.type "type")
theorem sx_raise {C : Addr} {j : Nat} (T : Xz X.K X.mg x C) (hc : X.calm = true) (h : K.ex (.ref C) none Γ Ts) (hg : Gl X x := by rfl) (hdb : (x == ("__debug__" : Str)) = false := by decide) : Sx X e Γ Δ Ts (.Raise (some (.Call (.Name x p) [.Constant (.str m) j p2] [] pos)) none pos') K := fun σ vs H W D s ok en =>
  wS_of (ps_raise hc ok.tk (pmk_own PySem.F.excBase_ValueError T.ex T.at_ T.kp (raises_own T.sb T.ty) hg hdb)) (en.ex _ _ _ _ _ _ h s.nov)
/-- try: body, except x: suite -/
theorem sx_try {c : Value} (hst : X.stack = X.env :: X.outer) (hf : X.env.frame = some X.env.locals) (hc : Names X x c)
    (h : ∀ (pn : List (Addr × Obj)) (xe : Value → Shared → Prop), Bl (X.tr pn xe) e Γ [] Ts body { K with ex := fun cls d Γ' Ts' => ∃ b, PySem.W.exmOne X.K cls c = some b ∧ (b = true → ∀ a pn, Bl (X.suite a pn) e Γ' [] Ts' (b0 :: suite) { K with ex := noX }) ∧ (b = false → K.ex cls d Γ' Ts') }) :
    Sx X e Γ [] Ts (.Try body [.ExceptHandler (some (.Name x np)) none (b0 :: suite) pos'] [] [] pos) K := fun σ vs H W D s ok en => by
  cases s.ex with
  | intro F0 z0 =>
  have hv : vs = [] := by
    cases z0.2.2
    rfl
  subst hv
  exact wS_of (ps_try_only (tb := fun W' D σ H => ∀ (pn : List (Addr × Obj)) (xe : Value → Shared → Prop), Takes (X.tr pn xe) W' → PassesOwn (model X.prog X.w) X.A X.env xe → wB (X.tr pn xe) body D σ H)
    (ts := fun a cls d D σ H => ∀ (pn : List (Addr × Obj)), wB (X.suite a pn) (b0 :: suite) D σ H) hst hf hc ok.tk
    (fun W' pn xe tk po => ⟨fun pins sh σ H D I q => (q pn xe tk po).ru pins sh I⟩) (fun a oe cls d pn hz hfs => ⟨fun pins sh σ H D I q => (q _).ru pins sh I⟩))
    (fun pn xe tk po => h pn xe σ [] H _ D s ⟨tk, po, ok.nd⟩ ⟨en.nx, en.rt, en.bk, en.ct, fun cls d Γ' Ts' σ' H' ⟨b, e1, e2, e3⟩ s' => ⟨b, e1, fun hb a na pn' => e2 hb a pn' σ' [] H' (fun _ _ _ _ => False) D s' ⟨takes0, PassesOwn.never, ok.nd⟩ ⟨en.nx, en.rt, en.bk, en.ct, noXo⟩, fun hb => en.ex _ _ _ _ _ _ (e3 hb) s'⟩⟩)
end
end Z
set_option maxHeartbeats 4000000
namespace Z
open PySem PySem.Spec PyProof.Rows L2
section
variable {X : Cx} {e : En} {Γ : List (Option VP)} {Δ : List VP} {Ts R : Ow} {a b c o : Expr} {es : List Expr} {pos apos p : Pos} {Φ : VP → Ow → Prop} {Ψ : XP} {x m f : Str} {P Q : VP} {Ps Qs : List VP}
/-- an owned list at hand, frozen -/
theorem ev_frz (h : Ev X e Γ Δ Ts a (fun P Ts1 => ∃ (l : Addr) (k : Nat) (Ps : List VP), P = isR l ∧ Ts1[k]? = some (l, cL Ps) ∧ Φ (lst Ps) (Ts1.eraseIdx k)) Ψ) : Ev X e Γ Δ Ts a Φ Ψ := fun σ vs H W s ok xo Q q =>
  h σ vs H W s ok xo Q fun P Ts1 v H1 ⟨l, k, Ps, eP, hk, h1⟩ s1 => by
    subst eP
    have ev := s1.topV
    subst ev
    exact q _ _ _ _ h1 (s1.freeze hk fun F o ha hF _ x y => by
      obtain ⟨ws, eo, hw⟩ := ha
      subst eo
      cases y with
      | cons _ y => exact ⟨x, .cons ⟨l, ws, rfl, hF, hw⟩ y⟩)
/-- an owned instance at hand, frozen -/
theorem ev_frzI {C : Addr} (h : Ev X e Γ Δ Ts a (fun P Ts1 => ∃ (l : Addr) (k : Nat) (fs : List (Str × VP)), P = isR l ∧ Ts1[k]? = some (l, cI C fs) ∧ Φ (ins C fs) (Ts1.eraseIdx k)) Ψ) : Ev X e Γ Δ Ts a Φ Ψ := fun σ vs H W s ok xo Q q =>
  h σ vs H W s ok xo Q fun P Ts1 v H1 ⟨l, k, fs, eP, hk, h1⟩ s1 => by
    subst eP
    have ev := s1.topV
    subst ev
    exact q _ _ _ _ h1 (s1.freeze hk fun F o ha hF _ x y => by
      obtain ⟨dx, ws, eo, hw⟩ := ha
      subst eo
      cases y with
      | cons _ y => exact ⟨x, .cons ⟨l, dx, ws, rfl, hF, hw⟩ y⟩)
/-- cells let go -/
theorem ev_sub (h : Ev X e Γ Δ Ts a (fun P Ts1 => ∃ Ts2 : Ow, Ts2.Sublist Ts1 ∧ Φ P Ts2) Ψ) : Ev X e Γ Δ Ts a Φ Ψ := fun σ vs H W s ok xo Q q =>
  h σ vs H W s ok xo Q fun P Ts1 v H1 ⟨Ts2, hs, h1⟩ s1 => q _ _ _ _ h1 (s1.perm (.inr (.inl hs)) fun _ hx => hs.subset hx)
theorem takeS {α β : Type} {f : α → β} {l : List α} {j : Nat} (h : j < l.length) : (l.take j).map f ++ [f l[j]] = (l.take (j + 1)).map f := by
  rw [List.take_succ, List.getElem?_eq_getElem h, List.map_append]; rfl
theorem ev_wkV {P' : VP → Ow → Prop} (h : Ev X e Γ Δ Ts a P' Ψ) (k : ∀ P Ts1, P' P Ts1 → ∃ Q, (∀ F v, P.p F v → Q.p F v) ∧ Φ Q Ts1) : Ev X e Γ Δ Ts a Φ Ψ := fun σ vs H W s ok xo Q q => h σ vs H W s ok xo Q fun P Ts1 v H1 h1 s1 => by
  obtain ⟨Q', hw, h2⟩ := k P Ts1 h1
  exact q Q' Ts1 v H1 h2 (s1.map fun F _ x y => by
    cases y with
    | cons hp y => exact ⟨x, .cons (hw F _ hp) y⟩)
/-- the k-th cell to the front -/
theorem front_same {x : Addr × HP} {k : Nat} (hk : Ts[k]? = some x) : (x :: Ts.eraseIdx k).Perm Ts := by
  have := front_perm (A' := x.2) (D := x.1) (A := x.2) hk
  rw [set_same hk] at this
  exact this
theorem bl_front {K : Post} {body : List Stmt} {x : Addr × HP} (k : Nat) (hk : Ts[k]? = some x) (h : Bl X e Γ Δ (x :: Ts.eraseIdx k) body K) : Bl X e Γ Δ Ts body K :=
  bl_perm (.inr (.inr (front_same hk))) (fun z hz => (front_same hk).mem_iff.mp hz) h
/-- a test known to be true, false -/
theorem bT {k : Bool} {Φ : VP → Ow → Prop} (h : k = true) (q : Φ (isB true) Ts) : Φ (isB k) Ts := by rw [h]; exact q
theorem bF {k : Bool} {Φ : VP → Ow → Prop} (h : k = false) (q : Φ (isB false) Ts) : Φ (isB k) Ts := by rw [h]; exact q
theorem ev_andT {rest : List Expr} (h : Ev X e Γ Δ Ts a (fun P Ts1 => P = isB true ∧ Ev X e Γ Δ Ts1 (.BoolOp .And (b :: rest) pos) Φ Ψ) Ψ) : Ev X e Γ Δ Ts (.BoolOp .And (a :: b :: rest) pos) Φ Ψ :=
  ev_and (h.imp fun P Ts1 ⟨h1, h2⟩ => ⟨true, h1, fun _ => h2, fun z => nomatch z⟩)
theorem ev_chain {op op' : CmpOp} (h : Ev X e Γ Δ Ts a (fun P1 Ts1 => Ev X e Γ (P1 :: Δ) Ts1 b (fun P2 Ts2 => Oz X e (compareOp op) P1 P2 Ts2 (fun Pk Ts3 => ∃ k, Pk = isB k ∧ (k = true → ∃ y, P2 = isV y ∧ Ev X e Γ (P2 :: Δ) Ts3 c (fun P3 Ts4 => Oz X e (compareOp op') P2 P3 Ts4 Φ) Ψ) ∧ (k = false → Φ (isB false) Ts3))) Ψ) Ψ)
    (hm : lastMarks [op, op'] [b, c] = false := by with_unfolding_all rfl) : Ev X e Γ Δ Ts (.Compare a [op, op'] [b, c] pos) Φ Ψ := fun σ vs H W s ok xo Q q =>
  wE_of (pe_chain opW opW peW peW peW hm) (h σ vs H W s ok xo _ fun P1 Ts1 v1 H1 h1 s1 => h1 σ _ H1 W s1 ok xo _ fun P2 Ts2 v2 H2 h2 s2 => h2 Γ Δ σ vs v1 v2 H2 s2 _ fun Pk Ts3 v3 H3 ⟨k, eP, k1, k2⟩ s3 => by
    subst eP
    refine ⟨k, s3.topV, ?_⟩
    cases k with
    | false => exact iteF (q _ _ _ _ (k2 rfl) (s3.pop.push fun _ _ => rfl))
    | true =>
      obtain ⟨y, e2, h3⟩ := k1 rfl
      subst e2
      have ev2 := s2.topV
      subst ev2
      exact iteT (h3 σ _ H3 W (s3.pop.push fun _ _ => rfl) ok xo _ fun P3 Ts4 v4 H4 h4 s4 => h4 Γ Δ σ vs v2 v4 H4 s4 Q q))
/-- list(xs), frozen at once -/
theorem list_LF (hl : IsSq X.K Ts P Ps) (h : Φ (lst Ps) Ts) : Nz e (wC X (.type "list")) [P] Ts Φ := nz1 fun Γ Δ σ vs v H s Q k => by
  obtain ⟨F, g, x, y⟩ := s.ex
  cases y with
  | cons hp y =>
    obtain ⟨r, ws, e3, hq, ha⟩ := hl.get g hp
    exact wC_of call_list_of ⟨r, ws, by rw [e3], .inl hq, fun l hl => k _ _ _ _ h ⟨_, g.frz hl, x.mono (Sub.new (g.free hl)), .cons ⟨l, ws, rfl, upd_same, ha.mono (Sub.new (g.free hl))⟩ (y.mono (Sub.new (g.free hl)))⟩⟩
/-- xs + ys, frozen at once -/
theorem oz_catF {P1 P2 : VP} (h1 : IsC Ts P1 Ps) (h2 : IsC Ts P2 Qs) (hz : Ps.length + Qs.length ≤ sizeLine) (h : Φ (lst (Ps ++ Qs)) Ts) : Oz X e (binaryOp .Add) P1 P2 Ts Φ := fun Γ Δ σ vs v1 v2 H s Q k => by
  obtain ⟨F, g, x, y⟩ := s.ex
  cases y with
  | cons hb y => cases y with
    | cons ha y =>
      obtain ⟨l, ws, e1, m1, a1⟩ := h1.get g ha
      obtain ⟨r, us, e2, m2, a2⟩ := h2.get g hb
      exact wO_of op_cat ⟨l, r, ws, us, e1, e2, m1, m2, by rw [← a1.len, ← a2.len]; exact hz, fun p hp => k _ _ _ _ h ⟨_, g.frz hp, x.mono (Sub.new (g.free hp)), .cons ⟨p, _, rfl, upd_same, (a1.append a2).mono (Sub.new (g.free hp))⟩ (y.mono (Sub.new (g.free hp)))⟩⟩
/-! ### == of data -/
mutual
inductive IsD (K : PySem.W.Frag) (Ts : Ow) : VP → PyData → Prop
  | non : IsD K Ts isN .none
  | bl (b : Bool) : IsD K Ts (isB b) (.bool b)
  | int (i : Int) : IsD K Ts (isI i) (.int i)
  | str (z : Str) : IsD K Ts (isS z) (.str z)
  | lst {P : VP} {Ps : List VP} {ds : List PyData} : IsSq K Ts P Ps → IsDs K Ts Ps ds → IsD K Ts P (.list ds)
  | tup {Ps : List VP} {ds : List PyData} : IsDs K Ts Ps ds → IsD K Ts (Z.tup K Ps) (.tuple ds)
inductive IsDs (K : PySem.W.Frag) (Ts : Ow) : List VP → List PyData → Prop
  | nil : IsDs K Ts [] []
  | cons {P : VP} {Ps : List VP} {d : PyData} {ds : List PyData} : IsD K Ts P d → IsDs K Ts Ps ds → IsDs K Ts (P :: Ps) (d :: ds)
end
mutual
theorem IsD.get {K : PySem.W.Frag} {F H : Hp} (g : Gd e F Ts H) : ∀ (d : PyData) (P : VP) (v : V), IsD K Ts P d → P.p F v → Dp K H v d
  | .none, _, _, h, hv => by
    cases h
    rw [show _ = _ from hv]; exact .non
  | .bool _, _, _, h, hv => by
    cases h
    rw [show _ = _ from hv]; exact .bl _
  | .int _, _, _, h, hv => by
    cases h
    rw [show _ = _ from hv]; exact .int _
  | .str _, _, _, h, hv => by
    cases h
    rw [show _ = _ from hv]; exact .str _
  | .list ds, _, _, h, hv => by
    cases h with
    | lst hq hd =>
      obtain ⟨l, ws, ev, h1, h2⟩ := hq.get g hv
      rw [ev]; exact .lst h1 (IsDs.get g ds _ _ hd h2)
  | .tuple ds, _, _, h, hv => by
    cases h with
    | tup hd =>
      obtain ⟨l, ws, ev, h1, h2⟩ := hv
      rw [ev]; exact .tup (sqT_mono g.sub h1) (IsDs.get g ds _ _ hd h2)
  | .dict _, _, _, h, _ => by cases h
theorem IsDs.get {K : PySem.W.Frag} {F H : Hp} (g : Gd e F Ts H) : ∀ (ds : List PyData) (Ps : List VP) (vs : List V), IsDs K Ts Ps ds → All F Ps vs → DpAll K H vs ds
  | [], _, _, h, a => by
    cases h
    cases a; exact .nil
  | d :: ds, _, _, h, a => by
    cases h with
    | cons h1 h2 => cases a with
      | cons a1 a2 => exact .cons (IsD.get g d _ _ h1 a1) (IsDs.get g ds _ _ h2 a2)
end
theorem isDs_ints {K : PySem.W.Frag} : ∀ zs : List Int, IsDs K Ts (zs.map fun i => isI i) (zs.map PyData.int)
  | [] => .nil
  | z :: zs => .cons (.int z) (isDs_ints zs)
theorem oz_eqD {P1 P2 : VP} {d1 d2 : PyData} {k : Nat} (hr : Room k X.A) (h1 : IsD X.K Ts P1 d1) (h2 : IsD X.K Ts P2 d2) (z1 : SeqAt.shaped d1 = true) (z2 : SeqAt.shaped d2 = true) (h : Φ (isB (PyData.eqv d1 d2)) Ts) : Oz X e (compareOp .Eq) P1 P2 Ts Φ := fun Γ Δ σ vs v1 v2 H s Q q => by
  obtain ⟨F, g, x, y⟩ := id s.ex
  cases y with
  | cons hb y => cases y with
    | cons ha y => exact wO_of (op_eqD hr.units) ⟨d1, d2, IsD.get g _ _ _ h1 ha, IsD.get g _ _ _ h2 hb, z1, z2, q _ _ _ _ h (s.pop.pop.push fun _ _ => rfl)⟩
theorem oz_neD {P1 P2 : VP} {d1 d2 : PyData} {k : Nat} (hr : Room k X.A) (h1 : IsD X.K Ts P1 d1) (h2 : IsD X.K Ts P2 d2) (z1 : SeqAt.shaped d1 = true) (z2 : SeqAt.shaped d2 = true) (h : Φ (isB (!PyData.eqv d1 d2)) Ts) : Oz X e (compareOp .NotEq) P1 P2 Ts Φ := fun Γ Δ σ vs v1 v2 H s Q q => by
  obtain ⟨F, g, x, y⟩ := id s.ex
  cases y with
  | cons hb y => cases y with
    | cons ha y => exact wO_of (op_neD hr.units) ⟨d1, d2, IsD.get g _ _ _ h1 ha, IsD.get g _ _ _ h2 hb, z1, z2, q _ _ _ _ h (s.pop.pop.push fun _ _ => rfl)⟩
/-! ### isinstance of a built-in type -/
theorem ev_bty {T : String} (hm : X.mg x = none) (hv : bootBuiltins x = some (.type T)) (h : Φ (isV (.ty T)) Ts) (hg : Gl X x := by rfl) (hn : x ≠ "__name__" := by decide) (hd : (x == ("__debug__" : Str)) = false := by decide) : Ev X e Γ Δ Ts (.Name x pos) Φ Ψ := fun σ vs H W s ok xo Q q =>
  wE_of (pe_bltn hg hm hv (v := .ty T) rfl hn hd) (q _ _ _ _ h (s.push fun _ _ => rfl))
def TyK (K : PySem.W.Frag) (Ts : Ow) (P : VP) (t : String) : Prop := ∀ (e : En) (F H : Hp) (v : V), Gd e F Ts H → P.p F v → TyX K H v (.type t)
theorem tyk_N {K : PySem.W.Frag} : TyK K Ts isN "NoneType" := fun e F H v g hv => by rw [show _ = _ from hv]; exact .base .non
theorem tyk_B {K : PySem.W.Frag} {k : Bool} : TyK K Ts (isB k) "bool" := fun e F H v g hv => by rw [show _ = _ from hv]; exact .base (.bl _)
theorem tyk_I {K : PySem.W.Frag} {k : Int} : TyK K Ts (isI k) "int" := fun e F H v g hv => by rw [show _ = _ from hv]; exact .base (.int _)
theorem tyk_S {K : PySem.W.Frag} {k : Str} : TyK K Ts (isS k) "str" := fun e F H v g hv => by rw [show _ = _ from hv]; exact .base (.str _)
theorem tyk_L {K : PySem.W.Frag} (h : IsC Ts P Ps) : TyK K Ts P "list" := fun e F H v g hv => by
  obtain ⟨l, ws, ev, h1, _⟩ := h.get g hv
  rw [ev]; exact .base (.lst h1)
theorem tyk_T {K : PySem.W.Frag} : TyK K Ts (tup K Ps) "tuple" := fun e F H v g hv => by
  obtain ⟨l, ws, ev, h1, _⟩ := hv
  rw [ev]
  rcases sqT_mono g.sub h1 with (h | ⟨o, h⟩) | h
  · exact .base (.tup h)
  · exact .fTuple h
  · obtain ⟨o, _, _, h3, h2, _⟩ := h
    exact .kTuple h3 h2
theorem isi_ty {t T : String} {k : Bool} (ht : TyK X.K Ts P t) (hk : kitB t T = some k) (h : Φ (isB k) Ts) : Nz e (wC X (.builtin "isinstance")) [P, isV (.ty T)] Ts Φ := nz2 fun Γ Δ σ vs v1 v2 H s Q q => by
  obtain ⟨F, g, x, y⟩ := id s.ex
  cases y with
  | cons hb y => cases y with
    | cons ha y =>
      rw [show v1 = _ from ha]
      exact wC_of call_isi ⟨v2, .ty T, _, _, k, rfl, .ty T, ht e F H v2 g hb, kit_ty hk, q _ _ _ _ h (s.pop.pop.push fun _ _ => rfl)⟩
/-! ### a property that hands out a field -/
structure Pz (P : Program) (w : World) (K : PySem.W.Frag) (mg : Str → Option Value) (base : Heap) (k : Nat) (C : Addr) (f f2 : Str) : Prop where
  ex : ∃ (p g : Addr) (fd : FuncData), PropOf K C f p g ∧ FnOk P w K mg base (L2.CX P w) k g fd ["self"] (getSp C f2) ∧ Binds K fd ["self"] []
theorem at_P {f f2 : Str} {C l : Addr} {fs : List (Str × VP)} {k : Nat} (i : Nat) (D : Pz X.prog X.w X.K X.mg X.base k C f f2) (hr : Room (k + 1) X.A) (hk : Ts[i]? = some (l, cI C fs)) (hc : Cls X.K C) (hl : fs.lookup f2 = some P) (h : Φ P Ts) : Uz e (wAt X f) (isR l) Ts Φ := fun Γ Δ σ vs v H s Q q pins sh σ' u I rx => by
  have ev := s.topV
  subst ev
  obtain ⟨F, g, x, y⟩ := s.ex
  obtain ⟨_, o, ho, dx, gs, eo, hfl⟩ := g.at hk
  subst eo
  obtain rfl : u = Value.ref l := rx
  obtain ⟨p, fg, fd, hp, FF, hb⟩ := D.ex
  cases y with
  | cons hp' y =>
    obtain ⟨z, hz, hR⟩ := hfl.look hl
    exact getprop_ok (E := fun _ _ _ => False) (dvs := []) I ho hc hp FF hr hb .nil (fun pins σ H s e s' I hq => (takes0 e s' (XE.of_call I (fun _ _ _ z => z) hq))) ⟨l, dx, gs, z, rfl, ho, hz, q _ _ _ _ h ⟨F, g, x, .cons hR y⟩⟩
/-! ### C(.., k = v) -/
structure Czk {α : Type} (P : Program) (w : World) (K : PySem.W.Frag) (mg : Str → Option Value) (base : Heap) (k : Nat) (x : Str) (C : Addr) (n : Nat) (kn : Str) (r : Pr α) : Prop where
  ex : ∃ (f : Addr) (fd : FuncData) (ps : List Str) (g : List Value → List Value → List Value), FnOk P w K mg base (L2.CX P w) k f fd ps (Prom r) ∧ mg x = some (.ref C) ∧ Mk K C f ∧ KBn K fd ps (n + 1) [kn] g (fun vs zs => vs ++ zs)
theorem ev_makeK {α : Type} {r : Pr α} {k n : Nat} {kn : Str} {kpos : Pos} {C : Addr} (F : Czk X.prog X.w X.K X.mg X.base k x C n kn r) (hr : Room (k + 1) X.A)
    (h : Ea X e Γ Δ Ts (a :: es) (fun Ps Ts1 => Ps.length = n ∧ Ev X e Γ (Ps ++ Δ) Ts1 b (fun Pk Ts2 => ∀ l, CallZ X e Γ [] r (isR l :: (Ps ++ [Pk])) ((l, cI C []) :: Ts2) (fun P Ts3 => P = isN ∧ Φ (isR l) Ts3) Ψ) Ψ) Ψ)
    (hall : (backToKw pos (keywordEach [⟨some kn, b, kpos⟩] X.env)).all (·.1.isSome) = true := by rfl) (hks : (backToKw pos (keywordEach [⟨some kn, b, kpos⟩] X.env)).filterMap (·.1) = [kn] := by rfl) (hg : Gl X x := by rfl) (hdb : (x == ("__debug__" : Str)) = false := by decide)
    (he : starEach (a :: es) X.env = (false, eval a X.env) :: starEach es X.env := by rfl) (hpl : ((backTo pos (starEach (a :: es) X.env)).any (·.1) || (backToKw pos (keywordEach [⟨some kn, b, kpos⟩] X.env)).any (·.1.isNone)) = false := by rfl) :
    Ev X e Γ Δ Ts (.Call (.Name x p) (a :: es) [⟨some kn, b, kpos⟩] pos) Φ Ψ := fun σ vs H W s ok xo Q q => by
  refine ⟨fun pins sh I => ?_⟩
  obtain ⟨f, fd, ps, g, F, hm, M, hb⟩ := F.ex
  refine wpAny_Call_Name_kw (ld_glob I hg hm ?_ hdb)
  refine PySem.W.callWith_KW (h₀ := X.base) I.ok.mod.kin M.kp hall (thn (paW.run pos pins sh σ H (fun ws H1 => ws.length = n ∧ wE X b σ H1 fun z H2 => ∀ l dx, H2 l = none → H2 dx = none → dx ≠ l → Prom r (.ref l :: ws ++ [z]) (upd (upd H2 dx (.own l)) l (.ins C dx [])) (fun v H2 => v = .non ∧ Q (.ref l) H2) (fun cls d H' => W cls d σ H')) I
    (h σ vs H W s ok xo _ fun Ps Ts1 ws H1 ⟨hlen, h1⟩ hl s1 => ⟨?_, h1 σ _ H1 W s1 ok xo _ fun Pk Ts2 z H2 h2 s2 l dx nl ndx nex => ?_⟩)) fun us s1 ⟨ws, H1, I1, r1, hn, q1⟩ => ?_) hpl he
  · rw [hl]; exact hlen
  · have s3 : S e Γ (Pk :: (Ps ++ Δ)) ((l, cI C []) :: Ts2) σ (z :: (ws ++ vs)) (upd (upd H2 dx (.own l)) l (.ins C dx [])) := by
      have sA : S e Γ (Pk :: (Ps ++ Δ)) Ts2 σ (z :: (ws ++ vs)) (upd H2 dx (.own l)) := s2.frz ndx fun F Fp _ x y => ⟨x.mono (Sub.new Fp), y.mono (Sub.new Fp)⟩
      exact sA.new (by rw [upd_ne nex.symm]; exact nl) fun F _ x y => ⟨⟨dx, [], rfl, .nil⟩, x, y⟩
    have := (h2 l).prom (ws := .ref l :: (ws ++ [z])) (Δ := Δ) (vs := vs) (s3.map fun F _ x y => by
      cases y with
      | cons hz y =>
        obtain ⟨y1, y2⟩ := All.split hl.symm y
        exact ⟨x, .cons rfl ((y1.append (.cons hz .nil)).append y2)⟩) (by simp [hl]) xo (Q := fun v H2 => v = .non ∧ Q (.ref l) H2) fun P Ts2 v H2 ⟨hP, h2⟩ s3 => by
      subst hP
      exact ⟨s3.topV, q _ _ _ _ h2 (s3.pop.push fun _ _ => rfl)⟩
    rw [List.append_nil] at this
    exact this
  · refine thn ((pk_cons peW pk_nil).run pos pins s1 σ H1 (fun zs H2 => ∃ z, zs = [z] ∧ ∀ l dx, H2 l = none → H2 dx = none → dx ≠ l → Prom r (.ref l :: ws ++ [z]) (upd (upd H2 dx (.own l)) l (.ins C dx [])) (fun v H2 => v = .non ∧ Q (.ref l) H2) (fun cls d H' => W cls d σ H')) I1 ?_) fun ys s2 ⟨zs, H2, I2, rz, z, ez, q2⟩ => ⟨I2.kIn, ?_⟩
    · exact ⟨fun pins s I => thn (q1.ru pins s I) fun u s' ⟨v, H', I', r, hz⟩ => ⟨v, H', I', r, v, rfl, hz⟩⟩
    rw [hks]
    subst ez
    have hq := q2 (s2.heap.objs.size + 1) s2.heap.objs.size (I2.hok.fresh (Nat.le_succ _)) (I2.hok.fresh (Nat.le_refl _)) (Nat.ne_of_lt (Nat.lt_succ_self _))
    have I3 := Inv.made (C := C) I2
    obtain ⟨u0, eu, r0⟩ : ∃ u0, ys = [u0] ∧ RelV z u0 := by
      cases rz with
      | cons r0 rn =>
        cases rn
        exact ⟨_, rfl, r0⟩
    subst eu
    have r2 := hb.rel (.cons (show RelV (.ref (s2.heap.objs.size + 1)) (Value.ref (s2.heap.objs.size + 1)) from rfl) r1) (show Vals [z] [u0] from .cons r0 .nil)
    have n1 : (Value.ref (s2.heap.objs.size + 1) :: us).length = n + 1 := by
      rw [List.length_cons, ← r1.length, hn]
    refine wpAny_call (make_map (f := f) I2.kIn M.makes M.init (beq_iff_eq.mp M.fn) (codeAny_mono (F.run _ X.stack _ _ ⟨Value.ref (s2.heap.objs.size + 1) :: us, [kn].zip [u0]⟩ _ _ _ _ (hr.make C us ([kn].zip [u0]))
      (I3.env0.make C us ([kn].zip [u0])) (hb.to _ (Value.ref (s2.heap.objs.size + 1) :: us) [u0] I3.kIn n1 rfl) r2 hq) fun r s' hq' => ?_))
    cases r with
    | error e => exact ok.tk e s' (XE.of_call I3 (fun _ _ _ z => z) hq')
    | ok fl =>
      cases fl with
      | ret u =>
        obtain ⟨v, H', I4, rv, ev, q3⟩ := I3.after hq'
        subst ev
        exact ⟨rv, ⟨V.ref (s2.heap.objs.size + 1), H', I4, rfl, q3⟩⟩
      | next => exact False.elim hq'
      | brk => exact False.elim hq'
      | cont => exact False.elim hq'
end
end Z
set_option maxHeartbeats 4000000
namespace Z
open PySem PySem.Spec PyProof.Rows L2
section
variable {X : Cx} {e : En} {Γ : List (Option VP)} {Δ : List VP} {Ts R : Ow} {a b c o : Expr} {es : List Expr} {pos apos p : Pos} {Φ : VP → Ow → Prop} {Ψ : XP} {x m f : Str} {P Q : VP} {Ps Qs : List VP}
/-- o.f as a target, o an owned instance -/
theorem tg_fld {κ : List (Option VP) → Ow → Prop} (h : Ev X e Γ (P :: Δ) Ts o (fun P1 Ts2 => ∃ (l : Addr) (k : Nat) (C : Addr) (fs : List (Str × VP)), P1 = isR l ∧ Ts2[k]? = some (l, cI C fs) ∧ Cls X.K C ∧ NoAttr X.K C f ∧ fs.length < 1000 ∧ κ Γ (Ts2.set k (l, cI C (putP f P fs)))) noX) : Tg X e Γ Δ Ts (.Attribute o f pos) P κ := fun σ vs v H W s ok Q q =>
  ⟨fun pins sh u I rv => PySem.W.kas_attr (thn (peW.run pins sh σ H _ I (h σ _ H W s ok (fun _ _ _ _ _ _ z => z.elim) (fun w H1 => ∃ l C dx gs, w = .ref l ∧ H1 l = some (.ins C dx gs) ∧ Cls X.K C ∧ NoAttr X.K C f ∧ gs.length < 1000 ∧ Q σ (upd H1 l (.ins C dx (putF f v gs)))) fun P1 Ts2 w H2 ⟨l, k, C, fs, el, hk, hc, hn, hz, h2⟩ s2 => by
    subst el
    have eu := s2.topV
    subst eu
    obtain ⟨F, g, x, y⟩ := s2.ex
    obtain ⟨_, o, ho, dx, gs, eo, hfl⟩ := g.at hk
    subst eo
    cases y with
    | cons _ y => cases y with
      | cons hP y => exact ⟨l, C, dx, gs, rfl, ho, hc, hn, by rw [← hfl.len]; exact hz, q _ _ _ _ h2 ⟨F, g.wr hk ⟨dx, _, rfl, hfl.put hP⟩, x, y⟩⟩)) fun ou s1 ⟨w, H1, I1, rw1, l, C, dx, gs, ew, hl, hc, hn, hz, q1⟩ => by
    subst ew
    obtain rfl : ou = Value.ref l := rw1
    exact setattr_ok I1 hl hc hn hz rv fun s3 I3 => ⟨σ, _, I3, q1⟩)⟩
theorem oz_iadd {i j : Int} (q : Φ (isI (i + j)) Ts) : Oz X e (inplaceOp .Add) (isI i) (isI j) Ts Φ := oz_I0 iop_add q
theorem oz_isub {i j : Int} (q : Φ (isI (i - j)) Ts) : Oz X e (inplaceOp .Sub) (isI i) (isI j) Ts Φ := oz_I0 iop_sub q
theorem oz_iaddS {i j : Str} (hz : i.length + j.length ≤ sizeLine) (q : Φ (isS (i ++ j)) Ts) : Oz X e (inplaceOp .Add) (isS i) (isS j) Ts Φ := oz_val iop_add_str (fun F H v1 v2 _ h1 h2 Q k => ⟨i, j, h1, h2, hz, k⟩) q
end
section
variable {X : Cx} {e : En} {Γ : List (Option VP)} {Δ : List VP} {Ts R : Ow} {a b c o : Expr} {es : List Expr} {pos apos p : Pos} {Φ : VP → Ow → Prop} {Φt : Bool → Ow → Prop} {Ψ : XP}
/-- known tests -/
theorem ew_orF {rest : List Expr} (h : Et X e Γ Δ Ts a (fun k Ts1 => k = false ∧ Ew X e Γ Δ Ts1 (.BoolOp .Or (b :: rest) pos) Φt Ψ) Ψ) : Ew X e Γ Δ Ts (.BoolOp .Or (a :: b :: rest) pos) Φt Ψ :=
  ew_or fun σ vs H W s ok xo Q q => h σ vs H W s ok xo Q fun k Ts1 H1 ⟨h1, h2⟩ s1 => q k Ts1 H1 ⟨fun z => (by rw [h1] at z; cases z), fun _ => h2⟩ s1
theorem ew_andT {rest : List Expr} (h : Et X e Γ Δ Ts a (fun k Ts1 => k = true ∧ Ew X e Γ Δ Ts1 (.BoolOp .And (b :: rest) pos) Φt Ψ) Ψ) : Ew X e Γ Δ Ts (.BoolOp .And (a :: b :: rest) pos) Φt Ψ :=
  ew_and fun σ vs H W s ok xo Q q => h σ vs H W s ok xo Q fun k Ts1 H1 ⟨h1, h2⟩ s1 => q k Ts1 H1 ⟨fun _ => h2, fun z => (by rw [h1] at z; cases z)⟩ s1
theorem app_assoc (x y z : Str) : (x ++ y) ++ z = x ++ (y ++ z) := by
  show Str.mk ((x.cps ++ y.cps) ++ z.cps) = Str.mk (x.cps ++ (y.cps ++ z.cps))
  rw [Array.append_assoc]
end
/-! ### texts' lengths -/
theorem len_app (a b : Str) : (a ++ b).length = a.length + b.length := by
  show (a.cps ++ b.cps).size = _
  rw [Array.size_append]; rfl
theorem len_of (z : String) : (Str.ofString z).length = z.length := by
  rw [Str.ofString_eq_toList]
  show ((z.toList.map Char.toNat).toArray).size = _
  rw [List.size_toArray, List.length_map, String.length_toList]
theorem len_nat {n k : Nat} (hk : 0 < k) (h : n < 10 ^ k) : (n.repr).length ≤ k := (Nat.length_repr_le_iff hk).mpr h
theorem len_int {i : Int} {k : Nat} (hk : 0 < k) (h : i.natAbs < 10 ^ k) : (Str.ofString (toString i)).length ≤ k + 1 := by
  rw [len_of, Int.toString_eq_repr, Int.repr_eq_if]
  split
  · have := len_nat hk (n := i.toNat) (by omega)
    omega
  · have := len_nat hk (n := (-i).toNat) (by omega)
    rw [String.length_append]
    have e1 : ("-" : String).length = 1 := rfl
    omega
end Z
set_option maxHeartbeats 4000000
namespace Z
open PySem PySem.Spec PyProof.Rows L2
/-- texts -/
abbrev sl (zs : List Str) : List VP := zs.map fun z => isS z
theorem All.strs {F : Hp} : ∀ {zs : List Str} {vs : List V}, All F (sl zs) vs → vs = zs.map V.str
  | [], _, .nil => rfl
  | _ :: _, _, .cons h t => by rw [All.strs t, show _ = _ from h]; rfl
theorem All.ofS {F : Hp} : ∀ (zs : List Str), All F (sl zs) (zs.map V.str)
  | [] => .nil
  | _ :: zs => .cons rfl (All.ofS zs)
section
variable {X : Cx} {e : En} {Γ : List (Option VP)} {Δ : List VP} {Ts R : Ow} {a b c o iter tg : Expr} {es : List Expr} {pos apos p : Pos} {Φ : VP → Ow → Prop} {Φi : IFn} {Ψ : XP} {x m f : Str} {P Q : VP} {Ps Qs : List VP}
theorem bm_split : BmF "str" "split" "str.split" := ⟨PySem.F.plainAttrs_str, PySem.F.slot_str_split, PySem.F.type_str_split⟩
theorem bm_join : BmF "str" "join" "str.join" := ⟨PySem.F.plainAttrs_str, PySem.F.slot_str_join, PySem.F.type_str_join⟩
theorem bm_rfind : BmF "str" "rfind" "str.rfind" := ⟨PySem.F.plainAttrs_str, PySem.F.slot_str_rfind, PySem.F.type_str_rfind⟩
/-- parts, frozen -/
theorem mtS_split {z y : Str} (hb : (y.length == 0) = false) (hz : z.length + 2 ≤ sizeLine) (h : Φ (lst (sl (Txt.split z y))) Ts) : Nz e (wC X (.builtin "str.split")) [isS z, isS y] Ts Φ := nz2 fun Γ Δ σ vs v1 v2 H s Q k => by
  obtain ⟨F, g, x, y'⟩ := id s.ex
  cases y' with
  | cons h1 y' => cases y' with
    | cons h2 y' => exact wC_ofM mt_split ⟨z, y, h1, by rw [show v1 = _ from h2], hb, hz, fun l hl => k _ _ _ _ h ⟨_, g.frz hl, x.mono (Sub.new (g.free hl)), .cons ⟨l, _, rfl, upd_same, All.ofS _⟩ (y'.mono (Sub.new (g.free hl)))⟩⟩
theorem mtS_rfind {z y : Str} (h : Φ (isI (Txt.rfind z y)) Ts) : Nz e (wC X (.builtin "str.rfind")) [isS z, isS y] Ts Φ := nz2 fun Γ Δ σ vs v1 v2 H s Q k => by
  obtain ⟨F, _, h1, h2⟩ := s.top2
  exact wC_ofM mt_rfind ⟨z, y, h1, by rw [show v1 = _ from h2], k _ _ _ _ h (s.pop.pop.push fun _ _ => rfl)⟩
theorem mtS_join {z : Str} {ys : List Str} (hl : IsSq X.K Ts P (sl ys)) (hz : (ys.map (·.length)).sum + ys.length * z.length ≤ 16777216) (h : Φ (isS (Txt.join z ys)) Ts) : Nz e (wC X (.builtin "str.join")) [isS z, P] Ts Φ := nz2 fun Γ Δ σ vs v1 v2 H s Q k => by
  obtain ⟨F, g, x, y⟩ := id s.ex
  cases y with
  | cons h2 y => cases y with
    | cons hp y =>
      obtain ⟨l, ws, e1, e2, e3⟩ := hl.get g hp
      have e4 := e3.strs
      subst e4
      exact wC_ofM mt_join ⟨z, l, ys, h2, by rw [e1], .inl e2, hz, k _ _ _ _ h (s.pop.pop.push fun _ _ => rfl)⟩
theorem oz_inS {i j : Str} (q : Φ (isB (!(Builtin.Str.occurrences j i 0 j.length 1).isEmpty)) Ts) : Oz X e (compareOp .In) (isS i) (isS j) Ts Φ := oz_val op_in_str (fun F H v1 v2 _ h1 h2 Q k => ⟨i, j, h1, h2, k⟩) q
theorem oz_notinS {i j : Str} (q : Φ (isB (!(!(Builtin.Str.occurrences j i 0 j.length 1).isEmpty))) Ts) : Oz X e (compareOp .NotIn) (isS i) (isS j) Ts Φ := oz_val op_notin_str (fun F H v1 v2 _ h1 h2 Q k => ⟨i, j, h1, h2, k⟩) q
/-- a text is walked -/
theorem ei_S (h : Ev X e Γ Δ Ts iter (fun P Ts1 => ∃ z : Str, P = isS z ∧ Φi P z.cps.size (fun i R => ∃ c, z.cps[i]? = some c ∧ R = isS ⟨#[c]⟩) (fun _ => True) Ts1) Ψ) : Ei X e Γ Δ Ts tg iter Φi Ψ := fun σ vs H W s ok xo R q =>
  wI_of (pi_str peW) (h σ vs H W s ok xo _ fun P Ts1 v H1 ⟨z, el, h1⟩ s1 => by
    subst el
    have ev := s1.topV
    subst ev
    exact ⟨z, rfl, q _ _ _ _ _ _ _ _ h1 s1 ⟨fun i Γ Ts σ H hi _ s => ⟨hi, fun x H' hy => by
      obtain ⟨eH, c, hc, ex⟩ := hy
      subst eH; subst ex
      exact ⟨_, ⟨c, hc, rfl⟩, s.push fun _ _ => rfl⟩⟩, fun _ _ _ _ _ _ => Nat.le_refl _⟩⟩)
/-- a list's slice, frozen -/
theorem sl_LF {l u : Option Int} (hl : IsSq X.K Ts P Ps) (h : Φ (lst (cutP Ps l u)) Ts) : Uz e (fun v => wSl X v l u) P Ts Φ := fun Γ Δ σ vs v H s Q k => by
  obtain ⟨F, g, x, y⟩ := s.ex
  cases y with
  | cons hp y =>
    obtain ⟨r, ws, e3, hq, ha⟩ := hl.get g hp
    exact wSl_of sl_list ⟨r, ws, e3, hq, fun p hp => k _ _ _ _ h ⟨_, g.frz hp, x.mono (Sub.new (g.free hp)), .cons ⟨p, _, rfl, upd_same, ha.cut.mono (Sub.new (g.free hp))⟩ (y.mono (Sub.new (g.free hp)))⟩⟩
end
end Z
set_option maxHeartbeats 4000000
namespace Z
open PySem PySem.Spec PyProof.Rows L2
section
variable {X : Cx} {e : En} {Γ : List (Option VP)} {Δ : List VP} {Ts R : Ow} {a b c o iter tg : Expr} {es : List Expr} {pos pos' np apos p : Pos} {Φ : VP → Ow → Prop} {Ψ : XP} {x m f n : Str} {K : Post} {body suite : List Stmt} {b0 : Stmt}
/-- try: body, except x as n: suite -/
theorem sx_tryAs {c : Value} (i : Nat) (hst : X.stack = X.env :: X.outer) (hf : X.env.frame = some X.env.locals) (hc : Names X x c)
    (h : ∀ (pn : List (Addr × Obj)) (xe : Value → Shared → Prop), Bl (X.tr pn xe) e Γ [] Ts body { K with ex := fun cls d Γ' Ts' => ∃ b, PySem.W.exmOne X.K cls c = some b ∧
      (b = true → ∀ (a : Addr) (oe : Obj) (pn : List (Addr × Obj)), Zc cls d oe → (∃ vs, oe.data = .fields vs) → Bl (X.suite a ((a, oe) :: pn)) e (Γ'.set i (some (isR a))) [] Ts' (b0 :: suite) { nx := fun Γ2 Ts2 => K.nx (Γ2.set i none) Ts2, rt := K.rt, bk := fun Γ2 Ts2 => K.bk (Γ2.set i none) Ts2, ct := fun Γ2 Ts2 => K.ct (Γ2.set i none) Ts2, ex := noX }) ∧ (b = false → K.ex cls d Γ' Ts') })
    (hi : X.N[i]? = some n := by rfl) (hln : X.env.kindOf n = some .local := by rfl) :
    Sx X e Γ [] Ts (.Try body [.ExceptHandler (some (.Name x np)) (some n) (b0 :: suite) pos'] [] [] pos) K := fun σ vs H W D s ok en => by
  cases s.ex with
  | intro F0 z0 =>
  have hv : vs = [] := by
    cases z0.2.2
    rfl
  subst hv
  have fg : ∀ {Γ2 Ts2 σ2 H2}, S e Γ2 [] Ts2 σ2 [] H2 → S e (Γ2.set i none) [] Ts2 (σ2.set i none) [] H2 := fun s => s.map fun F _ x y => ⟨x.forget i none, y⟩
  exact wS_of (ps_try_as (tb := fun W' D σ H => ∀ (pn : List (Addr × Obj)) (xe : Value → Shared → Prop), Takes (X.tr pn xe) W' → PassesOwn (model X.prog X.w) X.A X.env xe → wB (X.tr pn xe) body D σ H)
    (ts := fun a cls d D σ H => ∀ (oe : Obj) (pn : List (Addr × Obj)), Zc cls d oe → (∃ vs, oe.data = .fields vs) → wB (X.suite a ((a, oe) :: pn)) (b0 :: suite) D σ H) hst hf ok.nd hi hln hc ok.tk
    (fun W' pn xe tk po => ⟨fun pins sh σ H D I q => (q pn xe tk po).ru pins sh I⟩) (fun a oe cls d pn hz hfs => ⟨fun pins sh σ H D I q => (q oe pn hz hfs).ru pins sh I⟩))
    (fun pn xe tk po => h pn xe σ [] H _ D s ⟨tk, po, ok.nd⟩ ⟨en.nx, en.rt, en.bk, en.ct, fun cls d Γ' Ts' σ' H' ⟨b, e1, e2, e3⟩ s' => ⟨b, e1, fun hb a na oe pn' hz hfs => e2 hb a oe pn' hz hfs _ [] H' (fun _ _ _ _ => False) _ (s'.map fun F _ x y => ⟨x.set i rfl, y⟩) ⟨takes0, PassesOwn.never, ok.nd⟩
      ⟨fun Γ2 Ts2 σ2 H2 q2 s2 => en.nx _ _ _ _ q2 (fg s2), en.rt, fun Γ2 Ts2 σ2 H2 q2 s2 => en.bk _ _ _ _ q2 (fg s2), fun Γ2 Ts2 σ2 H2 q2 s2 => en.ct _ _ _ _ q2 (fg s2), noXo⟩, fun hb => en.ex _ _ _ _ _ _ (e3 hb) s'⟩⟩)
theorem isi_E {a D C : Addr} {oe : Obj} {pn : List (Addr × Obj)} {k : Bool} (hC : ExcC X.K D) (hz : Zc (.ref D) none oe) (hf : ∃ vs, oe.data = .fields vs) (hk : PySem.W.kitOne X.K (.ref D) (.ref C) = some k) (h : Φ (isB k) Ts) : Nz e (wC (X.suite a ((a, oe) :: pn)) (.builtin "isinstance")) [isR a, isR C] Ts Φ := nz2 fun Γ Δ σ vs v1 v2 H s Q q => by
  obtain ⟨F, g, x, y⟩ := id s.ex
  cases y with
  | cons h1 y => cases y with
    | cons h2 y => exact wC_of (call_isE hC hz hf) ⟨.ref C, .ref C, k, by rw [show v2 = _ from h1, show v1 = _ from h2], fun u r => r, hk, q _ _ _ _ h (s.pop.pop.push fun _ _ => rfl)⟩
end
end Z
set_option maxHeartbeats 4000000
namespace Z
open PySem PySem.Spec PyProof.Rows L2
section
variable {X : Cx} {e : En} {Γ : List (Option VP)} {Δ : List VP} {Ts R : Ow} {a b c o iter tg : Expr} {es : List Expr} {pos pos' np apos p : Pos} {Φ : VP → Ow → Prop} {Ψ : XP} {x m f n : Str} {P : VP} {K : Post}
/-- flat values in a list, a tuple -/
theorem oz_inT {y : V} {xs : List V} (hf : flatV y = true) (hfs : xs.all flatV = true) (q : Φ (isB (inV y xs)) Ts) : Oz X e (compareOp .In) (isV y) (tup X.K (xs.map isV)) Ts Φ := fun Γ Δ σ vs v1 v2 H s Q k => by
  obtain ⟨F, g, sl, y'⟩ := id s.ex
  cases y' with
  | cons hb y' => cases y' with
    | cons ha y' =>
      obtain ⟨l, ws, e1, e2, e3⟩ := hb
      have e4 := e3.isV
      subst e4
      exact wO_of op_in_seq ⟨l, ws, e1, .inr (sqT_mono g.sub e2), by rw [show v1 = _ from ha]; exact hf, hfs, by rw [show v1 = _ from ha]; exact k _ _ _ _ q (s.pop.pop.push fun _ _ => rfl)⟩
theorem oz_inL {y : V} {xs : List V} (hl : IsSq X.K Ts P (xs.map isV)) (hf : flatV y = true) (hfs : xs.all flatV = true) (q : Φ (isB (inV y xs)) Ts) : Oz X e (compareOp .In) (isV y) P Ts Φ := fun Γ Δ σ vs v1 v2 H s Q k => by
  obtain ⟨F, g, sl, y'⟩ := id s.ex
  cases y' with
  | cons hb y' => cases y' with
    | cons ha y' =>
      obtain ⟨l, ws, e1, e2, e3⟩ := hl.get g hb
      have e4 := e3.isV
      subst e4
      exact wO_of op_in_seq ⟨l, ws, e1, .inl e2, by rw [show v1 = _ from ha]; exact hf, hfs, by rw [show v1 = _ from ha]; exact k _ _ _ _ q (s.pop.pop.push fun _ _ => rfl)⟩
theorem oz_notinL {y : V} {xs : List V} (hl : IsSq X.K Ts P (xs.map isV)) (hf : flatV y = true) (hfs : xs.all flatV = true) (q : Φ (isB (!inV y xs)) Ts) : Oz X e (compareOp .NotIn) (isV y) P Ts Φ := fun Γ Δ σ vs v1 v2 H s Q k => by
  obtain ⟨F, g, sl, y'⟩ := id s.ex
  cases y' with
  | cons hb y' => cases y' with
    | cons ha y' =>
      obtain ⟨l, ws, e1, e2, e3⟩ := hl.get g hb
      have e4 := e3.isV
      subst e4
      exact wO_of op_notIn_seq ⟨l, ws, e1, .inl e2, by rw [show v1 = _ from ha]; exact hf, hfs, by rw [show v1 = _ from ha]; exact k _ _ _ _ q (s.pop.pop.push fun _ _ => rfl)⟩
theorem inV_ints (i : Int) (xs : List Int) : inV (.int i) (xs.map V.int) = decide (i ∈ xs) := by
  unfold inV
  rw [List.any_map]
  induction xs with
  | nil => rfl
  | cons z zs ih =>
    rw [List.any_cons, ih]
    show ((z == i) || decide (i ∈ zs)) = _
    by_cases h : z = i
    · subst h; simp
    · have h2 : ¬ i = z := fun q => h q.symm
      simp [h, h2]
theorem flat_ints (xs : List Int) : (xs.map V.int).all flatV = true := by
  rw [List.all_map]
  exact List.all_eq_true.mpr fun _ _ => rfl
theorem map_isI (xs : List Int) : (xs.map fun i => isI i) = (xs.map V.int).map isV := by rw [List.map_map]; rfl
/-! dicts by ints -/
/-- a dict whose keys are these whole numbers; what it holds is not told -/
def cK (ks : List Int) : HP := ⟨fun _ o => ∃ kvs : List (Key × V), o = .dK kvs ∧ kvs.map (·.1) = ks.map Sum.inl, fun _ h => h⟩
theorem ev_dict (h : ∀ l, Φ (isR l) ((l, cK []) :: Ts)) : Ev X e Γ Δ Ts (.Dict [] [] pos) Φ Ψ := fun σ vs H W s ok xo Q q =>
  wE_of pe_dnewK fun l hl => q _ _ _ _ (h l) (s.new hl fun F _ x y => ⟨⟨[], rfl, rfl⟩, x, .cons rfl y⟩)
def putI (ks : List Int) (k : Int) : List Int := if k ∈ ks then ks else ks ++ [k]
theorem keys_putI {kvs : List (Key × V)} {ks : List Int} {k : Int} {v : V} (h : kvs.map (·.1) = ks.map Sum.inl) : (putK kvs (Sum.inl k) v).map (·.1) = (putI ks k).map Sum.inl := by
  have hany : (kvs.any fun kv => decide (kv.1 = Sum.inl k)) = decide (k ∈ ks) := by
    have e : (kvs.any fun kv => decide (kv.1 = (Sum.inl k : Key))) = ((kvs.map (·.1)).any fun z => decide (z = (Sum.inl k : Key))) := by rw [List.any_map]; rfl
    rw [e, h, List.any_map]
    clear h e
    induction ks with
    | nil => rfl
    | cons z zs ih =>
      rw [List.any_cons, ih]
      show (decide ((Sum.inl z : Key) = Sum.inl k) || decide (k ∈ zs)) = _
      by_cases hz : z = k
      · subst hz; simp
      · have h2 : ¬ k = z := fun q => hz q.symm
        have h3 : ¬ (Sum.inl z : Key) = Sum.inl k := fun q => hz (Sum.inl.inj q)
        rw [decide_eq_false h3]; simp [h2]
  unfold putK putI
  rw [hany]
  by_cases hk : k ∈ ks
  · rw [if_pos (decide_eq_true hk), if_pos hk, List.map_map, ← h]
    refine List.map_congr_left fun kv _ => ?_
    show (if kv.1 = Sum.inl k then (kv.1, v) else kv).1 = kv.1
    split <;> rfl
  · rw [if_neg (by simp [hk]), if_neg hk, List.map_append, List.map_append, h]; rfl
/-- d[k] = v -/
theorem tg_put {κ : List (Option VP) → Ow → Prop} (hu : X.A.units + 1 < cLine) (h : Ev X e Γ (P :: Δ) Ts o (fun P1 Ts1 => ∃ l, P1 = isR l ∧ Ev X e Γ (P1 :: P :: Δ) Ts1 c (fun P2 Ts2 => ∃ (i : Int) (k : Nat) (ks : List Int), P2 = isI i ∧ Ts2[k]? = some (l, cK ks) ∧ ks.length < sizeLine ∧ κ Γ (Ts2.set k (l, cK (putI ks i)))) noX) noX)
    (ha : ∀ v, assign (.Subscript o c pos) X.env v = (do
      let ov ← holding [v] (eval o X.env)
      let iv ← holding [v, ov] (eval c X.env)
      standAt pos
      holding [v, ov, iv] (setItem ov iv v)
      release [v, ov, iv] []) := by intro _; rfl) : Tg X e Γ Δ Ts (.Subscript o c pos) P κ := fun σ vs v H W s ok Q q =>
  wG_of (pg_sub peW peW (set_dict hu) ha) (h σ _ H W s ok (fun _ _ _ _ _ _ z => z.elim) _ fun P1 Ts1 v1 H1 ⟨l, el, h1⟩ s1 => h1 σ _ H1 W s1 ok (fun _ _ _ _ _ _ z => z.elim) _ fun P2 Ts2 v2 H2 ⟨i, k, ks, e2, hk, hz, h2⟩ s2 => by
    subst el; subst e2
    have ev2 := s2.topV
    subst ev2
    have ev1 := s2.pop.topV
    subst ev1
    obtain ⟨F, g, x, y⟩ := s2.ex
    obtain ⟨_, o, ho, kvs, eo, hkeys⟩ := g.at hk
    subst eo
    have hl : kvs.length < sizeLine := by
      have := congrArg List.length hkeys
      rw [List.length_map, List.length_map] at this
      omega
    cases y with
    | cons _ y => cases y with
      | cons _ y => cases y with
        | cons hP y => exact ⟨l, _, rfl, DPut.k (k := Sum.inl i) ho hl, q _ _ _ _ h2 ⟨F, g.wr hk ⟨_, rfl, keys_putI hkeys⟩, x, y⟩⟩)
/-- sorted(d), frozen -/
theorem sorted_K {l : Addr} {ks : List Int} (hc : X.calm = true) (k : Nat) (hk : Ts[k]? = some (l, cK ks)) (h64 : ks.length < 64) (h : ∀ ys : List Int, ys.Perm ks → Φ (lst (ys.map fun i => isI i)) Ts) : Nz e (wC X (.builtin "sorted")) [isR l] Ts Φ := nz1 fun Γ Δ σ vs v H s Q q => by
  have ev := s.topV
  subst ev
  obtain ⟨F, g, x, y⟩ := s.ex
  obtain ⟨_, o, ho, kvs, eo, hkeys⟩ := g.at hk
  subst eo
  cases y with
  | cons _ y => exact wC_of (call_sortedDI hc) ⟨l, kvs, ks, rfl, .inl ho, hkeys, h64, fun ys p hp _ hn => q _ _ _ _ (h ys hp) ⟨_, g.frz hn, x.mono (Sub.new (g.free hn)), .cons ⟨p, _, rfl, upd_same, by rw [map_isI]; exact All.ofV _⟩ (y.mono (Sub.new (g.free hn)))⟩⟩
end
end Z
set_option maxHeartbeats 4000000
namespace Z
open PySem PySem.Spec PyProof.Rows L2
/-! several cells frozen at once -/
theorem Gd.freezeN {e : En} {H : Hp} {R : Ow} : ∀ (Cs : Ow) {F : Hp}, Gd e F (Cs ++ R) H → ∃ F', Sub F F' ∧ Gd e F' R H ∧ ∀ x ∈ Cs, ∃ o, F' x.1 = some o ∧ x.2.p F' o
  | [], F, g => ⟨F, Sub.refl _, g, fun _ h => by cases h⟩
  | c :: Cs, F, g => by
    have hi : (c :: Cs ++ R)[0]? = some (c.1, c.2) := rfl
    obtain ⟨h1, o, h2, h3⟩ := g.at hi
    obtain ⟨sF, g2⟩ := g.freeze hi h2
    obtain ⟨F', s2, g3, h4⟩ := Gd.freezeN Cs (F := upd F c.1 o) g2
    refine ⟨F', sF.trans s2, g3, fun x hx => ?_⟩
    rcases List.mem_cons.mp hx with rfl | hx
    · exact ⟨o, s2 _ _ upd_same, x.2.mono (sF.trans s2) h3⟩
    · exact h4 x hx
/-- the fields of an instance told by more -/
theorem Fl.imp {F : Hp} : ∀ {fs gs : List (Str × VP)} {vs : List (Str × V)}, Fl F fs vs → fs.length = gs.length → (∀ (i : Nat) (x : Str × VP) (y : Str × VP), fs[i]? = some x → gs[i]? = some y → x.1 = y.1 ∧ ∀ v, x.2.p F v → y.2.p F v) → Fl F gs vs
  | _, [], _, .nil, _, _ => .nil
  | _, _ :: _, _, .nil, e, _ => by simp at e
  | _, [], _, .cons _ _, e, _ => by simp at e
  | (f, P) :: _, (g, Q) :: _, _, .cons h t, e, k => by
    obtain ⟨h1, h2⟩ := k 0 _ _ rfl rfl
    have h1 : f = g := h1
    subst h1
    exact .cons (h2 _ h) (Fl.imp t (by simpa using e) fun i x y a b => k (i + 1) x y (by simpa using a) (by simpa using b))
section
variable {X : Cx} {e : En} {Γ : List (Option VP)} {Δ : List VP} {Ts : Ow} {a : Expr} {Φ : VP → Ow → Prop} {Ψ : XP}
/-- an owned value at hand with the cells Cs: frozen, told by Q from then on -/
theorem ev_frzN (h : Ev X e Γ Δ Ts a (fun P Ts1 => ∃ (Cs R : Ow) (Q : VP), Ts1.Perm (Cs ++ R) ∧ (∀ F v, (∀ x ∈ Cs, ∃ o, F x.1 = some o ∧ x.2.p F o) → P.p F v → Q.p F v) ∧ Φ Q R) Ψ) : Ev X e Γ Δ Ts a Φ Ψ := fun σ vs H W s ok xo Q q =>
  h σ vs H W s ok xo Q fun P Ts1 v H1 ⟨Cs, R, Q', hp, hQ, h1⟩ s1 => by
    obtain ⟨F, g, x, y⟩ := s1.ex
    obtain ⟨F', sF, g', hc⟩ := Gd.freezeN Cs (g.perm hp.symm)
    cases y with
    | cons hP y => exact q _ _ _ _ h1 ⟨F', g', x.mono sF, .cons (hQ F' _ hc (P.mono sF hP)) (y.mono sF)⟩
end
theorem callz_perm {α : Type} {X : Cx} {e : En} {Γ : List (Option VP)} {dvs : List V} {r : Pr α} {Ps : List VP} {Ts Ts' : Ow} {Φ : VP → Ow → Prop} {Ψ : XP} (hp : Ts.Perm Ts') (h : CallZ X e Γ dvs r Ps Ts' Φ Ψ) : CallZ X e Γ dvs r Ps Ts Φ Ψ :=
  let ⟨a, R, h1, h2, h3, h4⟩ := h
  ⟨a, R, h1, hp.trans h2, h3, h4⟩
theorem ixN_at {n : Nat} {i : Int} (h0 : 0 ≤ i) (h : i < n) : ixN n i = some i.toNat := by unfold ixN; rw [if_pos h0, if_pos h]
/-- a dict's keys -/
theorem putI_nodup {ks : List Int} {k : Int} (h : ks.Nodup) : (putI ks k).Nodup := by
  unfold putI
  split
  · exact h
  · rename_i hn
    exact List.nodup_append.mpr ⟨h, by simp, fun a ha b hb hab => by
      rw [List.mem_singleton.mp hb] at hab
      exact hn (hab ▸ ha)⟩
theorem mem_putI {ks : List Int} {k x : Int} : x ∈ putI ks k ↔ x ∈ ks ∨ x = k := by
  unfold putI
  split
  · rename_i h
    constructor
    · exact .inl
    · rintro (h1 | rfl)
      · exact h1
      · exact h
  · simp
/-! data -/
theorem lay_ints : ∀ zs : List Int, PyData.canLayAll0 (zs.map PyData.int) = true
  | [] => by simp [PyData.canLayAll0]
  | z :: zs => by simp [PyData.canLayAll0, PyData.canLay0, lay_ints zs]
theorem dep_ints : ∀ zs : List Int, PyData.depthAll (zs.map PyData.int) = 0
  | [] => by simp [PyData.depthAll]
  | z :: zs => by simp [PyData.depthAll, PyData.depth, dep_ints zs]
abbrev tD (zs : List Int) : PyData := .tuple (zs.map PyData.int)
abbrev lD (zs : List Int) : PyData := .list (zs.map PyData.int)
theorem shaped_of {d : PyData} (h1 : d.canLay0 = true) (h2 : d.depth ≤ 64) : SeqAt.shaped d = true := by
  unfold SeqAt.shaped
  rw [h1, decide_eq_true h2]; rfl
theorem tD_lay (zs : List Int) : (tD zs).canLay0 = true := by simp only [PyData.canLay0]; exact lay_ints zs
theorem lD_lay (zs : List Int) : (lD zs).canLay0 = true := by simp only [PyData.canLay0]; exact lay_ints zs
theorem tD_dep (zs : List Int) : (tD zs).depth = 1 := by simp only [PyData.depth, dep_ints]
theorem lD_dep (zs : List Int) : (lD zs).depth = 1 := by simp only [PyData.depth, dep_ints]
theorem tD_sh (zs : List Int) : SeqAt.shaped (tD zs) = true := shaped_of (tD_lay zs) (by rw [tD_dep]; decide)
theorem lD_sh (zs : List Int) : SeqAt.shaped (lD zs) = true := shaped_of (lD_lay zs) (by rw [lD_dep]; decide)
theorem tD_self (zs : List Int) : PyData.eqv (tD zs) (tD zs) = true := SeqAt.eqv_refl _ (tD_lay zs)
theorem lD_self (zs : List Int) : PyData.eqv (lD zs) (lD zs) = true := SeqAt.eqv_refl _ (lD_lay zs)
end Z
set_option maxHeartbeats 4000000
namespace P71
/-! expressions and what they match -/
inductive Rx
  | non
  | emp
  | lt (c : Int)
  | star (a : Rx)
  | join (a b : Rx)
  | alt (a b : Rx)
inductive Star (P : List Int → Prop) : List Int → Prop
  | nil : Star P []
  | cons {u v : List Int} : P u → Star P v → Star P (u ++ v)
def Lang : Rx → List Int → Prop
  | .non, _ => False
  | .emp, w => w = []
  | .lt c, w => w = [c]
  | .star a, w => Star (Lang a) w
  | .join a b, w => ∃ u v, w = u ++ v ∧ Lang a u ∧ Lang b v
  | .alt a b, w => Lang a w ∨ Lang b w
def nul : Rx → Bool
  | .non => false
  | .emp => true
  | .lt _ => false
  | .star _ => true
  | .join a b => nul a && nul b
  | .alt a b => nul a || nul b
theorem nul_iff : ∀ e, nul e = true ↔ Lang e []
  | .non => by simp [nul, Lang]
  | .emp => by simp [nul, Lang]
  | .lt c => by simp [nul, Lang]
  | .star a => by simp only [nul, Lang, true_iff]; exact .nil
  | .join a b => by
    simp only [nul, Lang, Bool.and_eq_true, nul_iff a, nul_iff b]
    constructor
    · rintro ⟨h1, h2⟩
      exact ⟨[], [], rfl, h1, h2⟩
    · rintro ⟨u, v, h, h1, h2⟩
      obtain ⟨rfl, rfl⟩ := List.append_eq_nil_iff.mp h.symm
      exact ⟨h1, h2⟩
  | .alt a b => by simp only [nul, Lang, Bool.or_eq_true, nul_iff a, nul_iff b]
/-- a star without idle turns -/
inductive Plus (P : List Int → Prop) : List Int → Prop
  | one {u : List Int} : P u → u ≠ [] → Plus P u
  | cons {u v : List Int} : P u → u ≠ [] → Plus P v → Plus P (u ++ v)
theorem Plus.ne {P : List Int → Prop} {w : List Int} (h : Plus P w) : w ≠ [] := by
  cases h with
  | one _ h => exact h
  | cons _ h _ => simp [h]
theorem plus_iff {P : List Int → Prop} {w : List Int} (hw : w ≠ []) : Star P w ↔ Plus P w := by
  constructor
  · intro h
    induction h with
    | nil => exact absurd rfl hw
    | @cons u v hu hv ih =>
      by_cases h1 : u = []
      · subst h1
        exact ih (by simpa using hw)
      · by_cases h2 : v = []
        · subst h2
          rw [List.append_nil]
          exact .one hu h1
        · exact .cons hu h1 (ih h2)
  · intro h
    induction h with
    | @one u hu _ =>
      have := Star.cons hu Star.nil
      rwa [List.append_nil] at this
    | cons hu _ hv ih => exact .cons hu (ih hv.ne)
/-! the steps: a table over places 0 .. n -/
abbrev Mx := Nat → Nat → Bool
def comp (N : Nat) (m1 m2 : Mx) : Mx := fun i j => (List.range N).any fun k => m1 i k && m2 k j
def orm (m1 m2 : Mx) : Mx := fun i j => m1 i j || m2 i j
def clos (N : Nat) (m : Mx) : Nat → Mx
  | 0 => m
  | t + 1 => orm (clos N m t) (comp N (clos N m t) m)
def seg (w : List Int) (i j : Nat) : List Int := (w.drop i).take (j - i)
/-- letter at k, the place behind it -/
def aft (n k : Nat) : Nat := if k + 1 = n + 1 then n else k + 1
def stp (w : List Int) (L : Int) : Rx → Mx
  | .non => fun _ _ => false
  | .emp => fun _ _ => false
  | .lt c => fun k j => decide (j = aft w.length k) && decide ((w ++ [L]).getD k 0 = c)
  | .star a => clos (w.length + 1) (stp w L a) (w.length + 1)
  | .alt a b => orm (stp w L a) (stp w L b)
  | .join a b => fun i j => (comp (w.length + 1) (stp w L a) (stp w L b) i j || (nul a && stp w L b i j)) || (nul b && stp w L a i j)
def Bel (L : Int) : Rx → Prop
  | .non => True
  | .emp => True
  | .lt c => c < L
  | .star a => Bel L a
  | .join a b => Bel L a ∧ Bel L b
  | .alt a b => Bel L a ∧ Bel L b
theorem seg_cat (w : List Int) {i k j : Nat} (h1 : i ≤ k) (h2 : k ≤ j) : seg w i j = seg w i k ++ seg w k j := by
  unfold seg
  have e : j - i = (k - i) + (j - k) := by omega
  rw [e, List.take_add, List.drop_drop, show i + (k - i) = k by omega]
theorem seg_len (w : List Int) {i j : Nat} (h : j ≤ w.length) : (seg w i j).length = j - i := by
  unfold seg
  rw [List.length_take, List.length_drop]
  omega
theorem seg_nil (w : List Int) (i : Nat) : seg w i i = [] := by simp [seg]
/-- a part of a segment is a segment -/
theorem seg_split (w u v : List Int) {i j : Nat} (hij : i ≤ j) (hj : j ≤ w.length) (h : seg w i j = u ++ v) : ∃ k, i ≤ k ∧ k ≤ j ∧ u = seg w i k ∧ v = seg w k j := by
  have hl := congrArg List.length h
  rw [seg_len w hj, List.length_append] at hl
  refine ⟨i + u.length, by omega, by omega, ?_, ?_⟩
  · have := seg_cat w (i := i) (k := i + u.length) (j := j) (by omega) (by omega)
    rw [h] at this
    exact (List.append_inj this (by rw [seg_len w (by omega)]; omega)).1
  · have := seg_cat w (i := i) (k := i + u.length) (j := j) (by omega) (by omega)
    rw [h] at this
    exact (List.append_inj this (by rw [seg_len w (by omega)]; omega)).2
/-- paths of a table -/
inductive Pth (m : Mx) (N : Nat) : Nat → Nat → Nat → Prop
  | one {i j : Nat} : m i j = true → Pth m N 0 i j
  | snoc {t i k j : Nat} : Pth m N t i k → k < N → m k j = true → Pth m N (t + 1) i j
theorem clos_iff (N : Nat) (m : Mx) : ∀ (t i j : Nat), clos N m t i j = true ↔ ∃ s, s ≤ t ∧ Pth m N s i j
  | 0, i, j => by
    constructor
    · intro h; exact ⟨0, Nat.le_refl _, .one h⟩
    · rintro ⟨s, hs, h⟩
      cases h with
      | one h => exact h
      | snoc _ _ _ => omega
  | t + 1, i, j => by
    unfold clos orm comp
    rw [Bool.or_eq_true, clos_iff N m t i j, List.any_eq_true]
    constructor
    · rintro (⟨s, hs, h⟩ | ⟨k, hk, h⟩)
      · exact ⟨s, by omega, h⟩
      · rw [Bool.and_eq_true, clos_iff N m t i k] at h
        obtain ⟨⟨s, hs, h1⟩, h2⟩ := h
        exact ⟨s + 1, by omega, .snoc h1 (List.mem_range.mp hk) h2⟩
    · rintro ⟨s, hs, h⟩
      cases h with
      | one h => exact .inl ⟨0, by omega, .one h⟩
      | @snoc s' _ k _ h1 hk h2 =>
        right
        refine ⟨k, List.mem_range.mpr hk, ?_⟩
        rw [Bool.and_eq_true, clos_iff N m t i k]
        exact ⟨⟨s', by omega, h1⟩, h2⟩
theorem Plus.app {P : List Int → Prop} {u v : List Int} (h : Plus P u) (hv : P v) (hn : v ≠ []) : Plus P (u ++ v) := by
  induction h with
  | one h1 h2 => exact .cons h1 h2 (.one hv hn)
  | @cons a b h1 h2 h3 ih => rw [List.append_assoc]; exact .cons h1 h2 ih
theorem Plus.snoc_cases {P : List Int → Prop} {w : List Int} (h : Plus P w) : (P w ∧ w ≠ []) ∨ ∃ u v, w = u ++ v ∧ Plus P u ∧ P v ∧ v ≠ [] := by
  induction h with
  | one h1 h2 => exact .inl ⟨h1, h2⟩
  | @cons a b h1 h2 h3 ih =>
    rcases ih with ⟨h4, h5⟩ | ⟨u, v, rfl, h4, h5, h6⟩
    · exact .inr ⟨a, b, rfl, .one h1 h2, h4, h5⟩
    · exact .inr ⟨a ++ u, v, by rw [List.append_assoc], .cons h1 h2 h4, h5, h6⟩
theorem stp_iff (w : List Int) (L : Int) : ∀ (e : Rx), Bel L e → ∀ i j, i ≤ w.length → j ≤ w.length → (stp w L e i j = true ↔ i < j ∧ Lang e (seg w i j))
  | .non, _, i, j, _, _ => by simp [stp, Lang]
  | .emp, _, i, j, hi, hj => by
    simp only [stp, Lang, Bool.false_eq_true, false_iff]
    rintro ⟨h1, h2⟩
    have := congrArg List.length h2
    rw [seg_len w hj] at this
    simp at this; omega
  | .lt c, hb, i, j, hi, hj => by
    simp only [stp, Lang, Bool.and_eq_true, decide_eq_true_eq]
    by_cases h : i = w.length
    · subst h
      constructor
      · rintro ⟨_, h2⟩
        have hb : c < L := hb
        rw [List.getD_eq_getElem?_getD, List.getElem?_append_right (Nat.le_refl _)] at h2
        simp at h2; omega
      · rintro ⟨h1, _⟩; omega
    · have hi' : i < w.length := by omega
      have ha : aft w.length i = i + 1 := by unfold aft; rw [if_neg (by omega)]
      have hg : (w ++ [L]).getD i 0 = w[i] := by
        rw [List.getD_eq_getElem?_getD, List.getElem?_append_left hi', List.getElem?_eq_getElem hi']; rfl
      have hs : seg w i (i + 1) = [w[i]] := by
        unfold seg
        rw [show i + 1 - i = 1 by omega, List.drop_eq_getElem_cons hi', List.take_succ_cons, List.take_zero]
      rw [ha, hg]
      constructor
      · rintro ⟨rfl, h2⟩
        exact ⟨by omega, by rw [hs, h2]⟩
      · rintro ⟨h1, h2⟩
        have hl := congrArg List.length h2
        rw [seg_len w hj] at hl
        simp at hl
        have : j = i + 1 := by omega
        subst this
        rw [hs] at h2
        exact ⟨rfl, (List.cons.inj h2).1⟩
  | .alt a b, ⟨ha, hb⟩, i, j, hi, hj => by
    simp only [stp, orm, Lang, Bool.or_eq_true, stp_iff w L a ha i j hi hj, stp_iff w L b hb i j hi hj]
    constructor
    · rintro (⟨h1, h2⟩ | ⟨h1, h2⟩)
      · exact ⟨h1, .inl h2⟩
      · exact ⟨h1, .inr h2⟩
    · rintro ⟨h1, h2 | h2⟩
      · exact .inl ⟨h1, h2⟩
      · exact .inr ⟨h1, h2⟩
  | .join a b, ⟨ha, hb⟩, i, j, hi, hj => by
    simp only [stp, comp, Lang, Bool.or_eq_true, Bool.and_eq_true, List.any_eq_true, List.mem_range, nul_iff]
    constructor
    · rintro ((⟨k, hk, h1, h2⟩ | ⟨h1, h2⟩) | ⟨h1, h2⟩)
      · rw [stp_iff w L a ha i k hi (by omega)] at h1
        rw [stp_iff w L b hb k j (by omega) hj] at h2
        exact ⟨by omega, _, _, seg_cat w (by omega) (by omega), h1.2, h2.2⟩
      · rw [stp_iff w L b hb i j hi hj] at h2
        exact ⟨h2.1, [], _, rfl, h1, h2.2⟩
      · rw [stp_iff w L a ha i j hi hj] at h2
        exact ⟨h2.1, _, [], by rw [List.append_nil], h2.2, h1⟩
    · rintro ⟨h, u, v, e, h1, h2⟩
      obtain ⟨k, hk1, hk2, rfl, rfl⟩ := seg_split w u v (by omega) hj e
      by_cases e1 : i = k
      · subst e1
        rw [seg_nil] at h1
        exact .inl (.inr ⟨h1, (stp_iff w L b hb i j hi hj).mpr ⟨h, h2⟩⟩)
      · by_cases e2 : k = j
        · subst e2
          rw [seg_nil] at h2
          exact .inr ⟨h2, (stp_iff w L a ha i k hi hj).mpr ⟨h, h1⟩⟩
        · exact .inl (.inl ⟨k, by omega, (stp_iff w L a ha i k hi (by omega)).mpr ⟨by omega, h1⟩, (stp_iff w L b hb k j (by omega) hj).mpr ⟨by omega, h2⟩⟩)
  | .star a, ha, i, j, hi, hj => by
    simp only [stp, Lang]
    rw [clos_iff]
    have ih := stp_iff w L a ha
    have key1 : ∀ s i j, i ≤ w.length → j ≤ w.length → Pth (stp w L a) (w.length + 1) s i j → i < j ∧ Plus (Lang a) (seg w i j) := by
      intro s i j hi hj h
      induction h with
      | one h =>
        rw [ih _ _ hi hj] at h
        refine ⟨h.1, .one h.2 fun q => ?_⟩
        have := congrArg List.length q
        rw [seg_len w hj] at this
        simp at this; omega
      | @snoc t i k j h1 hk h2 ih2 =>
        obtain ⟨q1, q2⟩ := ih2 hi (by omega)
        rw [ih _ _ (by omega) hj] at h2
        refine ⟨by omega, ?_⟩
        rw [seg_cat w (show i ≤ k by omega) (show k ≤ j by omega)]
        refine q2.app h2.2 fun q => ?_
        have := congrArg List.length q
        rw [seg_len w hj] at this
        simp at this; omega
    have key2 : ∀ (d i j : Nat), j - i ≤ d → i < j → i ≤ w.length → j ≤ w.length → Plus (Lang a) (seg w i j) → ∃ s, s < j - i ∧ Pth (stp w L a) (w.length + 1) s i j := by
      intro d
      induction d with
      | zero => intro i j h1 h2; omega
      | succ d ihd =>
        intro i j hd hij hi hj h
        rcases h.snoc_cases with ⟨h1, _⟩ | ⟨u, v, e, h1, h2, h3⟩
        · exact ⟨0, by omega, .one ((ih i j hi hj).mpr ⟨hij, h1⟩)⟩
        · obtain ⟨k, hk1, hk2, rfl, rfl⟩ := seg_split w u v (by omega) hj e
          have n1 : i ≠ k := fun q => by
            subst q
            exact h1.ne (seg_nil w i)
          have n2 : k ≠ j := fun q => by
            subst q
            exact h3 (seg_nil w k)
          obtain ⟨s, hs, hp⟩ := ihd i k (by omega) (by omega) hi (by omega) h1
          exact ⟨s + 1, by omega, .snoc hp (by omega) ((ih k j (by omega) hj).mpr ⟨by omega, h2⟩)⟩
    constructor
    · rintro ⟨s, _, h⟩
      obtain ⟨h1, h2⟩ := key1 s i j hi hj h
      exact ⟨h1, (plus_iff h2.ne).mpr h2⟩
    · rintro ⟨h1, h2⟩
      have hne : seg w i j ≠ [] := fun q => by
        have := congrArg List.length q
        rw [seg_len w hj] at this
        simp at this; omega
      obtain ⟨s, hs, hp⟩ := key2 _ i j (Nat.le_refl _) h1 hi hj ((plus_iff hne).mp h2)
      exact ⟨s, by omega, hp⟩
end P71
set_option maxHeartbeats 4000000
namespace P71
/-! places -/
inductive Run (le : Nat → Int) (fo : Nat → Nat → Prop) : Nat → List Int → Nat → Prop
  | one {p : Nat} : Run le fo p [le p] p
  | cons {p p' q : Nat} {w : List Int} : fo p p' → Run le fo p' w q → Run le fo p (le p :: w) q
section
variable {le le' : Nat → Int} {fo fo' : Nat → Nat → Prop}
theorem Run.mono (h : ∀ p q, fo p q → fo' p q) {p q : Nat} {w : List Int} (r : Run le fo p w q) : Run le fo' p w q := by
  induction r with
  | one => exact .one
  | cons h1 _ ih => exact .cons (h _ _ h1) ih
theorem Run.app {p q p' r : Nat} {u v : List Int} (h : Run le fo p u q) (hq : fo q p') (h2 : Run le fo p' v r) : Run le fo p (u ++ v) r := by
  induction h with
  | one => exact .cons hq h2
  | cons h1 _ ih => exact .cons h1 (ih hq)
theorem Run.ne {p q : Nat} {w : List Int} (r : Run le fo p w q) : w ≠ [] := by cases r <;> simp
theorem Run.snoc {p q : Nat} {u : List Int} {c : Int} : Run le fo p (u ++ [c]) q → u ≠ [] → ∃ x, Run le fo p u x ∧ fo x q ∧ le q = c := by
  intro h
  generalize e : u ++ [c] = w at h
  induction h generalizing u with
  | one =>
    intro hu
    have := congrArg List.length e
    simp at this
    exact absurd this hu
  | @cons p p' q w h1 h2 ih =>
    intro hu
    cases u with
    | nil => exact absurd rfl hu
    | cons d u =>
      rw [List.cons_append] at e
      have e1 := (List.cons.inj e).1
      have e2 := (List.cons.inj e).2
      subst e1
      by_cases hu2 : u = []
      · subst hu2
        have e2 : [c] = w := e2
        subst e2
        generalize ec : [c] = w at h2
        cases h2 with
        | one => exact ⟨p, .one, h1, (List.cons.inj ec).1.symm⟩
        | cons _ h3 =>
          have := (List.cons.inj ec).2
          exact absurd this.symm h3.ne
      · obtain ⟨x, h3, h4, h5⟩ := ih e2 hu2
        exact ⟨x, .cons h1 h3, h4, h5⟩
/-- runs that stay within A -/
theorem Run.inside {A : Nat → Prop} (hA : ∀ p q, A p → fo p q → A q) {p q : Nat} {w : List Int} (r : Run le fo p w q) (hp : A p) : A q := by
  induction r with
  | one => exact hp
  | cons h1 _ ih => exact ih (hA _ _ hp h1)
theorem Run.same {A : Nat → Prop} (hA : ∀ p q, A p → fo p q → A q) (hl : ∀ p, A p → le' p = le p) (hf : ∀ p q, A p → fo p q → fo' p q) {p q : Nat} {w : List Int} (r : Run le fo p w q) (hp : A p) : Run le' fo' p w q := by
  induction r with
  | one =>
    rw [← hl _ hp]
    exact .one
  | cons h1 _ ih =>
    rw [← hl _ hp]
    exact .cons (hf _ _ hp h1) (ih (hA _ _ hp h1))
end
/-- what the places of an expression say: they lie in A; the first, the last ones -/
structure Ok (e : Rx) (le : Nat → Int) (fo : Nat → Nat → Prop) (A : Nat → Prop) (Fi La : Nat → Prop) : Prop where
  fi : ∀ p, Fi p → A p
  la : ∀ p, La p → A p
  fw : ∀ p q, A p → fo p q → A q
  acc : ∀ w, w ≠ [] → (Lang e w ↔ ∃ p q, Fi p ∧ La q ∧ Run le fo p w q)
theorem Ok.same {e : Rx} {le le' : Nat → Int} {fo fo' : Nat → Nat → Prop} {A Fi La : Nat → Prop} (h : Ok e le fo A Fi La) (hl : ∀ p, A p → le' p = le p) (hf : ∀ p q, A p → (fo' p q ↔ fo p q)) : Ok e le' fo' A Fi La :=
  ⟨h.fi, h.la, fun p q hp hq => h.fw p q hp ((hf p q hp).mp hq), fun w hw => (h.acc w hw).trans ⟨fun ⟨p, q, h1, h2, h3⟩ => ⟨p, q, h1, h2, h3.same h.fw hl (fun p q hp => (hf p q hp).mpr) (h.fi p h1)⟩,
    fun ⟨p, q, h1, h2, h3⟩ => ⟨p, q, h1, h2, h3.same (A := A) (fun p q hp hq => h.fw p q hp ((hf p q hp).mp hq)) (fun p hp => (hl p hp).symm) (fun p q hp => (hf p q hp).mp) (h.fi p h1)⟩⟩⟩
theorem ok_lt (c : Int) (le : Nat → Int) (fo : Nat → Nat → Prop) (k : Nat) (hc : le k = c) (hf : ∀ q, ¬ fo k q) : Ok (.lt c) le fo (fun p => p = k) (fun p => p = k) (fun p => p = k) :=
  ⟨fun _ h => h, fun _ h => h, fun p q hp hq => by subst hp; exact absurd hq (hf q), fun w hw => by
    constructor
    · intro h
      have h : w = [c] := h
      subst h
      subst hc
      exact ⟨k, k, rfl, rfl, .one⟩
    · rintro ⟨p, q, rfl, rfl, h⟩
      cases h with
      | one => show _ = _; rw [hc]
      | cons h1 _ => exact absurd h1 (hf _)⟩
theorem ok_none {e : Rx} (he : ∀ w, w ≠ [] → ¬ Lang e w) (le : Nat → Int) (fo : Nat → Nat → Prop) : Ok e le fo (fun _ => False) (fun _ => False) (fun _ => False) :=
  ⟨fun _ h => h, fun _ h => h, fun _ _ h _ => h, fun w hw => ⟨fun h => absurd h (he w hw), fun ⟨_, _, h, _⟩ => h.elim⟩⟩
theorem ok_alt {a b : Rx} {le : Nat → Int} {fo : Nat → Nat → Prop} {A B Fa La Fb Lb : Nat → Prop} (ha : Ok a le fo A Fa La) (hb : Ok b le fo B Fb Lb) (hd : ∀ p, A p → B p → False) :
    Ok (.alt a b) le fo (fun p => A p ∨ B p) (fun p => Fa p ∨ Fb p) (fun p => La p ∨ Lb p) :=
  ⟨fun p h => h.elim (fun h => .inl (ha.fi p h)) fun h => .inr (hb.fi p h), fun p h => h.elim (fun h => .inl (ha.la p h)) fun h => .inr (hb.la p h),
    fun p q hp hq => hp.elim (fun h => .inl (ha.fw p q h hq)) fun h => .inr (hb.fw p q h hq), fun w hw => by
    constructor
    · rintro (h | h)
      · obtain ⟨p, q, h1, h2, h3⟩ := (ha.acc w hw).mp h
        exact ⟨p, q, .inl h1, .inl h2, h3⟩
      · obtain ⟨p, q, h1, h2, h3⟩ := (hb.acc w hw).mp h
        exact ⟨p, q, .inr h1, .inr h2, h3⟩
    · rintro ⟨p, q, h1, h2, h3⟩
      rcases h1 with h1 | h1
      · have hq := h3.inside ha.fw (ha.fi p h1)
        rcases h2 with h2 | h2
        · exact .inl ((ha.acc w hw).mpr ⟨p, q, h1, h2, h3⟩)
        · exact (hd q hq (hb.la q h2)).elim
      · have hq := h3.inside hb.fw (hb.fi p h1)
        rcases h2 with h2 | h2
        · exact (hd q (ha.la q h2) hq).elim
        · exact .inr ((hb.acc w hw).mpr ⟨p, q, h1, h2, h3⟩)⟩
/-- joined: from a's last places to b's first ones -/
theorem ok_join {a b : Rx} {le : Nat → Int} {fo fo' : Nat → Nat → Prop} {A B Fa La Fb Lb : Nat → Prop} (ha : Ok a le fo A Fa La) (hb : Ok b le fo B Fb Lb) (hd : ∀ p, A p → B p → False)
    (hf : ∀ p q, A p ∨ B p → (fo' p q ↔ fo p q ∨ (La p ∧ Fb q))) :
    Ok (.join a b) le fo' (fun p => A p ∨ B p) (fun p => Fa p ∨ (nul a = true ∧ Fb p)) (fun p => Lb p ∨ (nul b = true ∧ La p)) := by
  have fB : ∀ p q, B p → (fo' p q ↔ fo p q) := fun p q hp => (hf p q (.inr hp)).trans ⟨fun h => h.elim id fun h => (hd p (ha.la p h.1) hp).elim, .inl⟩
  have rB : ∀ {p q w}, B p → (Run le fo' p w q ↔ Run le fo p w q) := fun {p q w} hp =>
    ⟨fun r => r.same (A := B) (fun p q hp hq => hb.fw p q hp ((fB p q hp).mp hq)) (fun _ _ => rfl) (fun p q hp => (fB p q hp).mp) hp, fun r => r.same hb.fw (fun _ _ => rfl) (fun p q hp => (fB p q hp).mpr) hp⟩
  have rA : ∀ {p q w}, A p → Run le fo p w q → Run le fo' p w q := fun {p q w} hp r => r.same ha.fw (fun _ _ => rfl) (fun p q hp h => (hf p q (.inl hp)).mpr (.inl h)) hp
  have cr : ∀ {p q w}, A p → Run le fo' p w q → (A q ∧ Run le fo p w q) ∨ ∃ u v x y, w = u ++ v ∧ Run le fo p u x ∧ La x ∧ Fb y ∧ Run le fo y v q := by
    intro p q w hp r
    induction r with
    | one => exact .inl ⟨hp, .one⟩
    | @cons p p' q w h1 h2 ih =>
      rcases (hf p p' (.inl hp)).mp h1 with h | ⟨h3, h4⟩
      · rcases ih (ha.fw p p' hp h) with ⟨h5, h6⟩ | ⟨u, v, x, y, rfl, h5, h6, h7, h8⟩
        · exact .inl ⟨h5, .cons h h6⟩
        · exact .inr ⟨le p :: u, v, x, y, rfl, .cons h h5, h6, h7, h8⟩
      · exact .inr ⟨[le p], w, p, p', rfl, .one, h3, h4, (rB (hb.fi p' h4)).mp h2⟩
  refine ⟨fun p h => h.elim (fun h => .inl (ha.fi p h)) fun h => .inr (hb.fi p h.2), fun p h => h.elim (fun h => .inr (hb.la p h)) fun h => .inl (ha.la p h.2), fun p q hp hq => ?_, fun w hw => ?_⟩
  · rcases (hf p q hp).mp hq with h | h
    · exact hp.elim (fun hp => .inl (ha.fw p q hp h)) fun hp => .inr (hb.fw p q hp h)
    · exact .inr (hb.fi q h.2)
  · constructor
    · rintro ⟨u, v, rfl, h1, h2⟩
      by_cases hu : u = []
      · subst hu
        rw [List.nil_append] at hw ⊢
        obtain ⟨p, q, q1, q2, q3⟩ := (hb.acc v hw).mp h2
        exact ⟨p, q, .inr ⟨(nul_iff a).mpr h1, q1⟩, .inl q2, (rB (hb.fi p q1)).mpr q3⟩
      · obtain ⟨p, x, p1, p2, p3⟩ := (ha.acc u hu).mp h1
        by_cases hv : v = []
        · subst hv
          rw [List.append_nil]
          exact ⟨p, x, .inl p1, .inr ⟨(nul_iff b).mpr h2, p2⟩, rA (ha.fi p p1) p3⟩
        · obtain ⟨y, q, q1, q2, q3⟩ := (hb.acc v hv).mp h2
          exact ⟨p, q, .inl p1, .inl q2, (rA (ha.fi p p1) p3).app ((hf x y (.inl (ha.la x p2))).mpr (.inr ⟨p2, q1⟩)) ((rB (hb.fi y q1)).mpr q3)⟩
    · rintro ⟨p, q, h1, h2, h3⟩
      rcases h1 with h1 | ⟨hn, h1⟩
      · rcases cr (ha.fi p h1) h3 with ⟨hq, r⟩ | ⟨u, v, x, y, rfl, r1, r2, r3, r4⟩
        · rcases h2 with h2 | ⟨hm, h2⟩
          · exact (hd q hq (hb.la q h2)).elim
          · exact ⟨w, [], by rw [List.append_nil], (ha.acc w hw).mpr ⟨p, q, h1, h2, r⟩, (nul_iff b).mp hm⟩
        · have hq := r4.inside hb.fw (hb.fi y r3)
          rcases h2 with h2 | ⟨_, h2⟩
          · exact ⟨u, v, rfl, (ha.acc u r1.ne).mpr ⟨p, x, h1, r2, r1⟩, (hb.acc v r4.ne).mpr ⟨y, q, r3, h2, r4⟩⟩
          · exact (hd q (ha.la q h2) hq).elim
      · have r := (rB (hb.fi p h1)).mp h3
        have hq := r.inside hb.fw (hb.fi p h1)
        rcases h2 with h2 | ⟨_, h2⟩
        · exact ⟨[], w, rfl, (nul_iff a).mp hn, (hb.acc w hw).mpr ⟨p, q, h1, h2, r⟩⟩
        · exact (hd q (ha.la q h2) hq).elim
theorem ok_star {a : Rx} {le : Nat → Int} {fo fo' : Nat → Nat → Prop} {A Fa La : Nat → Prop} (ha : Ok a le fo A Fa La) (hf : ∀ p q, A p → (fo' p q ↔ fo p q ∨ (La p ∧ Fa q))) : Ok (.star a) le fo' A Fa La := by
  have rA : ∀ {p q w}, A p → Run le fo p w q → Run le fo' p w q := fun {p q w} hp r => r.same ha.fw (fun _ _ => rfl) (fun p q hp h => (hf p q hp).mpr (.inl h)) hp
  have cr : ∀ {p q w}, A p → Run le fo' p w q → La q → ∃ u v x, w = u ++ v ∧ Run le fo p u x ∧ La x ∧ Star (Lang a) v := by
    intro p q w hp r hq
    induction r with
    | @one p => exact ⟨[le p], [], p, rfl, .one, hq, .nil⟩
    | @cons p p' q w h1 h2 ih =>
      rcases (hf p p' hp).mp h1 with h | ⟨h3, h4⟩
      · obtain ⟨u, v, x, rfl, q1, q2, q3⟩ := ih (ha.fw p p' hp h) hq
        exact ⟨le p :: u, v, x, rfl, .cons h q1, q2, q3⟩
      · obtain ⟨u, v, x, rfl, q1, q2, q3⟩ := ih (ha.fi p' h4) hq
        exact ⟨[le p], u ++ v, p, rfl, .one, h3, .cons ((ha.acc u q1.ne).mpr ⟨p', x, h4, q2, q1⟩) q3⟩
  refine ⟨ha.fi, ha.la, fun p q hp hq => ((hf p q hp).mp hq).elim (ha.fw p q hp) fun h => ha.fi q h.2, fun w hw => ?_⟩
  constructor
  · intro h
    have hp : Plus (Lang a) w := (plus_iff hw).mp h
    clear hw h
    induction hp with
    | one h1 h2 =>
      obtain ⟨p, q, q1, q2, q3⟩ := (ha.acc _ h2).mp h1
      exact ⟨p, q, q1, q2, rA (ha.fi p q1) q3⟩
    | cons h1 h2 _ ih =>
      obtain ⟨p, x, q1, q2, q3⟩ := (ha.acc _ h2).mp h1
      obtain ⟨y, q, p1, p2, p3⟩ := ih
      exact ⟨p, q, q1, p2, (rA (ha.fi p q1) q3).app ((hf x y (ha.la x q2)).mpr (.inr ⟨q2, p1⟩)) p3⟩
  · rintro ⟨p, q, h1, h2, h3⟩
    obtain ⟨u, v, x, rfl, q1, q2, q3⟩ := cr (ha.fi p h1) h3 h2
    exact .cons ((ha.acc u q1.ne).mpr ⟨p, x, h1, q2, q1⟩) q3
end P71
set_option maxHeartbeats 4000000
namespace P71
abbrev leF (le : List Int) : Nat → Int := fun p => le.getD p 0
abbrev foF (fo : List (List Nat)) : Nat → Nat → Prop := fun p q => q ∈ fo.getD p []
/-! links -/
def link1 (fo : List (List Nat)) (l f : Nat) : List (List Nat) := if f ∈ fo.getD l [] then fo else fo.set l (fo.getD l [] ++ [f])
def linkF (fo : List (List Nat)) (l : Nat) (fs : List Nat) : List (List Nat) := fs.foldl (fun fo f => link1 fo l f) fo
def link (fo : List (List Nat)) (ls fs : List Nat) : List (List Nat) := ls.foldl (fun fo l => linkF fo l fs) fo
theorem link1_len (fo : List (List Nat)) (l f : Nat) : (link1 fo l f).length = fo.length := by unfold link1; split <;> simp
theorem link1_mem (fo : List (List Nat)) (l f : Nat) (hl : l < fo.length) (p q : Nat) : q ∈ (link1 fo l f).getD p [] ↔ q ∈ fo.getD p [] ∨ (p = l ∧ q = f) := by
  unfold link1
  split
  · rename_i h
    constructor
    · exact .inl
    · rintro (h1 | ⟨rfl, rfl⟩)
      · exact h1
      · exact h
  · by_cases hp : p = l
    · subst hp
      have e : (fo.set p (fo.getD p [] ++ [f])).getD p [] = fo.getD p [] ++ [f] := by
        rw [List.getD_eq_getElem?_getD, List.getElem?_set_self hl]; rfl
      rw [e]
      simp
    · have e : (fo.set l (fo.getD l [] ++ [f])).getD p [] = fo.getD p [] := by
        rw [List.getD_eq_getElem?_getD, List.getElem?_set_ne (fun q => hp q.symm), ← List.getD_eq_getElem?_getD]
      rw [e]
      simp [hp]
theorem linkF_spec (l : Nat) : ∀ (fs : List Nat) (fo : List (List Nat)), l < fo.length → (linkF fo l fs).length = fo.length ∧ ∀ p q, q ∈ (linkF fo l fs).getD p [] ↔ q ∈ fo.getD p [] ∨ (p = l ∧ q ∈ fs)
  | [], fo, _ => ⟨rfl, fun p q => by simp [linkF]⟩
  | f :: fs, fo, hl => by
    obtain ⟨h1, h2⟩ := linkF_spec l fs (link1 fo l f) (by rw [link1_len]; exact hl)
    refine ⟨h1.trans (link1_len _ _ _), fun p q => ?_⟩
    have : linkF fo l (f :: fs) = linkF (link1 fo l f) l fs := rfl
    rw [this, h2, link1_mem fo l f hl]
    simp only [List.mem_cons]
    constructor
    · rintro ((h | ⟨h, h'⟩) | ⟨h, h'⟩)
      · exact .inl h
      · exact .inr ⟨h, .inl h'⟩
      · exact .inr ⟨h, .inr h'⟩
    · rintro (h | ⟨h, h' | h'⟩)
      · exact .inl (.inl h)
      · exact .inl (.inr ⟨h, h'⟩)
      · exact .inr ⟨h, h'⟩
theorem link_spec (fs : List Nat) : ∀ (ls : List Nat) (fo : List (List Nat)), (∀ l ∈ ls, l < fo.length) → (link fo ls fs).length = fo.length ∧ ∀ p q, q ∈ (link fo ls fs).getD p [] ↔ q ∈ fo.getD p [] ∨ (p ∈ ls ∧ q ∈ fs)
  | [], fo, _ => ⟨rfl, fun p q => by simp [link]⟩
  | l :: ls, fo, h => by
    obtain ⟨a1, a2⟩ := linkF_spec l fs fo (h l List.mem_cons_self)
    obtain ⟨h1, h2⟩ := link_spec fs ls (linkF fo l fs) (fun x hx => by rw [a1]; exact h x (List.mem_cons_of_mem _ hx))
    refine ⟨h1.trans a1, fun p q => ?_⟩
    have : link fo (l :: ls) fs = link (linkF fo l fs) ls fs := rfl
    rw [this, h2, a2]
    simp only [List.mem_cons]
    constructor
    · rintro ((h | ⟨h, h'⟩) | ⟨h, h'⟩)
      · exact .inl h
      · exact .inr ⟨.inl h, h'⟩
      · exact .inr ⟨.inr h, h'⟩
    · rintro (h | ⟨h | h, h'⟩)
      · exact .inl (.inl h)
      · exact .inl (.inr ⟨h, h'⟩)
      · exact .inr ⟨h, h'⟩
/-! the places of an expression -/
abbrev Sta := List Int × List (List Nat)
def addF : Rx → Sta → (List Nat × List Nat) × Sta
  | .non, s => (([], []), s)
  | .emp, s => (([], []), s)
  | .lt c, s => (([s.1.length], [s.1.length]), (s.1 ++ [c], s.2 ++ [[]]))
  | .star a, s => ((addF a s).1, ((addF a s).2.1, link (addF a s).2.2 (addF a s).1.2 (addF a s).1.1))
  | .alt a b, s => (((addF a s).1.1 ++ (addF b (addF a s).2).1.1, (addF a s).1.2 ++ (addF b (addF a s).2).1.2), (addF b (addF a s).2).2)
  | .join a b, s => ((if nul a then (addF a s).1.1 ++ (addF b (addF a s).2).1.1 else (addF a s).1.1, if nul b then (addF b (addF a s).2).1.2 ++ (addF a s).1.2 else (addF b (addF a s).2).1.2),
      ((addF b (addF a s).2).2.1, link (addF b (addF a s).2).2.2 (addF a s).1.2 (addF b (addF a s).2).1.1))
structure AddOk (e : Rx) (s : Sta) : Prop where
  len : (addF e s).2.1.length = (addF e s).2.2.length
  ge : s.1.length ≤ (addF e s).2.1.length
  le : ∀ p, p < s.1.length → leF (addF e s).2.1 p = leF s.1 p
  fo : ∀ p q, p < s.1.length → (foF (addF e s).2.2 p q ↔ foF s.2 p q)
  ok : Ok e (leF (addF e s).2.1) (foF (addF e s).2.2) (fun p => s.1.length ≤ p ∧ p < (addF e s).2.1.length) (fun p => p ∈ (addF e s).1.1) (fun p => p ∈ (addF e s).1.2)
theorem Ok.cast {e : Rx} {le : Nat → Int} {fo : Nat → Nat → Prop} {A A' Fi Fi' La La' : Nat → Prop} (h : Ok e le fo A Fi La) (hA : ∀ p, A p → A' p) (hA2 : ∀ p q, A' p → fo p q → A' q) (hF : ∀ p, Fi' p ↔ Fi p) (hL : ∀ p, La' p ↔ La p) : Ok e le fo A' Fi' La' :=
  ⟨fun p hp => hA p (h.fi p ((hF p).mp hp)), fun p hp => hA p (h.la p ((hL p).mp hp)), hA2, fun w hw => (h.acc w hw).trans ⟨fun ⟨p, q, h1, h2, h3⟩ => ⟨p, q, (hF p).mpr h1, (hL q).mpr h2, h3⟩, fun ⟨p, q, h1, h2, h3⟩ => ⟨p, q, (hF p).mp h1, (hL q).mp h2, h3⟩⟩⟩
theorem add_ok : ∀ (e : Rx) (s : Sta), s.1.length = s.2.length → AddOk e s
  | .non, s, h => ⟨h, Nat.le_refl _, fun _ _ => rfl, fun _ _ _ => Iff.rfl, (ok_none (e := .non) (fun w _ h => h) _ _).cast (fun p h => h.elim) (fun p q ⟨h1, h2⟩ _ => by simp [addF] at h2; omega) (by simp [addF]) (by simp [addF])⟩
  | .emp, s, h => ⟨h, Nat.le_refl _, fun _ _ => rfl, fun _ _ _ => Iff.rfl, (ok_none (e := .emp) (fun w hw h => hw h) _ _).cast (fun p h => h.elim) (fun p q ⟨h1, h2⟩ _ => by simp [addF] at h2; omega) (by simp [addF]) (by simp [addF])⟩
  | .lt c, s, h => by
    have hf : ∀ q, ¬ foF (s.2 ++ [[]]) s.1.length q := fun q hq => by
      have : (s.2 ++ [[]]).getD s.1.length [] = ([] : List Nat) := by
        rw [List.getD_eq_getElem?_getD, h, List.getElem?_append_right (Nat.le_refl _)]; simp
      rw [foF, this] at hq; simp at hq
    refine ⟨by simp [addF, h], by simp [addF], fun p hp => ?_, fun p q hp => ?_, ?_⟩
    · show (s.1 ++ [c]).getD p 0 = s.1.getD p 0
      rw [List.getD_eq_getElem?_getD, List.getElem?_append_left hp, ← List.getD_eq_getElem?_getD]
    · show q ∈ (s.2 ++ [[]]).getD p [] ↔ q ∈ s.2.getD p []
      rw [List.getD_eq_getElem?_getD, List.getElem?_append_left (by omega), ← List.getD_eq_getElem?_getD]
    · refine (ok_lt c (leF (s.1 ++ [c])) (foF (s.2 ++ [[]])) s.1.length ?_ hf).cast (fun p hp => ?_) (fun p q ⟨h1, h2⟩ hq => ?_) (by simp [addF]) (by simp [addF])
      · show (s.1 ++ [c]).getD s.1.length 0 = c
        rw [List.getD_eq_getElem?_getD, List.getElem?_append_right (Nat.le_refl _)]; simp
      · subst hp; simp [addF]
      · have : p = s.1.length := by simp [addF] at h2; omega
        subst this
        exact absurd hq (hf q)
  | .star a, s, h => by
    have ih := add_ok a s h
    have hL : ∀ l ∈ (addF a s).1.2, l < (addF a s).2.2.length := fun l hl => by rw [← ih.len]; exact (ih.ok.la l hl).2
    obtain ⟨l1, l2⟩ := link_spec (addF a s).1.1 (addF a s).1.2 (addF a s).2.2 hL
    refine ⟨ih.len.trans l1.symm, ih.ge, ih.le, fun p q hp => ?_, ?_⟩
    · refine (l2 p q).trans ⟨fun z => z.elim (ih.fo p q hp).mp fun z => ?_, fun z => .inl ((ih.fo p q hp).mpr z)⟩
      have := (ih.ok.la p z.1).1
      omega
    · exact ok_star ih.ok fun p q _ => l2 p q
  | .alt a b, s, h => by
    have ha := add_ok a s h
    have hb := add_ok b (addF a s).2 ha.len
    refine ⟨hb.len, Nat.le_trans ha.ge hb.ge, fun p hp => (hb.le p (Nat.lt_of_lt_of_le hp ha.ge)).trans (ha.le p hp), fun p q hp => (hb.fo p q (Nat.lt_of_lt_of_le hp ha.ge)).trans (ha.fo p q hp), ?_⟩
    have ha' := ha.ok.same (le' := leF (addF b (addF a s).2).2.1) (fo' := foF (addF b (addF a s).2).2.2) (fun p hp => hb.le p hp.2) (fun p q hp => hb.fo p q hp.2)
    refine (ok_alt ha' hb.ok fun p h1 h2 => by omega).cast (fun p hp => ?_) (fun p q hp hq => ?_) (fun p => ?_) (fun p => ?_)
    · have := ha.ge
      have := hb.ge
      show s.1.length ≤ p ∧ p < (addF b (addF a s).2).2.1.length
      omega
    · have hp : s.1.length ≤ p ∧ p < (addF b (addF a s).2).2.1.length := hp
      show s.1.length ≤ q ∧ q < (addF b (addF a s).2).2.1.length
      by_cases hc : p < (addF a s).2.1.length
      · have := ha'.fw p q ⟨hp.1, hc⟩ hq
        have := hb.ge
        omega
      · have := hb.ok.fw p q ⟨by omega, hp.2⟩ hq
        have := ha.ge
        omega
    · exact List.mem_append
    · exact List.mem_append
  | .join a b, s, h => by
    have ha := add_ok a s h
    have hb := add_ok b (addF a s).2 ha.len
    have hL : ∀ l ∈ (addF a s).1.2, l < (addF b (addF a s).2).2.2.length := fun l hl => by
      rw [← hb.len]; exact Nat.lt_of_lt_of_le (ha.ok.la l hl).2 hb.ge
    obtain ⟨l1, l2⟩ := link_spec (addF b (addF a s).2).1.1 (addF a s).1.2 (addF b (addF a s).2).2.2 hL
    have ha' := ha.ok.same (le' := leF (addF b (addF a s).2).2.1) (fo' := foF (addF b (addF a s).2).2.2) (fun p hp => hb.le p hp.2) (fun p q hp => hb.fo p q hp.2)
    refine ⟨hb.len.trans l1.symm, Nat.le_trans ha.ge hb.ge, fun p hp => (hb.le p (Nat.lt_of_lt_of_le hp ha.ge)).trans (ha.le p hp), fun p q hp => ?_, ?_⟩
    · refine (l2 p q).trans ⟨fun z => z.elim (fun z => (ha.fo p q hp).mp ((hb.fo p q (Nat.lt_of_lt_of_le hp ha.ge)).mp z)) fun z => ?_, fun z => .inl ((hb.fo p q (Nat.lt_of_lt_of_le hp ha.ge)).mpr ((ha.fo p q hp).mpr z))⟩
      have := (ha.ok.la p z.1).1
      omega
    · have key := ok_join (fo' := foF (link (addF b (addF a s).2).2.2 (addF a s).1.2 (addF b (addF a s).2).1.1)) ha' hb.ok (fun p h1 h2 => by omega) fun p q _ => l2 p q
      refine key.cast (fun p hp => ?_) (fun p q hp hq => ?_) (fun p => ?_) (fun p => ?_)
      · have := ha.ge
        have := hb.ge
        show s.1.length ≤ p ∧ p < (addF b (addF a s).2).2.1.length
        omega
      · have hp : s.1.length ≤ p ∧ p < (addF b (addF a s).2).2.1.length := hp
        show s.1.length ≤ q ∧ q < (addF b (addF a s).2).2.1.length
        have h3 := ha.ge
        have h4 := hb.ge
        have := key.fw p q (by omega) hq
        omega
      · show p ∈ (if nul a = true then _ else _) ↔ _
        split
        · rename_i hn; simp [List.mem_append, hn]
        · rename_i hn; simp [hn]
      · show p ∈ (if nul b = true then _ else _) ↔ _
        split
        · rename_i hn; simp [List.mem_append, hn]
        · rename_i hn; simp [hn]
/-! the word walked -/
theorem run_step {le : Nat → Int} {fo : Nat → Nat → Prop} {Fi : Nat → Prop} {u : List Int} {c : Int} {q : Nat} (hu : u ≠ []) : (∃ p, Fi p ∧ Run le fo p (u ++ [c]) q) ↔ ∃ x, (∃ p, Fi p ∧ Run le fo p u x) ∧ fo x q ∧ le q = c := by
  constructor
  · rintro ⟨p, hp, r⟩
    obtain ⟨x, h1, h2, h3⟩ := r.snoc hu
    exact ⟨x, ⟨p, hp, h1⟩, h2, h3⟩
  · rintro ⟨x, ⟨p, hp, h1⟩, h2, rfl⟩
    exact ⟨p, hp, h1.app h2 .one⟩
theorem run_one {le : Nat → Int} {fo : Nat → Nat → Prop} {Fi : Nat → Prop} {c : Int} {q : Nat} : (∃ p, Fi p ∧ Run le fo p [c] q) ↔ Fi q ∧ le q = c := by
  constructor
  · rintro ⟨p, hp, r⟩
    generalize e : [c] = w at r
    cases r with
    | one => exact ⟨hp, (List.cons.inj e).1.symm⟩
    | cons _ h => exact absurd (List.cons.inj e).2.symm h.ne
  · rintro ⟨h, rfl⟩
    exact ⟨q, h, .one⟩
end P71
set_option maxHeartbeats 4000000
namespace P71
/-- each list tells places once, all of them there -/
def Fok (fo : List (List Nat)) : Prop := ∀ ks ∈ fo, ks.Nodup ∧ ∀ k ∈ ks, k < fo.length
theorem nodup_len : ∀ (t : Nat) (ks : List Nat), ks.Nodup → (∀ k ∈ ks, k < t) → ks.length ≤ t
  | 0, ks, _, hk => by
    cases ks with
    | nil => exact Nat.le_refl _
    | cons k _ => exact absurd (hk k List.mem_cons_self) (Nat.not_lt_zero _)
  | t + 1, ks, hn, hk => by
    have h1 := nodup_len t (ks.erase t) (hn.erase t) fun k hk2 => by
      have h2 := hk k (List.mem_of_mem_erase hk2)
      have h3 : k ≠ t := fun q => by
        subst q
        exact hn.not_mem_erase hk2
      omega
    have h2 : ks.length ≤ (ks.erase t).length + 1 := by
      rw [List.length_erase]; split <;> omega
    omega
theorem Fok.len {fo : List (List Nat)} (h : Fok fo) {p : Nat} (hp : p < fo.length) : (fo.getD p []).length ≤ fo.length := by
  have e : fo.getD p [] = fo[p] := by rw [List.getD_eq_getElem?_getD, List.getElem?_eq_getElem hp]; rfl
  rw [e]
  obtain ⟨h1, h2⟩ := h _ (List.getElem_mem hp)
  exact nodup_len _ _ h1 h2
theorem Fok.link1 {fo : List (List Nat)} (h : Fok fo) {l f : Nat} (hl : l < fo.length) (hf : f < fo.length) : Fok (link1 fo l f) := by
  unfold P71.link1
  split
  · exact h
  · rename_i hn
    intro ks hks
    rw [List.length_set]
    rcases List.mem_or_eq_of_mem_set hks with hm | rfl
    · exact h ks hm
    · have e : fo.getD l [] = fo[l] := by rw [List.getD_eq_getElem?_getD, List.getElem?_eq_getElem hl]; rfl
      obtain ⟨h1, h2⟩ := h _ (List.getElem_mem hl)
      rw [← e] at h1 h2
      refine ⟨List.nodup_append.mpr ⟨h1, by simp, fun a ha b hb hab => ?_⟩, fun k hk => ?_⟩
      · rw [List.mem_singleton.mp hb] at hab
        exact hn (hab ▸ ha)
      · rcases List.mem_append.mp hk with hk | hk
        · exact h2 k hk
        · rw [List.mem_singleton.mp hk]; exact hf
theorem Fok.linkF : ∀ (fs : List Nat) {fo : List (List Nat)} {l : Nat}, Fok fo → l < fo.length → (∀ k ∈ fs, k < fo.length) → Fok (linkF fo l fs)
  | [], _, _, h, _, _ => h
  | f :: fs, fo, l, h, hl, hf => by
    have h1 := h.link1 hl (hf f List.mem_cons_self)
    exact Fok.linkF fs h1 (by rw [link1_len]; exact hl) (fun k hk => by rw [link1_len]; exact hf k (List.mem_cons_of_mem _ hk))
end P71
set_option maxHeartbeats 4000000
namespace P71
/-! the places of an expression alone -/
abbrev plcs (e : Rx) : (List Nat × List Nat) × Sta := addF e ([], [])
theorem plcs_ok (e : Rx) : AddOk e ([], []) := add_ok e ([], []) rfl
abbrev pLe (e : Rx) : List Int := (plcs e).2.1
abbrev pFo (e : Rx) : List (List Nat) := (plcs e).2.2
abbrev pFi (e : Rx) : List Nat := (plcs e).1.1
abbrev pLa (e : Rx) : List Nat := (plcs e).1.2
/-- places behind a word -/
def Beh (e : Rx) (u : List Int) (q : Nat) : Prop := ∃ p, p ∈ pFi e ∧ Run (leF (pLe e)) (foF (pFo e)) p u q
theorem beh_lt {e : Rx} {u : List Int} {q : Nat} (h : Beh e u q) : q < (pLe e).length := by
  obtain ⟨p, hp, r⟩ := h
  have ok := (plcs_ok e).ok
  exact (r.inside ok.fw (ok.fi p hp)).2
theorem fi_lt {e : Rx} {p : Nat} (h : p ∈ pFi e) : p < (pLe e).length := ((plcs_ok e).ok.fi p h).2
theorem fo_lt {e : Rx} {p q : Nat} (hp : p < (pLe e).length) (h : q ∈ (pFo e).getD p []) : q < (pLe e).length := ((plcs_ok e).ok.fw p q ⟨Nat.zero_le _, hp⟩ h).2
theorem beh_one {e : Rx} {c : Int} {q : Nat} : Beh e [c] q ↔ q ∈ pFi e ∧ (pLe e).getD q 0 = c := run_one (Fi := fun p => p ∈ pFi e)
theorem beh_step {e : Rx} {u : List Int} {c : Int} {q : Nat} (hu : u ≠ []) : Beh e (u ++ [c]) q ↔ ∃ x, Beh e u x ∧ q ∈ (pFo e).getD x [] ∧ (pLe e).getD q 0 = c := run_step (Fi := fun p => p ∈ pFi e) hu
theorem lang_iff {e : Rx} {w : List Int} (hw : w ≠ []) : Lang e w ↔ ∃ q, Beh e w q ∧ q ∈ pLa e := by
  rw [(plcs_ok e).ok.acc w hw]
  constructor
  · rintro ⟨p, q, h1, h2, h3⟩
    exact ⟨q, ⟨p, h1, h3⟩, h2⟩
  · rintro ⟨q, ⟨p, h1, h3⟩, h2⟩
    exact ⟨p, q, h1, h2, h3⟩
end P71
set_option maxHeartbeats 4000000
namespace K71
open PySem PySem.Spec PyProof.Rows L2 Z
def top (i : Nat) : Stmt := PySem.Challenge.pw_reactivesynth_k71_matches.main.body.getD i (.Pass ⟨0, 0, 0, 0⟩)
abbrev FnP (K : PySem.W.Frag) (x q : Str) (st : Stmt) (f : Addr) (fd : FuncData) : Prop := FunD K x q (defArgs st) (defBody st) (defScope st) [] [] f fd
/-- the built-ins' names are free -/
structure Tx (mg : Str → Option Value) : Prop where
  len : mg "len" = none
  int : mg "int" = none
  str : mg "str" = none
  list : mg "list" = none
  tuple : mg "tuple" = none
  range : mg "range" = none
  max : mg "max" = none
  isinstance : mg "isinstance" = none
/-- whole numbers -/
abbrev zl (ds : List Int) : List VP := ds.map fun i => isI i
abbrev drs (p : Addr) (ds : List Int) : Addr × HP := (p, cL (zl ds))
theorem zl_get {ds : List Int} {i : Nat} (h : i < ds.length) : (zl ds)[i]? = some (isI ds[i]) := by simp [h]
theorem zl_last {ds : List Int} (h : ds ≠ []) : ∃ d, (zl ds)[(zl ds).length - 1]? = some (isI d) := by
  have hl : ds.length - 1 < ds.length := by
    have := List.length_pos_iff.mpr h
    omega
  exact ⟨ds[ds.length - 1], by simp [hl]⟩
theorem zl_dropLast (ds : List Int) : (zl ds).dropLast = zl ds.dropLast := by
  simp [List.dropLast_eq_take, List.map_take]
theorem zl_app (ds : List Int) (d : Int) : zl ds ++ [isI d] = zl (ds ++ [d]) := by simp
theorem zl_set (ds : List Int) (i : Nat) (d : Int) : (zl ds).set i (isI d) = zl (ds.set i d) := by simp [List.map_set]
theorem zl_rev (ds : List Int) : (zl ds).reverse = zl ds.reverse := by simp
section
variable {P : Program} {w : World} {K : PySem.W.Frag} {mg : Str → Option Value} {base : Heap} {f : Addr} {fd : FuncData}
abbrev s_law_draws : Stmt := top 4
theorem sc_law_draws : FnScope ["_law_script", "_law_count", "_law_cells", "_law_found", "_law_mixed", "_law_k", "_law_j", "_law_cell", "_law_again"] ["_law_script", "_law_count"] (defScope s_law_draws) := ⟨rfl, rfl, rfl, by decide +kernel, rfl, by decide +kernel, by decide +kernel⟩
def pDraws (K : PySem.W.Frag) : Pr {a : List Int × Int // 0 ≤ a.2 ∧ a.2 < 1000} where
  args a := [lstG K (zl a.1.1), isI a.1.2]
  post a R Ts := ∃ p ds, R = isR p ∧ Ts = [drs p ds]
theorem ok_draws (F : FnP K "_law_draws" "_law_draws" s_law_draws f fd) (T : Tx mg) : FnOk P w K mg base (L2.CX P w) 1 f fd ["_law_script", "_law_count"] (Prom (pDraws K)) := by
  refine def_ok F sc_law_draws (fun a => rfl) fun a e cdv A outer s H E hr => ?_
  obtain ⟨⟨zs, n⟩, hn0, hn1⟩ := a
  refine bl_cons ?_
  refine sx_asg 2 ?_  -- _law_cells
  refine ev_ct T.list bt_list ?_
  refine ea_cons ?_
  refine ev_var 0 rfl ?_  -- _law_script
  refine ea_nil ?_
  refine list_L (.l isL_lstG) fun p0 => ?_
  refine bl_cut (fun Γ' Ts' => ∃ p cs R, cs ≠ [] ∧ Γ' = [some (lstG K (zl zs)), some (isI n), some (isR p), none, none, none, none, none, none] ∧ Ts' = drs p cs :: R) ?_ ?_
  · refine sx_if ?_
    refine et_cmp ?_
    refine ev_cb T.len bt_len ?_
    refine ea_cons ?_
    refine ev_var 2 rfl ?_  -- _law_cells
    refine ea_nil ?_
    refine len_L (.o 0 rfl) ?_
    refine ev_int ?_  -- 0
    refine oz_eqI ?_
    refine ⟨_, rfl, ?_⟩  -- test
    refine ⟨fun hc => ?_, fun hc => ?_⟩  -- if
    ·
      refine bl_one ?_
      refine sx_asg 2 ?_  -- _law_cells
      refine ev_lst ?_
      refine ea_cons ?_
      refine ev_int ?_  -- 7
      refine ea_nil ?_
      refine ⟨by decide, fun p26 => ?_⟩  -- length
      exact ⟨p26, [7], [drs p0 zs], by simp, rfl, rfl⟩
    ·
      refine bl_nil ?_
      exact ⟨p0, zs, [], by rintro rfl; simp at hc, rfl, rfl⟩
  rintro _ _ ⟨p, cs, R, hcs, rfl, rfl⟩
  refine bl_cons ?_
  refine sx_asg 3 ?_  -- _law_found
  refine ev_lst ?_
  refine ea_nil ?_
  refine ⟨by decide, fun q => ?_⟩  -- length
  refine bl_cons ?_
  refine sx_asg 4 ?_  -- _law_mixed
  refine ev_int ?_  -- 12345
  refine bl_cons ?_
  refine sx_for rfl ?_
  refine ei_range1 T.range ?_
  refine ev_var 1 rfl ?_  -- _law_count
  refine ⟨_, rfl, by omega, by omega, ?_⟩
  refine ⟨fun i Γ' Ts' => ∃ (m : Int) (cs fs : List Int) (x5 x6 x7 x8 : Option VP), 0 ≤ m ∧ m < 2147483647 ∧ cs ≠ [] ∧ fs.length = i ∧ Γ' = [some (lstG K (zl zs)), some (isI n), some (isR p), some (isR q), some (isI m), x5, x6, x7, x8] ∧ Ts' = drs q fs :: drs p cs :: R, ⟨12345, cs, [], none, none, none, none, by omega, by omega, hcs, rfl, rfl, rfl⟩, fun _ _ _ _ _ => trivial, ?_, ?_⟩  -- for
  ·
    rintro i R' _ _ hi rfl ⟨m, cs, fs, x5, x6, x7, x8, hm0, hm1, hcs, hfs, rfl, rfl⟩
    have hi2 : i < 1000 := by omega
    have hlen : 0 < cs.length := List.length_pos_iff.mpr hcs
    refine tg_name 5 ?_  -- _law_k
    refine bl_cons ?_
    refine sx_asg 6 ?_  -- _law_j
    refine ev_bin ?_
    refine ev_var 5 rfl ?_  -- _law_k
    refine ev_cb T.len bt_len ?_
    refine ea_cons ?_
    refine ev_var 2 rfl ?_  -- _law_cells
    refine ea_nil ?_
    refine len_L (.o 1 rfl) ?_
    rw [List.length_map]
    refine oz_mod (by omega) ?_
    have hj0 : (0 : Int) ≤ (0 + (i : Int)) % (cs.length : Int) := Int.emod_nonneg _ (by omega)
    have hj1 : (0 + (i : Int)) % (cs.length : Int) < cs.length := Int.emod_lt_of_pos _ (by omega)
    generalize (0 + (i : Int)) % (cs.length : Int) = j at hj0 hj1
    have hjn : j.toNat < cs.length := by omega
    refine bl_cons ?_
    refine sx_asg 7 ?_  -- _law_cell_here
    refine ev_ix ?_
    refine ev_var 2 rfl ?_  -- _law_cells
    refine ev_var 6 rfl ?_  -- _law_j
    refine ix_L (.o 1 rfl) (atI_ofNat hj0 (zl_get hjn)) ?_
    generalize cs[j.toNat] = c
    refine bl_cons ?_
    refine sx_asg 4 ?_  -- _law_mixed
    refine ev_bin ?_
    refine ev_ct T.int bt_int ?_
    refine ea_cons ?_
    refine ev_bin ?_
    refine ev_bin ?_
    refine ev_bin ?_
    refine ev_bin ?_
    refine ev_var 4 rfl ?_  -- _law_mixed
    refine ev_int ?_  -- 48271
    refine oz_mul (.inr (by decide)) ?_
    refine ev_bin ?_
    refine ev_bin ?_
    refine ev_ct T.int bt_int ?_
    refine ea_cons ?_
    refine ev_var 7 rfl ?_  -- _law_cell_here
    refine ea_nil ?_
    refine int_I ?_  -- built-in int
    refine ev_int ?_  -- 1000003
    refine oz_mod (by decide) ?_
    refine ev_int ?_  -- 69621
    refine oz_mul (.inr (by decide)) ?_
    refine oz_add ?_
    refine ev_bin ?_
    refine ev_var 5 rfl ?_  -- _law_k
    refine ev_int ?_  -- 7919
    refine oz_mul (.inr (by decide)) ?_
    refine oz_add ?_
    refine ev_int ?_  -- 11
    refine oz_add ?_
    refine ea_nil ?_
    refine int_I ?_  -- built-in int
    refine ev_int ?_  -- 2147483647
    refine oz_mod (by decide) ?_
    have hm0' := Int.emod_nonneg (m * 48271 + c % 1000003 * 69621 + (0 + (i : Int)) * 7919 + 11) (by decide : (2147483647 : Int) ≠ 0)
    have hm1' := Int.emod_lt_of_pos (m * 48271 + c % 1000003 * 69621 + (0 + (i : Int)) * 7919 + 11) (by decide : (0 : Int) < 2147483647)
    generalize (m * 48271 + c % 1000003 * 69621 + (0 + (i : Int)) * 7919 + 11) % 2147483647 = m2 at hm0' hm1'
    refine bl_cons ?_
    refine sx_asg 8 ?_  -- _law_again
    refine ev_bin ?_
    refine ev_ct T.int bt_int ?_
    refine ea_cons ?_
    refine ev_bin ?_
    refine ev_bin ?_
    refine ev_bin ?_
    refine ev_var 4 rfl ?_  -- _law_mixed
    refine ev_var 4 rfl ?_  -- _law_mixed
    refine oz_mul (.inr (by omega)) ?_
    refine ev_bin ?_
    refine ev_int ?_  -- 31
    refine ev_var 4 rfl ?_  -- _law_mixed
    refine oz_mul (.inl (by decide)) ?_
    refine oz_add ?_
    refine ev_var 5 rfl ?_  -- _law_k
    refine oz_add ?_
    refine ea_nil ?_
    refine int_I ?_  -- built-in int
    refine ev_int ?_  -- 1000003
    refine oz_mod (by decide) ?_
    refine bl_one ?_
    refine sx_if ?_
    refine et_cmp ?_
    refine ev_var 7 rfl ?_  -- _law_cell_here
    refine ev_bin ?_
    refine ev_int ?_  -- 10
    refine ev_int ?_  -- 18
    refine oz_pow ⟨by decide, by decide, by decide⟩ ?_
    refine oz_ge ?_
    refine ⟨_, rfl, ?_⟩  -- test
    refine ⟨fun hc => ?_, fun hc => ?_⟩  -- if
    ·
      refine bl_cons ?_
      refine sx_expr ?_
      refine ev_bm ?_
      refine ev_var 3 rfl ?_  -- _law_found
      refine ⟨_, _, bm_append, ty_L (.o 0 rfl), ?_⟩
      refine ea_cons ?_
      refine ev_bin ?_
      refine ev_ct T.int bt_int ?_
      refine ea_cons ?_
      refine ev_var 7 rfl ?_  -- _law_cell_here
      refine ea_nil ?_
      refine int_I ?_  -- built-in int
      refine ev_int ?_  -- 1000
      refine oz_mod (by decide) ?_
      refine ea_nil ?_
      refine mt_app 0 rfl (by rw [List.length_map]; show _ < 16777216; omega) ?_
      refine bl_one ?_
      refine sx_asgT ?_
      refine ev_bin ?_
      refine ev_var 7 rfl ?_  -- _law_cell_here
      refine ev_int ?_  -- 1000
      refine oz_fdiv ⟨by decide, by decide⟩ ?_
      refine tg_subL ?_
      refine ev_var 2 rfl ?_  -- _law_cells
      refine ⟨_, rfl, ?_⟩
      refine ev_var 6 rfl ?_  -- _law_j
      refine ⟨_, 1, _, j.toNat, rfl, rfl, by rw [List.length_map]; unfold ixN; rw [if_pos hj0, if_pos hj1], ?_⟩
      exact ⟨m2, cs.set j.toNat (c / 1000), fs ++ [c % 1000], _, _, _, _, hm0', hm1', by simpa using hcs, by simp [hfs], rfl, by
        show (q, cL (zl fs ++ [isI _])) :: (p, cL ((zl cs).set _ (isI _))) :: R = _
        rw [zl_app, zl_set]⟩
    ·
      refine bl_one ?_
      refine sx_expr ?_
      refine ev_bm ?_
      refine ev_var 3 rfl ?_  -- _law_found
      refine ⟨_, _, bm_append, ty_L (.o 0 rfl), ?_⟩
      refine ea_cons ?_
      refine ev_bin ?_
      refine ev_ct T.int bt_int ?_
      refine ea_cons ?_
      refine ev_var 8 rfl ?_  -- _law_again
      refine ea_nil ?_
      refine int_I ?_  -- built-in int
      refine ev_int ?_  -- 1000
      refine oz_mod (by decide) ?_
      refine ea_nil ?_
      refine mt_app 0 rfl (by rw [List.length_map]; show _ < 16777216; omega) ?_
      exact ⟨m2, cs, fs ++ [_], _, _, _, _, hm0', hm1', hcs, by simp [hfs], rfl, by
        show (q, cL (zl fs ++ [isI _])) :: (p, cL (zl cs)) :: R = _
        rw [zl_app]⟩
  rintro _ _ ⟨m, cs, fs, x5, x6, x7, x8, hm0, hm1, hcs, hfs, rfl, rfl⟩
  refine bl_cons ?_
  refine sx_expr ?_
  refine ev_bm0 ?_
  refine ev_var 3 rfl ?_  -- _law_found
  refine ⟨_, _, bm_reverse, ty_L (.o 0 rfl), ?_⟩
  refine mt_rev 0 rfl ?_
  refine bl_sub (Ts' := [(q, cL (zl fs).reverse)]) (.cons₂ _ (List.nil_sublist _)) ?_
  refine bl_one ?_
  refine sx_ret ?_
  refine ev_var 3 rfl ?_  -- _law_found
  exact ⟨q, fs.reverse, rfl, by rw [zl_rev]⟩
abbrev s_law_take : Stmt := top 5
theorem sc_law_take : FnScope ["_law_draws_here", "_law_limit"] ["_law_draws_here", "_law_limit"] (defScope s_law_take) := ⟨rfl, rfl, rfl, by decide +kernel, rfl, by decide +kernel, by decide +kernel⟩
def pTake : Pr {a : Addr × List Int × Int // 0 < a.2.2} where
  args a := [isR a.1.1, isI a.1.2.2]
  own a := [drs a.1.1 a.1.2.1]
  post a R Ts := ∃ v ds', R = isI v ∧ 0 ≤ v ∧ v < a.1.2.2 ∧ Ts = [drs a.1.1 ds']
theorem ok_take (F : FnP K "_law_take" "_law_take" s_law_take f fd) (T : Tx mg) : FnOk P w K mg base (L2.CX P w) 1 f fd ["_law_draws_here", "_law_limit"] (Prom pTake) := by
  refine def_ok F sc_law_take (fun a => rfl) fun a e cdv A outer s H E hr => ?_
  obtain ⟨⟨p, ds, n⟩, hn⟩ := a
  have hn : 0 < n := hn
  refine bl_cons ?_
  refine sx_if ?_
  refine et_cmp ?_
  refine ev_cb T.len bt_len ?_
  refine ea_cons ?_
  refine ev_var 0 rfl ?_  -- _law_draws_here
  refine ea_nil ?_
  refine len_L (.o 0 rfl) ?_  -- built-in len
  refine ev_int ?_  -- 0
  refine oz_eqI ?_
  refine ⟨_, rfl, ?_⟩  -- test
  refine ⟨fun hc => ?_, fun hc => ?_⟩  -- if
  ·
    refine bl_one ?_
    refine sx_ret ?_
    refine ev_int ?_  -- 0
    exact ⟨0, ds, rfl, by omega, hn, rfl⟩
  ·
    have hne : ds ≠ [] := by rintro rfl; simp at hc
    obtain ⟨d, hd⟩ := zl_last hne
    refine bl_nil ?_
    refine bl_one ?_
    refine sx_ret ?_
    refine ev_bin ?_
    refine ev_ct T.int bt_int ?_
    refine ea_cons ?_
    refine ev_bm0 ?_
    refine ev_var 0 rfl ?_  -- _law_draws_here
    refine ⟨_, _, bm_pop, ty_L (.o 0 rfl), ?_⟩
    refine mt_popL 0 rfl hd ?_
    refine ea_nil ?_
    refine int_I ?_
    refine ev_var 1 rfl ?_
    refine oz_mod hn ⟨_, ds.dropLast, rfl, Int.emod_nonneg _ (Int.ne_of_gt hn), Int.emod_lt_of_pos _ hn, ?_⟩
    show [(p, cL (zl ds).dropLast)] = _
    rw [zl_dropLast]
/-- the call -/
theorem take_z {X : Cx} {e : En} {Γ : List (Option VP)} {Ts : Ow} {p : Addr} {ds : List Int} {n : Int} {Φ : VP → Ow → Prop} {Ψ : XP} (k : Nat) (hk : Ts[k]? = some (drs p ds)) (hn : 0 < n) (h : ∀ v ds', 0 ≤ v → v < n → Φ (isI v) (drs p ds' :: Ts.eraseIdx k)) : CallZ X e Γ [] pTake [isR p, isI n] Ts Φ Ψ :=
  ⟨⟨(p, ds, n), hn⟩, Ts.eraseIdx k, Ent.refl _, by
    have := (front_perm (A' := cL (zl ds)) hk).symm
    rw [set_same hk] at this
    exact this, fun P Ts' ⟨v, ds', e1, h0, h1, e2⟩ => by
    subst e1; subst e2
    exact h v ds' h0 h1, fun _ _ _ z => z.elim⟩
end
end K71
set_option maxHeartbeats 4000000
namespace K71
open PySem PySem.Spec PyProof.Rows L2 Z P71
def exP (K : PySem.W.Frag) : Rx → VP
  | .non => tup K [isS "none"]
  | .emp => tup K [isS "empty"]
  | .lt c => tup K [isS "letter", isI c]
  | .star a => tup K [isS "star", exP K a]
  | .join a b => tup K [isS "join", exP K a, exP K b]
  | .alt a b => tup K [isS "either", exP K a, exP K b]
def dep : Rx → Nat
  | .non => 0
  | .emp => 0
  | .lt _ => 0
  | .star a => dep a + 1
  | .join a b => max (dep a) (dep b) + 1
  | .alt a b => max (dep a) (dep b) + 1
section
variable {P : Program} {w : World} {K : PySem.W.Frag} {mg : Str → Option Value} {base : Heap} {f : Addr} {fd : FuncData}
theorem bl_imp {X : Cx} {e : En} {Γ : List (Option VP)} {Δ : List VP} {Ts : Ow} {body : List Stmt} {K1 K2 : Post} (h : Bl X e Γ Δ Ts body K1) (h1 : ∀ Γ Ts, K1.nx Γ Ts → K2.nx Γ Ts) (h2 : ∀ P Ts, K1.rt P Ts → K2.rt P Ts) (h3 : ∀ Γ Ts, K1.bk Γ Ts → K2.bk Γ Ts) (h4 : ∀ Γ Ts, K1.ct Γ Ts → K2.ct Γ Ts) (h5 : ∀ c d Γ Ts, K1.ex c d Γ Ts → K2.ex c d Γ Ts) : Bl X e Γ Δ Ts body K2 :=
  fun σ vs H W D s ok en => h σ vs H W D s ok ⟨fun Γ' Ts' σ' H' q s' => en.nx _ _ _ _ (h1 _ _ q) s', fun P Ts' v H' q s' => en.rt _ _ _ _ (h2 _ _ q) s', fun Γ' Ts' σ' H' q s' => en.bk _ _ _ _ (h3 _ _ q) s', fun Γ' Ts' σ' H' q s' => en.ct _ _ _ _ (h4 _ _ q) s', fun c d Γ' Ts' σ' H' q s' => en.ex _ _ _ _ _ _ (h5 _ _ _ _ q) s'⟩
abbrev s_law_expression : Stmt := top 6
theorem sc_law_expression : FnScope ["_law_draws_here", "_law_letters", "_law_deep", "_law_choice", "_law_left"] ["_law_draws_here", "_law_letters", "_law_deep"] (defScope s_law_expression) := ⟨rfl, rfl, rfl, by decide +kernel, rfl, by decide +kernel, by decide +kernel⟩
def pExpr (K : PySem.W.Frag) (d : Nat) : Pr {a : Addr × List Int × Int // 0 < a.2.2} where
  args a := [isR a.1.1, isI a.1.2.2, isI (d : Int)]
  own a := [drs a.1.1 a.1.2.1]
  post a R Ts := ∃ e ds', R = exP K e ∧ dep e ≤ d ∧ Bel a.1.2.2 e ∧ Ts = [drs a.1.1 ds']
theorem ok_expr_step (d : Nat) (F : FnP K "_law_expression" "_law_expression" s_law_expression f fd) (T : Tx mg) (Tk : Fz P w K mg base 1 "_law_take" [] pTake) (Rec : ∀ d', d = d' + 1 → Fz P w K mg base (d' + 2) "_law_expression" [] (pExpr K d')) :
    FnOk P w K mg base (L2.CX P w) (d + 2) f fd ["_law_draws_here", "_law_letters", "_law_deep"] (Prom (pExpr K d)) := by
  refine def_ok F sc_law_expression (fun a => rfl) fun a e cdv A outer s H E hr => ?_
  obtain ⟨⟨p, ds, ls⟩, hls⟩ := a
  have hls : 0 < ls := hls
  show Bl _ _ [some (isR p), some (isI ls), some (isI (d : Int)), none, none] [] [drs p ds] _ _
  refine bl_cons ?_
  refine sx_asg 3 ?_  -- _law_choice
  refine ev_call Tk (hr.mono (by omega)) ?_
  refine ea_cons ?_
  refine ev_var 0 rfl ?_  -- _law_draws_here
  refine ea_cons ?_
  refine ev_int ?_  -- 12
  refine ea_nil ?_
  refine take_z 0 rfl (by decide) fun ch ds hch0 hch1 => ?_
  have hleaf : ∀ ds, Bl (cxOf (L2.CX P w) P w K mg base ["_law_draws_here", "_law_letters", "_law_deep", "_law_choice", "_law_left"] "_law_expression" (defScope s_law_expression) f cdv A outer s H E) e [some (isR p), some (isI ls), some (isI (d : Int)), some (isI ch), none] [] [drs p ds] (match (defBody s_law_expression).getD 1 (.Pass ⟨0, 0, 0, 0⟩) with
      | .If _ b _ _ => b
      | _ => []) { nx := fun Γ' Ts' => False, rt := (pExpr K d).post ⟨(p, ds, ls), hls⟩, ex := fun cls d' _ Ts' => False } := by
    intro ds
    refine bl_cons ?_
    refine sx_if ?_
    refine et_cmp ?_
    refine ev_var 3 rfl ?_  -- _law_choice
    refine ev_int ?_  -- 0
    refine oz_eqI ?_
    refine ⟨_, rfl, ?_⟩  -- test
    refine ⟨fun hc => ?_, fun hc => ?_⟩  -- if
    ·
      refine bl_one ?_
      refine sx_ret ?_
      refine ev_sub ?_
      refine ev_tup ?_
      refine ea_cons ?_
      refine ev_ix ?_
      refine ev_lst ?_
      refine ea_cons ?_
      refine ev_str ?_  -- 'none'
      refine ea_cons ?_
      refine ev_str ?_  -- 'empty'
      refine ea_nil ?_
      refine ⟨Nat.le_of_ble_eq_true rfl, fun q => ?_⟩  -- length
      refine ev_call Tk (hr.mono (by omega)) ?_
      refine ea_cons ?_
      refine ev_var 0 rfl ?_  -- _law_draws_here
      refine ea_cons ?_
      refine ev_int ?_  -- 2
      refine ea_nil ?_
      refine take_z 1 rfl (by decide) fun v ds hv0 hv1 => ?_
      have hv : v = 0 ∨ v = 1 := by omega
      rcases hv with rfl | rfl
      · refine ix_L (.o 1 rfl) (atI_ofNat (by decide) rfl) ?_  -- ix_L | ix_T | ix_S
        refine ea_nil ?_
        refine ⟨Nat.le_of_ble_eq_true rfl, ?_⟩  -- length
        exact ⟨[drs p ds], .cons_cons _ (List.nil_sublist _), .non, ds, rfl, Nat.zero_le _, trivial, rfl⟩
      · refine ix_L (.o 1 rfl) (atI_ofNat (by decide) rfl) ?_  -- ix_L | ix_T | ix_S
        refine ea_nil ?_
        refine ⟨Nat.le_of_ble_eq_true rfl, ?_⟩  -- length
        exact ⟨[drs p ds], .cons_cons _ (List.nil_sublist _), .emp, ds, rfl, Nat.zero_le _, trivial, rfl⟩
    ·
      refine bl_nil ?_
      refine bl_one ?_
      refine sx_ret ?_
      refine ev_tup ?_
      refine ea_cons ?_
      refine ev_str ?_  -- 'letter'
      refine ea_cons ?_
      refine ev_call Tk (hr.mono (by omega)) ?_
      refine ea_cons ?_
      refine ev_var 0 rfl ?_  -- _law_draws_here
      refine ea_cons ?_
      refine ev_var 1 rfl ?_  -- _law_letters
      refine ea_nil ?_
      refine take_z 0 rfl hls fun c ds hc0 hc1 => ?_
      refine ea_nil ?_
      refine ⟨Nat.le_of_ble_eq_true rfl, ?_⟩  -- length
      exact ⟨.lt c, ds, rfl, Nat.zero_le _, hc1, rfl⟩
  refine bl_cons ?_
  refine sx_if ?_
  refine et_bool ?_
  refine ew_or ?_
  refine et_cmp ?_
  refine ev_var 2 rfl ?_  -- _law_deep
  refine ev_int ?_  -- 0
  refine oz_eqI ?_
  refine ⟨_, rfl, ?_⟩  -- test
  refine ⟨fun hb0 => ⟨fun _ => ?_, fun q => (nomatch q)⟩, fun hb0 => ?_⟩  -- or
  · exact bl_imp (hleaf ds) (fun _ _ q => q.elim) (fun _ _ q => q) (fun _ _ q => q.elim) (fun _ _ q => q.elim) (fun _ _ _ _ q => q.elim)
  have hd0 := of_decide_eq_false hb0
  obtain ⟨d', rfl⟩ : ∃ d', d = d' + 1 := ⟨d - 1, by omega⟩
  have Rc := Rec d' rfl
  have edd : ((d' + 1 : Nat) : Int) - 1 = (d' : Int) := by omega
  refine ew_or1 ?_
  refine et_cmp ?_
  refine ev_var 3 rfl ?_  -- _law_choice
  refine ev_int ?_  -- 3
  refine oz_lt ?_
  refine ⟨_, rfl, ?_⟩  -- test
  refine ⟨fun hc => ?_, fun hc => ?_⟩  -- if
  · exact bl_imp (hleaf ds) (fun _ _ q => q.elim) (fun _ _ q => q) (fun _ _ q => q.elim) (fun _ _ q => q.elim) (fun _ _ _ _ q => q.elim)
  refine bl_nil ?_
  refine bl_cons ?_
  refine sx_if ?_
  refine et_cmp ?_
  refine ev_var 3 rfl ?_  -- _law_choice
  refine ev_int ?_  -- 6
  refine oz_lt ?_
  refine ⟨_, rfl, ?_⟩  -- test
  refine ⟨fun hc => ?_, fun hc => ?_⟩  -- if
  ·
    refine bl_one ?_
    refine sx_ret ?_
    refine ev_tup ?_
    refine ea_cons ?_
    refine ev_str ?_  -- 'star'
    refine ea_cons ?_
    refine ev_call Rc hr ?_
    refine ea_cons ?_
    refine ev_var 0 rfl ?_  -- _law_draws_here
    refine ea_cons ?_
    refine ev_var 1 rfl ?_  -- _law_letters
    refine ea_cons ?_
    refine ev_bin ?_
    refine ev_var 2 rfl ?_  -- _law_deep
    refine ev_int ?_  -- 1
    refine oz_sub ?_
    rw [edd]
    refine ea_nil ?_
    refine ⟨⟨(p, ds, ls), hls⟩, _, Ent.refl _, .refl _, fun R Ts' hp => ?_, fun _ _ _ z => z.elim⟩  -- call _law_expression
    obtain ⟨a, ds, rfl, ha1, ha2, rfl⟩ := hp
    refine ea_nil ?_
    refine ⟨Nat.le_of_ble_eq_true rfl, ?_⟩  -- length
    exact ⟨.star a, ds, rfl, Nat.succ_le_succ ha1, ha2, rfl⟩
  refine bl_nil ?_
  refine bl_cons ?_
  refine sx_asg 4 ?_  -- _law_left
  refine ev_call Rc hr ?_
  refine ea_cons ?_
  refine ev_var 0 rfl ?_  -- _law_draws_here
  refine ea_cons ?_
  refine ev_var 1 rfl ?_  -- _law_letters
  refine ea_cons ?_
  refine ev_bin ?_
  refine ev_var 2 rfl ?_  -- _law_deep
  refine ev_int ?_  -- 1
  refine oz_sub ?_
  rw [edd]
  refine ea_nil ?_
  refine ⟨⟨(p, ds, ls), hls⟩, _, Ent.refl _, .refl _, fun R Ts' hp => ?_, fun _ _ _ z => z.elim⟩  -- call _law_expression
  obtain ⟨a, ds, rfl, ha1, ha2, rfl⟩ := hp
  refine bl_one ?_
  refine sx_ret ?_
  refine ev_sub ?_
  refine ev_tup ?_
  refine ea_cons ?_
  refine ev_ix ?_
  refine ev_lst ?_
  refine ea_cons ?_
  refine ev_str ?_  -- 'join'
  refine ea_cons ?_
  refine ev_str ?_  -- 'either'
  refine ea_nil ?_
  refine ⟨Nat.le_of_ble_eq_true rfl, fun q => ?_⟩  -- length
  refine ev_bin ?_
  refine ev_var 3 rfl ?_  -- _law_choice
  refine ev_int ?_  -- 2
  refine oz_mod (by decide) ?_
  have hv : ch % 2 = 0 ∨ ch % 2 = 1 := by omega
  generalize ch % 2 = v at hv
  have hrest : ∀ (b : Rx), dep b ≤ d' → Bel ls b → dep (.join a b) ≤ d' + 1 ∧ dep (.alt a b) ≤ d' + 1 ∧ Bel ls (.join a b) ∧ Bel ls (.alt a b) := fun b h1 h2 =>
    ⟨Nat.succ_le_succ (Nat.max_le.mpr ⟨ha1, h1⟩), Nat.succ_le_succ (Nat.max_le.mpr ⟨ha1, h1⟩), ⟨ha2, h2⟩, ⟨ha2, h2⟩⟩
  rcases hv with rfl | rfl
  · refine ix_L (.o 0 rfl) (atI_ofNat (by decide) rfl) ?_  -- ix_L | ix_T | ix_S
    refine ea_cons ?_
    refine ev_var 4 rfl ?_  -- _law_left
    refine ea_cons ?_
    refine ev_call Rc hr ?_
    refine ea_cons ?_
    refine ev_var 0 rfl ?_  -- _law_draws_here
    refine ea_cons ?_
    refine ev_var 1 rfl ?_  -- _law_letters
    refine ea_cons ?_
    refine ev_bin ?_
    refine ev_var 2 rfl ?_  -- _law_deep
    refine ev_int ?_  -- 1
    refine oz_sub ?_
    rw [edd]
    refine ea_nil ?_
    refine ⟨⟨(p, ds, ls), hls⟩, _, Ent.refl _, (front_same (k := 1) rfl).symm, fun R Ts' hp => ?_, fun _ _ _ z => z.elim⟩  -- call _law_expression
    obtain ⟨b, ds, rfl, hb1, hb2, rfl⟩ := hp
    refine ea_nil ?_
    refine ⟨Nat.le_of_ble_eq_true rfl, ?_⟩  -- length
    obtain ⟨h1, h2, h3, h4⟩ := hrest b hb1 hb2
    exact ⟨[drs p ds], .cons_cons _ (List.nil_sublist _), .join a b, ds, rfl, h1, h3, rfl⟩
  · refine ix_L (.o 0 rfl) (atI_ofNat (by decide) rfl) ?_  -- ix_L | ix_T | ix_S
    refine ea_cons ?_
    refine ev_var 4 rfl ?_  -- _law_left
    refine ea_cons ?_
    refine ev_call Rc hr ?_
    refine ea_cons ?_
    refine ev_var 0 rfl ?_  -- _law_draws_here
    refine ea_cons ?_
    refine ev_var 1 rfl ?_  -- _law_letters
    refine ea_cons ?_
    refine ev_bin ?_
    refine ev_var 2 rfl ?_  -- _law_deep
    refine ev_int ?_  -- 1
    refine oz_sub ?_
    rw [edd]
    refine ea_nil ?_
    refine ⟨⟨(p, ds, ls), hls⟩, _, Ent.refl _, (front_same (k := 1) rfl).symm, fun R Ts' hp => ?_, fun _ _ _ z => z.elim⟩  -- call _law_expression
    obtain ⟨b, ds, rfl, hb1, hb2, rfl⟩ := hp
    refine ea_nil ?_
    refine ⟨Nat.le_of_ble_eq_true rfl, ?_⟩  -- length
    obtain ⟨h1, h2, h3, h4⟩ := hrest b hb1 hb2
    exact ⟨[drs p ds], .cons_cons _ (List.nil_sublist _), .alt a b, ds, rfl, h2, h4, rfl⟩
end
end K71
set_option maxHeartbeats 4000000
namespace K71
open PySem PySem.Spec PyProof.Rows L2 Z P71
section
variable {P : Program} {w : World} {K : PySem.W.Frag} {mg : Str → Option Value} {base : Heap} {f : Addr} {fd : FuncData}
abbrev s_law_nullable : Stmt := top 7
theorem sc_law_nullable : FnScope ["_law_expression_here"] ["_law_expression_here"] (defScope s_law_nullable) := ⟨rfl, rfl, rfl, by decide +kernel, rfl, by decide +kernel, by decide +kernel⟩
def pNul (K : PySem.W.Frag) (d : Nat) : Pr {e : Rx // dep e ≤ d} where
  args e := [exP K e.1]
  post e R Ts := R = isB (nul e.1) ∧ Ts = []
theorem nul_z {X : Cx} {e : En} {Γ : List (Option VP)} {Ts : Ow} {d : Nat} {a : Rx} {Φ : VP → Ow → Prop} {Ψ : XP} (ha : dep a ≤ d) (h : Φ (isB (nul a)) Ts) : CallZ X e Γ [] (pNul X.K d) [exP X.K a] Ts Φ Ψ :=
  ⟨⟨a, ha⟩, Ts, Ent.refl _, .refl _, fun P Ts' ⟨e2, e3⟩ => by
    subst e2; subst e3
    exact h, fun cls d Ts' q => q.elim⟩
theorem ok_nul_step (d : Nat) (F : FnP K "_law_nullable" "_law_nullable" s_law_nullable f fd) (Rec : ∀ d', d = d' + 1 → Fz P w K mg base (d' + 1) "_law_nullable" [] (pNul K d')) :
    FnOk P w K mg base (L2.CX P w) (d + 1) f fd ["_law_expression_here"] (Prom (pNul K d)) := by
  refine def_ok F sc_law_nullable (fun a => rfl) fun a e cdv A outer s H E hr => ?_
  obtain ⟨ex, hd⟩ := a
  have hd : dep ex ≤ d := hd
  cases ex with
  | non =>
    show Bl _ _ [some (tup K [isS "none"])] [] [] _ _
    refine bl_cons ?_
    refine sx_if ?_
    refine et_cmp ?_
    refine ev_ix ?_
    refine ev_var 0 rfl ?_
    refine ev_int ?_
    refine ix_T (atI_ofNat (by decide) rfl) ?_
    refine ev_tup ?_
    refine ea_cons ?_
    refine ev_str ?_
    refine ea_cons ?_
    refine ev_str ?_
    refine ea_nil ?_
    refine ⟨Nat.le_of_ble_eq_true rfl, ?_⟩
    refine oz_inT (xs := [V.str "empty", V.str "star"]) rfl rfl ?_
    rw [show inV (V.str "none") [V.str "empty", V.str "star"] = false by decide +kernel]
    refine ⟨_, rfl, ?_⟩
    refine ⟨fun q => (nomatch q), fun _ => ?_⟩
    refine bl_nil ?_
    refine bl_cons ?_
    refine sx_if ?_
    refine et_cmp ?_
    refine ev_ix ?_
    refine ev_var 0 rfl ?_
    refine ev_int ?_
    refine ix_T (atI_ofNat (by decide) rfl) ?_
    refine ev_str ?_
    refine oz_eqS ?_
    rw [show decide (("none" : Str) = ("join" : Str)) = false by decide +kernel]
    refine ⟨_, rfl, ?_⟩
    refine ⟨fun q => (nomatch q), fun _ => ?_⟩
    refine bl_nil ?_
    refine bl_one ?_
    refine sx_ret ?_
    refine ev_and ?_
    refine ev_cmp ?_
    refine ev_ix ?_
    refine ev_var 0 rfl ?_
    refine ev_int ?_
    refine ix_T (atI_ofNat (by decide) rfl) ?_
    refine ev_str ?_
    refine oz_eqS ?_
    rw [show decide (("none" : Str) = ("either" : Str)) = false by decide +kernel]
    exact ⟨_, rfl, fun q => (nomatch q), fun _ => ⟨rfl, rfl⟩⟩
  | emp =>
    show Bl _ _ [some (tup K [isS "empty"])] [] [] _ _
    refine bl_cons ?_
    refine sx_if ?_
    refine et_cmp ?_
    refine ev_ix ?_
    refine ev_var 0 rfl ?_
    refine ev_int ?_
    refine ix_T (atI_ofNat (by decide) rfl) ?_
    refine ev_tup ?_
    refine ea_cons ?_
    refine ev_str ?_
    refine ea_cons ?_
    refine ev_str ?_
    refine ea_nil ?_
    refine ⟨Nat.le_of_ble_eq_true rfl, ?_⟩
    refine oz_inT (xs := [V.str "empty", V.str "star"]) rfl rfl ?_
    rw [show inV (V.str "empty") [V.str "empty", V.str "star"] = true by decide +kernel]
    refine ⟨_, rfl, ?_⟩
    refine ⟨fun _ => ?_, fun q => (nomatch q)⟩
    refine bl_one ?_
    refine sx_ret ?_
    refine ev_bl ?_
    exact ⟨rfl, rfl⟩
  | lt c =>
    show Bl _ _ [some (tup K [isS "letter", isI c])] [] [] _ _
    refine bl_cons ?_
    refine sx_if ?_
    refine et_cmp ?_
    refine ev_ix ?_
    refine ev_var 0 rfl ?_
    refine ev_int ?_
    refine ix_T (atI_ofNat (by decide) rfl) ?_
    refine ev_tup ?_
    refine ea_cons ?_
    refine ev_str ?_
    refine ea_cons ?_
    refine ev_str ?_
    refine ea_nil ?_
    refine ⟨Nat.le_of_ble_eq_true rfl, ?_⟩
    refine oz_inT (xs := [V.str "empty", V.str "star"]) rfl rfl ?_
    rw [show inV (V.str "letter") [V.str "empty", V.str "star"] = false by decide +kernel]
    refine ⟨_, rfl, ?_⟩
    refine ⟨fun q => (nomatch q), fun _ => ?_⟩
    refine bl_nil ?_
    refine bl_cons ?_
    refine sx_if ?_
    refine et_cmp ?_
    refine ev_ix ?_
    refine ev_var 0 rfl ?_
    refine ev_int ?_
    refine ix_T (atI_ofNat (by decide) rfl) ?_
    refine ev_str ?_
    refine oz_eqS ?_
    rw [show decide (("letter" : Str) = ("join" : Str)) = false by decide +kernel]
    refine ⟨_, rfl, ?_⟩
    refine ⟨fun q => (nomatch q), fun _ => ?_⟩
    refine bl_nil ?_
    refine bl_one ?_
    refine sx_ret ?_
    refine ev_and ?_
    refine ev_cmp ?_
    refine ev_ix ?_
    refine ev_var 0 rfl ?_
    refine ev_int ?_
    refine ix_T (atI_ofNat (by decide) rfl) ?_
    refine ev_str ?_
    refine oz_eqS ?_
    rw [show decide (("letter" : Str) = ("either" : Str)) = false by decide +kernel]
    exact ⟨_, rfl, fun q => (nomatch q), fun _ => ⟨rfl, rfl⟩⟩
  | star a =>
    show Bl _ _ [some (tup K [isS "star", exP K a])] [] [] _ _
    refine bl_cons ?_
    refine sx_if ?_
    refine et_cmp ?_
    refine ev_ix ?_
    refine ev_var 0 rfl ?_
    refine ev_int ?_
    refine ix_T (atI_ofNat (by decide) rfl) ?_
    refine ev_tup ?_
    refine ea_cons ?_
    refine ev_str ?_
    refine ea_cons ?_
    refine ev_str ?_
    refine ea_nil ?_
    refine ⟨Nat.le_of_ble_eq_true rfl, ?_⟩
    refine oz_inT (xs := [V.str "empty", V.str "star"]) rfl rfl ?_
    rw [show inV (V.str "star") [V.str "empty", V.str "star"] = true by decide +kernel]
    refine ⟨_, rfl, ?_⟩
    refine ⟨fun _ => ?_, fun q => (nomatch q)⟩
    refine bl_one ?_
    refine sx_ret ?_
    refine ev_bl ?_
    exact ⟨rfl, rfl⟩
  | join a b =>
    show Bl _ _ [some (tup K [isS "join", exP K a, exP K b])] [] [] _ _
    refine bl_cons ?_
    refine sx_if ?_
    refine et_cmp ?_
    refine ev_ix ?_
    refine ev_var 0 rfl ?_
    refine ev_int ?_
    refine ix_T (atI_ofNat (by decide) rfl) ?_
    refine ev_tup ?_
    refine ea_cons ?_
    refine ev_str ?_
    refine ea_cons ?_
    refine ev_str ?_
    refine ea_nil ?_
    refine ⟨Nat.le_of_ble_eq_true rfl, ?_⟩
    refine oz_inT (xs := [V.str "empty", V.str "star"]) rfl rfl ?_
    rw [show inV (V.str "join") [V.str "empty", V.str "star"] = false by decide +kernel]
    refine ⟨_, rfl, ?_⟩
    refine ⟨fun q => (nomatch q), fun _ => ?_⟩
    refine bl_nil ?_
    refine bl_cons ?_
    refine sx_if ?_
    refine et_cmp ?_
    refine ev_ix ?_
    refine ev_var 0 rfl ?_
    refine ev_int ?_
    refine ix_T (atI_ofNat (by decide) rfl) ?_
    refine ev_str ?_
    refine oz_eqS ?_
    rw [show decide (("join" : Str) = ("join" : Str)) = true by decide +kernel]
    refine ⟨_, rfl, ?_⟩
    refine ⟨fun _ => ?_, fun q => (nomatch q)⟩
    have hd2 : max (dep a) (dep b) + 1 ≤ d := hd
    have hda : dep a ≤ d - 1 := by have := Nat.le_max_left (dep a) (dep b); omega
    have hdb : dep b ≤ d - 1 := by have := Nat.le_max_right (dep a) (dep b); omega
    obtain ⟨d', rfl⟩ : ∃ d', d = d' + 1 := ⟨d - 1, by omega⟩
    have Rc := Rec d' rfl
    refine bl_one ?_
    refine sx_ret ?_
    refine ev_and ?_
    refine ev_call Rc hr ?_
    refine ea_cons ?_
    refine ev_ix ?_
    refine ev_var 0 rfl ?_
    refine ev_int ?_
    refine ix_T (atI_ofNat (by decide) rfl) ?_
    refine ea_nil ?_
    refine nul_z hda ?_
    refine ⟨_, rfl, fun hb0 => ?_, fun hb0 => ?_⟩
    rotate_left
    · exact ⟨by show _ = isB (nul a && nul b); rw [hb0]; rfl, rfl⟩
    refine ev_one ?_
    refine ev_call Rc hr ?_
    refine ea_cons ?_
    refine ev_ix ?_
    refine ev_var 0 rfl ?_
    refine ev_int ?_
    refine ix_T (atI_ofNat (by decide) rfl) ?_
    refine ea_nil ?_
    refine nul_z hdb ?_
    exact ⟨by show _ = isB (nul a && nul b); rw [hb0]; rfl, rfl⟩
  | alt a b =>
    show Bl _ _ [some (tup K [isS "either", exP K a, exP K b])] [] [] _ _
    refine bl_cons ?_
    refine sx_if ?_
    refine et_cmp ?_
    refine ev_ix ?_
    refine ev_var 0 rfl ?_
    refine ev_int ?_
    refine ix_T (atI_ofNat (by decide) rfl) ?_
    refine ev_tup ?_
    refine ea_cons ?_
    refine ev_str ?_
    refine ea_cons ?_
    refine ev_str ?_
    refine ea_nil ?_
    refine ⟨Nat.le_of_ble_eq_true rfl, ?_⟩
    refine oz_inT (xs := [V.str "empty", V.str "star"]) rfl rfl ?_
    rw [show inV (V.str "either") [V.str "empty", V.str "star"] = false by decide +kernel]
    refine ⟨_, rfl, ?_⟩
    refine ⟨fun q => (nomatch q), fun _ => ?_⟩
    refine bl_nil ?_
    refine bl_cons ?_
    refine sx_if ?_
    refine et_cmp ?_
    refine ev_ix ?_
    refine ev_var 0 rfl ?_
    refine ev_int ?_
    refine ix_T (atI_ofNat (by decide) rfl) ?_
    refine ev_str ?_
    refine oz_eqS ?_
    rw [show decide (("either" : Str) = ("join" : Str)) = false by decide +kernel]
    refine ⟨_, rfl, ?_⟩
    refine ⟨fun q => (nomatch q), fun _ => ?_⟩
    refine bl_nil ?_
    refine bl_one ?_
    refine sx_ret ?_
    refine ev_and ?_
    refine ev_cmp ?_
    refine ev_ix ?_
    refine ev_var 0 rfl ?_
    refine ev_int ?_
    refine ix_T (atI_ofNat (by decide) rfl) ?_
    refine ev_str ?_
    refine oz_eqS ?_
    rw [show decide (("either" : Str) = ("either" : Str)) = true by decide +kernel]
    refine ⟨_, rfl, fun _ => ?_, fun q => (nomatch q)⟩
    have hd2 : max (dep a) (dep b) + 1 ≤ d := hd
    have hda : dep a ≤ d - 1 := by have := Nat.le_max_left (dep a) (dep b); omega
    have hdb : dep b ≤ d - 1 := by have := Nat.le_max_right (dep a) (dep b); omega
    obtain ⟨d', rfl⟩ : ∃ d', d = d' + 1 := ⟨d - 1, by omega⟩
    have Rc := Rec d' rfl
    refine ev_one ?_
    refine ev_or ?_
    refine ev_call Rc hr ?_
    refine ea_cons ?_
    refine ev_ix ?_
    refine ev_var 0 rfl ?_
    refine ev_int ?_
    refine ix_T (atI_ofNat (by decide) rfl) ?_
    refine ea_nil ?_
    refine nul_z hda ?_
    refine ⟨_, rfl, fun hb0 => ?_, fun hb0 => ?_⟩
    · exact ⟨by show _ = isB (nul a || nul b); rw [hb0]; rfl, rfl⟩
    refine ev_one ?_
    refine ev_call Rc hr ?_
    refine ea_cons ?_
    refine ev_ix ?_
    refine ev_var 0 rfl ?_
    refine ev_int ?_
    refine ix_T (atI_ofNat (by decide) rfl) ?_
    refine ea_nil ?_
    refine nul_z hdb ?_
    exact ⟨by show _ = isB (nul a || nul b); rw [hb0]; rfl, rfl⟩
end
end K71
set_option maxHeartbeats 4000000
namespace K71
open PySem PySem.Spec PyProof.Rows L2 Z P71
/-- a row, a table of bools -/
abbrev rwL (N : Nat) (g : Nat → Bool) : List VP := (List.range N).map fun j => isB (g j)
abbrev mxL (N : Nat) (m : Mx) : List VP := (List.range N).map fun i => lst (rwL N (m i))
theorem rw_get {α : Type} {N i : Nat} {g : Nat → α} (h : i < N) : ((List.range N).map g)[i]? = some (g i) := by simp [h]
theorem rg_succ {α : Type} (n : Nat) (g : Nat → α) : (List.range n).map g ++ [g n] = (List.range (n + 1)).map g := by rw [List.range_succ, List.map_append]; rfl
section
variable {P : Program} {w : World} {K : PySem.W.Frag} {mg : Str → Option Value} {base : Heap} {f : Addr} {fd : FuncData}
abbrev s_law_composed : Stmt := top 8
theorem sc_law_composed : FnScope ["_law_first", "_law_second", "_law_found", "_law_row", "_law_after", "_law_k", "_law_j"] ["_law_first", "_law_second"] (defScope s_law_composed) := ⟨rfl, rfl, rfl, by decide +kernel, rfl, by decide +kernel, by decide +kernel⟩
def pComp : Pr {a : Nat × Mx × Mx // a.1 < 1000} where
  args a := [lst (mxL a.1.1 a.1.2.1), lst (mxL a.1.1 a.1.2.2)]
  post a R Ts := R = lst (mxL a.1.1 (comp a.1.1 a.1.2.1 a.1.2.2)) ∧ Ts = []
theorem ok_composed (F : FnP K "_law_composed" "_law_composed" s_law_composed f fd) (T : Tx mg) : FnOk P w K mg base (L2.CX P w) 1 f fd ["_law_first", "_law_second"] (Prom pComp) := by
  refine def_ok F sc_law_composed (fun a => rfl) fun a e cdv A outer s H E hr => ?_
  obtain ⟨⟨N, m1, m2⟩, hN⟩ := a
  have hN : N < 1000 := hN
  show Bl _ _ [some (lst (mxL N m1)), some (lst (mxL N m2)), none, none, none, none, none] [] [] _ _
  refine bl_cons ?_
  refine sx_asg 2 ?_  -- _law_found
  refine ev_lst ?_
  refine ea_nil ?_
  refine ⟨by decide, fun q => ?_⟩  -- length
  refine bl_cons ?_
  refine sx_for rfl ?_
  refine ei_val ?_
  refine ev_var 0 rfl ?_  -- _law_first
  refine wz_L (.l isL_lst) ?_  -- wz_L | wz_T
  refine ⟨fun i Γ' Ts' => ∃ x3 x4 x5 x6 : Option VP, i ≤ N ∧ Γ' = [some (lst (mxL N m1)), some (lst (mxL N m2)), some (isR q), x3, x4, x5, x6] ∧ Ts' = [(q, cL ((List.range i).map fun i => lst (rwL N (comp N m1 m2 i))))], ⟨none, none, none, none, by omega, rfl, rfl⟩, fun _ _ _ _ _ => .l isL_lst, ?_, ?_⟩  -- for
  ·
    rintro i R _ _ hi hR ⟨x3, x4, x5, x6, hi2, rfl, rfl⟩
    have hi' : i < N := by simpa using hi
    rw [rw_get hi'] at hR
    obtain rfl := Option.some.inj hR
    refine tg_name 3 ?_  -- _law_row
    refine bl_cons ?_
    refine sx_asg 4 ?_  -- _law_after
    refine ev_frz ?_
    refine ev_bin ?_
    refine ev_lst ?_
    refine ea_cons ?_
    refine ev_bl ?_  -- False
    refine ea_nil ?_
    refine ⟨Nat.le_of_ble_eq_true rfl, fun z => ?_⟩  -- length
    refine ev_cb T.len bt_len ?_
    refine ea_cons ?_
    refine ev_var 3 rfl ?_  -- _law_row
    refine ea_nil ?_
    refine len_L (.l isL_lst) ?_  -- built-in len
    rw [List.length_map, List.length_range]
    refine oz_rep (.o 0 rfl) (by omega) (by omega) (by show 1 * _ ≤ 16777216; omega) fun r => ?_
    refine ⟨r, 0, _, rfl, rfl, ?_⟩
    have e0 : (List.replicate (N : Int).toNat [isB false]).flatten = rwL N (fun j => (List.range 0).any fun k => m1 i k && m2 k j) := by
      rw [show (N : Int).toNat = N by omega]
      apply List.ext_getElem?
      intro j
      by_cases hj : j < N
      · simp [hj]
      · simp [hj]
    rw [e0]
    refine bl_sub (Ts' := [(q, cL ((List.range i).map fun i => lst (rwL N (comp N m1 m2 i))))]) (.cons _ (.refl _)) ?_
    refine bl_cons ?_
    refine sx_for rfl ?_
    refine ei_range1 T.range ?_
    refine ev_cb T.len bt_len ?_
    refine ea_cons ?_
    refine ev_var 3 rfl ?_  -- _law_row
    refine ea_nil ?_
    refine len_L (.l isL_lst) ?_  -- built-in len
    rw [List.length_map, List.length_range]
    refine ⟨_, rfl, by omega, by omega, ?_⟩
    refine ⟨fun t Γ' Ts' => ∃ x5 x6 : Option VP, t ≤ N ∧ Γ' = [some (lst (mxL N m1)), some (lst (mxL N m2)), some (isR q), some (lst (rwL N (m1 i))), some (lst (rwL N (fun j => (List.range t).any fun k => m1 i k && m2 k j))), x5, x6] ∧ Ts' = [(q, cL ((List.range i).map fun i => lst (rwL N (comp N m1 m2 i))))], ⟨_, _, by omega, rfl, rfl⟩, fun _ _ _ _ _ => trivial, ?_, ?_⟩  -- for
    ·
      rintro t R' _ _ ht rfl ⟨x5, x6, ht2, rfl, rfl⟩
      have ht' : t < N := by omega
      have etn : ((0 : Int) + (t : Int)).toNat = t := by omega
      refine tg_name 5 ?_  -- _law_k
      refine bl_one ?_
      refine sx_if ?_
      refine et_val ?_
      refine ev_ix ?_
      refine ev_var 3 rfl ?_  -- _law_row
      refine ev_var 5 rfl ?_  -- _law_k
      refine ix_L (.l isL_lst) (atI_ofNat (by omega) (by rw [etn]; exact rw_get ht')) ?_  -- ix_L | ix_T | ix_S
      refine ⟨_, rfl, ?_⟩  -- test by value
      refine ⟨fun hc => ?_, fun hc => ?_⟩  -- if
      ·
        refine bl_cons ?_
        refine sx_asg 4 ?_
        refine ev_lc 6 rfl (blkOk_by rfl) (fun s H C cl fp => pg_name sc_law_composed.nd rfl (.inl rfl)) ?_  -- comprehension
        refine ei_range1 T.range ?_
        refine ev_cb T.len bt_len ?_
        refine ea_cons ?_
        refine ev_var 3 rfl ?_  -- _law_row
        refine ea_nil ?_
        refine len_L (.l isL_lst) ?_  -- built-in len
        rw [List.length_map, List.length_range]
        refine ⟨_, rfl, by omega, by omega, ?_⟩
        refine ⟨fun j acc Ts' => acc = (List.range j).map (fun j => isB ((List.range (t + 1)).any fun k => m1 i k && m2 k j)) ∧ Ts' = [(q, cL ((List.range i).map fun i => lst (rwL N (comp N m1 m2 i))))], ⟨rfl, rfl⟩, fun _ _ _ _ _ _ => trivial, ?_, ?_⟩
        -- turn
        ·
          rintro j R' hj rfl acc Ts' D ⟨rfl, rfl⟩
          have hj' : j < N := by omega
          have ejn : ((0 : Int) + (j : Int)).toNat = j := by omega
          refine fun Δ s0 H0 C cl fp => ?_
          refine es_nil ⟨fun _ s0 H0 C cl fp => ?_, fun q => nomatch q⟩
          have ev : ((List.range (t + 1)).any fun k => m1 i k && m2 k j) = (((List.range t).any fun k => m1 i k && m2 k j) || m2 t j) := by
            rw [List.range_succ, List.any_append]
            simp [hc]
          have fin : ∀ b, b = ((List.range (t + 1)).any fun k => m1 i k && m2 k j) → ∃ jj, [(D, cL ((List.range j).map (fun j => isB ((List.range (t + 1)).any fun k => m1 i k && m2 k j)))), (q, cL ((List.range i).map fun i => lst (rwL N (comp N m1 m2 i))))][jj]? = some (D, cL ((List.range j).map (fun j => isB ((List.range (t + 1)).any fun k => m1 i k && m2 k j)))) ∧ ((List.range j).map (fun j => isB ((List.range (t + 1)).any fun k => m1 i k && m2 k j))).length < sizeLine ∧
              ((List.range j).map (fun j => isB ((List.range (t + 1)).any fun k => m1 i k && m2 k j)) ++ [isB b] = (List.range (j + 1)).map (fun j => isB ((List.range (t + 1)).any fun k => m1 i k && m2 k j)) ∧ [(D, cL ((List.range j).map (fun j => isB ((List.range (t + 1)).any fun k => m1 i k && m2 k j)))), (q, cL ((List.range i).map fun i => lst (rwL N (comp N m1 m2 i))))].eraseIdx jj = [(q, cL ((List.range i).map fun i => lst (rwL N (comp N m1 m2 i))))]) := by
            rintro b rfl
            exact ⟨0, rfl, by rw [List.length_map, List.length_range]; show _ < 16777216; omega, rg_succ j (fun j => isB ((List.range (t + 1)).any fun k => m1 i k && m2 k j)), rfl⟩
          refine ev_or ?_
          refine ev_ix ?_
          refine ev_var 4 rfl ?_  -- _law_after
          refine ev_var 6 rfl ?_  -- _law_j
          refine ix_L (.l isL_lst) (atI_ofNat (by omega) (by rw [ejn]; exact rw_get hj')) ?_  -- ix_L | ix_T | ix_S
          refine ⟨_, rfl, fun hb0 => fin true (by rw [ev, show ((List.range t).any fun k => m1 i k && m2 k j) = true from hb0]; rfl), fun hb0 => ?_⟩  -- or
          have hb0 : ((List.range t).any fun k => m1 i k && m2 k j) = false := hb0
          refine ev_one ?_
          refine ev_ix ?_
          refine ev_ix ?_
          refine ev_var 1 rfl ?_  -- _law_second
          refine ev_var 5 rfl ?_  -- _law_k
          refine ix_L (.l isL_lst) (atI_ofNat (by omega) (by rw [etn]; exact rw_get ht')) ?_  -- ix_L | ix_T | ix_S
          refine ev_var 6 rfl ?_  -- _law_j
          refine ix_L (.l isL_lst) (atI_ofNat (by omega) (by rw [ejn]; exact rw_get hj')) ?_  -- ix_L | ix_T | ix_S
          exact fin _ (by rw [ev, hb0]; rfl)
        rintro acc Ts' D ⟨rfl, rfl⟩
        rw [show (N : Int).toNat = N by omega]
        refine bl_freezeL 0 4 rfl rfl ?_
        refine bl_nil ?_
        exact ⟨_, _, by omega, rfl, rfl⟩
      ·
        refine bl_nil ?_
        refine ⟨some (isI (0 + (t : Int))), x6, by omega, ?_, rfl⟩
        have : (fun j => (List.range (t + 1)).any fun k => m1 i k && m2 k j) = (fun j => (List.range t).any fun k => m1 i k && m2 k j) := by
          funext j
          rw [List.range_succ, List.any_append]
          simp [hc]
        rw [this]; rfl
    rintro _ _ ⟨x5, x6, _, rfl, rfl⟩
    rw [show (N : Int).toNat = N by omega]
    refine bl_one ?_
    refine sx_expr ?_
    refine ev_bm ?_
    refine ev_var 2 rfl ?_  -- _law_found
    refine ⟨_, _, bm_append, ty_L (.o 0 rfl), ?_⟩
    refine ea_cons ?_
    refine ev_var 4 rfl ?_  -- _law_after
    refine ea_nil ?_
    refine mt_app 0 rfl (by rw [List.length_map, List.length_range]; show _ < 16777216; omega) ?_
    exact ⟨_, _, _, _, by omega, rfl, by rw [← rg_succ]; rfl⟩
  rintro _ _ ⟨x3, x4, x5, x6, _, rfl, rfl⟩
  rw [List.length_map, List.length_range]
  refine bl_freezeL 0 2 rfl rfl ?_
  refine bl_one ?_
  refine sx_ret ?_
  refine ev_var 2 rfl ?_  -- _law_found
  exact ⟨rfl, rfl⟩
end
end K71
set_option maxHeartbeats 4000000
namespace K71
open PySem PySem.Spec PyProof.Rows L2 Z P71
section
variable {P : Program} {w : World} {K : PySem.W.Frag} {mg : Str → Option Value} {base : Heap} {f : Addr} {fd : FuncData}
theorem comp_z {X : Cx} {e : En} {Γ : List (Option VP)} {Ts : Ow} {N : Nat} {m1 m2 : Mx} {Φ : VP → Ow → Prop} {Ψ : XP} (hN : N < 1000) (h : Φ (lst (mxL N (comp N m1 m2))) Ts) : CallZ X e Γ [] pComp [lst (mxL N m1), lst (mxL N m2)] Ts Φ Ψ :=
  ⟨⟨(N, m1, m2), hN⟩, Ts, Ent.refl _, .refl _, fun P Ts' ⟨e2, e3⟩ => by
    subst e2; subst e3
    exact h, fun cls d Ts' q => q.elim⟩
abbrev s_law_joined : Stmt := top 9
theorem sc_law_joined : FnScope ["_law_first", "_law_second", "_law_j", "_law_k"] ["_law_first", "_law_second"] (defScope s_law_joined) := ⟨rfl, rfl, rfl, by decide +kernel, rfl, by decide +kernel, by decide +kernel⟩
def pJoin : Pr {a : Nat × Mx × Mx // a.1 < 1000} where
  args a := [lst (mxL a.1.1 a.1.2.1), lst (mxL a.1.1 a.1.2.2)]
  post a R Ts := R = lst (mxL a.1.1 (orm a.1.2.1 a.1.2.2)) ∧ Ts = []
theorem join_z {X : Cx} {e : En} {Γ : List (Option VP)} {Ts : Ow} {N : Nat} {m1 m2 : Mx} {Φ : VP → Ow → Prop} {Ψ : XP} (hN : N < 1000) (h : Φ (lst (mxL N (orm m1 m2))) Ts) : CallZ X e Γ [] pJoin [lst (mxL N m1), lst (mxL N m2)] Ts Φ Ψ :=
  ⟨⟨(N, m1, m2), hN⟩, Ts, Ent.refl _, .refl _, fun P Ts' ⟨e2, e3⟩ => by
    subst e2; subst e3
    exact h, fun cls d Ts' q => q.elim⟩
theorem ok_joined (F : FnP K "_law_joined" "_law_joined" s_law_joined f fd) (T : Tx mg) : FnOk P w K mg base (L2.CX P w) 1 f fd ["_law_first", "_law_second"] (Prom pJoin) := by
  refine def_ok F sc_law_joined (fun a => rfl) fun a e cdv A outer s H E hr => ?_
  obtain ⟨⟨N, m1, m2⟩, hN⟩ := a
  have hN : N < 1000 := hN
  show Bl _ _ [some (lst (mxL N m1)), some (lst (mxL N m2)), none, none] [] [] _ _
  refine bl_one ?_
  refine sx_ret ?_
  refine ev_frz ?_
  refine ev_lc 2 rfl (blkOk_by rfl) (fun s H C cl fp => pg_name sc_law_joined.nd rfl (.inr rfl)) ?_  -- comprehension
  refine ei_range1 T.range ?_
  refine ev_cb T.len bt_len ?_
  refine ea_cons ?_
  refine ev_var 0 rfl ?_  -- _law_first
  refine ea_nil ?_
  refine len_L (.l isL_lst) ?_  -- built-in len
  rw [List.length_map, List.length_range]
  refine ⟨_, rfl, by omega, by omega, ?_⟩
  refine ⟨fun i acc Ts' => acc = (List.range i).map (fun i => lst (rwL N (orm m1 m2 i))) ∧ Ts' = [], ⟨rfl, rfl⟩, fun _ _ _ _ _ _ => trivial, ?_, ?_⟩
  -- turn
  ·
    rintro i R' hi rfl acc Ts' D ⟨rfl, rfl⟩
    have hi' : i < N := by omega
    have ein : ((0 : Int) + (i : Int)).toNat = i := by omega
    refine fun Δ s0 H0 C cl fp => ?_
    refine es_nil ⟨fun _ s0 H0 C cl fp => ?_, fun q => nomatch q⟩
    refine ev_frz ?_
    refine ev_lc 3 rfl (blkOk_by rfl) (fun s H C cl fp => pg_name sc_law_joined.nd rfl (.inl rfl)) ?_  -- comprehension
    refine ei_range1 T.range ?_
    refine ev_cb T.len bt_len ?_
    refine ea_cons ?_
    refine ev_var 0 rfl ?_  -- _law_first
    refine ea_nil ?_
    refine len_L (.l isL_lst) ?_  -- built-in len
    rw [List.length_map, List.length_range]
    refine ⟨_, rfl, by omega, by omega, ?_⟩
    refine ⟨fun j acc2 Ts' => acc2 = (List.range j).map (fun j => isB (orm m1 m2 i j)) ∧ Ts' = [(D, cL ((List.range i).map (fun i => lst (rwL N (orm m1 m2 i)))))], ⟨rfl, rfl⟩, fun _ _ _ _ _ _ => trivial, ?_, ?_⟩
    -- turn
    ·
      rintro j R' hj rfl acc Ts' D2 ⟨rfl, rfl⟩
      have hj' : j < N := by omega
      have ejn : ((0 : Int) + (j : Int)).toNat = j := by omega
      refine fun Δ s0 H0 C cl fp => ?_
      refine es_nil ⟨fun _ s0 H0 C cl fp => ?_, fun q => nomatch q⟩
      refine ev_or ?_
      refine ev_ix ?_
      refine ev_ix ?_
      refine ev_var 0 rfl ?_  -- _law_first
      refine ev_var 2 rfl ?_  -- _law_j
      refine ix_L (.l isL_lst) (atI_ofNat (by omega) (by rw [ein]; exact rw_get hi')) ?_  -- ix_L | ix_T | ix_S
      refine ev_var 3 rfl ?_  -- _law_k
      refine ix_L (.l isL_lst) (atI_ofNat (by omega) (by rw [ejn]; exact rw_get hj')) ?_  -- ix_L | ix_T | ix_S
      refine ⟨_, rfl, fun hb0 => ?_, fun hb0 => ?_⟩  -- or
      · refine ⟨0, rfl, by rw [List.length_map, List.length_range]; show _ < 16777216; omega, ?_, rfl⟩
        rw [← rg_succ j (fun j => isB (orm m1 m2 i j)), show orm m1 m2 i j = true from by unfold orm; rw [show m1 i j = true from hb0]; rfl]
      refine ev_one ?_
      refine ev_ix ?_
      refine ev_ix ?_
      refine ev_var 1 rfl ?_  -- _law_second
      refine ev_var 2 rfl ?_  -- _law_j
      refine ix_L (.l isL_lst) (atI_ofNat (by omega) (by rw [ein]; exact rw_get hi')) ?_  -- ix_L | ix_T | ix_S
      refine ev_var 3 rfl ?_  -- _law_k
      refine ix_L (.l isL_lst) (atI_ofNat (by omega) (by rw [ejn]; exact rw_get hj')) ?_  -- ix_L | ix_T | ix_S
      refine ⟨0, rfl, by rw [List.length_map, List.length_range]; show _ < 16777216; omega, ?_, rfl⟩
      rw [← rg_succ j (fun j => isB (orm m1 m2 i j)), show orm m1 m2 i j = m2 i j from by unfold orm; rw [show m1 i j = false from hb0]; rfl]
    rintro acc Ts' D2 ⟨rfl, rfl⟩
    rw [show (N : Int).toNat = N by omega]
    refine ⟨D2, 0, _, rfl, rfl, ?_⟩
    exact ⟨0, rfl, by rw [List.length_map, List.length_range]; show _ < 16777216; omega, rg_succ i (fun i => lst (rwL N (orm m1 m2 i))), rfl⟩
  rintro acc Ts' D ⟨rfl, rfl⟩
  rw [show (N : Int).toNat = N by omega]
  exact ⟨D, 0, _, rfl, rfl, rfl, rfl⟩
abbrev s_law_closed : Stmt := top 10
theorem sc_law_closed : FnScope ["_law_step", "_law_found", "_law_turn"] ["_law_step"] (defScope s_law_closed) := ⟨rfl, rfl, rfl, by decide +kernel, rfl, by decide +kernel, by decide +kernel⟩
def pClos : Pr {a : Nat × Mx // a.1 < 1000} where
  args a := [lst (mxL a.1.1 a.1.2)]
  post a R Ts := R = lst (mxL a.1.1 (clos a.1.1 a.1.2 a.1.1)) ∧ Ts = []
theorem clos_z {X : Cx} {e : En} {Γ : List (Option VP)} {Ts : Ow} {N : Nat} {m : Mx} {Φ : VP → Ow → Prop} {Ψ : XP} (hN : N < 1000) (h : Φ (lst (mxL N (clos N m N))) Ts) : CallZ X e Γ [] pClos [lst (mxL N m)] Ts Φ Ψ :=
  ⟨⟨(N, m), hN⟩, Ts, Ent.refl _, .refl _, fun P Ts' ⟨e2, e3⟩ => by
    subst e2; subst e3
    exact h, fun cls d Ts' q => q.elim⟩
theorem ok_closed (F : FnP K "_law_closed" "_law_closed" s_law_closed f fd) (T : Tx mg) (Jn : Fz P w K mg base 1 "_law_joined" [] pJoin) (Cm : Fz P w K mg base 1 "_law_composed" [] pComp) : FnOk P w K mg base (L2.CX P w) 2 f fd ["_law_step"] (Prom pClos) := by
  refine def_ok F sc_law_closed (fun a => rfl) fun a e cdv A outer s H E hr => ?_
  obtain ⟨⟨N, m⟩, hN⟩ := a
  have hN : N < 1000 := hN
  show Bl _ _ [some (lst (mxL N m)), none, none] [] [] _ _
  refine bl_cons ?_
  refine sx_asg 1 ?_  -- _law_found
  refine ev_var 0 rfl ?_  -- _law_step
  refine bl_cons ?_
  refine sx_for rfl ?_
  refine ei_range1 T.range ?_
  refine ev_cb T.len bt_len ?_
  refine ea_cons ?_
  refine ev_var 0 rfl ?_  -- _law_step
  refine ea_nil ?_
  refine len_L (.l isL_lst) ?_  -- built-in len
  rw [List.length_map, List.length_range]
  refine ⟨_, rfl, by omega, by omega, ?_⟩
  refine ⟨fun i Γ' Ts' => ∃ x2 : Option VP, Γ' = [some (lst (mxL N m)), some (lst (mxL N (clos N m i))), x2] ∧ Ts' = [], ⟨_, rfl, rfl⟩, fun _ _ _ _ _ => trivial, ?_, ?_⟩  -- for
  ·
    rintro i R' _ _ hi rfl ⟨x2, rfl, rfl⟩
    refine tg_name 2 ?_  -- _law_turn
    refine bl_one ?_
    refine sx_asg 1 ?_  -- _law_found
    refine ev_call Jn hr ?_
    refine ea_cons ?_
    refine ev_var 1 rfl ?_  -- _law_found
    refine ea_cons ?_
    refine ev_call Cm hr ?_
    refine ea_cons ?_
    refine ev_var 1 rfl ?_  -- _law_found
    refine ea_cons ?_
    refine ev_var 0 rfl ?_  -- _law_step
    refine ea_nil ?_
    refine comp_z hN ?_
    refine ea_nil ?_
    refine join_z hN ?_
    exact ⟨_, rfl, rfl⟩
  rintro _ _ ⟨x2, rfl, rfl⟩
  rw [show (N : Int).toNat = N by omega]
  refine bl_one ?_
  refine sx_ret ?_
  refine ev_var 1 rfl ?_  -- _law_found
  exact ⟨rfl, rfl⟩
end
end K71
set_option maxHeartbeats 4000000
namespace K71
open PySem PySem.Spec PyProof.Rows L2 Z P71
section
variable {P : Program} {w : World} {K : PySem.W.Frag} {mg : Str → Option Value} {base : Heap} {f : Addr} {fd : FuncData}
abbrev s_law_steps : Stmt := top 11
theorem sc_law_steps : FnScope ["_law_expression_here", "_law_letters", "_law_back", "_law_size", "_law_left", "_law_right", "_law_found", "_law_k", "_law_after", "_law_j"] ["_law_expression_here", "_law_letters", "_law_back"] (defScope s_law_steps) := ⟨rfl, rfl, rfl, by decide +kernel, rfl, by decide +kernel, by decide +kernel⟩
structure StA (d : Nat) where
  e : Rx
  w : List Int
  L : Int
  hd : dep e ≤ d
  hw : w.length < 900
def pSt (K : PySem.W.Frag) (d : Nat) : Pr (StA d) where
  args a := [exP K a.e, lst (zl (a.w ++ [a.L])), isI (a.w.length : Int)]
  post a R Ts := R = lst (mxL (a.w.length + 1) (stp a.w a.L a.e)) ∧ Ts = []
theorem st_z {X : Cx} {e : En} {Γ : List (Option VP)} {Ts : Ow} {d : Nat} {a : Rx} {wd : List Int} {L : Int} {Φ : VP → Ow → Prop} {Ψ : XP} (ha : dep a ≤ d) (hw : wd.length < 900) (h : Φ (lst (mxL (wd.length + 1) (stp wd L a))) Ts) : CallZ X e Γ [] (pSt X.K d) [exP X.K a, lst (zl (wd ++ [L])), isI (wd.length : Int)] Ts Φ Ψ :=
  ⟨⟨a, wd, L, ha, hw⟩, Ts, Ent.refl _, .refl _, fun P Ts' ⟨e2, e3⟩ => by
    subst e2; subst e3
    exact h, fun cls d Ts' q => q.elim⟩
theorem ok_steps_step (d : Nat) (F : FnP K "_law_steps" "_law_steps" s_law_steps f fd) (T : Tx mg) (Jn : Fz P w K mg base 1 "_law_joined" [] pJoin) (Cp : Fz P w K mg base 1 "_law_composed" [] pComp) (Cl : Fz P w K mg base 2 "_law_closed" [] pClos)
    (Nu : Fz P w K mg base (d + 1) "_law_nullable" [] (pNul K d)) (Rec : ∀ d', d = d' + 1 → Fz P w K mg base (d' + 3) "_law_steps" [] (pSt K d')) :
    FnOk P w K mg base (L2.CX P w) (d + 3) f fd ["_law_expression_here", "_law_letters", "_law_back"] (Prom (pSt K d)) := by
  refine def_ok F sc_law_steps (fun a => rfl) fun a e cdv A outer s H E hr => ?_
  obtain ⟨ex, wd, L, hd, hw⟩ := a
  have hlen : (zl (wd ++ [L])).length = wd.length + 1 := by rw [List.length_map, List.length_append]; rfl
  cases ex with
  | non =>
    show Bl _ _ [some (tup K [isS "none"]), some (lst (zl (wd ++ [L]))), some (isI (wd.length : Int)), none, none, none, none, none, none, none] [] [] _ _
    refine bl_cons ?_
    refine sx_asg 3 ?_
    refine ev_cb T.len bt_len ?_
    refine ea_cons ?_
    refine ev_var 1 rfl ?_
    refine ea_nil ?_
    refine len_L (.l isL_lst) ?_
    rw [hlen]
    refine bl_cons ?_
    refine sx_if ?_
    refine et_cmp ?_
    refine ev_ix ?_
    refine ev_var 0 rfl ?_
    refine ev_int ?_
    refine ix_T (atI_ofNat (by decide) rfl) ?_
    refine ev_str ?_
    refine oz_eqS ?_
    rw [show decide (("none" : Str) = ("letter" : Str)) = false by decide +kernel]
    refine ⟨_, rfl, ?_⟩
    refine ⟨fun q => (nomatch q), fun _ => ?_⟩
    refine bl_nil ?_
    refine bl_cons ?_
    refine sx_if ?_
    refine et_cmp ?_
    refine ev_cb T.len bt_len ?_
    refine ea_cons ?_
    refine ev_var 0 rfl ?_
    refine ea_nil ?_
    refine len_T ?_
    refine ev_int ?_
    refine oz_eqI ?_
    refine ⟨true, rfl, ?_⟩
    refine ⟨fun _ => ?_, fun q => (nomatch q)⟩
    refine bl_one ?_
    refine sx_ret ?_
    refine ev_frz ?_
    refine ev_lc 7 rfl (blkOk_by rfl) (fun s H C cl fp => pg_name sc_law_steps.nd rfl (.inl rfl)) ?_
    refine ei_range1 T.range ?_
    refine ev_var 3 rfl ?_
    refine ⟨_, rfl, by omega, by omega, ?_⟩
    refine ⟨fun i acc Ts' => acc = (List.range i).map (fun i => lst (rwL (wd.length + 1) (fun _ => false))) ∧ Ts' = [], ⟨rfl, rfl⟩, fun _ _ _ _ _ _ => trivial, ?_, ?_⟩
    · rintro i R' hi rfl acc Ts' D ⟨rfl, rfl⟩
      refine fun Δ s0 H0 C cl fp => ?_
      refine es_nil ⟨fun _ s0 H0 C cl fp => ?_, fun q => nomatch q⟩
      refine ev_frz ?_
      refine ev_sub ?_
      refine ev_bin ?_
      refine ev_lst ?_
      refine ea_cons ?_
      refine ev_bl ?_
      refine ea_nil ?_
      refine ⟨Nat.le_of_ble_eq_true rfl, fun z => ?_⟩
      refine ev_var 3 rfl ?_
      refine oz_rep (.o 0 rfl) (by omega) (by omega) (by show 1 * _ ≤ 16777216; omega) fun r => ?_
      refine ⟨[(r, _), (D, _)], .cons_cons _ (.cons _ (.refl _)), ?_⟩
      refine ⟨r, 0, _, rfl, rfl, ?_⟩
      have e0 : (List.replicate ((wd.length + 1 : Nat) : Int).toNat [isB false]).flatten = rwL (wd.length + 1) (fun _ => false) := by
        rw [show ((wd.length + 1 : Nat) : Int).toNat = wd.length + 1 by omega]
        apply List.ext_getElem?
        intro j
        by_cases hj : j < wd.length + 1
        · simp [hj]
        · simp [hj]
      rw [e0]
      exact ⟨0, rfl, by rw [List.length_map, List.length_range]; show _ < 16777216; omega, rg_succ i (fun i => lst (rwL (wd.length + 1) (fun _ => false))), rfl⟩
    rintro acc Ts' D ⟨rfl, rfl⟩
    rw [show ((wd.length + 1 : Nat) : Int).toNat = wd.length + 1 by omega]
    exact ⟨D, 0, _, rfl, rfl, rfl, rfl⟩
  | emp =>
    show Bl _ _ [some (tup K [isS "empty"]), some (lst (zl (wd ++ [L]))), some (isI (wd.length : Int)), none, none, none, none, none, none, none] [] [] _ _
    refine bl_cons ?_
    refine sx_asg 3 ?_
    refine ev_cb T.len bt_len ?_
    refine ea_cons ?_
    refine ev_var 1 rfl ?_
    refine ea_nil ?_
    refine len_L (.l isL_lst) ?_
    rw [hlen]
    refine bl_cons ?_
    refine sx_if ?_
    refine et_cmp ?_
    refine ev_ix ?_
    refine ev_var 0 rfl ?_
    refine ev_int ?_
    refine ix_T (atI_ofNat (by decide) rfl) ?_
    refine ev_str ?_
    refine oz_eqS ?_
    rw [show decide (("empty" : Str) = ("letter" : Str)) = false by decide +kernel]
    refine ⟨_, rfl, ?_⟩
    refine ⟨fun q => (nomatch q), fun _ => ?_⟩
    refine bl_nil ?_
    refine bl_cons ?_
    refine sx_if ?_
    refine et_cmp ?_
    refine ev_cb T.len bt_len ?_
    refine ea_cons ?_
    refine ev_var 0 rfl ?_
    refine ea_nil ?_
    refine len_T ?_
    refine ev_int ?_
    refine oz_eqI ?_
    refine ⟨true, rfl, ?_⟩
    refine ⟨fun _ => ?_, fun q => (nomatch q)⟩
    refine bl_one ?_
    refine sx_ret ?_
    refine ev_frz ?_
    refine ev_lc 7 rfl (blkOk_by rfl) (fun s H C cl fp => pg_name sc_law_steps.nd rfl (.inl rfl)) ?_
    refine ei_range1 T.range ?_
    refine ev_var 3 rfl ?_
    refine ⟨_, rfl, by omega, by omega, ?_⟩
    refine ⟨fun i acc Ts' => acc = (List.range i).map (fun i => lst (rwL (wd.length + 1) (fun _ => false))) ∧ Ts' = [], ⟨rfl, rfl⟩, fun _ _ _ _ _ _ => trivial, ?_, ?_⟩
    · rintro i R' hi rfl acc Ts' D ⟨rfl, rfl⟩
      refine fun Δ s0 H0 C cl fp => ?_
      refine es_nil ⟨fun _ s0 H0 C cl fp => ?_, fun q => nomatch q⟩
      refine ev_frz ?_
      refine ev_sub ?_
      refine ev_bin ?_
      refine ev_lst ?_
      refine ea_cons ?_
      refine ev_bl ?_
      refine ea_nil ?_
      refine ⟨Nat.le_of_ble_eq_true rfl, fun z => ?_⟩
      refine ev_var 3 rfl ?_
      refine oz_rep (.o 0 rfl) (by omega) (by omega) (by show 1 * _ ≤ 16777216; omega) fun r => ?_
      refine ⟨[(r, _), (D, _)], .cons_cons _ (.cons _ (.refl _)), ?_⟩
      refine ⟨r, 0, _, rfl, rfl, ?_⟩
      have e0 : (List.replicate ((wd.length + 1 : Nat) : Int).toNat [isB false]).flatten = rwL (wd.length + 1) (fun _ => false) := by
        rw [show ((wd.length + 1 : Nat) : Int).toNat = wd.length + 1 by omega]
        apply List.ext_getElem?
        intro j
        by_cases hj : j < wd.length + 1
        · simp [hj]
        · simp [hj]
      rw [e0]
      exact ⟨0, rfl, by rw [List.length_map, List.length_range]; show _ < 16777216; omega, rg_succ i (fun i => lst (rwL (wd.length + 1) (fun _ => false))), rfl⟩
    rintro acc Ts' D ⟨rfl, rfl⟩
    rw [show ((wd.length + 1 : Nat) : Int).toNat = wd.length + 1 by omega]
    exact ⟨D, 0, _, rfl, rfl, rfl, rfl⟩
  | lt c =>
    show Bl _ _ [some (tup K [isS "letter", isI c]), some (lst (zl (wd ++ [L]))), some (isI (wd.length : Int)), none, none, none, none, none, none, none] [] [] _ _
    refine bl_cons ?_
    refine sx_asg 3 ?_
    refine ev_cb T.len bt_len ?_
    refine ea_cons ?_
    refine ev_var 1 rfl ?_
    refine ea_nil ?_
    refine len_L (.l isL_lst) ?_
    rw [hlen]
    refine bl_cons ?_
    refine sx_if ?_
    refine et_cmp ?_
    refine ev_ix ?_
    refine ev_var 0 rfl ?_
    refine ev_int ?_
    refine ix_T (atI_ofNat (by decide) rfl) ?_
    refine ev_str ?_
    refine oz_eqS ?_
    rw [show decide (("letter" : Str) = ("letter" : Str)) = true by decide +kernel]
    refine ⟨_, rfl, ?_⟩
    refine ⟨fun _ => ?_, fun q => (nomatch q)⟩
    refine bl_cons ?_
    refine sx_asg 6 ?_
    refine ev_lst ?_
    refine ea_nil ?_
    refine ⟨by decide, fun q => ?_⟩
    refine bl_cons ?_
    refine sx_for rfl ?_
    refine ei_range1 T.range ?_
    refine ev_var 3 rfl ?_
    refine ⟨_, rfl, by omega, by omega, ?_⟩
    refine ⟨fun i Γ' Ts' => ∃ x7 x8 x9 : Option VP, i ≤ wd.length + 1 ∧ Γ' = [some (tup K [isS "letter", isI c]), some (lst (zl (wd ++ [L]))), some (isI (wd.length : Int)), some (isI ((wd.length + 1 : Nat) : Int)), none, none, some (isR q), x7, x8, x9] ∧ Ts' = [(q, cL ((List.range i).map fun i => lst (rwL (wd.length + 1) (stp wd L (.lt c) i))))], ⟨_, _, _, by omega, rfl, rfl⟩, fun _ _ _ _ _ => trivial, ?_, ?_⟩
    · rintro i R' _ _ hi rfl ⟨x7, x8, x9, hi2, rfl, rfl⟩
      have hi' : i < wd.length + 1 := by omega
      have ein : ((0 : Int) + (i : Int)).toNat = i := by omega
      refine tg_name 7 ?_
      refine bl_cons ?_
      refine sx_asg 8 ?_
      refine ev_bin ?_
      refine ev_var 7 rfl ?_
      refine ev_int ?_
      refine oz_add ?_
      refine bl_cut (fun Γ' Ts' => Γ' = [some (tup K [isS "letter", isI c]), some (lst (zl (wd ++ [L]))), some (isI (wd.length : Int)), some (isI ((wd.length + 1 : Nat) : Int)), none, none, some (isR q), some (isI (0 + (i : Int))), some (isI (aft wd.length i : Int)), x9] ∧ Ts' = [(q, cL ((List.range i).map fun i => lst (rwL (wd.length + 1) (stp wd L (.lt c) i))))]) ?_ ?_
      · refine sx_if ?_
        refine et_cmp ?_
        refine ev_var 8 rfl ?_
        refine ev_var 3 rfl ?_
        refine oz_eqI ?_
        refine ⟨_, rfl, ?_⟩
        refine ⟨fun hc => ?_, fun hc => ?_⟩
        · have hc := of_decide_eq_true hc
          refine bl_one ?_
          refine sx_asg 8 ?_
          refine ev_var 2 rfl ?_
          exact ⟨by rw [show aft wd.length i = wd.length from if_pos (by omega)]; rfl, rfl⟩
        · have hc := of_decide_eq_false hc
          refine bl_nil ?_
          exact ⟨by rw [show aft wd.length i = i + 1 from if_neg (by omega), show ((i + 1 : Nat) : Int) = 0 + (i : Int) + 1 by omega]; rfl, rfl⟩
      rintro _ _ ⟨rfl, rfl⟩
      refine bl_one ?_
      refine sx_expr ?_
      refine ev_bm ?_
      refine ev_var 6 rfl ?_
      refine ⟨_, _, bm_append, ty_L (.o 0 rfl), ?_⟩
      refine ea_cons ?_
      refine ev_frz ?_
      refine ev_lc 9 rfl (blkOk_by rfl) (fun s H C cl fp => pg_name sc_law_steps.nd rfl (.inl rfl)) ?_
      refine ei_range1 T.range ?_
      refine ev_var 3 rfl ?_
      refine ⟨_, rfl, by omega, by omega, ?_⟩
      refine ⟨fun j acc Ts' => acc = (List.range j).map (fun j => isB (stp wd L (.lt c) i j)) ∧ Ts' = [(q, cL ((List.range i).map fun i => lst (rwL (wd.length + 1) (stp wd L (.lt c) i))))], ⟨rfl, rfl⟩, fun _ _ _ _ _ _ => trivial, ?_, ?_⟩
      · rintro j R' hj rfl acc Ts' D ⟨rfl, rfl⟩
        have hj' : j < wd.length + 1 := by omega
        refine fun Δ s0 H0 C cl fp => ?_
        refine es_nil ⟨fun _ s0 H0 C cl fp => ?_, fun q => nomatch q⟩
        have fin : ∀ b, b = stp wd L (.lt c) i j → ∃ jj, [(D, cL ((List.range j).map (fun j => isB (stp wd L (.lt c) i j)))), (q, cL ((List.range i).map fun i => lst (rwL (wd.length + 1) (stp wd L (.lt c) i))))][jj]? = some (D, cL ((List.range j).map (fun j => isB (stp wd L (.lt c) i j)))) ∧ ((List.range j).map (fun j => isB (stp wd L (.lt c) i j))).length < sizeLine ∧
            ((List.range j).map (fun j => isB (stp wd L (.lt c) i j)) ++ [isB b] = (List.range (j + 1)).map (fun j => isB (stp wd L (.lt c) i j)) ∧ [(D, cL ((List.range j).map (fun j => isB (stp wd L (.lt c) i j)))), (q, cL ((List.range i).map fun i => lst (rwL (wd.length + 1) (stp wd L (.lt c) i))))].eraseIdx jj = [(q, cL ((List.range i).map fun i => lst (rwL (wd.length + 1) (stp wd L (.lt c) i))))]) := by
          rintro b rfl
          exact ⟨0, rfl, by rw [List.length_map, List.length_range]; show _ < 16777216; omega, rg_succ j (fun j => isB (stp wd L (.lt c) i j)), rfl⟩
        have hget : (zl (wd ++ [L]))[((0 : Int) + (i : Int)).toNat]? = some (isI ((wd ++ [L]).getD i 0)) := by
          have hl2 : i < (wd ++ [L]).length := by rw [List.length_append]; exact hi'
          rw [ein, zl_get hl2, List.getD_eq_getElem?_getD, List.getElem?_eq_getElem hl2]; rfl
        refine ev_and ?_
        refine ev_cmp ?_
        refine ev_var 9 rfl ?_
        refine ev_var 8 rfl ?_
        refine oz_eqI ?_
        refine ⟨_, rfl, fun hb0 => ?_, fun hb0 => fin false ?_⟩
        rotate_left
        · have hb0 := of_decide_eq_false hb0
          show false = (decide (j = aft wd.length i) && _)
          rw [decide_eq_false (by omega)]; rfl
        have hb0 := of_decide_eq_true hb0
        refine ev_one ?_
        refine ev_cmp ?_
        refine ev_ix ?_
        refine ev_var 1 rfl ?_
        refine ev_var 7 rfl ?_
        refine ix_L (.l isL_lst) (atI_ofNat (by omega) hget) ?_
        refine ev_ix ?_
        refine ev_var 0 rfl ?_
        refine ev_int ?_
        refine ix_T (atI_ofNat (by decide) rfl) ?_
        refine oz_eqI ?_
        refine fin _ ?_
        show _ = (decide (j = aft wd.length i) && decide ((wd ++ [L]).getD i 0 = c))
        rw [decide_eq_true (show j = aft wd.length i by omega)]; rfl
      rintro acc Ts' D ⟨rfl, rfl⟩
      rw [show ((wd.length + 1 : Nat) : Int).toNat = wd.length + 1 by omega]
      refine ⟨D, 0, _, rfl, rfl, ?_⟩
      refine ea_nil ?_
      refine mt_app 0 rfl (by rw [List.length_map, List.length_range]; show _ < 16777216; omega) ?_
      exact ⟨_, _, _, by omega, rfl, by rw [← rg_succ i (fun i => lst (rwL (wd.length + 1) (stp wd L (.lt c) i)))]; rfl⟩
    rintro _ _ ⟨x7, x8, x9, _, rfl, rfl⟩
    rw [show ((wd.length + 1 : Nat) : Int).toNat = wd.length + 1 by omega]
    refine bl_freezeL 0 6 rfl rfl ?_
    refine bl_one ?_
    refine sx_ret ?_
    refine ev_var 6 rfl ?_
    exact ⟨rfl, rfl⟩
  | star a =>
    show Bl _ _ [some (tup K [isS "star", exP K a]), some (lst (zl (wd ++ [L]))), some (isI (wd.length : Int)), none, none, none, none, none, none, none] [] [] _ _
    refine bl_cons ?_
    refine sx_asg 3 ?_
    refine ev_cb T.len bt_len ?_
    refine ea_cons ?_
    refine ev_var 1 rfl ?_
    refine ea_nil ?_
    refine len_L (.l isL_lst) ?_
    rw [hlen]
    refine bl_cons ?_
    refine sx_if ?_
    refine et_cmp ?_
    refine ev_ix ?_
    refine ev_var 0 rfl ?_
    refine ev_int ?_
    refine ix_T (atI_ofNat (by decide) rfl) ?_
    refine ev_str ?_
    refine oz_eqS ?_
    rw [show decide (("star" : Str) = ("letter" : Str)) = false by decide +kernel]
    refine ⟨_, rfl, ?_⟩
    refine ⟨fun q => (nomatch q), fun _ => ?_⟩
    refine bl_nil ?_
    refine bl_cons ?_
    refine sx_if ?_
    refine et_cmp ?_
    refine ev_cb T.len bt_len ?_
    refine ea_cons ?_
    refine ev_var 0 rfl ?_
    refine ea_nil ?_
    refine len_T ?_
    refine ev_int ?_
    refine oz_eqI ?_
    refine ⟨false, rfl, ?_⟩
    refine ⟨fun q => (nomatch q), fun _ => ?_⟩
    have hd2 : dep a + 1 ≤ d := hd
    have hda : dep a ≤ d - 1 := by omega
    obtain ⟨d', rfl⟩ : ∃ d', d = d' + 1 := ⟨d - 1, by omega⟩
    have Rc := Rec d' rfl
    refine bl_nil ?_
    refine bl_cons ?_
    refine sx_asg 4 ?_
    refine ev_call Rc hr ?_
    refine ea_cons ?_
    refine ev_ix ?_
    refine ev_var 0 rfl ?_
    refine ev_int ?_
    refine ix_T (atI_ofNat (by decide) rfl) ?_
    refine ea_cons ?_
    refine ev_var 1 rfl ?_
    refine ea_cons ?_
    refine ev_var 2 rfl ?_
    refine ea_nil ?_
    refine st_z hda hw ?_
    refine bl_cons ?_
    refine sx_if ?_
    refine et_cmp ?_
    refine ev_ix ?_
    refine ev_var 0 rfl ?_
    refine ev_int ?_
    refine ix_T (atI_ofNat (by decide) rfl) ?_
    refine ev_str ?_
    refine oz_eqS ?_
    rw [show decide (("star" : Str) = ("star" : Str)) = true by decide +kernel]
    refine ⟨_, rfl, ?_⟩
    refine ⟨fun _ => ?_, fun q => (nomatch q)⟩
    refine bl_one ?_
    refine sx_ret ?_
    refine ev_call Cl (hr.mono (by omega)) ?_
    refine ea_cons ?_
    refine ev_var 4 rfl ?_
    refine ea_nil ?_
    refine clos_z (by omega) ?_
    exact ⟨rfl, rfl⟩
  | join a b =>
    show Bl _ _ [some (tup K [isS "join", exP K a, exP K b]), some (lst (zl (wd ++ [L]))), some (isI (wd.length : Int)), none, none, none, none, none, none, none] [] [] _ _
    refine bl_cons ?_
    refine sx_asg 3 ?_
    refine ev_cb T.len bt_len ?_
    refine ea_cons ?_
    refine ev_var 1 rfl ?_
    refine ea_nil ?_
    refine len_L (.l isL_lst) ?_
    rw [hlen]
    refine bl_cons ?_
    refine sx_if ?_
    refine et_cmp ?_
    refine ev_ix ?_
    refine ev_var 0 rfl ?_
    refine ev_int ?_
    refine ix_T (atI_ofNat (by decide) rfl) ?_
    refine ev_str ?_
    refine oz_eqS ?_
    rw [show decide (("join" : Str) = ("letter" : Str)) = false by decide +kernel]
    refine ⟨_, rfl, ?_⟩
    refine ⟨fun q => (nomatch q), fun _ => ?_⟩
    refine bl_nil ?_
    refine bl_cons ?_
    refine sx_if ?_
    refine et_cmp ?_
    refine ev_cb T.len bt_len ?_
    refine ea_cons ?_
    refine ev_var 0 rfl ?_
    refine ea_nil ?_
    refine len_T ?_
    refine ev_int ?_
    refine oz_eqI ?_
    refine ⟨false, rfl, ?_⟩
    refine ⟨fun q => (nomatch q), fun _ => ?_⟩
    have hd2 : max (dep a) (dep b) + 1 ≤ d := hd
    have hda : dep a ≤ d - 1 := by have := Nat.le_max_left (dep a) (dep b); omega
    have hdb : dep b ≤ d - 1 := by have := Nat.le_max_right (dep a) (dep b); omega
    obtain ⟨d', rfl⟩ : ∃ d', d = d' + 1 := ⟨d - 1, by omega⟩
    have Rc := Rec d' rfl
    refine bl_nil ?_
    refine bl_cons ?_
    refine sx_asg 4 ?_
    refine ev_call Rc hr ?_
    refine ea_cons ?_
    refine ev_ix ?_
    refine ev_var 0 rfl ?_
    refine ev_int ?_
    refine ix_T (atI_ofNat (by decide) rfl) ?_
    refine ea_cons ?_
    refine ev_var 1 rfl ?_
    refine ea_cons ?_
    refine ev_var 2 rfl ?_
    refine ea_nil ?_
    refine st_z hda hw ?_
    refine bl_cons ?_
    refine sx_if ?_
    refine et_cmp ?_
    refine ev_ix ?_
    refine ev_var 0 rfl ?_
    refine ev_int ?_
    refine ix_T (atI_ofNat (by decide) rfl) ?_
    refine ev_str ?_
    refine oz_eqS ?_
    rw [show decide (("join" : Str) = ("star" : Str)) = false by decide +kernel]
    refine ⟨_, rfl, ?_⟩
    refine ⟨fun q => (nomatch q), fun _ => ?_⟩
    refine bl_nil ?_
    refine bl_cons ?_
    refine sx_asg 5 ?_
    refine ev_call Rc hr ?_
    refine ea_cons ?_
    refine ev_ix ?_
    refine ev_var 0 rfl ?_
    refine ev_int ?_
    refine ix_T (atI_ofNat (by decide) rfl) ?_
    refine ea_cons ?_
    refine ev_var 1 rfl ?_
    refine ea_cons ?_
    refine ev_var 2 rfl ?_
    refine ea_nil ?_
    refine st_z hdb hw ?_
    refine bl_cons ?_
    refine sx_if ?_
    refine et_cmp ?_
    refine ev_ix ?_
    refine ev_var 0 rfl ?_
    refine ev_int ?_
    refine ix_T (atI_ofNat (by decide) rfl) ?_
    refine ev_str ?_
    refine oz_eqS ?_
    rw [show decide (("join" : Str) = ("either" : Str)) = false by decide +kernel]
    refine ⟨_, rfl, ?_⟩
    refine ⟨fun q => (nomatch q), fun _ => ?_⟩
    refine bl_nil ?_
    refine bl_cons ?_
    refine sx_asg 6 ?_
    refine ev_call Cp (hr.mono (by omega)) ?_
    refine ea_cons ?_
    refine ev_var 4 rfl ?_
    refine ea_cons ?_
    refine ev_var 5 rfl ?_
    refine ea_nil ?_
    refine comp_z (by omega) ?_
    refine bl_cut (fun Γ' Ts' => Γ' = [some (tup K [isS "join", exP K a, exP K b]), some (lst (zl (wd ++ [L]))), some (isI (wd.length : Int)), some (isI ((wd.length + 1 : Nat) : Int)), some (lst (mxL (wd.length + 1) (stp wd L a))), some (lst (mxL (wd.length + 1) (stp wd L b))), some (lst (mxL (wd.length + 1) (fun i j => comp (wd.length + 1) (stp wd L a) (stp wd L b) i j || (nul a && stp wd L b i j)))), none, none, none] ∧ Ts' = []) ?_ ?_
    · refine sx_if ?_
      refine et_val ?_
      refine ev_call Nu (hr.mono (by omega)) ?_
      refine ea_cons ?_
      refine ev_ix ?_
      refine ev_var 0 rfl ?_
      refine ev_int ?_
      refine ix_T (atI_ofNat (by decide) rfl) ?_
      refine ea_nil ?_
      refine nul_z (Nat.le_trans hda (by omega)) ?_
      refine ⟨_, rfl, ?_⟩
      refine ⟨fun hc => ?_, fun hc => ?_⟩
      · refine bl_one ?_
        refine sx_asg 6 ?_
        refine ev_call Jn (hr.mono (by omega)) ?_
        refine ea_cons ?_
        refine ev_var 6 rfl ?_
        refine ea_cons ?_
        refine ev_var 5 rfl ?_
        refine ea_nil ?_
        refine join_z (by omega) ?_
        exact ⟨by rw [show (fun i j => comp (wd.length + 1) (stp wd L a) (stp wd L b) i j || (nul a && stp wd L b i j)) = orm (comp (wd.length + 1) (stp wd L a) (stp wd L b)) (stp wd L b) from by funext i j; simp [orm, hc]]; (try rfl), rfl⟩
      · refine bl_nil ?_
        exact ⟨by rw [show (fun i j => comp (wd.length + 1) (stp wd L a) (stp wd L b) i j || (nul a && stp wd L b i j)) = (comp (wd.length + 1) (stp wd L a) (stp wd L b)) from by funext i j; simp [orm, hc]]; (try rfl), rfl⟩
    rintro _ _ ⟨rfl, rfl⟩
    refine bl_cut (fun Γ' Ts' => Γ' = [some (tup K [isS "join", exP K a, exP K b]), some (lst (zl (wd ++ [L]))), some (isI (wd.length : Int)), some (isI ((wd.length + 1 : Nat) : Int)), some (lst (mxL (wd.length + 1) (stp wd L a))), some (lst (mxL (wd.length + 1) (stp wd L b))), some (lst (mxL (wd.length + 1) (stp wd L (.join a b)))), none, none, none] ∧ Ts' = []) ?_ ?_
    · refine sx_if ?_
      refine et_val ?_
      refine ev_call Nu (hr.mono (by omega)) ?_
      refine ea_cons ?_
      refine ev_ix ?_
      refine ev_var 0 rfl ?_
      refine ev_int ?_
      refine ix_T (atI_ofNat (by decide) rfl) ?_
      refine ea_nil ?_
      refine nul_z (Nat.le_trans hdb (by omega)) ?_
      refine ⟨_, rfl, ?_⟩
      refine ⟨fun hc => ?_, fun hc => ?_⟩
      · refine bl_one ?_
        refine sx_asg 6 ?_
        refine ev_call Jn (hr.mono (by omega)) ?_
        refine ea_cons ?_
        refine ev_var 6 rfl ?_
        refine ea_cons ?_
        refine ev_var 4 rfl ?_
        refine ea_nil ?_
        refine join_z (by omega) ?_
        exact ⟨by rw [show (stp wd L (.join a b)) = orm (fun i j => comp (wd.length + 1) (stp wd L a) (stp wd L b) i j || (nul a && stp wd L b i j)) (stp wd L a) from by funext i j; simp [stp, orm, hc]]; (try rfl), rfl⟩
      · refine bl_nil ?_
        exact ⟨by rw [show (stp wd L (.join a b)) = (fun i j => comp (wd.length + 1) (stp wd L a) (stp wd L b) i j || (nul a && stp wd L b i j)) from by funext i j; simp [stp, orm, hc]]; (try rfl), rfl⟩
    rintro _ _ ⟨rfl, rfl⟩
    refine bl_one ?_
    refine sx_ret ?_
    refine ev_var 6 rfl ?_
    exact ⟨rfl, rfl⟩
  | alt a b =>
    show Bl _ _ [some (tup K [isS "either", exP K a, exP K b]), some (lst (zl (wd ++ [L]))), some (isI (wd.length : Int)), none, none, none, none, none, none, none] [] [] _ _
    refine bl_cons ?_
    refine sx_asg 3 ?_
    refine ev_cb T.len bt_len ?_
    refine ea_cons ?_
    refine ev_var 1 rfl ?_
    refine ea_nil ?_
    refine len_L (.l isL_lst) ?_
    rw [hlen]
    refine bl_cons ?_
    refine sx_if ?_
    refine et_cmp ?_
    refine ev_ix ?_
    refine ev_var 0 rfl ?_
    refine ev_int ?_
    refine ix_T (atI_ofNat (by decide) rfl) ?_
    refine ev_str ?_
    refine oz_eqS ?_
    rw [show decide (("either" : Str) = ("letter" : Str)) = false by decide +kernel]
    refine ⟨_, rfl, ?_⟩
    refine ⟨fun q => (nomatch q), fun _ => ?_⟩
    refine bl_nil ?_
    refine bl_cons ?_
    refine sx_if ?_
    refine et_cmp ?_
    refine ev_cb T.len bt_len ?_
    refine ea_cons ?_
    refine ev_var 0 rfl ?_
    refine ea_nil ?_
    refine len_T ?_
    refine ev_int ?_
    refine oz_eqI ?_
    refine ⟨false, rfl, ?_⟩
    refine ⟨fun q => (nomatch q), fun _ => ?_⟩
    have hd2 : max (dep a) (dep b) + 1 ≤ d := hd
    have hda : dep a ≤ d - 1 := by have := Nat.le_max_left (dep a) (dep b); omega
    have hdb : dep b ≤ d - 1 := by have := Nat.le_max_right (dep a) (dep b); omega
    obtain ⟨d', rfl⟩ : ∃ d', d = d' + 1 := ⟨d - 1, by omega⟩
    have Rc := Rec d' rfl
    refine bl_nil ?_
    refine bl_cons ?_
    refine sx_asg 4 ?_
    refine ev_call Rc hr ?_
    refine ea_cons ?_
    refine ev_ix ?_
    refine ev_var 0 rfl ?_
    refine ev_int ?_
    refine ix_T (atI_ofNat (by decide) rfl) ?_
    refine ea_cons ?_
    refine ev_var 1 rfl ?_
    refine ea_cons ?_
    refine ev_var 2 rfl ?_
    refine ea_nil ?_
    refine st_z hda hw ?_
    refine bl_cons ?_
    refine sx_if ?_
    refine et_cmp ?_
    refine ev_ix ?_
    refine ev_var 0 rfl ?_
    refine ev_int ?_
    refine ix_T (atI_ofNat (by decide) rfl) ?_
    refine ev_str ?_
    refine oz_eqS ?_
    rw [show decide (("either" : Str) = ("star" : Str)) = false by decide +kernel]
    refine ⟨_, rfl, ?_⟩
    refine ⟨fun q => (nomatch q), fun _ => ?_⟩
    refine bl_nil ?_
    refine bl_cons ?_
    refine sx_asg 5 ?_
    refine ev_call Rc hr ?_
    refine ea_cons ?_
    refine ev_ix ?_
    refine ev_var 0 rfl ?_
    refine ev_int ?_
    refine ix_T (atI_ofNat (by decide) rfl) ?_
    refine ea_cons ?_
    refine ev_var 1 rfl ?_
    refine ea_cons ?_
    refine ev_var 2 rfl ?_
    refine ea_nil ?_
    refine st_z hdb hw ?_
    refine bl_cons ?_
    refine sx_if ?_
    refine et_cmp ?_
    refine ev_ix ?_
    refine ev_var 0 rfl ?_
    refine ev_int ?_
    refine ix_T (atI_ofNat (by decide) rfl) ?_
    refine ev_str ?_
    refine oz_eqS ?_
    rw [show decide (("either" : Str) = ("either" : Str)) = true by decide +kernel]
    refine ⟨_, rfl, ?_⟩
    refine ⟨fun _ => ?_, fun q => (nomatch q)⟩
    refine bl_one ?_
    refine sx_ret ?_
    refine ev_call Jn (hr.mono (by omega)) ?_
    refine ea_cons ?_
    refine ev_var 4 rfl ?_
    refine ea_cons ?_
    refine ev_var 5 rfl ?_
    refine ea_nil ?_
    refine join_z (by omega) ?_
    exact ⟨rfl, rfl⟩
end
end K71
set_option maxHeartbeats 4000000
namespace K71
open PySem PySem.Spec PyProof.Rows L2 Z P71
section
variable {P : Program} {w : World} {K : PySem.W.Frag} {mg : Str → Option Value} {base : Heap} {f : Addr} {fd : FuncData}
abbrev s_law_made : Stmt := top 12
theorem sc_law_made : FnScope ["_law_draws_here", "_law_expression_here", "_law_found", "_law_k"] ["_law_draws_here", "_law_expression_here"] (defScope s_law_made) := ⟨rfl, rfl, rfl, by decide +kernel, rfl, by decide +kernel, by decide +kernel⟩
def pMade (K : PySem.W.Frag) (d : Nat) : Pr {a : Addr × List Int × Rx // dep a.2.2 ≤ d} where
  args a := [isR a.1.1, exP K a.1.2.2]
  own a := [drs a.1.1 a.1.2.1]
  post a R Ts := ∃ u ds', R = lst (zl u) ∧ u.length ≤ 2 ^ d ∧ Ts = [drs a.1.1 ds']
theorem made_z {X : Cx} {e : En} {Γ : List (Option VP)} {Ts : Ow} {p : Addr} {ds : List Int} {d : Nat} {a : Rx} {Φ : VP → Ow → Prop} {Ψ : XP} (ha : dep a ≤ d) (h : ∀ u ds', u.length ≤ 2 ^ d → Φ (lst (zl u)) (drs p ds' :: Ts)) : CallZ X e Γ [] (pMade X.K d) [isR p, exP X.K a] (drs p ds :: Ts) Φ Ψ :=
  ⟨⟨(p, ds, a), ha⟩, Ts, Ent.refl _, .refl _, fun P Ts' ⟨u, ds', e1, hu, e2⟩ => by
    subst e1; subst e2
    exact h u ds' hu, fun _ _ _ z => z.elim⟩
theorem ok_made_step (d : Nat) (hd10 : d ≤ 10) (F : FnP K "_law_made" "_law_made" s_law_made f fd) (T : Tx mg) (Tk : Fz P w K mg base 1 "_law_take" [] pTake) (Rec : ∀ d', d = d' + 1 → Fz P w K mg base (d' + 2) "_law_made" [] (pMade K d')) :
    FnOk P w K mg base (L2.CX P w) (d + 2) f fd ["_law_draws_here", "_law_expression_here"] (Prom (pMade K d)) := by
  refine def_ok F sc_law_made (fun a => rfl) fun a e cdv A outer s H E hr => ?_
  obtain ⟨⟨p, ds, ex⟩, hd⟩ := a
  have hd : dep ex ≤ d := hd
  cases ex with
  | non =>
    show Bl _ _ [some (isR p), some (tup K [isS "none"]), none, none] [] [drs p ds] _ _
    refine bl_cons ?_
    refine sx_if ?_
    refine et_cmp ?_
    refine ev_ix ?_
    refine ev_var 1 rfl ?_
    refine ev_int ?_
    refine ix_T (atI_ofNat (by decide) rfl) ?_
    refine ev_str ?_
    refine oz_eqS ?_
    rw [show decide (("none" : Str) = ("letter" : Str)) = false by decide +kernel]
    refine ⟨_, rfl, ?_⟩
    refine ⟨fun q => (nomatch q), fun _ => ?_⟩
    refine bl_nil ?_
    refine bl_cons ?_
    refine sx_if ?_
    refine et_cmp ?_
    refine ev_cb T.len bt_len ?_
    refine ea_cons ?_
    refine ev_var 1 rfl ?_
    refine ea_nil ?_
    refine len_T ?_
    refine ev_int ?_
    refine oz_eqI ?_
    refine ⟨true, rfl, ?_⟩
    refine ⟨fun _ => ?_, fun q => (nomatch q)⟩
    refine bl_one ?_
    refine sx_ret ?_
    refine ev_lstF ?_
    refine ea_nil ?_
    refine ⟨Nat.le_of_ble_eq_true rfl, ?_⟩
    exact ⟨[], ds, rfl, Nat.zero_le _, rfl⟩
  | emp =>
    show Bl _ _ [some (isR p), some (tup K [isS "empty"]), none, none] [] [drs p ds] _ _
    refine bl_cons ?_
    refine sx_if ?_
    refine et_cmp ?_
    refine ev_ix ?_
    refine ev_var 1 rfl ?_
    refine ev_int ?_
    refine ix_T (atI_ofNat (by decide) rfl) ?_
    refine ev_str ?_
    refine oz_eqS ?_
    rw [show decide (("empty" : Str) = ("letter" : Str)) = false by decide +kernel]
    refine ⟨_, rfl, ?_⟩
    refine ⟨fun q => (nomatch q), fun _ => ?_⟩
    refine bl_nil ?_
    refine bl_cons ?_
    refine sx_if ?_
    refine et_cmp ?_
    refine ev_cb T.len bt_len ?_
    refine ea_cons ?_
    refine ev_var 1 rfl ?_
    refine ea_nil ?_
    refine len_T ?_
    refine ev_int ?_
    refine oz_eqI ?_
    refine ⟨true, rfl, ?_⟩
    refine ⟨fun _ => ?_, fun q => (nomatch q)⟩
    refine bl_one ?_
    refine sx_ret ?_
    refine ev_lstF ?_
    refine ea_nil ?_
    refine ⟨Nat.le_of_ble_eq_true rfl, ?_⟩
    exact ⟨[], ds, rfl, Nat.zero_le _, rfl⟩
  | lt c =>
    show Bl _ _ [some (isR p), some (tup K [isS "letter", isI c]), none, none] [] [drs p ds] _ _
    refine bl_cons ?_
    refine sx_if ?_
    refine et_cmp ?_
    refine ev_ix ?_
    refine ev_var 1 rfl ?_
    refine ev_int ?_
    refine ix_T (atI_ofNat (by decide) rfl) ?_
    refine ev_str ?_
    refine oz_eqS ?_
    rw [show decide (("letter" : Str) = ("letter" : Str)) = true by decide +kernel]
    refine ⟨_, rfl, ?_⟩
    refine ⟨fun _ => ?_, fun q => (nomatch q)⟩
    refine bl_one ?_
    refine sx_ret ?_
    refine ev_lstF ?_
    refine ea_cons ?_
    refine ev_ix ?_
    refine ev_var 1 rfl ?_
    refine ev_int ?_
    refine ix_T (atI_ofNat (by decide) rfl) ?_
    refine ea_nil ?_
    refine ⟨Nat.le_of_ble_eq_true rfl, ?_⟩
    exact ⟨[c], ds, rfl, Nat.one_le_two_pow, rfl⟩
  | star a =>
    show Bl _ _ [some (isR p), some (tup K [isS "star", exP K a]), none, none] [] [drs p ds] _ _
    refine bl_cons ?_
    refine sx_if ?_
    refine et_cmp ?_
    refine ev_ix ?_
    refine ev_var 1 rfl ?_
    refine ev_int ?_
    refine ix_T (atI_ofNat (by decide) rfl) ?_
    refine ev_str ?_
    refine oz_eqS ?_
    rw [show decide (("star" : Str) = ("letter" : Str)) = false by decide +kernel]
    refine ⟨_, rfl, ?_⟩
    refine ⟨fun q => (nomatch q), fun _ => ?_⟩
    refine bl_nil ?_
    refine bl_cons ?_
    refine sx_if ?_
    refine et_cmp ?_
    refine ev_cb T.len bt_len ?_
    refine ea_cons ?_
    refine ev_var 1 rfl ?_
    refine ea_nil ?_
    refine len_T ?_
    refine ev_int ?_
    refine oz_eqI ?_
    refine ⟨false, rfl, ?_⟩
    refine ⟨fun q => (nomatch q), fun _ => ?_⟩
    have hd2 : dep a + 1 ≤ d := hd
    have hda : dep a ≤ d - 1 := by omega
    obtain ⟨d', rfl⟩ : ∃ d', d = d' + 1 := ⟨d - 1, by omega⟩
    have Rc := Rec d' rfl
    have hpow : 2 ^ (d' + 1) = 2 ^ d' + 2 ^ d' := by rw [Nat.pow_succ]; omega
    have hp0 : 0 < 2 ^ d' := Nat.pow_pos (by decide)
    have hbig : 2 ^ d' ≤ 1024 := Nat.pow_le_pow_right (by decide) (by omega : d' ≤ 10)
    refine bl_nil ?_
    refine bl_cons ?_
    refine sx_if ?_
    refine et_cmp ?_
    refine ev_ix ?_
    refine ev_var 1 rfl ?_
    refine ev_int ?_
    refine ix_T (atI_ofNat (by decide) rfl) ?_
    refine ev_str ?_
    refine oz_eqS ?_
    rw [show decide (("star" : Str) = ("star" : Str)) = true by decide +kernel]
    refine ⟨_, rfl, ?_⟩
    refine ⟨fun _ => ?_, fun q => (nomatch q)⟩
    refine bl_cons ?_
    refine sx_asg 2 ?_
    refine ev_lstF ?_
    refine ea_nil ?_
    refine ⟨Nat.le_of_ble_eq_true rfl, ?_⟩
    refine bl_cons ?_
    refine sx_for rfl ?_
    refine ei_range1 T.range ?_
    refine ev_call Tk (hr.mono (by omega)) ?_
    refine ea_cons ?_
    refine ev_var 0 rfl ?_
    refine ea_cons ?_
    refine ev_int ?_
    refine ea_nil ?_
    refine take_z 0 rfl (by decide) fun n3 ds h30 h31 => ?_
    refine ⟨_, rfl, by omega, by omega, ?_⟩
    refine ⟨fun i Γ' Ts' => ∃ (u ds : List Int) (x3 : Option VP), u.length ≤ i * 2 ^ d' ∧ Γ' = [some (isR p), some (tup K [isS "star", exP K a]), some (lst (zl u)), x3] ∧ Ts' = [drs p ds], ⟨[], ds, _, by simp, rfl, rfl⟩, fun _ _ _ _ _ => trivial, ?_, ?_⟩
    · rintro i R' _ _ hi rfl ⟨u, ds, x3, hu, rfl, rfl⟩
      have hi2 : i < 2 := by omega
      have hi3 : i = 0 ∨ i = 1 := by omega
      have hu2 : u.length ≤ 1024 := Nat.le_trans hu (by rcases hi3 with rfl | rfl <;> omega)
      refine tg_name 3 ?_
      refine bl_one ?_
      refine sx_asg 2 ?_
      refine ev_bin ?_
      refine ev_var 2 rfl ?_
      refine ev_call Rc hr ?_
      refine ea_cons ?_
      refine ev_var 0 rfl ?_
      refine ea_cons ?_
      refine ev_ix ?_
      refine ev_var 1 rfl ?_
      refine ev_int ?_
      refine ix_T (atI_ofNat (by decide) rfl) ?_
      refine ea_nil ?_
      refine made_z hda fun v ds hv => ?_
      refine oz_catF .l .l (by rw [List.length_map, List.length_map]; show _ ≤ 16777216; have hv : v.length ≤ 2 ^ d' := hv; omega) ?_
      rw [show zl u ++ zl v = zl (u ++ v) from (List.map_append ..).symm]
      exact ⟨u ++ v, ds, _, by rw [List.length_append, Nat.add_mul]; have hv : v.length ≤ 2 ^ d' := hv; omega, rfl, rfl⟩
    rintro _ _ ⟨u, ds, x3, hu, rfl, rfl⟩
    refine bl_one ?_
    refine sx_ret ?_
    refine ev_var 2 rfl ?_
    refine ⟨u, ds, rfl, ?_, rfl⟩
    have h2 : n3.toNat = 0 ∨ n3.toNat = 1 ∨ n3.toNat = 2 := by omega
    rcases h2 with h | h | h <;> rw [h] at hu <;> omega
  | join a b =>
    show Bl _ _ [some (isR p), some (tup K [isS "join", exP K a, exP K b]), none, none] [] [drs p ds] _ _
    refine bl_cons ?_
    refine sx_if ?_
    refine et_cmp ?_
    refine ev_ix ?_
    refine ev_var 1 rfl ?_
    refine ev_int ?_
    refine ix_T (atI_ofNat (by decide) rfl) ?_
    refine ev_str ?_
    refine oz_eqS ?_
    rw [show decide (("join" : Str) = ("letter" : Str)) = false by decide +kernel]
    refine ⟨_, rfl, ?_⟩
    refine ⟨fun q => (nomatch q), fun _ => ?_⟩
    refine bl_nil ?_
    refine bl_cons ?_
    refine sx_if ?_
    refine et_cmp ?_
    refine ev_cb T.len bt_len ?_
    refine ea_cons ?_
    refine ev_var 1 rfl ?_
    refine ea_nil ?_
    refine len_T ?_
    refine ev_int ?_
    refine oz_eqI ?_
    refine ⟨false, rfl, ?_⟩
    refine ⟨fun q => (nomatch q), fun _ => ?_⟩
    have hd2 : max (dep a) (dep b) + 1 ≤ d := hd
    have hda : dep a ≤ d - 1 := by have := Nat.le_max_left (dep a) (dep b); omega
    have hdb : dep b ≤ d - 1 := by have := Nat.le_max_right (dep a) (dep b); omega
    obtain ⟨d', rfl⟩ : ∃ d', d = d' + 1 := ⟨d - 1, by omega⟩
    have Rc := Rec d' rfl
    have hpow : 2 ^ (d' + 1) = 2 ^ d' + 2 ^ d' := by rw [Nat.pow_succ]; omega
    have hp0 : 0 < 2 ^ d' := Nat.pow_pos (by decide)
    have hbig : 2 ^ d' ≤ 1024 := Nat.pow_le_pow_right (by decide) (by omega : d' ≤ 10)
    refine bl_nil ?_
    refine bl_cons ?_
    refine sx_if ?_
    refine et_cmp ?_
    refine ev_ix ?_
    refine ev_var 1 rfl ?_
    refine ev_int ?_
    refine ix_T (atI_ofNat (by decide) rfl) ?_
    refine ev_str ?_
    refine oz_eqS ?_
    rw [show decide (("join" : Str) = ("star" : Str)) = false by decide +kernel]
    refine ⟨_, rfl, ?_⟩
    refine ⟨fun q => (nomatch q), fun _ => ?_⟩
    refine bl_nil ?_
    refine bl_cons ?_
    refine sx_if ?_
    refine et_cmp ?_
    refine ev_ix ?_
    refine ev_var 1 rfl ?_
    refine ev_int ?_
    refine ix_T (atI_ofNat (by decide) rfl) ?_
    refine ev_str ?_
    refine oz_eqS ?_
    rw [show decide (("join" : Str) = ("either" : Str)) = false by decide +kernel]
    refine ⟨_, rfl, ?_⟩
    refine ⟨fun q => (nomatch q), fun _ => ?_⟩
    refine bl_nil ?_
    refine bl_one ?_
    refine sx_ret ?_
    refine ev_bin ?_
    refine ev_call Rc hr ?_
    refine ea_cons ?_
    refine ev_var 0 rfl ?_
    refine ea_cons ?_
    refine ev_ix ?_
    refine ev_var 1 rfl ?_
    refine ev_int ?_
    refine ix_T (atI_ofNat (by decide) rfl) ?_
    refine ea_nil ?_
    refine made_z hda fun u ds hu => ?_
    refine ev_call Rc hr ?_
    refine ea_cons ?_
    refine ev_var 0 rfl ?_
    refine ea_cons ?_
    refine ev_ix ?_
    refine ev_var 1 rfl ?_
    refine ev_int ?_
    refine ix_T (atI_ofNat (by decide) rfl) ?_
    refine ea_nil ?_
    refine made_z hdb fun v ds hv => ?_
    refine oz_catF .l .l (by rw [List.length_map, List.length_map]; show _ ≤ 16777216; omega) ?_
    rw [show zl u ++ zl v = zl (u ++ v) from (List.map_append ..).symm]
    exact ⟨u ++ v, ds, rfl, by rw [List.length_append]; omega, rfl⟩
  | alt a b =>
    show Bl _ _ [some (isR p), some (tup K [isS "either", exP K a, exP K b]), none, none] [] [drs p ds] _ _
    refine bl_cons ?_
    refine sx_if ?_
    refine et_cmp ?_
    refine ev_ix ?_
    refine ev_var 1 rfl ?_
    refine ev_int ?_
    refine ix_T (atI_ofNat (by decide) rfl) ?_
    refine ev_str ?_
    refine oz_eqS ?_
    rw [show decide (("either" : Str) = ("letter" : Str)) = false by decide +kernel]
    refine ⟨_, rfl, ?_⟩
    refine ⟨fun q => (nomatch q), fun _ => ?_⟩
    refine bl_nil ?_
    refine bl_cons ?_
    refine sx_if ?_
    refine et_cmp ?_
    refine ev_cb T.len bt_len ?_
    refine ea_cons ?_
    refine ev_var 1 rfl ?_
    refine ea_nil ?_
    refine len_T ?_
    refine ev_int ?_
    refine oz_eqI ?_
    refine ⟨false, rfl, ?_⟩
    refine ⟨fun q => (nomatch q), fun _ => ?_⟩
    have hd2 : max (dep a) (dep b) + 1 ≤ d := hd
    have hda : dep a ≤ d - 1 := by have := Nat.le_max_left (dep a) (dep b); omega
    have hdb : dep b ≤ d - 1 := by have := Nat.le_max_right (dep a) (dep b); omega
    obtain ⟨d', rfl⟩ : ∃ d', d = d' + 1 := ⟨d - 1, by omega⟩
    have Rc := Rec d' rfl
    have hpow : 2 ^ (d' + 1) = 2 ^ d' + 2 ^ d' := by rw [Nat.pow_succ]; omega
    have hp0 : 0 < 2 ^ d' := Nat.pow_pos (by decide)
    have hbig : 2 ^ d' ≤ 1024 := Nat.pow_le_pow_right (by decide) (by omega : d' ≤ 10)
    refine bl_nil ?_
    refine bl_cons ?_
    refine sx_if ?_
    refine et_cmp ?_
    refine ev_ix ?_
    refine ev_var 1 rfl ?_
    refine ev_int ?_
    refine ix_T (atI_ofNat (by decide) rfl) ?_
    refine ev_str ?_
    refine oz_eqS ?_
    rw [show decide (("either" : Str) = ("star" : Str)) = false by decide +kernel]
    refine ⟨_, rfl, ?_⟩
    refine ⟨fun q => (nomatch q), fun _ => ?_⟩
    refine bl_nil ?_
    refine bl_cons ?_
    refine sx_if ?_
    refine et_cmp ?_
    refine ev_ix ?_
    refine ev_var 1 rfl ?_
    refine ev_int ?_
    refine ix_T (atI_ofNat (by decide) rfl) ?_
    refine ev_str ?_
    refine oz_eqS ?_
    rw [show decide (("either" : Str) = ("either" : Str)) = true by decide +kernel]
    refine ⟨_, rfl, ?_⟩
    refine ⟨fun _ => ?_, fun q => (nomatch q)⟩
    refine bl_one ?_
    refine sx_ret ?_
    refine ev_call Rc hr ?_
    refine ea_cons ?_
    refine ev_var 0 rfl ?_
    refine ea_cons ?_
    refine ev_ix ?_
    refine ev_var 1 rfl ?_
    refine ev_bin ?_
    refine ev_int ?_
    refine ev_call Tk (hr.mono (by omega)) ?_
    refine ea_cons ?_
    refine ev_var 0 rfl ?_
    refine ea_cons ?_
    refine ev_int ?_
    refine ea_nil ?_
    refine take_z 0 rfl (by decide) fun v ds hv0 hv1 => ?_
    refine oz_add ?_
    have hv : v = 0 ∨ v = 1 := by omega
    rcases hv with rfl | rfl
    · refine ix_T (atI_ofNat (by decide) rfl) ?_
      refine ea_nil ?_
      refine made_z hda fun u ds hu => ?_
      exact ⟨u, ds, rfl, by omega, rfl⟩
    · refine ix_T (atI_ofNat (by decide) rfl) ?_
      refine ea_nil ?_
      refine made_z hdb fun u ds hu => ?_
      exact ⟨u, ds, rfl, by omega, rfl⟩
end
end K71
set_option maxHeartbeats 4000000
namespace K71
open PySem PySem.Spec PyProof.Rows L2 Z P71
/-- places as whole numbers -/
abbrev nl (ks : List Nat) : List VP := ks.map fun (k : Nat) => isI (k : Int)
theorem nl_V (ks : List Nat) : nl ks = ((ks.map fun (k : Nat) => (k : Int)).map V.int).map isV := by rw [List.map_map, List.map_map]; rfl
theorem nl_app (ks : List Nat) (k : Nat) : nl ks ++ [isI (k : Int)] = nl (ks ++ [k]) := by simp
theorem nl_get {ks : List Nat} {i : Nat} (h : i < ks.length) : (nl ks)[i]? = some (isI (ks[i] : Int)) := by simp [h]
/-- the class Places -/
structure PlT (K : PySem.W.Frag) (C : Addr) : Prop where
  cl : Cls K C
  letters : NoAttr K C "letters"
  follow : NoAttr K C "follow"
  nullable : NoAttr K C "nullable"
  first : NoAttr K C "first"
  last : NoAttr K C "last"
/-- the lists of follow, each its own cell -/
def inr (rs : List Addr) (fo : List (List Nat)) : Ow := List.zipWith (fun r ks => (r, cL (nl ks))) rs fo
theorem inr_get {rs : List Addr} {fo : List (List Nat)} (hl : rs.length = fo.length) {p : Nat} (h : p < fo.length) : (inr rs fo)[p]? = some (rs[p], cL (nl fo[p])) := by
  unfold inr
  rw [List.getElem?_zipWith, List.getElem?_eq_getElem (by omega), List.getElem?_eq_getElem h]
theorem inr_set {rs : List Addr} {fo : List (List Nat)} (hl : rs.length = fo.length) {p : Nat} (h : p < fo.length) (ks : List Nat) : (inr rs fo).set p (rs[p], cL (nl ks)) = inr rs (fo.set p ks) := by
  unfold inr
  apply List.ext_getElem?
  intro i
  by_cases hi : i < fo.length
  · rw [List.getElem?_zipWith, List.getElem?_eq_getElem (show i < rs.length by omega), List.getElem?_eq_getElem (show i < (fo.set p ks).length by simpa using hi)]
    by_cases hp : p = i
    · subst hp
      rw [List.getElem?_set_self (by simp; omega)]
      simp
    · rw [List.getElem?_set_ne hp, List.getElem?_zipWith, List.getElem?_eq_getElem (show i < rs.length by omega), List.getElem?_eq_getElem hi, List.getElem_set_ne hp]
  · rw [List.getElem?_eq_none (by simp; omega), List.getElem?_eq_none (by simp; omega)]
abbrev plS (l C pl pf : Addr) (rs : List Addr) (le : List Int) (fo : List (List Nat)) : Ow := (l, cI C [("letters", isR pl), ("follow", isR pf)]) :: (pl, cL (zl le)) :: (pf, cL (rs.map fun r => isR r)) :: inr rs fo
structure PlA where
  l : Addr
  pl : Addr
  pf : Addr
  rs : List Addr
  le : List Int
  fo : List (List Nat)
  hl : rs.length = fo.length
  hz : ∀ ks ∈ fo, ks.length < 2000
structure LkA extends PlA where
  ls : List Nat
  fs : List Nat
  hls : ∀ k ∈ ls, k < fo.length
  hfs : fs.length * ls.length < 2000
section
variable {P : Program} {w : World} {K : PySem.W.Frag} {mg : Str → Option Value} {base : Heap} {f : Addr} {fd : FuncData}
abbrev s_Places_fitting : Stmt := inClass (top 1) 3
theorem sc_Places_fitting : FnScope ["self", "places", "letter", "k"] ["self", "places", "letter"] (defScope s_Places_fitting) := ⟨rfl, rfl, rfl, by decide +kernel, rfl, by decide +kernel, by decide +kernel⟩
end
end K71
set_option maxHeartbeats 4000000
namespace K71
open PySem PySem.Spec PyProof.Rows L2 Z P71
section
variable {P : Program} {w : World} {K : PySem.W.Frag} {mg : Str → Option Value} {base : Heap} {f : Addr} {fd : FuncData}
abbrev s_Places_link : Stmt := inClass (top 1) 1
theorem sc_Places_link : FnScope ["self", "lasts", "firsts", "last", "first"] ["self", "lasts", "firsts"] (defScope s_Places_link) := ⟨rfl, rfl, rfl, by decide +kernel, rfl, by decide +kernel, by decide +kernel⟩
structure LnA where
  l : Addr
  pl : Addr
  pf : Addr
  rs : List Addr
  le : List Int
  fo : List (List Nat)
  ls : List Nat
  fs : List Nat
  hl : rs.length = fo.length
  hz : fo.length < 1000
  ok : Fok fo
  hls : ∀ k ∈ ls, k < fo.length
  hfs : ∀ k ∈ fs, k < fo.length
def pLink (C : Addr) : Pr LnA where
  args a := [isR a.l, lst (nl a.ls), lst (nl a.fs)]
  own a := plS a.l C a.pl a.pf a.rs a.le a.fo
  post a R Ts := R = isN ∧ Ts = plS a.l C a.pl a.pf a.rs a.le (link a.fo a.ls a.fs)
theorem ok_link {C : Addr} (F : FnP K "link" "Places.link" s_Places_link f fd) (M : PlT K C) : FnOk P w K mg base (L2.CX P w) 1 f fd ["self", "lasts", "firsts"] (Prom (pLink C)) := by
  refine def_ok F sc_Places_link (fun a => rfl) fun a e cdv A outer s H E hr => ?_
  obtain ⟨l, pl, pf, rs, le, fo, ls, fs, hl, hz, ok, hls, hfs⟩ := a
  show Bl _ _ [some (isR l), some (lst (nl ls)), some (lst (nl fs)), none, none] [] (plS l C pl pf rs le fo) _ _
  refine bl_one ?_
  refine sx_for rfl ?_
  refine ei_val ?_
  refine ev_var 1 rfl ?_  -- lasts
  refine wz_L (.l isL_lst) ?_  -- wz_L | wz_T
  refine ⟨fun i Γ' Ts' => ∃ (g : List (List Nat)) (x3 x4 : Option VP), g = link fo (ls.take i) fs ∧ g.length = fo.length ∧ Fok g ∧ Γ' = [some (isR l), some (lst (nl ls)), some (lst (nl fs)), x3, x4] ∧ Ts' = plS l C pl pf rs le g, ⟨fo, none, none, rfl, rfl, ok, rfl, rfl⟩, fun _ _ _ _ _ => .l isL_lst, ?_, ?_⟩  -- for
  ·
    rintro i R _ _ hi hR ⟨g, x3, x4, eg, hgl, hgo, rfl, rfl⟩
    have hi' : i < ls.length := by simpa using hi
    rw [nl_get hi'] at hR
    obtain rfl := Option.some.inj hR
    have hp := hls _ (List.getElem_mem hi')
    have estep : link fo (ls.take (i + 1)) fs = linkF g ls[i] fs := by
      unfold link
      rw [List.take_succ, List.getElem?_eq_getElem hi', List.foldl_append, eg]; rfl
    generalize ls[i] = p at hp estep
    refine tg_name 3 ?_  -- last
    refine bl_one ?_
    refine sx_for rfl ?_
    refine ei_val ?_
    refine ev_var 2 rfl ?_  -- firsts
    refine wz_L (.l isL_lst) ?_  -- wz_L | wz_T
    refine ⟨fun j Γ' Ts' => ∃ (g2 : List (List Nat)) (x4 : Option VP), g2 = linkF g p (fs.take j) ∧ g2.length = fo.length ∧ Fok g2 ∧ Γ' = [some (isR l), some (lst (nl ls)), some (lst (nl fs)), some (isI (p : Int)), x4] ∧ Ts' = plS l C pl pf rs le g2, ⟨g, _, rfl, hgl, hgo, rfl, rfl⟩, fun _ _ _ _ _ => .l isL_lst, ?_, ?_⟩  -- for
    ·
      rintro j R _ _ hj hR ⟨g2, x4, eg2, hg2l, hg2o, rfl, rfl⟩
      have hj' : j < fs.length := by simpa using hj
      rw [nl_get hj'] at hR
      obtain rfl := Option.some.inj hR
      have hq := hfs _ (List.getElem_mem hj')
      have estep2 : linkF g p (fs.take (j + 1)) = link1 g2 p fs[j] := by
        unfold linkF
        rw [List.take_succ, List.getElem?_eq_getElem hj', List.foldl_append, eg2]; rfl
      generalize fs[j] = q at hq estep2
      have hp2 : p < g2.length := by omega
      have hq2 : q < g2.length := by omega
      have hrl : rs.length = g2.length := by omega
      have hk : (plS l C pl pf rs le g2)[p + 3]? = some (rs[p], cL (nl g2[p])) := inr_get hrl hp2
      have hgp : g2.getD p [] = g2[p] := by rw [List.getD_eq_getElem?_getD, List.getElem?_eq_getElem hp2]; rfl
      have hlen := hg2o.len hp2
      rw [hgp] at hlen
      have hrs : (rs.map fun r => isR r)[(p : Int).toNat]? = some (isR rs[p]) := by
        rw [Int.toNat_natCast, List.getElem?_map, List.getElem?_eq_getElem (by omega)]; rfl
      refine tg_name 4 ?_  -- first
      refine bl_one ?_
      refine sx_if ?_
      refine et_cmp ?_
      refine ev_var 4 rfl ?_  -- first
      refine ev_ix ?_
      refine ev_attr ?_
      refine ev_var 0 rfl ?_  -- self
      refine at_O 0 rfl M.cl M.follow rfl ?_  -- at_F | at_O
      refine ev_var 3 rfl ?_  -- last
      refine ix_L (.o 2 rfl) (atI_ofNat (Int.natCast_nonneg p) hrs) ?_  -- ix_L | ix_T | ix_S
      refine oz_notinL (xs := (g2[p].map fun (k : Nat) => (k : Int)).map V.int) (by rw [← nl_V]; exact .o (p + 3) hk) rfl (flat_ints _) ?_
      rw [inV_ints]
      refine ⟨_, rfl, ?_⟩  -- test
      have hmem : decide ((q : Int) ∈ g2[p].map fun (k : Nat) => (k : Int)) = decide (q ∈ g2[p]) := by
        refine decide_eq_decide.mpr ?_
        rw [List.mem_map]
        exact ⟨fun ⟨x, hx, hxq⟩ => by rw [← Int.ofNat.inj hxq]; exact hx, fun h => ⟨q, h, rfl⟩⟩
      rw [hmem]
      refine ⟨fun hc => ?_, fun hc => ?_⟩  -- if
      ·
        have hc : ¬ q ∈ g2[p] := by simpa using hc
        refine bl_one ?_
        refine sx_expr ?_
        refine ev_bm ?_
        refine ev_ix ?_
        refine ev_attr ?_
        refine ev_var 0 rfl ?_  -- self
        refine at_O 0 rfl M.cl M.follow rfl ?_  -- at_F | at_O
        refine ev_var 3 rfl ?_  -- last
        refine ix_L (.o 2 rfl) (atI_ofNat (Int.natCast_nonneg p) hrs) ?_  -- ix_L | ix_T | ix_S
        refine ⟨_, _, bm_append, ty_L (.o (p + 3) hk), ?_⟩
        refine ea_cons ?_
        refine ev_var 4 rfl ?_  -- first
        refine ea_nil ?_
        refine mt_app (p + 3) hk (by rw [List.length_map]; show _ < 16777216; omega) ?_
        have e1 : link1 g2 p q = g2.set p (g2[p] ++ [q]) := by unfold link1; rw [hgp, if_neg hc]
        refine ⟨link1 g2 p q, _, estep2.symm, by rw [link1_len]; exact hg2l, hg2o.link1 hp2 hq2, rfl, ?_⟩
        rw [e1, nl_app]
        show _ :: _ :: _ :: (inr rs g2).set p (rs[p], cL (nl (g2[p] ++ [q]))) = _
        rw [inr_set hrl hp2]
      ·
        have hc : q ∈ g2[p] := by simpa using hc
        refine bl_nil ?_
        have e1 : link1 g2 p q = g2 := by unfold link1; rw [hgp, if_pos hc]
        exact ⟨g2, _, by rw [estep2, e1], hg2l, hg2o, rfl, rfl⟩
    rintro _ _ ⟨g2, x4, eg2, hg2l, hg2o, rfl, rfl⟩
    refine ⟨g2, _, _, ?_, hg2l, hg2o, rfl, rfl⟩
    rw [estep, eg2, List.length_map, List.take_length]
  rintro _ _ ⟨g, x3, x4, eg, hgl, hgo, rfl, rfl⟩
  refine ⟨rfl, ?_⟩
  rw [eg, List.length_map, List.take_length]
end
end K71
set_option maxHeartbeats 4000000
namespace K71
open PySem PySem.Spec PyProof.Rows L2 Z P71
section
variable {P : Program} {w : World} {K : PySem.W.Frag} {mg : Str → Option Value} {base : Heap} {f : Addr} {fd : FuncData}
structure FtA where
  l : Addr
  pl : Addr
  fx : List (Str × VP)
  le : List Int
  ks : List Nat
  c : Int
  r : Option Addr
  hx : fx.lookup ("letters" : Str) = some (isR pl)
  hk : ∀ k ∈ ks, k < le.length
  hz : ks.length < 1000
def ftP (a : FtA) : VP := match a.r with
  | none => lst (nl a.ks)
  | some r => isR r
def ftO (C : Addr) (a : FtA) : Ow := (a.l, cI C a.fx) :: (a.pl, cL (zl a.le)) :: (match a.r with
  | none => []
  | some r => [(r, cL (nl a.ks))])
def ftK (a : FtA) : List Nat := a.ks.filter fun k => decide (a.le.getD k 0 = a.c)
def pFit (C : Addr) : Pr FtA where
  args a := [isR a.l, ftP a, isI a.c]
  own a := ftO C a
  post a R Ts := R = lst (nl (ftK a)) ∧ Ts = ftO C a
theorem ft_sq (K : PySem.W.Frag) (C : Addr) (a : FtA) : IsSq K (ftO C a) (ftP a) (nl a.ks) := by
  obtain ⟨l, pl, fx, le, ks, c, r, hx, hk, hz⟩ := a
  cases r with
  | none => exact .l isL_lst
  | some r => exact .o 2 rfl
theorem ft_sq1 (K : PySem.W.Frag) (C : Addr) (a : FtA) (x : Addr × HP) : IsSq K (x :: ftO C a) (ftP a) (nl a.ks) := by
  obtain ⟨l, pl, fx, le, ks, c, r, hx, hk, hz⟩ := a
  cases r with
  | none => exact .l isL_lst
  | some r => exact .o 3 rfl
theorem ok_fitting {C : Addr} (F : FnP K "fitting" "Places.fitting" s_Places_fitting f fd) (M : PlT K C) : FnOk P w K mg base (L2.CX P w) 1 f fd ["self", "places", "letter"] (Prom (pFit C)) := by
  refine def_ok F sc_Places_fitting (fun a => rfl) fun a e cdv A outer s H E hr => ?_
  have hz := a.hz
  show Bl _ _ [some (isR a.l), some (ftP a), some (isI a.c), none] [] (ftO C a) _ _
  refine bl_one ?_
  refine sx_ret ?_
  refine ev_frz ?_
  refine ev_lc 3 rfl (blkOk_by rfl) (fun s H C cl fp => pg_name sc_Places_fitting.nd rfl (.inl rfl)) ?_  -- comprehension
  refine ei_val ?_
  refine ev_var 1 rfl ?_  -- places
  refine wz_L (ft_sq _ C a) ?_  -- wz_L | wz_T
  refine ⟨fun i acc Ts' => acc = nl ((a.ks.take i).filter fun k => decide (a.le.getD k 0 = a.c)) ∧ Ts' = ftO C a, ⟨rfl, rfl⟩, fun i acc Ts' D _ hI => by rw [hI.2]; exact ft_sq1 _ C a _, ?_, ?_⟩
  -- turn
  ·
    rintro i R hi hR acc Ts' D ⟨rfl, rfl⟩
    have hi' : i < a.ks.length := by simpa using hi
    rw [nl_get hi'] at hR
    obtain rfl := Option.some.inj hR
    have hk := a.hk _ (List.getElem_mem hi')
    have et : a.ks.take (i + 1) = a.ks.take i ++ [a.ks[i]] := by rw [List.take_succ, List.getElem?_eq_getElem hi']; rfl
    have hfl : (nl ((a.ks.take i).filter fun k => decide (a.le.getD k 0 = a.c))).length < sizeLine := by
      rw [List.length_map]
      have h1 := List.length_filter_le (fun k => decide (a.le.getD k 0 = a.c)) (a.ks.take i)
      rw [List.length_take] at h1
      show _ < 16777216
      omega
    generalize a.ks[i] = k at hk et
    refine fun Δ s0 H0 C1 cl fp => ?_
    refine es_one ?_
    refine et_cmp ?_
    refine ev_ix ?_
    refine ev_attr ?_
    refine ev_var 0 rfl ?_  -- self
    refine at_O 1 rfl M.cl M.letters a.hx ?_  -- at_F | at_O
    refine ev_var 3 rfl ?_  -- k
    refine ix_L (.o 2 rfl) (atI_ofNat (Int.natCast_nonneg k) (by rw [Int.toNat_natCast]; exact zl_get hk)) ?_  -- ix_L | ix_T | ix_S
    refine ev_var 2 rfl ?_  -- letter
    refine oz_eqI ?_
    have eg : a.le.getD k 0 = a.le[k] := by rw [List.getD_eq_getElem?_getD, List.getElem?_eq_getElem hk]; rfl
    rw [← eg]
    refine ⟨_, rfl, fun hc s0 H0 C1 cl fp => ?_, fun hc => ?_⟩
    · refine ev_var 3 rfl ?_  -- k
      refine ⟨0, rfl, hfl, ?_, rfl⟩
      have ef : [k].filter (fun k => decide (a.le.getD k 0 = a.c)) = [k] := by simp only [List.filter_cons, List.filter_nil]; rw [if_pos hc]
      rw [et, List.filter_append, ef, nl_app]
    · refine ⟨0, rfl, ?_, rfl⟩
      have ef : [k].filter (fun k => decide (a.le.getD k 0 = a.c)) = [] := by simp only [List.filter_cons, List.filter_nil]; rw [if_neg (by rw [hc]; decide)]
      rw [et, List.filter_append, ef, List.append_nil]
  rintro acc Ts' D ⟨rfl, rfl⟩
  rw [List.length_map, List.take_length]
  exact ⟨D, 0, _, rfl, rfl, rfl, rfl⟩
end
end K71
set_option maxHeartbeats 4000000
namespace K71
open PySem PySem.Spec PyProof.Rows L2 Z P71
theorem inr_snoc {rs : List Addr} {fo : List (List Nat)} (hl : rs.length = fo.length) (r : Addr) : inr (rs ++ [r]) (fo ++ [[]]) = inr rs fo ++ [(r, cL [])] := by
  unfold inr
  rw [List.zipWith_append hl]; rfl
theorem Fok.snoc {fo : List (List Nat)} (h : Fok fo) : Fok (fo ++ [[]]) := by
  intro ks hks
  rw [List.length_append]
  rcases List.mem_append.mp hks with hm | hm
  · obtain ⟨h1, h2⟩ := h ks hm
    exact ⟨h1, fun k hk => by have := h2 k hk; omega⟩
  · rw [List.mem_singleton.mp hm]
    exact ⟨.nil, fun k hk => by cases hk⟩
theorem Fok.link : ∀ (ls fs : List Nat) {fo : List (List Nat)}, Fok fo → (∀ k ∈ ls, k < fo.length) → (∀ k ∈ fs, k < fo.length) → Fok (link fo ls fs)
  | [], _, _, h, _, _ => h
  | l :: ls, fs, fo, h, hl, hf => by
    have h1 := Fok.linkF fs h (hl l List.mem_cons_self) hf
    have e := (linkF_spec l fs fo (hl l List.mem_cons_self)).1
    exact Fok.link ls fs h1 (fun k hk => by rw [e]; exact hl k (List.mem_cons_of_mem _ hk)) (fun k hk => by rw [e]; exact hf k hk)
end K71
set_option maxHeartbeats 4000000
namespace K71
open PySem PySem.Spec PyProof.Rows L2 Z P71
section
variable {P : Program} {w : World} {K : PySem.W.Frag} {mg : Str → Option Value} {base : Heap} {f : Addr} {fd : FuncData}
abbrev s_Places_add : Stmt := inClass (top 1) 2
theorem sc_Places_add : FnScope ["self", "expression", "operator", "nullable", "first", "last", "other", "others", "ends"] ["self", "expression"] (defScope s_Places_add) := ⟨rfl, rfl, rfl, by decide +kernel, rfl, by decide +kernel, by decide +kernel⟩
structure AdA (d : Nat) where
  l : Addr
  pl : Addr
  pf : Addr
  rs : List Addr
  le : List Int
  fo : List (List Nat)
  e : Rx
  hd : dep e ≤ d
  hl : rs.length = fo.length
  hle : le.length = fo.length
  ok : Fok fo
  hz : le.length + 2 ^ d ≤ 900
def pAdd (K : PySem.W.Frag) (C : Addr) (d : Nat) : Pr (AdA d) where
  args a := [isR a.l, exP K a.e]
  own a := plS a.l C a.pl a.pf a.rs a.le a.fo
  post a R Ts := ∃ rs', R = tup K [isB (nul a.e), lst (nl (addF a.e (a.le, a.fo)).1.1), lst (nl (addF a.e (a.le, a.fo)).1.2)] ∧ rs'.length = (addF a.e (a.le, a.fo)).2.2.length ∧ Fok (addF a.e (a.le, a.fo)).2.2 ∧
    (addF a.e (a.le, a.fo)).2.1.length ≤ a.le.length + 2 ^ d ∧ (addF a.e (a.le, a.fo)).1.1.length ≤ 2 ^ d ∧ (addF a.e (a.le, a.fo)).1.2.length ≤ 2 ^ d ∧ Ts = plS a.l C a.pl a.pf rs' (addF a.e (a.le, a.fo)).2.1 (addF a.e (a.le, a.fo)).2.2
theorem nl_cat (xs ys : List Nat) : nl xs ++ nl ys = nl (xs ++ ys) := by simp
theorem add_z {X : Cx} {e : En} {Γ : List (Option VP)} {C : Addr} {d : Nat} {Φ : VP → Ow → Prop} {Ψ : XP} (a : AdA d)
    (h : ∀ rs', rs'.length = (addF a.e (a.le, a.fo)).2.2.length → Fok (addF a.e (a.le, a.fo)).2.2 → (addF a.e (a.le, a.fo)).2.1.length ≤ a.le.length + 2 ^ d → (addF a.e (a.le, a.fo)).1.1.length ≤ 2 ^ d → (addF a.e (a.le, a.fo)).1.2.length ≤ 2 ^ d →
      Φ (tup X.K [isB (nul a.e), lst (nl (addF a.e (a.le, a.fo)).1.1), lst (nl (addF a.e (a.le, a.fo)).1.2)]) (plS a.l C a.pl a.pf rs' (addF a.e (a.le, a.fo)).2.1 (addF a.e (a.le, a.fo)).2.2)) :
    CallZ X e Γ [] (pAdd X.K C d) [isR a.l, exP X.K a.e] (plS a.l C a.pl a.pf a.rs a.le a.fo) Φ Ψ :=
  ⟨a, [], Ent.refl _, by rw [List.append_nil]; exact .refl _, fun P Ts' ⟨rs', e1, h1, h2, h3, h4, h5, e2⟩ => by
    subst e1; subst e2
    rw [List.append_nil]
    exact h rs' h1 h2 h3 h4 h5, fun _ _ _ z => z.elim⟩
theorem link_z {X : Cx} {e : En} {Γ : List (Option VP)} {C : Addr} {Φ : VP → Ow → Prop} {Ψ : XP} (a : LnA) (h : Φ isN (plS a.l C a.pl a.pf a.rs a.le (link a.fo a.ls a.fs))) :
    CallZ X e Γ [] (pLink C) [isR a.l, lst (nl a.ls), lst (nl a.fs)] (plS a.l C a.pl a.pf a.rs a.le a.fo) Φ Ψ :=
  ⟨a, [], Ent.refl _, by rw [List.append_nil]; exact .refl _, fun P Ts' ⟨e1, e2⟩ => by
    subst e1; subst e2
    rw [List.append_nil]
    exact h, fun _ _ _ z => z.elim⟩
theorem ok_add_step {C : Addr} (d : Nat) (F : FnP K "add" "Places.add" s_Places_add f fd) (T : Tx mg) (M : PlT K C) (Lk : Mz P w K mg base 1 C "link" [] (pLink C)) (Rec : ∀ d', d = d' + 1 → Mz P w K mg base (d' + 2) C "add" [] (pAdd K C d')) :
    FnOk P w K mg base (L2.CX P w) (d + 2) f fd ["self", "expression"] (Prom (pAdd K C d)) := by
  refine def_ok F sc_Places_add (fun a => rfl) fun a e cdv A outer s H E hr => ?_
  obtain ⟨l, pl, pf, rs, le, fo, ex, hd, hl, hle, ok, hz⟩ := a
  have hp2 : 0 < 2 ^ d := Nat.pow_pos (by decide)
  have hle9 : le.length ≤ 900 := Nat.le_trans (Nat.le_add_right _ _) hz
  cases ex with
  | non =>
    show Bl _ _ [some (isR l), some (tup K [isS "none"]), none, none, none, none, none, none, none] [] (plS l C pl pf rs le fo) _ _
    refine bl_cons ?_
    refine sx_asg 2 ?_
    refine ev_ix ?_
    refine ev_var 1 rfl ?_
    refine ev_int ?_
    refine ix_T (atI_ofNat (by decide) rfl) ?_
    refine bl_cons ?_
    refine sx_if ?_
    refine et_bool ?_
    refine ew_or ?_
    refine et_cmp ?_
    refine ev_var 2 rfl ?_
    refine ev_str ?_
    refine oz_eqS ?_
    rw [show decide (("none" : Str) = ("none" : Str)) = true by decide +kernel]
    refine ⟨_, rfl, fun _ => ⟨fun _ => ?_, fun q => (nomatch q)⟩, fun q => (nomatch q)⟩
    refine bl_one ?_
    refine sx_ret ?_
    refine ev_tup ?_
    refine ea_cons ?_
    refine ev_cmp ?_
    refine ev_var 2 rfl ?_
    refine ev_str ?_
    refine oz_eqS ?_
    rw [show decide (("none" : Str) = ("empty" : Str)) = false by decide +kernel]
    refine ea_cons ?_
    refine ev_lstF ?_
    refine ea_nil ?_
    refine ⟨Nat.le_of_ble_eq_true rfl, ?_⟩
    refine ea_cons ?_
    refine ev_lstF ?_
    refine ea_nil ?_
    refine ⟨Nat.le_of_ble_eq_true rfl, ?_⟩
    refine ea_nil ?_
    refine ⟨Nat.le_of_ble_eq_true rfl, ?_⟩
    exact ⟨rs, rfl, hl, ok, Nat.le_add_right _ _, Nat.zero_le _, Nat.zero_le _, rfl⟩
  | emp =>
    show Bl _ _ [some (isR l), some (tup K [isS "empty"]), none, none, none, none, none, none, none] [] (plS l C pl pf rs le fo) _ _
    refine bl_cons ?_
    refine sx_asg 2 ?_
    refine ev_ix ?_
    refine ev_var 1 rfl ?_
    refine ev_int ?_
    refine ix_T (atI_ofNat (by decide) rfl) ?_
    refine bl_cons ?_
    refine sx_if ?_
    refine et_bool ?_
    refine ew_or ?_
    refine et_cmp ?_
    refine ev_var 2 rfl ?_
    refine ev_str ?_
    refine oz_eqS ?_
    rw [show decide (("empty" : Str) = ("none" : Str)) = false by decide +kernel]
    refine ⟨_, rfl, fun q => (nomatch q), fun _ => ?_⟩
    refine ew_or1 ?_
    refine et_cmp ?_
    refine ev_var 2 rfl ?_
    refine ev_str ?_
    refine oz_eqS ?_
    rw [show decide (("empty" : Str) = ("empty" : Str)) = true by decide +kernel]
    refine ⟨_, rfl, fun _ => ?_, fun q => (nomatch q)⟩
    refine bl_one ?_
    refine sx_ret ?_
    refine ev_tup ?_
    refine ea_cons ?_
    refine ev_cmp ?_
    refine ev_var 2 rfl ?_
    refine ev_str ?_
    refine oz_eqS ?_
    rw [show decide (("empty" : Str) = ("empty" : Str)) = true by decide +kernel]
    refine ea_cons ?_
    refine ev_lstF ?_
    refine ea_nil ?_
    refine ⟨Nat.le_of_ble_eq_true rfl, ?_⟩
    refine ea_cons ?_
    refine ev_lstF ?_
    refine ea_nil ?_
    refine ⟨Nat.le_of_ble_eq_true rfl, ?_⟩
    refine ea_nil ?_
    refine ⟨Nat.le_of_ble_eq_true rfl, ?_⟩
    exact ⟨rs, rfl, hl, ok, Nat.le_add_right _ _, Nat.zero_le _, Nat.zero_le _, rfl⟩
  | lt c =>
    show Bl _ _ [some (isR l), some (tup K [isS "letter", isI c]), none, none, none, none, none, none, none] [] (plS l C pl pf rs le fo) _ _
    refine bl_cons ?_
    refine sx_asg 2 ?_
    refine ev_ix ?_
    refine ev_var 1 rfl ?_
    refine ev_int ?_
    refine ix_T (atI_ofNat (by decide) rfl) ?_
    refine bl_cons ?_
    refine sx_if ?_
    refine et_bool ?_
    refine ew_or ?_
    refine et_cmp ?_
    refine ev_var 2 rfl ?_
    refine ev_str ?_
    refine oz_eqS ?_
    rw [show decide (("letter" : Str) = ("none" : Str)) = false by decide +kernel]
    refine ⟨_, rfl, fun q => (nomatch q), fun _ => ?_⟩
    refine ew_or1 ?_
    refine et_cmp ?_
    refine ev_var 2 rfl ?_
    refine ev_str ?_
    refine oz_eqS ?_
    rw [show decide (("letter" : Str) = ("empty" : Str)) = false by decide +kernel]
    refine ⟨_, rfl, fun q => (nomatch q), fun _ => ?_⟩
    refine bl_nil ?_
    refine bl_cons ?_
    refine sx_if ?_
    refine et_cmp ?_
    refine ev_var 2 rfl ?_
    refine ev_str ?_
    refine oz_eqS ?_
    rw [show decide (("letter" : Str) = ("letter" : Str)) = true by decide +kernel]
    refine ⟨_, rfl, fun _ => ?_, fun q => (nomatch q)⟩
    refine bl_cons ?_
    refine sx_expr ?_
    refine ev_bm ?_
    refine ev_attr ?_
    refine ev_var 0 rfl ?_
    refine at_O 0 rfl M.cl M.letters rfl ?_
    refine ⟨_, _, bm_append, ty_L (.o 1 rfl), ?_⟩
    refine ea_cons ?_
    refine ev_ix ?_
    refine ev_var 1 rfl ?_
    refine ev_int ?_
    refine ix_T (atI_ofNat (by decide) rfl) ?_
    refine ea_nil ?_
    refine mt_app 1 rfl (by rw [List.length_map]; show _ < 16777216; omega) ?_
    refine bl_cons ?_
    refine sx_expr ?_
    refine ev_bm ?_
    refine ev_attr ?_
    refine ev_var 0 rfl ?_
    refine at_O 0 rfl M.cl M.follow rfl ?_
    refine ⟨_, _, bm_append, ty_L (.o 2 rfl), ?_⟩
    refine ea_cons ?_
    refine ev_lst ?_
    refine ea_nil ?_
    refine ⟨Nat.le_of_ble_eq_true rfl, fun r => ?_⟩
    refine ea_nil ?_
    refine mt_app 3 rfl (by rw [List.length_map]; show _ < 16777216; omega) ?_
    have hperm : (plS l C pl pf (rs ++ [r]) (le ++ [c]) (fo ++ [[]])).Perm ((r, cL []) :: (l, cI C [("letters", isR pl), ("follow", isR pf)]) :: (pl, cL (zl le ++ [isI c])) :: (pf, cL ((rs.map fun r => isR r) ++ [isR r])) :: inr rs fo) := by
      rw [show zl le ++ [isI c] = zl (le ++ [c]) from zl_app _ _, show (rs.map fun r => isR r) ++ [isR r] = ((rs ++ [r]).map fun r => isR r) by simp]
      unfold plS
      rw [inr_snoc hl]
      refine List.Perm.symm ?_
      exact (List.perm_append_comm (l₁ := [(r, cL [])]) (l₂ := (l, cI C [("letters", isR pl), ("follow", isR pf)]) :: (pl, cL (zl (le ++ [c]))) :: (pf, cL ((rs ++ [r]).map fun r => isR r)) :: inr rs fo))
    refine bl_perm (Ts' := plS l C pl pf (rs ++ [r]) (le ++ [c]) (fo ++ [[]])) (.inr (.inr hperm)) (fun x hx => hperm.mem_iff.mp hx) ?_
    have hlen : ((zl (le ++ [c])).length : Int) - 1 = (le.length : Int) := by rw [List.length_map, List.length_append]; simp
    refine bl_one ?_
    refine sx_ret ?_
    refine ev_tup ?_
    refine ea_cons ?_
    refine ev_bl ?_
    refine ea_cons ?_
    refine ev_lstF ?_
    refine ea_cons ?_
    refine ev_bin ?_
    refine ev_cb T.len bt_len ?_
    refine ea_cons ?_
    refine ev_attr ?_
    refine ev_var 0 rfl ?_
    refine at_O 0 rfl M.cl M.letters rfl ?_
    refine ea_nil ?_
    refine len_L (.o 1 rfl) ?_
    refine ev_int ?_
    refine oz_sub ?_
    rw [hlen]
    refine ea_nil ?_
    refine ⟨Nat.le_of_ble_eq_true rfl, ?_⟩
    refine ea_cons ?_
    refine ev_lstF ?_
    refine ea_cons ?_
    refine ev_bin ?_
    refine ev_cb T.len bt_len ?_
    refine ea_cons ?_
    refine ev_attr ?_
    refine ev_var 0 rfl ?_
    refine at_O 0 rfl M.cl M.letters rfl ?_
    refine ea_nil ?_
    refine len_L (.o 1 rfl) ?_
    refine ev_int ?_
    refine oz_sub ?_
    rw [hlen]
    refine ea_nil ?_
    refine ⟨Nat.le_of_ble_eq_true rfl, ?_⟩
    refine ea_nil ?_
    refine ⟨Nat.le_of_ble_eq_true rfl, ?_⟩
    exact ⟨rs ++ [r], rfl, by show (rs ++ [r]).length = (fo ++ [[]]).length; simp [hl], Fok.snoc ok, by show (le ++ [c]).length ≤ _; rw [List.length_append]; have : 1 ≤ 2 ^ d := Nat.one_le_two_pow; simp; omega, Nat.one_le_two_pow, Nat.one_le_two_pow, rfl⟩
  | star a =>
    have hd2 : dep a + 1 ≤ d := hd
    have hda : dep a ≤ d - 1 := by omega
    obtain ⟨d', rfl⟩ : ∃ d', d = d' + 1 := ⟨d - 1, by omega⟩
    have Rc := Rec d' rfl
    have hpow : 2 ^ (d' + 1) = 2 ^ d' + 2 ^ d' := by rw [Nat.pow_succ]; omega
    show Bl _ _ [some (isR l), some (tup K [isS "star", exP K a]), none, none, none, none, none, none, none] [] (plS l C pl pf rs le fo) _ _
    refine bl_cons ?_
    refine sx_asg 2 ?_
    refine ev_ix ?_
    refine ev_var 1 rfl ?_
    refine ev_int ?_
    refine ix_T (atI_ofNat (by decide) rfl) ?_
    refine bl_cons ?_
    refine sx_if ?_
    refine et_bool ?_
    refine ew_or ?_
    refine et_cmp ?_
    refine ev_var 2 rfl ?_
    refine ev_str ?_
    refine oz_eqS ?_
    rw [show decide (("star" : Str) = ("none" : Str)) = false by decide +kernel]
    refine ⟨_, rfl, fun q => (nomatch q), fun _ => ?_⟩
    refine ew_or1 ?_
    refine et_cmp ?_
    refine ev_var 2 rfl ?_
    refine ev_str ?_
    refine oz_eqS ?_
    rw [show decide (("star" : Str) = ("empty" : Str)) = false by decide +kernel]
    refine ⟨_, rfl, fun q => (nomatch q), fun _ => ?_⟩
    refine bl_nil ?_
    refine bl_cons ?_
    refine sx_if ?_
    refine et_cmp ?_
    refine ev_var 2 rfl ?_
    refine ev_str ?_
    refine oz_eqS ?_
    rw [show decide (("star" : Str) = ("letter" : Str)) = false by decide +kernel]
    refine ⟨_, rfl, fun q => (nomatch q), fun _ => ?_⟩
    refine bl_nil ?_
    refine bl_cons ?_
    refine sx_asgT ?_
    refine ev_meth Rc hr ?_
    refine ev_var 0 rfl ?_
    refine ⟨⟨M.cl, .inr ⟨l, 0, _, rfl, rfl, rfl⟩⟩, ?_⟩
    refine ea_cons ?_
    refine ev_ix ?_
    refine ev_var 1 rfl ?_
    refine ev_int ?_
    refine ix_T (atI_ofNat (by decide) rfl) ?_
    refine ea_nil ?_
    refine add_z ⟨l, pl, pf, rs, le, fo, a, hda, hl, hle, ok, (show le.length + 2 ^ d' ≤ 900 by rw [hpow] at hz; omega)⟩ fun rs' a1 a2 a3 a4 a5 => ?_
    have A := add_ok a (le, fo) hle
    refine tg_tup rfl rfl ?_
    refine tgs_cons ?_
    refine tg_name 3 ?_
    refine tgs_cons ?_
    refine tg_name 4 ?_
    refine tgs_cons ?_
    refine tg_name 5 ?_
    refine tgs_nil ?_
    refine bl_cons ?_
    refine sx_if ?_
    refine et_cmp ?_
    refine ev_var 2 rfl ?_
    refine ev_str ?_
    refine oz_eqS ?_
    rw [show decide (("star" : Str) = ("star" : Str)) = true by decide +kernel]
    refine ⟨_, rfl, fun _ => ?_, fun q => (nomatch q)⟩
    refine bl_cons ?_
    refine sx_expr ?_
    refine ev_meth Lk (hr.mono (by omega)) ?_
    refine ev_var 0 rfl ?_
    refine ⟨⟨M.cl, .inr ⟨l, 0, _, rfl, rfl, rfl⟩⟩, ?_⟩
    refine ea_cons ?_
    refine ev_var 5 rfl ?_
    refine ea_cons ?_
    refine ev_var 4 rfl ?_
    refine ea_nil ?_
    have a3 : (addF a (le, fo)).2.1.length ≤ le.length + 2 ^ d' := a3
    refine link_z ⟨l, pl, pf, rs', (addF a (le, fo)).2.1, (addF a (le, fo)).2.2, (addF a (le, fo)).1.2, (addF a (le, fo)).1.1, a1, by rw [← A.len]; omega, a2, fun k hk => by rw [← A.len]; exact (A.ok.la k hk).2, fun k hk => by rw [← A.len]; exact (A.ok.fi k hk).2⟩ ?_
    refine bl_one ?_
    refine sx_ret ?_
    refine ev_tup ?_
    refine ea_cons ?_
    refine ev_bl ?_
    refine ea_cons ?_
    refine ev_var 4 rfl ?_
    refine ea_cons ?_
    refine ev_var 5 rfl ?_
    refine ea_nil ?_
    refine ⟨Nat.le_of_ble_eq_true rfl, ?_⟩
    have lk := link_spec (addF a (le, fo)).1.1 (addF a (le, fo)).1.2 (addF a (le, fo)).2.2 (fun k hk => by rw [← A.len]; exact (A.ok.la k hk).2)
    exact ⟨rs', rfl, a1.trans lk.1.symm, Fok.link _ _ a2 (fun k hk => by rw [← A.len]; exact (A.ok.la k hk).2) (fun k hk => by rw [← A.len]; exact (A.ok.fi k hk).2), by show (addF a (le, fo)).2.1.length ≤ le.length + 2 ^ (d' + 1); omega, by have a4 : (addF a (le, fo)).1.1.length ≤ 2 ^ d' := a4; show (addF a (le, fo)).1.1.length ≤ 2 ^ (d' + 1); omega, by have a5 : (addF a (le, fo)).1.2.length ≤ 2 ^ d' := a5; show (addF a (le, fo)).1.2.length ≤ 2 ^ (d' + 1); omega, rfl⟩
  | join a b =>
    have hd2 : max (dep a) (dep b) + 1 ≤ d := hd
    obtain ⟨d', rfl⟩ : ∃ d', d = d' + 1 := ⟨d - 1, by omega⟩
    have hda : dep a ≤ d' := by omega
    have hdb : dep b ≤ d' := by omega
    have Rc := Rec d' rfl
    have hpow : 2 ^ (d' + 1) = 2 ^ d' + 2 ^ d' := by rw [Nat.pow_succ]; omega
    show Bl _ _ [some (isR l), some (tup K [isS "join", exP K a, exP K b]), none, none, none, none, none, none, none] [] (plS l C pl pf rs le fo) _ _
    refine bl_cons ?_
    refine sx_asg 2 ?_
    refine ev_ix ?_
    refine ev_var 1 rfl ?_
    refine ev_int ?_
    refine ix_T (atI_ofNat (by decide) rfl) ?_
    refine bl_cons ?_
    refine sx_if ?_
    refine et_bool ?_
    refine ew_or ?_
    refine et_cmp ?_
    refine ev_var 2 rfl ?_
    refine ev_str ?_
    refine oz_eqS ?_
    rw [show decide (("join" : Str) = ("none" : Str)) = false by decide +kernel]
    refine ⟨_, rfl, fun q => (nomatch q), fun _ => ?_⟩
    refine ew_or1 ?_
    refine et_cmp ?_
    refine ev_var 2 rfl ?_
    refine ev_str ?_
    refine oz_eqS ?_
    rw [show decide (("join" : Str) = ("empty" : Str)) = false by decide +kernel]
    refine ⟨_, rfl, fun q => (nomatch q), fun _ => ?_⟩
    refine bl_nil ?_
    refine bl_cons ?_
    refine sx_if ?_
    refine et_cmp ?_
    refine ev_var 2 rfl ?_
    refine ev_str ?_
    refine oz_eqS ?_
    rw [show decide (("join" : Str) = ("letter" : Str)) = false by decide +kernel]
    refine ⟨_, rfl, fun q => (nomatch q), fun _ => ?_⟩
    refine bl_nil ?_
    refine bl_cons ?_
    refine sx_asgT ?_
    refine ev_meth Rc hr ?_
    refine ev_var 0 rfl ?_
    refine ⟨⟨M.cl, .inr ⟨l, 0, _, rfl, rfl, rfl⟩⟩, ?_⟩
    refine ea_cons ?_
    refine ev_ix ?_
    refine ev_var 1 rfl ?_
    refine ev_int ?_
    refine ix_T (atI_ofNat (by decide) rfl) ?_
    refine ea_nil ?_
    refine add_z ⟨l, pl, pf, rs, le, fo, a, hda, hl, hle, ok, (show le.length + 2 ^ d' ≤ 900 by rw [hpow] at hz; omega)⟩ fun rs' a1 a2 a3 a4 a5 => ?_
    have A := add_ok a (le, fo) hle
    have a3 : (addF a (le, fo)).2.1.length ≤ le.length + 2 ^ d' := a3
    have a4 : (addF a (le, fo)).1.1.length ≤ 2 ^ d' := a4
    have a5 : (addF a (le, fo)).1.2.length ≤ 2 ^ d' := a5
    refine tg_tup rfl rfl ?_
    refine tgs_cons ?_
    refine tg_name 3 ?_
    refine tgs_cons ?_
    refine tg_name 4 ?_
    refine tgs_cons ?_
    refine tg_name 5 ?_
    refine tgs_nil ?_
    refine bl_cons ?_
    refine sx_if ?_
    refine et_cmp ?_
    refine ev_var 2 rfl ?_
    refine ev_str ?_
    refine oz_eqS ?_
    rw [show decide (("join" : Str) = ("star" : Str)) = false by decide +kernel]
    refine ⟨_, rfl, fun q => (nomatch q), fun _ => ?_⟩
    refine bl_nil ?_
    refine bl_cons ?_
    refine sx_asgT ?_
    refine ev_meth Rc hr ?_
    refine ev_var 0 rfl ?_
    refine ⟨⟨M.cl, .inr ⟨l, 0, _, rfl, rfl, rfl⟩⟩, ?_⟩
    refine ea_cons ?_
    refine ev_ix ?_
    refine ev_var 1 rfl ?_
    refine ev_int ?_
    refine ix_T (atI_ofNat (by decide) rfl) ?_
    refine ea_nil ?_
    refine add_z ⟨l, pl, pf, rs', (addF a (le, fo)).2.1, (addF a (le, fo)).2.2, b, hdb, a1, A.len, a2, (show (addF a (le, fo)).2.1.length + 2 ^ d' ≤ 900 by rw [hpow] at hz; omega)⟩ fun rs2 b1 b2 b3 b4 b5 => ?_
    have B := add_ok b (addF a (le, fo)).2 A.len
    have b3 : (addF b (addF a (le, fo)).2).2.1.length ≤ (addF a (le, fo)).2.1.length + 2 ^ d' := b3
    have b4 : (addF b (addF a (le, fo)).2).1.1.length ≤ 2 ^ d' := b4
    have b5 : (addF b (addF a (le, fo)).2).1.2.length ≤ 2 ^ d' := b5
    have hd9 : 2 ^ d' ≤ 900 := by rw [hpow] at hz; omega
    refine tg_tup rfl rfl ?_
    refine tgs_cons ?_
    refine tg_name 6 ?_
    refine tgs_cons ?_
    refine tg_name 7 ?_
    refine tgs_cons ?_
    refine tg_name 8 ?_
    refine tgs_nil ?_
    refine bl_cons ?_
    refine sx_if ?_
    refine et_cmp ?_
    refine ev_var 2 rfl ?_
    refine ev_str ?_
    refine oz_eqS ?_
    rw [show decide (("join" : Str) = ("either" : Str)) = false by decide +kernel]
    refine ⟨_, rfl, fun q => (nomatch q), fun _ => ?_⟩
    refine bl_nil ?_
    have hA1 : ∀ k ∈ (addF a (le, fo)).1.2, k < (addF b (addF a (le, fo)).2).2.2.length := fun k hk => by rw [← B.len]; exact Nat.lt_of_lt_of_le (A.ok.la k hk).2 B.ge
    have hB1 : ∀ k ∈ (addF b (addF a (le, fo)).2).1.1, k < (addF b (addF a (le, fo)).2).2.2.length := fun k hk => by rw [← B.len]; exact (B.ok.fi k hk).2
    have lk := link_spec (addF b (addF a (le, fo)).2).1.1 (addF a (le, fo)).1.2 (addF b (addF a (le, fo)).2).2.2 hA1
    refine bl_cons ?_
    refine sx_expr ?_
    refine ev_meth Lk (hr.mono (by omega)) ?_
    refine ev_var 0 rfl ?_
    refine ⟨⟨M.cl, .inr ⟨l, 0, _, rfl, rfl, rfl⟩⟩, ?_⟩
    refine ea_cons ?_
    refine ev_var 5 rfl ?_
    refine ea_cons ?_
    refine ev_var 7 rfl ?_
    refine ea_nil ?_
    refine link_z ⟨l, pl, pf, rs2, (addF b (addF a (le, fo)).2).2.1, (addF b (addF a (le, fo)).2).2.2, (addF a (le, fo)).1.2, (addF b (addF a (le, fo)).2).1.1, b1, by rw [← B.len]; omega, b2, hA1, hB1⟩ ?_
    cases hna : nul a with
    | false =>
      cases hnb : nul b with
      | false =>
        refine bl_cons ?_
        refine sx_if ?_
        refine et_val ?_
        refine ev_var 3 rfl ?_
        refine ⟨_, rfl, fun q => (nomatch q), fun _ => ?_⟩
        refine bl_nil ?_
        refine bl_cons ?_
        refine sx_if ?_
        refine et_val ?_
        refine ev_var 6 rfl ?_
        refine ⟨_, rfl, fun q => (nomatch q), fun _ => ?_⟩
        refine bl_nil ?_
        refine bl_one ?_
        refine sx_ret ?_
        refine ev_tup ?_
        refine ea_cons ?_
        refine ev_and ?_
        refine ev_var 3 rfl ?_
        refine ⟨_, rfl, fun q => (nomatch q), fun _ => ?_⟩
        refine ea_cons ?_
        refine ev_var 4 rfl ?_
        refine ea_cons ?_
        refine ev_var 8 rfl ?_
        refine ea_nil ?_
        refine ⟨Nat.le_of_ble_eq_true rfl, ?_⟩
        have eF : (addF (.join a b) (le, fo)).1.1 = (addF a (le, fo)).1.1 := by
          show (if nul a then _ else _) = _
          rw [hna]; rfl
        have eL : (addF (.join a b) (le, fo)).1.2 = (addF b (addF a (le, fo)).2).1.2 := by
          show (if nul b then _ else _) = _
          rw [hnb]; rfl
        refine ⟨rs2, ?_, b1.trans lk.1.symm, Fok.link _ _ b2 hA1 hB1, ?_, ?_, ?_, rfl⟩
        · dsimp only
          rw [eF, eL, show nul (.join a b) = (nul a && nul b) from rfl, hna, hnb]; rfl
        · show (addF b (addF a (le, fo)).2).2.1.length ≤ le.length + 2 ^ (d' + 1)
          omega
        · dsimp only
          rw [eF]; first | omega | (rw [List.length_append]; omega)
        · dsimp only
          rw [eL]; first | omega | (rw [List.length_append]; omega)
      | true =>
        refine bl_cons ?_
        refine sx_if ?_
        refine et_val ?_
        refine ev_var 3 rfl ?_
        refine ⟨_, rfl, fun q => (nomatch q), fun _ => ?_⟩
        refine bl_nil ?_
        refine bl_cons ?_
        refine sx_if ?_
        refine et_val ?_
        refine ev_var 6 rfl ?_
        refine ⟨_, rfl, fun _ => ?_, fun q => (nomatch q)⟩
        refine bl_one ?_
        refine sx_asg 8 ?_
        refine ev_bin ?_
        refine ev_var 8 rfl ?_
        refine ev_var 5 rfl ?_
        refine oz_catF .l .l (by rw [List.length_map, List.length_map]; show _ ≤ 16777216; omega) ?_
        rw [nl_cat]
        refine bl_one ?_
        refine sx_ret ?_
        refine ev_tup ?_
        refine ea_cons ?_
        refine ev_and ?_
        refine ev_var 3 rfl ?_
        refine ⟨_, rfl, fun q => (nomatch q), fun _ => ?_⟩
        refine ea_cons ?_
        refine ev_var 4 rfl ?_
        refine ea_cons ?_
        refine ev_var 8 rfl ?_
        refine ea_nil ?_
        refine ⟨Nat.le_of_ble_eq_true rfl, ?_⟩
        have eF : (addF (.join a b) (le, fo)).1.1 = (addF a (le, fo)).1.1 := by
          show (if nul a then _ else _) = _
          rw [hna]; rfl
        have eL : (addF (.join a b) (le, fo)).1.2 = (addF b (addF a (le, fo)).2).1.2 ++ (addF a (le, fo)).1.2 := by
          show (if nul b then _ else _) = _
          rw [hnb]; rfl
        refine ⟨rs2, ?_, b1.trans lk.1.symm, Fok.link _ _ b2 hA1 hB1, ?_, ?_, ?_, rfl⟩
        · dsimp only
          rw [eF, eL, show nul (.join a b) = (nul a && nul b) from rfl, hna, hnb]; rfl
        · show (addF b (addF a (le, fo)).2).2.1.length ≤ le.length + 2 ^ (d' + 1)
          omega
        · dsimp only
          rw [eF]; first | omega | (rw [List.length_append]; omega)
        · dsimp only
          rw [eL]; first | omega | (rw [List.length_append]; omega)
    | true =>
      cases hnb : nul b with
      | false =>
        refine bl_cons ?_
        refine sx_if ?_
        refine et_val ?_
        refine ev_var 3 rfl ?_
        refine ⟨_, rfl, fun _ => ?_, fun q => (nomatch q)⟩
        refine bl_one ?_
        refine sx_asg 4 ?_
        refine ev_bin ?_
        refine ev_var 4 rfl ?_
        refine ev_var 7 rfl ?_
        refine oz_catF .l .l (by rw [List.length_map, List.length_map]; show _ ≤ 16777216; omega) ?_
        rw [nl_cat]
        refine bl_cons ?_
        refine sx_if ?_
        refine et_val ?_
        refine ev_var 6 rfl ?_
        refine ⟨_, rfl, fun q => (nomatch q), fun _ => ?_⟩
        refine bl_nil ?_
        refine bl_one ?_
        refine sx_ret ?_
        refine ev_tup ?_
        refine ea_cons ?_
        refine ev_and ?_
        refine ev_var 3 rfl ?_
        refine ⟨_, rfl, fun _ => ?_, fun q => (nomatch q)⟩
        refine ev_one ?_
        refine ev_var 6 rfl ?_
        refine ea_cons ?_
        refine ev_var 4 rfl ?_
        refine ea_cons ?_
        refine ev_var 8 rfl ?_
        refine ea_nil ?_
        refine ⟨Nat.le_of_ble_eq_true rfl, ?_⟩
        have eF : (addF (.join a b) (le, fo)).1.1 = (addF a (le, fo)).1.1 ++ (addF b (addF a (le, fo)).2).1.1 := by
          show (if nul a then _ else _) = _
          rw [hna]; rfl
        have eL : (addF (.join a b) (le, fo)).1.2 = (addF b (addF a (le, fo)).2).1.2 := by
          show (if nul b then _ else _) = _
          rw [hnb]; rfl
        refine ⟨rs2, ?_, b1.trans lk.1.symm, Fok.link _ _ b2 hA1 hB1, ?_, ?_, ?_, rfl⟩
        · dsimp only
          rw [eF, eL, show nul (.join a b) = (nul a && nul b) from rfl, hna, hnb]; rfl
        · show (addF b (addF a (le, fo)).2).2.1.length ≤ le.length + 2 ^ (d' + 1)
          omega
        · dsimp only
          rw [eF]; first | omega | (rw [List.length_append]; omega)
        · dsimp only
          rw [eL]; first | omega | (rw [List.length_append]; omega)
      | true =>
        refine bl_cons ?_
        refine sx_if ?_
        refine et_val ?_
        refine ev_var 3 rfl ?_
        refine ⟨_, rfl, fun _ => ?_, fun q => (nomatch q)⟩
        refine bl_one ?_
        refine sx_asg 4 ?_
        refine ev_bin ?_
        refine ev_var 4 rfl ?_
        refine ev_var 7 rfl ?_
        refine oz_catF .l .l (by rw [List.length_map, List.length_map]; show _ ≤ 16777216; omega) ?_
        rw [nl_cat]
        refine bl_cons ?_
        refine sx_if ?_
        refine et_val ?_
        refine ev_var 6 rfl ?_
        refine ⟨_, rfl, fun _ => ?_, fun q => (nomatch q)⟩
        refine bl_one ?_
        refine sx_asg 8 ?_
        refine ev_bin ?_
        refine ev_var 8 rfl ?_
        refine ev_var 5 rfl ?_
        refine oz_catF .l .l (by rw [List.length_map, List.length_map]; show _ ≤ 16777216; omega) ?_
        rw [nl_cat]
        refine bl_one ?_
        refine sx_ret ?_
        refine ev_tup ?_
        refine ea_cons ?_
        refine ev_and ?_
        refine ev_var 3 rfl ?_
        refine ⟨_, rfl, fun _ => ?_, fun q => (nomatch q)⟩
        refine ev_one ?_
        refine ev_var 6 rfl ?_
        refine ea_cons ?_
        refine ev_var 4 rfl ?_
        refine ea_cons ?_
        refine ev_var 8 rfl ?_
        refine ea_nil ?_
        refine ⟨Nat.le_of_ble_eq_true rfl, ?_⟩
        have eF : (addF (.join a b) (le, fo)).1.1 = (addF a (le, fo)).1.1 ++ (addF b (addF a (le, fo)).2).1.1 := by
          show (if nul a then _ else _) = _
          rw [hna]; rfl
        have eL : (addF (.join a b) (le, fo)).1.2 = (addF b (addF a (le, fo)).2).1.2 ++ (addF a (le, fo)).1.2 := by
          show (if nul b then _ else _) = _
          rw [hnb]; rfl
        refine ⟨rs2, ?_, b1.trans lk.1.symm, Fok.link _ _ b2 hA1 hB1, ?_, ?_, ?_, rfl⟩
        · dsimp only
          rw [eF, eL, show nul (.join a b) = (nul a && nul b) from rfl, hna, hnb]; rfl
        · show (addF b (addF a (le, fo)).2).2.1.length ≤ le.length + 2 ^ (d' + 1)
          omega
        · dsimp only
          rw [eF]; first | omega | (rw [List.length_append]; omega)
        · dsimp only
          rw [eL]; first | omega | (rw [List.length_append]; omega)
  | alt a b =>
    have hd2 : max (dep a) (dep b) + 1 ≤ d := hd
    obtain ⟨d', rfl⟩ : ∃ d', d = d' + 1 := ⟨d - 1, by omega⟩
    have hda : dep a ≤ d' := by omega
    have hdb : dep b ≤ d' := by omega
    have Rc := Rec d' rfl
    have hpow : 2 ^ (d' + 1) = 2 ^ d' + 2 ^ d' := by rw [Nat.pow_succ]; omega
    show Bl _ _ [some (isR l), some (tup K [isS "either", exP K a, exP K b]), none, none, none, none, none, none, none] [] (plS l C pl pf rs le fo) _ _
    refine bl_cons ?_
    refine sx_asg 2 ?_
    refine ev_ix ?_
    refine ev_var 1 rfl ?_
    refine ev_int ?_
    refine ix_T (atI_ofNat (by decide) rfl) ?_
    refine bl_cons ?_
    refine sx_if ?_
    refine et_bool ?_
    refine ew_or ?_
    refine et_cmp ?_
    refine ev_var 2 rfl ?_
    refine ev_str ?_
    refine oz_eqS ?_
    rw [show decide (("either" : Str) = ("none" : Str)) = false by decide +kernel]
    refine ⟨_, rfl, fun q => (nomatch q), fun _ => ?_⟩
    refine ew_or1 ?_
    refine et_cmp ?_
    refine ev_var 2 rfl ?_
    refine ev_str ?_
    refine oz_eqS ?_
    rw [show decide (("either" : Str) = ("empty" : Str)) = false by decide +kernel]
    refine ⟨_, rfl, fun q => (nomatch q), fun _ => ?_⟩
    refine bl_nil ?_
    refine bl_cons ?_
    refine sx_if ?_
    refine et_cmp ?_
    refine ev_var 2 rfl ?_
    refine ev_str ?_
    refine oz_eqS ?_
    rw [show decide (("either" : Str) = ("letter" : Str)) = false by decide +kernel]
    refine ⟨_, rfl, fun q => (nomatch q), fun _ => ?_⟩
    refine bl_nil ?_
    refine bl_cons ?_
    refine sx_asgT ?_
    refine ev_meth Rc hr ?_
    refine ev_var 0 rfl ?_
    refine ⟨⟨M.cl, .inr ⟨l, 0, _, rfl, rfl, rfl⟩⟩, ?_⟩
    refine ea_cons ?_
    refine ev_ix ?_
    refine ev_var 1 rfl ?_
    refine ev_int ?_
    refine ix_T (atI_ofNat (by decide) rfl) ?_
    refine ea_nil ?_
    refine add_z ⟨l, pl, pf, rs, le, fo, a, hda, hl, hle, ok, (show le.length + 2 ^ d' ≤ 900 by rw [hpow] at hz; omega)⟩ fun rs' a1 a2 a3 a4 a5 => ?_
    have A := add_ok a (le, fo) hle
    have a3 : (addF a (le, fo)).2.1.length ≤ le.length + 2 ^ d' := a3
    have a4 : (addF a (le, fo)).1.1.length ≤ 2 ^ d' := a4
    have a5 : (addF a (le, fo)).1.2.length ≤ 2 ^ d' := a5
    refine tg_tup rfl rfl ?_
    refine tgs_cons ?_
    refine tg_name 3 ?_
    refine tgs_cons ?_
    refine tg_name 4 ?_
    refine tgs_cons ?_
    refine tg_name 5 ?_
    refine tgs_nil ?_
    refine bl_cons ?_
    refine sx_if ?_
    refine et_cmp ?_
    refine ev_var 2 rfl ?_
    refine ev_str ?_
    refine oz_eqS ?_
    rw [show decide (("either" : Str) = ("star" : Str)) = false by decide +kernel]
    refine ⟨_, rfl, fun q => (nomatch q), fun _ => ?_⟩
    refine bl_nil ?_
    refine bl_cons ?_
    refine sx_asgT ?_
    refine ev_meth Rc hr ?_
    refine ev_var 0 rfl ?_
    refine ⟨⟨M.cl, .inr ⟨l, 0, _, rfl, rfl, rfl⟩⟩, ?_⟩
    refine ea_cons ?_
    refine ev_ix ?_
    refine ev_var 1 rfl ?_
    refine ev_int ?_
    refine ix_T (atI_ofNat (by decide) rfl) ?_
    refine ea_nil ?_
    refine add_z ⟨l, pl, pf, rs', (addF a (le, fo)).2.1, (addF a (le, fo)).2.2, b, hdb, a1, A.len, a2, (show (addF a (le, fo)).2.1.length + 2 ^ d' ≤ 900 by rw [hpow] at hz; omega)⟩ fun rs2 b1 b2 b3 b4 b5 => ?_
    have B := add_ok b (addF a (le, fo)).2 A.len
    have b3 : (addF b (addF a (le, fo)).2).2.1.length ≤ (addF a (le, fo)).2.1.length + 2 ^ d' := b3
    have b4 : (addF b (addF a (le, fo)).2).1.1.length ≤ 2 ^ d' := b4
    have b5 : (addF b (addF a (le, fo)).2).1.2.length ≤ 2 ^ d' := b5
    have hd9 : 2 ^ d' ≤ 900 := by rw [hpow] at hz; omega
    refine tg_tup rfl rfl ?_
    refine tgs_cons ?_
    refine tg_name 6 ?_
    refine tgs_cons ?_
    refine tg_name 7 ?_
    refine tgs_cons ?_
    refine tg_name 8 ?_
    refine tgs_nil ?_
    refine bl_cons ?_
    refine sx_if ?_
    refine et_cmp ?_
    refine ev_var 2 rfl ?_
    refine ev_str ?_
    refine oz_eqS ?_
    rw [show decide (("either" : Str) = ("either" : Str)) = true by decide +kernel]
    refine ⟨_, rfl, fun _ => ?_, fun q => (nomatch q)⟩
    refine bl_one ?_
    refine sx_ret ?_
    refine ev_tup ?_
    refine ea_cons ?_
    refine ev_or ?_
    refine ev_var 3 rfl ?_
    cases hna : nul a with
    | false =>
      refine ⟨_, rfl, fun q => (nomatch q), fun _ => ?_⟩
      refine ev_one ?_
      refine ev_var 6 rfl ?_
      refine ea_cons ?_
      refine ev_bin ?_
      refine ev_var 4 rfl ?_
      refine ev_var 7 rfl ?_
      refine oz_catF .l .l (by rw [List.length_map, List.length_map]; show _ ≤ 16777216; omega) ?_
      rw [nl_cat]
      refine ea_cons ?_
      refine ev_bin ?_
      refine ev_var 5 rfl ?_
      refine ev_var 8 rfl ?_
      refine oz_catF .l .l (by rw [List.length_map, List.length_map]; show _ ≤ 16777216; omega) ?_
      rw [nl_cat]
      refine ea_nil ?_
      refine ⟨Nat.le_of_ble_eq_true rfl, ?_⟩
      exact ⟨rs2, by rw [show nul (.alt a b) = (nul a || nul b) from rfl, hna]; rfl, b1, b2, by show (addF b (addF a (le, fo)).2).2.1.length ≤ le.length + 2 ^ (d' + 1); omega, by show ((addF a (le, fo)).1.1 ++ (addF b (addF a (le, fo)).2).1.1).length ≤ 2 ^ (d' + 1); rw [List.length_append]; omega, by show ((addF a (le, fo)).1.2 ++ (addF b (addF a (le, fo)).2).1.2).length ≤ 2 ^ (d' + 1); rw [List.length_append]; omega, rfl⟩
    | true =>
      refine ⟨_, rfl, fun _ => ?_, fun q => (nomatch q)⟩
      refine ea_cons ?_
      refine ev_bin ?_
      refine ev_var 4 rfl ?_
      refine ev_var 7 rfl ?_
      refine oz_catF .l .l (by rw [List.length_map, List.length_map]; show _ ≤ 16777216; omega) ?_
      rw [nl_cat]
      refine ea_cons ?_
      refine ev_bin ?_
      refine ev_var 5 rfl ?_
      refine ev_var 8 rfl ?_
      refine oz_catF .l .l (by rw [List.length_map, List.length_map]; show _ ≤ 16777216; omega) ?_
      rw [nl_cat]
      refine ea_nil ?_
      refine ⟨Nat.le_of_ble_eq_true rfl, ?_⟩
      exact ⟨rs2, by rw [show nul (.alt a b) = (nul a || nul b) from rfl, hna]; rfl, b1, b2, by show (addF b (addF a (le, fo)).2).2.1.length ≤ le.length + 2 ^ (d' + 1); omega, by show ((addF a (le, fo)).1.1 ++ (addF b (addF a (le, fo)).2).1.1).length ≤ 2 ^ (d' + 1); rw [List.length_append]; omega, by show ((addF a (le, fo)).1.2 ++ (addF b (addF a (le, fo)).2).1.2).length ≤ 2 ^ (d' + 1); rw [List.length_append]; omega, rfl⟩
end
end K71
set_option maxHeartbeats 4000000
namespace K71
open PySem PySem.Spec PyProof.Rows L2 Z P71
section
variable {P : Program} {w : World} {K : PySem.W.Frag} {mg : Str → Option Value} {base : Heap} {f : Addr} {fd : FuncData}
abbrev s_Places_init : Stmt := inClass (top 1) 0
theorem sc_Places_init : FnScope ["self", "expression"] ["self", "expression"] (defScope s_Places_init) := ⟨rfl, rfl, rfl, by decide +kernel, rfl, by decide +kernel, by decide +kernel⟩
/-- Places, frozen -/
def plV (C : Addr) (nu : Bool) (le : List Int) (fo : List (List Nat)) (fi la : List Nat) : VP := ins C [("letters", lst (zl le)), ("follow", lst (fo.map fun ks => lst (nl ks))), ("nullable", isB nu), ("first", lst (nl fi)), ("last", lst (nl la))]
abbrev plE (C : Addr) (e : Rx) : VP := plV C (nul e) (pLe e) (pFo e) (pFi e) (pLa e)
abbrev plI (l C pl pf : Addr) (e : Rx) : Addr × HP := (l, cI C [("letters", isR pl), ("follow", isR pf), ("nullable", isB (nul e)), ("first", lst (nl (pFi e))), ("last", lst (nl (pLa e)))])
structure InA (d : Nat) where
  l : Addr
  e : Rx
  hd : dep e ≤ d
def pInit (K : PySem.W.Frag) (C : Addr) (d : Nat) : Pr (InA d) where
  args a := [isR a.l, exP K a.e]
  own a := [(a.l, cI C [])]
  post a R Ts := ∃ pl pf rs, R = isN ∧ rs.length = (pFo a.e).length ∧ Fok (pFo a.e) ∧ (pLe a.e).length ≤ 2 ^ d ∧ (pFi a.e).length ≤ 2 ^ d ∧ (pLa a.e).length ≤ 2 ^ d ∧ Ts = plI a.l C pl pf a.e :: (pl, cL (zl (pLe a.e))) :: (pf, cL (rs.map fun r => isR r)) :: inr rs (pFo a.e)
theorem ok_pinit {C : Addr} (d : Nat) (hd9 : d ≤ 9) (F : FnP K "__init__" "Places.__init__" s_Places_init f fd) (M : PlT K C) (Ad : Mz P w K mg base (d + 2) C "add" [] (pAdd K C d)) :
    FnOk P w K mg base (L2.CX P w) (d + 3) f fd ["self", "expression"] (Prom (pInit K C d)) := by
  refine def_ok F sc_Places_init (fun a => rfl) fun a e cdv A outer s H E hr => ?_
  obtain ⟨l, ex, hd⟩ := a
  have hp9 : 2 ^ d ≤ 2 ^ 9 := Nat.pow_le_pow_right (by decide) hd9
  refine bl_cons ?_
  refine sx_fld ?_
  refine ev_lst ?_
  refine ea_nil ?_
  refine ⟨Nat.le_of_ble_eq_true rfl, fun pl => ?_⟩
  refine ev_var 0 rfl ?_
  refine ⟨_, 1, _, _, rfl, rfl, M.cl, M.letters, Nat.le_of_ble_eq_true rfl, ?_⟩
  refine bl_cons ?_
  refine sx_fld ?_
  refine ev_lst ?_
  refine ea_nil ?_
  refine ⟨Nat.le_of_ble_eq_true rfl, fun pf => ?_⟩
  refine ev_var 0 rfl ?_
  refine ⟨_, 2, _, _, rfl, rfl, M.cl, M.follow, Nat.le_of_ble_eq_true rfl, ?_⟩
  refine bl_one ?_
  refine sx_asgT ?_
  refine ev_meth Ad hr ?_
  refine ev_var 0 rfl ?_
  refine ⟨⟨M.cl, .inr ⟨_, 2, _, rfl, rfl, rfl⟩⟩, ?_⟩
  refine ea_cons ?_
  refine ev_var 1 rfl ?_
  refine ea_nil ?_
  refine callz_perm (List.reverse_perm _).symm ?_
  refine add_z ⟨l, pl, pf, [], [], [], ex, hd, rfl, rfl, fun _ h => (by cases h), show 0 + 2 ^ d ≤ 900 by omega⟩ fun rs' h1 h2 h3 h4 h5 => ?_
  refine tg_tup rfl rfl ?_
  refine tgs_cons ?_
  refine tg_fld ?_
  refine ev_var 0 rfl ?_
  refine ⟨_, 0, _, _, rfl, rfl, M.cl, M.nullable, Nat.le_of_ble_eq_true rfl, ?_⟩
  refine tgs_cons ?_
  refine tg_fld ?_
  refine ev_var 0 rfl ?_
  refine ⟨_, 0, _, _, rfl, rfl, M.cl, M.first, Nat.le_of_ble_eq_true rfl, ?_⟩
  refine tgs_cons ?_
  refine tg_fld ?_
  refine ev_var 0 rfl ?_
  refine ⟨_, 0, _, _, rfl, rfl, M.cl, M.last, Nat.le_of_ble_eq_true rfl, ?_⟩
  refine tgs_nil ?_
  exact ⟨pl, pf, rs', rfl, h1, h2, (show (pLe ex).length ≤ 2 ^ d by have h : (pLe ex).length ≤ 0 + 2 ^ d := h3; omega), h4, h5, rfl⟩
end
end K71
set_option maxHeartbeats 4000000
namespace K71
open PySem PySem.Spec PyProof.Rows L2 Z P71
section
variable {P : Program} {w : World} {K : PySem.W.Frag} {mg : Str → Option Value} {base : Heap} {f : Addr} {fd : FuncData}
theorem inr_all {F : Hp} : ∀ {rs : List Addr} {fo : List (List Nat)}, rs.length = fo.length → (∀ x ∈ inr rs fo, ∃ o, F x.1 = some o ∧ x.2.p F o) → All F (fo.map fun ks => lst (nl ks)) (rs.map V.ref)
  | [], [], _, _ => .nil
  | [], _ :: _, e, _ => by simp at e
  | _ :: _, [], e, _ => by simp at e
  | r :: rs, ks :: fo, e, h => by
    obtain ⟨o, h1, vs, h2, h3⟩ := h (r, cL (nl ks)) List.mem_cons_self
    subst h2
    exact .cons ⟨r, vs, rfl, h1, h3⟩ (inr_all (by simpa using e) fun x hx => h x (List.mem_cons_of_mem _ hx))
/-- Places(..), frozen -/
theorem plc_z {X : Cx} {e : En} {Γ : List (Option VP)} {Ts : Ow} {C : Addr} {d : Nat} {ex : Rx} {Φ : VP → Ow → Prop} {Ψ : XP} (hd : dep ex ≤ d) (h : Fok (pFo ex) → (pLe ex).length ≤ 2 ^ d → (pFi ex).length ≤ 2 ^ d → (pLa ex).length ≤ 2 ^ d → Φ (plE C ex) Ts) :
    ∀ l, CallZ X e Γ [] (pInit X.K C d) [isR l, exP X.K ex] ((l, cI C []) :: Ts) (fun P Ts2 => P = isN ∧ ∃ (Cs R : Ow) (Q : VP), Ts2.Perm (Cs ++ R) ∧ (∀ F v, (∀ x ∈ Cs, ∃ o, F x.1 = some o ∧ x.2.p F o) → (isR l).p F v → Q.p F v) ∧ Φ Q R) Ψ := fun l =>
  ⟨⟨l, ex, hd⟩, Ts, Ent.refl _, .refl _, (fun P Ts' ⟨pl, pf, rs, e1, h1, h2, h3, h4, h5, e2⟩ => by
    subst e1; subst e2
    refine ⟨rfl, _, Ts, plE C ex, .refl _, fun F v hc hv => ?_, h h2 h3 h4 h5⟩
    have hv : v = .ref l := hv
    subst hv
    obtain ⟨o1, a1, dx, gs, a2, a3⟩ := hc (plI l C pl pf ex) List.mem_cons_self
    obtain ⟨o2, b1, vs2, b2, b3⟩ := hc (pl, cL (zl (pLe ex))) (List.mem_cons_of_mem _ List.mem_cons_self)
    obtain ⟨o3, c1, vs3, c2, c3⟩ := hc (pf, cL (rs.map fun r => isR r)) (List.mem_cons_of_mem _ (List.mem_cons_of_mem _ List.mem_cons_self))
    have h6 := inr_all (F := F) h1 fun x hx => hc x (List.mem_cons_of_mem _ (List.mem_cons_of_mem _ (List.mem_cons_of_mem _ hx)))
    subst a2; subst b2; subst c2
    have e3 : vs3 = rs.map V.ref := by
      have : (rs.map fun r => isR r) = (rs.map V.ref).map isV := by rw [List.map_map]; rfl
      rw [this] at c3
      exact c3.isV
    subst e3
    refine ⟨l, dx, gs, rfl, a1, ?_⟩
    refine Fl.imp a3 rfl fun i x y hx hy => ?_
    match i, hx, hy with
    | 0, hx, hy =>
      cases hx; cases hy
      exact ⟨rfl, fun v hv => ⟨pl, vs2, hv, b1, b3⟩⟩
    | 1, hx, hy =>
      cases hx; cases hy
      exact ⟨rfl, fun v hv => ⟨pf, _, hv, c1, h6⟩⟩
    | 2, hx, hy =>
      cases hx; cases hy
      exact ⟨rfl, fun v hv => hv⟩
    | 3, hx, hy =>
      cases hx; cases hy
      exact ⟨rfl, fun v hv => hv⟩
    | 4, hx, hy =>
      cases hx; cases hy
      exact ⟨rfl, fun v hv => hv⟩
    | n + 5, hx, hy => cases hx), fun _ _ _ q => q.elim⟩
structure FvA where
  nu : Bool
  le : List Int
  fo : List (List Nat)
  fi : List Nat
  la : List Nat
  ks : List Nat
  c : Int
  hk : ∀ k ∈ ks, k < le.length
  hz : ks.length < 2000
abbrev fit (le : List Int) (c : Int) (ks : List Nat) : List Nat := ks.filter fun k => decide (le.getD k 0 = c)
/-- fitting of frozen places -/
def pFitV (C : Addr) : Pr FvA where
  args a := [plV C a.nu a.le a.fo a.fi a.la, lst (nl a.ks), isI a.c]
  post a R Ts := R = lst (nl (fit a.le a.c a.ks)) ∧ Ts = []
theorem fit_snoc (le : List Int) (c : Int) (ks : List Nat) (k : Nat) : fit le c (ks ++ [k]) = if le.getD k 0 = c then fit le c ks ++ [k] else fit le c ks := by
  unfold fit
  rw [List.filter_append, List.filter_cons, List.filter_nil]
  split
  · rename_i h
    rw [if_pos (by simpa using h)]
  · rename_i h
    rw [if_neg (by simpa using h), List.append_nil]
theorem fit_len (le : List Int) (c : Int) (ks : List Nat) : (fit le c ks).length ≤ ks.length := List.length_filter_le _ _
theorem takeN {α : Type} {l : List α} {i : Nat} (h : i < l.length) : l.take (i + 1) = l.take i ++ [l[i]] := by rw [List.take_succ, List.getElem?_eq_getElem h]; rfl
theorem ok_fitV {C : Addr} (F : FnP K "fitting" "Places.fitting" s_Places_fitting f fd) (M : PlT K C) : FnOk P w K mg base (L2.CX P w) 1 f fd ["self", "places", "letter"] (Prom (pFitV C)) := by
  refine def_ok F sc_Places_fitting (fun a => rfl) fun a e cdv A outer s H E hr => ?_
  obtain ⟨nu, le, fo, fi, la, ks, c, hk, hz⟩ := a
  have nd := sc_Places_fitting.nd
  refine bl_one ?_
  refine sx_ret ?_
  refine ev_frz ?_
  refine ev_lc 3 rfl (blkOk_by rfl) (fun s H C cl fp => pg_name nd rfl (.inl rfl)) ?_
  refine ei_val ?_
  refine ev_var 1 rfl ?_
  refine wz_L (.l isL_lst) ?_
  refine ⟨fun i acc Ts' => acc = nl (fit le c (ks.take i)) ∧ Ts' = [], ⟨rfl, rfl⟩, fun i acc Ts' D _ hI => .l isL_lst, ?_, ?_⟩
  · rintro i R hi hR acc Ts' D ⟨rfl, rfl⟩
    have hi' : i < ks.length := by simpa using hi
    rw [nl_get hi'] at hR
    obtain rfl := Option.some.inj hR
    have hkk := hk _ (List.getElem_mem hi')
    have et := takeN hi'
    have hfl := fit_len le c (ks.take i)
    rw [List.length_take] at hfl
    generalize ks[i] = k at hkk et
    refine fun Δ s0 H0 C1 cl fp => ?_
    refine es_one ?_
    refine et_cmp ?_
    refine ev_ix ?_
    refine ev_attr ?_
    refine ev_var 0 rfl ?_
    refine at_F M.cl M.letters rfl ?_
    refine ev_var 3 rfl ?_
    refine ix_L (.l isL_lst) (atI_ofNat (Int.natCast_nonneg k) (by rw [Int.toNat_natCast]; exact zl_get hkk)) ?_
    refine ev_var 2 rfl ?_
    refine oz_eqI ?_
    refine ⟨_, rfl, ?_⟩
    have eg : le.getD k 0 = le[k] := by rw [List.getD_eq_getElem?_getD, List.getElem?_eq_getElem hkk]; rfl
    refine ⟨fun hc s0 H0 C1 cl fp => ?_, fun hc => ?_⟩
    · refine ev_var 3 rfl ?_
      refine ⟨0, rfl, by rw [List.length_map]; show _ < 16777216; omega, ?_, rfl⟩
      rw [et, fit_snoc, if_pos (by rw [eg]; simpa using hc), nl_app]
    · refine ⟨0, rfl, ?_, rfl⟩
      rw [et, fit_snoc, if_neg (by rw [eg]; simpa using hc)]
  · rintro acc Ts' D ⟨rfl, rfl⟩
    rw [List.length_map, List.take_length]
    exact ⟨D, 0, _, rfl, rfl, rfl, rfl⟩
end
end K71
set_option maxHeartbeats 4000000
namespace K71
open PySem PySem.Spec PyProof.Rows L2 Z P71
section
variable {X : Cx} {e : En} {Γ : List (Option VP)} {Ts : Ow} {Φ : VP → Ow → Prop} {Ψ : XP} {P : VP}
theorem memN (q : Nat) (ks : List Nat) : decide ((q : Int) ∈ ks.map fun (k : Nat) => (k : Int)) = decide (q ∈ ks) := by
  refine decide_eq_decide.mpr ?_
  rw [List.mem_map]
  exact ⟨fun ⟨x, hx, hxq⟩ => by rw [← Int.ofNat.inj hxq]; exact hx, fun h => ⟨q, h, rfl⟩⟩
theorem oz_inN {q : Nat} {ks : List Nat} (hl : IsSq X.K Ts P (nl ks)) (h : Φ (isB (decide (q ∈ ks))) Ts) : Oz X e (compareOp .In) (isI (q : Int)) P Ts Φ :=
  oz_inL (xs := (ks.map fun (k : Nat) => (k : Int)).map V.int) (by rw [← nl_V]; exact hl) rfl (flat_ints _) (by rw [inV_ints, memN]; exact h)
theorem oz_notinN {q : Nat} {ks : List Nat} (hl : IsSq X.K Ts P (nl ks)) (h : Φ (isB (!decide (q ∈ ks))) Ts) : Oz X e (compareOp .NotIn) (isI (q : Int)) P Ts Φ :=
  oz_notinL (xs := (ks.map fun (k : Nat) => (k : Int)).map V.int) (by rw [← nl_V]; exact hl) rfl (flat_ints _) (by rw [inV_ints, memN]; exact h)
theorem fitv_z {C : Addr} (a : FvA) (h : Φ (lst (nl (fit a.le a.c a.ks))) Ts) : CallZ X e Γ [] (pFitV C) [plV C a.nu a.le a.fo a.fi a.la, lst (nl a.ks), isI a.c] Ts Φ Ψ :=
  ⟨a, Ts, Ent.refl _, .refl _, fun P Ts' ⟨e2, e3⟩ => by
    subst e2; subst e3
    exact h, fun cls d Ts' q => q.elim⟩
end
theorem cut1 {α : Type} (x : α) (xs : List α) : cutP (x :: xs) (some 1) none = xs := by
  unfold cutP
  have h1 : HT.sIx (x :: xs).length 0 (some 1) = 1 := by simp [HT.sIx]
  have h2 : HT.sIx (x :: xs).length (x :: xs).length none = (x :: xs).length := rfl
  rw [h1, h2]; simp
/-- a dict's keys, places -/
def putN (ks : List Nat) (k : Nat) : List Nat := if k ∈ ks then ks else ks ++ [k]
theorem putI_nat (ks : List Nat) (k : Nat) : putI (ks.map fun (k : Nat) => (k : Int)) (k : Int) = (putN ks k).map fun (k : Nat) => (k : Int) := by
  unfold putI putN
  have e := memN k ks
  by_cases h : k ∈ ks
  · rw [if_pos h, if_pos (of_decide_eq_true (e.trans (decide_eq_true h)))]
  · rw [if_neg h, if_neg (of_decide_eq_false (e.trans (decide_eq_false h))), List.map_append]; rfl
theorem mem_putN {ks : List Nat} {k x : Nat} : x ∈ putN ks k ↔ x ∈ ks ∨ x = k := by
  unfold putN
  split
  · rename_i h
    constructor
    · exact .inl
    · rintro (h1 | rfl)
      · exact h1
      · exact h
  · simp
theorem putN_nodup {ks : List Nat} {k : Nat} (h : ks.Nodup) : (putN ks k).Nodup := by
  unfold putN
  split
  · exact h
  · rename_i hn
    exact List.nodup_append.mpr ⟨h, by simp, fun a ha b hb hab => by
      rw [List.mem_singleton.mp hb] at hab
      exact hn (hab ▸ ha)⟩
theorem perm_nat {ks : List Nat} {ys : List Int} (h : ys.Perm (ks.map fun (k : Nat) => (k : Int))) : ∃ ks' : List Nat, zl ys = nl ks' ∧ ks'.length = ks.length ∧ ∀ q, q ∈ ks' ↔ q ∈ ks := by
  have hy : ∀ y ∈ ys, ∃ k ∈ ks, (k : Int) = y := fun y hy => List.mem_map.mp (h.mem_iff.mp hy)
  refine ⟨ys.map Int.toNat, ?_, by rw [List.length_map, h.length_eq, List.length_map], fun q => ?_⟩
  · rw [nl, List.map_map]
    refine List.map_congr_left fun y hm => ?_
    obtain ⟨k, _, rfl⟩ := hy y hm
    rfl
  · rw [List.mem_map]
    constructor
    · rintro ⟨y, hm, rfl⟩
      obtain ⟨k, hk, rfl⟩ := hy y hm
      exact hk
    · intro hq
      exact ⟨(q : Int), h.mem_iff.mpr (List.mem_map.mpr ⟨q, hq, rfl⟩), rfl⟩
theorem mem_fit {le : List Int} {c : Int} {ks : List Nat} {q : Nat} : q ∈ fit le c ks ↔ q ∈ ks ∧ le.getD q 0 = c := by simp [fit]
section
variable {P : Program} {w : World} {K : PySem.W.Frag} {mg : Str → Option Value} {base : Heap} {f : Addr} {fd : FuncData}
abbrev s_matches : Stmt := top 2
theorem sc_matches : FnScope ["expression", "word", "places", "now", "letter", "k", "found", "j"] ["expression", "word"] (defScope s_matches) := ⟨rfl, rfl, rfl, by decide +kernel, rfl, by decide +kernel, by decide +kernel⟩
structure MtA (d : Nat) where
  e : Rx
  w : List Int
  hd : dep e ≤ d
  hw : w.length < 1000
def pMat (K : PySem.W.Frag) (d : Nat) : Pr (MtA d) where
  args a := [exP K a.e, lst (zl a.w)]
  post a R Ts := ∃ b : Bool, R = isB b ∧ (b = true ↔ Lang a.e a.w) ∧ Ts = []
theorem fo_in {ex : Rx} {k : Nat} (hk : k < (pLe ex).length) : ((pFo ex).map fun ks => lst (nl ks))[k]? = some (lst (nl ((pFo ex).getD k []))) := by
  have h := (plcs_ok ex).len
  have hk' : k < (pFo ex).length := h ▸ hk
  rw [List.getElem?_map, List.getD_eq_getElem?_getD, List.getElem?_eq_getElem hk']; rfl
theorem ok_matches {C : Addr} (d : Nat) (hd5 : d ≤ 5) (F : FnP K "matches" "matches" s_matches f fd) (T : Tx mg) (hso : mg "sorted" = none) (M : PlT K C) (Pc : Cz P w K mg base (d + 3) "Places" C [] (pInit K C d)) (Ft : Mz P w K mg base 1 C "fitting" [] (pFitV C)) :
    FnOk P w K mg base (L2.CX P w) (d + 5) f fd ["expression", "word"] (Prom (pMat K d)) := by
  refine def_ok F sc_matches (fun a => rfl) fun a e cdv A outer s H E hr => ?_
  obtain ⟨ex, wd, hd, hw⟩ := a
  have hp5 : 2 ^ d ≤ 2 ^ 5 := Nat.pow_le_pow_right (by decide) hd5
  show Bl _ _ [some (exP K ex), some (lst (zl wd)), none, none, none, none, none, none] [] [] _ _
  refine bl_cons ?_
  refine sx_asg 2 ?_
  refine ev_frzN ?_
  refine ev_make Pc hr ?_
  refine ea_cons ?_
  refine ev_var 0 rfl ?_
  refine ea_nil ?_
  refine plc_z hd fun h1 h2 h3 h4 => ?_
  have hM := M.nullable
  unfold plE plV
  refine bl_cons ?_
  refine sx_if ?_
  refine et_cmp ?_
  refine ev_cb T.len bt_len ?_
  refine ea_cons ?_
  refine ev_var 1 rfl ?_
  refine ea_nil ?_
  refine len_L (.l isL_lst) ?_
  refine ev_int ?_
  refine oz_eqI ?_
  refine ⟨_, rfl, ?_⟩
  refine ⟨fun hc => ?_, fun hc => ?_⟩
  · refine bl_one ?_
    refine sx_ret ?_
    refine ev_attr ?_
    refine ev_var 2 rfl ?_
    refine at_F M.cl hM rfl ?_
    have hw0 : wd = [] := by simpa using hc
    subst hw0
    exact ⟨_, rfl, nul_iff ex, rfl⟩
  obtain ⟨c, w', rfl⟩ : ∃ c w', wd = c :: w' := by
    cases wd with
    | nil => simp at hc
    | cons c w' => exact ⟨c, w', rfl⟩
  refine bl_nil ?_
  refine bl_cons ?_
  refine sx_asg 3 ?_
  refine ev_meth Ft (hr.mono (by omega)) ?_
  refine ev_var 2 rfl ?_
  refine ⟨⟨M.cl, .inl ⟨_, rfl, rfl⟩⟩, ?_⟩
  refine ea_cons ?_
  refine ev_attr ?_
  refine ev_var 2 rfl ?_
  refine at_F M.cl M.first rfl ?_
  refine ea_cons ?_
  refine ev_ix ?_
  refine ev_var 1 rfl ?_
  refine ev_int ?_
  refine ix_L (.l isL_lst) (atI_ofNat (by decide) rfl) ?_
  refine ea_nil ?_
  refine fitv_z ⟨nul ex, pLe ex, pFo ex, pFi ex, pLa ex, pFi ex, c, fun k hk => fi_lt hk, by omega⟩ ?_
  have hk0 : ∀ q, q ∈ fit (pLe ex) c (pFi ex) ↔ Beh ex [c] q := fun q => mem_fit.trans beh_one.symm
  have hl0 : (fit (pLe ex) c (pFi ex)).length < 1000 := by have := fit_len (pLe ex) c (pFi ex); omega
  generalize fit (pLe ex) c (pFi ex) = ks0 at hk0 hl0
  refine bl_cons ?_
  refine sx_for rfl ?_
  refine ei_val ?_
  refine ev_sl ?_
  refine ev_var 1 rfl ?_
  refine eo_some ?_
  refine ev_int ?_
  refine ⟨_, rfl, ?_⟩
  refine eo_none ?_
  refine sl_LF (.l isL_lst) ?_
  refine wz_L (.l isL_lst) ?_
  rw [show cutP (zl (c :: w')) (some 1) none = zl w' from cut1 _ _]
  refine ⟨fun i Γ' Ts' => ∃ (ks : List Nat) (x4 x5 x6 x7 : Option VP), (∀ q, q ∈ ks ↔ Beh ex (c :: w'.take i) q) ∧ ks.length < 1000 ∧
    Γ' = [some (exP K ex), some (lst (zl (c :: w'))), some (plE C ex), some (lst (nl ks)), x4, x5, x6, x7] ∧ Ts' = [], ⟨ks0, _, _, _, _, hk0, hl0, rfl, rfl⟩, fun _ _ _ _ _ => .l isL_lst, ?_, ?_⟩
  · rintro i R _ _ hi hR ⟨ks, x4, x5, x6, x7, hks, hkl, rfl, rfl⟩
    have hi' : i < w'.length := by simpa using hi
    rw [zl_get hi'] at hR
    obtain rfl := Option.some.inj hR
    have estep : c :: w'.take (i + 1) = (c :: w'.take i) ++ [w'[i]] := by rw [takeN hi']; rfl
    generalize w'[i] = c2 at estep
    refine tg_name 4 ?_
    refine bl_cons ?_
    refine sx_asg 6 ?_
    refine ev_dict fun pf => ?_
    refine bl_cons ?_
    refine sx_for rfl ?_
    refine ei_val ?_
    refine ev_var 3 rfl ?_
    refine wz_L (.l isL_lst) ?_
    refine ⟨fun t Γ' Ts' => ∃ (fs : List Nat) (x5 x7 : Option VP), fs.Nodup ∧ (∀ q, q ∈ fs ↔ ∃ x, x ∈ ks.take t ∧ q ∈ (pFo ex).getD x [] ∧ (pLe ex).getD q 0 = c2) ∧
      Γ' = [some (exP K ex), some (lst (zl (c :: w'))), some (plE C ex), some (lst (nl ks)), some (isI c2), x5, some (isR pf), x7] ∧ Ts' = [(pf, cK (fs.map fun (k : Nat) => (k : Int)))], ⟨[], _, _, .nil, fun q => by simp, rfl, rfl⟩, fun _ _ _ _ _ => .l isL_lst, ?_, ?_⟩
    · rintro t R _ _ ht hR ⟨fs, x5, x7, hnd, hfs, rfl, rfl⟩
      have ht' : t < ks.length := by simpa using ht
      rw [nl_get ht'] at hR
      obtain rfl := Option.some.inj hR
      have hkb := beh_lt ((hks _).mp (List.getElem_mem ht'))
      have etk := takeN ht'
      generalize ks[t] = k at hkb etk
      have hfl : ((pFo ex).getD k []).length < 1000 := by
        have hk' : k < (pFo ex).length := (plcs_ok ex).len ▸ hkb
        have a1 := h1.len hk'
        have a2 : (pLe ex).length = (pFo ex).length := (plcs_ok ex).len
        omega
      refine tg_name 5 ?_
      refine bl_one ?_
      refine sx_for rfl ?_
      refine ei_val ?_
      refine ev_meth Ft (hr.mono (by omega)) ?_
      refine ev_var 2 rfl ?_
      refine ⟨⟨M.cl, .inl ⟨_, rfl, rfl⟩⟩, ?_⟩
      refine ea_cons ?_
      refine ev_ix ?_
      refine ev_attr ?_
      refine ev_var 2 rfl ?_
      refine at_F M.cl M.follow rfl ?_
      refine ev_var 5 rfl ?_
      refine ix_L (.l isL_lst) (atI_ofNat (Int.natCast_nonneg k) (by rw [Int.toNat_natCast]; exact fo_in hkb)) ?_
      refine ea_cons ?_
      refine ev_var 4 rfl ?_
      refine ea_nil ?_
      refine fitv_z ⟨nul ex, pLe ex, pFo ex, pFi ex, pLa ex, (pFo ex).getD k [], c2, fun q hq => fo_lt hkb hq, by omega⟩ ?_
      refine wz_L (.l isL_lst) ?_
      refine ⟨fun s Γ' Ts' => ∃ (gs : List Nat) (x7 : Option VP), gs.Nodup ∧ (∀ q, q ∈ gs ↔ q ∈ fs ∨ q ∈ (fit (pLe ex) c2 ((pFo ex).getD k [])).take s) ∧
        Γ' = [some (exP K ex), some (lst (zl (c :: w'))), some (plE C ex), some (lst (nl ks)), some (isI c2), some (isI (k : Int)), some (isR pf), x7] ∧ Ts' = [(pf, cK (gs.map fun (k : Nat) => (k : Int)))], ⟨fs, _, hnd, fun q => by simp, rfl, rfl⟩, fun _ _ _ _ _ => .l isL_lst, ?_, ?_⟩
      · rintro s R _ _ hs hR ⟨gs, x7, hgn, hgs, rfl, rfl⟩
        have hs' : s < (fit (pLe ex) c2 ((pFo ex).getD k [])).length := by simpa using hs
        rw [nl_get hs'] at hR
        obtain rfl := Option.some.inj hR
        have ets := takeN hs'
        have hlen : gs.length ≤ (pLe ex).length := nodup_len _ _ hgn fun q hq => by
          rcases (hgs q).mp hq with h | h
          · obtain ⟨x, hx, hq, _⟩ := (hfs q).mp h
            exact fo_lt (beh_lt ((hks x).mp (List.mem_of_mem_take hx))) hq
          · exact fo_lt hkb (mem_fit.mp (List.mem_of_mem_take h)).1
        generalize (fit (pLe ex) c2 ((pFo ex).getD k []))[s] = j at ets
        refine tg_name 7 ?_
        refine bl_one ?_
        refine sx_asgT ?_
        refine ev_bl ?_
        refine tg_put (Nat.lt_of_le_of_lt (Nat.add_le_add_left (by decide) _) hr.units) ?_
        refine ev_var 6 rfl ?_
        refine ⟨_, rfl, ?_⟩
        refine ev_var 7 rfl ?_
        refine ⟨_, 0, _, rfl, rfl, by rw [List.length_map]; show _ < 16777216; omega, ?_⟩
        refine ⟨putN gs j, _, putN_nodup hgn, fun q => ?_, rfl, by rw [putI_nat]; rfl⟩
        rw [mem_putN, hgs, ets, List.mem_append, List.mem_singleton, or_assoc]
      · rintro _ _ ⟨gs, x7, hgn, hgs, rfl, rfl⟩
        refine ⟨gs, _, _, hgn, fun q => ?_, rfl, rfl⟩
        rw [hgs, hfs, List.length_map, List.take_length, mem_fit, etk]
        constructor
        · rintro (⟨x, a1, a2⟩ | h)
          · exact ⟨x, List.mem_append_left _ a1, a2⟩
          · exact ⟨k, List.mem_append_right _ List.mem_cons_self, h⟩
        · rintro ⟨x, a1, a2⟩
          rcases List.mem_append.mp a1 with a1 | a1
          · exact .inl ⟨x, a1, a2⟩
          · rw [List.mem_singleton.mp a1] at a2
            exact .inr a2
    · rintro _ _ ⟨fs, x5, x7, hnd, hfs, rfl, rfl⟩
      have hlen : fs.length ≤ (pLe ex).length := nodup_len _ _ hnd fun q hq => by
        obtain ⟨x, hx, hq, _⟩ := (hfs q).mp hq
        exact fo_lt (beh_lt ((hks x).mp (List.mem_of_mem_take hx))) hq
      refine bl_one ?_
      refine sx_asg 3 ?_
      refine ev_sub ?_
      refine ev_cb hso bt_sorted ?_
      refine ea_cons ?_
      refine ev_var 6 rfl ?_
      refine ea_nil ?_
      refine sorted_K (ks := fs.map fun (k : Nat) => (k : Int)) rfl 0 rfl (by rw [List.length_map]; omega) fun ys hys => ⟨[], List.nil_sublist _, ?_⟩
      obtain ⟨ks', e1, e2, e3⟩ := perm_nat hys
      rw [show (ys.map fun i => isI i) = nl ks' from e1]
      refine ⟨ks', _, _, _, _, fun q => ?_, by omega, rfl, rfl⟩
      rw [e3, hfs, estep, beh_step (List.cons_ne_nil _ _), List.length_map, List.take_length]
      constructor
      · rintro ⟨x, a1, a2⟩
        exact ⟨x, (hks x).mp a1, a2⟩
      · rintro ⟨x, a1, a2⟩
        exact ⟨x, (hks x).mpr a1, a2⟩
  · rintro _ _ ⟨ks, x4, x5, x6, x7, hks, hkl, rfl, rfl⟩
    rw [List.length_map, List.take_length] at hks
    have hL : Lang ex (c :: w') ↔ ∃ q, q ∈ ks ∧ q ∈ pLa ex := by
      rw [lang_iff (List.cons_ne_nil _ _)]
      exact ⟨fun ⟨q, a1, a2⟩ => ⟨q, (hks q).mpr a1, a2⟩, fun ⟨q, a1, a2⟩ => ⟨q, (hks q).mp a1, a2⟩⟩
    refine bl_cons ?_
    refine sx_for rfl ?_
    refine ei_val ?_
    refine ev_var 3 rfl ?_
    refine wz_L (.l isL_lst) ?_
    refine ⟨fun i Γ' Ts' => ∃ (x5 : Option VP), (∀ q, q ∈ ks.take i → ¬ q ∈ pLa ex) ∧ Γ' = [some (exP K ex), some (lst (zl (c :: w'))), some (plE C ex), some (lst (nl ks)), x4, x5, x6, x7] ∧ Ts' = [], ⟨_, fun q h => by simp at h, rfl, rfl⟩, fun _ _ _ _ _ => .l isL_lst, ?_, ?_⟩
    · rintro i R _ _ hi hR ⟨x5, hno, rfl, rfl⟩
      have hi' : i < ks.length := by simpa using hi
      rw [nl_get hi'] at hR
      obtain rfl := Option.some.inj hR
      have hm := List.getElem_mem hi'
      have eti := takeN hi'
      generalize ks[i] = k at hm eti
      refine tg_name 5 ?_
      refine bl_one ?_
      refine sx_if ?_
      refine et_cmp ?_
      refine ev_var 5 rfl ?_
      refine ev_attr ?_
      refine ev_var 2 rfl ?_
      refine at_F M.cl M.last rfl ?_
      refine oz_inN (.l isL_lst) ?_
      refine ⟨_, rfl, fun hc => ?_, fun hc => ?_⟩
      · refine bl_one ?_
        refine sx_ret ?_
        refine ev_bl ?_
        exact ⟨true, rfl, ⟨fun _ => hL.mpr ⟨k, hm, of_decide_eq_true hc⟩, fun _ => rfl⟩, rfl⟩
      · refine bl_nil ?_
        refine ⟨_, fun q hq => ?_, rfl, rfl⟩
        rw [eti] at hq
        rcases List.mem_append.mp hq with hq | hq
        · exact hno q hq
        · rw [List.mem_singleton.mp hq]
          exact of_decide_eq_false hc
    · rintro _ _ ⟨x5, hno, rfl, rfl⟩
      rw [List.length_map, List.take_length] at hno
      refine bl_one ?_
      refine sx_ret ?_
      refine ev_bl ?_
      exact ⟨false, rfl, ⟨(fun h => nomatch h), fun h => by
        obtain ⟨q, a1, a2⟩ := hL.mp h
        exact absurd a2 (hno q a1)⟩, rfl⟩
end
end K71
set_option maxHeartbeats 4000000
namespace K71
open PySem PySem.Spec PyProof.Rows L2 Z P71
section
variable {X : Cx} {e : En} {Γ : List (Option VP)} {Ts : Ow} {Φ : VP → Ow → Prop} {Ψ : XP} {P : VP}
theorem draws_z {zs : List Int} {n : Int} (h0 : 0 ≤ n) (h1 : n < 1000) (h : ∀ p ds, Φ (isR p) (drs p ds :: Ts)) : CallZ X e Γ [] (pDraws X.K) [lstG X.K (zl zs), isI n] Ts Φ Ψ :=
  ⟨⟨(zs, n), h0, h1⟩, Ts, Ent.refl _, .refl _, fun P Ts' ⟨p, ds, e1, e2⟩ => by
    subst e1; subst e2
    exact h p ds, fun _ _ _ z => z.elim⟩
theorem expr_z {p : Addr} {ds : List Int} {ls : Int} {d : Nat} (k : Nat) (hk : Ts[k]? = some (drs p ds)) (hls : 0 < ls) (h : ∀ ex ds', dep ex ≤ d → Bel ls ex → Φ (exP X.K ex) (drs p ds' :: Ts.eraseIdx k)) : CallZ X e Γ [] (pExpr X.K d) [isR p, isI ls, isI (d : Int)] Ts Φ Ψ :=
  ⟨⟨(p, ds, ls), hls⟩, Ts.eraseIdx k, Ent.refl _, by
    have := (front_perm (A' := cL (zl ds)) hk).symm
    rw [set_same hk] at this
    exact this, fun P Ts' ⟨ex, ds', e1, h1, h2, e2⟩ => by
    subst e1; subst e2
    exact h ex ds' h1 h2, fun _ _ _ z => z.elim⟩
theorem made_zk {p : Addr} {ds : List Int} {d : Nat} {a : Rx} (k : Nat) (hk : Ts[k]? = some (drs p ds)) (ha : dep a ≤ d) (h : ∀ u ds', u.length ≤ 2 ^ d → Φ (lst (zl u)) (drs p ds' :: Ts.eraseIdx k)) : CallZ X e Γ [] (pMade X.K d) [isR p, exP X.K a] Ts Φ Ψ :=
  callz_perm (by
    have := (front_perm (A' := cL (zl ds)) hk).symm
    rw [set_same hk] at this
    exact this) (made_z ha h)
theorem mat_z {d : Nat} {a : Rx} {u : List Int} (ha : dep a ≤ d) (hu : u.length < 1000) (h : ∀ b : Bool, (b = true ↔ Lang a u) → Φ (isB b) Ts) : CallZ X e Γ [] (pMat X.K d) [exP X.K a, lst (zl u)] Ts Φ Ψ :=
  ⟨⟨a, u, ha, hu⟩, Ts, Ent.refl _, .refl _, fun P Ts' ⟨b, e2, h2, e3⟩ => by
    subst e2; subst e3
    exact h b h2, fun cls d Ts' q => q.elim⟩
end
theorem rwL_get {N : Nat} {g : Nat → Bool} {i : Nat} (h : i < N) : (rwL N g)[i]? = some (isB (g i)) := by simp [h]
theorem mxL_get {N : Nat} {m : Mx} {i : Nat} (h : i < N) : (mxL N m)[i]? = some (lst (rwL N (m i))) := by simp [h]
theorem cut8 (u : List Int) : cutP (zl u) none (some 8) = zl (u.take 8) := by
  unfold cutP
  have h1 : HT.sIx (zl u).length 0 none = 0 := rfl
  have h2 : HT.sIx (zl u).length (zl u).length (some 8) = min 8 u.length := by
    rw [List.length_map]; exact HT.sIx_nat _ _ 8
  rw [h1, h2, List.drop_zero, Nat.sub_zero, show zl (u.take 8) = (zl u).take 8 from List.map_take]
  by_cases h : u.length ≤ 8
  · rw [Nat.min_eq_right h, List.take_of_length_le (by simp), List.take_of_length_le (by simpa using h)]
  · rw [Nat.min_eq_left (by omega)]
section
variable {P : Program} {w : World} {K : PySem.W.Frag} {mg : Str → Option Value} {base : Heap} {f : Addr} {fd : FuncData}
abbrev s_law : Stmt := top 13
theorem sc_law : FnScope ["_law_script", "_law_draws_here", "_law_letters", "_law_expression_here", "_law_word", "_law_expected", "_law_passed", "_law_found", "_law_steps_here", "_law_k"] ["_law_script"] (defScope s_law) := ⟨rfl, rfl, rfl, by decide +kernel, rfl, by decide +kernel, by decide +kernel⟩
def pLaw (K : PySem.W.Frag) : Pr (List Int) where
  args zs := [lstG K (zl zs)]
  post zs R Ts := R = isB true
theorem ok_law (F : FnP K "law" "law" s_law f fd) (T : Tx mg) (hbo : mg "bool" = none) (Dr : Fz P w K mg base 1 "_law_draws" [] (pDraws K)) (Tk : Fz P w K mg base 1 "_law_take" [] pTake) (Ex : Fz P w K mg base 5 "_law_expression" [] (pExpr K 3)) (Md : Fz P w K mg base 5 "_law_made" [] (pMade K 3)) (Nu : Fz P w K mg base 4 "_law_nullable" [] (pNul K 3)) (St : Fz P w K mg base 6 "_law_steps" [] (pSt K 3)) (Mt : Fz P w K mg base 8 "matches" [] (pMat K 3)) :
    FnOk P w K mg base (L2.CX P w) 9 f fd ["_law_script"] (Prom (pLaw K)) := by
  refine def_ok F sc_law (fun a => rfl) fun zs e cdv A outer s H E hr => ?_
  have nd := sc_law.nd
  show Bl _ _ (some (lstG K (zl zs)) :: List.replicate 9 none) [] [] _ _
  refine bl_cons ?_
  refine sx_asg 1 ?_
  refine ev_call Dr (hr.mono (by decide)) ?_
  refine ea_cons ?_
  refine ev_var 0 rfl ?_
  refine ea_cons ?_
  refine ev_int ?_
  refine ea_nil ?_
  refine draws_z (by decide) (by decide) fun pd ds => ?_
  refine bl_cons ?_
  refine sx_asg 2 ?_
  refine ev_bin ?_
  refine ev_int ?_
  refine ev_call Tk (hr.mono (by decide)) ?_
  refine ea_cons ?_
  refine ev_var 1 rfl ?_
  refine ea_cons ?_
  refine ev_int ?_
  refine ea_nil ?_
  refine take_z 0 rfl (by decide) fun i0 ds hi0a hi0b => ?_
  refine oz_add ?_
  refine bl_cons ?_
  refine sx_asg 3 ?_
  refine ev_call Ex (hr.mono (by decide)) ?_
  refine ea_cons ?_
  refine ev_var 1 rfl ?_
  refine ea_cons ?_
  refine ev_var 2 rfl ?_
  refine ea_cons ?_
  refine ev_int ?_
  refine ea_nil ?_
  have hL : 0 < 1 + i0 := by omega
  generalize 1 + i0 = ls at hL
  refine expr_z (d := 3) 0 rfl hL fun ex ds hd hB => ?_
  refine bl_cons ?_
  refine sx_lc 4 9 rfl (blkOk_by rfl) (fun s H C cl fp => pg_name nd rfl (.inl rfl)) ?_
  refine ei_range1 T.range ?_
  refine ev_call Tk (hr.mono (by decide)) ?_
  refine ea_cons ?_
  refine ev_var 1 rfl ?_
  refine ea_cons ?_
  refine ev_int ?_
  refine ea_nil ?_
  refine take_z 0 rfl (by decide) fun i1 ds hi1a hi1b => ?_
  refine ⟨_, rfl, by omega, by omega, ?_⟩
  refine ⟨fun i acc Ts' => ∃ u ds', acc = zl u ∧ u.length = i ∧ Ts' = [drs pd ds'], ⟨[], _, rfl, rfl, rfl⟩, fun _ _ _ _ _ _ => trivial, ?_, ?_⟩
  · rintro i R hi hR acc Ts' D ⟨u, ds', rfl, rfl, rfl⟩
    subst hR
    refine fun Δ s0 H0 C1 cl fp => ?_
    refine es_nil ⟨fun _ s0 H0 C1 cl fp => ?_, fun q => nomatch q⟩
    refine ev_call Tk (hr.mono (by decide)) ?_
    refine ea_cons ?_
    refine ev_var 1 rfl ?_
    refine ea_cons ?_
    refine ev_var 2 rfl ?_
    refine ea_nil ?_
    refine take_z 1 rfl (by omega) fun i2 ds hi2a hi2b => ?_
    exact ⟨1, rfl, by rw [List.length_map]; show _ < 16777216; omega, u ++ [i2], _, zl_app _ _, by simp, rfl⟩
  rintro acc Ts' D ⟨u, ds, rfl, hul, rfl⟩
  have hu8 : u.length ≤ 8 := by omega
  refine bl_cut (fun Γ' Ts' => ∃ p u ds R x9, u.length ≤ 8 ∧ Γ' = [some (lstG K (zl zs)), some (isR pd), some (isI ls), some (exP K ex), some (isR p), none, none, none, none, x9] ∧ Ts'.Perm (drs p u :: drs pd ds :: R)) ?_ ?_
  · refine sx_if ?_
    refine et_cmp ?_
    refine ev_call Tk (hr.mono (by decide)) ?_
    refine ea_cons ?_
    refine ev_var 1 rfl ?_
    refine ea_cons ?_
    refine ev_int ?_
    refine ea_nil ?_
    refine take_z 1 rfl (by decide) fun i2 ds hi2a hi2b => ?_
    refine ev_int ?_
    refine oz_eqI ?_
    refine ⟨_, rfl, ?_⟩
    refine ⟨fun hc => ?_, fun hc => ?_⟩
    · refine bl_cons ?_
      refine sx_asg 4 ?_
      refine ev_sl ?_
      refine ev_call Md (hr.mono (by decide)) ?_
      refine ea_cons ?_
      refine ev_var 1 rfl ?_
      refine ea_cons ?_
      refine ev_var 3 rfl ?_
      refine ea_nil ?_
      refine made_zk (d := 3) 0 rfl hd fun u2 ds2 hu2 => ?_
      refine eo_none ?_
      refine eo_some ?_
      refine ev_int ?_
      refine ⟨_, rfl, ?_⟩
      refine sl_L (.l isL_lst) fun p2 => ?_
      have hcut : cutP (zl u2) none (some 8) = zl (u2.take 8) := cut8 _
      rw [hcut]
      have hu3 : (u2.take 8).length ≤ 8 := by rw [List.length_take]; omega
      generalize u2.take 8 = u3 at hu3
      refine bl_one ?_
      refine sx_if ?_
      refine et_bool ?_
      refine ew_and ?_
      refine et_cmp ?_
      refine ev_cb T.len bt_len ?_
      refine ea_cons ?_
      refine ev_var 4 rfl ?_
      refine ea_nil ?_
      refine len_L (.o 0 rfl) ?_
      refine ev_int ?_
      refine oz_gt ?_
      refine ⟨_, rfl, ?_⟩
      refine ⟨fun hc2 => ?_, fun hc2 => ?_⟩
      · refine ew_and1 ?_
        refine et_cmp ?_
        refine ev_call Tk (hr.mono (by decide)) ?_
        refine ea_cons ?_
        refine ev_var 1 rfl ?_
        refine ea_cons ?_
        refine ev_int ?_
        refine ea_nil ?_
        refine take_z 1 rfl (by decide) fun i3 ds hi3a hi3b => ?_
        refine ev_int ?_
        refine oz_eqI ?_
        refine ⟨_, rfl, ?_⟩
        refine ⟨fun hc3 => ?_, fun hc3 => ?_⟩
        · refine bl_one ?_
          refine sx_asgT ?_
          refine ev_call Tk (hr.mono (by decide)) ?_
          refine ea_cons ?_
          refine ev_var 1 rfl ?_
          refine ea_cons ?_
          refine ev_var 2 rfl ?_
          refine ea_nil ?_
          refine take_z 0 rfl (by omega) fun i4 ds hi4a hi4b => ?_
          have hul3 : 0 < u3.length := by have := of_decide_eq_true hc2; simpa using this
          refine tg_subL ?_
          refine ev_var 4 rfl ?_
          refine ⟨_, rfl, ?_⟩
          refine ev_call Tk (hr.mono (by decide)) ?_
          refine ea_cons ?_
          refine ev_var 1 rfl ?_
          refine ea_cons ?_
          refine ev_cb T.len bt_len ?_
          refine ea_cons ?_
          refine ev_var 4 rfl ?_
          refine ea_nil ?_
          refine len_L (.o 1 rfl) ?_
          refine ea_nil ?_
          refine take_z 0 rfl (by simp only [List.length_map, List.length_append, List.length_cons, List.length_nil]; omega) fun i5 ds hi5a hi5b => ?_
          have hi5 : i5.toNat < u3.length := by simp at hi5b; omega
          refine ⟨_, 1, zl u3, i5.toNat, rfl, rfl, ?_, ?_⟩
          · rw [List.length_map]
            exact ixN_at hi5a (by omega)
          · exact ⟨p2, u3.set i5.toNat i4, _, _, _, by rw [List.length_set]; exact hu3, rfl, by rw [zl_set]; exact .swap _ _ _⟩
        · refine bl_nil ?_
          exact ⟨p2, u3, _, _, _, hu3, rfl, .swap _ _ _⟩
      · refine ⟨fun hc3 => absurd hc3 (by decide), fun _ => ?_⟩
        refine bl_nil ?_
        exact ⟨p2, u3, _, _, _, hu3, rfl, .refl _⟩
    · refine bl_nil ?_
      exact ⟨D, u, _, [], _, hu8, rfl, .swap _ _ _⟩
  rintro _ Ts' ⟨p, u, ds, R, x9, hu8, rfl, hpm⟩
  refine bl_perm (.inr (.inr hpm.symm)) (fun x hx => hpm.mem_iff.mpr hx) ?_
  refine bl_cons ?_
  refine sx_asg 5 ?_
  refine ev_call Nu (hr.mono (by decide)) ?_
  refine ea_cons ?_
  refine ev_var 3 rfl ?_
  refine ea_nil ?_
  refine nul_z hd ?_
  refine bl_cut (fun Γ' Ts' => ∃ b x8, (b = true ↔ Lang ex u) ∧ Γ' = [some (lstG K (zl zs)), some (isR pd), some (isI ls), some (exP K ex), some (isR p), some (isB b), none, none, x8, x9] ∧ ∃ R', Ts'.Perm (drs p u :: R')) ?_ ?_
  · refine sx_if ?_
    refine et_cmp ?_
    refine ev_cb T.len bt_len ?_
    refine ea_cons ?_
    refine ev_var 4 rfl ?_
    refine ea_nil ?_
    refine len_L (.o 0 rfl) ?_
    refine ev_int ?_
    refine oz_gt ?_
    refine ⟨_, rfl, ?_⟩
    refine ⟨fun hc => ?_, fun hc => ?_⟩
    · refine bl_cons ?_
      refine sx_asg 8 ?_
      refine ev_call St (hr.mono (by decide)) ?_
      refine ea_cons ?_
      refine ev_var 3 rfl ?_
      refine ea_cons ?_
      refine ev_bin ?_
      refine ev_var 4 rfl ?_
      refine ev_lst ?_
      refine ea_cons ?_
      refine ev_var 2 rfl ?_
      refine ea_nil ?_
      refine ⟨Nat.le_of_ble_eq_true rfl, fun p0 => ?_⟩
      refine oz_catF (.o 1 rfl) (.o 0 rfl) (by show _ ≤ 16777216; simp only [List.length_map, List.length_append, List.length_cons, List.length_nil, List.length_take, List.length_replicate]; omega) ?_
      refine ea_cons ?_
      refine ev_cb T.len bt_len ?_
      refine ea_cons ?_
      refine ev_var 4 rfl ?_
      refine ea_nil ?_
      refine len_L (.o 1 rfl) ?_
      refine ea_nil ?_
      rw [zl_app, show ((zl u).length : Int) = (u.length : Int) by rw [List.length_map]]
      refine st_z hd (by omega) ?_
      refine bl_one ?_
      refine sx_asg 5 ?_
      refine ev_ix ?_
      refine ev_ix ?_
      refine ev_var 8 rfl ?_
      refine ev_int ?_
      refine ix_L (.l isL_lst) (atI_ofNat (by decide) (mxL_get (Nat.succ_pos _))) ?_
      refine ev_cb T.len bt_len ?_
      refine ea_cons ?_
      refine ev_var 4 rfl ?_
      refine ea_nil ?_
      refine len_L (.o 1 rfl) ?_
      refine ix_L (.l isL_lst) (atI_ofNat (Int.natCast_nonneg _) (by rw [List.length_map, Int.toNat_natCast]; exact rwL_get (Nat.lt_succ_self _))) ?_
      have hu0 : 0 < u.length := by have := of_decide_eq_true hc; simpa using this
      refine ⟨stp u ls ex 0 u.length, _, ?_, rfl, _, .swap _ _ _⟩
      rw [stp_iff u ls ex hB 0 u.length (Nat.zero_le _) (Nat.le_refl _)]
      have e : seg u 0 u.length = u := by simp [seg]
      rw [e]
      exact ⟨fun h => h.2, fun h => ⟨hu0, h⟩⟩
    · have hu0 : u = [] := by simpa using hc
      subst hu0
      refine bl_nil ?_
      exact ⟨nul ex, _, nul_iff ex, rfl, _, .refl _⟩
  rintro _ Ts' ⟨b, x8, hb, rfl, R', hpm2⟩
  refine bl_perm (.inr (.inr hpm2.symm)) (fun x hx => hpm2.mem_iff.mpr hx) ?_
  refine bl_cons ?_
  refine sx_asg 6 ?_
  refine ev_ct T.list bt_list ?_
  refine ea_cons ?_
  refine ev_var 4 rfl ?_
  refine ea_nil ?_
  refine list_LF (.o 0 rfl) ?_
  refine bl_cons ?_
  refine sx_asg 7 ?_
  refine ev_call Mt (hr.mono (by decide)) ?_
  refine ea_cons ?_
  refine ev_var 3 rfl ?_
  refine ea_cons ?_
  refine ev_var 6 rfl ?_
  refine ea_nil ?_
  refine mat_z hd (by omega) fun b2 hb2 => ?_
  refine bl_one ?_
  refine sx_ret ?_
  refine ev_and ?_
  refine ev_cb T.isinstance bt_isinstance ?_
  refine ea_cons ?_
  refine ev_var 7 rfl ?_
  refine ea_cons ?_
  refine ev_bty hbo bt_bool ?_
  refine ea_nil ?_
  refine isi_ty tyk_B rfl ?_
  refine ⟨_, rfl, ?_⟩
  refine ⟨fun _ => ?_, fun q => absurd q (by decide +kernel)⟩
  refine ev_and ?_
  refine ev_cmp ?_
  refine ev_var 7 rfl ?_
  refine ev_var 5 rfl ?_
  refine oz_eqB ?_
  refine ⟨_, rfl, ?_⟩
  have hbb : b2 = b := by
    cases b <;> cases b2 <;> simp_all
  refine ⟨fun _ => ?_, fun hc => absurd hbb (of_decide_eq_false hc)⟩
  refine ev_one ?_
  refine ev_cmp ?_
  refine ev_var 6 rfl ?_
  refine ev_var 4 rfl ?_
  refine oz_eqD hr (.lst (.l isL_lst) (isDs_ints u)) (.lst (.o 0 rfl) (isDs_ints u)) (lD_sh u) (lD_sh u) ?_
  show isB _ = isB true
  rw [lD_self]
end
end K71
set_option maxHeartbeats 4000000
/-! a head's facts with properties -/
namespace Z
open PySem PySem.Spec PyProof.Rows L2 He
/-- a property of a class: its name, its getter -/
structure PrD where
  cls : Str
  name : Str
  fn : Str
  qual : Str
  params : Arguments
  body : List Stmt
  scope : Scope
def prA (K : PySem.W.Frag) (d : PrD) : Addr := match PySem.W.findIn K (.ref (ga K d.cls)) d.name with
  | some (some (.ref a)) => a
  | _ => 0
def prV (K : PySem.W.Frag) (d : PrD) : List Value := match PySem.W.recIn K (prA K d) "property" with
  | some vs => vs
  | none => []
def prG (K : PySem.W.Frag) (d : PrD) : Addr := match prV K d with
  | .ref g :: _ => g
  | _ => 0
def prW (K : PySem.W.Frag) (d : PrD) : FnW := match K.lookup (prG K d) with
  | some ⟨_, _, .func fd, _⟩ => some (fd.name, fd.qualname, fd.params, fd.body, fd.scope, fd.globals, fd.closure, fd.builtins)
  | _ => none
def PrD.val (d : PrD) : FnW := some (d.fn, d.qual, d.params, .stmts d.body, d.scope, mainGlobals, [], builtinsNs)
def PrD.ok (K : PySem.W.Frag) (d : PrD) : Bool := eqO (PySem.W.findIn K (.ref (ga K d.cls)) d.name) (some (some (.ref (prA K d)))) && (eqO (PySem.W.specialIn K (.ref (prA K d)) "__get__") (some (some (.builtin "property.__get__"))) &&
  (decide (PySem.W.takesIn K (.ref (prA K d)) = some true) && ((match PySem.W.recIn K (prA K d) "property" with
    | some (.ref _ :: _) => true
    | _ => false) && (PySem.W.keepIn K (.ref (prG K d)) && (match K.lookup (prG K d) with
    | some ⟨_, _, .func fd, _⟩ => PySem.W.codeIn K fd.code d.qual && dflB K fd.defaults []
    | _ => false)))))
theorem PrD.prop {K : PySem.W.Frag} {d : PrD} (c : d.ok K = true) : PropOf K (ga K d.cls) d.name (prA K d) (prG K d) := by
  obtain ⟨c1, c⟩ := ba c
  obtain ⟨c2, c⟩ := ba c
  obtain ⟨c3, c⟩ := ba c
  obtain ⟨c4, _⟩ := ba c
  refine ⟨eqO_ok c1, eqO_ok c2, of_decide_eq_true c3, ?_⟩
  cases q : PySem.W.recIn K (prA K d) "property" with
  | none => rw [q] at c4; cases c4
  | some vs =>
    have e1 : prV K d = vs := by unfold prV; rw [q]
    rw [q] at c4
    cases vs with
    | nil => cases c4
    | cons v vs =>
      cases v with
      | ref g => exact ⟨vs, by unfold prG; rw [e1]⟩
      | _ => cases c4
theorem PrD.funD {K : PySem.W.Frag} {d : PrD} (e : prW K d = d.val) (c : d.ok K = true) : ∃ fd, FunD K d.fn d.qual d.params d.body d.scope [] [] (prG K d) fd := by
  obtain ⟨_, c⟩ := ba c
  obtain ⟨_, c⟩ := ba c
  obtain ⟨_, c⟩ := ba c
  obtain ⟨_, c⟩ := ba c
  obtain ⟨kp, c2⟩ := ba c
  unfold prW at e
  cases q : K.lookup (prG K d) with
  | none => rw [q] at c2; cases c2
  | some o =>
    obtain ⟨oc, od, dt, osl⟩ := o
    rw [q] at c2 e
    cases dt with
    | func fd =>
      obtain ⟨n1, n2, n3, n4, n5, n6, n7, n8, n9, n10, n11, n12, n13, n14, n15⟩ := fd
      have e2 : (some (n1, n2, n3, n4, n5, n6, n7, n15) : FnW) = some (d.fn, d.qual, d.params, .stmts d.body, d.scope, mainGlobals, [], builtinsNs) := e
      simp only [Option.some.injEq, Prod.mk.injEq] at e2
      obtain ⟨h1, h2, h3, h4, h5, h6, h7, h8⟩ := e2
      subst h1 h2 h3 h4 h5 h6 h7 h8
      obtain ⟨k1, k3⟩ := ba (show (PySem.W.codeIn K n13 d.qual && dflB K n8 []) = true from c2)
      exact ⟨_, ⟨oc, od, n8, n9, n10, n11, n12, n13, n14, osl, rfl, q, k1, dflB_ok k3, .inl rfl⟩, kp⟩
    | _ => cases c2
abbrev AlP : Type := AlD × AlD
def obsP (fa : List Fa) (fn : List DefD) (ps : List PrD) (K : PySem.W.Frag) : AlP := (obsD fa fn K, (ps.all fun d => d.ok K, ps.map fun d => prW K d))
def valP (fn : List DefD) (ps : List PrD) : AlP := (valD fn, (true, ps.map PrD.val))
def SaysP (fa : List Fa) (fn : List DefD) (ps : List PrD) (K : PySem.W.Frag) : Prop := obsP fa fn ps K = valP fn ps
def obsPG (n : Nat) (fa : List Fa) (fn : List DefD) (ps : List PrD) (g : Addr → Option Obj) : AlP := obsP fa fn ps (frG g (asD g n))
def hookP (n : Nat) (fa : List Fa) (fn : List DefD) (ps : List PrD) : PySem.W.Hook where
  α := AlP
  obs := fun s => obsPG n fa fn ps s.heap.get?
  val := fun _ => valP fn ps
  says := fun _ h => ∃ K : PySem.W.Frag, K.In h ∧ SaysP fa fn ps K
  of := fun _ _ e => ⟨_, frG_in, e⟩
  keeps := fun _ _ _ ⟨K, hK, c⟩ k => ⟨K, PySem.W.Frag.In.keeps hK k, c⟩
theorem obsPG_eq {n : Nat} {fa : List Fa} {fn : List DefD} {ps : List PrD} {g : Addr → Option Obj} {s : Shared} (h : ∀ a, g a = s.heap.get? a) : obsPG n fa fn ps g = (hookP n fa fn ps).obs s := by
  have e : g = s.heap.get? := funext h
  rw [e] <;> rfl
section
variable {fa : List Fa} {fn : List DefD} {ps : List PrD} {K : PySem.W.Frag}
theorem SaysP.d (c : SaysP fa fn ps K) : SaysD fa fn K := congrArg Prod.fst c
theorem SaysP.prop (c : SaysP fa fn ps K) (i : Nat) {d : PrD} (h : ps[i]? = some d := by rfl) : PropOf K (ga K d.cls) d.name (prA K d) (prG K d) ∧ ∃ fd, FunD K d.fn d.qual d.params d.body d.scope [] [] (prG K d) fd := by
  have c2 : (ps.all fun d => d.ok K) = true := congrArg (fun z : AlP => z.2.1) c
  have e : ps.map (fun d => prW K d) = ps.map PrD.val := congrArg (fun z : AlP => z.2.2) c
  have e2 : (ps.map fun d => prW K d)[i]? = (ps.map PrD.val)[i]? := by rw [e]
  rw [List.getElem?_map, List.getElem?_map, h] at e2
  have ok := List.all_eq_true.mp c2 d (List.mem_of_getElem? h)
  exact ⟨PrD.prop ok, PrD.funD (Option.some.inj e2) ok⟩
end
/-! facts for the layer -/
section
variable {P : Program} {w : World} {K : PySem.W.Frag} {mg : Str → Option Value} {base : Heap} {α : Type} {r : Pr α} {x q : Str} {params : Arguments} {body : List Stmt} {scope : Scope} {kws : List (Str × V)} {f C : Addr} {fd : FuncData} {ps : List Str} {k : Nat}
theorem fz_of (F : FunD K x q params body scope [] kws f fd) (O : FnOk P w K mg base (L2.CX P w) k f fd ps (Prom r)) (g : mg x = some (.ref f))
    (h : ∀ (kV doc pm : Value) (an : Option Addr) (cdv ct : Value) (us : List Value), us.length = ps.length → bindArgs (PySem.W.fnOf x q params body scope .none kV doc pm an cdv ct) ⟨us, []⟩ = pure (ps.zip us)) : Fz P w K mg base k x [] r :=
  ⟨⟨f, fd, ps, [], O, g, F.kp, F.bindsN h, .nil⟩⟩
theorem mz_of (F : FunD K x q params body scope [] kws f fd) (O : FnOk P w K mg base (L2.CX P w) k f fd ps (Prom r)) (m : Meth K C x f)
    (h : ∀ (kV doc pm : Value) (an : Option Addr) (cdv ct : Value) (us : List Value), us.length = ps.length → bindArgs (PySem.W.fnOf x q params body scope .none kV doc pm an cdv ct) ⟨us, []⟩ = pure (ps.zip us)) : Mz P w K mg base k C x [] r :=
  ⟨⟨f, fd, ps, [], O, m, F.bindsN h, .nil⟩⟩
theorem cz_of {n : Str} (F : FunD K x q params body scope [] kws f fd) (O : FnOk P w K mg base (L2.CX P w) k f fd ps (Prom r)) (g : mg n = some (.ref C)) (m : Mk K C f)
    (h : ∀ (kV doc pm : Value) (an : Option Addr) (cdv ct : Value) (us : List Value), us.length = ps.length → bindArgs (PySem.W.fnOf x q params body scope .none kV doc pm an cdv ct) ⟨us, []⟩ = pure (ps.zip us)) : Cz P w K mg base k n C [] r :=
  ⟨⟨f, fd, ps, [], O, g, m, F.bindsN h, .nil⟩⟩
theorem xz_of (X : K.In base) (G : base.Ns mainGlobals mg) (c : (Fa.glo x).ok K = true) (c2 : (Fa.exc x).ok K = true) : Xz K mg x (ga K x) :=
  ⟨glo_ok X G c, (exc_ok c2).1, (exc_ok c2).2.1, (exc_ok c2).2.2.1, (exc_ok c2).2.2.2⟩
end
/-- the law's def: a list of whole numbers in, True out -/
theorem law_sp {r : Pr (List Int)} {K : PySem.W.Frag} (ha : ∀ zs, r.args zs = [lstG K (zs.map fun i => isI i)]) (ho : ∀ zs, r.own zs = []) (hp : ∀ zs R Ts, r.post zs R Ts → R = isB true) (hx : ∀ zs cls d Ts, ¬ r.exc zs cls d Ts) {H : Hp} {a : Addr} {ns : List Int} (hS : SqL K H a (ns.map V.int)) :
    Prom r [.ref a] H (fun v _ => v = .bl true) (fun _ _ _ => False) := by
  refine ⟨ns, H, ?_, ?_, fun P Ts' F' H' v h1 _ h2 => ?_, fun cls d Ts' F' H' h1 _ => hx _ _ _ _ h1⟩
  · rw [ho]
    exact ⟨Sub.refl _, fun _ hx => (by cases hx), .nil, fun _ _ h _ => h, Sub.refl _, fun _ h => .inl h, fun _ h => (by cases h)⟩
  · rw [ha]
    refine .cons ⟨a, _, rfl, hS, ?_⟩ .nil
    have : (ns.map fun i => isI i) = (ns.map V.int).map isV := by rw [List.map_map]; rfl
    rw [this]
    exact All.ofV _
  · have e := hp _ _ _ h1
    subst e
    exact h2
end Z
set_option maxHeartbeats 0
namespace K71
open PySem PySem.Spec PyProof.Rows L2 Z
def dd (x : Str) (st : Stmt) : He.DefD := ⟨(x, none), x, x, defArgs st, defBody st, defScope st, [], []⟩
def dm (c m q : Str) (st : Stmt) : He.DefD := ⟨(c, some m), m, q, defArgs st, defBody st, defScope st, [], []⟩
def fn : List He.DefD := [dd "_law_draws" s_law_draws,
  dd "_law_take" s_law_take,
  dd "_law_expression" s_law_expression,
  dd "_law_nullable" s_law_nullable,
  dd "_law_composed" s_law_composed,
  dd "_law_joined" s_law_joined,
  dd "_law_closed" s_law_closed,
  dd "_law_steps" s_law_steps,
  dd "_law_made" s_law_made,
  dd "law" s_law,
  dd "matches" s_matches,
  dm "Places" "link" "Places.link" s_Places_link,
  dm "Places" "add" "Places.add" s_Places_add,
  dm "Places" "fitting" "Places.fitting" s_Places_fitting,
  dm "Places" "__init__" "Places.__init__" s_Places_init]
def fa0 : List He.Fa := [.glo "_law_draws", .glo "_law_take", .glo "_law_expression", .glo "_law_nullable", .glo "_law_composed", .glo "_law_joined", .glo "_law_closed", .glo "_law_steps", .glo "_law_made", .glo "law", .glo "matches", .glo "Places", .free "sorted", .free "bool", .meth "Places" "link", .meth "Places" "add", .meth "Places" "fitting", .mkr "Places", .free "len", .free "int", .free "str", .free "list", .free "tuple", .free "range", .free "max", .free "isinstance", .cls "Places", .noat "Places" "letters", .noat "Places" "follow", .noat "Places" "nullable", .noat "Places" "first", .noat "Places" "last"]
def fa : List He.Fa := fa0
def ps : List PrD := []
abbrev R : PySem.W.OpenRow := PySem.W.OpenLaw.row PySem.Challenge.rw_reactivesynth_k71_matches
abbrev hk : PySem.W.Hook := hookP 6 fa fn ps
def ob (s : PySem.W.SharedT) : AlP := obsPG 6 fa fn ps (HandSHeadRun.getT s)
theorem ob_eq (s : PySem.W.SharedT) : ob s = hk.obs s.abs := obsPG_eq (HandSHeadRun.getT_eq s)
theorem run (w : World) : HandSHeadRun.RunEq R (PySem.W.view R.prog [13]) hk ob 4000 ["Places", "matches", "_law_draws", "_law_take", "_law_expression", "_law_nullable", "_law_composed", "_law_joined", "_law_closed", "_law_steps", "_law_made", "__name__"] w := by
  intro os
  kernel_rfl
end K71
set_option maxHeartbeats 0
namespace K71
open PySem PySem.Spec PyProof.Rows L2 Z
section
variable {P : Program} {w : World} {K : PySem.W.Frag} {h base : Heap} {mg : Str → Option Value} {f : Addr}
theorem f1 (c : SaysP fa fn ps K) (i : Nat) {x : He.Fa} (e : fa[i]? = some x) : x.ok K = true := c.d.fact i e
theorem tx_of (c : SaysP fa fn ps K) (X : K.In h) (G : h.Ns mainGlobals mg) : Tx mg :=
  ⟨He.free_ok X G (f1 c 18 rfl), He.free_ok X G (f1 c 19 rfl), He.free_ok X G (f1 c 20 rfl), He.free_ok X G (f1 c 21 rfl), He.free_ok X G (f1 c 22 rfl), He.free_ok X G (f1 c 23 rfl), He.free_ok X G (f1 c 24 rfl), He.free_ok X G (f1 c 25 rfl)⟩
theorem pl_of (c : SaysP fa fn ps K) : PlT K (He.ga K "Places") :=
  ⟨He.cls_ok (f1 c 26 rfl), He.noat_ok (f1 c 27 rfl), He.noat_ok (f1 c 28 rfl), He.noat_ok (f1 c 29 rfl), He.noat_ok (f1 c 30 rfl), He.noat_ok (f1 c 31 rfl)⟩
theorem facts (X : K.In h) (G : h.Ns mainGlobals mg) (hfa : mg ("law" : Str) = some (.ref f)) (c : SaysP fa fn ps K) :
    ∃ fd : FuncData, (∀ (s : Shared) (v : Value), BindsTo s fd ⟨[v], []⟩ [("_law_script", v)]) ∧ ∀ base : Heap, K.In base → base.Ns mainGlobals mg → FnOk P w K mg base (L2.CX P w) 9 f fd ["_law_script"] (Prom (pLaw K)) := by
  obtain ⟨fd0, F0⟩ := c.d.def_ 0 rfl
  obtain ⟨fd1, F1⟩ := c.d.def_ 1 rfl
  obtain ⟨fd2, F2⟩ := c.d.def_ 2 rfl
  obtain ⟨fd3, F3⟩ := c.d.def_ 3 rfl
  obtain ⟨fd4, F4⟩ := c.d.def_ 4 rfl
  obtain ⟨fd5, F5⟩ := c.d.def_ 5 rfl
  obtain ⟨fd6, F6⟩ := c.d.def_ 6 rfl
  obtain ⟨fd7, F7⟩ := c.d.def_ 7 rfl
  obtain ⟨fd8, F8⟩ := c.d.def_ 8 rfl
  obtain ⟨fd9, F9⟩ := c.d.def_ 9 rfl
  obtain ⟨fd10, F10⟩ := c.d.def_ 10 rfl
  obtain ⟨fd11, F11⟩ := c.d.def_ 11 rfl
  obtain ⟨fd12, F12⟩ := c.d.def_ 12 rfl
  obtain ⟨fd13, F13⟩ := c.d.def_ 13 rfl
  obtain ⟨fd14, F14⟩ := c.d.def_ 14 rfl
  have e := hfa.symm.trans (He.glo_ok X G (f1 c 9 rfl))
  cases e
  have b := FunD.bindsA (ps := ["_law_script"]) F9 fun _ _ _ _ _ _ us hl => match us, hl with | [_], _ => rfl
  refine ⟨fd9, fun s v => b s [v] rfl, fun base KX BG => ?_⟩
  have T := tx_of c X G
  have M := pl_of c
  have hso : mg "sorted" = none := He.free_ok X G (f1 c 12 rfl)
  have hbo : mg "bool" = none := He.free_ok X G (f1 c 13 rfl)
  have dr : Fz P w K mg base 1 "_law_draws" [] (pDraws K) := fz_of F0 (ok_draws F0 T) (He.glo_ok X G (f1 c 0 rfl)) fun _ _ _ _ _ _ us hl => match us, hl with | [_, _], _ => rfl
  have tk : Fz P w K mg base 1 "_law_take" [] pTake := fz_of F1 (ok_take F1 T) (He.glo_ok X G (f1 c 1 rfl)) fun _ _ _ _ _ _ us hl => match us, hl with | [_, _], _ => rfl
  have ex : ∀ d, Fz P w K mg base (d + 2) "_law_expression" [] (pExpr K d) := fun d => by
    induction d with
    | zero => exact fz_of F2 (ok_expr_step 0 F2 T tk fun d' h => by omega) (He.glo_ok X G (f1 c 2 rfl)) fun _ _ _ _ _ _ us hl => match us, hl with | [_, _, _], _ => rfl
    | succ d ih => exact fz_of F2 (ok_expr_step (d + 1) F2 T tk fun d' h => by obtain rfl : d = d' := Nat.succ.inj h; exact ih) (He.glo_ok X G (f1 c 2 rfl)) fun _ _ _ _ _ _ us hl => match us, hl with | [_, _, _], _ => rfl
  have nu : ∀ d, Fz P w K mg base (d + 1) "_law_nullable" [] (pNul K d) := fun d => by
    induction d with
    | zero => exact fz_of F3 (ok_nul_step 0 F3 fun d' h => by omega) (He.glo_ok X G (f1 c 3 rfl)) fun _ _ _ _ _ _ us hl => match us, hl with | [_], _ => rfl
    | succ d ih => exact fz_of F3 (ok_nul_step (d + 1) F3 fun d' h => by obtain rfl : d = d' := Nat.succ.inj h; exact ih) (He.glo_ok X G (f1 c 3 rfl)) fun _ _ _ _ _ _ us hl => match us, hl with | [_], _ => rfl
  have cp : Fz P w K mg base 1 "_law_composed" [] pComp := fz_of F4 (ok_composed F4 T) (He.glo_ok X G (f1 c 4 rfl)) fun _ _ _ _ _ _ us hl => match us, hl with | [_, _], _ => rfl
  have jn : Fz P w K mg base 1 "_law_joined" [] pJoin := fz_of F5 (ok_joined F5 T) (He.glo_ok X G (f1 c 5 rfl)) fun _ _ _ _ _ _ us hl => match us, hl with | [_, _], _ => rfl
  have cl : Fz P w K mg base 2 "_law_closed" [] pClos := fz_of F6 (ok_closed F6 T jn cp) (He.glo_ok X G (f1 c 6 rfl)) fun _ _ _ _ _ _ us hl => match us, hl with | [_], _ => rfl
  have st : ∀ d, Fz P w K mg base (d + 3) "_law_steps" [] (pSt K d) := fun d => by
    induction d with
    | zero => exact fz_of F7 (ok_steps_step 0 F7 T jn cp cl (nu 0) fun d' h => by omega) (He.glo_ok X G (f1 c 7 rfl)) fun _ _ _ _ _ _ us hl => match us, hl with | [_, _, _], _ => rfl
    | succ d ih => exact fz_of F7 (ok_steps_step (d + 1) F7 T jn cp cl (nu _) fun d' h => by obtain rfl : d = d' := Nat.succ.inj h; exact ih) (He.glo_ok X G (f1 c 7 rfl)) fun _ _ _ _ _ _ us hl => match us, hl with | [_, _, _], _ => rfl
  have md : ∀ d, d ≤ 10 → Fz P w K mg base (d + 2) "_law_made" [] (pMade K d) := fun d => by
    induction d with
    | zero => exact fun hd => fz_of F8 (ok_made_step 0 hd F8 T tk fun d' h => by omega) (He.glo_ok X G (f1 c 8 rfl)) fun _ _ _ _ _ _ us hl => match us, hl with | [_, _], _ => rfl
    | succ d ih => exact fun hd => fz_of F8 (ok_made_step (d + 1) hd F8 T tk fun d' h => by obtain rfl : d = d' := Nat.succ.inj h; exact ih (by omega)) (He.glo_ok X G (f1 c 8 rfl)) fun _ _ _ _ _ _ us hl => match us, hl with | [_, _], _ => rfl
  have lk : Mz P w K mg base 1 (He.ga K "Places") "link" [] (pLink (He.ga K "Places")) := mz_of F11 (ok_link F11 M) (He.meth_ok (f1 c 14 rfl)) fun _ _ _ _ _ _ us hl => match us, hl with | [_, _, _], _ => rfl
  have ad : ∀ d, Mz P w K mg base (d + 2) (He.ga K "Places") "add" [] (pAdd K (He.ga K "Places") d) := fun d => by
    induction d with
    | zero => exact mz_of F12 (ok_add_step 0 F12 T M lk fun d' h => by omega) (He.meth_ok (f1 c 15 rfl)) fun _ _ _ _ _ _ us hl => match us, hl with | [_, _], _ => rfl
    | succ d ih => exact mz_of F12 (ok_add_step (d + 1) F12 T M lk fun d' h => by obtain rfl : d = d' := Nat.succ.inj h; exact ih) (He.meth_ok (f1 c 15 rfl)) fun _ _ _ _ _ _ us hl => match us, hl with | [_, _], _ => rfl
  have ft : Mz P w K mg base 1 (He.ga K "Places") "fitting" [] (pFitV (He.ga K "Places")) := mz_of F13 (ok_fitV F13 M) (He.meth_ok (f1 c 16 rfl)) fun _ _ _ _ _ _ us hl => match us, hl with | [_, _, _], _ => rfl
  have pc : Cz P w K mg base 6 "Places" (He.ga K "Places") [] (pInit K (He.ga K "Places") 3) := cz_of F14 (ok_pinit 3 (by decide) F14 M (ad 3)) (He.glo_ok X G (f1 c 11 rfl)) (He.mkr_ok (f1 c 17 rfl)) fun _ _ _ _ _ _ us hl => match us, hl with | [_, _], _ => rfl
  have mt : Fz P w K mg base 8 "matches" [] (pMat K 3) := fz_of F10 (ok_matches 3 (by decide) F10 T hso M pc ft) (He.glo_ok X G (f1 c 10 rfl)) fun _ _ _ _ _ _ us hl => match us, hl with | [_, _], _ => rfl
  exact ok_law F9 T hbo dr tk (ex 3) (md 3 (by decide)) (nu 3) (st 3) mt
end
end K71
open PySem PySem.W PySem.Calls PyProof.Rows
theorem PySem.Challenge.cw_reactivesynth_k71_matches_holds : PySem.Challenge.rw_reactivesynth_k71_matches.Holds := by
  w_on; o_law
  refine HandSHeadRun.head_any (r := K71.R) (q := view K71.R.prog [13]) (H := K71.hk) (ob := K71.ob) (M := 4000) (loose := ["Places", "matches", "_law_draws", "_law_take", "_law_expression", "_law_nullable", "_law_composed", "_law_joined", "_law_closed", "_law_steps", "_law_made", "__name__"]) (d := HandSHeadRun.topDef K71.R.prog 13) (kwd := []) K71.ob_eq
    (by kernel_rfl) (fun s => by kernel_rfl) K71.run (by kernel_rfl) (by kernel_rfl) (by kernel_rfl) (by rfl) (by first | assumption | decide +kernel) (by decide +kernel) ⟨rfl, rfl, rfl, rfl, rfl, by decide +kernel⟩ ?hw ?hc
  case hw => w_witness2
  case hc =>
    refine LamX.walk_ofTsE (l := PySem.Challenge.rw_reactivesynth_k71_matches) (n := 63) (k := 9) (x := "_law_script") (CX := fun w => L2.CX PySem.Challenge.rw_reactivesynth_k71_matches.prog w) rfl (by decide) (by kernel_rfl) ⟨rfl, by decide, by decide⟩ ?F (fun w H s e s' ⟨_, _, _, _, _, _, _, _, _, _, _, _, z⟩ => z)
    intro w mg fa h Y G hmg0
    obtain ⟨K, KX, c⟩ := Y
    have hmg : mg ("law" : PySem.Str) = some (.ref fa) := by
      have e : (HandSHeadRun.topDef K71.R.prog 13).name = ("law" : PySem.Str) := by kernel_rfl
      rw [← e]
      exact hmg0
    obtain ⟨fd, hb, hF⟩ := K71.facts (P := PySem.Challenge.rw_reactivesynth_k71_matches.prog) (w := w) KX G hmg c
    exact ⟨K, KX, fd, [], Z.Prom (K71.pLaw K), fun _ h => (by cases h), fun _ h => (by cases h), fun _ h => (by cases h), hb, fun H a ns hl _ _ hS => Z.law_sp (fun _ => rfl) (fun _ => rfl) (fun _ _ _ h => h) (fun _ _ _ _ h => h) hS, fun base h1 h2 _ => hF base h1 h2⟩
