import PyProof.Rows.All
import Wide.All
import OpenK.AllK
import Wide.FinOn
import HandS.RaiseMore
import HandS.EndBits
import HandS.Iter
import HandS.Conv
import KE.KDictPairs
import HandS.Star
import PyProof.Rows.RuleB_pow
import HandS.Comp
import KE.KNestM
import HandS.ExcValue
import HandS.WordsExc
import HandS.TryOnly
import KE.KSortTupUse
import HandS.More
import KE.KExcMake
import KE.KLam
import HandS.Zip
import PyProof.ReprRoads
import KE.KExcIs
import HandS.TupMul
import KE.KExcSuper
import HandS.CallSlots
import HandS.Codes
import HandS.TupAny
import HandS.Flow
import KE.KDictCopyH
import HandS.DictTup
import HandS.ForMost
import HandS.Lambda
import KE.KSortTupG
import HandS.Style
import HandS.StrMore
import HandS.IsInst
import PyProof.CallFns
import HandS.Dict
import HandS.TupSets
import HandS.MakeKwOnly
import PySem.Challenge.RW_astherulessay_k04_what_trees_refuse
set_option Elab.async false
set_option linter.all false
set_option autoImplicit false
set_option maxRecDepth 100000
set_option maxHeartbeats 2000000
/-! VBase: data as trees, what stands for them in the abstract heap, environments with owned containers, steps. -/
namespace VI
open PySem PySem.Spec PyProof.Rows L2

/-- data as a tree -/
inductive D where
  | non | bl (b : Bool) | int (i : Int) | str (s : Str)
  | tup (xs : List D) | lst (xs : List D) | dK (kvs : List (Key × D))
  /-- a list that is only read -/
  | ro (xs : List D)
  /-- a dict whose keys are tuples -/
  | dT (kvs : List (List Key × D))
  /-- a tuple that is known to have nothing of its own -/
  | ptp (xs : List D)

/-! ### results -/
inductive R (α : Type) where
  | ok (a : α) | no
def R.bind {α β : Type} (r : R α) (f : α → R β) : R β := match r with | .ok a => f a | .no => .no
def R.wp {α : Type} (r : R α) (P : α → Prop) : Prop := match r with | .ok a => P a | .no => False
def R.of {α : Type} : Option α → R α | some a => .ok a | none => .no
def R.ite {α : Type} (c : Bool) (r : R α) : R α := match c with | true => r | false => .no
theorem R.wp_bind {α β : Type} {r : R α} {f : α → R β} {P : β → Prop} : (r.bind f).wp P ↔ r.wp fun a => (f a).wp P := by cases r <;> rfl
theorem R.wp_of {α : Type} {o : Option α} {P : α → Prop} : (R.of o).wp P ↔ ∃ a, o = some a ∧ P a := by
  cases o with
  | none => constructor <;> intro h; exact h.elim; obtain ⟨_, h, _⟩ := h; cases h
  | some a => constructor; exact fun h => ⟨a, rfl, h⟩; rintro ⟨_, h, q⟩; cases h; exact q
theorem R.wp_ite {α : Type} {c : Bool} {r : R α} {P : α → Prop} : (R.ite c r).wp P ↔ c = true ∧ r.wp P := by
  cases c
  · constructor
    · intro h; exact h.elim
    · rintro ⟨h, _⟩; cases h
  · exact ⟨fun h => ⟨rfl, h⟩, fun h => h.2⟩
theorem R.wp_mono {α : Type} {r : R α} {P Q : α → Prop} (h : r.wp P) (k : ∀ a, P a → Q a) : r.wp Q := by cases r; exact k _ h; exact h
theorem R.wp_ok {α : Type} {a : α} {P : α → Prop} : (R.ok a).wp P ↔ P a := Iff.rfl

/-! ### frozen data -/
mutual
inductive Rep (K : PySem.W.Frag) (F : Hp) : D → V → Prop where
  | non : Rep K F .non .non
  | bl (b : Bool) : Rep K F (.bl b) (.bl b)
  | int (i : Int) : Rep K F (.int i) (.int i)
  | str (s : Str) : Rep K F (.str s) (.str s)
  | tup {xs : List D} {a : Addr} {vs : List V} : SqT K F a vs → Reps K F xs vs → Rep K F (.tup xs) (.ref a)
  | lst {xs : List D} {a : Addr} {vs : List V} : F a = some (.lst vs) → Reps K F xs vs → Rep K F (.lst xs) (.ref a)
  | ro {xs : List D} {a : Addr} {vs : List V} : SqL K F a vs → Reps K F xs vs → Rep K F (.ro xs) (.ref a)
  | dK {kvs : List (Key × D)} {a : Addr} {ws : List (Key × V)} : F a = some (.dK ws) → RepK K F kvs ws → Rep K F (.dK kvs) (.ref a)
  | dT {kvs : List (List Key × D)} {a : Addr} {ws : List (List Key × V)} : F a = some (.dT ws) → RepT K F kvs ws → Rep K F (.dT kvs) (.ref a)
  | ptp {xs : List D} {a : Addr} {vs : List V} {ob : Obj} : F a = some (.frz ob (.tup vs)) → ob.dict = none → Reps K F xs vs → Rep K F (.ptp xs) (.ref a)
inductive Reps (K : PySem.W.Frag) (F : Hp) : List D → List V → Prop where
  | nil : Reps K F [] []
  | cons {d : D} {v : V} {ds : List D} {vs : List V} : Rep K F d v → Reps K F ds vs → Reps K F (d :: ds) (v :: vs)
inductive RepK (K : PySem.W.Frag) (F : Hp) : List (Key × D) → List (Key × V) → Prop where
  | nil : RepK K F [] []
  | cons {k : Key} {d : D} {v : V} {ds : List (Key × D)} {vs : List (Key × V)} : Rep K F d v → RepK K F ds vs → RepK K F ((k, d) :: ds) ((k, v) :: vs)
inductive RepT (K : PySem.W.Frag) (F : Hp) : List (List Key × D) → List (List Key × V) → Prop where
  | nil : RepT K F [] []
  | cons {k : List Key} {d : D} {v : V} {ds : List (List Key × D)} {vs : List (List Key × V)} : Rep K F d v → RepT K F ds vs → RepT K F ((k, d) :: ds) ((k, v) :: vs)
end
section
variable {K : PySem.W.Frag} {F F' H : Hp}
theorem sqT_mono {a : Addr} {xs : List V} (e : Same F F') (h : SqT K F a xs) : SqT K F' a xs := by
  rcases h with (h | ⟨o, h⟩) | h
  · exact .inl (.inl (e _ _ h))
  · exact .inl (.inr ⟨o, e _ _ h⟩)
  · exact .inr h
mutual
theorem Rep.mono (e : Same F F') : ∀ {d : D} {v : V}, Rep K F d v → Rep K F' d v
  | _, _, .non => .non
  | _, _, .bl b => .bl b
  | _, _, .int i => .int i
  | _, _, .str s => .str s
  | _, _, .tup h r => .tup (sqT_mono e h) (Reps.mono e r)
  | _, _, .lst h r => .lst (e _ _ h) (Reps.mono e r)
  | _, _, .ro h r => .ro (e.seq h) (Reps.mono e r)
  | _, _, .dK h r => .dK (e _ _ h) (RepK.mono e r)
  | _, _, .dT h r => .dT (e _ _ h) (RepT.mono e r)
  | _, _, .ptp h n r => .ptp (e _ _ h) n (Reps.mono e r)
theorem Reps.mono (e : Same F F') : ∀ {d : List D} {v : List V}, Reps K F d v → Reps K F' d v
  | _, _, .nil => .nil
  | _, _, .cons h r => .cons (Rep.mono e h) (Reps.mono e r)
theorem RepK.mono (e : Same F F') : ∀ {d : List (Key × D)} {v : List (Key × V)}, RepK K F d v → RepK K F' d v
  | _, _, .nil => .nil
  | _, _, .cons h r => .cons (Rep.mono e h) (RepK.mono e r)
theorem RepT.mono (e : Same F F') : ∀ {d : List (List Key × D)} {v : List (List Key × V)}, RepT K F d v → RepT K F' d v
  | _, _, .nil => .nil
  | _, _, .cons h r => .cons (Rep.mono e h) (RepT.mono e r)
end
theorem Reps.length : ∀ {ds : List D} {vs : List V}, Reps K F ds vs → ds.length = vs.length
  | _, _, .nil => rfl
  | _, _, .cons _ r => by simp [Reps.length r]
theorem Reps.get : ∀ {ds : List D} {vs : List V} {i : Nat} {d : D}, Reps K F ds vs → ds[i]? = some d → ∃ v, vs[i]? = some v ∧ Rep K F d v
  | _, _, _, _, .nil, e => by simp at e
  | _, _, 0, _, .cons h _, e => by simp at e; subst e; exact ⟨_, rfl, h⟩
  | _, _, i + 1, _, .cons _ r, e => by
    obtain ⟨v, e1, h⟩ := Reps.get (i := i) r (by simpa using e)
    exact ⟨v, by simpa using e1, h⟩
theorem Reps.append : ∀ {ds es : List D} {vs us : List V}, Reps K F ds vs → Reps K F es us → Reps K F (ds ++ es) (vs ++ us)
  | _, _, _, _, .nil, h => h
  | _, _, _, _, .cons h r, q => .cons h (Reps.append r q)
theorem Reps.take : ∀ {ds : List D} {vs : List V} (n : Nat), Reps K F ds vs → Reps K F (ds.take n) (vs.take n)
  | _, _, 0, _ => .nil
  | _, _, _ + 1, .nil => .nil
  | _, _, n + 1, .cons h r => .cons h (Reps.take n r)
theorem Reps.drop : ∀ {ds : List D} {vs : List V} (n : Nat), Reps K F ds vs → Reps K F (ds.drop n) (vs.drop n)
  | _, _, 0, h => h
  | _, _, _ + 1, .nil => .nil
  | _, _, n + 1, .cons _ r => Reps.drop n r
theorem Reps.reverse {ds : List D} {vs : List V} (h : Reps K F ds vs) : Reps K F ds.reverse vs.reverse := by
  induction ds generalizing vs with
  | nil => cases h; exact .nil
  | cons d ds ih =>
    cases h with
    | cons h r => rw [List.reverse_cons, List.reverse_cons]; exact (ih r).append (.cons h .nil)
theorem Reps.set {d : D} {v : V} (h : Rep K F d v) : ∀ {ds : List D} {vs : List V} (i : Nat), Reps K F ds vs → Reps K F (ds.set i d) (vs.set i v)
  | _, _, _, .nil => .nil
  | _, _, 0, .cons _ r => .cons h r
  | _, _, i + 1, .cons q r => .cons q (Reps.set h i r)
theorem Reps.rep {ds : List D} {vs : List V} (h : Reps K F ds vs) (n : Nat) : Reps K F (List.replicate n ds).flatten (List.replicate n vs).flatten := by
  induction n with
  | zero => exact .nil
  | succ n ih => rw [List.replicate_succ, List.replicate_succ, List.flatten_cons, List.flatten_cons]; exact h.append ih
end

/-! ### owned containers -/
/-- the container d at a is nobody else's -/
def Own (K : PySem.W.Frag) (F H : Hp) (d : D) (a : Addr) : Prop := match d with
  | .lst xs => ∃ vs, H a = some (.lst vs) ∧ Reps K F xs vs ∧ F a = none
  | .dK kvs => ∃ ws, H a = some (.dK ws) ∧ RepK K F kvs ws ∧ F a = none
  | .dT kvs => ∃ ws, H a = some (.dT ws) ∧ RepT K F kvs ws ∧ F a = none
  | _ => False
/-- no tuple -/
def Box : HO → Prop | .tup _ => False | _ => True
theorem Own.hB {K : PySem.W.Frag} {F H : Hp} {d : D} {a : Addr} (h : Own K F H d a) : ∃ o, H a = some o ∧ Box o := by
  cases d <;> first | exact h.elim | (obtain ⟨_, q, _, _⟩ := h; exact ⟨_, q, trivial⟩)
theorem Own.nF {K : PySem.W.Frag} {F H : Hp} {d : D} {a : Addr} (h : Own K F H d a) : F a = none := by
  cases d <;> first | exact h.elim | (obtain ⟨_, _, _, q⟩ := h; exact q)
theorem Own.hS {K : PySem.W.Frag} {F H : Hp} {d : D} {a : Addr} (h : Own K F H d a) : ∃ o, H a = some o := by
  cases d <;> first | exact h.elim | (obtain ⟨_, q, _, _⟩ := h; exact ⟨_, q⟩)
theorem Own.keep {K : PySem.W.Frag} {F H F' H' : Hp} {d : D} {a : Addr} (h : Own K F H d a) (e : Same F F') (k : ∀ o, H a = some o → H' a = some o) (n : F' a = none) : Own K F' H' d a := by
  cases d <;> first | exact h.elim | (obtain ⟨_, q, r, _⟩ := h; exact ⟨_, k _ q, r.mono e, n⟩)
/-- what may be read: frozen or owned -/
def RdV (K : PySem.W.Frag) (F H : Hp) (d : D) (v : V) : Prop := Rep K F d v ∨ ∃ a, v = .ref a ∧ Own K F H d a

/-- a slot's value: none (not known), or data and whether it is owned -/
abbrev EnvD := List (Option (D × Bool))
def OwnAt (ρ : EnvD) (σ : L2.St) (a : Addr) : Prop := ∃ (i : Nat) (d : D), ρ[i]? = some (some (d, true)) ∧ σ[i]? = some (some (V.ref a))
structure ERel (K : PySem.W.Frag) (F H : Hp) (ρ : EnvD) (σ : L2.St) : Prop where
  len : ρ.length = σ.length
  frz : ∀ (i : Nat) (d : D), ρ[i]? = some (some (d, false)) → ∃ v, σ[i]? = some (some v) ∧ Rep K F d v
  own : ∀ (i : Nat) (d : D), ρ[i]? = some (some (d, true)) → ∃ a, σ[i]? = some (some (V.ref a)) ∧ Own K F H d a
  dis : ∀ (i j : Nat) (d e : D) (a : Addr), ρ[i]? = some (some (d, true)) → ρ[j]? = some (some (e, true)) → σ[i]? = some (some (V.ref a)) → σ[j]? = some (some (V.ref a)) → i = j

/-- from one state to a later one -/
structure Stp (K : PySem.W.Frag) (F H : Hp) (ρ : EnvD) (σ : L2.St) (F' H' : Hp) (ρ' : EnvD) (σ' : L2.St) : Prop where
  ff : Same F F'
  fh : Same F' H'
  er : ERel K F' H' ρ' σ'
  fr : ∀ b o, H b = some o → Box o → F b = none → ¬ OwnAt ρ σ b → H' b = some o ∧ F' b = none
  os : ∀ b, OwnAt ρ' σ' b → OwnAt ρ σ b ∨ H b = none
  gr : ∀ b o, H b = some o → ∃ o', H' b = some o'
/-- the known slots stay known -/
def Dom (ρ ρ' : EnvD) : Prop := ∀ (i : Nat) (d : D × Bool), ρ[i]? = some (some d) → ∃ d' : D × Bool, ρ'[i]? = some (some d')
theorem Dom.refl (ρ : EnvD) : Dom ρ ρ := fun _ d h => ⟨d, h⟩
theorem Dom.trans {a b c : EnvD} (h : Dom a b) (k : Dom b c) : Dom a c := fun i d e => by
  obtain ⟨d', e'⟩ := h i d e
  exact k i d' e'
theorem not_none {H : Hp} {b : Addr} {o : HO} (h : H b = some o) (n : H b = none) : False := by rw [h] at n; cases n
section
variable {K : PySem.W.Frag} {F H F1 H1 F2 H2 : Hp} {ρ ρ1 ρ2 : EnvD} {σ σ1 σ2 : L2.St}
theorem Stp.refl (s : Same F H) (e : ERel K F H ρ σ) : Stp K F H ρ σ F H ρ σ := ⟨Same.refl F, s, e, fun _ _ h _ n _ => ⟨h, n⟩, fun _ h => .inl h, fun _ o h => ⟨o, h⟩⟩
theorem Stp.trans (a : Stp K F H ρ σ F1 H1 ρ1 σ1) (b : Stp K F1 H1 ρ1 σ1 F2 H2 ρ2 σ2) : Stp K F H ρ σ F2 H2 ρ2 σ2 where
  ff := a.ff.trans b.ff
  fh := b.fh
  er := b.er
  fr := fun c o h bx n q => by
    obtain ⟨h1, n1⟩ := a.fr c o h bx n q
    exact b.fr c o h1 bx n1 fun z => (a.os c z).elim q fun z => not_none h z
  os := fun c h => by
    rcases b.os c h with z | z
    · exact a.os c z
    · refine .inr ?_
      cases q : H c with
      | none => rfl
      | some o =>
        obtain ⟨o', h1⟩ := a.gr c o q
        exact (not_none h1 z).elim
  gr := fun c o h => by
    obtain ⟨o1, h1⟩ := a.gr c o h
    exact b.gr c o1 h1
/-- a container is frozen: it joins F -/
theorem same_upd {a : Addr} {o : HO} (n : F a = none) : Same F (upd F a o) := fun b u e => by rw [upd_ne (ne_of_none e n)]; exact e
theorem Own.rep {d : D} {a : Addr} (h : Own K F H d a) : ∃ o, H a = some o ∧ Rep K (upd F a o) d (.ref a) := by
  cases d with
  | lst xs =>
    obtain ⟨vs, q, r, n⟩ := h
    exact ⟨_, q, .lst upd_same (r.mono (same_upd n))⟩
  | dK kvs =>
    obtain ⟨ws, q, r, n⟩ := h
    exact ⟨_, q, .dK upd_same (r.mono (same_upd n))⟩
  | dT kvs =>
    obtain ⟨ws, q, r, n⟩ := h
    exact ⟨_, q, .dT upd_same (r.mono (same_upd n))⟩
  | _ => exact h.elim
theorem getset_ne {α : Type} {l : List α} {i j : Nat} {x : α} (h : i ≠ j) : (l.set i x)[j]? = l[j]? := List.getElem?_set_ne h
theorem getset_self {α : Type} {l : List α} {i : Nat} {x y : α} (h : (l.set i x)[i]? = some y) : x = y := by
  by_cases hi : i < l.length
  · rw [List.getElem?_set_self hi] at h; exact Option.some.inj h
  · rw [List.getElem?_eq_none (by simpa using hi)] at h; cases h
theorem upd_some {F : Hp} {a b : Addr} {o : HO} (h : upd F a o b = none) : F b = none ∧ b ≠ a := by
  by_cases e : b = a
  · subst e; rw [upd_same] at h; cases h
  · rw [upd_ne e] at h; exact ⟨h, e⟩
/-- F grows by an address that stands in H, owned by no slot of ρ' -/
theorem frz_step {a : Addr} {o : HO} {ρ' : EnvD} (s : Same F H) (e : ERel K F H ρ σ) (ha : H a = some o) (n : F a = none)
    (len : ρ'.length = ρ.length)
    (sub : ∀ (i : Nat) (d : D), ρ'[i]? = some (some (d, true)) → ρ[i]? = some (some (d, true)) ∧ σ[i]? ≠ some (some (V.ref a)))
    (fz : ∀ (i : Nat) (d : D), ρ'[i]? = some (some (d, false)) → ρ[i]? = some (some (d, false)) ∨ ∃ v, σ[i]? = some (some v) ∧ Rep K (upd F a o) d v)
    (fr : ∀ b u, H b = some u → F b = none → ¬ OwnAt ρ σ b → b ≠ a) : Stp K F H ρ σ (upd F a o) H ρ' σ where
  ff := same_upd n
  fh := fun b u q => by
    by_cases e : b = a
    · subst e; rw [upd_same] at q; cases q; exact ha
    · rw [upd_ne e] at q; exact s b u q
  er := {
    len := len.trans e.len
    frz := fun i d h => by
      rcases fz i d h with h | h
      · obtain ⟨v, e1, r⟩ := e.frz i d h
        exact ⟨v, e1, r.mono (same_upd n)⟩
      · exact h
    own := fun i d h => by
      obtain ⟨h1, h2⟩ := sub i d h
      obtain ⟨c, e1, ow⟩ := e.own i d h1
      refine ⟨c, e1, ow.keep (same_upd n) (fun _ q => q) ?_⟩
      rw [upd_ne (fun z => h2 (by rw [e1, z]))]
      exact ow.nF
    dis := fun i j d e' c h1 h2 h3 h4 => e.dis i j d e' c (sub i d h1).1 (sub j e' h2).1 h3 h4 }
  fr := fun b u h1 _ h2 h3 => ⟨h1, by rw [upd_ne (fr b u h1 h2 h3)]; exact h2⟩
  os := fun b ⟨i, d, h1, h2⟩ => .inl ⟨i, d, (sub i d h1).1, h2⟩
  gr := fun b u h => ⟨u, h⟩
/-- a slot's container is frozen -/
theorem frz_slot {i : Nat} {d : D} (s : Same F H) (e : ERel K F H ρ σ) (h : ρ[i]? = some (some (d, true))) :
    ∃ F' v, Stp K F H ρ σ F' H (ρ.set i (some (d, false))) σ ∧ Dom ρ (ρ.set i (some (d, false))) ∧ σ[i]? = some (some v) ∧ Rep K F' d v := by
  obtain ⟨a, e1, ow⟩ := e.own i d h
  obtain ⟨o, ha, r⟩ := ow.rep
  have hi : i < ρ.length := (List.getElem?_eq_some_iff.mp h).1
  refine ⟨upd F a o, .ref a, frz_step s e ha ow.nF (by simp) (fun j d' hj => ?_) (fun j d' hj => ?_) (fun b u h1 h2 h3 z => h3 ⟨i, d, h, by rw [e1, z]⟩), fun j d' hj => ?_, e1, r⟩
  · by_cases hij : i = j
    · subst hij; have := getset_self hj; cases this
    · rw [getset_ne hij] at hj
      exact ⟨hj, fun z => hij (e.dis i j d d' a h hj e1 z)⟩
  · by_cases hij : i = j
    · subst hij; have := getset_self hj; cases this; exact .inr ⟨_, e1, r⟩
    · rw [getset_ne hij] at hj; exact .inl hj
  · by_cases hij : i = j
    · subst hij; exact ⟨_, List.getElem?_set_self hi⟩
    · exact ⟨d', by rw [getset_ne hij]; exact hj⟩
/-- an owned container that no slot holds is frozen -/
theorem frz_tmp {d : D} {a : Addr} (s : Same F H) (e : ERel K F H ρ σ) (ow : Own K F H d a) (no : ¬ OwnAt ρ σ a) :
    ∃ o, H a = some o ∧ (∀ G : Hp, G = upd F a o → ERel K G H ρ σ ∧ Same F G ∧ Same G H ∧ Rep K G d (.ref a)) := by
  obtain ⟨o, ha, r⟩ := ow.rep
  refine ⟨o, ha, fun G hG => ?_⟩
  subst hG
  refine ⟨⟨e.len, fun i d' h => ?_, fun i d' h => ?_, e.dis⟩, same_upd ow.nF, fun b u q => ?_, r⟩
  · obtain ⟨v, e1, q⟩ := e.frz i d' h
    exact ⟨v, e1, q.mono (same_upd ow.nF)⟩
  · obtain ⟨c, e1, ow'⟩ := e.own i d' h
    refine ⟨c, e1, ow'.keep (same_upd ow.nF) (fun _ q => q) ?_⟩
    rw [upd_ne (fun z => no ⟨i, d', h, by rw [e1, z]⟩)]
    exact ow'.nF
  · by_cases e : b = a
    · subst e; rw [upd_same] at q; cases q; exact ha
    · rw [upd_ne e] at q; exact s b u q
end
end VI

set_option Elab.async false
set_option linter.all false
set_option autoImplicit false
set_option maxRecDepth 100000
set_option maxHeartbeats 2000000
/-! VOrd: keys sorted, each once; the ascending list of a lot of keys is one. -/
namespace VS
open PySem PyProof.Rows
section
variable (O : KeyOrd)
def ins (x : O.α) : List O.α → List O.α
  | [] => [x]
  | y :: r => if O.blt x y then x :: y :: r else if O.blt y x then y :: ins x r else y :: r
def srt (l : List O.α) : List O.α := l.foldr (ins O) []
variable {O}
abbrev Asc (l : List O.α) : Prop := l.Pairwise fun x y => O.blt x y = true
theorem ins_mem {x z : O.α} : ∀ {l : List O.α}, z ∈ ins O x l ↔ z = x ∨ z ∈ l
  | [] => by simp [ins]
  | y :: r => by
    unfold ins
    split
    · simp
    · split
      · rw [List.mem_cons, ins_mem (l := r), List.mem_cons]
        constructor
        · rintro (h | h | h)
          · exact .inr (.inl h)
          · exact .inl h
          · exact .inr (.inr h)
        · rintro (h | h | h)
          · exact .inr (.inl h)
          · exact .inl h
          · exact .inr (.inr h)
      · rename_i h1 h2
        have e : x = y := O.total x y (by simpa using h1) (by simpa using h2)
        subst e
        simp
theorem ins_asc {x : O.α} : ∀ {l : List O.α}, Asc l → Asc (ins O x l)
  | [], _ => List.pairwise_singleton _ _
  | y :: r, h => by
    obtain ⟨h1, h2⟩ := List.pairwise_cons.mp h
    unfold ins
    split
    · rename_i c
      refine List.pairwise_cons.mpr ⟨fun z hz => ?_, h⟩
      cases hz with
      | head => exact c
      | tail _ hz => exact O.trans _ _ _ c (h1 z hz)
    · split
      · rename_i c
        refine List.pairwise_cons.mpr ⟨fun z hz => ?_, ins_asc h2⟩
        rcases ins_mem.mp hz with rfl | hz
        · exact c
        · exact h1 z hz
      · exact h
theorem srt_mem {z : O.α} : ∀ {l : List O.α}, z ∈ srt O l ↔ z ∈ l
  | [] => by simp [srt]
  | x :: l => by
    show z ∈ ins O x (srt O l) ↔ _
    rw [ins_mem, srt_mem, List.mem_cons]
theorem srt_asc : ∀ {l : List O.α}, Asc (srt O l)
  | [] => List.Pairwise.nil
  | _ :: l => ins_asc (srt_asc (l := l))
theorem asc_irr {x : O.α} {l : List O.α} (h : Asc (x :: l)) : x ∉ l := fun c => by
  have := (List.pairwise_cons.mp h).1 x c
  rw [O.irrefl] at this
  cases this
theorem asc_eq : ∀ {a b : List O.α}, Asc a → Asc b → (∀ z, z ∈ a ↔ z ∈ b) → a = b
  | [], [], _, _, _ => rfl
  | [], y :: b, _, _, h => absurd ((h y).mpr List.mem_cons_self) List.not_mem_nil
  | x :: a, [], _, _, h => absurd ((h x).mp List.mem_cons_self) List.not_mem_nil
  | x :: a, y :: b, ha, hb, h => by
    obtain ⟨a1, a2⟩ := List.pairwise_cons.mp ha
    obtain ⟨b1, b2⟩ := List.pairwise_cons.mp hb
    have e : x = y := by
      rcases List.mem_cons.mp ((h x).mp List.mem_cons_self) with e | c
      · exact e
      · rcases List.mem_cons.mp ((h y).mpr List.mem_cons_self) with e | d
        · exact e.symm
        · have := O.trans _ _ _ (b1 x c) (a1 y d)
          rw [O.irrefl] at this
          cases this
    subst e
    rw [asc_eq a2 b2 fun z => ?_]
    constructor
    · intro hz
      rcases List.mem_cons.mp ((h z).mp (List.mem_cons_of_mem _ hz)) with e | c
      · subst e; exact absurd hz (asc_irr ha)
      · exact c
    · intro hz
      rcases List.mem_cons.mp ((h z).mpr (List.mem_cons_of_mem _ hz)) with e | c
      · subst e; exact absurd hz (asc_irr hb)
      · exact c
theorem srt_congr {a b : List O.α} (h : ∀ z, z ∈ a ↔ z ∈ b) : srt O a = srt O b := asc_eq srt_asc srt_asc fun z => by rw [srt_mem, srt_mem]; exact h z
/-- what is sorted weakly, each once, is the sorted list -/
theorem srt_of {a l : List O.α} (h : a.Pairwise fun x y => O.blt y x = false) (nd : a.Nodup) (m : ∀ z, z ∈ a ↔ z ∈ l) : a = srt O l := by
  refine asc_eq ?_ srt_asc fun z => by rw [srt_mem]; exact m z
  refine (h.and nd).imp fun {x y} ⟨le, ne⟩ => ?_
  cases c : O.blt x y with
  | true => rfl
  | false => exact absurd (O.total x y c le) ne
theorem srt_len : ∀ {l : List O.α}, (srt O l).length ≤ l.length
  | [] => Nat.le_refl _
  | x :: l => by
    have ih := srt_len (l := l)
    have one : ∀ m : List O.α, (ins O x m).length ≤ m.length + 1 := by
      intro m
      induction m with
      | nil => exact Nat.le_refl _
      | cons y m ih =>
        unfold ins
        split
        · exact Nat.le_refl _
        · split
          · exact Nat.succ_le_succ ih
          · exact Nat.le_succ _
    exact Nat.le_trans (one _) (Nat.succ_le_succ ih)
end
end VS

set_option Elab.async false
set_option linter.all false
set_option autoImplicit false
set_option maxRecDepth 100000
set_option maxHeartbeats 2000000
/-! VSyn: the syntax that is run, and what it yields on data as trees. -/
namespace VI
open PySem PySem.Spec PyProof.Rows L2

/-! ### syntax -/
inductive BO where | add | sub | mul | mod | fdiv | pow
inductive CO where | eq | ne | lt | le | gt | ge | isin | nin | isN | isnN
inductive BF where | len | int | abs | max2 | min2 | sum | list | tuple | all | repr | str | lrng
inductive TyN where | str | tup | bool | int
/-- a target: a name, a tuple of names -/
inductive Tg where | nm (i : Nat) | tp (is : List Nat)
inductive E where
  | nil | cons (a r : E)
  | var (i : Nat) | non | bl (b : Bool) | int (i : Int) | str (s : String) | glb (k : Nat)
  | tup (l : E) | lst (l : E) | dnew | dnewT
  /-- *a in a display; sorted(set(a)); sorted(a), a a dict; a.isupper() -/
  | consS (a r : E) | srts (a : E) | srtd (a : E) | isup (a : E)
  /-- d.get(k, x); dict(pairs); sorted(list); sorted(d.items()); l.pop(e); f(k1 = a, k2 = b) -/
  | tupP (l : E) | dget (d k x : E) | tupS (a : E) | dictP (a : E) | srtl (a : E) | srti (d : E) | popA (i : Nat) (e : E) | callk2 (f : Nat) (sw : Bool) (a b : E)
  | bin (o : BO) (a b : E) | neg (i : Int)
  | cmp (o : CO) (a b : E) | chain (o p : CO) (a b c : E)
  | and (l : E) | or (l : E) | not (a : E)
  | ite (c a b : E)
  | idx (a i : E) | slc (a lo hi : E) | rev (a : E)
  | call (f : Nat) (l : E) | callk (f : Nat) (l : E)
  | bc (b : BF) (l : E) | isi (a : E) (t : TyN) | upper (a : E)
  | comp (tg : Tg) (elt it c : E)
  | itv (a : E) | rng1 (a : E) | rng2 (a b : E) | zip (a b : E) | enm (a : E)
inductive S where
  | nil | cons (s r : S)
  | asg (tg : Tg) (e : E) | par (i j : Nat) (a b : E) | seti (i : Nat) (k e : E)
  | app (i : Nat) (e : E) | ext (i : Nat) (e : E)
  /-- a call alone; i, j, k = a, b, c; d.update(dict(e)) -/
  | alone (e : E) | par3 (i j k : Nat) (a b c : E) | updd (i : Nat) (e : E)
  /-- r = x if c else y if d else z if e else None; if r is not None: r[k] = v -/
  | pick (r x y z : Nat) (c d e k v : E)
  | ret (e : E) | ite (c : E) (a b : S) | for (tg : Tg) (it : E) (b : S) | raise | doc | pass

/-! ### operators on data -/
def lenLine : Nat := 16777216
def atD {α : Type} (xs : List α) (i : Int) : Option α := atI xs i
/-- one sign as a text -/
def sgn (c : Nat) : Str := ⟨#[c]⟩
mutual
def toPy : D → Option PyData
  | .non => some .none
  | .bl b => some (.bool b)
  | .int i => some (.int i)
  | .str s => some (.str s)
  | .tup xs => (toPys xs).map .tuple
  | .lst xs => (toPys xs).map .list
  | .dK _ => none
  | .dT _ => none
  | .ptp xs => (toPys xs).map .tuple
  | .ro xs => (toPys xs).map .list
def toPys : List D → Option (List PyData)
  | [] => some []
  | x :: xs => (toPy x).bind fun a => (toPys xs).map fun r => a :: r
end
/-- == of data -/
def eqP (a b : D) : R Bool := (R.of (toPy a)).bind fun x => (R.of (toPy b)).bind fun y => R.ite (SeqAt.shaped x && SeqAt.shaped y) (.ok (PyData.eqv x y))
def eqD (a b : D) : R Bool := match a, b with
  | .str x, .str y => .ok (x == y)
  | a, b => eqP a b
/-- a flat value -/
def flatD : D → Option V
  | .non => some .non | .bl b => some (.bl b) | .int i => some (.int i) | .str s => some (.str s) | _ => none
def flatDs : List D → Option (List V)
  | [] => some []
  | d :: ds => (flatD d).bind fun v => (flatDs ds).map fun r => v :: r
/-- x in a sequence of flat values, in a text -/
def inD (a b : D) : R Bool := match a, b with
  | .str x, .str y => .ok (!(Builtin.Str.occurrences y x 0 y.length 1).isEmpty)
  | d, .tup xs => (R.of (flatD d)).bind fun v => (R.of (flatDs xs)).bind fun vs => R.ite (flatV v && vs.all flatV) (.ok (inV v vs))
  | d, .lst xs => (R.of (flatD d)).bind fun v => (R.of (flatDs xs)).bind fun vs => R.ite (flatV v && vs.all flatV) (.ok (inV v vs))
  | _, _ => .no
def cmpD (o : CO) (a b : D) : R Bool := match o with
  | .eq => eqD a b
  | .ne => (eqD a b).bind fun c => .ok (!c)
  | .lt => match a, b with | .int i, .int j => .ok (decide (i < j)) | .str x, .str y => .ok (decide (x.cps.toList < y.cps.toList)) | _, _ => .no
  | .le => match a, b with | .int i, .int j => .ok (decide (i ≤ j)) | _, _ => .no
  | .gt => match a, b with | .int i, .int j => .ok (decide (j < i)) | _, _ => .no
  | .ge => match a, b with | .int i, .int j => .ok (decide (j ≤ i)) | _, _ => .no
  | .isin => inD a b
  | .nin => (inD a b).bind fun c => .ok (!c)
  | .isN => match b, flatD a with | .non, some v => .ok (decide (v = .non)) | .non, none => .ok false | _, _ => .no
  | .isnN => match b, flatD a with | .non, some v => .ok (!decide (v = .non)) | .non, none => .ok true | _, _ => .no
def bound64 (i : Int) : Bool := decide (-(2 ^ 64) < i) && decide (i < 2 ^ 64)
/-- a op b: the value, and whether it is a new container -/
def binD (o : BO) (a b : D) : R (D × Bool) := match o with
  | .add => match a, b with
    | .int i, .int j => .ok (.int (i + j), false)
    | .str x, .str y => R.ite (decide (x.length + y.length ≤ lenLine)) (.ok (.str (x ++ y), false))
    | .tup xs, .tup ys => R.ite (decide (xs.length + ys.length ≤ lenLine)) (.ok (.tup (xs ++ ys), false))
    | .lst xs, .lst ys => R.ite (decide (xs.length + ys.length ≤ lenLine)) (.ok (.lst (xs ++ ys), true))
    | _, _ => .no
  | .sub => match a, b with | .int i, .int j => .ok (.int (i - j), false) | _, _ => .no
  | .mul => match a, b with
    | .int i, .int j => R.ite (bound64 i || bound64 j) (.ok (.int (i * j), false))
    | .tup xs, .int k => R.ite (decide (2 ≤ k) && decide (k ≤ 1000) && decide (xs.length ≤ 1000)) (.ok (.tup (List.replicate k.toNat xs).flatten, false))
    | .lst xs, .int k => R.ite (decide (2 ≤ k) && decide (k ≤ 1000) && decide (xs.length ≤ 1000)) (.ok (.lst (List.replicate k.toNat xs).flatten, true))
    | _, _ => .no
  | .mod => match a, b with | .int i, .int j => R.ite (decide (0 < j)) (.ok (.int (i % j), false)) | _, _ => .no
  | .fdiv => match a, b with | .int i, .int j => R.ite (decide (0 < j) && decide (j < 2 ^ 30)) (.ok (.int (i / j), false)) | _, _ => .no
  | .pow => match a, b with | .int i, .int j => R.ite (decide (0 ≤ j) && decide ((Builtin.Int.intBits i : Int) * j ≤ 2 ^ 27)) (.ok (.int (i ^ j.toNat), false)) | _, _ => .no
def idxD (a i : D) : R D := match a, i with
  | .tup xs, .int k => R.of (atI xs k)
  | .lst xs, .int k => R.of (atI xs k)
  | .ro xs, .int k => R.of (atI xs k)
  | .str x, .int k => R.ite (decide (x.length ≤ lenLine)) ((R.of (atI x.cps.toList k)).bind fun c => .ok (.str (sgn c)))
  | _, _ => .no
def cutD {α : Type} (xs : List α) (lo hi : Option Int) : List α := (xs.drop (HT.sIx xs.length 0 lo)).take (HT.sIx xs.length xs.length hi - HT.sIx xs.length 0 lo)
def partD : D → Option (Option Int)
  | .non => some none | .int i => some (some i) | _ => none
def slcD (a : D) (lo hi : Option Int) : R (D × Bool) := match a with
  | .tup xs => .ok (.tup (cutD xs lo hi), false)
  | .lst xs => .ok (.lst (cutD xs lo hi), true)
  | .ro xs => .ok (.lst (cutD xs lo hi), true)
  | .ptp xs => .ok (.tup (cutD xs lo hi), false)
  | .str x => R.ite (decide (x.length ≤ lenLine)) (.ok (.str (cutS x lo hi), false))
  | _ => .no
def revD : D → R (D × Bool)
  | .tup xs => .ok (.tup xs.reverse, false)
  | .lst xs => .ok (.lst xs.reverse, true)
  | _ => .no
def intsD : List D → Option (List Int)
  | [] => some []
  | .int i :: ds => (intsD ds).map fun r => i :: r
  | _ :: _ => none
def boolsD : List D → Option (List Bool)
  | [] => some []
  | .bl i :: ds => (boolsD ds).map fun r => i :: r
  | _ :: _ => none
def ofN (o : R D) : R (D × Bool) := o.bind fun d => .ok (d, false)
/-! ### repr -/
def okR (p : PyData) : Bool := p.showable && decide (p.depth ≤ 64) && decide (p.shown.length ≤ lenLine)
def isSeq : D → Bool | .tup _ => true | .lst _ => true | .ptp _ => true | _ => false
/-- a built-in function of one argument -/
def bf1 (b : BF) (d : D) : R (D × Bool) := match b, d with
  | .len, .tup xs => .ok (.int xs.length, false)
  | .len, .lst xs => .ok (.int xs.length, false)
  | .len, .ro xs => .ok (.int xs.length, false)
  | .len, .str x => R.ite (decide (x.length ≤ lenLine)) (.ok (.int x.length, false))
  | .int, .int i => .ok (.int i, false)
  | .int, .bl k => .ok (.int (if k then 1 else 0), false)
  | .abs, .int i => .ok (.int (if i < 0 then -i else i), false)
  | .sum, .lst xs => (R.of (intsD xs)).bind fun ns => .ok (.int ns.sum, false)
  | .list, .lst xs => .ok (.lst xs, true)
  | .list, .tup xs => .ok (.lst xs, true)
  | .tuple, .lst xs => .ok (.tup xs, false)
  | .tuple, .tup xs => .ok (.tup xs, false)
  | .all, .lst xs => (R.of (boolsD xs)).bind fun bs => .ok (.bl (bs.all id), false)
  | .repr, .bl k => .ok (.str (if k then "True" else "False"), false)
  | .repr, .non => .ok (.str "None", false)
  | .repr, .str x => R.ite (decide ((reprText x).length ≤ lenLine)) (.ok (.str (reprText x), false))
  | .repr, d => R.ite (isSeq d) ((R.of (toPy d)).bind fun p => R.ite (okR p) (.ok (.str p.shown, false)))
  | .str, .int i => R.ite (decide (i.natAbs.log2 < 1920)) (.ok (.str (toString i), false))
  | .lrng, .int n => R.ite (decide (-(2 ^ 62) ≤ n) && decide (n < 2 ^ 62) && decide (n.toNat ≤ lenLine)) (.ok (.lst ((List.range n.toNat).map fun i => .int (0 + (i : Nat))), true))
  | _, _ => .no
def bf2 (b : BF) (d e : D) : R (D × Bool) := match b, d, e with
  | .max2, .int i, .int j => .ok (.int (if j > i then j else i), false)
  | .min2, .int i, .int j => .ok (.int (if j < i then j else i), false)
  | _, _, _ => .no
def bfD (b : BF) (ds : List D) : R (D × Bool) := match ds with
  | [d] => bf1 b d
  | [d, e] => bf2 b d e
  | _ => .no
def isiD (t : TyN) (d : D) : Bool := match t, d with
  | .str, .str _ => true
  | .tup, .tup _ => true
  | .tup, .ptp _ => true
  | .bool, .bl _ => true
  | .int, .int _ => true
  | .int, .bl _ => true
  | _, _ => false
/-! ### sorted -/
abbrev KO := (PyProof.Rows.strKind).toKeyOrd
abbrev KP := PyProof.Rows.listOrd PyProof.Rows.itemOrd
def strsD : List D → Option (List (List Nat))
  | [] => some []
  | .str x :: ds => (strsD ds).map fun r => x.cps.toList :: r
  | _ :: _ => none
/-- (text, int) -/
def pairD : D → Option (List (Int ⊕ List Nat))
  | .tup [.str x, .int i] => some [.inr x.cps.toList, .inl i]
  | _ => none
def pairsD : List D → Option (List (List (Int ⊕ List Nat)))
  | [] => some []
  | d :: ds => (pairD d).bind fun k => (pairsD ds).map fun r => k :: r
def itD : Int ⊕ List Nat → D
  | .inl i => .int i
  | .inr x => .str ⟨x.toArray⟩
def stD (x : List Nat) : D := .str ⟨x.toArray⟩
def prD (k : List (Int ⊕ List Nat)) : D := .tup (k.map itD)
def keyStr : Key → Option (List Nat) | .inr x => some x.cps.toList | .inl _ => none
def keysStr : List (Key × D) → Option (List (List Nat))
  | [] => some []
  | p :: r => (keyStr p.1).bind fun k => (keysStr r).map fun l => k :: l
def keyPr : List Key → Option (List (Int ⊕ List Nat)) | [.inr x, .inl i] => some [.inr x.cps.toList, .inl i] | _ => none
def keysPr : List (List Key × D) → Option (List (List (Int ⊕ List Nat)))
  | [] => some []
  | p :: r => (keyPr p.1).bind fun k => (keysPr r).map fun l => k :: l
/-- sorted(set(a)) -/
def srtsD : D → R D
  | .lst ds => match strsD ds with
    | some ks => R.ite (decide ((VS.srt KO ks).length < 63)) (.ok (.lst ((VS.srt KO ks).map stD)))
    | none => (R.of (pairsD ds)).bind fun ks => R.ite (decide ((VS.srt KP ks).length < 63)) (.ok (.lst ((VS.srt KP ks).map prD)))
  | _ => .no
/-- sorted(d) -/
def srtdD : D → R D
  | .dK kvs => R.ite (decide (kvs.length < 64)) ((R.of (keysStr kvs)).bind fun ks => .ok (.lst ((VS.srt KO ks).map stD)))
  | .dT kvs => R.ite (decide (kvs.length < 64)) ((R.of (keysPr kvs)).bind fun ks => .ok (.lst ((VS.srt KP ks).map prD)))
  | _ => .no
/-- (text, text) -/
def pairS : D → Option (List (Int ⊕ List Nat))
  | .tup [.str x, .str y] => some [.inr x.cps.toList, .inr y.cps.toList]
  | _ => none
def pairsS : List D → Option (List (List (Int ⊕ List Nat)))
  | [] => some []
  | d :: ds => (pairS d).bind fun k => (pairsS ds).map fun r => k :: r
/-- few, each once -/
def onceB (O : KeyOrd) (ks : List O.α) : Bool := decide (ks.length < 64) && decide ((VS.srt O ks).length = ks.length)
/-- sorted(l) -/
def srtlD : D → R D
  | .lst ds => match strsD ds with
    | some ks => R.ite (onceB KO ks) (.ok (.lst ((VS.srt KO ks).map stD)))
    | none => match pairsD ds with
      | some ks => R.ite (onceB KP ks) (.ok (.lst ((VS.srt KP ks).map prD)))
      | none => (R.of (pairsS ds)).bind fun ks => R.ite (onceB KP ks) (.ok (.lst ((VS.srt KP ks).map prD)))
  | _ => .no
def itemS : Key × D → Option (List (Int ⊕ List Nat))
  | (.inr x, .str y) => some [.inr x.cps.toList, .inr y.cps.toList]
  | _ => none
def itemsS : List (Key × D) → Option (List (List (Int ⊕ List Nat)))
  | [] => some []
  | d :: ds => (itemS d).bind fun k => (itemsS ds).map fun r => k :: r
/-- sorted(d.items()) -/
def srtiD : D → R D
  | .dK kvs => (R.of (itemsS kvs)).bind fun ks => R.ite (onceB KP ks) (.ok (.lst ((VS.srt KP ks).map prD)))
  | _ => .no
/-! ### dicts -/
def valA {κ α : Type} [DecidableEq κ] (kvs : List (κ × α)) (k : κ) : Option α := (kvs.find? fun kv => decide (kv.1 = k)).map (·.2)
def putA {κ α : Type} [DecidableEq κ] (kvs : List (κ × α)) (k : κ) (v : α) : List (κ × α) :=
  if (kvs.any fun kv => decide (kv.1 = k)) = true then kvs.map (fun kv => if kv.1 = k then (kv.1, v) else kv) else kvs ++ [(k, v)]
def mrgA {κ α : Type} [DecidableEq κ] (kvs more : List (κ × α)) : List (κ × α) := more.foldl (fun acc kv => putA acc kv.1 kv.2) kvs
def keyD : D → Option Key | .int i => some (.inl i) | .str x => some (.inr x) | _ => none
def keyDs : List D → Option (List Key)
  | [] => some []
  | d :: ds => (keyD d).bind fun k => (keyDs ds).map fun r => k :: r
def prsD : List D → Option (List (Key × D))
  | [] => some []
  | .tup [k, v] :: ds => (keyD k).bind fun k => (prsD ds).map fun r => (k, v) :: r
  | _ :: _ => none
/-- d.update(dict(e)) -/
def updD (d : D × Bool) (e : D) : R (D × Bool) := match d, e with
  | (.dK kvs, true), .lst ds => (R.of (prsD ds)).bind fun ws => R.ite (decide (kvs.length + ds.length ≤ lenLine)) (.ok (.dK (mrgA kvs (mrgA [] ws)), true))
  | _, _ => .no
/-- d[k] = v, k a tuple -/
def putTD (d : D × Bool) (k : List D) (v : D) : R (D × Bool) := match d with
  | (.dT kvs, true) => (R.of (keyDs k)).bind fun ks => R.ite (decide (kvs.length < lenLine)) (.ok (.dT (putA kvs ks v), true))
  | _ => .no
def isupD : D → R D
  | .str x => .ok (.bl (Txt.isupper x))
  | _ => .no
def isDk : D → Bool | .dK _ => true | _ => false
/-- d.get(k, x) -/
def getDD (d k x : D) : R D := match d with
  | .dK kvs => (R.of (keyD k)).bind fun k => .ok ((valA kvs k).getD x)
  | _ => .no
/-- l.pop(k) -/
def popD (d : D × Bool) (k : D) : R (D × (D × Bool)) := match d, k with
  | (.lst xs, true), .int i => R.ite (decide (0 ≤ i) && decide (i < xs.length) && decide (xs.length ≤ lenLine)) ((R.of xs[i.toNat]?).bind fun y => .ok (y, (.lst (xs.eraseIdx i.toNat), true)))
  | _, _ => .no
/-- tuple(l), known to be plain -/
def ptpD : D → R D
  | .lst xs => .ok (.ptp xs)
  | _ => .no
/-- dict(pairs) -/
def dictD (d : D) : R D := match d with
  | .lst ds => (R.of (prsD ds)).bind fun ws => R.ite (decide (ds.length ≤ lenLine)) (.ok (.dK (mrgA [] ws)))
  | .ptp ds => (R.of (prsD ds)).bind fun ws => R.ite (decide (ds.length ≤ lenLine)) (.ok (.dK (mrgA [] ws)))
  | _ => .no
def upD : D → R D
  | .str x => R.ite (decide (x.length ≤ 5592405)) (.ok (.str (Txt.upper x)))
  | _ => .no

/-! ### environments -/
inductive Opd where | slot (i : Nat) | val (d : D) (fr : Bool)
def getD? (ρ : EnvD) (i : Nat) : Option (D × Bool) := match ρ[i]? with | some (some x) => some x | _ => none
def res (ρ : EnvD) : Opd → R D
  | .slot i => (R.of (getD? ρ i)).bind fun x => .ok x.1
  | .val d _ => .ok d
def ress (ρ : EnvD) : List Opd → R (List D)
  | [] => .ok []
  | o :: r => (res ρ o).bind fun d => (ress ρ r).bind fun ds => .ok (d :: ds)
/-- the value for good: a container is frozen -/
def frz (ρ : EnvD) : Opd → R (D × EnvD)
  | .slot i => (R.of (getD? ρ i)).bind fun x => match x.2 with
    | true => .ok (x.1, ρ.set i (some (x.1, false)))
    | false => .ok (x.1, ρ)
  | .val d _ => .ok (d, ρ)
/-- the value to be kept: a temporary container is handed on -/
def tak (ρ : EnvD) : Opd → R ((D × Bool) × EnvD)
  | .slot i => (frz ρ (.slot i)).bind fun x => .ok ((x.1, false), x.2)
  | .val d fr => .ok ((d, fr), ρ)
/-- may a slot be stored to -/
abbrev Keep := List Bool
def canSet (P : Keep) (i : Nat) : Bool := !(P.getD i false)
def setSlot (P : Keep) (ρ : EnvD) (i : Nat) (x : D × Bool) : R EnvD := R.ite (canSet P i && decide (i < ρ.length)) (.ok (ρ.set i (some x)))
def setSlots (P : Keep) : List Nat → List D → EnvD → R EnvD
  | [], [], ρ => .ok ρ
  | i :: is, d :: ds, ρ => (setSlot P ρ i (d, false)).bind fun ρ => setSlots P is ds ρ
  | _, _, _ => .no
def bindT (P : Keep) (tg : Tg) (d : D) (ρ : EnvD) : R EnvD := match tg with
  | .nm i => setSlot P ρ i (d, false)
  | .tp is => match d with
    | .tup ds => setSlots P is ds ρ
    | _ => .no
def Tg.slots : Tg → List Nat
  | .nm i => [i]
  | .tp is => is
def wipeD (ρ : EnvD) : List Nat → EnvD
  | [] => ρ
  | v :: vs => (wipeD ρ vs).set v none
/-- the slots vs as they stand in ρ0 -/
def backD (ρ0 ρ : EnvD) : List Nat → EnvD
  | [] => ρ
  | v :: vs => (backD ρ0 ρ vs).set v ((ρ0[v]?).getD none)

/-! ### calls -/
/-- what a def does of its arguments: the value, and how the arguments stand behind it -/
abbrev Fn := List (D × Bool) → R ((D × Bool) × List (D × Bool))
/-- the arguments of a call, slots resolved -/
def argsD (ρ : EnvD) : List Opd → R (List (D × Bool))
  | [] => .ok []
  | .slot i :: r => (R.of (getD? ρ i)).bind fun x => R.ite x.2 ((argsD ρ r).bind fun xs => .ok (x :: xs))
  | .val d fr :: r => (argsD ρ r).bind fun xs => .ok ((d, fr) :: xs)
/-- no slot stands twice -/
def slotsOf : List Opd → List Nat
  | [] => []
  | .slot i :: r => i :: slotsOf r
  | .val _ _ :: r => slotsOf r
def nodupB : List Nat → Bool
  | [] => true
  | i :: r => !r.contains i && nodupB r
/-- the slots as the call has left them -/
def putBack : List Opd → List (D × Bool) → EnvD → EnvD
  | .slot i :: r, x :: xs, ρ => putBack r xs (ρ.set i (some x))
  | .val _ _ :: r, _ :: xs, ρ => putBack r xs ρ
  | _, _, ρ => ρ
def callD (f : Fn) (os : List Opd) (ρ : EnvD) : R (Opd × EnvD) :=
  R.ite (nodupB (slotsOf os)) ((argsD ρ os).bind fun xs => (f xs).bind fun y => R.ite (decide (y.2.length = os.length)) (.ok (.val y.1.1 y.1.2, putBack os y.2 ρ)))

/-! ### loops -/
def compLoop (turn : D → EnvD → R (Option D × EnvD)) : List D → List D → EnvD → R (List D × EnvD)
  | [], acc, ρ => .ok (acc, ρ)
  | d :: ds, acc, ρ => (turn d ρ).bind fun x => match x.1 with
    | some y => compLoop turn ds (acc ++ [y]) x.2
    | none => compLoop turn ds acc x.2

structure Ctx where
  G : List D
  fn : Nat → Fn
/-- a bound of a slice that may lack -/
def optE (lo : E) (r : R (Opd × EnvD)) (ρ : EnvD) : R (Option Int × EnvD) := match lo with
  | .nil => .ok (none, ρ)
  | _ => r.bind fun x => match x.1 with
    | .val (.int k) _ => .ok (some k, x.2)
    | _ => .no
/-- a test from an operand -/
def tstO (r : R (Opd × EnvD)) : R (Bool × EnvD) := r.bind fun x => match x.1 with
  | .val (.bl k) _ => .ok (k, x.2)
  | _ => .no
def optC (c : E) (r : R (Opd × EnvD)) (ρ : EnvD) : R (Bool × EnvD) := match c with
  | .nil => .ok (true, ρ)
  | _ => tstO r
/-- what is walked -/
def itemsD : D → R (List D)
  | .lst xs => .ok xs
  | .ptp xs => .ok xs
  | .tup xs => .ok xs
  | .str x => .ok (x.cps.toList.map fun c => .str (sgn c))
  | _ => .no
def zipP (xs ys : List D) : List D := (xs.zip ys).map fun p => .tup [p.1, p.2]
def zipD (a b : D) : R (List D) := match a, b with
  | .lst xs, .lst ys => .ok (zipP xs ys)
  | .tup xs, .tup ys => .ok (zipP xs ys)
  | .ptp xs, .tup ys => .ok (zipP xs ys)
  | .lst xs, .tup ys => .ok (zipP xs ys)
  | _, _ => .no
def enmFrom : Nat → List D → List D
  | _, [] => []
  | n, d :: ds => .tup [.int (n : Nat), d] :: enmFrom (n + 1) ds
def enmD : D → R (List D)
  | .lst xs => .ok (enmFrom 0 xs)
  | _ => .no
def rngD (i j : Int) : R (List D) := R.ite (decide (-(2 ^ 62) ≤ i) && decide (i < 2 ^ 62) && decide (-(2 ^ 62) ≤ j) && decide (j < 2 ^ 62)) (.ok ((List.range (j - i).toNat).map fun k => .int (i + (k : Nat))))

/-- the items of a list or a tuple -/
def seqD : D → Option (List D) | .tup ds => some ds | .lst ds => some ds | _ => none
/-- a slot with an owned list -/
def lstAt {α : Type} (w : Opd × EnvD) (k : Nat → R α) : R α := match w.1 with
  | .slot j => match getD? w.2 j with
    | some (.lst _, true) => k j
    | _ => .no
  | .val _ _ => .no
mutual
/-- an operand -/
def ev (C : Ctx) : E → EnvD → R (Opd × EnvD)
  | .var i, ρ => (R.of (getD? ρ i)).bind fun x => match x.2 with
    | true => .ok (.slot i, ρ)
    | false => .ok (.val x.1 false, ρ)
  | .non, ρ => .ok (.val .non false, ρ)
  | .bl b, ρ => .ok (.val (.bl b) false, ρ)
  | .int i, ρ => .ok (.val (.int i) false, ρ)
  | .neg i, ρ => .ok (.val (.int (-i)) false, ρ)
  | .str s, ρ => .ok (.val (.str (Str.ofString s)) false, ρ)
  | .glb k, ρ => (R.of C.G[k]?).bind fun d => .ok (.val d false, ρ)
  | .tup l, ρ => (evL C l ρ).bind fun x => R.ite (decide (x.1.length ≤ lenLine)) (.ok (.val (.tup x.1) false, x.2))
  | .tupP l, ρ => (evL C l ρ).bind fun x => R.ite (decide (x.1.length ≤ lenLine)) (.ok (.val (.ptp x.1) false, x.2))
  | .lst l, ρ => (evL C l ρ).bind fun x => R.ite (decide (x.1.length ≤ lenLine)) (.ok (.val (.lst x.1) true, x.2))
  | .dnew, ρ => .ok (.val (.dK []) true, ρ)
  | .dnewT, ρ => .ok (.val (.dT []) true, ρ)
  | .srts a, ρ => (ev C a ρ).bind fun x => (res x.2 x.1).bind fun d => (srtsD d).bind fun z => .ok (.val z true, x.2)
  | .srtd a, ρ => (ev C a ρ).bind fun x => (res x.2 x.1).bind fun d => (srtdD d).bind fun z => .ok (.val z true, x.2)
  | .isup a, ρ => (ev C a ρ).bind fun x => (res x.2 x.1).bind fun d => (isupD d).bind fun z => .ok (.val z false, x.2)
  | .dget d k x, ρ => (ev C d ρ).bind fun o => (res o.2 o.1).bind fun d0 => R.ite (isDk d0) ((ev C k o.2).bind fun p => (ev C x p.2).bind fun q => (frz q.2 q.1).bind fun xv => (res xv.2 o.1).bind fun dd => (res xv.2 p.1).bind fun kd => (getDD dd kd xv.1).bind fun z => .ok (.val z false, xv.2))
  | .tupS a, ρ => (ev C a ρ).bind fun x => (res x.2 x.1).bind fun d => (ptpD d).bind fun z => .ok (.val z false, x.2)
  | .dictP a, ρ => (ev C a ρ).bind fun x => (res x.2 x.1).bind fun d => (dictD d).bind fun z => .ok (.val z true, x.2)
  | .srtl a, ρ => (ev C a ρ).bind fun x => (res x.2 x.1).bind fun d => (srtlD d).bind fun z => .ok (.val z true, x.2)
  | .srti a, ρ => (ev C a ρ).bind fun x => (res x.2 x.1).bind fun d => (srtiD d).bind fun z => .ok (.val z true, x.2)
  | .popA i e, ρ => lstAt (.slot i, ρ) fun j => (ev C e ρ).bind fun o => (res o.2 o.1).bind fun kd => (R.of (getD? o.2 j)).bind fun d => (popD d kd).bind fun r => .ok (.val r.1 false, o.2.set j (some r.2))
  | .callk2 f sw a b, ρ => (ev C a ρ).bind fun x => (ev C b x.2).bind fun y => callD (C.fn f) (if sw = true then [y.1, x.1] else [x.1, y.1]) y.2
  | .bin o a b, ρ => (ev C a ρ).bind fun x => (ev C b x.2).bind fun y => (res y.2 x.1).bind fun d => (res y.2 y.1).bind fun e => (binD o d e).bind fun z => .ok (.val z.1 z.2, y.2)
  | .cmp o a b, ρ => (ev C a ρ).bind fun x => (ev C b x.2).bind fun y => (res y.2 x.1).bind fun d => (res y.2 y.1).bind fun e => (cmpD o d e).bind fun z => .ok (.val (.bl z) false, y.2)
  | .chain o p a b c, ρ => (ev C a ρ).bind fun x => (ev C b x.2).bind fun y => (res y.2 x.1).bind fun d => (res y.2 y.1).bind fun e => (cmpD o d e).bind fun z => match z with
    | true => (ev C c y.2).bind fun w => (res w.2 y.1).bind fun e => (res w.2 w.1).bind fun g => (cmpD p e g).bind fun z => .ok (.val (.bl z) false, w.2)
    | false => .ok (.val (.bl false) false, y.2)
  | .and l, ρ => evW C true l ρ
  | .or l, ρ => evW C false l ρ
  | .not a, ρ => (tstO (ev C a ρ)).bind fun x => .ok (.val (.bl (!x.1)) false, x.2)
  | .ite c a b, ρ => (tstO (ev C c ρ)).bind fun x => match x.1 with
    | true => ev C a x.2
    | false => ev C b x.2
  | .idx a i, ρ => (ev C a ρ).bind fun x => (ev C i x.2).bind fun y => (res y.2 x.1).bind fun d => (res y.2 y.1).bind fun e => (idxD d e).bind fun z => .ok (.val z false, y.2)
  | .slc a lo hi, ρ => (ev C a ρ).bind fun x => (optE lo (ev C lo x.2) x.2).bind fun y => (optE hi (ev C hi y.2) y.2).bind fun z => (res z.2 x.1).bind fun d => (slcD d y.1 z.1).bind fun w => .ok (.val w.1 w.2, z.2)
  | .rev a, ρ => (ev C a ρ).bind fun x => (res x.2 x.1).bind fun d => (revD d).bind fun w => .ok (.val w.1 w.2, x.2)
  | .call f l, ρ => (evA C l ρ).bind fun x => callD (C.fn f) x.1 x.2
  | .callk f l, ρ => (ev C l ρ).bind fun x => callD (C.fn f) [x.1] x.2
  | .bc b l, ρ => (evA C l ρ).bind fun x => (ress x.2 x.1).bind fun ds => (bfD b ds).bind fun z => .ok (.val z.1 z.2, x.2)
  | .isi a t, ρ => (ev C a ρ).bind fun x => (res x.2 x.1).bind fun d => .ok (.val (.bl (isiD t d)) false, x.2)
  | .upper a, ρ => (ev C a ρ).bind fun x => (res x.2 x.1).bind fun d => (upD d).bind fun z => .ok (.val z false, x.2)
  | .comp tg elt it c, ρ => (evI C it ρ).bind fun x => R.ite (decide (x.1.length ≤ lenLine)) ((compLoop (fun d ρ => (bindT [] tg d ρ).bind fun ρ1 =>
      (optC c (ev C c ρ1) ρ1).bind fun b => match b.1 with
        | true => (ev C elt b.2).bind fun o => (frz o.2 o.1).bind fun y => .ok (some y.1, wipeD y.2 tg.slots)
        | false => .ok (none, wipeD b.2 tg.slots)) x.1 [] (wipeD x.2 tg.slots)).bind fun y => .ok (.val (.lst y.1) true, backD x.2 y.2 tg.slots))
  | _, _ => .no
/-- written items, frozen -/
def evL (C : Ctx) : E → EnvD → R (List D × EnvD)
  | .nil, ρ => .ok ([], ρ)
  | .consS a r, ρ => (ev C a ρ).bind fun o => (res o.2 o.1).bind fun d => (R.of (seqD d)).bind fun ds => (evL C r o.2).bind fun xs => .ok (ds ++ xs.1, xs.2)
  | .cons a r, ρ => (ev C a ρ).bind fun o => (frz o.2 o.1).bind fun x => (evL C r x.2).bind fun xs => .ok (x.1 :: xs.1, xs.2)
  | _, _ => .no
/-- and, or -/
def evW (C : Ctx) (w : Bool) : E → EnvD → R (Opd × EnvD)
  | .cons a r, ρ => match r with
    | .nil => (tstO (ev C a ρ)).bind fun x => .ok (.val (.bl x.1) false, x.2)
    | _ => (tstO (ev C a ρ)).bind fun x => if x.1 = w then evW C w r x.2 else .ok (.val (.bl (!w)) false, x.2)
  | _, _ => .no
/-- arguments -/
def evA (C : Ctx) : E → EnvD → R (List Opd × EnvD)
  | .nil, ρ => .ok ([], ρ)
  | .cons a r, ρ => (ev C a ρ).bind fun o => (evA C r o.2).bind fun xs => .ok (o.1 :: xs.1, xs.2)
  | _, _ => .no
/-- what a loop walks -/
def evI (C : Ctx) : E → EnvD → R (List D × EnvD)
  | .itv a, ρ => (ev C a ρ).bind fun o => (frz o.2 o.1).bind fun x => (itemsD x.1).bind fun ds => .ok (ds, x.2)
  | .rng1 a, ρ => (ev C a ρ).bind fun o => (res o.2 o.1).bind fun d => match d with
    | .int n => (rngD 0 n).bind fun ds => .ok (ds, o.2)
    | _ => .no
  | .rng2 a b, ρ => (ev C a ρ).bind fun o => (ev C b o.2).bind fun p => (res p.2 o.1).bind fun d => (res p.2 p.1).bind fun e => match d, e with
    | .int m, .int n => (rngD m n).bind fun ds => .ok (ds, p.2)
    | _, _ => .no
  | .zip a b, ρ => (ev C a ρ).bind fun o => (frz o.2 o.1).bind fun x => (ev C b x.2).bind fun p => (frz p.2 p.1).bind fun y => (zipD x.1 y.1).bind fun ds => .ok (ds, y.2)
  | .enm a, ρ => (ev C a ρ).bind fun o => (frz o.2 o.1).bind fun x => (enmD x.1).bind fun ds => .ok (ds, x.2)
  | _, _ => .no
end

/-! ### statements -/
inductive Fl where | nx (ρ : EnvD) | rt (x : D × Bool) (ρ : EnvD)
def forLoop (turn : D → EnvD → R Fl) : List D → EnvD → R Fl
  | [], ρ => .ok (.nx ρ)
  | d :: ds, ρ => (turn d ρ).bind fun f => match f with
    | .nx ρ => forLoop turn ds ρ
    | .rt x ρ => .ok (.rt x ρ)
/-- the one list in a slot, changed -/
def appD (d : D × Bool) (e : D) : R (D × Bool) := match d with
  | (.lst xs, true) => R.ite (decide (xs.length < lenLine)) (.ok (.lst (xs ++ [e]), true))
  | _ => .no
def extD (d : D × Bool) (e : D) : R (D × Bool) := match d, e with
  | (.lst xs, true), .lst ys => R.ite (decide (xs.length + ys.length ≤ lenLine)) (.ok (.lst (xs ++ ys), true))
  | _, _ => .no
def setiD (d : D × Bool) (k e : D) : R (D × Bool) := match d, k with
  | (.lst xs, true), .int i => (R.of (ixN xs.length i)).bind fun j => .ok (.lst (xs.set j e), true)
  | _, _ => .no
/-- a slot with an owned dict -/
def dctAt {α : Type} (w : Opd × EnvD) (k : Nat → R α) : R α := match w.1 with
  | .slot j => match getD? w.2 j with
    | some (.dK _, true) => k j
    | _ => .no
  | .val _ _ => .no
/-- r stands for x's dict: r[k] = v -/
def pickAt (C : Ctx) (x r : Nat) (k v : E) (ρ : EnvD) : R Fl := R.ite (decide (x ≠ r)) ((R.of (getD? ρ x)).bind fun w => R.ite w.2 (
  (ev C v (ρ.set r none)).bind fun o => (frz o.2 o.1).bind fun vd => (evL C k vd.2).bind fun kd => R.ite (decide (kd.1.length ≤ lenLine)) ((R.of (getD? kd.2 x)).bind fun d => (putTD d kd.1 vd.1).bind fun d' => .ok (.nx (kd.2.set x (some d'))))))
def run (C : Ctx) (P : Keep) : S → EnvD → R Fl
  | .nil, ρ => .ok (.nx ρ)
  | .cons s r, ρ => (run C P s ρ).bind fun f => match f with
    | .nx ρ => run C P r ρ
    | .rt x ρ => .ok (.rt x ρ)
  | .asg (.nm i) e, ρ => (ev C e ρ).bind fun o => (tak o.2 o.1).bind fun x => (setSlot P x.2 i x.1).bind fun ρ => .ok (.nx ρ)
  | .asg (.tp is) e, ρ => (ev C e ρ).bind fun o => (frz o.2 o.1).bind fun x => (bindT P (.tp is) x.1 x.2).bind fun ρ => .ok (.nx ρ)
  | .par i j a b, ρ => (ev C a ρ).bind fun o => (tak o.2 o.1).bind fun x => (ev C b x.2).bind fun p => (tak p.2 p.1).bind fun y => (setSlot P y.2 i x.1).bind fun ρ => (setSlot P ρ j y.1).bind fun ρ => .ok (.nx ρ)
  | .seti i k e, ρ => (ev C e ρ).bind fun o => (frz o.2 o.1).bind fun x => (ev C (.var i) x.2).bind fun w => (ev C k w.2).bind fun p => (res p.2 p.1).bind fun kd => match w.1 with
    | .slot j => (R.of (getD? p.2 j)).bind fun d => (setiD d kd x.1).bind fun d' => .ok (.nx (p.2.set j (some d')))
    | .val _ _ => .no
  | .app i e, ρ => (ev C (.var i) ρ).bind fun w => lstAt w fun j => (ev C e w.2).bind fun o => (frz o.2 o.1).bind fun x => (R.of (getD? x.2 j)).bind fun d => (appD d x.1).bind fun d' => .ok (.nx (x.2.set j (some d')))
  | .ext i e, ρ => (ev C (.var i) ρ).bind fun w => lstAt w fun j => (ev C e w.2).bind fun o => (frz o.2 o.1).bind fun x => (R.of (getD? x.2 j)).bind fun d => (extD d x.1).bind fun d' => .ok (.nx (x.2.set j (some d')))
  | .alone e, ρ => (ev C e ρ).bind fun o => .ok (.nx o.2)
  | .par3 i j k a b c, ρ => (ev C a ρ).bind fun o => (tak o.2 o.1).bind fun x => (ev C b x.2).bind fun p => (tak p.2 p.1).bind fun y => (ev C c y.2).bind fun q => (tak q.2 q.1).bind fun z =>
      (setSlot P z.2 i x.1).bind fun ρ => (setSlot P ρ j y.1).bind fun ρ => (setSlot P ρ k z.1).bind fun ρ => .ok (.nx ρ)
  | .updd i e, ρ => (ev C (.var i) ρ).bind fun w => dctAt w fun j => (ev C e w.2).bind fun o => (res o.2 o.1).bind fun x => (R.of (getD? o.2 j)).bind fun d => (updD d x).bind fun d' => .ok (.nx (o.2.set j (some d')))
  | .pick r x y z c d e k v, ρ => R.ite (canSet P r && decide (r < ρ.length)) ((tstO (ev C c ρ)).bind fun t1 => match t1.1 with
    | true => pickAt C x r k v t1.2
    | false => (tstO (ev C d t1.2)).bind fun t2 => match t2.1 with
      | true => pickAt C y r k v t2.2
      | false => (tstO (ev C e t2.2)).bind fun t3 => match t3.1 with
        | true => pickAt C z r k v t3.2
        | false => .ok (.nx (t3.2.set r none)))
  | .ret e, ρ => (ev C e ρ).bind fun o => (tak o.2 o.1).bind fun x => .ok (.rt x.1 x.2)
  | .ite c a b, ρ => (tstO (ev C c ρ)).bind fun x => match x.1 with
    | true => run C P a x.2
    | false => run C P b x.2
  | .for tg it b, ρ => (evI C it ρ).bind fun x => forLoop (fun d ρ => (bindT P tg d ρ).bind fun ρ => run C P b ρ) x.1 x.2
  | .doc, ρ => .ok (.nx ρ)
  | .pass, ρ => .ok (.nx ρ)
  | .raise, _ => .no

/-! ### defs -/
structure Df where
  np : Nat
  nl : Nat
  keep : Keep
  body : S
/-- how the arguments stand at the end: a parameter that is stored to was handed a frozen one -/
def params (P : Keep) : Nat → List (D × Bool) → EnvD → R (List (D × Bool))
  | _, [], _ => .ok []
  | j, x :: xs, ρ => (if P.getD j false then R.of (getD? ρ j) else .ok x).bind fun y => (params P (j + 1) xs ρ).bind fun ys => .ok (y :: ys)
/-- an owned argument goes to a parameter that is never stored to -/
def okKeep : Keep → List (D × Bool) → Bool
  | k :: ks, x :: xs => (k || !x.2) && okKeep ks xs
  | [], x :: xs => !x.2 && okKeep [] xs
  | _, [] => true
def callI (G : List D) (ds : List Df) : Nat → Nat → Fn
  | 0, _, _ => .no
  | n + 1, f, xs => (R.of ds[f]?).bind fun df => R.ite (decide (xs.length = df.np) && decide (df.np ≤ df.nl) && okKeep df.keep xs) ((run ⟨G, callI G ds n⟩ df.keep df.body (xs.map some ++ List.replicate (df.nl - df.np) none)).bind fun r => match r with
    | .nx ρ => (params df.keep 0 xs ρ).bind fun ys => .ok ((.non, false), ys)
    | .rt x ρ => (params df.keep 0 xs ρ).bind fun ys => .ok (x, ys))
end VI

set_option Elab.async false
set_option linter.all false
set_option autoImplicit false
set_option maxRecDepth 100000
set_option maxHeartbeats 2000000
/-! VRel: operands against values; the readings by a function on environments; how they join. -/
namespace VI
open PySem PySem.Spec PyProof.Rows L2
variable {K : PySem.W.Frag} {F H F1 H1 F2 H2 F' H' : Hp} {ρ ρ1 ρ2 ρ' : EnvD} {σ : L2.St}

/-- from one state of an expression to a later one -/
structure SE (K : PySem.W.Frag) (σ : L2.St) (F H : Hp) (ρ : EnvD) (F' H' : Hp) (ρ' : EnvD) : Prop where
  st : Stp K F H ρ σ F' H' ρ' σ
  dm : Dom ρ ρ'
theorem SE.refl (s : Same F H) (e : ERel K F H ρ σ) : SE K σ F H ρ F H ρ := ⟨Stp.refl s e, Dom.refl ρ⟩
theorem SE.trans (a : SE K σ F H ρ F1 H1 ρ1) (b : SE K σ F1 H1 ρ1 F2 H2 ρ2) : SE K σ F H ρ F2 H2 ρ2 := ⟨a.st.trans b.st, a.dm.trans b.dm⟩

/-- data, frozen or a temporary container, at v -/
def VR (K : PySem.W.Frag) (F H : Hp) (ρ : EnvD) (σ : L2.St) (d : D) (fr : Bool) (v : V) : Prop := match fr with
  | false => Rep K F d v
  | true => ∃ a, v = .ref a ∧ Own K F H d a ∧ ¬ OwnAt ρ σ a
def OR (K : PySem.W.Frag) (F H : Hp) (ρ : EnvD) (σ : L2.St) : Opd → V → Prop
  | .slot i, v => σ[i]? = some (some v) ∧ ∃ x : D × Bool, ρ[i]? = some (some x)
  | .val d fr, v => VR K F H ρ σ d fr v
inductive ORs (K : PySem.W.Frag) (F H : Hp) (ρ : EnvD) (σ : L2.St) : List Opd → List V → Prop where
  | nil : ORs K F H ρ σ [] []
  | cons {o : Opd} {v : V} {os : List Opd} {vs : List V} : OR K F H ρ σ o v → ORs K F H ρ σ os vs → ORs K F H ρ σ (o :: os) (v :: vs)
theorem VR.step {d : D} {fr : Bool} {v : V} (h : VR K F H ρ σ d fr v) (s : SE K σ F H ρ F' H' ρ') : VR K F' H' ρ' σ d fr v := by
  cases fr with
  | false => exact Rep.mono s.st.ff h
  | true =>
    obtain ⟨a, e, ow, no⟩ := h
    obtain ⟨o, ho, bx⟩ := ow.hB
    obtain ⟨h1, n1⟩ := s.st.fr a o ho bx ow.nF no
    exact ⟨a, e, ow.keep s.st.ff (fun u q => by rw [ho] at q; cases q; exact h1) n1, fun z => (s.st.os a z).elim no fun z => not_none ho z⟩
theorem OR.step {o : Opd} {v : V} (h : OR K F H ρ σ o v) (s : SE K σ F H ρ F' H' ρ') : OR K F' H' ρ' σ o v := by
  cases o with
  | slot i =>
    obtain ⟨e, x, hx⟩ := h
    exact ⟨e, s.dm i x hx⟩
  | val d fr => exact VR.step (d := d) (fr := fr) h s
theorem ORs.step {o : List Opd} {v : List V} (h : ORs K F H ρ σ o v) (s : SE K σ F H ρ F' H' ρ') : ORs K F' H' ρ' σ o v := by
  induction h with
  | nil => exact .nil
  | cons h _ ih => exact .cons (h.step s) ih
theorem getD?_some {i : Nat} {x : D × Bool} (h : getD? ρ i = some x) : ρ[i]? = some (some x) := by
  unfold getD? at h
  split at h
  · rename_i y e; cases h; exact e
  · cases h
/-- a temporary container is newer than H -/
def Nw (H : Hp) : Opd → V → Prop
  | .val _ true, .ref a => H a = none
  | _, _ => True
inductive Nws (H : Hp) : List Opd → List V → Prop where
  | nil : Nws H [] []
  | cons {o : Opd} {v : V} {os : List Opd} {vs : List V} : Nw H o v → Nws H os vs → Nws H (o :: os) (v :: vs)
theorem none_of {b : Addr} (g : ∀ b o, H b = some o → ∃ o', H' b = some o') (h : H' b = none) : H b = none := by
  cases q : H b with
  | none => rfl
  | some o => obtain ⟨o', z⟩ := g b o q; rw [h] at z; cases z
theorem Nw.back {o : Opd} {v : V} (h : Nw H' o v) (g : ∀ b o, H b = some o → ∃ o', H' b = some o') : Nw H o v := by
  cases o with
  | slot i => trivial
  | val d fr =>
    cases fr with
    | false => trivial
    | true =>
      cases v <;> first | trivial | exact none_of g h
theorem Nws.back {o : List Opd} {v : List V} (h : Nws H' o v) (g : ∀ b o, H b = some o → ∃ o', H' b = some o') : Nws H o v := by
  induction h with
  | nil => exact .nil
  | cons h _ ih => exact .cons (h.back g) ih
theorem res_slot {i : Nat} {d : D} (h : res ρ (.slot i) = .ok d) : ∃ fr, ρ[i]? = some (some (d, fr)) := by
  simp only [res] at h
  cases g : getD? ρ i with
  | none => rw [g] at h; cases h
  | some x => rw [g] at h; cases h; exact ⟨x.2, getD?_some g⟩
theorem OR.rd {o : Opd} {v : V} {d : D} (e : ERel K F H ρ σ) (h : OR K F H ρ σ o v) (hr : res ρ o = .ok d) : RdV K F H d v := by
  cases o with
  | slot i =>
    obtain ⟨e1, _⟩ := h
    obtain ⟨fr, g⟩ := res_slot hr
    cases fr with
    | false =>
      obtain ⟨v', e2, r⟩ := e.frz i d g
      rw [e1] at e2; cases e2
      exact .inl r
    | true =>
      obtain ⟨a, e2, r⟩ := e.own i d g
      rw [e1] at e2; cases e2
      exact .inr ⟨a, rfl, r⟩
  | val d' fr =>
    cases hr
    cases fr with
    | false => exact .inl h
    | true =>
      obtain ⟨a, e1, ow, _⟩ := h
      exact .inr ⟨a, e1, ow⟩
theorem R.wp_eq {α : Type} {r : R α} {P : α → Prop} (h : r.wp P) : ∃ a, r = .ok a ∧ P a := by
  cases r with
  | no => exact h.elim
  | ok a => exact ⟨a, rfl, h⟩
theorem frz_slot_eq {i : Nat} {x : D × EnvD} (h : frz ρ (.slot i) = .ok x) : (ρ[i]? = some (some (x.1, false)) ∧ x.2 = ρ) ∨ (ρ[i]? = some (some (x.1, true)) ∧ x.2 = ρ.set i (some (x.1, false))) := by
  simp only [frz] at h
  cases g : getD? ρ i with
  | none => rw [g] at h; cases h
  | some y =>
    rw [g] at h
    obtain ⟨d, fr⟩ := y
    cases fr with
    | false => cases h; exact .inl ⟨getD?_some g, rfl⟩
    | true => cases h; exact .inr ⟨getD?_some g, rfl⟩
/-- a value for good: frozen where it is not yet -/
theorem frz_ok {o : Opd} {v : V} {x : D × EnvD} (s : SE K σ F H ρ F1 H1 ρ1) (h : OR K F1 H1 ρ1 σ o v) (nw : Nw H o v) (hf : frz ρ1 o = .ok x) :
    ∃ F', SE K σ F H ρ F' H1 x.2 ∧ Rep K F' x.1 v := by
  cases o with
  | slot i =>
    obtain ⟨e1, _⟩ := h
    rcases frz_slot_eq hf with ⟨g, e⟩ | ⟨g, e⟩
    · rw [e]
      obtain ⟨v', e2, r⟩ := s.st.er.frz i _ g
      rw [e1] at e2; cases e2
      exact ⟨F1, s, r⟩
    · rw [e]
      obtain ⟨F', v', st, dm, e2, r⟩ := frz_slot s.st.fh s.st.er g
      rw [e1] at e2; cases e2
      exact ⟨F', s.trans ⟨st, dm⟩, r⟩
  | val d fr =>
    cases hf
    cases fr with
    | false => exact ⟨F1, s, h⟩
    | true =>
      obtain ⟨a, e1, ow, no⟩ := h
      obtain ⟨o, ha, q⟩ := frz_tmp s.st.fh s.st.er ow no
      obtain ⟨er, ff, fh, r⟩ := q _ rfl
      subst e1
      have na : H a = none := nw
      refine ⟨_, ⟨⟨s.st.ff.trans ff, fh, er, fun b u h1 bx h2 h3 => ?_, s.st.os, s.st.gr⟩, s.dm⟩, r⟩
      obtain ⟨h4, h5⟩ := s.st.fr b u h1 bx h2 h3
      exact ⟨h4, by rw [upd_ne (ne_of_none h1 na)]; exact h5⟩
theorem VR.of_frz {d : D} {v : V} (h : Rep K F d v) : VR K F H ρ σ d false v := h
/-- a value handed on -/
theorem tak_ok {o : Opd} {v : V} {x : (D × Bool) × EnvD} (s : SE K σ F H ρ F1 H1 ρ1) (h : OR K F1 H1 ρ1 σ o v) (nw : Nw H o v) (hf : tak ρ1 o = .ok x) :
    ∃ F', SE K σ F H ρ F' H1 x.2 ∧ VR K F' H1 x.2 σ x.1.1 x.1.2 v ∧ Nw H (.val x.1.1 x.1.2) v := by
  cases o with
  | slot i =>
    simp only [tak] at hf
    cases g : frz ρ1 (.slot i) with
    | no => rw [g] at hf; cases hf
    | ok y =>
      rw [g] at hf
      cases hf
      obtain ⟨F', s', r⟩ := frz_ok s h nw g
      exact ⟨F', s', r, trivial⟩
  | val d fr =>
    cases hf
    exact ⟨F1, s, h, nw⟩

/-! ### growth by an operation -/
structure Grw (F H F' H' : Hp) : Prop where
  ff : Same F F'
  fh : Same F' H'
  hh : Same H H'
  fr : ∀ b o, H b = some o → Box o → F b = none → F' b = none
/-- the value of an operation: frozen, or a new container -/
def VN (K : PySem.W.Frag) (H F' H' : Hp) (d : D) (fr : Bool) (v : V) : Prop := match fr with
  | false => Rep K F' d v
  | true => ∃ a, v = .ref a ∧ Own K F' H' d a ∧ H a = none
theorem Grw.refl (s : Same F H) : Grw F H F H := ⟨Same.refl F, s, Same.refl H, fun _ _ _ _ n => n⟩
theorem Grw.se (g : Grw F H F' H') (e : ERel K F H ρ σ) : SE K σ F H ρ F' H' ρ := by
  refine ⟨⟨g.ff, g.fh, ⟨e.len, fun i d h => ?_, fun i d h => ?_, e.dis⟩, fun b o h1 bx h2 _ => ⟨g.hh _ _ h1, g.fr b o h1 bx h2⟩, fun b z => .inl z, fun b o z => ⟨o, g.hh b o z⟩⟩, Dom.refl ρ⟩
  · obtain ⟨v, e1, r⟩ := e.frz i d h
    exact ⟨v, e1, r.mono g.ff⟩
  · obtain ⟨a, e1, ow⟩ := e.own i d h
    obtain ⟨o, ha, bx⟩ := ow.hB
    exact ⟨a, e1, ow.keep g.ff (fun u q => g.hh _ _ q) (g.fr a o ha bx ow.nF)⟩
theorem VN.vr {d : D} {fr : Bool} {v : V} (h : VN K H F' H' d fr v) (e : ERel K F H ρ σ) : VR K F' H' ρ σ d fr v ∧ Nw H (.val d fr) v := by
  cases fr with
  | false => exact ⟨h, trivial⟩
  | true =>
    obtain ⟨a, rfl, ow, n⟩ := h
    refine ⟨⟨a, rfl, ow, fun ⟨i, d', h1, h2⟩ => ?_⟩, n⟩
    obtain ⟨c, e1, ow'⟩ := e.own i d' h1
    rw [h2] at e1; cases e1
    obtain ⟨o, ho⟩ := ow'.hS
    exact not_none ho n
/-- a new list -/
theorem grw_lst {p : Addr} {xs : List D} {vs : List V} (s : Same F H) (n : H p = none) (r : Reps K F xs vs) : Grw F H F (upd H p (.lst vs)) ∧ VN K H F (upd H p (.lst vs)) (.lst xs) true (.ref p) := by
  have nF : F p = none := s.free n
  refine ⟨⟨Same.refl F, fun b o q => ?_, same_upd n, fun _ _ _ _ z => z⟩, p, rfl, ⟨vs, upd_same, r, nF⟩, n⟩
  rw [upd_ne (ne_of_none q nF)]
  exact s b o q
theorem grw_dK {p : Addr} {xs : List (Key × D)} {vs : List (Key × V)} (s : Same F H) (n : H p = none) (r : RepK K F xs vs) : Grw F H F (upd H p (.dK vs)) ∧ VN K H F (upd H p (.dK vs)) (.dK xs) true (.ref p) := by
  have nF : F p = none := s.free n
  refine ⟨⟨Same.refl F, fun b o q => ?_, same_upd n, fun _ _ _ _ z => z⟩, p, rfl, ⟨vs, upd_same, r, nF⟩, n⟩
  rw [upd_ne (ne_of_none q nF)]
  exact s b o q
theorem grw_dT {p : Addr} {xs : List (List Key × D)} {vs : List (List Key × V)} (s : Same F H) (n : H p = none) (r : RepT K F xs vs) : Grw F H F (upd H p (.dT vs)) ∧ VN K H F (upd H p (.dT vs)) (.dT xs) true (.ref p) := by
  have nF : F p = none := s.free n
  refine ⟨⟨Same.refl F, fun b o q => ?_, same_upd n, fun _ _ _ _ z => z⟩, p, rfl, ⟨vs, upd_same, r, nF⟩, n⟩
  rw [upd_ne (ne_of_none q nF)]
  exact s b o q
/-- anything else that is new -/
theorem grw_any {p : Addr} {o : HO} (s : Same F H) (n : H p = none) : Grw F H F (upd H p o) := by
  refine ⟨Same.refl F, fun b u q => ?_, same_upd n, fun _ _ _ _ z => z⟩
  rw [upd_ne (ne_of_none q (s.free n))]
  exact s b u q
theorem Grw.trans (a : Grw F H F1 H1) (b : Grw F1 H1 F2 H2) : Grw F H F2 H2 := ⟨a.ff.trans b.ff, b.fh, a.hh.trans b.hh, fun c o h bx n => b.fr c o (a.hh _ _ h) bx (a.fr c o h bx n)⟩
/-- tuples that stand in H join F -/
def seen (F H : Hp) (l : List Addr) : Hp := fun b => if b ∈ l then H b else F b
theorem grw_seen {l : List Addr} (s : Same F H) (t : ∀ b ∈ l, ∃ vs, H b = some (.tup vs)) : Grw F H (seen F H l) H := by
  refine ⟨fun b o q => ?_, fun b o q => ?_, Same.refl H, fun b o h bx n => ?_⟩
  · unfold seen
    split
    · exact s b o q
    · exact q
  · unfold seen at q
    split at q
    · exact q
    · exact s b o q
  · unfold seen
    split
    · rename_i c
      obtain ⟨vs, e⟩ := t b c
      rw [h] at e
      cases e
      exact bx.elim
    · exact n
theorem seen_at {l : List Addr} {b : Addr} (h : b ∈ l) : seen F H l b = H b := if_pos h
/-- a new tuple -/
theorem grw_tup {p : Addr} {xs : List D} {vs : List V} (s : Same F H) (n : H p = none) (r : Reps K F xs vs) : Grw F H (upd F p (.tup vs)) (upd H p (.tup vs)) ∧ VN K H (upd F p (.tup vs)) (upd H p (.tup vs)) (.tup xs) false (.ref p) := by
  have nF : F p = none := s.free n
  refine ⟨⟨same_upd nF, fun b o q => ?_, same_upd n, fun b o h1 _ h2 => ?_⟩, Rep.tup (SqT.of upd_same) (r.mono (same_upd nF))⟩
  · by_cases e : b = p
    · subst e; rw [upd_same] at q ⊢; exact q
    · rw [upd_ne e] at q ⊢; exact s b o q
  · rw [upd_ne (ne_of_none h1 n)]; exact h2

/-! ### readings by a function on environments -/
/-- the reading: Rl of what f yields and the value -/
def tX {α : Type} (K : PySem.W.Frag) (Rl : Hp → Hp → Hp → EnvD → L2.St → α → V → Prop) (f : EnvD → R (α × EnvD)) : TE := fun σ H Q =>
  ∃ F ρ, Same F H ∧ ERel K F H ρ σ ∧ (f ρ).wp fun r => ∀ F' H' v, SE K σ F H ρ F' H' r.2 → Rl H F' H' r.2 σ r.1 v → Q v H'
/-- operands -/
def tO (K : PySem.W.Frag) (f : EnvD → R (Opd × EnvD)) : TE := tX K (fun H F' H' ρ' σ o v => OR K F' H' ρ' σ o v ∧ Nw H o v) f
/-- for good -/
def tF (K : PySem.W.Frag) (f : EnvD → R (D × EnvD)) : TE := tX K (fun _ F' _ _ _ d v => Rep K F' d v) f
/-- tests -/
def tB' (K : PySem.W.Frag) (f : EnvD → R (Bool × EnvD)) : TT := fun σ H Q =>
  ∃ F ρ, Same F H ∧ ERel K F H ρ σ ∧ (f ρ).wp fun r => ∀ F' H', SE K σ F H ρ F' H' r.2 → Q r.1 H'
def tAs (K : PySem.W.Frag) (f : EnvD → R (List Opd × EnvD)) : TA := fun σ H Q =>
  ∃ F ρ, Same F H ∧ ERel K F H ρ σ ∧ (f ρ).wp fun r => ∀ F' H' vs, SE K σ F H ρ F' H' r.2 → ORs K F' H' r.2 σ r.1 vs → Nws H r.1 vs → Q vs H'
def tLs (K : PySem.W.Frag) (f : EnvD → R (List D × EnvD)) : TA := fun σ H Q =>
  ∃ F ρ, Same F H ∧ ERel K F H ρ σ ∧ (f ρ).wp fun r => ∀ F' H' vs, SE K σ F H ρ F' H' r.2 → Reps K F' r.1 vs → Q vs H'
section
variable {X : Cx} {e a b : Expr} {es : List Expr} {pos : Pos}
theorem PE.imp {t t' : TE} (h : PE X e t) (k : ∀ σ H Q, t' σ H Q → t σ H Q) : PE X e t' := ⟨fun pins s σ H Q I q => h.run pins s σ H Q I (k _ _ _ q)⟩
theorem PT.imp {t t' : TT} (h : PT X e t) (k : ∀ σ H Q, t' σ H Q → t σ H Q) : PT X e t' := ⟨fun pins s σ H Q I q => h.run pins s σ H Q I (k _ _ _ q)⟩
theorem PW.imp {t t' : TT} (h : PW X e t) (k : ∀ σ H Q, t' σ H Q → t σ H Q) : PW X e t' := ⟨fun w pins s σ H Q I q => h.run w pins s σ H Q I (k _ _ _ q)⟩
theorem PA.imp {t t' : TA} (h : PA X es t) (k : ∀ σ H Q, t' σ H Q → t σ H Q) : PA X es t' := ⟨fun p pins s σ H Q I q => h.run p pins s σ H Q I (k _ _ _ q)⟩
/-- frozen -/
theorem pe_frz {f : EnvD → R (Opd × EnvD)} (h : PE X e (tO K f)) : PE X e (tF K fun ρ => (f ρ).bind fun o => frz o.2 o.1) := by
  refine PE.imp h fun σ H Q ⟨F, ρ, s, er, q⟩ => ⟨F, ρ, s, er, ?_⟩
  rw [R.wp_bind] at q
  refine R.wp_mono q fun o q F' H' v se ⟨r, nw⟩ => ?_
  obtain ⟨x, hx, q⟩ := R.wp_eq q
  obtain ⟨F2, se2, r2⟩ := frz_ok se r nw hx
  exact q F2 H' v se2 r2
end
end VI

set_option Elab.async false
set_option linter.all false
set_option autoImplicit false
set_option maxRecDepth 100000
set_option maxHeartbeats 4000000
/-! VRules: rules that the layer lacks: () * k, a tuple reversed by a slice. -/
namespace VI
open PySem PySem.Spec PyProof.Rows L2 HT
/-! ### () * k -/
theorem tuple_mul0 (l : Addr) (n : Nat) (dd : Option Addr) (sl : Array (Option Value)) (x : Int) (u : Tok) (c0 : (decide (x < -(2 ^ 63)) || decide (x ≥ 2 ^ 63)) = false) :
    Meets (Builtin.«tuple.__mul__» ⟨[.ref l, .int x u], []⟩) (fun _ R s => s.heap.get? l = some { cls := .type "tuple", dict := dd, data := .seq #[] n, slots := sl } ∧
      R (.ok (.ret (Value.ref l))) s) :=
  .of_wp fun prog w A R s h => by
    obtain ⟨hp, g, d, tk, os⟩ := s
    obtain ⟨hl, h⟩ := h
    have f1 := AutoSeq1.idx_int
    wp_walk using wpAny_loadPart' hl
    repeat (first
      | (refine wpAny_ite_false (decide_eq_false (by rw [c0]; exact Bool.false_ne_true)) ?_; wp_walk using wpAny_loadPart' hl))
    exact ⟨_, rfl, h⟩
def rRepT0 (K : PySem.W.Frag) : R2 := fun x y H Q => ∃ l k, x = .ref l ∧ y = .int k ∧ SqT K H l [] ∧ 2 ≤ k ∧ k ≤ 1000 ∧ Q (.ref l) H
section
variable {X : Cx}
theorem op_repT0 : OpR X (binaryOp .Mult) (rRepT0 X.K) := by
  intro pins s σ H x y v u Q I rx ry h
  obtain ⟨l, k, rfl, rfl, hT, h1, h2, q⟩ := h
  cases rx
  obtain ⟨t, rfl⟩ := ry
  obtain ⟨its, r, ⟨⟨cls, dd, data, sl⟩, ho, hc, n, hd⟩, hs⟩ := I.tuple hT
  simp only at hc hd
  subst hc hd
  cases r
  have c0 : (decide (k < -(2 ^ 63)) || decide (k ≥ 2 ^ 63)) = false := by
    rw [decide_eq_false (by omega), decide_eq_false (by omega)] <;> rfl
  exact wpAny_binaryOp_repeat_ref (T := "tuple") (U := "int") (by decide) ⟨_, ho, rfl⟩ (fun s' => typeIs_int s' k t) noFill_tuple_mul F.fills_int_mul F.slot_int_rmul repeat_tuple F.slot_int_index.lookup
    (call_meets F.slot_int_rmul (typeIs_int s k t) F.entry_int_rmul (F.args_int_rmul_2 _ _) (int_rmul_tuple k t l _ n dd sl)
      ⟨ho, rfl, ⟨_, ho, rfl⟩, call_meets F.slot_tuple_mul ⟨_, ho, rfl⟩ F.entry_tuple_mul (F.args_tuple_mul_2 _ _) (tuple_mul0 l n dd sl k t c0) ⟨ho, .ref l, H, I, rfl, q⟩⟩)
end
/-! ### t[::-1] -/
section
variable {prog : Program} {w : World} {A : Around} {E : Value → Shared → Prop} {s : Shared}
theorem sliceApplied_rev {sl : Addr} {t : Tok} {n : Nat} {Q : Int × Int × Nat → Shared → Prop} (hs : s.heap.IsSliceOf sl .none .none (.int (-1) t))
    (h : Q ((n : Int) - 1, -1, n) s) : wpAny (model prog w) A (Builtin.Slice.sliceApplied (.ref sl) (pure (n : Int))) Q E s := by
  obtain ⟨os, hos, hcs, hds⟩ := id hs
  unfold Builtin.Slice.sliceApplied Builtin.Slice.sliceFields
  refine wpAny_bind (wpAny_bind (wpAny_field hos hds (x := .none) rfl (wpAny_bind (wpAny_field hos hds (x := .none) rfl (wpAny_bind (wpAny_field hos hds (x := .int (-1) t) rfl (wpAny_pure ?_)))))))
  refine wpAny_bind (slicePart_int ?_)
  show wpAny _ _ (if ((-1 : Int) == 0) = true then _ else _) _ _ s
  rw [if_neg (by decide)]
  refine wpAny_bind (slicePart_none (wpAny_bind (slicePart_none (wpAny_bind (wpAny_pure ?_)))))
  have e : Builtin.Slice.sliceAdjust none none (-1) (n : Int) = ((n : Int) - 1, -1) := by
    unfold Builtin.Slice.sliceAdjust
    rfl
  show wpAny _ _ (match Builtin.Slice.sliceAdjust none none (-1) (n : Int) with | (lo, hi) => pure (lo, (-1 : Int), Builtin.Slice.slicePlaces lo hi (-1))) _ _ s
  rw [e]
  show wpAny _ _ (pure ((n : Int) - 1, (-1 : Int), Builtin.Slice.slicePlaces ((n : Int) - 1) (-1) (-1))) _ _ s
  have e2 : Builtin.Slice.slicePlaces ((n : Int) - 1) (-1) (-1) = n := by
    unfold Builtin.Slice.slicePlaces
    have h1 : ¬ ((-1 : Int) > 0) := by omega
    simp only [h1, if_false]
    split <;> (try simp) <;> try omega
  rw [e2]
  exact wpAny_pure h
theorem range_get {α : Type} (l : List α) : (List.range l.length).filterMap (fun k => l[k]?) = l := by
  induction l with
  | nil => rfl
  | cons a l ih =>
    rw [List.length_cons, List.range_succ_eq_map, List.filterMap_cons]
    simp only [List.getElem?_cons_zero, List.filterMap_map]
    congr 1
theorem fm_congr {α β : Type} {f g : α → Option β} : ∀ {l : List α}, (∀ x ∈ l, f x = g x) → l.filterMap f = l.filterMap g
  | [], _ => rfl
  | a :: l, h => by
    rw [List.filterMap_cons, List.filterMap_cons, h a List.mem_cons_self, fm_congr fun x hx => h x (List.mem_cons_of_mem _ hx)]
theorem pick_rev {α : Type} (xs : Array α) : ((List.range xs.size).filterMap fun (k : Nat) => xs[((xs.size : Int) - 1 + (k : Int) * (-1)).toNat]?).toArray = xs.toList.reverse.toArray := by
  congr 1
  obtain ⟨l⟩ := xs
  simp only [List.size_toArray, List.getElem?_toArray]
  have e := range_get l.reverse
  rw [List.length_reverse] at e
  rw [← e]
  refine fm_congr ?_
  intro k hk
  have hk : k < l.length := List.mem_range.mp hk
  rw [List.getElem?_reverse hk]
  congr 1
  omega
theorem getItem_tuple_rev {t sl : Addr} {items : Array Value} {tk : Tok} {Q : Value → Shared → Prop} (ht : IsTup s.heap t items) (hs : s.heap.IsSliceOf sl .none .none (.int (-1) tk))
    (h : Q (.ref s.heap.objs.size) { s with heap := s.heap.push { cls := .type "tuple", data := .seq items.toList.reverse.toArray } })
    (hsz : items.size ≤ sizeLine) : wpAny (model prog w) A (getItem (.ref t) (.ref sl)) Q E s := by
  have htake : sizeOk (.seq items.toList.reverse.toArray) := by
    show (items.toList.reverse).toArray.size ≤ sizeLine
    simpa using hsz
  obtain ⟨os, hos, hcs, hds⟩ := id hs
  have hTs : s.TypeIs (.ref sl) "slice" := ⟨os, hos, hcs⟩
  unfold getItem
  try with_reducible refine wpAny_holding ?_
  first | refine wpAny_bind (wpAny_pure ?_) | skip
  refine wpAny_bind (wpAny_sequenceKey ht.typeIs (by decide) ?_)
  refine wpAny_bind (wpAny_callSpecial?_slot (name := Str.ofString "__getitem__") ht.typeIs PyProof.Rows.slot_tuple_getitem
    (wpAny_call_entry PyProof.Rows.slot_tuple_getitem ht.typeIs entry_tuple_getitem ?_ (args_tuple_getitem _ _)))
  show wpAny _ _ (Builtin.Tuple.tupleItemsOf (.ref t) >>= _) _ _ s
  refine wpAny_bind (tupleItemsOf_ ht ?_)
  refine wpAny_bind (wpAny_typeOf hTs ?_)
  rw [if_pos (by decide)]
  refine wpAny_bind (sliceApplied_rev hs ?_)
  have hno : ¬ ((((items.size : Int) - 1) == 0 && (-1 : Int) == 1 && items.size == items.size) = true) := by
    intro q
    rw [Bool.and_eq_true, Bool.and_eq_true] at q
    exact absurd (eq_of_beq q.1.2) (by decide)
  show wpAny _ _ (if (((items.size : Int) - 1) == 0 && (-1 : Int) == 1 && items.size == items.size) = true then _ else _) _ _ s
  rw [if_neg hno, pick_rev]
  first
    | exact wpAny_bind (m := Builtin.Tuple.tupleExact _) (wpAny_newObj_type (wpAny_pure ⟨_, rfl, wpAny_pure h⟩) htake)
    | exact wpAny_bind (m := Builtin.Tuple.tupleExact _) (wpAny_newObj_type (wpAny_bind (wpAny_pure (wpAny_pure ⟨_, rfl, wpAny_pure h⟩))) htake)
    | exact wpAny_bind (wpAny_bind (m := Builtin.Tuple.tupleExact _) (wpAny_newObj_type (wpAny_pure (wpAny_pure ⟨_, rfl, wpAny_pure h⟩)) htake))
    | exact wpAny_bind (wpAny_bind (m := Builtin.Tuple.tupleExact _) (wpAny_newObj_type (wpAny_pure ⟨_, rfl, wpAny_pure h⟩) htake))
end
def tRevA (K : PySem.W.Frag) (te : TE) : TE := fun σ H Q => te σ H fun x H1 => ∃ a xs, x = .ref a ∧ ((SqL K H1 a xs ∧ ∀ p, H1 p = none → Q (.ref p) (upd H1 p (.lst xs.reverse))) ∨ (SqT K H1 a xs ∧ ∀ p, H1 p = none → Q (.ref p) (upd H1 p (.tup xs.reverse))))
section
variable {X : Cx}
theorem pe_revA {e : Expr} {te : TE} {k : Nat} {p1 p2 p3 pos : Pos} (he : PE X e te) : PE X (.Subscript e (.Slice none none (some (.UnaryOp .USub (.Constant (.int 1) k p1) p2)) p3) pos) (tRevA X.K te) := by
  refine ⟨fun pins s σ H Q I h => ?_⟩
  refine Subscript_ (thn (he.run pins s σ H _ I h) fun v s1 ⟨x, H1, I1, r1, q1⟩ => ?_)
  obtain ⟨a, xs, ex, q⟩ := q1
  subst ex
  cases r1
  have hst : PO X (some (.UnaryOp .USub (.Constant (.int 1) k p1) p2)) (tPart (tUn (rU fun i => .int (-i)) (tC (.int 1)))) := po_some (pe_un un_neg pe_int)
  refine wpAny_Slice (thn (po_none.run pins s1 σ H1 (fun o H2 => o = none ∧ H2 = H1) I1 ⟨rfl, rfl⟩) fun vl s2 ⟨l, H2, I2, pl, el, e2⟩ => ?_)
  subst el e2
  refine thn (po_none.run pins s2 σ H2 (fun o H3 => o = none ∧ H3 = H2) I2 ⟨rfl, rfl⟩) fun vu s3 ⟨u, H3, I3, pu, eu, e3⟩ => ?_
  subst eu e3
  refine thn (hst.run pins s3 σ H3 (fun o H4 => o = some (-1) ∧ H4 = H3) I3 ⟨1, rfl, -1, rfl, rfl, rfl⟩) fun vs s4 ⟨o, H4, I4, ps, eo, e4⟩ => ?_
  subst eo e4
  have I5 : Inv X pins σ H4 { s4 with heap := s4.heap.push { cls := .type "slice", data := .fields #[vl, vu, vs] } } := I4.kept (t' := s4.toks) fun b ob q => Heap.get?_push_of_some _ q
  show wpAny (model X.prog X.w) X.A (subscriptTail e (.Slice none none (some (.UnaryOp .USub (.Constant (.int 1) k p1) p2)) p3) (.ref a) (.ref s4.heap.objs.size)) (EP X pins σ Q) X.xe { s4 with heap := s4.heap.push { cls := .type "slice", data := .fields #[vl, vu, vs] } }
  rcases q with ⟨hx, q⟩ | ⟨hx, q⟩
  · obtain ⟨its, r, ht, hz⟩ := I5.list hx
    have hlen := r.length
    refine tail_any (ops := [.ref a, .ref s4.heap.objs.size]) ht.isList.typeIs (PySem.slot_list_getitem.lookup) ?_ (by with_unfolding_all rfl)
    refine wpAny_getItem_list_slice ht.isList (Heap.IsSliceOf.new _ vl vu vs) pl pu ps (by decide) ?_ (by rw [List.size_toArray]; omega)
    rw [PySem.W.krv_pick]
    refine ⟨.ref _, _, I5.laid (t' := s4.toks) (o := .lst xs.reverse) (fun b ob q => Heap.get?_push_of_some _ q) (Nat.le_refl _) ?_, rfl, q _ (I5.hok.fresh (Nat.le_refl _))⟩
    exact ⟨by rw [List.length_reverse]; exact hz, _, 0, r.reverse, Heap.get?_push_size _ rfl⟩
  · obtain ⟨its, r, ht, hz⟩ := I5.tuple hx
    have hlen := r.length
    cases pl
    cases pu
    cases ps with
    | int i t =>
      refine tail_any (ops := [.ref a, .ref s4.heap.objs.size]) ht.typeIs (PyProof.Rows.slot_tuple_getitem.lookup) ?_ (by with_unfolding_all rfl)
      refine getItem_tuple_rev ht (Heap.IsSliceOf.new _ _ _ _) ?_ (by rw [List.size_toArray]; omega)
      refine ⟨.ref _, _, I5.laid (t' := s4.toks) (o := .tup xs.reverse) (fun b ob q => Heap.get?_push_of_some _ q) (Nat.le_refl _) ?_, rfl, q _ (I5.hok.fresh (Nat.le_refl _))⟩
      exact ⟨by rw [List.length_reverse]; exact hz, _, r.reverse, IsTup.new _ _⟩
end
end VI

set_option Elab.async false
set_option linter.all false
set_option autoImplicit false
set_option maxRecDepth 100000
set_option maxHeartbeats 2000000
/-! VOps: the operators on data are those of the machine. -/
namespace VI
open PySem PySem.Spec PyProof.Rows L2
section
variable {K : PySem.W.Frag} {F H F1 H1 F2 H2 F' H' : Hp}

/-! ### what may be read -/
theorem RdV.non {x : V} (h : RdV K F H .non x) : x = .non := by rcases h with h | ⟨a, _, h⟩; cases h; rfl; exact h.elim
theorem RdV.bl {x : V} {b : Bool} (h : RdV K F H (.bl b) x) : x = .bl b := by rcases h with h | ⟨a, _, h⟩; cases h; rfl; exact h.elim
theorem RdV.int {x : V} {b : Int} (h : RdV K F H (.int b) x) : x = .int b := by rcases h with h | ⟨a, _, h⟩; cases h; rfl; exact h.elim
theorem RdV.str {x : V} {b : Str} (h : RdV K F H (.str b) x) : x = .str b := by rcases h with h | ⟨a, _, h⟩; cases h; rfl; exact h.elim
theorem RdV.tup {x : V} {xs : List D} (s : Same F H) (h : RdV K F H (.tup xs) x) : ∃ a vs, x = .ref a ∧ SqT K H a vs ∧ Reps K F xs vs := by
  rcases h with h | ⟨a, _, h⟩
  · cases h with
    | tup h r => exact ⟨_, _, rfl, sqT_mono s h, r⟩
  · exact h.elim
theorem RdV.lst {x : V} {xs : List D} (s : Same F H) (h : RdV K F H (.lst xs) x) : ∃ a vs, x = .ref a ∧ H a = some (.lst vs) ∧ Reps K F xs vs := by
  rcases h with h | ⟨a, e, vs, h, r, _⟩
  · cases h with
    | lst h r => exact ⟨_, _, rfl, s _ _ h, r⟩
  · exact ⟨a, vs, e, h, r⟩
theorem RdV.ro {x : V} {xs : List D} (s : Same F H) (h : RdV K F H (.ro xs) x) : ∃ a vs, x = .ref a ∧ SqL K H a vs ∧ Reps K F xs vs := by
  rcases h with h | ⟨a, _, h⟩
  · cases h with
    | ro h r => exact ⟨_, _, rfl, s.seq h, r⟩
  · exact h.elim
theorem RdV.dK {x : V} {xs : List (Key × D)} (s : Same F H) (h : RdV K F H (.dK xs) x) : ∃ a vs, x = .ref a ∧ H a = some (.dK vs) ∧ RepK K F xs vs := by
  rcases h with h | ⟨a, e, vs, h, r, _⟩
  · cases h with
    | dK h r => exact ⟨_, _, rfl, s _ _ h, r⟩
  · exact ⟨a, vs, e, h, r⟩

theorem RdV.dT {x : V} {xs : List (List Key × D)} (s : Same F H) (h : RdV K F H (.dT xs) x) : ∃ a vs, x = .ref a ∧ H a = some (.dT vs) ∧ RepT K F xs vs := by
  rcases h with h | ⟨a, e, vs, h, r, _⟩
  · cases h with
    | dT h r => exact ⟨_, _, rfl, s _ _ h, r⟩
  · exact ⟨a, vs, e, h, r⟩

theorem RdV.ptp {x : V} {xs : List D} (s : Same F H) (h : RdV K F H (.ptp xs) x) : ∃ a vs ob, x = .ref a ∧ H a = some (.frz ob (.tup vs)) ∧ ob.dict = none ∧ Reps K F xs vs := by
  rcases h with h | ⟨a, _, h⟩
  · cases h with
    | ptp h n r => exact ⟨_, _, _, rfl, s _ _ h, n, r⟩
  · exact h.elim
theorem Rep.ptpT {x : V} {xs : List D} (h : Rep K F (.ptp xs) x) : Rep K F (.tup xs) x := by
  cases h with
  | ptp h n r => exact .tup (.inl (.inr ⟨_, h⟩)) r
theorem RdV.ptpT {x : V} {xs : List D} (h : RdV K F H (.ptp xs) x) : RdV K F H (.tup xs) x := by
  rcases h with h | ⟨a, _, h⟩
  · exact .inl h.ptpT
  · exact h.elim
def OpSnd (K : PySem.W.Frag) (r : V → V → Hp → VK → Prop) (sem : D → D → R (D × Bool)) : Prop :=
  ∀ (F H : Hp) (d e : D) (x y : V) (Q : VK), Same F H → RdV K F H d x → RdV K F H e y → (sem d e).wp (fun z => ∀ F' H' v, Grw F H F' H' → VN K H F' H' z.1 z.2 v → Q v H') → r x y H Q
/-- the value at hand -/
theorem vn_flat {d : D} {v : V} (s : Same F H) (h : Rep K F d v) {Q : VK} (q : ∀ F' H' v, Grw F H F' H' → VN K H F' H' d false v → Q v H') : Q v H := q F H v (Grw.refl s) h

theorem snd_sub : OpSnd K (rI0 fun i j => .int (i - j)) (binD .sub) := by
  intro F H d e x y Q s hd he q
  cases d <;> cases e <;> first | exact q.elim | skip
  exact ⟨_, _, hd.int, he.int, vn_flat s (.int _) q⟩
theorem snd_mul : OpSnd K (fun x y H Q => rI CMul (fun i j => .int (i * j)) x y H Q ∨ rRepT K x y H Q ∨ rRepT0 K x y H Q ∨ rRep x y H Q) (binD .mul) := by
  intro F H d e x y Q s hd he q
  cases d <;> cases e <;> first | exact q.elim | skip
  · obtain ⟨h, q⟩ := R.wp_ite.mp q
    refine .inl ⟨_, _, hd.int, he.int, ?_, vn_flat s (.int _) q⟩
    simp only [bound64, Bool.or_eq_true, Bool.and_eq_true, decide_eq_true_eq] at h
    exact h
  · rename_i xs k
    obtain ⟨h, q⟩ := R.wp_ite.mp q
    simp only [Bool.and_eq_true, decide_eq_true_eq] at h
    obtain ⟨⟨h1, h2⟩, h3⟩ := h
    by_cases hx : xs = []
    · subst hx
      have e0 : (List.replicate k.toNat ([] : List D)).flatten = [] := by simp
      rw [e0] at q
      obtain ⟨a, vs, e1, ht, r⟩ := hd.tup s
      cases r
      refine .inr (.inr (.inl ⟨a, k, e1, he.int, ht, h1, h2, ?_⟩))
      rcases hd with hd | ⟨_, _, z⟩
      · rw [e1] at hd
        exact vn_flat s hd q
      · exact z.elim
    · obtain ⟨a, vs, rfl, ht, r⟩ := hd.tup s
      refine .inr (.inl ⟨a, k, vs, rfl, he.int, ht, fun e => hx ?_, h1, h2, by rw [← r.length]; exact h3, fun p hp => ?_⟩)
      · subst e; cases r; rfl
      · obtain ⟨g, vn⟩ := grw_tup (K := K) s hp (r.rep k.toNat)
        exact q _ _ _ g vn
  · rename_i xs k
    obtain ⟨h, q⟩ := R.wp_ite.mp q
    simp only [Bool.and_eq_true, decide_eq_true_eq] at h
    obtain ⟨⟨h1, h2⟩, h3⟩ := h
    obtain ⟨a, vs, rfl, ht, r⟩ := hd.lst s
    refine .inr (.inr (.inr ⟨a, k, vs, rfl, he.int, ht, by omega, by omega, ?_, fun p hp => ?_⟩))
    · rw [sizeLine_eq, ← r.length]
      have a1 : xs.length * k.toNat ≤ 1000 * 1000 := Nat.mul_le_mul h3 (by omega)
      omega
    · obtain ⟨g, vn⟩ := grw_lst (K := K) s hp (r.rep k.toNat)
      exact q _ _ _ g vn
theorem snd_mod : OpSnd K (rI (fun _ j => 0 < j) fun i j => .int (i % j)) (binD .mod) := by
  intro F H d e x y Q s hd he q
  cases d <;> cases e <;> first | exact q.elim | skip
  obtain ⟨h, q⟩ := R.wp_ite.mp q
  exact ⟨_, _, hd.int, he.int, of_decide_eq_true h, vn_flat s (.int _) q⟩
theorem snd_fdiv : OpSnd K (rI CDiv fun i j => .int (i / j)) (binD .fdiv) := by
  intro F H d e x y Q s hd he q
  cases d <;> cases e <;> first | exact q.elim | skip
  obtain ⟨h, q⟩ := R.wp_ite.mp q
  simp only [Bool.and_eq_true, decide_eq_true_eq] at h
  exact ⟨_, _, hd.int, he.int, ⟨h.1, h.2⟩, vn_flat s (.int _) q⟩
def CPowX (i j : Int) : Prop := 0 ≤ j ∧ (Builtin.Int.intBits i : Int) * j ≤ 2 ^ 27
theorem op_powX {X : Cx} : OpR X (binaryOp .Pow) (rI CPowX fun i j => .int (i ^ j.toNat)) := opI fun _ _ _ _ _ _ _ hc q => pow_int hc.1 hc.2 q
theorem snd_pow : OpSnd K (rI CPowX fun i j => .int (i ^ j.toNat)) (binD .pow) := by
  intro F H d e x y Q s hd he q
  cases d <;> cases e <;> first | exact q.elim | skip
  obtain ⟨h, q⟩ := R.wp_ite.mp q
  simp only [Bool.and_eq_true, decide_eq_true_eq] at h
  exact ⟨_, _, hd.int, he.int, ⟨h.1, h.2⟩, vn_flat s (.int _) q⟩
abbrev rAddAll (K : PySem.W.Frag) : R2 := fun x y H Q => rI0 (fun i j => .int (i + j)) x y H Q ∨ (∃ i j, x = .str i ∧ y = .str j ∧ i.length + j.length ≤ sizeLine ∧ Q (.str (i ++ j)) H) ∨ rCat x y H Q ∨ rCatA K x y H Q
theorem snd_add : OpSnd K (rAddAll K) (binD .add) := by
  intro F H d e x y Q s hd he q
  cases d <;> cases e <;> first | exact q.elim | skip
  · exact .inl ⟨_, _, hd.int, he.int, vn_flat s (.int _) q⟩
  · obtain ⟨h, q⟩ := R.wp_ite.mp q
    exact .inr (.inl ⟨_, _, hd.str, he.str, of_decide_eq_true h, vn_flat s (.str _) q⟩)
  · obtain ⟨h, q⟩ := R.wp_ite.mp q
    have h := of_decide_eq_true h
    obtain ⟨a, vs, rfl, ht, r⟩ := hd.tup s
    obtain ⟨b, us, rfl, hu, r'⟩ := he.tup s
    refine .inr (.inr (.inr ⟨a, b, vs, us, rfl, rfl, ht, hu, by rw [← r.length, ← r'.length]; exact h, fun e => ?_, fun e1 e2 => ?_, fun e1 e2 p hp => ?_⟩))
    · subst e
      cases r
      rcases he with he | ⟨_, _, z⟩
      · exact vn_flat s he q
      · exact z.elim
    · subst e2
      cases r'
      rw [List.append_nil] at q
      rcases hd with hd | ⟨_, _, z⟩
      · exact vn_flat s hd q
      · exact z.elim
    · obtain ⟨g, vn⟩ := grw_tup (K := K) s hp (r.append r')
      exact q _ _ _ g vn
  · obtain ⟨h, q⟩ := R.wp_ite.mp q
    have h := of_decide_eq_true h
    obtain ⟨a, vs, rfl, ht, r⟩ := hd.lst s
    obtain ⟨b, us, rfl, hu, r'⟩ := he.lst s
    refine .inr (.inr (.inl ⟨a, b, vs, us, rfl, rfl, ht, hu, by rw [← r.length, ← r'.length]; exact h, fun p hp => ?_⟩))
    obtain ⟨g, vn⟩ := grw_lst (K := K) s hp (r.append r')
    exact q _ _ _ g vn
def boOp : BO → Operator | .add => .Add | .sub => .Sub | .mul => .Mult | .mod => .Mod | .fdiv => .FloorDiv | .pow => .Pow
theorem op_bin {X : Cx} : ∀ o : BO, ∃ r, OpR X (binaryOp (boOp o)) r ∧ OpSnd X.K r (binD o)
  | .add => ⟨_, op_add.or (op_add_str.or (op_cat.or op_catA)), snd_add⟩
  | .sub => ⟨_, op_sub, snd_sub⟩
  | .mul => ⟨_, op_mul.or (op_repT.or (op_repT0.or op_rep)), snd_mul⟩
  | .mod => ⟨_, op_mod, snd_mod⟩
  | .fdiv => ⟨_, op_fdiv, snd_fdiv⟩
  | .pow => ⟨_, op_powX, snd_pow⟩

/-! ### comparisons -/
def CmpSnd (K : PySem.W.Frag) (r : V → V → Hp → VK → Prop) (sem : D → D → R Bool) : Prop :=
  ∀ (F H : Hp) (d e : D) (x y : V) (Q : VK), Same F H → RdV K F H d x → RdV K F H e y → (sem d e).wp (fun z => Q (.bl z) H) → r x y H Q
mutual
theorem rep_dp (s : Same F H) : ∀ {d : D} {v : V} {p : PyData}, Rep K F d v → toPy d = some p → Dp K H v p
  | _, _, _, .non, h => by cases h; exact .non
  | _, _, _, .bl b, h => by cases h; exact .bl b
  | _, _, _, .int b, h => by cases h; exact .int b
  | _, _, _, .str b, h => by cases h; exact .str b
  | .tup xs, _, p, .tup ht r, h => by
    simp only [toPy, Option.map_eq_some_iff] at h
    obtain ⟨ps, h1, rfl⟩ := h
    exact .tup (sqT_mono s ht) (reps_dp s r h1)
  | .lst xs, _, p, .lst ht r, h => by
    simp only [toPy, Option.map_eq_some_iff] at h
    obtain ⟨ps, h1, rfl⟩ := h
    exact .lst (SqL.of (s _ _ ht)) (reps_dp s r h1)
  | .ro xs, _, p, .ro ht r, h => by
    simp only [toPy, Option.map_eq_some_iff] at h
    obtain ⟨ps, h1, rfl⟩ := h
    exact .lst (s.seq ht) (reps_dp s r h1)
  | .dK xs, _, p, .dK ht r, h => by simp [toPy] at h
  | .ptp xs, _, p, .ptp ht n r, h => by
    simp only [toPy, Option.map_eq_some_iff] at h
    obtain ⟨ps, h1, rfl⟩ := h
    exact .tup (sqT_mono s (.inl (.inr ⟨_, ht⟩))) (reps_dp s r h1)
theorem reps_dp (s : Same F H) : ∀ {d : List D} {v : List V} {p : List PyData}, Reps K F d v → toPys d = some p → DpAll K H v p
  | _, _, _, .nil, h => by cases h; exact .nil
  | d :: ds, _, p, .cons h r, e => by
    simp only [toPys, Option.bind_eq_some_iff, Option.map_eq_some_iff] at e
    obtain ⟨a, h1, ps, h2, rfl⟩ := e
    exact .cons (rep_dp s h h1) (reps_dp s r h2)
end
theorem RdV.dp {d : D} {v : V} {p : PyData} (s : Same F H) (h : RdV K F H d v) (e : toPy d = some p) : Dp K H v p := by
  rcases h with h | ⟨a, rfl, ow⟩
  · exact rep_dp s h e
  · cases d <;> first | exact ow.elim | skip
    · obtain ⟨vs, h1, r, _⟩ := ow
      simp only [toPy, Option.map_eq_some_iff] at e
      obtain ⟨ps, h2, rfl⟩ := e
      exact .lst (SqL.of h1) (reps_dp s r h2)
    · simp [toPy] at e
    · simp [toPy] at e
theorem eqP_wp {a b : D} {P : Bool → Prop} (h : (eqP a b).wp P) : ∃ x y, toPy a = some x ∧ toPy b = some y ∧ SeqAt.shaped x = true ∧ SeqAt.shaped y = true ∧ P (PyData.eqv x y) := by
  unfold eqP at h
  rw [R.wp_bind, R.wp_of] at h
  obtain ⟨x, h1, h⟩ := h
  rw [R.wp_bind, R.wp_of] at h
  obtain ⟨y, h2, h⟩ := h
  obtain ⟨h3, h4⟩ := R.wp_ite.mp h
  simp only [Bool.and_eq_true] at h3
  exact ⟨x, y, h1, h2, h3.1, h3.2, h4⟩
theorem eqD_wp {a b : D} {P : Bool → Prop} (h : (eqD a b).wp P) : (∃ x y, a = .str x ∧ b = .str y ∧ P (x == y)) ∨ (eqP a b).wp P := by
  cases a <;> first | exact .inr h | skip
  cases b <;> first | exact .inr h | skip
  exact .inl ⟨_, _, rfl, rfl, h⟩
theorem snd_eq : CmpSnd K (fun x y H Q => rEq x y H Q ∨ rEqD K x y H Q) (cmpD .eq) := by
  intro F H d e x y Q s hd he q
  rcases eqD_wp q with ⟨a, b, rfl, rfl, q⟩ | q
  · obtain rfl := hd.str
    obtain rfl := he.str
    exact .inl ⟨rfl, by rw [dec_str]; exact q⟩
  · obtain ⟨p, r, h1, h2, h3, h4, q⟩ := eqP_wp q
    exact .inr ⟨p, r, hd.dp s h1, he.dp s h2, h3, h4, q⟩
theorem snd_ne : CmpSnd K (fun x y H Q => rNe x y H Q ∨ rNeD K x y H Q) (cmpD .ne) := by
  intro F H d e x y Q s hd he q
  have q : ((eqD d e).bind fun c => R.ok (!c)).wp fun z => Q (.bl z) H := q
  rw [R.wp_bind] at q
  rcases eqD_wp q with ⟨a, b, rfl, rfl, q⟩ | q
  · obtain rfl := hd.str
    obtain rfl := he.str
    exact .inl ⟨rfl, by rw [dec_str]; exact q⟩
  · obtain ⟨p, r, h1, h2, h3, h4, q⟩ := eqP_wp q
    exact .inr ⟨p, r, hd.dp s h1, he.dp s h2, h3, h4, q⟩
theorem snd_lt : CmpSnd K (fun x y H Q => rI0 (fun i j => .bl (decide (i < j))) x y H Q ∨ ∃ i j, x = .str i ∧ y = .str j ∧ Q (.bl (decide (i.cps.toList < j.cps.toList))) H) (cmpD .lt) := by
  intro F H d e x y Q s hd he q
  cases d <;> cases e <;> first | exact q.elim | skip
  · exact .inl ⟨_, _, hd.int, he.int, q⟩
  · exact .inr ⟨_, _, hd.str, he.str, q⟩
theorem snd_le : CmpSnd K (rI0 fun i j => .bl (decide (i ≤ j))) (cmpD .le) := by
  intro F H d e x y Q s hd he q
  cases d <;> cases e <;> first | exact q.elim | skip
  exact ⟨_, _, hd.int, he.int, q⟩
theorem snd_gt : CmpSnd K (rI0 fun i j => .bl (decide (j < i))) (cmpD .gt) := by
  intro F H d e x y Q s hd he q
  cases d <;> cases e <;> first | exact q.elim | skip
  exact ⟨_, _, hd.int, he.int, q⟩
theorem snd_ge : CmpSnd K (rI0 fun i j => .bl (decide (j ≤ i))) (cmpD .ge) := by
  intro F H d e x y Q s hd he q
  cases d <;> cases e <;> first | exact q.elim | skip
  exact ⟨_, _, hd.int, he.int, q⟩
theorem flat_v {d : D} {x v : V} (h : RdV K F H d x) (e : flatD d = some v) : x = v := by
  cases d <;> simp only [flatD, reduceCtorEq, Option.some.injEq] at e <;> subst e
  · exact h.non
  · exact h.bl
  · exact h.int
  · exact h.str
theorem flat_vs : ∀ {ds : List D} {vs us : List V}, Reps K F ds vs → flatDs ds = some us → vs = us
  | _, _, _, .nil, e => by cases e; rfl
  | d :: ds, _, us, .cons h r, e => by
    simp only [flatDs, Option.bind_eq_some_iff, Option.map_eq_some_iff] at e
    obtain ⟨a, h1, ps, h2, rfl⟩ := e
    rw [flat_v (H := F) (.inl h) h1, flat_vs r h2]
abbrev rInAll (K : PySem.W.Frag) (neg : Bool) : R2 := fun x y H Q => (∃ i j, x = .str i ∧ y = .str j ∧ Q (.bl (if neg then !(!(Builtin.Str.occurrences j i 0 j.length 1).isEmpty) else !(Builtin.Str.occurrences j i 0 j.length 1).isEmpty)) H) ∨ rIn K neg x y H Q
theorem inD_wp {d e : D} {x y : V} {P : Bool → Prop} (s : Same F H) (hd : RdV K F H d x) (he : RdV K F H e y) (q : (inD d e).wp P) :
    (∃ i j, x = .str i ∧ y = .str j ∧ P (!(Builtin.Str.occurrences j i 0 j.length 1).isEmpty)) ∨ ∃ p xs, y = .ref p ∧ (SqL K H p xs ∨ SqT K H p xs) ∧ flatV x = true ∧ xs.all flatV = true ∧ P (inV x xs) := by
  have seq : ∀ ds : List D, ((R.of (flatD d)).bind fun v => (R.of (flatDs ds)).bind fun vs => R.ite (flatV v && vs.all flatV) (.ok (inV v vs))).wp P → ∀ {vs : List V}, Reps K F ds vs → flatV x = true ∧ vs.all flatV = true ∧ P (inV x vs) := by
    intro ds q vs r
    rw [R.wp_bind, R.wp_of] at q
    obtain ⟨v, h1, q⟩ := q
    rw [R.wp_bind, R.wp_of] at q
    obtain ⟨us, h2, q⟩ := q
    obtain ⟨h3, q⟩ := R.wp_ite.mp q
    simp only [Bool.and_eq_true] at h3
    rw [flat_v hd h1, flat_vs r h2]
    exact ⟨h3.1, h3.2, q⟩
  cases e with
  | str b =>
    cases d <;> first | exact q.elim | skip
    exact .inl ⟨_, _, hd.str, he.str, q⟩
  | tup ds =>
    obtain ⟨a, vs, rfl, ht, r⟩ := he.tup s
    have q : ((R.of (flatD d)).bind fun v => (R.of (flatDs ds)).bind fun vs => R.ite (flatV v && vs.all flatV) (.ok (inV v vs))).wp P := by cases d <;> exact q
    exact .inr ⟨a, vs, rfl, .inr ht, seq ds q r⟩
  | lst ds =>
    obtain ⟨a, vs, rfl, ht, r⟩ := he.lst s
    have q : ((R.of (flatD d)).bind fun v => (R.of (flatDs ds)).bind fun vs => R.ite (flatV v && vs.all flatV) (.ok (inV v vs))).wp P := by cases d <;> exact q
    exact .inr ⟨a, vs, rfl, .inl (SqL.of ht), seq ds q r⟩
  | _ => cases d <;> exact q.elim
theorem snd_in : CmpSnd K (rInAll K false) (cmpD .isin) := by
  intro F H d e x y Q s hd he q
  rcases inD_wp s hd he q with ⟨i, j, h1, h2, q⟩ | ⟨p, xs, h1, h2, h3, h4, q⟩
  · exact .inl ⟨i, j, h1, h2, q⟩
  · exact .inr ⟨p, xs, h1, h2, h3, h4, q⟩
theorem snd_nin : CmpSnd K (rInAll K true) (cmpD .nin) := by
  intro F H d e x y Q s hd he q
  have q : ((inD d e).bind fun c => R.ok (!c)).wp fun z => Q (.bl z) H := q
  rw [R.wp_bind] at q
  rcases inD_wp s hd he q with ⟨i, j, h1, h2, q⟩ | ⟨p, xs, h1, h2, h3, h4, q⟩
  · exact .inl ⟨i, j, h1, h2, q⟩
  · exact .inr ⟨p, xs, h1, h2, h3, h4, q⟩
theorem notFlat {d : D} {x : V} (h : RdV K F H d x) (e : flatD d = none) : ∃ a, x = .ref a := by
  rcases h with h | ⟨a, e1, _⟩
  · cases h <;> first | exact ⟨_, rfl⟩ | (exact absurd e (by simp [flatD]))
  · exact ⟨a, e1⟩
theorem snd_isN : CmpSnd K (fun x y H Q => y = .non ∧ Q (.bl (decide (x = .non))) H) (cmpD .isN) := by
  intro F H d e x y Q s hd he q
  cases e <;> first | exact q.elim | skip
  cases hf : flatD d with
  | none =>
    have q : Q (.bl false) H := by simp only [cmpD, hf] at q; exact q
    obtain ⟨a, rfl⟩ := notFlat hd hf
    exact ⟨he.non, by simpa using q⟩
  | some v =>
    have q : Q (.bl (decide (v = .non))) H := by simp only [cmpD, hf] at q; exact q
    rw [flat_v hd hf]
    exact ⟨he.non, q⟩
theorem snd_isnN : CmpSnd K (fun x y H Q => y = .non ∧ Q (.bl (!decide (x = .non))) H) (cmpD .isnN) := by
  intro F H d e x y Q s hd he q
  cases e <;> first | exact q.elim | skip
  cases hf : flatD d with
  | none =>
    have q : Q (.bl true) H := by simp only [cmpD, hf] at q; exact q
    obtain ⟨a, rfl⟩ := notFlat hd hf
    exact ⟨he.non, by simpa using q⟩
  | some v =>
    have q : Q (.bl (!decide (v = .non))) H := by simp only [cmpD, hf] at q; exact q
    rw [flat_v hd hf]
    exact ⟨he.non, q⟩
def coOp : CO → CmpOp | .eq => .Eq | .ne => .NotEq | .lt => .Lt | .le => .LtE | .gt => .Gt | .ge => .GtE | .isin => .In | .nin => .NotIn | .isN => .Is | .isnN => .IsNot
theorem op_cmp {X : Cx} (hu : X.A.units + 64 < cLine) : ∀ o : CO, ∃ r, OpR X (compareOp (coOp o)) r ∧ CmpSnd X.K r (cmpD o)
  | .eq => ⟨_, op_eq.or (op_eqD hu), snd_eq⟩
  | .ne => ⟨_, op_ne.or (op_neD hu), snd_ne⟩
  | .lt => ⟨_, op_lt.or op_lt_str, snd_lt⟩
  | .le => ⟨_, op_le, snd_le⟩
  | .gt => ⟨_, op_gt, snd_gt⟩
  | .ge => ⟨_, op_ge, snd_ge⟩
  | .isin => ⟨_, op_in_str.or op_in_seq, snd_in⟩
  | .nin => ⟨_, op_notIn_str.or op_notIn_seq, snd_nin⟩
  | .isN => ⟨_, op_isN, snd_isN⟩
  | .isnN => ⟨_, op_notN, snd_isnN⟩
end
end VI

set_option Elab.async false
set_option linter.all false
set_option autoImplicit false
set_option maxRecDepth 100000
set_option maxHeartbeats 2000000
/-! VCalls: items, slices, built-in functions on data are those of the machine. -/
namespace VI
open PySem PySem.Spec PyProof.Rows L2
section
variable {K : PySem.W.Frag} {F H F1 H1 F2 H2 F' H' : Hp}

/-! ### items -/
theorem atI_rep {xs : List D} {vs : List V} {k : Int} {d : D} (r : Reps K F xs vs) (h : atI xs k = some d) : ∃ v, atI vs k = some v ∧ Rep K F d v := by
  unfold atI at h ⊢
  rw [← r.length]
  cases e : ixN xs.length k with
  | none => rw [e] at h; cases h
  | some j =>
    rw [e] at h
    exact r.get h
theorem snd_idx : ∀ (F H : Hp) (d e : D) (x y : V) (Q : VK), Same F H → RdV K F H d x → RdV K F H e y → (idxD d e).wp (fun z => ∀ F' H' v, Grw F H F' H' → Rep K F' z v → Q v H') → rIx K x y H Q := by
  intro F H d e x y Q s hd he q
  cases d <;> cases e <;> first | exact q.elim | skip
  · obtain ⟨h, q⟩ := R.wp_ite.mp q
    rw [R.wp_bind, R.wp_of] at q
    obtain ⟨c, h2, q⟩ := q
    exact .inr (.inr ⟨_, _, c, hd.str, he.int, of_decide_eq_true h, h2, q F H _ (Grw.refl s) (.str _)⟩)
  · rw [idxD, R.wp_of] at q
    obtain ⟨c, h2, q⟩ := q
    obtain ⟨a, vs, rfl, ht, r⟩ := hd.tup s
    obtain ⟨v, h3, r3⟩ := atI_rep r h2
    exact .inr (.inl ⟨a, vs, _, v, rfl, he.int, ht, h3, q F H _ (Grw.refl s) r3⟩)
  · rw [idxD, R.wp_of] at q
    obtain ⟨c, h2, q⟩ := q
    obtain ⟨a, vs, rfl, ht, r⟩ := hd.lst s
    obtain ⟨v, h3, r3⟩ := atI_rep r h2
    exact .inl ⟨a, vs, _, v, rfl, he.int, SqL.of ht, h3, q F H _ (Grw.refl s) r3⟩
  · rw [idxD, R.wp_of] at q
    obtain ⟨c, h2, q⟩ := q
    obtain ⟨a, vs, rfl, ht, r⟩ := hd.ro s
    obtain ⟨v, h3, r3⟩ := atI_rep r h2
    exact .inl ⟨a, vs, _, v, rfl, he.int, ht, h3, q F H _ (Grw.refl s) r3⟩

/-! ### slices -/
theorem cut_rep {xs : List D} {vs : List V} (r : Reps K F xs vs) (lo hi : Option Int) : Reps K F (cutD xs lo hi) (cutV vs lo hi) := by
  unfold cutD cutV
  rw [← r.length]
  exact (r.drop _).take _
theorem cut_whole {α : Type} (xs : List α) (lo hi : Option Int) (h : HT.sIx xs.length 0 lo = 0 ∧ HT.sIx xs.length xs.length hi = xs.length) : cutD xs lo hi = xs := by
  unfold cutD
  rw [h.1, h.2, List.drop_zero, Nat.sub_zero, List.take_length]
abbrev rSlAll (K : PySem.W.Frag) : V → Option Int → Option Int → Hp → VK → Prop := fun x lo hi H Q => rSlL K x lo hi H Q ∨ rSlA K x lo hi H Q ∨ rSlS x lo hi H Q
theorem snd_slc (F H : Hp) (d : D) (x : V) (lo hi : Option Int) (Q : VK) (s : Same F H) (hd : RdV K F H d x) (q : (slcD d lo hi).wp (fun z => ∀ F' H' v, Grw F H F' H' → VN K H F' H' z.1 z.2 v → Q v H')) : rSlAll K x lo hi H Q := by
  cases d <;> first | exact q.elim | skip
  · obtain ⟨h, q⟩ := R.wp_ite.mp q
    exact .inr (.inr ⟨_, hd.str, of_decide_eq_true h, vn_flat s (.str _) q⟩)
  · rename_i xs
    obtain ⟨a, vs, rfl, ht, r⟩ := hd.tup s
    refine .inr (.inl ⟨a, vs, rfl, ht, fun w => ?_, fun w p hp => ?_⟩)
    · rcases hd with hd | ⟨_, _, z⟩
      · rw [← r.length] at w
        refine vn_flat s ?_ q
        rw [cut_whole _ _ _ w]
        exact hd
      · exact z.elim
    · obtain ⟨g, vn⟩ := grw_tup (K := K) s hp (cut_rep r lo hi)
      exact q _ _ _ g vn
  · obtain ⟨a, vs, rfl, ht, r⟩ := hd.lst s
    refine .inl ⟨a, vs, rfl, SqL.of ht, fun p hp => ?_⟩
    obtain ⟨g, vn⟩ := grw_lst (K := K) s hp (cut_rep r lo hi)
    exact q _ _ _ g vn
  · obtain ⟨a, vs, rfl, ht, r⟩ := hd.ro s
    refine .inl ⟨a, vs, rfl, ht, fun p hp => ?_⟩
    obtain ⟨g, vn⟩ := grw_lst (K := K) s hp (cut_rep r lo hi)
    exact q _ _ _ g vn
  · rename_i xs
    obtain ⟨a, vs, rfl, ht, r⟩ := hd.ptpT.tup s
    refine .inr (.inl ⟨a, vs, rfl, ht, fun w => ?_, fun w p hp => ?_⟩)
    · rcases hd.ptpT with hd | ⟨_, _, z⟩
      · rw [← r.length] at w
        refine vn_flat s ?_ q
        rw [cut_whole _ _ _ w]
        exact hd
      · exact z.elim
    · obtain ⟨g, vn⟩ := grw_tup (K := K) s hp (cut_rep r lo hi)
      exact q _ _ _ g vn
theorem sl_all {X : Cx} : SlR X (rSlAll X.K) := sl_list.or (sl_tupA.or sl_str)

/-! ### built-in functions -/
inductive RdVs (K : PySem.W.Frag) (F H : Hp) : List D → List V → Prop where
  | nil : RdVs K F H [] []
  | cons {d : D} {v : V} {ds : List D} {vs : List V} : RdV K F H d v → RdVs K F H ds vs → RdVs K F H (d :: ds) (v :: vs)
def CallSnd (K : PySem.W.Frag) (r : List V → Hp → VK → Prop) (sem : List D → R (D × Bool)) : Prop :=
  ∀ (F H : Hp) (ds : List D) (vs : List V) (Q : VK), Same F H → RdVs K F H ds vs → (sem ds).wp (fun z => ∀ F' H' v, Grw F H F' H' → VN K H F' H' z.1 z.2 v → Q v H') → r vs H Q
theorem one_of {b : BF} {r : List V → Hp → VK → Prop} (h2 : ∀ d e, bf2 b d e = .no)
    (h : ∀ (F H : Hp) (d : D) (x : V) (Q : VK), Same F H → RdV K F H d x → (bf1 b d).wp (fun z => ∀ F' H' v, Grw F H F' H' → VN K H F' H' z.1 z.2 v → Q v H') → r [x] H Q) : CallSnd K r (bfD b) := by
  intro F H ds vs Q s hd q
  cases hd with
  | nil => exact q.elim
  | cons h1 hr =>
    cases hr with
    | nil => exact h F H _ _ Q s h1 q
    | cons h3 hr =>
      cases hr with
      | nil =>
        have q : (bf2 b _ _).wp _ := q
        rw [h2] at q
        exact q.elim
      | cons _ _ => exact q.elim
theorem two_of {b : BF} {r : List V → Hp → VK → Prop} (h1' : ∀ d, bf1 b d = .no)
    (h : ∀ (F H : Hp) (d e : D) (x y : V) (Q : VK), Same F H → RdV K F H d x → RdV K F H e y → (bf2 b d e).wp (fun z => ∀ F' H' v, Grw F H F' H' → VN K H F' H' z.1 z.2 v → Q v H') → r [x, y] H Q) : CallSnd K r (bfD b) := by
  intro F H ds vs Q s hd q
  cases hd with
  | nil => exact q.elim
  | cons h1 hr =>
    cases hr with
    | nil =>
      have q : (bf1 b _).wp _ := q
      rw [h1'] at q
      exact q.elim
    | cons h3 hr =>
      cases hr with
      | nil => exact h F H _ _ _ _ Q s h1 h3 q
      | cons _ _ => exact q.elim
theorem ints_rep : ∀ {ds : List D} {vs : List V} {ns : List Int}, Reps K F ds vs → intsD ds = some ns → vs = ns.map V.int
  | _, _, _, .nil, e => by cases e; rfl
  | d :: ds, _, ns, .cons h r, e => by
    cases d <;> first | (simp [intsD] at e; done) | skip
    simp only [intsD, Option.map_eq_some_iff] at e
    obtain ⟨ps, h2, rfl⟩ := e
    cases h
    rw [ints_rep r h2]; rfl
theorem bools_rep : ∀ {ds : List D} {vs : List V} {ns : List Bool}, Reps K F ds vs → boolsD ds = some ns → vs = ns.map V.bl
  | _, _, _, .nil, e => by cases e; rfl
  | d :: ds, _, ns, .cons h r, e => by
    cases d <;> first | (simp [boolsD] at e; done) | skip
    simp only [boolsD, Option.map_eq_some_iff] at e
    obtain ⟨ps, h2, rfl⟩ := e
    cases h
    rw [bools_rep r h2]; rfl
theorem call_repr_bool {X : Cx} : CallR X (.builtin "repr") (fun xs H Q => ∃ k, xs = [.bl k] ∧ Q (.str (if k then "True" else "False")) H) := by
  intro pins s σ H xs us Q I r h
  obtain ⟨k, rfl, q⟩ := h
  cases r with
  | cons r rr =>
    cases rr
    cases r
    exact PySem.P.repr_of_bool ⟨.str _, H, I.tok _, ⟨_, rfl⟩, q⟩
theorem call_repr_none {X : Cx} : CallR X (.builtin "repr") (fun xs H Q => xs = [.non] ∧ Q (.str "None") H) := by
  intro pins s σ H xs us Q I r h
  obtain ⟨rfl, q⟩ := h
  cases r with
  | cons r rr =>
    cases rr
    cases r
    exact PySem.P.repr_of_none ⟨.str _, H, I.tok _, ⟨_, rfl⟩, q⟩
theorem call_repr_txt {X : Cx} : CallR X (.builtin "repr") (fun xs H Q => ∃ x, xs = [.str x] ∧ (reprText x).length ≤ sizeLine ∧ Q (.str (reprText x)) H) := by
  intro pins s σ H xs us Q I r h
  obtain ⟨x, rfl, z, q⟩ := h
  cases r with
  | cons r rr =>
    cases rr
    obtain ⟨t, rfl⟩ := r
    exact PySem.P.repr_of_str ⟨.str _, H, I.tok _, ⟨_, rfl⟩, q⟩ z
/-! ### repr of data -/
mutual
theorem toPy_nd : ∀ {d : D} {p : PyData}, toPy d = some p → p.hasDict = false
  | .non, _, h => by cases h; rfl
  | .bl _, _, h => by cases h; rfl
  | .int _, _, h => by cases h; rfl
  | .str _, _, h => by cases h; rfl
  | .tup xs, _, h => by
    simp only [toPy, Option.map_eq_some_iff] at h
    obtain ⟨ps, h1, rfl⟩ := h
    exact toPys_nd h1
  | .lst xs, _, h => by
    simp only [toPy, Option.map_eq_some_iff] at h
    obtain ⟨ps, h1, rfl⟩ := h
    exact toPys_nd h1
  | .ro xs, _, h => by
    simp only [toPy, Option.map_eq_some_iff] at h
    obtain ⟨ps, h1, rfl⟩ := h
    exact toPys_nd h1
  | .dK _, _, h => by simp [toPy] at h
  | .ptp xs, _, h => by
    simp only [toPy, Option.map_eq_some_iff] at h
    obtain ⟨ps, h1, rfl⟩ := h
    exact toPys_nd h1
  | .dT _, _, h => by simp [toPy] at h
theorem toPys_nd : ∀ {ds : List D} {ps : List PyData}, toPys ds = some ps → PyData.hasDictAll ps = false
  | [], _, h => by cases h; rfl
  | d :: ds, _, h => by
    simp only [toPys, Option.bind_eq_some_iff, Option.map_eq_some_iff] at h
    obtain ⟨a, h1, qs, h2, rfl⟩ := h
    show (PyData.hasDict a || PyData.hasDictAll qs) = false
    rw [toPy_nd h1, toPys_nd h2]
    rfl
end
theorem call_reprD {X : Cx} (hg : X.A.guards = some []) (hu : X.A.units + 150 < cLine) : CallR X (.builtin "repr") (fun xs H Q => ∃ a p, xs = [.ref a] ∧ Dp X.K H (.ref a) p ∧ p.hasDict = false ∧ okR p = true ∧ Q (.str p.shown) H) := by
  intro pins s σ H xs us Q I r h
  obtain ⟨a, p, rfl, hd, nd, ok, q⟩ := h
  simp only [okR, Bool.and_eq_true, decide_eq_true_eq] at ok
  cases r with
  | cons rv rr =>
    cases rr
    obtain ⟨as, r1⟩ := Dp.reads I p (.ref a) _ hd rv
    cases rv
    exact repr_of_reads' r1 ok.1.1 (fun z => by rw [nd] at z; cases z) hg (by have := ok.1.2; omega) (fun _ _ z => z) (fun h' u tk k => ⟨.str _, H, I.kept k, ⟨_, rfl⟩, q⟩) ok.2
theorem call_repr {X : Cx} (hg : X.A.guards = some []) (hu : X.A.units + 150 < cLine) : CallR X (.builtin "repr") (fun xs H Q => (∃ k, xs = [.bl k] ∧ Q (.str (if k then "True" else "False")) H) ∨
    (∃ a p, xs = [.ref a] ∧ Dp X.K H (.ref a) p ∧ p.hasDict = false ∧ okR p = true ∧ Q (.str p.shown) H) ∨ (xs = [.non] ∧ Q (.str "None") H) ∨ ∃ x, xs = [.str x] ∧ (reprText x).length ≤ sizeLine ∧ Q (.str (reprText x)) H) := by
  intro pins s σ H xs us Q I r h
  rcases h with h | h | h | h
  · exact call_repr_bool pins s σ H xs us Q I r h
  rotate_left
  · exact call_repr_none pins s σ H xs us Q I r h
  · exact call_repr_txt pins s σ H xs us Q I r h
  · exact call_reprD hg hu pins s σ H xs us Q I r h
def bfName : BF → Str | .len => "len" | .int => "int" | .abs => "abs" | .max2 => "max" | .min2 => "min" | .sum => "sum" | .list => "list" | .tuple => "tuple" | .all => "all" | .repr => "repr" | .str => "str" | .lrng => "list"
def bfVal : BF → Value | .len => .builtin "len" | .int => .type "int" | .abs => .builtin "abs" | .max2 => .builtin "max" | .min2 => .builtin "min" | .sum => .builtin "sum" | .list => .type "list" | .tuple => .type "tuple" | .all => .builtin "all" | .repr => .builtin "repr" | .str => .type "str" | .lrng => .type "list"
theorem bf_boot : ∀ b : BF, bootBuiltins (bfName b) = some (bfVal b) := fun b => by cases b <;> decide +kernel
theorem cr_bf {X : Cx} (hc : X.calm = true) (hg : X.A.guards = some []) (hu : X.A.units + 150 < cLine) : ∀ b : BF, b ≠ .lrng → ∃ r, CallR X (bfVal b) r ∧ CallSnd X.K r (bfD b)
  | .len, _ => ⟨_, call_len, one_of (fun _ _ => rfl) fun F H d x Q s hd q => by
      cases d <;> first | exact q.elim | skip
      · obtain ⟨h, q⟩ := R.wp_ite.mp q
        obtain rfl := hd.str
        exact ⟨_, _, rfl, ⟨of_decide_eq_true h, rfl⟩, vn_flat s (.int _) q⟩
      · obtain ⟨a, vs, rfl, ht, r⟩ := hd.tup s
        exact ⟨_, _, rfl, .inr ⟨vs, ht, r.length⟩, vn_flat s (.int _) q⟩
      · obtain ⟨a, vs, rfl, ht, r⟩ := hd.lst s
        exact ⟨_, _, rfl, .inl ⟨vs, SqL.of ht, r.length⟩, vn_flat s (.int _) q⟩
      · obtain ⟨a, vs, rfl, ht, r⟩ := hd.ro s
        exact ⟨_, _, rfl, .inl ⟨vs, ht, r.length⟩, vn_flat s (.int _) q⟩⟩
  | .int, _ => ⟨_, call_int1, one_of (fun _ _ => rfl) fun F H d x Q s hd q => by
      cases d <;> first | exact q.elim | skip
      · obtain rfl := hd.bl
        exact .inr ⟨_, rfl, vn_flat s (.int _) q⟩
      · obtain rfl := hd.int
        exact .inl ⟨_, rfl, vn_flat s (.int _) q⟩⟩
  | .abs, _ => ⟨_, call_abs, one_of (fun _ _ => rfl) fun F H d x Q s hd q => by
      cases d <;> first | exact q.elim | skip
      obtain rfl := hd.int
      exact ⟨_, rfl, vn_flat s (.int _) q⟩⟩
  | .max2, _ => ⟨_, call_max2 hc, two_of (fun _ => rfl) fun F H d e x y Q s hd he q => by
      cases d <;> cases e <;> first | exact q.elim | skip
      obtain rfl := hd.int
      obtain rfl := he.int
      exact ⟨_, _, rfl, vn_flat s (.int _) q⟩⟩
  | .min2, _ => ⟨_, call_min2 hc, two_of (fun _ => rfl) fun F H d e x y Q s hd he q => by
      cases d <;> cases e <;> first | exact q.elim | skip
      obtain rfl := hd.int
      obtain rfl := he.int
      exact ⟨_, _, rfl, vn_flat s (.int _) q⟩⟩
  | .sum, _ => ⟨_, cr_sum hc, one_of (fun _ _ => rfl) fun F H d x Q s hd q => by
      cases d <;> first | exact q.elim | skip
      have q := q
      simp only [bf1] at q
      rw [R.wp_bind, R.wp_of] at q
      obtain ⟨ns, h, q⟩ := q
      obtain ⟨a, vs, rfl, ht, r⟩ := hd.lst s
      exact ⟨a, ns, rfl, by rw [← ints_rep r h]; exact SqL.of ht, vn_flat s (.int _) q⟩⟩
  | .list, _ => ⟨_, call_list_of, one_of (fun _ _ => rfl) fun F H d x Q s hd q => by
      cases d <;> first | exact q.elim | skip
      · obtain ⟨a, vs, rfl, ht, r⟩ := hd.tup s
        refine ⟨a, vs, rfl, .inr ht, fun p hp => ?_⟩
        obtain ⟨g, vn⟩ := grw_lst (K := X.K) s hp r
        exact q _ _ _ g vn
      · obtain ⟨a, vs, rfl, ht, r⟩ := hd.lst s
        refine ⟨a, vs, rfl, .inl (SqL.of ht), fun p hp => ?_⟩
        obtain ⟨g, vn⟩ := grw_lst (K := X.K) s hp r
        exact q _ _ _ g vn⟩
  | .tuple, _ => ⟨_, call_tuple_of, one_of (fun _ _ => rfl) fun F H d x Q s hd q => by
      cases d <;> first | exact q.elim | skip
      · obtain ⟨a, vs, rfl, ht, r⟩ := hd.tup s
        refine ⟨a, vs, rfl, .inr ⟨ht, ?_⟩⟩
        rcases hd with hd | ⟨_, _, z⟩
        · exact vn_flat s hd q
        · exact z.elim
      · obtain ⟨a, vs, rfl, ht, r⟩ := hd.lst s
        refine ⟨a, vs, rfl, .inl ⟨SqL.of ht, fun p hp => ?_⟩⟩
        obtain ⟨g, vn⟩ := grw_tup (K := X.K) s hp r
        exact q _ _ _ g vn⟩
  | .all, _ => ⟨_, cr_all hc, one_of (fun _ _ => rfl) fun F H d x Q s hd q => by
      cases d <;> first | exact q.elim | skip
      simp only [bf1] at q
      rw [R.wp_bind, R.wp_of] at q
      obtain ⟨ns, h, q⟩ := q
      obtain ⟨a, vs, rfl, ht, r⟩ := hd.lst s
      exact ⟨a, ns, rfl, by rw [← bools_rep r h]; exact SqL.of ht, vn_flat s (.bl _) q⟩⟩
  | .repr, _ => ⟨_, call_repr hg hu, one_of (fun _ _ => rfl) fun F H d x Q s hd q => by
      cases d <;> first | exact q.elim | skip
      · obtain rfl := hd.non
        exact .inr (.inr (.inl ⟨rfl, vn_flat s (.str _) q⟩))
      · obtain rfl := hd.bl
        exact .inl ⟨_, rfl, vn_flat s (.str _) q⟩
      · obtain ⟨h, q⟩ := R.wp_ite.mp q
        obtain rfl := hd.str
        exact .inr (.inr (.inr ⟨_, rfl, of_decide_eq_true h, vn_flat s (.str _) q⟩))
      · obtain ⟨a, vs, rfl, _, _⟩ := hd.tup s
        have q : ((R.of (toPy (D.tup _))).bind fun p => R.ite (okR p) (R.ok (D.str p.shown, false))).wp _ := q
        rw [R.wp_bind, R.wp_of] at q
        obtain ⟨p, h1, q⟩ := q
        obtain ⟨h2, q⟩ := R.wp_ite.mp q
        exact .inr (.inl ⟨a, p, rfl, hd.dp s h1, toPy_nd h1, h2, vn_flat s (.str _) q⟩)
      · obtain ⟨a, vs, rfl, _, _⟩ := hd.lst s
        have q : ((R.of (toPy (D.lst _))).bind fun p => R.ite (okR p) (R.ok (D.str p.shown, false))).wp _ := q
        rw [R.wp_bind, R.wp_of] at q
        obtain ⟨p, h1, q⟩ := q
        obtain ⟨h2, q⟩ := R.wp_ite.mp q
        exact .inr (.inl ⟨a, p, rfl, hd.dp s h1, toPy_nd h1, h2, vn_flat s (.str _) q⟩)
      · obtain ⟨a, vs, rfl, _, _⟩ := hd.ptpT.tup s
        have q : ((R.of (toPy (D.ptp _))).bind fun p => R.ite (okR p) (R.ok (D.str p.shown, false))).wp _ := q
        rw [R.wp_bind, R.wp_of] at q
        obtain ⟨p, h1, q⟩ := q
        obtain ⟨h2, q⟩ := R.wp_ite.mp q
        exact .inr (.inl ⟨a, p, rfl, hd.dp s h1, toPy_nd h1, h2, vn_flat s (.str _) q⟩)⟩
  | .str, _ => ⟨_, call_str_int, one_of (fun _ _ => rfl) fun F H d x Q s hd q => by
      cases d <;> first | exact q.elim | skip
      obtain ⟨h, q⟩ := R.wp_ite.mp q
      obtain rfl := hd.int
      exact ⟨_, rfl, of_decide_eq_true h, vn_flat s (.str _) q⟩⟩
  | .lrng, h => absurd rfl h
/-! ### isinstance -/
def tyName : TyN → String | .str => "str" | .tup => "tuple" | .bool => "bool" | .int => "int"
def tyStr : TyN → Str | .str => "str" | .tup => "tuple" | .bool => "bool" | .int => "int"
theorem ty_boot : ∀ t : TyN, bootBuiltins (tyStr t) = some (.type (tyName t)) := fun t => by cases t <;> decide +kernel
theorem sqT_ty {a : Addr} {vs : List V} (h : SqT K H a vs) : TyX K H (.ref a) (.type "tuple") := by
  rcases h with (h | ⟨o, h⟩) | ⟨o, its, n, h, c, _⟩
  · exact .base (.tup h)
  · exact .fTuple h
  · exact .kTuple h c
theorem sqL_ty {a : Addr} {vs : List V} (h : SqL K H a vs) : TyX K H (.ref a) (.type "list") := by
  rcases h with (h | ⟨o, h⟩) | ⟨o, its, n, h, c, _⟩
  · exact .base (.lst h)
  · exact .base (.frz h)
  · exact .kList h c
theorem snd_isi (s : Same F H) {d : D} {x : V} (t : TyN) (hd : RdV K F H d x) : ∃ u, TyX K H x u ∧ PySem.W.kitOne K u (.type (tyName t)) = some (isiD t d) := by
  cases d with
  | non => obtain rfl := hd.non; exact ⟨_, .base .non, kit_ty (by cases t <;> first | (show kitB _ _ = some false; decide +kernel) | (show kitB _ _ = some true; decide +kernel))⟩
  | bl b => obtain rfl := hd.bl; exact ⟨_, .base (.bl _), kit_ty (by cases t <;> first | (show kitB _ _ = some false; decide +kernel) | (show kitB _ _ = some true; decide +kernel))⟩
  | int b => obtain rfl := hd.int; exact ⟨_, .base (.int _), kit_ty (by cases t <;> first | (show kitB _ _ = some false; decide +kernel) | (show kitB _ _ = some true; decide +kernel))⟩
  | str b => obtain rfl := hd.str; exact ⟨_, .base (.str _), kit_ty (by cases t <;> first | (show kitB _ _ = some false; decide +kernel) | (show kitB _ _ = some true; decide +kernel))⟩
  | tup xs => obtain ⟨a, vs, rfl, ht, r⟩ := hd.tup s; exact ⟨_, sqT_ty ht, kit_ty (by cases t <;> first | (show kitB _ _ = some false; decide +kernel) | (show kitB _ _ = some true; decide +kernel))⟩
  | lst xs => obtain ⟨a, vs, rfl, ht, r⟩ := hd.lst s; exact ⟨_, .base (.lst ht), kit_ty (by cases t <;> first | (show kitB _ _ = some false; decide +kernel) | (show kitB _ _ = some true; decide +kernel))⟩
  | dK xs => obtain ⟨a, vs, rfl, ht, r⟩ := hd.dK s; exact ⟨_, .base (.dK ht), kit_ty (by cases t <;> first | (show kitB _ _ = some false; decide +kernel) | (show kitB _ _ = some true; decide +kernel))⟩
  | dT xs => obtain ⟨a, vs, rfl, ht, r⟩ := hd.dT s; exact ⟨_, .base (.dT ht), kit_ty (by cases t <;> first | (show kitB _ _ = some false; decide +kernel) | (show kitB _ _ = some true; decide +kernel))⟩
  | ptp xs => obtain ⟨a, vs, rfl, ht, r⟩ := hd.ptpT.tup s; exact ⟨_, sqT_ty ht, kit_ty (by cases t <;> first | (show kitB _ _ = some false; decide +kernel) | (show kitB _ _ = some true; decide +kernel))⟩
  | ro xs => obtain ⟨a, vs, rfl, ht, r⟩ := hd.ro s; exact ⟨_, sqL_ty ht, kit_ty (by cases t <;> first | (show kitB _ _ = some false; decide +kernel) | (show kitB _ _ = some true; decide +kernel))⟩
end
end VI

set_option Elab.async false
set_option linter.all false
set_option autoImplicit false
set_option maxRecDepth 100000
set_option maxHeartbeats 2000000
/-! VStep: a call's arguments and its end, by steps. -/
namespace VI
open PySem PySem.Spec PyProof.Rows L2
variable {K : PySem.W.Frag} {F H F1 H1 F2 H2 F' H' : Hp} {ρ ρ1 ρ2 ρ' : EnvD} {σ : L2.St}

def IsTmp (o : Opd) (v : V) (a : Addr) : Prop := ∃ d, o = .val d true ∧ v = .ref a
def InTmp (os : List Opd) (vs : List V) (a : Addr) : Prop := ∃ (i : Nat) (d : D), os[i]? = some (.val d true) ∧ vs[i]? = some (.ref a)
/-- the temporaries stand apart -/
inductive Tds : List Opd → List V → Prop where
  | nil : Tds [] []
  | cons {o : Opd} {v : V} {os : List Opd} {vs : List V} : (∀ a, IsTmp o v a → ¬ InTmp os vs a) → Tds os vs → Tds (o :: os) (v :: vs)
theorem Nws.tmp {os : List Opd} {vs : List V} {a : Addr} (h : Nws H os vs) (t : InTmp os vs a) : H a = none := by
  induction h with
  | nil => obtain ⟨i, d, h, _⟩ := t; simp at h
  | cons h _ ih =>
    obtain ⟨i, d, e1, e2⟩ := t
    cases i with
    | zero =>
      simp at e1 e2
      subst e1 e2
      exact h
    | succ i => exact ih ⟨i, d, by simpa using e1, by simpa using e2⟩
theorem Tds.dis {os : List Opd} {vs : List V} (h : Tds os vs) : ∀ (i j : Nat) (d e : D) (a : Addr), os[i]? = some (.val d true) → os[j]? = some (.val e true) → vs[i]? = some (.ref a) → vs[j]? = some (.ref a) → i = j := by
  induction h with
  | nil => intro i j d e a h1; simp at h1
  | cons h _ ih =>
    intro i j d e a h1 h2 h3 h4
    cases i with
    | zero =>
      cases j with
      | zero => rfl
      | succ j =>
        simp at h1 h3
        exact absurd ⟨j, e, by simpa using h2, by simpa using h4⟩ (h a ⟨d, h1, h3⟩)
    | succ i =>
      cases j with
      | zero =>
        simp at h2 h4
        exact absurd ⟨i, d, by simpa using h1, by simpa using h3⟩ (h a ⟨e, h2, h4⟩)
      | succ j => rw [ih i j d e a (by simpa using h1) (by simpa using h2) (by simpa using h3) (by simpa using h4)]
/-- the first operand's temporary stands in H1, the rest's are newer -/
theorem Tds.join {o : Opd} {v : V} {os : List Opd} {vs : List V} (h1 : OR K F1 H1 ρ1 σ o v) (n : Nws H1 os vs) (t : Tds os vs) : Tds (o :: os) (v :: vs) := by
  refine .cons (fun a ⟨d, e1, e2⟩ q => ?_) t
  subst e1 e2
  obtain ⟨b, e, ow, _⟩ := h1
  cases e
  obtain ⟨u, hu⟩ := ow.hS
  exact not_none hu (n.tmp q)
theorem ORs.length {os : List Opd} {vs : List V} (h : ORs K F H ρ σ os vs) : os.length = vs.length := by
  induction h with
  | nil => rfl
  | cons _ _ ih => simp [ih]
theorem ORs.get {os : List Opd} {vs : List V} (h : ORs K F H ρ σ os vs) : ∀ {i : Nat} {o : Opd}, os[i]? = some o → ∃ v, vs[i]? = some v ∧ OR K F H ρ σ o v := by
  induction h with
  | nil => intro i o e; simp at e
  | cons h _ ih =>
    intro i o e
    cases i with
    | zero => simp at e; subst e; exact ⟨_, rfl, h⟩
    | succ i =>
      obtain ⟨v, e1, q⟩ := ih (i := i) (by simpa using e)
      exact ⟨v, by simpa using e1, q⟩
/-- an argument by its operand -/
theorem argsD_get {as : List (D × Bool)} : ∀ {os : List Opd} {as : List (D × Bool)}, argsD ρ os = .ok as → as.length = os.length ∧ ∀ (i : Nat) (o : Opd), os[i]? = some o → match o with
    | .slot j => ∃ d, ρ[j]? = some (some (d, true)) ∧ as[i]? = some (d, true)
    | .val d fr => as[i]? = some (d, fr)
  | [], as, h => by cases h; exact ⟨rfl, fun i o e => by simp at e⟩
  | .slot j :: os, as, h => by
    simp only [argsD] at h
    cases g : getD? ρ j with
    | none => rw [g] at h; cases h
    | some x =>
      rw [g] at h
      obtain ⟨d, fr⟩ := x
      cases fr with
      | false => cases h
      | true =>
        have h : ((argsD ρ os).bind fun xs => R.ok ((d, true) :: xs)) = .ok as := h
        cases q : argsD ρ os with
        | no => rw [q] at h; cases h
        | ok xs =>
          rw [q] at h
          cases h
          obtain ⟨l, ih⟩ := argsD_get (as := as) q
          refine ⟨by simp [l], fun i o e => ?_⟩
          cases i with
          | zero => simp at e; subst e; exact ⟨d, getD?_some g, rfl⟩
          | succ i => have := ih i o (by simpa using e); cases o <;> simpa using this
  | .val d fr :: os, as, h => by
    simp only [argsD] at h
    cases q : argsD ρ os with
    | no => rw [q] at h; cases h
    | ok xs =>
      rw [q] at h
      cases h
      obtain ⟨l, ih⟩ := argsD_get (as := as) q
      refine ⟨by simp [l], fun i o e => ?_⟩
      cases i with
      | zero => simp at e; subst e; rfl
      | succ i => have := ih i o (by simpa using e); cases o <;> simpa using this
theorem slotsOf_get : ∀ {os : List Opd}, nodupB (slotsOf os) = true → ∀ (i j k : Nat), os[i]? = some (.slot k) → os[j]? = some (.slot k) → i = j
  | [], _, i, j, k, h, _ => by simp at h
  | o :: os, nd, i, j, k, h1, h2 => by
    have mem : ∀ {os : List Opd} {i k : Nat}, os[i]? = some (.slot k) → (slotsOf os).contains k = true := by
      intro os
      induction os with
      | nil => intro i k h; simp at h
      | cons o os ih =>
        intro i k h
        cases i with
        | zero => simp at h; subst h; simp [slotsOf]
        | succ i =>
          have := ih (i := i) (k := k) (by simpa using h)
          cases o with
          | slot m => simp only [slotsOf, List.contains_cons, this, Bool.or_true]
          | val _ _ => exact this
    have tl : nodupB (slotsOf os) = true := by
      cases o with
      | slot m => simp only [slotsOf, nodupB, Bool.and_eq_true] at nd; exact nd.2
      | val _ _ => exact nd
    have hd : ∀ m, o = .slot m → (slotsOf os).contains m = false := fun m e => by
      subst e
      simp only [slotsOf, nodupB, Bool.and_eq_true, Bool.not_eq_true'] at nd
      exact nd.1
    cases i with
    | zero =>
      cases j with
      | zero => rfl
      | succ j =>
        simp at h1
        have := mem (i := j) (k := k) (by simpa using h2)
        rw [hd k h1] at this; cases this
    | succ i =>
      cases j with
      | zero =>
        simp at h2
        have := mem (i := i) (k := k) (by simpa using h1)
        rw [hd k h2] at this; cases this
      | succ j => rw [slotsOf_get tl i j k (by simpa using h1) (by simpa using h2)]
/-- a slot behind a call -/
theorem putBack_get : ∀ {os : List Opd} {xs : List (D × Bool)} {ρ : EnvD}, xs.length = os.length → nodupB (slotsOf os) = true → ∀ (k : Nat),
    (∃ (i : Nat) (x : D × Bool), os[i]? = some (.slot k) ∧ xs[i]? = some x ∧ ((putBack os xs ρ)[k]? = some (some x) ∨ ρ.length ≤ k)) ∨ ((∀ (i : Nat), os[i]? ≠ some (Opd.slot k)) ∧ (putBack os xs ρ)[k]? = ρ[k]?)
  | [], [], ρ, _, _, k => .inr ⟨fun i => by simp, rfl⟩
  | [], _ :: _, _, h, _, _ => by simp at h
  | _ :: _, [], _, h, _, _ => by simp at h
  | .val d fr :: os, x :: xs, ρ, h, nd, k => by
    rcases putBack_get (os := os) (xs := xs) (ρ := ρ) (by simpa using h) nd k with ⟨i, y, h1, h2, h3⟩ | ⟨h1, h2⟩
    · exact .inl ⟨i + 1, y, by simpa using h1, by simpa using h2, h3⟩
    · refine .inr ⟨fun i => ?_, h2⟩
      cases i with
      | zero => simp
      | succ i => simpa using h1 i
  | .slot m :: os, x :: xs, ρ, h, nd, k => by
    have nd' : nodupB (slotsOf os) = true := by simp only [slotsOf, nodupB, Bool.and_eq_true] at nd; exact nd.2
    by_cases hk : m = k
    · subst hk
      refine .inl ⟨0, x, rfl, rfl, ?_⟩
      rcases putBack_get (os := os) (xs := xs) (ρ := ρ.set m (some x)) (by simpa using h) nd' m with ⟨i, y, h1, _⟩ | ⟨h1, h2⟩
      · have := slotsOf_get nd 0 (i + 1) m rfl (by simpa using h1)
        cases this
      · by_cases hm : m < ρ.length
        · exact .inl (by rw [show putBack (.slot m :: os) (x :: xs) ρ = putBack os xs (ρ.set m (some x)) from rfl, h2, List.getElem?_set_self hm])
        · exact .inr (by omega)
    · rcases putBack_get (os := os) (xs := xs) (ρ := ρ.set m (some x)) (by simpa using h) nd' k with ⟨i, y, h1, h2, h3⟩ | ⟨h1, h2⟩
      · refine .inl ⟨i + 1, y, by simpa using h1, by simpa using h2, ?_⟩
        rcases h3 with h3 | h3
        · exact .inl h3
        · exact .inr (by simpa using h3)
      · refine .inr ⟨fun i => ?_, by rw [show putBack (.slot m :: os) (x :: xs) ρ = putBack os xs (ρ.set m (some x)) from rfl, h2, getset_ne hk]⟩
        cases i with
        | zero => simp; exact hk
        | succ i => simpa using h1 i
theorem putBack_length : ∀ {os : List Opd} {xs : List (D × Bool)} {ρ : EnvD}, (putBack os xs ρ).length = ρ.length
  | [], _, _ => by unfold putBack; rfl
  | .val _ _ :: os, [], _ => rfl
  | .slot _ :: os, [], _ => rfl
  | .val _ _ :: os, _ :: xs, ρ => putBack_length (os := os) (xs := xs) (ρ := ρ)
  | .slot m :: os, x :: xs, ρ => by
    show (putBack os xs (ρ.set m (some x))).length = _
    rw [putBack_length, List.length_set]

/-- lists as slots -/
theorem map_get {α : Type} {l : List α} {i : Nat} {x : α} : (l.map some)[i]? = some (some x) ↔ l[i]? = some x := by
  rw [List.getElem?_map]
  cases l[i]? with
  | none => simp
  | some y => simp
theorem map_get_none {α : Type} {l : List α} {i : Nat} : (l.map some)[i]? ≠ some none := by
  rw [List.getElem?_map]
  cases l[i]? <;> simp
abbrev AsE (as : List (D × Bool)) : EnvD := as.map some
abbrev VsS (vs : List V) : L2.St := vs.map some
/-- the arguments of a call are related as slots are -/
theorem args_erel {os : List Opd} {vs : List V} {as : List (D × Bool)} (er : ERel K F H ρ σ) (h : ORs K F H ρ σ os vs) (t : Tds os vs) (nd : nodupB (slotsOf os) = true) (ha : argsD ρ os = .ok as) :
    ERel K F H (AsE as) (VsS vs) := by
  obtain ⟨l, g⟩ := argsD_get (as := as) ha
  have src : ∀ (i : Nat) (d : D) (fr : Bool), as[i]? = some (d, fr) → ∃ v, vs[i]? = some v ∧ ((fr = true ∧ ∃ k, os[i]? = some (.slot k) ∧ ρ[k]? = some (some (d, true)) ∧ σ[k]? = some (some v)) ∨ (os[i]? = some (.val d fr) ∧ VR K F H ρ σ d fr v)) := fun i d fr e => by
    have hi : i < os.length := by rw [← l]; exact (List.getElem?_eq_some_iff.mp e).1
    have ho : os[i]? = some os[i] := List.getElem?_eq_getElem hi
    obtain ⟨v, e1, q⟩ := h.get ho
    refine ⟨v, e1, ?_⟩
    have gi := g i _ ho
    generalize os[i] = o at ho q gi
    cases o with
    | slot k =>
      obtain ⟨d', h1, h2⟩ := gi
      rw [e] at h2; cases h2
      exact .inl ⟨rfl, k, ho, h1, q.1⟩
    | val d' fr' =>
      have gi : as[i]? = some (d', fr') := gi
      rw [e] at gi; cases gi
      exact .inr ⟨ho, q⟩
  refine ⟨by rw [List.length_map, List.length_map, l, h.length], fun i d e => ?_, fun i d e => ?_, fun i j d e a h1 h2 h3 h4 => ?_⟩
  · obtain ⟨v, e1, ⟨z, _⟩ | ⟨_, q⟩⟩ := src i d false (map_get.mp e)
    · cases z
    · exact ⟨v, map_get.mpr e1, q⟩
  · obtain ⟨v, e1, ⟨_, k, _, h1, h2⟩ | ⟨_, a, rfl, ow, _⟩⟩ := src i d true (map_get.mp e)
    · obtain ⟨a, h3, ow⟩ := er.own k d h1
      rw [h2] at h3; cases h3
      exact ⟨a, map_get.mpr e1, ow⟩
    · exact ⟨a, map_get.mpr e1, ow⟩
  · obtain ⟨v, e1, c1⟩ := src i d true (map_get.mp h1)
    obtain ⟨u, e2, c2⟩ := src j e true (map_get.mp h2)
    rw [map_get.mp h3] at e1; cases e1
    rw [map_get.mp h4] at e2; cases e2
    rcases c1 with ⟨_, k, o1, r1, s1⟩ | ⟨o1, b, eb, ow, no⟩
    · rcases c2 with ⟨_, m, o2, r2, s2⟩ | ⟨o2, b, eb, ow, no⟩
      · have := er.dis k m d e a r1 r2 s1 s2
        subst this
        exact slotsOf_get nd i j k o1 o2
      · cases eb
        exact absurd ⟨k, d, r1, s1⟩ no
    · cases eb
      rcases c2 with ⟨_, m, o2, r2, s2⟩ | ⟨o2, b, eb, ow2, _⟩
      · exact absurd ⟨m, e, r2, s2⟩ no
      · exact t.dis i j d e a o1 o2 (map_get.mp h3) (map_get.mp h4)
/-- an owned argument: a slot of the caller's, or a temporary -/
theorem ownA_src {os : List Opd} {vs : List V} {as : List (D × Bool)} {a : Addr} (h : ORs K F H ρ σ os vs) (ha : argsD ρ os = .ok as) (o : OwnAt (AsE as) (VsS vs) a) : OwnAt ρ σ a ∨ InTmp os vs a := by
  obtain ⟨l, g⟩ := argsD_get (as := as) ha
  obtain ⟨i, d, e1, e2⟩ := o
  have e1 := map_get.mp e1
  have e2 := map_get.mp e2
  have hi : i < os.length := by rw [← l]; exact (List.getElem?_eq_some_iff.mp e1).1
  have ho : os[i]? = some os[i] := List.getElem?_eq_getElem hi
  obtain ⟨v, e3, q⟩ := h.get ho
  rw [e2] at e3; cases e3
  have gi := g i _ ho
  generalize os[i] = o at ho q gi
  cases o with
  | slot k =>
    obtain ⟨d', h1, h2⟩ := gi
    exact .inl ⟨k, d', h1, q.1⟩
  | val d' fr' =>
    have gi : as[i]? = some (d', fr') := gi
    rw [e1] at gi; cases gi
    exact .inr ⟨i, d, ho, e2⟩
/-- behind a call -/
theorem call_step {os : List Opd} {vs : List V} {as bs : List (D × Bool)} {d : D} {fr : Bool} {v : V} (se : SE K σ F H ρ F1 H1 ρ1) (h : ORs K F1 H1 ρ1 σ os vs) (nw : Nws H os vs) (t : Tds os vs) (nd : nodupB (slotsOf os) = true) (ha : argsD ρ1 os = .ok as)
    (hl : bs.length = os.length) (st : Stp K F1 H1 (AsE as) (VsS vs) F2 H2 (AsE bs) (VsS vs)) (vr : VR K F2 H2 (AsE bs) (VsS vs) d fr v) (vn : Nw H1 (.val d fr) v) :
    SE K σ F H ρ F2 H2 (putBack os bs ρ1) ∧ VR K F2 H2 (putBack os bs ρ1) σ d fr v ∧ Nw H (.val d fr) v := by
  obtain ⟨l, g⟩ := argsD_get (as := as) ha
  have er := se.st.er
  -- a slot behind the call
  have back : ∀ (k : Nat) (d' : D) (fr' : Bool), (putBack os bs ρ1)[k]? = some (some (d', fr')) → (∃ (i : Nat) (dk : D), os[i]? = some (.slot k) ∧ bs[i]? = some (d', fr') ∧ ρ1[k]? = some (some (dk, true)) ∧ ∃ w, vs[i]? = some w ∧ σ[k]? = some (some w)) ∨ ((∀ (i : Nat), os[i]? ≠ some (Opd.slot k)) ∧ ρ1[k]? = some (some (d', fr'))) := fun k d' fr' e => by
    rcases putBack_get (os := os) (xs := bs) (ρ := ρ1) hl nd k with ⟨i, y, h1, h2, h3⟩ | ⟨h1, h2⟩
    · rcases h3 with h3 | h3
      · rw [e] at h3; cases h3
        obtain ⟨w, e3, q⟩ := h.get h1
        obtain ⟨dk, h4, _⟩ := g i _ h1
        exact .inl ⟨i, dk, h1, h2, h4, w, e3, q.1⟩
      · rw [List.getElem?_eq_none (by rw [putBack_length]; exact h3)] at e; cases e
    · rw [h2] at e
      exact .inr ⟨h1, e⟩
  -- a slot that is no argument keeps its container
  have apart : ∀ (k : Nat) (d' : D) (a : Addr), (∀ (i : Nat), os[i]? ≠ some (Opd.slot k)) → ρ1[k]? = some (some (d', true)) → σ[k]? = some (some (V.ref a)) → ¬ OwnAt (AsE as) (VsS vs) a := fun k d' a hk h1 h2 o => by
    obtain ⟨i, dd, e1, e2⟩ := o
    have e1 := map_get.mp e1
    have e2 := map_get.mp e2
    have hi : i < os.length := by rw [← l]; exact (List.getElem?_eq_some_iff.mp e1).1
    have ho : os[i]? = some os[i] := List.getElem?_eq_getElem hi
    obtain ⟨w, e3, q⟩ := h.get ho
    rw [e2] at e3; cases e3
    have gi := g i _ ho
    generalize os[i] = o at ho q gi
    cases o with
    | slot m =>
      obtain ⟨dm, h3, h4⟩ := gi
      have := er.dis k m d' dm a h1 h3 h2 q.1
      subst this
      exact hk i ho
    | val d2 fr2 =>
      have gi : as[i]? = some (d2, fr2) := gi
      rw [e1] at gi; cases gi
      obtain ⟨b, eb, _, no⟩ := q
      cases eb
      exact no ⟨k, d', h1, h2⟩
  have ownB : ∀ (k : Nat) (d' : D), (putBack os bs ρ1)[k]? = some (some (d', true)) → ∃ dk, ρ1[k]? = some (some (dk, true)) := fun k d' e => by
    rcases back k d' true e with ⟨i, dk, _, _, h4, _⟩ | ⟨_, h2⟩
    · exact ⟨dk, h4⟩
    · exact ⟨d', h2⟩
  have os' : ∀ b, OwnAt (putBack os bs ρ1) σ b → OwnAt ρ1 σ b := fun b ⟨k, d', e1, e2⟩ => by
    obtain ⟨dk, h⟩ := ownB k d' e1
    exact ⟨k, dk, h, e2⟩
  refine ⟨⟨⟨se.st.ff.trans st.ff, st.fh, ⟨by rw [putBack_length]; exact er.len, fun k d' e => ?_, fun k d' e => ?_, fun i j x y a h1 h2 h3 h4 => ?_⟩, fun b o h1 bx h2 h3 => ?_, fun b o => se.st.os b (os' b o), fun b o e => ?_⟩, fun k x e => ?_⟩, ?_, vn.back se.st.gr⟩
  · rcases back k d' false e with ⟨i, dk, h1, h2, h4, w, e3, e4⟩ | ⟨_, h2⟩
    · obtain ⟨w', e5, r⟩ := st.er.frz i d' (map_get.mpr h2)
      have e5 := map_get.mp e5
      rw [e3] at e5; cases e5
      exact ⟨w, e4, r⟩
    · obtain ⟨w, e5, r⟩ := er.frz k d' h2
      exact ⟨w, e5, r.mono st.ff⟩
  · rcases back k d' true e with ⟨i, dk, h1, h2, h4, w, e3, e4⟩ | ⟨hk, h2⟩
    · obtain ⟨a, e5, r⟩ := st.er.own i d' (map_get.mpr h2)
      have e5 := map_get.mp e5
      rw [e3] at e5; cases e5
      exact ⟨a, e4, r⟩
    · obtain ⟨a, e5, ow⟩ := er.own k d' h2
      obtain ⟨o, ho, bx⟩ := ow.hB
      have no := apart k d' a hk h2 e5
      exact ⟨a, e5, ow.keep st.ff (fun u q => by rw [ho] at q; cases q; exact (st.fr a o ho bx ow.nF no).1) (st.fr a o ho bx ow.nF no).2⟩
  · obtain ⟨dk, g1⟩ := ownB i x h1
    obtain ⟨dm, g2⟩ := ownB j y h2
    exact er.dis i j dk dm a g1 g2 h3 h4
  · obtain ⟨h4, h5⟩ := se.st.fr b o h1 bx h2 h3
    refine st.fr b o h4 bx h5 fun z => ?_
    rcases ownA_src h ha z with z | z
    · exact (se.st.os b z).elim h3 fun q => not_none h1 q
    · exact not_none h1 (nw.tmp z)
  · obtain ⟨o1, h1⟩ := se.st.gr b o e
    exact st.gr b o1 h1
  · obtain ⟨y, hy⟩ := se.dm k x e
    rcases putBack_get (os := os) (xs := bs) (ρ := ρ1) hl nd k with ⟨i, z, h1, h2, h3⟩ | ⟨h1, h2⟩
    · rcases h3 with h3 | h3
      · exact ⟨z, h3⟩
      · rw [List.getElem?_eq_none h3] at hy; cases hy
    · exact ⟨y, by rw [h2]; exact hy⟩
  · cases fr with
    | false => exact vr
    | true =>
      obtain ⟨a, rfl, ow, no⟩ := vr
      refine ⟨a, rfl, ow, fun z => ?_⟩
      obtain ⟨k, dk, e1, e2⟩ := os' a z
      obtain ⟨c, e3, ow'⟩ := er.own k dk e1
      rw [e2] at e3; cases e3
      obtain ⟨o, ho⟩ := ow'.hS
      exact not_none ho vn
end VI

set_option Elab.async false
set_option linter.all false
set_option autoImplicit false
set_option maxRecDepth 100000
set_option maxHeartbeats 4000000
/-! VSnd: what an expression's run yields is what the machine yields: the parts joined. -/
namespace VI
open PySem PySem.Spec PyProof.Rows L2
variable {X : Cx} {F H F1 H1 F2 H2 F' H' : Hp} {ρ ρ1 ρ2 ρ' : EnvD} {σ : L2.St} {pos : Pos} {a b c : Expr} {es : List Expr}

/-- argument lists, with the temporaries apart -/
def tAr (K : PySem.W.Frag) (f : EnvD → R (List Opd × EnvD)) : TA := fun σ H Q =>
  ∃ F ρ, Same F H ∧ ERel K F H ρ σ ∧ (f ρ).wp fun r => ∀ F' H' vs, SE K σ F H ρ F' H' r.2 → ORs K F' H' r.2 σ r.1 vs → Nws H r.1 vs → Tds r.1 vs → Q vs H'

/-- an operand at hand -/
theorem to_ok {f : EnvD → R (Opd × EnvD)} {Q : VK} {o : Opd} {v : V} (s : Same F H) (er : ERel X.K F H ρ σ) (hf : f ρ = .ok (o, ρ)) (h : OR X.K F H ρ σ o v) (n : Nw H o v)
    (q : (f ρ).wp fun r => ∀ F' H' v, SE X.K σ F H ρ F' H' r.2 → (OR X.K F' H' r.2 σ r.1 v ∧ Nw H r.1 v) → Q v H') : Q v H := by
  rw [hf] at q
  exact q F H v (SE.refl s er) ⟨h, n⟩
/-- the value of an operation behind operands -/
theorem to_op {d : D} {fr : Bool} {Q : VK} {F0 H0 : Hp} {ρ0 : EnvD} {v : V} (se : SE X.K σ F0 H0 ρ0 F H ρ) (g : Grw F H F' H') (vn : VN X.K H F' H' d fr v)
    (q : ∀ F' H' v, SE X.K σ F0 H0 ρ0 F' H' ρ → (OR X.K F' H' ρ σ (.val d fr) v ∧ Nw H0 (.val d fr) v) → Q v H') : Q v H' := by
  obtain ⟨vr, nw⟩ := vn.vr se.st.er
  exact q F' H' v (se.trans (g.se se.st.er)) ⟨vr, nw.back se.st.gr⟩

theorem tstO_wp {r : R (Opd × EnvD)} {P : Bool × EnvD → Prop} : (tstO r).wp P ↔ r.wp fun x => ∃ k fr, x.1 = .val (.bl k) fr ∧ P (k, x.2) := by
  unfold tstO
  rw [R.wp_bind]
  cases r with
  | no => exact Iff.rfl
  | ok x =>
    obtain ⟨o, ρ⟩ := x
    show (match o with | .val (.bl k) _ => R.ok (k, ρ) | _ => R.no).wp P ↔ ∃ k fr, o = .val (.bl k) fr ∧ P (k, ρ)
    constructor
    · intro h
      cases o with
      | slot i => exact h.elim
      | val d fr => cases d <;> first | exact h.elim | exact ⟨_, _, rfl, h⟩
    · rintro ⟨k, fr, rfl, h⟩
      exact h
theorem or_bl {k fr : Bool} {v : V} (h : OR X.K F H ρ σ (.val (.bl k) fr) v) : v = .bl k := by
  cases fr with
  | false =>
    have h : Rep X.K F (.bl k) v := h
    cases h; rfl
  | true =>
    obtain ⟨a, _, ow, _⟩ := h
    exact ow.elim
theorem or_int {k : Int} {fr : Bool} {v : V} (h : OR X.K F H ρ σ (.val (.int k) fr) v) : v = .int k := by
  cases fr with
  | false =>
    have h : Rep X.K F (.int k) v := h
    cases h; rfl
  | true =>
    obtain ⟨a, _, ow, _⟩ := h
    exact ow.elim

/-! ### names, constants -/
theorem s_var {i : Nat} {id : Str} (hN : X.N[i]? = some id) (hv : Vis X.env.scope id) (hd : (id == ("__debug__" : Str)) = false) (hc : (id == ("__classdict__" : Str)) = false) (C : Ctx) : PE X (.Name id pos) (tO X.K (ev C (.var i))) := by
  refine PE.imp (pe_var (i := i) hN hv hd hc) fun σ H Q ⟨F, ρ, s, er, q⟩ => ?_
  have q0 := q
  simp only [ev] at q
  rw [R.wp_bind, R.wp_of] at q
  obtain ⟨⟨d, fr⟩, h1, q⟩ := q
  have g := getD?_some h1
  cases fr with
  | false =>
    obtain ⟨v, e1, r⟩ := er.frz i d g
    exact ⟨v, e1, q F H v (SE.refl s er) ⟨r, trivial⟩⟩
  | true =>
    obtain ⟨a, e1, ow⟩ := er.own i d g
    exact ⟨_, e1, q F H _ (SE.refl s er) ⟨⟨e1, _, g⟩, trivial⟩⟩
theorem s_const {e : E} {x : Expr} {d : D} {v : V} (C : Ctx) (h : PE X x (tC v)) (he : ∀ ρ, ev C e ρ = .ok (.val d false, ρ)) (r : ∀ F, Rep X.K F d v) : PE X x (tO X.K (ev C e)) := by
  refine PE.imp h fun σ H Q ⟨F, ρ, s, er, q⟩ => ?_
  exact to_ok (o := .val d false) s er (he ρ) (r F) trivial q
theorem s_dnew (C : Ctx) : PE X (.Dict [] [] pos) (tO X.K (ev C .dnew)) := by
  refine PE.imp pe_dnewK fun σ H Q ⟨F, ρ, s, er, q⟩ p hp => ?_
  obtain ⟨g, vn⟩ := grw_dK (K := X.K) s hp .nil
  exact to_op (SE.refl s er) g vn q

/-! ### operators -/
theorem s_bin (o : BO) (C : Ctx) {ea eb : E} (ha : PE X a (tO X.K (ev C ea))) (hb : PE X b (tO X.K (ev C eb))) : PE X (.BinOp a (boOp o) b pos) (tO X.K (ev C (.bin o ea eb))) := by
  obtain ⟨r, ho, snd⟩ := op_bin (X := X) o
  refine PE.imp (pe_op ho ha hb) fun σ H Q ⟨F, ρ, s, er, q⟩ => ?_
  simp only [ev] at q
  rw [R.wp_bind] at q
  refine ⟨F, ρ, s, er, R.wp_mono q fun x q F1 H1 v se ⟨hv, nv⟩ => ?_⟩
  rw [R.wp_bind] at q
  refine ⟨F1, x.2, se.st.fh, se.st.er, R.wp_mono q fun y q F2 H2 u se2 ⟨hu, nu⟩ => ?_⟩
  rw [R.wp_bind] at q
  obtain ⟨d, h1, q⟩ := R.wp_eq q
  rw [R.wp_bind] at q
  obtain ⟨e, h2, q⟩ := R.wp_eq q
  rw [R.wp_bind] at q
  have sx := se.trans se2
  refine snd F2 H2 d e v u Q sx.st.fh ((hv.step se2).rd sx.st.er h1) (hu.rd sx.st.er h2) (R.wp_mono q fun z q F' H' w g vn => ?_)
  exact to_op sx g vn q
theorem s_cmp (o : CO) (C : Ctx) {ea eb : E} (hr : X.A.units + 64 < cLine) (ha : PE X a (tO X.K (ev C ea))) (hb : PE X b (tO X.K (ev C eb))) (hm : behindInMarks (coOp o) b = false) : PE X (.Compare a [coOp o] [b] pos) (tO X.K (ev C (.cmp o ea eb))) := by
  obtain ⟨r, ho, snd⟩ := op_cmp (X := X) hr o
  refine PE.imp (pe_cmpR ho ha hb hm) fun σ H Q ⟨F, ρ, s, er, q⟩ => ?_
  simp only [ev] at q
  rw [R.wp_bind] at q
  refine ⟨F, ρ, s, er, R.wp_mono q fun x q F1 H1 v se ⟨hv, nv⟩ => ?_⟩
  rw [R.wp_bind] at q
  refine ⟨F1, x.2, se.st.fh, se.st.er, R.wp_mono q fun y q F2 H2 u se2 ⟨hu, nu⟩ => ?_⟩
  rw [R.wp_bind] at q
  obtain ⟨d, h1, q⟩ := R.wp_eq q
  rw [R.wp_bind] at q
  obtain ⟨e, h2, q⟩ := R.wp_eq q
  rw [R.wp_bind] at q
  have sx := se.trans se2
  refine snd F2 H2 d e v u Q sx.st.fh ((hv.step se2).rd sx.st.er h1) (hu.rd sx.st.er h2) (R.wp_mono q fun z q => ?_)
  exact q F2 H2 _ sx ⟨Rep.bl z, trivial⟩
theorem t_cmp (o : CO) (C : Ctx) {ea eb : E} (hr : X.A.units + 64 < cLine) (ha : PE X a (tO X.K (ev C ea))) (hb : PE X b (tO X.K (ev C eb))) (hm : behindInMarks (coOp o) b = false) : PT X (.Compare a [coOp o] [b] pos) (tB' X.K fun ρ => tstO (ev C (.cmp o ea eb) ρ)) := by
  obtain ⟨r, ho, snd⟩ := op_cmp (X := X) hr o
  refine PT.imp (pt_cmpR ho ha hb hm) fun σ H Q ⟨F, ρ, s, er, q⟩ => ?_
  rw [tstO_wp] at q
  simp only [ev] at q
  rw [R.wp_bind] at q
  refine ⟨F, ρ, s, er, R.wp_mono q fun x q F1 H1 v se ⟨hv, nv⟩ => ?_⟩
  rw [R.wp_bind] at q
  refine ⟨F1, x.2, se.st.fh, se.st.er, R.wp_mono q fun y q F2 H2 u se2 ⟨hu, nu⟩ => ?_⟩
  rw [R.wp_bind] at q
  obtain ⟨d, h1, q⟩ := R.wp_eq q
  rw [R.wp_bind] at q
  obtain ⟨e, h2, q⟩ := R.wp_eq q
  rw [R.wp_bind] at q
  have sx := se.trans se2
  refine snd F2 H2 d e v u _ sx.st.fh ((hv.step se2).rd sx.st.er h1) (hu.rd sx.st.er h2) (R.wp_mono q fun z q => ?_)
  obtain ⟨k, fr, e1, q⟩ := q
  cases e1
  exact ⟨_, rfl, q F2 H2 sx⟩
theorem s_chain (o p : CO) (C : Ctx) {ea eb ec : E} (hr : X.A.units + 64 < cLine) (ha : PE X a (tO X.K (ev C ea))) (hb : PE X b (tO X.K (ev C eb))) (hc : PE X c (tO X.K (ev C ec)))
    (hm : ∀ {r r' : R2}, OpR X (compareOp (coOp o)) r → OpR X (compareOp (coOp p)) r' → PE X (.Compare a [coOp o, coOp p] [b, c] pos) (tChain r r' (tO X.K (ev C ea)) (tO X.K (ev C eb)) (tO X.K (ev C ec)))) :
    PE X (.Compare a [coOp o, coOp p] [b, c] pos) (tO X.K (ev C (.chain o p ea eb ec))) := by
  obtain ⟨r, ho, snd⟩ := op_cmp (X := X) hr o
  obtain ⟨r', ho', snd'⟩ := op_cmp (X := X) hr p
  refine PE.imp (hm ho ho') fun σ H Q ⟨F, ρ, s, er, q⟩ => ?_
  simp only [ev] at q
  rw [R.wp_bind] at q
  refine ⟨F, ρ, s, er, R.wp_mono q fun x q F1 H1 v se ⟨hv, nv⟩ => ?_⟩
  rw [R.wp_bind] at q
  refine ⟨F1, x.2, se.st.fh, se.st.er, R.wp_mono q fun y q F2 H2 u se2 ⟨hu, nu⟩ => ?_⟩
  rw [R.wp_bind] at q
  obtain ⟨d, h1, q⟩ := R.wp_eq q
  rw [R.wp_bind] at q
  obtain ⟨e, h2, q⟩ := R.wp_eq q
  rw [R.wp_bind] at q
  have sx := se.trans se2
  refine snd F2 H2 d e v u _ sx.st.fh ((hv.step se2).rd sx.st.er h1) (hu.rd sx.st.er h2) (R.wp_mono q fun z q => ?_)
  refine ⟨z, rfl, ?_⟩
  cases z with
  | false => exact q F2 H2 _ sx ⟨Rep.bl false, trivial⟩
  | true =>
    rw [if_pos rfl]
    have q : ((ev C ec y.2).bind fun w => (res w.2 y.1).bind fun e => (res w.2 w.1).bind fun g => (cmpD p e g).bind fun z => R.ok (Opd.val (.bl z) false, w.2)).wp _ := q
    rw [R.wp_bind] at q
    refine ⟨F2, y.2, sx.st.fh, sx.st.er, R.wp_mono q fun w q F3 H3 t se3 ⟨ht, nt⟩ => ?_⟩
    rw [R.wp_bind] at q
    obtain ⟨e', h3, q⟩ := R.wp_eq q
    rw [R.wp_bind] at q
    obtain ⟨g, h4, q⟩ := R.wp_eq q
    rw [R.wp_bind] at q
    have sy := sx.trans se3
    refine snd' F3 H3 e' g u t Q sy.st.fh ((hu.step se3).rd sy.st.er h3) (ht.rd sy.st.er h4) (R.wp_mono q fun z q => ?_)
    exact q F3 H3 _ sy ⟨Rep.bl z, trivial⟩

/-! ### tests -/
/-- a value that is a bool, as a test -/
theorem t_val {f : EnvD → R (Opd × EnvD)} (h : PE X a (tO X.K f)) (he : ∀ whole, isTrue a X.env whole = (do let v ← whole; standAt a.pos; holding [v] (truthy v))) : PT X a (tB' X.K fun ρ => tstO (f ρ)) := by
  refine PT.imp (pt_val h he) fun σ H Q ⟨F, ρ, s, er, q⟩ => ?_
  rw [tstO_wp] at q
  refine ⟨F, ρ, s, er, R.wp_mono q fun x q F1 H1 v se ⟨hv, nv⟩ => ?_⟩
  obtain ⟨k, fr, e1, q⟩ := q
  rw [e1] at hv
  exact ⟨k, or_bl hv, q F1 H1 se⟩
theorem s_not (C : Ctx) {ea : E} (ha : PE X a (tO X.K (ev C ea))) : PE X (.UnaryOp .Not a pos) (tO X.K (ev C (.not ea))) := by
  refine PE.imp (pe_not ha) fun σ H Q ⟨F, ρ, s, er, q⟩ => ?_
  simp only [ev] at q
  rw [R.wp_bind, tstO_wp] at q
  refine ⟨F, ρ, s, er, R.wp_mono q fun x q F1 H1 v se ⟨hv, nv⟩ => ?_⟩
  obtain ⟨k, fr, e1, q⟩ := q
  rw [e1] at hv
  exact ⟨k, or_bl hv, q F1 H1 _ se ⟨Rep.bl _, trivial⟩⟩
theorem t_not (C : Ctx) {ea : E} (ha : PT X a (tB' X.K fun ρ => tstO (ev C ea ρ))) : PT X (.UnaryOp .Not a pos) (tB' X.K fun ρ => tstO (ev C (.not ea) ρ)) := by
  refine PT.imp (pt_not ha) fun σ H Q ⟨F, ρ, s, er, q⟩ => ?_
  rw [tstO_wp] at q
  simp only [ev] at q
  rw [R.wp_bind] at q
  refine ⟨F, ρ, s, er, R.wp_mono q fun x q F1 H1 se => ?_⟩
  obtain ⟨k, fr, e1, q⟩ := q
  cases e1
  exact q F1 H1 se
theorem s_ite (C : Ctx) {ec ea eb : E} (hc : PT X c (tB' X.K fun ρ => tstO (ev C ec ρ))) (ha : PE X a (tO X.K (ev C ea))) (hb : PE X b (tO X.K (ev C eb))) : PE X (.IfExp c a b pos) (tO X.K (ev C (.ite ec ea eb))) := by
  refine PE.imp (pe_ifExp hc ha hb) fun σ H Q ⟨F, ρ, s, er, q⟩ => ?_
  simp only [ev] at q
  rw [R.wp_bind] at q
  refine ⟨F, ρ, s, er, R.wp_mono q fun x q F1 H1 se => ?_⟩
  obtain ⟨k, ρ1⟩ := x
  have fin : ∀ {f : EnvD → R (Opd × EnvD)}, ((f ρ1).wp fun r => ∀ F' H' v, SE X.K σ F H ρ F' H' r.2 → (OR X.K F' H' r.2 σ r.1 v ∧ Nw H r.1 v) → Q v H') → tO X.K f σ H1 Q := fun q =>
    ⟨F1, ρ1, se.st.fh, se.st.er, R.wp_mono q fun y q F2 H2 v se2 ⟨hv, nv⟩ => q F2 H2 v (se.trans se2) ⟨hv, nv.back se.st.gr⟩⟩
  cases k with
  | true => exact fin q
  | false => exact fin q
/-! ### and, or -/
theorem s_w1 (C : Ctx) (w : Bool) {op : BoolOp} {ea : E} (ha : PE X a (tO X.K (ev C ea))) : PE X (.BoolOp op [a] pos) (tO X.K (evW C w (.cons ea .nil))) := by
  refine PE.imp (pe_one ha) fun σ H Q ⟨F, ρ, s, er, q⟩ => ?_
  simp only [evW] at q
  rw [R.wp_bind, tstO_wp] at q
  refine ⟨F, ρ, s, er, R.wp_mono q fun x q F1 H1 v se ⟨hv, nv⟩ => ?_⟩
  obtain ⟨k, fr, e1, q⟩ := q
  rw [e1] at hv
  rw [or_bl hv]
  exact q F1 H1 _ se ⟨Rep.bl _, trivial⟩
theorem evW_cons (C : Ctx) (w : Bool) (a b r : E) (ρ : EnvD) : evW C w (.cons a (.cons b r)) ρ = (tstO (ev C a ρ)).bind fun x => if x.1 = w then evW C w (.cons b r) x.2 else .ok (.val (.bl (!w)) false, x.2) := by
  simp only [evW]
theorem s_and (C : Ctx) {ea eb er' : E} {v : Expr} {vs : List Expr} (ha : PE X a (tO X.K (ev C ea))) (hb : PE X (.BoolOp .And (v :: vs) pos) (tO X.K (evW C true (.cons eb er')))) : PE X (.BoolOp .And (a :: v :: vs) pos) (tO X.K (evW C true (.cons ea (.cons eb er')))) := by
  refine PE.imp (pe_and ha hb) fun σ H Q ⟨F, ρ, s, er, q⟩ => ?_
  rw [evW_cons, R.wp_bind, tstO_wp] at q
  refine ⟨F, ρ, s, er, R.wp_mono q fun x q F1 H1 u se ⟨hv, nv⟩ => ?_⟩
  obtain ⟨k, fr, e1, q⟩ := q
  rw [e1] at hv
  refine ⟨k, or_bl hv, ?_⟩
  cases k with
  | false => exact q F1 H1 _ se ⟨Rep.bl false, trivial⟩
  | true =>
    refine ⟨F1, x.2, se.st.fh, se.st.er, R.wp_mono q fun y q F2 H2 v se2 ⟨hv, nv⟩ => q F2 H2 v (se.trans se2) ⟨hv, nv.back se.st.gr⟩⟩
theorem s_or (C : Ctx) {ea eb er' : E} {v : Expr} {vs : List Expr} (ha : PE X a (tO X.K (ev C ea))) (hb : PE X (.BoolOp .Or (v :: vs) pos) (tO X.K (evW C false (.cons eb er')))) : PE X (.BoolOp .Or (a :: v :: vs) pos) (tO X.K (evW C false (.cons ea (.cons eb er')))) := by
  refine PE.imp (pe_or ha hb) fun σ H Q ⟨F, ρ, s, er, q⟩ => ?_
  rw [evW_cons, R.wp_bind, tstO_wp] at q
  refine ⟨F, ρ, s, er, R.wp_mono q fun x q F1 H1 u se ⟨hv, nv⟩ => ?_⟩
  obtain ⟨k, fr, e1, q⟩ := q
  rw [e1] at hv
  refine ⟨k, or_bl hv, ?_⟩
  cases k with
  | true => exact q F1 H1 _ se ⟨Rep.bl true, trivial⟩
  | false =>
    refine ⟨F1, x.2, se.st.fh, se.st.er, R.wp_mono q fun y q F2 H2 v se2 ⟨hv, nv⟩ => q F2 H2 v (se.trans se2) ⟨hv, nv.back se.st.gr⟩⟩
theorem t_w1 (C : Ctx) (w : Bool) {ea : E} (ha : PT X a (tB' X.K fun ρ => tstO (ev C ea ρ))) : PW X (.BoolOp (if w then .And else .Or) [a] pos) (tB' X.K fun ρ => tstO (evW C w (.cons ea .nil) ρ)) := by
  have h : PW X (.BoolOp (if w then .And else .Or) [a] pos) (tB' X.K fun ρ => tstO (ev C ea ρ)) := by
    cases w with
    | true => exact pw_and1 ha
    | false => exact pw_or1 ha
  refine PW.imp h fun σ H Q ⟨F, ρ, s, er, q⟩ => ?_
  rw [tstO_wp] at q
  simp only [evW] at q
  rw [R.wp_bind] at q
  refine ⟨F, ρ, s, er, R.wp_mono q fun x q F1 H1 se => ?_⟩
  obtain ⟨k, fr, e1, q⟩ := q
  cases e1
  exact q F1 H1 se
theorem t_and (C : Ctx) {ea eb er' : E} {v : Expr} {vs : List Expr} (ha : PT X a (tB' X.K fun ρ => tstO (ev C ea ρ))) (hb : PW X (.BoolOp .And (v :: vs) pos) (tB' X.K fun ρ => tstO (evW C true (.cons eb er') ρ))) : PW X (.BoolOp .And (a :: v :: vs) pos) (tB' X.K fun ρ => tstO (evW C true (.cons ea (.cons eb er')) ρ)) := by
  refine PW.imp (pw_and ha hb) fun σ H Q ⟨F, ρ, s, er, q⟩ => ?_
  rw [tstO_wp, evW_cons, R.wp_bind] at q
  refine ⟨F, ρ, s, er, R.wp_mono q fun x q F1 H1 se => ?_⟩
  obtain ⟨k, ρ1⟩ := x
  cases k with
  | false =>
    obtain ⟨k, fr, e1, q⟩ := q
    cases e1
    exact q F1 H1 se
  | true =>
    refine ⟨F1, ρ1, se.st.fh, se.st.er, ?_⟩
    rw [tstO_wp]
    refine R.wp_mono q fun y ⟨k, fr, e1, q⟩ => ⟨k, fr, e1, fun F2 H2 se2 => q F2 H2 (se.trans se2)⟩
theorem t_or (C : Ctx) {ea eb er' : E} {v : Expr} {vs : List Expr} (ha : PT X a (tB' X.K fun ρ => tstO (ev C ea ρ))) (hb : PW X (.BoolOp .Or (v :: vs) pos) (tB' X.K fun ρ => tstO (evW C false (.cons eb er') ρ))) : PW X (.BoolOp .Or (a :: v :: vs) pos) (tB' X.K fun ρ => tstO (evW C false (.cons ea (.cons eb er')) ρ)) := by
  refine PW.imp (pw_or ha hb) fun σ H Q ⟨F, ρ, s, er, q⟩ => ?_
  rw [tstO_wp, evW_cons, R.wp_bind] at q
  refine ⟨F, ρ, s, er, R.wp_mono q fun x q F1 H1 se => ?_⟩
  obtain ⟨k, ρ1⟩ := x
  cases k with
  | true =>
    obtain ⟨k, fr, e1, q⟩ := q
    cases e1
    exact q F1 H1 se
  | false =>
    refine ⟨F1, ρ1, se.st.fh, se.st.er, ?_⟩
    rw [tstO_wp]
    refine R.wp_mono q fun y ⟨k, fr, e1, q⟩ => ⟨k, fr, e1, fun F2 H2 se2 => q F2 H2 (se.trans se2)⟩
end VI

set_option Elab.async false
set_option linter.all false
set_option autoImplicit false
set_option maxRecDepth 100000
set_option maxHeartbeats 4000000
/-! VSnd2: items, slices, displays, calls. -/
namespace VI
open PySem PySem.Spec PyProof.Rows L2
variable {X : Cx} {F H F1 H1 F2 H2 F' H' : Hp} {ρ ρ1 ρ2 ρ' : EnvD} {σ : L2.St} {pos : Pos} {a b c : Expr} {es : List Expr}

theorem s_idx (C : Ctx) {ea eb : E} (ha : PE X a (tO X.K (ev C ea))) (hb : PE X b (tO X.K (ev C eb))) (hs : PlainIx b) : PE X (.Subscript a b pos) (tO X.K (ev C (.idx ea eb))) := by
  refine PE.imp (pe_ix ix_seq ha hb hs) fun σ H Q ⟨F, ρ, s, er, q⟩ => ?_
  simp only [ev] at q
  rw [R.wp_bind] at q
  refine ⟨F, ρ, s, er, R.wp_mono q fun x q F1 H1 v se ⟨hv, nv⟩ => ?_⟩
  rw [R.wp_bind] at q
  refine ⟨F1, x.2, se.st.fh, se.st.er, R.wp_mono q fun y q F2 H2 u se2 ⟨hu, nu⟩ => ?_⟩
  rw [R.wp_bind] at q
  obtain ⟨d, h1, q⟩ := R.wp_eq q
  rw [R.wp_bind] at q
  obtain ⟨e, h2, q⟩ := R.wp_eq q
  rw [R.wp_bind] at q
  have sx := se.trans se2
  refine snd_idx F2 H2 d e v u Q sx.st.fh ((hv.step se2).rd sx.st.er h1) (hu.rd sx.st.er h2) (R.wp_mono q fun z q F' H' w g r => ?_)
  exact to_op (fr := false) sx g r q
/-- a bound of a slice -/
def tP (K : PySem.W.Frag) (f : EnvD → R (Option Int × EnvD)) : TO := fun σ H Q =>
  ∃ F ρ, Same F H ∧ ERel K F H ρ σ ∧ (f ρ).wp fun r => ∀ F' H', SE K σ F H ρ F' H' r.2 → Q r.1 H'
theorem p_none (C : Ctx) : PO X none (tP X.K fun ρ => optE .nil (ev C .nil ρ) ρ) := ⟨fun pins s σ H Q I ⟨F, ρ, sm, er, q⟩ => po_none.run pins s σ H Q I (q F H (SE.refl sm er))⟩
theorem p_some (C : Ctx) {ea : E} (hn : ea ≠ .nil) (ha : PE X a (tO X.K (ev C ea))) : PO X (some a) (tP X.K fun ρ => optE ea (ev C ea ρ) ρ) := ⟨fun pins s σ H Q I ⟨F, ρ, sm, er, q⟩ => by
  refine (po_some ha).run pins s σ H Q I ⟨F, ρ, sm, er, ?_⟩
  have q : ((ev C ea ρ).bind fun x => match x.1 with | .val (.int k) _ => R.ok (some k, x.2) | _ => R.no).wp fun r => ∀ F' H', SE X.K σ F H ρ F' H' r.2 → Q r.1 H' := by
    cases ea <;> first | exact absurd rfl hn | exact q
  rw [R.wp_bind] at q
  refine R.wp_mono q fun x q F1 H1 v se ⟨hv, nv⟩ => ?_
  obtain ⟨o, ρ1⟩ := x
  cases o with
  | slot i => exact q.elim
  | val d fr =>
    cases d <;> first | exact q.elim | skip
    exact ⟨_, or_int hv, q F1 H1 se⟩⟩
theorem s_slc (C : Ctx) {ea el eh : E} {lo hi : Option Expr} {p2 : Pos} (ha : PE X a (tO X.K (ev C ea))) (hl : PO X lo (tP X.K fun ρ => optE el (ev C el ρ) ρ)) (hh : PO X hi (tP X.K fun ρ => optE eh (ev C eh ρ) ρ)) : PE X (.Subscript a (.Slice lo hi none p2) pos) (tO X.K (ev C (.slc ea el eh))) := by
  refine PE.imp (pe_slice sl_all ha hl hh) fun σ H Q ⟨F, ρ, s, er, q⟩ => ?_
  simp only [ev] at q
  rw [R.wp_bind] at q
  refine ⟨F, ρ, s, er, R.wp_mono q fun x q F1 H1 v se ⟨hv, nv⟩ => ?_⟩
  rw [R.wp_bind] at q
  refine ⟨F1, x.2, se.st.fh, se.st.er, R.wp_mono q fun y q F2 H2 se2 => ?_⟩
  rw [R.wp_bind] at q
  have sx := se.trans se2
  refine ⟨F2, y.2, sx.st.fh, sx.st.er, R.wp_mono q fun z q F3 H3 se3 => ?_⟩
  rw [R.wp_bind] at q
  obtain ⟨d, h1, q⟩ := R.wp_eq q
  rw [R.wp_bind] at q
  have sy := sx.trans se3
  refine snd_slc F3 H3 d v y.1 z.1 Q sy.st.fh (((hv.step se2).step se3).rd sy.st.er h1) (R.wp_mono q fun w q F' H' u g vn => ?_)
  exact to_op sy g vn q
theorem s_rev (C : Ctx) {ea : E} {k : Nat} {p1 p2 p3 : Pos} (ha : PE X a (tO X.K (ev C ea))) : PE X (.Subscript a (.Slice none none (some (.UnaryOp .USub (.Constant (.int 1) k p1) p2)) p3) pos) (tO X.K (ev C (.rev ea))) := by
  refine PE.imp (pe_revA ha) fun σ H Q ⟨F, ρ, s, er, q⟩ => ?_
  simp only [ev] at q
  rw [R.wp_bind] at q
  refine ⟨F, ρ, s, er, R.wp_mono q fun x q F1 H1 v se ⟨hv, nv⟩ => ?_⟩
  rw [R.wp_bind] at q
  obtain ⟨d, h1, q⟩ := R.wp_eq q
  rw [R.wp_bind] at q
  have hd := hv.rd se.st.er h1
  cases d <;> first | exact q.elim | skip
  · obtain ⟨p, vs, rfl, ht, r⟩ := hd.tup se.st.fh
    refine ⟨p, vs, rfl, .inr ⟨ht, fun m hm => ?_⟩⟩
    obtain ⟨g, vn⟩ := grw_tup (K := X.K) se.st.fh hm r.reverse
    exact to_op se g vn q
  · obtain ⟨p, vs, rfl, ht, r⟩ := hd.lst se.st.fh
    refine ⟨p, vs, rfl, .inl ⟨SqL.of ht, fun m hm => ?_⟩⟩
    obtain ⟨g, vn⟩ := grw_lst (K := X.K) se.st.fh hm r.reverse
    exact to_op se g vn q

/-! ### displays -/
theorem l_nil (C : Ctx) : PA X [] (tLs X.K (evL C .nil)) := PA.imp pa_nil fun σ H Q ⟨F, ρ, s, er, q⟩ => q F H [] (SE.refl s er) .nil
theorem l_cons (C : Ctx) {ea el : E} (ha : PE X a (tO X.K (ev C ea))) (hl : PA X es (tLs X.K (evL C el))) (hs : starEach (a :: es) X.env = (false, eval a X.env) :: starEach es X.env) : PA X (a :: es) (tLs X.K (evL C (.cons ea el))) := by
  refine PA.imp (pa_cons (pe_frz ha) hl hs) fun σ H Q ⟨F, ρ, s, er, q⟩ => ?_
  simp only [evL] at q
  rw [R.wp_bind] at q
  refine ⟨F, ρ, s, er, ?_⟩
  rw [R.wp_bind]
  refine R.wp_mono q fun o q => ?_
  rw [R.wp_bind] at q
  refine R.wp_mono q fun x q F1 H1 v se r => ?_
  rw [R.wp_bind] at q
  refine ⟨F1, x.2, se.st.fh, se.st.er, R.wp_mono q fun xs q F2 H2 vs se2 rs => ?_⟩
  exact q F2 H2 _ (se.trans se2) (.cons (r.mono se2.st.ff) rs)
theorem s_tup (C : Ctx) {el : E} {k : Nat} (h : PA X es (tLs X.K (evL C el))) : PE X (.Tuple es k pos) (tO X.K (ev C (.tup el))) := by
  refine PE.imp (pe_tup h) fun σ H Q ⟨F, ρ, s, er, q⟩ => ?_
  simp only [ev] at q
  rw [R.wp_bind] at q
  refine ⟨F, ρ, s, er, R.wp_mono q fun x q F1 H1 vs se r => ?_⟩
  obtain ⟨hz, q⟩ := R.wp_ite.mp q
  refine ⟨by rw [← r.length]; exact of_decide_eq_true hz, fun p hp => ?_⟩
  obtain ⟨g, vn⟩ := grw_tup (K := X.K) se.st.fh hp r
  exact to_op se g vn q
theorem s_lst (C : Ctx) {el : E} (h : PA X es (tLs X.K (evL C el))) : PE X (.List es pos) (tO X.K (ev C (.lst el))) := by
  refine PE.imp (pe_lst h) fun σ H Q ⟨F, ρ, s, er, q⟩ => ?_
  simp only [ev] at q
  rw [R.wp_bind] at q
  refine ⟨F, ρ, s, er, R.wp_mono q fun x q F1 H1 vs se r => ?_⟩
  obtain ⟨hz, q⟩ := R.wp_ite.mp q
  refine ⟨by rw [← r.length]; exact of_decide_eq_true hz, fun p hp => ?_⟩
  obtain ⟨g, vn⟩ := grw_lst (K := X.K) se.st.fh hp r
  exact to_op se g vn q

/-! ### arguments, built-in functions -/
theorem a_nil (C : Ctx) : PA X [] (tAr X.K (evA C .nil)) := PA.imp pa_nil fun σ H Q ⟨F, ρ, s, er, q⟩ => q F H [] (SE.refl s er) .nil .nil .nil
theorem a_cons (C : Ctx) {ea el : E} (ha : PE X a (tO X.K (ev C ea))) (hl : PA X es (tAr X.K (evA C el))) (hs : starEach (a :: es) X.env = (false, eval a X.env) :: starEach es X.env) : PA X (a :: es) (tAr X.K (evA C (.cons ea el))) := by
  refine PA.imp (pa_cons ha hl hs) fun σ H Q ⟨F, ρ, s, er, q⟩ => ?_
  simp only [evA] at q
  rw [R.wp_bind] at q
  refine ⟨F, ρ, s, er, R.wp_mono q fun o q F1 H1 v se ⟨hv, nv⟩ => ?_⟩
  rw [R.wp_bind] at q
  refine ⟨F1, o.2, se.st.fh, se.st.er, R.wp_mono q fun xs q F2 H2 vs se2 ors nws tds => ?_⟩
  exact q F2 H2 _ (se.trans se2) (.cons (hv.step se2) ors) (.cons nv (nws.back se.st.gr)) (Tds.join hv nws tds)
theorem ress_rd {os : List Opd} {vs : List V} (e : ERel X.K F H ρ σ) (h : ORs X.K F H ρ σ os vs) : ∀ {ds : List D}, ress ρ os = .ok ds → RdVs X.K F H ds vs := by
  induction h with
  | nil => intro ds hr; cases hr; exact .nil
  | @cons o v os vs h _ ih =>
    intro ds hr
    simp only [ress] at hr
    cases h1 : res ρ o with
    | no => rw [h1] at hr; cases hr
    | ok d =>
      rw [h1] at hr
      have hr : ((ress ρ os).bind fun ds => R.ok (d :: ds)) = .ok ds := hr
      cases h2 : ress ρ os with
      | no => rw [h2] at hr; cases hr
      | ok es => rw [h2] at hr; cases hr; exact .cons (h.rd e h1) (ih h2)
theorem s_bf (C : Ctx) {bf : BF} {el : E} {id : Str} {p : Pos} (hc : X.calm = true) (hgu : X.A.guards = some []) (hun : X.A.units + 150 < cLine) (hn : bf ≠ .lrng) (hid : id = bfName bf) (hg : Gl X id) (hm : X.mg id = none) (hl : PA X (a :: es) (tAr X.K (evA C el)))
    (he : starEach (a :: es) X.env = (false, eval a X.env) :: starEach es X.env) (hpl : (backTo pos (starEach es X.env)).any (·.1) = false) : PE X (.Call (.Name id p) (a :: es) [] pos) (tO X.K (ev C (.bc bf el))) := by
  obtain ⟨r, cr, snd⟩ := cr_bf hc hgu hun bf hn
  have hv : bootBuiltins id = some (bfVal bf) := by rw [hid]; exact bf_boot bf
  have hn1 : id ≠ "__name__" := by rw [hid]; cases bf <;> decide
  have hd1 : (id == ("__debug__" : Str)) = false := by rw [hid]; cases bf <;> decide
  have h : PE X (.Call (.Name id p) (a :: es) [] pos) (tCB r (tAr X.K (evA C el))) := by
    cases bf <;> first
      | exact pe_callB cr hg hm hv hl hn1 hd1 he hpl
      | exact pe_callTy cr hg hm hv hl hn1 hd1 he hpl
      | exact absurd rfl hn
  refine PE.imp h fun σ H Q ⟨F, ρ, s, er, q⟩ => ?_
  simp only [ev] at q
  rw [R.wp_bind] at q
  refine ⟨F, ρ, s, er, R.wp_mono q fun x q F1 H1 vs se ors nws tds => ?_⟩
  rw [R.wp_bind] at q
  obtain ⟨ds, h1, q⟩ := R.wp_eq q
  rw [R.wp_bind] at q
  refine snd F1 H1 ds vs Q se.st.fh (ress_rd se.st.er ors h1) (R.wp_mono q fun z q F' H' v g vn => ?_)
  exact to_op se g vn q
theorem s_isi (C : Ctx) {t : TyN} {ea : E} {id ty : Str} {p p' : Pos} (hid : id = "isinstance") (hty : ty = tyStr t) (hg : Gl X id) (hm : X.mg id = none) (hg2 : Gl X ty) (hm2 : X.mg ty = none) (ha : PE X a (tO X.K (ev C ea)))
    (he : starEach [a, .Name ty p'] X.env = (false, eval a X.env) :: starEach [.Name ty p'] X.env) : PE X (.Call (.Name id p) [a, .Name ty p'] [] pos) (tO X.K (ev C (.isi ea t))) := by
  subst hid
  have hv : bootBuiltins ty = some (.type (tyName t)) := by rw [hty]; exact ty_boot t
  have hn1 : ty ≠ "__name__" := by rw [hty]; cases t <;> decide
  have hd1 : (ty == ("__debug__" : Str)) = false := by rw [hty]; cases t <;> decide
  have ht : PE X (.Name ty p') (tC (.ty (tyName t))) := pe_bltn hg2 hm2 hv rfl hn1 hd1
  refine PE.imp (pe_callB call_isi hg hm (by decide +kernel) (pa_cons ha (pa_cons ht pa_nil) he) (by decide) (by decide) he (by rfl)) fun σ H Q ⟨F, ρ, s, er, q⟩ => ?_
  simp only [ev] at q
  rw [R.wp_bind] at q
  refine ⟨F, ρ, s, er, R.wp_mono q fun x q F1 H1 v se ⟨hv, nv⟩ => ?_⟩
  rw [R.wp_bind] at q
  obtain ⟨d, h1, q⟩ := R.wp_eq q
  obtain ⟨u, tx, kt⟩ := snd_isi se.st.fh t (hv.rd se.st.er h1)
  exact ⟨v, _, u, _, _, rfl, .ty _, tx, kt, q F1 H1 _ se ⟨Rep.bl _, trivial⟩⟩
theorem s_upper (C : Ctx) {ea : E} {apos : Pos} (ha : PE X a (tO X.K (ev C ea))) (hbase : attributeBase a "upper" X.env (eval a X.env) = eval a X.env) (hline : (apos.endLine == pos.line) = true) : PE X (.Call (.Attribute a "upper" apos) [] [] pos) (tO X.K (ev C (.upper ea))) := by
  refine PE.imp (pe_upper ha hbase hline) fun σ H Q ⟨F, ρ, s, er, q⟩ => ?_
  simp only [ev] at q
  rw [R.wp_bind] at q
  refine ⟨F, ρ, s, er, R.wp_mono q fun x q F1 H1 v se ⟨hv, nv⟩ => ?_⟩
  rw [R.wp_bind] at q
  obtain ⟨d, h1, q⟩ := R.wp_eq q
  have hd := hv.rd se.st.er h1
  cases d <;> first | exact q.elim | skip
  obtain rfl := hd.str
  rw [R.wp_bind] at q
  obtain ⟨hz, q⟩ := R.wp_ite.mp q
  exact ⟨⟨_, rfl⟩, _, rfl, rfl, of_decide_eq_true hz, q F1 H1 _ se ⟨Rep.str _, trivial⟩⟩
theorem s_lrng (C : Ctx) {ea : E} {p p' pos' : Pos} (hc : X.calm = true) (hg : Gl X "list") (hm : X.mg "list" = none) (hg2 : Gl X "range") (hm2 : X.mg "range" = none) (ha : PE X a (tO X.K (ev C ea))) (he : starEach [a] X.env = (false, eval a X.env) :: starEach [] X.env) :
    PE X (.Call (.Name "list" p) [.Call (.Name "range" p') [a] [] pos'] [] pos) (tO X.K (ev C (.bc .lrng (.cons ea .nil)))) := by
  refine PE.imp (pe_listRg hc hg hm (prg_1 hg2 hm2 ha he)) fun σ H Q ⟨F, ρ, s, er, q⟩ => ?_
  simp only [ev, evA] at q
  rw [R.wp_bind, R.wp_bind] at q
  refine ⟨F, ρ, s, er, R.wp_mono q fun x q F1 H1 v se ⟨hv, nv⟩ => ?_⟩
  rw [R.wp_bind] at q
  have q : ((ress x.2 [x.1]).bind fun ds => (bfD .lrng ds).bind fun z => R.ok (Opd.val z.1 z.2, x.2)).wp _ := q
  rw [R.wp_bind] at q
  obtain ⟨ds, h1, q⟩ := R.wp_eq q
  have rd := ress_rd se.st.er (.cons hv .nil) h1
  cases rd with
  | cons hd rd =>
    cases rd
    rename_i d
    cases d <;> first | exact q.elim | skip
    rename_i n
    obtain rfl := hd.int
    rw [R.wp_bind] at q
    obtain ⟨hz, q⟩ := R.wp_ite.mp q
    simp only [Bool.and_eq_true, decide_eq_true_eq] at hz
    obtain ⟨⟨z1, z2⟩, z3⟩ := hz
    have z4 : lenLine = 2 ^ 24 := by decide
    refine ⟨_, rfl, ⟨by decide, by decide, z1, z2, by rw [Int.sub_zero]; omega⟩, fun m hm => ?_⟩
    have r : Reps X.K F1 ((List.range n.toNat).map fun i => D.int (0 + (i : Nat))) (rgV 0 n) := by
      unfold rgV
      rw [Int.sub_zero]
      generalize List.range _ = l
      induction l with
      | nil => exact .nil
      | cons i l ih => exact .cons (.int _) ih
    obtain ⟨g, vn⟩ := grw_lst (K := X.K) se.st.fh hm r
    exact to_op se g vn q
end VI

set_option Elab.async false
set_option linter.all false
set_option autoImplicit false
set_option maxRecDepth 100000
set_option maxHeartbeats 4000000
/-! VG: promises of defs that are called while no repr is under way. -/
namespace VI
open PySem PySem.Spec PyProof.Rows L2

/-- what a def promises where no repr is under way -/
structure FnQ (P : Program) (w : World) (K : PySem.W.Frag) (mg : Str → Option Value) (base : Heap) (k : Nat) (f : Addr) (fd : FuncData) (ps : List Str) (sp : Sp) : Prop where
  many : ∀ xs H Q E, sp xs H Q E → xs.length = ps.length
  go : ∀ (A : Around) (below : List Env) (s : Shared) (H : Hp) (ar : Args) (us : List Value) (xs : List V) (Q : VK) (E : XK), Room k A → A.guards = some [] → Env0 P w K mg base A below s H →
    BindsTo s fd ar (ps.zip us) → Vals xs us → sp xs H Q E → codeAny (model P w) A (.call (.ref f) ar) (CR CX0 below P w H s Q E) s
theorem FnQ.weak {P : Program} {w : World} {K : PySem.W.Frag} {mg : Str → Option Value} {base : Heap} {k : Nat} {f : Addr} {fd : FuncData} {ps : List Str} {sp sp' : Sp} (G : FnQ P w K mg base k f fd ps sp)
    (i : ∀ xs H Q E, sp' xs H Q E → sp xs H Q E) : FnQ P w K mg base k f fd ps sp' :=
  ⟨fun xs H Q E z => G.many xs H Q E (i _ _ _ _ z), fun A b s H ar us xs Q E r g e0 bd vl z => G.go A b s H ar us xs Q E r g e0 bd vl (i _ _ _ _ z)⟩
section
variable {P : Program} {w : World} {K : PySem.W.Frag} {mg : Str → Option Value} {base : Heap}
/-- a def by its body -/
theorem FnQ.body {x qual : Str} {st : Stmt} {f : Addr} {fd : FuncData} {N ps : List Str} {k : Nat} {sp : Sp} (F : Fun K x qual st f fd) (S : FnScope N ps (defScope st)) (hl : ∀ xs H Q E, sp xs H Q E → xs.length = ps.length)
    (hb : ∀ (cdv : Value) (A : Around) (below : List Env) (s : Shared) (H : Hp) (xs : List V) (Q : VK) (E : XK), Room k (A.deeper (envOfC qual (defScope st) s.heap.objs.size f cdv)) → A.guards = some [] → sp xs H Q E →
      ∃ t, PSs (cxOf CX0 P w K mg base N qual (defScope st) f cdv A below s H E).nox (defBody st) t ∧ t { nx := fun _ H' => Q .non H', rt := Q } (start N xs) H) : FnQ P w K mg base (k + 1) f fd ps sp := by
  obtain ⟨oc, od, kV, doc, pm, an, cdv, ct, osl, rfl, lk, hcd⟩ := F.ex
  refine ⟨hl, fun A below s H ar us xs Q E rm gd e0 bd vl hsp => ?_⟩
  have kin : K.In s.heap := e0.mod.kin.keeps fun b o z => (e0.bs b o z).1
  have nol : s.heap.NoLimit := e0.mod.nolimit.keeps fun b o z => (e0.bs b o z).1
  have kinds : ∀ z ∈ ps.zip us, (defScope st).names.lookup z.1 = some .local ∨ ((defScope st).names.lookup z.1 = some .cell ∧ ((cellsFrom (s.heap.objs.size + 1) (defScope st).names []).lookup z.1).isSome = true) := by
    rintro ⟨n, v⟩ hz
    cases S.par n (List.of_mem_zip hz).1 with
    | inl c => exact .inl c
    | inr c => exact .inr ⟨c, PySem.W.cellsFrom_some _ _ _ (.inl c)⟩
  refine codeAny_call_function rm.depth (kin _ _ lk) rfl S.co S.gen rfl (PySem.W.codeRec_of kin hcd) (bd _ _ _ _ ?_)
  refine wpAny_newFunctionEnv_cells S.kind kinds fun env he sB ic => ?_
  subst he
  refine ⟨nol.keeps ic.toInCall.keep, codeAny_func ?_⟩
  obtain ⟨t, ht, hq⟩ := hb cdv A below s H xs Q E (rm.deeper _) gd hsp
  have iv := inv_start (CX := CX0) (E := E) S rm.hd e0 (hl _ _ _ _ hsp) vl ic
  refine wpAny_mono (ht.nox.run [] sB (start N xs) H _ iv hq) ?_ fun e s' z => z
  intro fl s' z
  cases fl with
  | brk => obtain ⟨_, _, _, no⟩ := z; exact no.elim
  | cont => obtain ⟨_, _, _, no⟩ := z; exact no.elim
  | next =>
    obtain ⟨σ', H', J, q⟩ := z
    exact ⟨.non, H', J.os, J.bare, J.base, J.hok, rfl, q⟩
  | ret u =>
    obtain ⟨v, σ', H', J, rv, q⟩ := z
    exact ⟨v, H', J.os, J.bare, J.base, J.hok, rv, q⟩
end
section
variable {X : Cx} {k : Nat} {f : Addr} {fd : FuncData} {ps ks : List Str} {sp : Sp} {E : XK} {x : Str} {p pos : Pos} {e : Expr} {es : List Expr} {t : TA}
theorem q_end {pins : List (Addr × Obj)} {σ : L2.St} {H : Hp} {s s' : Shared} {Q : VK} {r : Result} (I : Inv X pins σ H s) (z : CR CX0 X.stack X.prog X.w H s Q E r s') (hx : Passes CX0 X E) : wants (EP X pins σ Q) X.xe r s' := by
  cases r with
  | error e => exact hx pins σ H s e s' I z
  | ok fl => cases fl <;> first | exact I.after z | exact False.elim z
/-- the callee runs -/
theorem q_run {pins : List (Addr × Obj)} {σ : L2.St} {H : Hp} {s : Shared} {Q : VK} {us : List Value} {xs : List V} (G : FnQ X.prog X.w X.K X.mg X.base k f fd ps sp) (rm : Room k X.A) (gd : X.A.guards = some []) (bd : Binds X.K fd ps [])
    (hx : Passes CX0 X E) (I : Inv X pins σ H s) (vl : Vals xs us) (z : sp xs H Q E) : wpAny (model X.prog X.w) X.A (call (.ref f) us) (EP X pins σ Q) X.xe s := by
  have n1 : us.length = ps.length := by rw [← vl.length]; exact G.many _ _ _ _ z
  have b := bd s us I.kIn (by rw [List.append_nil]; exact n1)
  rw [List.append_nil] at b
  exact wpAny_call (codeAny_mono (G.go X.A X.stack s H ⟨us, []⟩ us xs Q E rm gd I.env0 b vl z) fun r s' c => q_end I c hx)
/-- the callee runs, its arguments told by name -/
theorem q_run2 {pins : List (Addr × Obj)} {σ : L2.St} {H : Hp} {s : Shared} {Q : VK} {us : List Value} {kw : List (Str × Value)} {xs : List V} (G : FnQ X.prog X.w X.K X.mg X.base k f fd ps sp) (rm : Room k X.A) (gd : X.A.guards = some []) (bd : BindsTo s fd ⟨[], kw⟩ (ps.zip us))
    (hx : Passes CX0 X E) (I : Inv X pins σ H s) (vl : Vals xs us) (z : sp xs H Q E) : wpAny (model X.prog X.w) X.A (call (.ref f) [] kw) (EP X pins σ Q) X.xe s :=
  wpAny_call (codeAny_mono (G.go X.A X.stack s H ⟨[], kw⟩ us xs Q E rm gd I.env0 bd vl z) fun r s' c => q_end I c hx)
theorem q_call (G : FnQ X.prog X.w X.K X.mg X.base k f fd ps sp) (rm : Room k X.A) (gd : X.A.guards = some []) (hg : Gl X x) (hm : X.mg x = some (.ref f)) (hk : PySem.W.keepIn X.K (.ref f) = true) (bd : Binds X.K fd ps []) (hx : Passes CX0 X E)
    (ha : PA X (e :: es) t) (hd : (x == ("__debug__" : Str)) = false) (he : starEach (e :: es) X.env = (false, eval e X.env) :: starEach es X.env) (hp : (backTo pos (starEach es X.env)).any (·.1) = false) :
    PE X (.Call (.Name x p) (e :: es) [] pos) (fun σ H Q => t σ H fun xs H1 => sp xs H1 Q E) :=
  ⟨fun pins s σ H Q I z => wpAny_Call_Name_kw (ld_glob I hg hm (PySem.W.callWith_K (h₀ := X.base) I.ok.mod.kin hk
    (thn (ha.run pos pins s σ H _ I z) fun us s1 ⟨xs, H1, I1, r, q⟩ => ⟨I1.kIn, q_run G rm gd bd hx I1 r q⟩) he hp) hd)⟩
theorem q_call0 (G : FnQ X.prog X.w X.K X.mg X.base k f fd ps sp) (rm : Room k X.A) (gd : X.A.guards = some []) (hg : Gl X x) (hm : X.mg x = some (.ref f)) (hk : PySem.W.keepIn X.K (.ref f) = true) (bd : Binds X.K fd ps []) (hx : Passes CX0 X E)
    (hd : (x == ("__debug__" : Str)) = false) : PE X (.Call (.Name x p) [] [] pos) (fun _ H Q => sp [] H Q E) :=
  ⟨fun pins s σ H Q I z => wpAny_Call_Name_kw (ld_glob I hg hm (PySem.W.callWith_K0 I.kIn hk (q_run (us := []) G rm gd bd hx I .nil z)) hd)⟩
theorem q_runk {pins : List (Addr × Obj)} {σ : L2.St} {H : Hp} {s : Shared} {Q : VK} {us ws : List Value} {xs zs : List V} {g : List Value → List Value → List Value} {gV : List V → List V → List V} (G : FnQ X.prog X.w X.K X.mg X.base k f fd ps sp)
    (rm : Room k X.A) (gd : X.A.guards = some []) (bd : KBinds X.K fd ps ks g gV) (hx : Passes CX0 X E) (I : Inv X pins σ H s) (vl : Vals xs us) (vz : Vals zs ws) (z : sp (gV xs zs) H Q E) :
    wpAny (model X.prog X.w) X.A (call (.ref f) us (ks.zip ws)) (EP X pins σ Q) X.xe s := by
  have both := bd.rel vl vz
  have n1 : (g us ws).length = ps.length := by rw [← both.length]; exact G.many _ _ _ _ z
  exact wpAny_call (codeAny_mono (G.go X.A X.stack s H ⟨us, ks.zip ws⟩ (g us ws) (gV xs zs) Q E rm gd I.env0 (bd.to s us ws I.kIn n1) both z) fun r s' c => q_end I c hx)
end
end VI

set_option Elab.async false
set_option linter.all false
set_option autoImplicit false
set_option maxRecDepth 100000
set_option maxHeartbeats 4000000
/-! VSnd3: calls of own defs, what is walked, comprehensions. -/
namespace VI
open PySem PySem.Spec PyProof.Rows L2
variable {X : Cx} {F H F1 H1 F2 H2 F' H' : Hp} {ρ ρ1 ρ2 ρ' : EnvD} {σ : L2.St} {pos : Pos} {a b c : Expr} {es : List Expr}

/-- what a def promises that does as fn says -/
def spOf (K : PySem.W.Frag) (fn : Fn) : Sp := fun vs H Q _ => ∃ F as, Same F H ∧ ERel K F H (AsE as) (VsS vs) ∧ (fn as).wp fun y =>
  ∀ F' H' v, Stp K F H (AsE as) (VsS vs) F' H' (AsE y.2) (VsS vs) → VR K F' H' (AsE y.2) (VsS vs) y.1.1 y.1.2 v → Nw H (.val y.1.1 y.1.2) v → Q v H'
theorem call_sp {K : PySem.W.Frag} {fn : Fn} {os : List Opd} {vs : List V} {Q : VK} {E : XK} (se : SE K σ F H ρ F1 H1 ρ1) (h : ORs K F1 H1 ρ1 σ os vs) (nw : Nws H os vs) (t : Tds os vs)
    (q : (callD fn os ρ1).wp fun r => ∀ F' H' v, SE K σ F H ρ F' H' r.2 → (OR K F' H' r.2 σ r.1 v ∧ Nw H r.1 v) → Q v H') : spOf K fn vs H1 Q E := by
  unfold callD at q
  obtain ⟨nd, q⟩ := R.wp_ite.mp q
  rw [R.wp_bind] at q
  obtain ⟨as, ha, q⟩ := R.wp_eq q
  rw [R.wp_bind] at q
  refine ⟨F1, as, se.st.fh, args_erel se.st.er h t nd ha, R.wp_mono q fun y q F2 H2 v st vr vn => ?_⟩
  obtain ⟨hl, q⟩ := R.wp_ite.mp q
  obtain ⟨se', vr', nw'⟩ := call_step se h nw t nd ha (of_decide_eq_true hl) st vr vn
  exact q F2 H2 v se' ⟨vr', nw'⟩

/-- the def id of the module does as fn says -/
structure FnG (X : Cx) (k : Nat) (id : Str) (ps : List Str) (fn : Fn) : Prop where
  ex : ∃ (f : Addr) (fd : FuncData), FnQ X.prog X.w X.K X.mg X.base k f fd ps (spOf X.K fn) ∧ X.A.guards = some [] ∧ X.mg id = some (.ref f) ∧ PySem.W.keepIn X.K (.ref f) = true ∧ Binds X.K fd ps [] ∧
    (∀ p, ps = [p] → KBinds X.K fd ps ps (fun us ws => us ++ ws) (fun us ws => us ++ ws)) ∧
    (∀ p q, ps = [p, q] → ∀ (s : Shared) (u v : Value), BindsTo s fd ⟨[], [(p, u), (q, v)]⟩ [(p, u), (q, v)] ∧ BindsTo s fd ⟨[], [(q, v), (p, u)]⟩ [(p, u), (q, v)])
theorem s_call (C : Ctx) {f : Nat} {el : E} {id : Str} {p : Pos} {k : Nat} {ps : List Str} (G : FnG X k id ps (C.fn f)) (hr : Room k X.A) (hg : Gl X id) (hd : (id == ("__debug__" : Str)) = false) (hl : PA X (a :: es) (tAr X.K (evA C el)))
    (he : starEach (a :: es) X.env = (false, eval a X.env) :: starEach es X.env) (hpl : (backTo pos (starEach es X.env)).any (·.1) = false) : PE X (.Call (.Name id p) (a :: es) [] pos) (tO X.K (ev C (.call f el))) := by
  obtain ⟨f', fd, ok, hj, hm, hk, hb, _⟩ := G.ex
  refine PE.imp (q_call (E := E0) ok hr hj hg hm hk hb pass0 hl hd he hpl) fun σ H Q ⟨F, ρ, s, er, q⟩ => ?_
  simp only [ev] at q
  rw [R.wp_bind] at q
  refine ⟨F, ρ, s, er, R.wp_mono q fun x q F1 H1 vs se ors nws tds => ?_⟩
  exact call_sp se ors nws tds q
theorem s_call0 (C : Ctx) {f : Nat} {id : Str} {p : Pos} {k : Nat} {ps : List Str} (G : FnG X k id ps (C.fn f)) (hr : Room k X.A) (hg : Gl X id) (hd : (id == ("__debug__" : Str)) = false) : PE X (.Call (.Name id p) [] [] pos) (tO X.K (ev C (.call f .nil))) := by
  obtain ⟨f', fd, ok, hj, hm, hk, hb, _⟩ := G.ex
  refine PE.imp (q_call0 (E := E0) ok hr hj hg hm hk hb pass0 hd) fun σ H Q ⟨F, ρ, s, er, q⟩ => ?_
  simp only [ev, evA] at q
  rw [R.wp_bind] at q
  exact call_sp (E := E0) (SE.refl s er) .nil .nil .nil q
/-- f(k = e) -/
theorem s_callk (C : Ctx) {f : Nat} {ea : E} {id kw : Str} {p kp : Pos} {k : Nat} {ps : List Str} (G : FnG X k id ps (C.fn f)) (hkw : ps = [kw]) (hr : Room k X.A) (hg : Gl X id) (hd : (id == ("__debug__" : Str)) = false) (ha : PE X a (tO X.K (ev C ea))) :
    PE X (.Call (.Name id p) [] [⟨some kw, a, kp⟩] pos) (tO X.K (ev C (.callk f ea))) := by
  obtain ⟨f', fd, ok, hj, hm, hk, _, hb, _⟩ := G.ex
  subst hkw
  have hb := hb kw rfl
  refine ⟨fun pins s σ H Q I ⟨F, ρ, sm, er, q⟩ => ?_⟩
  simp only [ev] at q
  rw [R.wp_bind] at q
  refine wpAny_Call_Name_kw (ld_glob I hg hm ?_ hd)
  refine PySem.W.callWith_KW0 (h₀ := X.base) I.ok.mod.kin hk (by rfl) ?_ (by rfl)
  refine thn ((pk_cons (nm := some kw) (kpos := kp) ha pk_nil).run pos pins s σ H (fun zs H2 => ∃ v, zs = [v] ∧ spOf X.K (C.fn f) [v] H2 Q E0) I ⟨F, ρ, sm, er, R.wp_mono q fun x q F1 H1 v se ⟨hv, nv⟩ => ?_⟩) fun ws s2 ⟨zs, H2, I2, rz, v, e1, q2⟩ => ⟨I2.kIn, ?_⟩
  · exact ⟨v, rfl, call_sp se (.cons hv .nil) (.cons nv .nil) (.cons (fun a _ ⟨i, d, e, _⟩ => by simp at e) .nil) q⟩
  · subst e1
    exact q_runk (us := []) (xs := []) ok hr hj hb pass0 I2 .nil rz q2
end VI

set_option Elab.async false
set_option linter.all false
set_option autoImplicit false
set_option maxRecDepth 100000
set_option maxHeartbeats 4000000
/-! VSnd4: stores to slots, targets, comprehensions. -/
namespace VI
open PySem PySem.Spec PyProof.Rows L2
variable {X : Cx} {K : PySem.W.Frag} {F H F0 H0 F1 H1 F2 H2 F' H' : Hp} {ρ ρ0 ρ1 ρ2 ρ' : EnvD} {σ σ0 σ1 σ2 σ' : L2.St} {pos : Pos} {a b c : Expr} {es : List Expr}

/-! ### a slot is stored -/
theorem set_ok {i : Nat} {d : D} {fr : Bool} {v : V} (s : Stp K F0 H0 ρ0 σ0 F H ρ σ) (r : VR K F H ρ σ d fr v) (n : Nw H0 (.val d fr) v) (hi : i < ρ.length) : Stp K F0 H0 ρ0 σ0 F H (ρ.set i (some (d, fr))) (σ.set i (some v)) := by
  have hs : i < σ.length := by rw [← s.er.len]; exact hi
  have at_ : ∀ (j : Nat) (x : D × Bool), (ρ.set i (some (d, fr)))[j]? = some (some x) → (j = i ∧ x = (d, fr)) ∨ (j ≠ i ∧ ρ[j]? = some (some x)) := fun j x h => by
    by_cases hj : j = i
    · subst hj
      have := getset_self h
      exact .inl ⟨rfl, (Option.some.inj this).symm⟩
    · rw [getset_ne (Ne.symm hj)] at h
      exact .inr ⟨hj, h⟩
  have ne : ∀ {j : Nat}, j ≠ i → (σ.set i (some v))[j]? = σ[j]? := fun hj => getset_ne (Ne.symm hj)
  have self : (σ.set i (some v))[i]? = some (some v) := List.getElem?_set_self hs
  refine ⟨s.ff, s.fh, ⟨by simp [s.er.len], fun j x h => ?_, fun j x h => ?_, fun j k x y p h1 h2 h3 h4 => ?_⟩, s.fr, fun q ⟨j, x, h1, h2⟩ => ?_, s.gr⟩
  · rcases at_ j _ h with ⟨rfl, e⟩ | ⟨hj, e⟩
    · cases e; exact ⟨v, self, r⟩
    · obtain ⟨u, e1, q⟩ := s.er.frz j x e
      exact ⟨u, by rw [ne hj]; exact e1, q⟩
  · rcases at_ j _ h with ⟨rfl, e⟩ | ⟨hj, e⟩
    · cases e
      obtain ⟨p, rfl, ow, _⟩ := r
      exact ⟨p, self, ow⟩
    · obtain ⟨u, e1, q⟩ := s.er.own j x e
      exact ⟨u, by rw [ne hj]; exact e1, q⟩
  · rcases at_ j _ h1 with ⟨ej, e⟩ | ⟨hj, e⟩
    · rcases at_ k _ h2 with ⟨ek, e'⟩ | ⟨hk, e'⟩
      · rw [ej, ek]
      · cases e
        obtain ⟨p', rfl, ow, no⟩ := r
        rw [ej, self] at h3; cases h3
        rw [ne hk] at h4
        exact absurd ⟨k, y, e', h4⟩ no
    · rw [ne hj] at h3
      rcases at_ k _ h2 with ⟨ek, e'⟩ | ⟨hk, e'⟩
      · cases e'
        obtain ⟨p', rfl, ow, no⟩ := r
        rw [ek, self] at h4; cases h4
        exact absurd ⟨j, x, e, h3⟩ no
      · rw [ne hk] at h4
        exact s.er.dis j k x y p e e' h3 h4
  · rcases at_ j _ h1 with ⟨ej, e⟩ | ⟨hj, e⟩
    · cases e
      obtain ⟨p', rfl, ow, no⟩ := r
      rw [ej, self] at h2; cases h2
      exact .inr n
    · rw [ne hj] at h2
      exact s.os q ⟨j, x, e, h2⟩
theorem wipe_get {σ : L2.St} : ∀ {vs : List Nat} {j : Nat}, (wipe σ vs)[j]? = if j ∈ vs ∧ j < σ.length then some none else σ[j]?
  | [], j => by simp [wipe]
  | v :: vs, j => by
    have ih := wipe_get (σ := σ) (vs := vs) (j := j)
    show ((wipe σ vs).set v none)[j]? = _
    by_cases hj : v = j
    · subst hj
      by_cases hl : v < σ.length
      · rw [List.getElem?_set_self (by rw [wipe_length]; exact hl), if_pos ⟨List.mem_cons_self, hl⟩]
      · rw [List.getElem?_eq_none (by rw [List.length_set, wipe_length]; omega), if_neg (fun z => hl z.2), List.getElem?_eq_none (by omega)]
    · rw [getset_ne hj, ih]
      by_cases hm : j ∈ vs
      · by_cases hl : j < σ.length
        · rw [if_pos ⟨hm, hl⟩, if_pos ⟨List.mem_cons_of_mem _ hm, hl⟩]
        · rw [if_neg (fun z => hl z.2), if_neg (fun z => hl z.2)]
      · rw [if_neg (fun z => hm z.1), if_neg (fun z => by
          rcases List.mem_cons.mp z.1 with e | e
          · exact hj e.symm
          · exact hm e)]
theorem wipeD_length {ρ : EnvD} : ∀ vs : List Nat, (wipeD ρ vs).length = ρ.length
  | [] => rfl
  | v :: vs => by unfold wipeD; rw [List.length_set, wipeD_length vs]
theorem wipeD_some {ρ : EnvD} : ∀ {vs : List Nat} {j : Nat} {x : D × Bool}, (wipeD ρ vs)[j]? = some (some x) ↔ ρ[j]? = some (some x) ∧ j ∉ vs
  | [], j, x => by simp [wipeD]
  | v :: vs, j, x => by
    have ih := wipeD_some (ρ := ρ) (vs := vs) (j := j) (x := x)
    show ((wipeD ρ vs).set v none)[j]? = some (some x) ↔ _
    by_cases hj : v = j
    · subst hj
      constructor
      · intro h
        have := getset_self h
        cases this
      · intro h
        exact absurd List.mem_cons_self h.2
    · rw [getset_ne hj, ih, List.mem_cons]
      constructor
      · exact fun h => ⟨h.1, fun z => z.elim (fun e => hj e.symm) h.2⟩
      · exact fun h => ⟨h.1, fun z => h.2 (.inr z)⟩
theorem wipe_ne {σ : L2.St} {vs : List Nat} {j : Nat} (h : j ∉ vs) : (wipe σ vs)[j]? = σ[j]? := by rw [wipe_get, if_neg (fun z => h z.1)]
theorem wipe_ok {vs : List Nat} (s : Stp K F0 H0 ρ0 σ0 F H ρ σ) : Stp K F0 H0 ρ0 σ0 F H (wipeD ρ vs) (wipe σ vs) := by
  refine ⟨s.ff, s.fh, ⟨by rw [wipeD_length, wipe_length]; exact s.er.len, fun j x h => ?_, fun j x h => ?_, fun j k x y p h1 h2 h3 h4 => ?_⟩, s.fr, fun q ⟨j, x, h1, h2⟩ => ?_, s.gr⟩
  · obtain ⟨h, hj⟩ := wipeD_some.mp h
    obtain ⟨u, e1, q⟩ := s.er.frz j x h
    exact ⟨u, by rw [wipe_ne hj]; exact e1, q⟩
  · obtain ⟨h, hj⟩ := wipeD_some.mp h
    obtain ⟨u, e1, q⟩ := s.er.own j x h
    exact ⟨u, by rw [wipe_ne hj]; exact e1, q⟩
  · obtain ⟨h1, hj⟩ := wipeD_some.mp h1
    obtain ⟨h2, hk⟩ := wipeD_some.mp h2
    rw [wipe_ne hj] at h3
    rw [wipe_ne hk] at h4
    exact s.er.dis j k x y p h1 h2 h3 h4
  · obtain ⟨h1, hj⟩ := wipeD_some.mp h1
    rw [wipe_ne hj] at h2
    exact s.os q ⟨j, x, h1, h2⟩

/-! ### targets -/
def gSl : List Nat → TGs
  | [] => gNil
  | i :: is => gCons (gName i) (gSl is)
def gT (K : PySem.W.Frag) : Tg → TG
  | .nm i => gName i
  | .tp is => gTup K is.length (gSl is)
/-- the slots of σ' are those of σ but at vs -/
def Off (vs : List Nat) (σ σ' : L2.St) : Prop := σ'.length = σ.length ∧ ∀ j, j ∉ vs → σ'[j]? = σ[j]?
theorem Off.wipe {vs : List Nat} (h : Off vs σ σ') : wipe σ' vs = wipe σ vs := by
  apply List.ext_getElem?
  intro j
  rw [wipe_get, wipe_get, h.1]
  by_cases hj : j ∈ vs
  · by_cases hl : j < σ.length
    · rw [if_pos ⟨hj, hl⟩, if_pos ⟨hj, hl⟩]
    · rw [if_neg (fun z => hl z.2), if_neg (fun z => hl z.2), List.getElem?_eq_none (by rw [h.1]; omega), List.getElem?_eq_none (by omega)]
  · rw [if_neg (fun z => hj z.1), if_neg (fun z => hj z.1), h.2 j hj]
theorem Off.set {vs : List Nat} {i : Nat} {x : Option V} (hi : i ∈ vs) : Off vs σ (σ.set i x) := ⟨by simp, fun j hj => getset_ne (fun z => hj (z ▸ hi))⟩
theorem Off.trans {vs : List Nat} (h : Off vs σ σ1) (k : Off vs σ1 σ2) : Off vs σ σ2 := ⟨k.1.trans h.1, fun j hj => (k.2 j hj).trans (h.2 j hj)⟩
theorem Off.mono {vs us : List Nat} (h : Off vs σ σ1) (k : ∀ v ∈ vs, v ∈ us) : Off us σ σ1 := ⟨h.1, fun j hj => h.2 j fun z => hj (k j z)⟩
theorem Off.refl (vs : List Nat) (σ : L2.St) : Off vs σ σ := ⟨rfl, fun _ _ => rfl⟩
/-- which slots may be stored to -/
def Free (P : Keep) (vs : List Nat) : Prop := ∀ v ∈ vs, P.getD v false = false
theorem setSlot_ok {P : Keep} {i : Nat} {x : D × Bool} (h : setSlot P ρ i x = .ok ρ') : P.getD i false = false ∧ i < ρ.length ∧ ρ' = ρ.set i (some x) := by
  unfold setSlot at h
  cases hc : (canSet P i && decide (i < ρ.length)) with
  | false => rw [hc] at h; cases h
  | true =>
    rw [hc] at h
    simp only [Bool.and_eq_true, decide_eq_true_eq, canSet, Bool.not_eq_true'] at hc
    cases h
    exact ⟨hc.1, hc.2, rfl⟩
theorem dom_set {i : Nat} {x : D × Bool} : Dom ρ (ρ.set i (some x)) := fun j d h => by
  by_cases hj : i = j
  · subst hj; exact ⟨x, List.getElem?_set_self (List.getElem?_eq_some_iff.mp h).1⟩
  · exact ⟨d, by rw [getset_ne hj]; exact h⟩
theorem slots_ok {P : Keep} : ∀ {is : List Nat} {ds : List D} {vs : List V} {ρ ρ' : EnvD} {σ : L2.St} {Q : L2.St → Hp → Prop}, Stp K F0 H0 ρ0 σ0 F H ρ σ → Reps K F ds vs → setSlots P is ds ρ = .ok ρ' →
    (∀ σ', Stp K F0 H0 ρ0 σ0 F H ρ' σ' → Dom ρ ρ' → Off is σ σ' → Free P is → Q σ' H) → gSl is vs σ H Q
  | [], [], _, ρ, ρ', σ, Q, s, r, h, q => by
    cases h
    cases r
    exact ⟨rfl, q σ s (Dom.refl _) (Off.refl _ _) (fun _ z => nomatch z)⟩
  | [], _ :: _, _, _, _, _, _, _, _, h, _ => by cases h
  | _ :: _, [], _, _, _, _, _, _, _, h, _ => by cases h
  | i :: is, d :: ds, vs, ρ, ρ', σ, Q, s, r, h, q => by
    cases r with
    | @cons _ v _ vs' r rs =>
      simp only [setSlots] at h
      cases h1 : setSlot P ρ i (d, false) with
      | no => rw [h1] at h; cases h
      | ok ρ1 =>
        rw [h1] at h
        obtain ⟨hp, hi, rfl⟩ := setSlot_ok h1
        have s1 := set_ok (i := i) (fr := false) s r trivial hi
        refine ⟨v, vs', rfl, slots_ok s1 rs h fun σ' s' dm of fp => q σ' s' (dom_set.trans dm) ?_ ?_⟩
        · exact (Off.set List.mem_cons_self).trans (of.mono fun v hv => List.mem_cons_of_mem _ hv)
        · intro w hw
          rcases List.mem_cons.mp hw with e | e
          · rw [e]; exact hp
          · exact fp w e
theorem tg_ok {P : Keep} {tg : Tg} {d : D} {x : V} {Q : L2.St → Hp → Prop} (s : Stp K F0 H0 ρ0 σ0 F H ρ σ) (r : Rep K F d x) (h : bindT P tg d ρ = .ok ρ')
    (q : ∀ σ', Stp K F0 H0 ρ0 σ0 F H ρ' σ' → Dom ρ ρ' → Off tg.slots σ σ' → Free P tg.slots → Q σ' H) : gT K tg x σ H Q := by
  cases tg with
  | nm i =>
    obtain ⟨hp, hi, rfl⟩ := setSlot_ok h
    exact q _ (set_ok (fr := false) s r trivial hi) dom_set (Off.set List.mem_cons_self) (fun v hv => by rw [List.mem_singleton.mp hv]; exact hp)
  | tp is =>
    cases d <;> first | (cases h; done) | skip
    rename_i ds
    cases r with
    | tup ht r =>
      refine ⟨_, _, rfl, sqT_mono s.fh ht, ?_, slots_ok s r h q⟩
      rw [← r.length]
      have : ∀ {is : List Nat} {ds : List D} {ρ ρ' : EnvD}, setSlots P is ds ρ = .ok ρ' → ds.length = is.length := by
        intro is
        induction is with
        | nil => intro ds ρ ρ' h; cases ds; rfl; cases h
        | cons i is ih =>
          intro ds ρ ρ' h
          cases ds with
          | nil => cases h
          | cons d ds =>
            simp only [setSlots] at h
            cases h1 : setSlot P ρ i (d, false) with
            | no => rw [h1] at h; cases h
            | ok ρ1 => rw [h1] at h; simp [ih h]
      exact this h
/-- a container that no slot holds, newer than H0, is written -/
theorem write_tmp {q : Addr} {o o' : HO} (s : Stp K F0 H0 ρ0 σ0 F H ρ σ) (h : H q = some o) (n : F q = none) (no : ¬ OwnAt ρ σ q) (n0 : H0 q = none) : Stp K F0 H0 ρ0 σ0 F (upd H q o') ρ σ := by
  have fq : ∀ b u, F b = some u → b ≠ q := fun b u e z => by rw [z, n] at e; cases e
  refine ⟨s.ff, fun b u e => by rw [upd_ne (fq b u e)]; exact s.fh b u e, ⟨s.er.len, s.er.frz, fun j x e => ?_, s.er.dis⟩, fun b u h1 bx h2 h3 => ?_, s.os, fun b u e => ?_⟩
  · obtain ⟨p, e1, ow⟩ := s.er.own j x e
    refine ⟨p, e1, ow.keep (Same.refl F) (fun u z => ?_) ow.nF⟩
    rw [upd_ne (fun z => no ⟨j, x, e, by rw [e1, z]⟩)]
    exact z
  · obtain ⟨h4, h5⟩ := s.fr b u h1 bx h2 h3
    exact ⟨by rw [upd_ne (ne_of_none h1 n0)]; exact h4, h5⟩
  · obtain ⟨u', h'⟩ := s.gr b u e
    by_cases hb : b = q
    · subst hb; exact ⟨o', upd_same⟩
    · exact ⟨u', by rw [upd_ne hb]; exact h'⟩
theorem stp_grw (s : Stp K F0 H0 ρ0 σ0 F H ρ σ) (g : Grw F H F' H') : Stp K F0 H0 ρ0 σ0 F' H' ρ σ := s.trans (g.se s.er).st

/-! ### what is walked -/
/-- J yields the items ds, wherever F stands -/
def Yld (K : PySem.W.Frag) (F : Hp) (J : It) (ds : List D) : Prop := ∀ H', Same F H' → J.stop ds.length H' ∧ ∀ (i : Nat) (d : D), ds[i]? = some d → J.go i H' ∧ ∀ x H'', J.yld i H' x H'' →
  (H'' = H' ∧ Rep K F d x) ∨ ∃ p vs xs, H' p = none ∧ H'' = upd H' p (.tup vs) ∧ d = .tup xs ∧ x = .ref p ∧ Reps K F xs vs
def wI (K : PySem.W.Frag) (f : EnvD → R (List D × EnvD)) : TI := fun σ H R =>
  ∃ F ρ, Same F H ∧ ERel K F H ρ σ ∧ (f ρ).wp fun r => ∀ F' H' J, SE K σ F H ρ F' H' r.2 → Yld K F' J r.1 → R J H'
/-- an item comes -/
theorem yld_in {J : It} {ds : List D} {i : Nat} {d : D} {x : V} {H'' : Hp} (y : Yld K F1 J ds) (hd : ds[i]? = some d) (ff : Same F1 F) (s : Stp K F0 H0 ρ0 σ0 F H ρ σ) (h : J.yld i H x H'') : ∃ F', Grw F H F' H'' ∧ Rep K F' d x := by
  obtain ⟨_, hy⟩ := y H (ff.trans s.fh)
  rcases (hy i d hd).2 x H'' h with ⟨e, r⟩ | ⟨p, vs, xs, hp, e, ed, ex, r⟩
  · subst e
    exact ⟨F, Grw.refl s.fh, r.mono ff⟩
  · subst e ed ex
    obtain ⟨g, vn⟩ := grw_tup (K := K) s.fh hp (r.mono ff)
    exact ⟨_, g, vn⟩
end VI

set_option Elab.async false
set_option linter.all false
set_option autoImplicit false
set_option maxRecDepth 100000
set_option maxHeartbeats 4000000
/-! VZip: zip of a list and a tuple: what an iterator yields is abstracted (Src), the pair step is shown once. -/
namespace VI
open PySem PySem.Spec PyProof.Rows L2

/-- an iterator at u over the container at c -/
structure Src (P : Program) (w : World) (u c : Addr) (xs : Array Value) where
  st : Heap → Nat → Prop
  on : Heap → Prop
  stx : ∀ {g g' : Heap} {k : Nat} {b : Addr}, st g k → Heap.ExtBut b g g' → u ≠ b → st g' k
  sta : ∀ {g g' : Heap} {k : Nat}, st g k → (∀ o, g.get? u = some o → g'.get? u = some o) → st g' k
  onx : ∀ {g g' : Heap} {b : Addr}, on g → Heap.ExtBut b g g' → c ≠ b → on g'
  rec_ : ∀ {g : Heap} {k : Nat}, st g k → ∃ o, g.get? u = some o ∧ ∀ z, o.data ≠ .cell z
  item : ∀ (A : Around) (s : Shared) (E Q : Value → Shared → Prop) (k : Nat) (x : Value), st s.heap k → on s.heap → xs[k]? = some x →
    (∀ g', st g' (k + 1) → Heap.SameBut u s.heap g' → Q x { s with heap := g' }) → wpAny (model P w) A (Builtin.SmallTypes.nextOf (.ref u)) Q E s
  fin : ∀ (A : Around) (s : Shared) (E Q : Value → Shared → Prop) (k : Nat), A.handled = none → st s.heap k → on s.heap → xs[k]? = none →
    (∀ g' e, Heap.ExtBut u s.heap g' → (∃ o, g'.get? e = some o ∧ o.cls = .type "StopIteration") → E (.ref e) { s with heap := g' }) → wpAny (model P w) A (Builtin.SmallTypes.nextOf (.ref u)) Q E s
def srcL (P : Program) (w : World) (u c : Addr) (xs : Array Value) : Src P w u c xs where
  st := fun g k => g.IsListIter u c k
  on := fun g => g.IsList c xs
  stx := fun h e n => h.extBut e n
  sta := fun h e => h.at e
  onx := fun h e n => h.extBut e n
  rec_ := fun ⟨o, e, _, d⟩ => ⟨o, e, fun z q => by rw [d] at q; cases q⟩
  item := fun A s E Q k x h1 h2 h3 h4 => wpAny_nextOf_list_item h1 h2 h3 h4
  fin := fun A s E Q k hh h1 h2 h3 h4 => wpAny_nextOf_list_end hh h1 h2 h3 h4
def srcT (P : Program) (w : World) (u c : Addr) (xs : Array Value) : Src P w u c xs where
  st := fun g k => g.IsTupleIter u c k
  on := fun g => g.IsTuple c xs
  stx := fun h e n => h.extBut e n
  sta := fun h e => h.at e
  onx := fun h e n => h.extBut e n
  rec_ := fun ⟨o, e, _, d⟩ => ⟨o, e, fun z q => by rw [d] at q; cases q⟩
  item := fun A s E Q k x h1 h2 h3 h4 => RZ.nextOf_tuple_item h1 h2 h3 h4
  fin := fun A s E Q k hh h1 h2 h3 h4 => RZ.nextOf_tuple_end hh h1 h2 h3 h4

section
variable {P : Program} {w : World} {A : Around} {s : Shared} {zz ti to u1 u2 c1 c2 : Addr} {xs ys : Array Value} {k1 k2 : Nat} {p q : Value}
theorem zipS_item {E : Value → Shared → Prop} {x y : Value} {Q : Value → Shared → Prop} (S1 : Src P w u1 c1 xs) (S2 : Src P w u2 c2 ys) (D : ZipApart zz ti to u1 u2 c1 c2)
    (hz : IsZip s.heap zz ti to .none) (ht : IsPair s.heap ti (.ref u1) (.ref u2)) (ho : IsPair s.heap to p q)
    (a1 : S1.st s.heap k1) (a2 : S2.st s.heap k2) (b1 : S1.on s.heap) (b2 : S2.on s.heap) (hx : xs[k1]? = some x) (hy : ys[k2]? = some y)
    (hQ : ∀ g, IsZip g zz ti to (rawInt s.heap.objs.size) → IsPair g to x y → S1.st g (k1 + 1) → S2.st g (k2 + 1) → IsPair g s.heap.objs.size x y → g.objs.size = s.heap.objs.size + 1 →
      (∀ b o, b ≠ zz → b ≠ to → b ≠ u1 → b ≠ u2 → s.heap.get? b = some o → g.get? b = some o) → Q (.ref s.heap.objs.size) { s with heap := g }) :
    wpAny (model P w) A (Builtin.«zip.__next__» ⟨[.ref zz], []⟩) (fun r s' => ∃ v, r = .done (.ret v) ∧ Q v s') E s := by
  show wpAny _ _ (field (.ref zz) 2 >>= _) _ _ _
  refine wpAny_bind (wpAny_field (x := .bool false) hz rfl rfl ?_)
  show wpAny _ _ (field (.ref zz) 3 >>= _) _ _ _
  refine wpAny_bind (wpAny_field (x := .ref ti) hz rfl rfl ?_)
  refine wpAny_bind (wpAny_seqItems ht rfl ?_)
  show wpAny _ _ (Builtin.SmallTypes.ownedTupleIsFree (.ref zz) >>= _) _ _ _
  refine wpAny_bind ?_
  unfold Builtin.SmallTypes.ownedTupleIsFree
  refine wpAny_bind (wpAny_field (x := .none) hz rfl rfl (wpAny_pure ?_))
  simp only [if_true]
  refine wpAny_bind (wpAny_rule ?_)
  refine wpAny_bind (wpAny_field (x := .ref to) hz rfl rfl ?_)
  refine wpAny_bind (wpAny_setField_rec hz (by simp) fun g1 hz1 s1 => ?_)
  replace hz1 : IsZip g1 zz ti to .ellipsis := hz1
  have e1 := s1.extBut
  refine wpAny_bind ?_
  simp only [List.zipIdx_cons, List.zipIdx_nil, List.forIn_cons, List.forIn_nil]
  -- the first
  refine wpAny_bind (wpAny_bind (wpAny_onRaise ?_))
  show wpAny _ _ (Builtin.SmallTypes.nextOf (.ref u1) >>= _) _ _ _
  refine wpAny_bind (S1.item _ _ _ _ k1 x (S1.stx a1 e1 D.i1z) (S1.onx b1 e1 D.l1z) hx fun g2 t2 s2 => wpAny_pure ?_)
  have e2 := s2.extBut
  have o2 : IsPair g2 to p q := e2 _ _ D.TOi1 (e1 _ _ D.TOz ho)
  refine wpAny_bind (wpAny_seqItems o2 rfl ?_)
  refine wpAny_bind (wpAny_updateSeq_pair o2 fun g3 o3 s3 => ?_)
  replace o3 : IsPair g3 to x q := o3
  have e3 := s3.extBut
  refine wpAny_bind (wpAny_letGo (wpAny_pure ?_))
  -- the second
  refine wpAny_bind (wpAny_bind (wpAny_onRaise ?_))
  show wpAny _ _ (Builtin.SmallTypes.nextOf (.ref u2) >>= _) _ _ _
  refine wpAny_bind (S2.item _ _ _ _ k2 y (S2.stx (S2.stx (S2.stx a2 e1 D.i2z) e2 D.i12.symm) e3 D.TOi2.symm) (S2.onx (S2.onx (S2.onx b2 e1 D.l2z) e2 D.l2i1) e3 D.l2TO) hy fun g4 t4 s4 => wpAny_pure ?_)
  have e4 := s4.extBut
  have o4 : IsPair g4 to x q := e4 _ _ D.TOi2 o3
  refine wpAny_bind (wpAny_seqItems o4 rfl ?_)
  refine wpAny_bind (wpAny_updateSeq_pair o4 fun g5 o5 s5 => ?_)
  replace o5 : IsPair g5 to x y := o5
  have e5 := s5.extBut
  refine wpAny_bind (wpAny_letGo (wpAny_pure (wpAny_pure ?_)))
  -- the pair
  refine wpAny_bind (wpAny_seqItems o5 rfl ?_)
  refine wpAny_bind (wpAny_newTuple ?_)
  have size : g5.objs.size = s.heap.objs.size := by rw [s5.1, s4.1, s3.1, s2.1, s1.1]
  have z5 : IsZip g5 zz ti to .ellipsis := e5 _ _ D.TOz.symm (e4 _ _ D.i2z.symm (e3 _ _ D.TOz.symm (e2 _ _ D.i1z.symm hz1)))
  have old : ∀ b o, b ≠ zz → b ≠ to → b ≠ u1 → b ≠ u2 → s.heap.get? b = some o → g5.get? b = some o := fun b o n1 n2 n3 n4 z =>
    e5 _ _ n2 (e4 _ _ n4 (e3 _ _ n2 (e2 _ _ n3 (e1 _ _ n1 z))))
  have t5 : S1.st g5 (k1 + 1) := S1.stx (S1.stx (S1.stx t2 e3 D.TOi1.symm) e4 D.i12) e5 D.TOi1.symm
  have t6 : S2.st g5 (k2 + 1) := S2.stx t4 e5 D.TOi2.symm
  have lt : zz < g5.objs.size := Heap.lt_size z5
  show wpAny _ _ (Builtin.SmallTypes.ownedTupleHandOut (.ref zz) (.ref g5.objs.size) >>= _) _ _ _
  refine wpAny_bind ?_
  unfold Builtin.SmallTypes.ownedTupleHandOut
  have z6 : IsZip (g5.push { cls := .type "tuple", data := .seq #[x, y] }) zz ti to .ellipsis := Heap.get?_push_of_some _ z5
  refine wpAny_bind (wpAny_setField_rec z6 (by simp) fun g7 z7 s7 => ?_)
  replace z7 : IsZip g7 zz ti to (rawInt g5.objs.size) := z7
  refine wpAny_setField_rec z7 (by simp) fun g8 z8 s8 => ?_
  replace z8 : IsZip g8 zz ti to (rawInt g5.objs.size) := z8
  have up : ∀ b o, b ≠ zz → g5.get? b = some o → g8.get? b = some o := fun b o n z => s8.extBut _ _ n (s7.extBut _ _ n (Heap.get?_push_of_some _ z))
  have new : IsPair g8 g5.objs.size x y := s8.extBut _ _ (Nat.ne_of_gt lt) (s7.extBut _ _ (Nat.ne_of_gt lt) (Heap.get?_push_size _ rfl))
  have size8 : g8.objs.size = g5.objs.size + 1 := by rw [s8.1, s7.1, Heap.size_push]
  rw [size] at z8 new size8
  refine wpAny_pure ⟨_, rfl, ?_⟩
  show Q (.ref g5.objs.size) _
  rw [size]
  exact hQ g8 z8 (up _ _ D.TOz o5) (S1.sta t5 fun o e => up _ o D.i1z e) (S2.sta t6 fun o e => up _ o D.i2z e) new size8 fun b o n1 n2 n3 n4 e => up b o n1 (old b o n1 n2 n3 n4 e)
theorem zipS_end {E : Value → Shared → Prop} {Q : Fin → Shared → Prop} (S1 : Src P w u1 c1 xs) (S2 : Src P w u2 c2 ys) (hh : A.handled = none) (D : ZipApart zz ti to u1 u2 c1 c2)
    (hz : IsZip s.heap zz ti to .none) (ht : IsPair s.heap ti (.ref u1) (.ref u2)) (ho : IsPair s.heap to p q)
    (a1 : S1.st s.heap k1) (a2 : S2.st s.heap k2) (b1 : S1.on s.heap) (b2 : S2.on s.heap) (out : xs[k1]? = none ∨ ys[k2]? = none)
    (hE : ∀ g e, (∀ b o, b ≠ zz → b ≠ to → b ≠ u1 → b ≠ u2 → s.heap.get? b = some o → g.get? b = some o) → (∃ o, g.get? e = some o ∧ o.cls = .type "StopIteration") → E (.ref e) { s with heap := g }) :
    wpAny (model P w) A (Builtin.«zip.__next__» ⟨[.ref zz], []⟩) Q E s := by
  show wpAny _ _ (field (.ref zz) 2 >>= _) _ _ _
  refine wpAny_bind (wpAny_field (x := .bool false) hz rfl rfl ?_)
  show wpAny _ _ (field (.ref zz) 3 >>= _) _ _ _
  refine wpAny_bind (wpAny_field (x := .ref ti) hz rfl rfl ?_)
  refine wpAny_bind (wpAny_seqItems ht rfl ?_)
  show wpAny _ _ (Builtin.SmallTypes.ownedTupleIsFree (.ref zz) >>= _) _ _ _
  refine wpAny_bind ?_
  unfold Builtin.SmallTypes.ownedTupleIsFree
  refine wpAny_bind (wpAny_field (x := .none) hz rfl rfl (wpAny_pure ?_))
  simp only [if_true]
  refine wpAny_bind (wpAny_rule ?_)
  refine wpAny_bind (wpAny_field (x := .ref to) hz rfl rfl ?_)
  refine wpAny_bind (wpAny_setField_rec hz (by simp) fun g1 hz1 s1 => ?_)
  replace hz1 : IsZip g1 zz ti to .ellipsis := hz1
  have e1 := s1.extBut
  refine wpAny_bind ?_
  simp only [List.zipIdx_cons, List.zipIdx_nil, List.forIn_cons, List.forIn_nil]
  refine wpAny_bind (wpAny_bind (wpAny_onRaise ?_))
  show wpAny _ _ (Builtin.SmallTypes.nextOf (.ref u1) >>= _) _ _ _
  cases hx : xs[k1]? with
  | none =>
    refine wpAny_bind (S1.fin _ _ _ _ k1 hh (S1.stx a1 e1 D.i1z) (S1.onx b1 e1 D.l1z) hx fun g2 e e2 he => ?_)
    obtain ⟨oe, h1, h2⟩ := he
    have z2 : IsZip g2 zz ti to .ellipsis := e2 _ _ D.i1z.symm hz1
    have ne : e ≠ zz := fun z => by subst z; rw [z2] at h1; cases h1; simp at h2
    refine wpAny_setField_rec z2 (by simp) fun g3 _ s3 => ?_
    exact hE g3 e (fun b o n1 _ n3 _ z => s3.extBut _ _ n1 (e2 _ _ n3 (e1 _ _ n1 z))) ⟨oe, s3.extBut _ _ ne h1, h2⟩
  | some x =>
    have hy : ys[k2]? = none := out.elim (fun z => by rw [hx] at z; cases z) id
    refine wpAny_bind (S1.item _ _ _ _ k1 x (S1.stx a1 e1 D.i1z) (S1.onx b1 e1 D.l1z) hx fun g2 t2 s2 => wpAny_pure ?_)
    have e2 := s2.extBut
    have o2 : IsPair g2 to p q := e2 _ _ D.TOi1 (e1 _ _ D.TOz ho)
    refine wpAny_bind (wpAny_seqItems o2 rfl ?_)
    refine wpAny_bind (wpAny_updateSeq_pair o2 fun g3 o3 s3 => ?_)
    have e3 := s3.extBut
    refine wpAny_bind (wpAny_letGo (wpAny_pure ?_))
    refine wpAny_bind (wpAny_bind (wpAny_onRaise ?_))
    show wpAny _ _ (Builtin.SmallTypes.nextOf (.ref u2) >>= _) _ _ _
    refine wpAny_bind (S2.fin _ _ _ _ k2 hh (S2.stx (S2.stx (S2.stx a2 e1 D.i2z) e2 D.i12.symm) e3 D.TOi2.symm) (S2.onx (S2.onx (S2.onx b2 e1 D.l2z) e2 D.l2i1) e3 D.l2TO) hy fun g4 e e4 he => ?_)
    obtain ⟨oe, h1, h2⟩ := he
    have z4 : IsZip g4 zz ti to .ellipsis := e4 _ _ D.i2z.symm (e3 _ _ D.TOz.symm (e2 _ _ D.i1z.symm hz1))
    have ne : e ≠ zz := fun z => by subst z; rw [z4] at h1; cases h1; simp at h2
    refine wpAny_setField_rec z4 (by simp) fun g5 _ s5 => ?_
    exact hE g5 e (fun b o n1 n2 n3 n4 z => s5.extBut _ _ n1 (e4 _ _ n4 (e3 _ _ n2 (e2 _ _ n3 (e1 _ _ n1 z))))) ⟨oe, s5.extBut _ _ ne h1, h2⟩
theorem nextS_item {E : Value → Shared → Prop} {x y : Value} {Q : Option Value → Shared → Prop} (S1 : Src P w u1 c1 xs) (S2 : Src P w u2 c2 ys) (D : ZipApart zz ti to u1 u2 c1 c2)
    (hz : IsZip s.heap zz ti to .none) (ht : IsPair s.heap ti (.ref u1) (.ref u2)) (ho : IsPair s.heap to p q)
    (a1 : S1.st s.heap k1) (a2 : S2.st s.heap k2) (b1 : S1.on s.heap) (b2 : S2.on s.heap) (hx : xs[k1]? = some x) (hy : ys[k2]? = some y)
    (hQ : ∀ g, IsZip g zz ti to (rawInt s.heap.objs.size) → IsPair g to x y → S1.st g (k1 + 1) → S2.st g (k2 + 1) → IsPair g s.heap.objs.size x y → g.objs.size = s.heap.objs.size + 1 →
      (∀ b o, b ≠ zz → b ≠ to → b ≠ u1 → b ≠ u2 → s.heap.get? b = some o → g.get? b = some o) → Q (some (.ref s.heap.objs.size)) { s with heap := g }) :
    wpAny (model P w) A (pyNext (.ref zz)) Q E s := by
  have ty : s.TypeIs (.ref zz) "zip" := ⟨_, hz, rfl⟩
  unfold pyNext
  refine wpAny_bind (wpAny_attempt (wpAny_callSpecial?_slot (name := Str.ofString "__next__") ty F.slot_zip_next (wpAny_call_entry F.slot_zip_next ty F.entry_zip_next ?_ (F.args_zip_next_1 _))))
  exact zipS_item S1 S2 D hz ht ho a1 a2 b1 b2 hx hy fun g r1 r2 r3 r4 r5 r6 r7 => wpAny_pure (hQ g r1 r2 r3 r4 r5 r6 r7)
theorem nextS_end {E : Value → Shared → Prop} {Q : Option Value → Shared → Prop} (S1 : Src P w u1 c1 xs) (S2 : Src P w u2 c2 ys) (hh : A.handled = none) (D : ZipApart zz ti to u1 u2 c1 c2)
    (hz : IsZip s.heap zz ti to .none) (ht : IsPair s.heap ti (.ref u1) (.ref u2)) (ho : IsPair s.heap to p q)
    (a1 : S1.st s.heap k1) (a2 : S2.st s.heap k2) (b1 : S1.on s.heap) (b2 : S2.on s.heap) (out : xs[k1]? = none ∨ ys[k2]? = none)
    (hQ : ∀ g, (∀ b o, b ≠ zz → b ≠ to → b ≠ u1 → b ≠ u2 → s.heap.get? b = some o → g.get? b = some o) → Q none { s with heap := g }) : wpAny (model P w) A (pyNext (.ref zz)) Q E s := by
  have ty : s.TypeIs (.ref zz) "zip" := ⟨_, hz, rfl⟩
  unfold pyNext
  refine wpAny_bind (wpAny_attempt (wpAny_callSpecial?_slot (name := Str.ofString "__next__") ty F.slot_zip_next (wpAny_call_entry F.slot_zip_next ty F.entry_zip_next ?_ (F.args_zip_next_1 _))))
  refine zipS_end S1 S2 hh D hz ht ho a1 a2 b1 b2 out fun g e k ⟨o, h1, h2⟩ => ?_
  exact wpAny_bind (wpAny_isInstance (T := "StopIteration") (b := true) ⟨o, h1, h2⟩ isSubtype_stop (wpAny_pure (hQ _ k)))
end

/-! ### the walk -/
/-- the list at a and the tuple at b, in pairs -/
def ItzM (K : PySem.W.Frag) (a b : Addr) : It :=
  ⟨fun i H => ∃ (xs ys : List V) (x y : V), SqL K H a xs ∧ SqT K H b ys ∧ xs[i]? = some x ∧ ys[i]? = some y,
    fun i H v H' => ∃ p x y, v = .ref p ∧ H p = none ∧ H' = upd H p (.tup [x, y]) ∧ (∀ xs, SqL K H a xs → xs[i]? = some x) ∧ ∀ ys, SqT K H b ys → ys[i]? = some y,
    fun i H => ∃ xs ys : List V, SqL K H a xs ∧ SqT K H b ys ∧ (xs.length ≤ i ∨ ys.length ≤ i)⟩
theorem mem5 {zz ti to u1 u2 c : Addr} (h : c ∈ [zz, ti, to, u1, u2]) : c = zz ∨ c = ti ∨ c = to ∨ c = u1 ∨ c = u2 := by simpa using h
theorem turn_zipM {P : Program} {w : World} {K : PySem.W.Frag} {elts : List Expr} {kk : Nat} {tpos : Pos} {a b zz ti to u1 u2 : Addr} (D : ZipApart zz ti to u1 u2 a b) :
    Turn P w K (.Tuple elts kk tpos) (ItzM K a b) [zz, ti, to, u1, u2] zz (fun i g => IsZip g zz ti to .none ∧ IsPair g ti (.ref u1) (.ref u2) ∧ (∃ x y, IsPair g to x y) ∧ g.IsListIter u1 a i ∧ g.IsTupleIter u2 b i) where
  mem := List.mem_cons_self
  obj := fun i g ⟨h1, h2, ⟨x, y, h3⟩, ⟨o4, h4, _, d4⟩, ⟨o5, h5, _, d5⟩⟩ c hc => by
    rcases mem5 hc with rfl | rfl | rfl | rfl | rfl
    · exact ⟨_, h1, fun v z => nomatch z⟩
    · exact ⟨_, h2, fun v z => nomatch z⟩
    · exact ⟨_, h3, fun v z => nomatch z⟩
    · exact ⟨_, h4, fun v z => by rw [d4] at z; cases z⟩
    · exact ⟨_, h5, fun v z => by rw [d5] at z; cases z⟩
  keep := fun i g g' ⟨h1, h2, ⟨x, y, h3⟩, h4, h5⟩ k => ⟨k zz (by simp) _ h1, k ti (by simp) _ h2, ⟨x, y, k to (by simp) _ h3⟩, h4.at fun o e => k u1 (by simp) o e, h5.at fun o e => k u2 (by simp) o e⟩
  item := by
    intro X hP hw hK hc i pins s σ H E I hf ⟨h1, h2, ⟨x0, y0, h3⟩, h4, h5⟩ ⟨xs, ys, x, y, qx, qy, hx, hy⟩
    subst hP hw hK
    obtain ⟨its, rv, pl, _⟩ := I.list qx
    obtain ⟨its2, rv2, pt, _⟩ := I.tuple qy
    obtain ⟨u, hu, ru⟩ := rv.get hx
    obtain ⟨u', hu', ru'⟩ := rv2.get hy
    have lz : zz < s.heap.objs.size := Heap.lt_size h1
    refine nextS_item (srcL X.prog X.w u1 a its.toArray) (srcT X.prog X.w u2 b its2.toArray) D h1 h2 h3 h4 h5 pl.isList (show s.heap.IsTuple b its2.toArray from pt) (x := u) (y := u') (by simpa using hu) (by simpa using hu') fun g r1 r2 r3 r4 r5 r6 r7 => ?_
    refine ⟨_, rfl, wpAny_letOwnedTupleGo_zip (s := { s with heap := g }) r1 fun g' r1' sb => ?_⟩
    have new : g'.get? s.heap.objs.size = some { cls := .type "tuple", data := .seq #[u, u'] } := (sb.2 _ (Nat.ne_of_gt lz)).trans r5
    have ok : ObjOk X.prog X.w (upd H s.heap.objs.size (.tup [x, y])) g' s.heap.objs.size (.tup [x, y]) := ⟨by show 2 ≤ sizeLine; decide, [u, u'], .cons ru (.cons ru' .nil), ⟨_, new, rfl, _, rfl⟩⟩
    have I1 : Inv X pins σ (upd H s.heap.objs.size (.tup [x, y])) { s with heap := g' } := I.turnedNew (t' := s.toks) (ch := [zz, ti, to, u1, u2])
      (fun c o n e => (sb.2 c fun z => n (by rw [z]; simp)).trans (r7 c o (fun z => n (by rw [z]; simp)) (fun z => n (by rw [z]; simp)) (fun z => n (by rw [z]; simp)) (fun z => n (by rw [z]; simp)) e)) hf (Nat.le_refl _) ok
    refine ⟨.ref s.heap.objs.size, _, I1, rfl, ⟨_, x, y, rfl, I.hok.fresh (Nat.le_refl _), rfl, fun l hl => by rw [I.list_inj hl qx]; exact hx, fun l hl => by rw [I.tuple_inj hl qy]; exact hy⟩, ⟨r1', ?_, ⟨u, u', ?_⟩, ?_, ?_⟩, fun c hm => ?_⟩
    · exact (sb.2 _ D.TIz).trans (r7 _ _ D.TIz D.TITO D.TIi1 D.TIi2 h2)
    · exact (sb.2 _ D.TOz).trans r2
    · exact Heap.IsListIter.at r3 fun o e => (sb.2 _ D.i1z).trans e
    · exact Heap.IsTupleIter.at r4 fun o e => (sb.2 _ D.i2z).trans e
    · have lt : c < s.heap.objs.size := by
        rcases mem5 hm with rfl | rfl | rfl | rfl | rfl
        · exact lz
        · exact Heap.lt_size h2
        · exact Heap.lt_size h3
        · obtain ⟨_, e, _⟩ := h4; exact Heap.lt_size e
        · obtain ⟨_, e, _⟩ := h5; exact Heap.lt_size e
      rw [upd_ne (Nat.ne_of_lt lt)]
      exact (hf c hm).1
  done := by
    intro X hP hw hK hc i pins s σ H E I hf ⟨h1, h2, ⟨x0, y0, h3⟩, h4, h5⟩ ⟨xs, ys, qx, qy, out⟩
    subst hP hw hK
    obtain ⟨its, rv, pl, _⟩ := I.list qx
    obtain ⟨its2, rv2, pt, _⟩ := I.tuple qy
    have n1 := rv.length
    have n2 := rv2.length
    refine nextS_end (srcL X.prog X.w u1 a its.toArray) (srcT X.prog X.w u2 b its2.toArray) (I.ok.hd hc) D h1 h2 h3 h4 h5 pl.isList (show s.heap.IsTuple b its2.toArray from pt) (out.imp (fun z => by simp; omega) fun z => by simp; omega) fun g k => ⟨rfl, ?_⟩
    exact I.turnedL (t' := s.toks) (ch := [zz, ti, to, u1, u2]) (fun c o n e => k c o (fun z => n (by rw [z]; simp)) (fun z => n (by rw [z]; simp)) (fun z => n (by rw [z]; simp)) (fun z => n (by rw [z]; simp)) e) hf
  self := fun A i s Q E h k => wpAny_pyIter_zip h.1 k

/-! ### the call -/
abbrev zM1 (g : Heap) (a : Addr) : Heap := g.push { cls := .type "list_iterator", data := .fields #[.ref a, .int 0 0] }
abbrev zM2 (g : Heap) (a b : Addr) : Heap := (zM1 g a).push { cls := .type "tuple_iterator", data := .fields #[.ref b, .int 0 0] }
abbrev zM3 (g : Heap) (a b : Addr) : Heap := (zM2 g a b).push { cls := .type "tuple", data := .seq #[.ref g.objs.size, .ref (zM1 g a).objs.size] }
abbrev zM4 (g : Heap) (a b : Addr) : Heap := (zM3 g a b).push { cls := .type "tuple", data := .seq #[.none, .none] }
abbrev zM5 (g : Heap) (a b : Addr) : Heap := (zM4 g a b).push { cls := .type "zip", data := .fields #[.none, .bool false, .bool false, .ref (zM2 g a b).objs.size, .ref (zM3 g a b).objs.size] }
theorem meets_zipM (a b : Addr) (xs ys : Array Value) :
    Meets (Builtin.«zip.__new__» ⟨[.type "zip", .ref a, .ref b], []⟩) (fun _ R s => s.heap.IsList a xs ∧ s.heap.IsTuple b ys ∧ R (.ok (.ret (.ref (zM4 s.heap a b).objs.size))) { s with heap := zM5 s.heap a b }) :=
  .of_wp fun prog w A R s h => by
    obtain ⟨hp, g, d, tk, os⟩ := s; obtain ⟨la, lb, h⟩ := h
    have sub := sub_zip
    have ha : Heap.IsList (Shared.heap ⟨hp, g, d, tk, os⟩) a xs := la
    have hb : Heap.IsTuple (Shared.heap ⟨hp.push { cls := .type "list_iterator", data := .fields #[.ref a, .int 0 0] }, g, d, tk, os⟩) b ys := Heap.IsTuple.push lb _
    wp_walk using wpAny_pyIter_list ha, wpAny_pyIter_tuple hb
    exact ⟨_, rfl, h⟩
theorem call_zipM {prog : Program} {w : World} {A : Around} {E : Value → Shared → Prop} {s : Shared} {a b : Addr} {xs ys : Array Value} {Q : Value → Shared → Prop} (ha : s.heap.IsList a xs) (hb : s.heap.IsTuple b ys)
    (h : ∀ g, IsZip g (s.heap.objs.size + 4) (s.heap.objs.size + 2) (s.heap.objs.size + 3) .none → IsPair g (s.heap.objs.size + 2) (.ref s.heap.objs.size) (.ref (s.heap.objs.size + 1)) → IsPair g (s.heap.objs.size + 3) .none .none →
      g.IsListIter s.heap.objs.size a 0 → g.IsTupleIter (s.heap.objs.size + 1) b 0 → (∀ c o, s.heap.get? c = some o → g.get? c = some o) → Q (.ref (s.heap.objs.size + 4)) { s with heap := g }) :
    wpAny (model prog w) A (call (.type "zip") [.ref a, .ref b]) Q E s := by
  refine callType_new F.called_zip (by decide) (F.typeCall_zip_2 _ _) (F.newCall_zip_2 _ _) (fun obj => F.args_object_init_3 obj _ _) F.entry_zip_new (meets_zipM a b xs ys) ⟨ha, hb, ?_⟩
  have n1 : (zM1 s.heap a).objs.size = s.heap.objs.size + 1 := Heap.size_push ..
  have n2 : (zM2 s.heap a b).objs.size = s.heap.objs.size + 2 := by rw [Heap.size_push, n1]
  have n3 : (zM3 s.heap a b).objs.size = s.heap.objs.size + 3 := by rw [Heap.size_push, n2]
  have n4 : (zM4 s.heap a b).objs.size = s.heap.objs.size + 4 := by rw [Heap.size_push, n3]
  have at5 : (zM5 s.heap a b).get? (zM4 s.heap a b).objs.size = some _ := Heap.get?_push_size _ rfl
  have at4 : (zM5 s.heap a b).get? (zM3 s.heap a b).objs.size = some _ := Heap.get?_push_of_some _ (Heap.get?_push_size _ rfl)
  have at3 : (zM5 s.heap a b).get? (zM2 s.heap a b).objs.size = some _ := Heap.get?_push_of_some _ (Heap.get?_push_of_some _ (Heap.get?_push_size _ rfl))
  have at2 : (zM5 s.heap a b).get? (zM1 s.heap a).objs.size = some _ := Heap.get?_push_of_some _ (Heap.get?_push_of_some _ (Heap.get?_push_of_some _ (Heap.get?_push_size _ rfl)))
  have at1 : (zM5 s.heap a b).get? s.heap.objs.size = some _ := Heap.get?_push_of_some _ (Heap.get?_push_of_some _ (Heap.get?_push_of_some _ (Heap.get?_push_of_some _ (Heap.get?_push_size _ rfl))))
  have grow : ∀ c o, s.heap.get? c = some o → (zM5 s.heap a b).get? c = some o := fun c o z => Heap.get?_push_of_some _ (Heap.get?_push_of_some _ (Heap.get?_push_of_some _ (Heap.get?_push_of_some _ (Heap.get?_push_of_some _ z))))
  show _ ∧ _
  rw [n2, n3, n4] at at5
  rw [n3] at at4
  rw [n1, n2] at at3
  rw [n1] at at2
  rw [n4]
  exact ⟨⟨_, at5, rfl⟩, h _ at5 at3 at4 ⟨_, at1, rfl, rfl⟩ ⟨_, at2, rfl, rfl⟩ grow⟩
def iZipM (K : PySem.W.Frag) (ta : TA) : TI := fun σ H R => ta σ H fun vs H1 => ∃ a b xs ys, vs = [.ref a, .ref b] ∧ SqL K H1 a xs ∧ SqT K H1 b ys ∧ R (ItzM K a b) H1
theorem pi_zipM {X : Cx} {e e2 : Expr} {ta : TA} {p pos tpos : Pos} {elts : List Expr} {kk : Nat} (hg : Gl X "zip") (hm : X.mg "zip" = none) (ha : PA X [e, e2] ta)
    (hs : starEach [e, e2] X.env = (false, eval e X.env) :: starEach [e2] X.env) (hpl : (backTo pos (starEach [e2] X.env)).any (·.1) = false) : PI X (.Tuple elts kk tpos) (.Call (.Name "zip" p) [e, e2] [] pos) (iZipM X.K ta) := by
  refine ⟨fun pins s σ H R I h => ?_⟩
  refine Call_ (ld_blt I hg hm PyProof.Rows.boot_zip (PyProof.Rows.callWith_type1 (thn (ha.run pos pins s σ H _ I h) fun us s1 ⟨vs, H1, I1, r1, a, b, xs, ys, ex, qx, qy, q⟩ => ?_) hs hpl))
  subst ex
  cases r1 with
  | cons r rr =>
    cases rr with
    | cons r' rr =>
      cases rr
      cases r
      cases r'
      obtain ⟨its, rv, pl, _⟩ := I1.list qx
      obtain ⟨its2, rv2, pt, _⟩ := I1.tuple qy
      obtain ⟨o2, h2, _⟩ := id pt
      refine call_zipM pl.isList (show s1.heap.IsTuple b its2.toArray from pt) fun g r1 r2 r3 r4 r5 k => wpAny_pyIter_zip r1 ?_
      have I2 : Inv X pins σ H1 { s1 with heap := g } := I1.kept (t' := s1.toks) k
      refine ⟨s1.heap.objs.size + 4, [s1.heap.objs.size + 4, s1.heap.objs.size + 2, s1.heap.objs.size + 3, s1.heap.objs.size, s1.heap.objs.size + 1], _, _, H1, rfl, I2, turn_zipM (PySem.W.ktu_apart s1.heap.objs.size a b pl.lt (Heap.lt_size h2)), ⟨r1, r2, ⟨_, _, r3⟩, r4, r5⟩, fun c hc => ?_, q⟩
      have le : s1.heap.objs.size ≤ c := by
        rcases mem5 hc with rfl | rfl | rfl | rfl | rfl <;> first | exact Nat.le_refl _ | exact Nat.le_add_right _ _
      exact I1.fpOk le (I1.hok.fresh le)
end VI

set_option Elab.async false
set_option linter.all false
set_option autoImplicit false
set_option maxRecDepth 100000
set_option maxHeartbeats 4000000
/-! VSnd5: what is walked; comprehensions. -/
namespace VI
open PySem PySem.Spec PyProof.Rows L2
variable {X : Cx} {K : PySem.W.Frag} {F H F0 H0 F1 H1 F2 H2 F' H' : Hp} {ρ ρ0 ρ1 ρ2 ρ' : EnvD} {σ σ0 σ1 σ2 σ' : L2.St} {pos : Pos} {a b c : Expr} {es : List Expr}

/-! ### what is walked -/
theorem yld_list {p : Addr} {ds : List D} {vs : List V} (hp : F p = some (.lst vs)) (r : Reps K F ds vs) : Yld K F (Itl K p) ds := fun H' s => by
  have q : SqL K H' p vs := SqL.of (s p _ hp)
  refine ⟨⟨vs, q, Nat.le_of_eq r.length.symm⟩, fun i d hd => ?_⟩
  obtain ⟨v, hv, rv⟩ := r.get hd
  refine ⟨⟨vs, v, q, hv⟩, fun x H'' ⟨e, h⟩ => .inl ⟨e, ?_⟩⟩
  have := h vs q
  rw [hv] at this; cases this
  exact rv
theorem yld_tup {p : Addr} {ds : List D} {vs : List V} (hp : SqT K F p vs) (r : Reps K F ds vs) : Yld K F (Itt K p) ds := fun H' s => by
  have q : SqT K H' p vs := sqT_mono s hp
  refine ⟨⟨vs, q, Nat.le_of_eq r.length.symm⟩, fun i d hd => ?_⟩
  obtain ⟨v, hv, rv⟩ := r.get hd
  refine ⟨⟨vs, v, q, hv⟩, fun x H'' ⟨e, h⟩ => .inl ⟨e, ?_⟩⟩
  have := h vs q
  rw [hv] at this; cases this
  exact rv
theorem yld_str {x : Str} : Yld K F (Its x) (x.cps.toList.map fun c => D.str (sgn c)) := fun H' s => by
  refine ⟨by show x.cps.size ≤ _; simp, fun i d hd => ?_⟩
  rw [List.getElem?_map] at hd
  obtain ⟨c, hc, rfl⟩ := Option.map_eq_some_iff.mp hd
  rw [Array.getElem?_toList] at hc
  refine ⟨(Array.getElem?_eq_some_iff.mp hc).1, fun v H'' ⟨e, c', h1, h2⟩ => .inl ⟨e, ?_⟩⟩
  rw [hc] at h1; cases h1
  subst h2
  exact Rep.str _
theorem yld_rng {i : Int} {n : Nat} : Yld K F (Itr i n) ((List.range n).map fun k => D.int (i + (k : Nat))) := fun H' s => by
  refine ⟨by show n ≤ _; simp, fun k d hd => ?_⟩
  rw [List.getElem?_map] at hd
  obtain ⟨c, hc, rfl⟩ := Option.map_eq_some_iff.mp hd
  obtain ⟨hk, e⟩ := List.getElem?_eq_some_iff.mp hc
  rw [List.length_range] at hk
  rw [List.getElem_range] at e
  subst e
  refine ⟨hk, fun v H'' ⟨e, h2⟩ => .inl ⟨e, ?_⟩⟩
  subst h2
  exact Rep.int _
theorem enmFrom_length : ∀ {n : Nat} {ds : List D}, (enmFrom n ds).length = ds.length
  | _, [] => rfl
  | n, d :: ds => by unfold enmFrom; rw [List.length_cons, List.length_cons, enmFrom_length]
theorem enmFrom_get : ∀ {n i : Nat} {ds : List D} {d : D}, (enmFrom n ds)[i]? = some d → ∃ e, ds[i]? = some e ∧ d = .tup [.int ((n + i : Nat) : Int), e]
  | _, _, [], _, h => by simp [enmFrom] at h
  | n, 0, e :: ds, d, h => by
    simp only [enmFrom, List.getElem?_cons_zero, Option.some.injEq] at h
    exact ⟨e, by simp, h.symm⟩
  | n, i + 1, e :: ds, d, h => by
    simp only [enmFrom, List.getElem?_cons_succ] at h
    obtain ⟨e', h1, h2⟩ := enmFrom_get (n := n + 1) h
    refine ⟨e', by simpa using h1, ?_⟩
    rw [h2, show n + 1 + i = n + (i + 1) by omega]
theorem yld_enm {p : Addr} {ds : List D} {vs : List V} (hp : F p = some (.lst vs)) (r : Reps K F ds vs) : Yld K F (Ite K p) (enmFrom 0 ds) := fun H' s => by
  have q : SqL K H' p vs := SqL.of (s p _ hp)
  refine ⟨⟨vs, q, by rw [enmFrom_length]; exact Nat.le_of_eq r.length.symm⟩, fun i d hd => ?_⟩
  obtain ⟨e, he, rfl⟩ := enmFrom_get hd
  obtain ⟨v, hv, rv⟩ := r.get he
  refine ⟨⟨vs, v, q, hv⟩, fun x H'' ⟨T, y, e1, e2, e3, h⟩ => .inr ⟨T, [.int (i : Nat), v], [.int ((0 + i : Nat) : Int), e], e2, ?_, rfl, e1, ?_⟩⟩
  · have := h vs q
    rw [hv] at this; cases this
    exact e3
  · rw [Nat.zero_add]
    exact .cons (.int _) (.cons rv .nil)
theorem zipP_get {xs ys : List D} {i : Nat} {d : D} (h : (zipP xs ys)[i]? = some d) : ∃ x y, xs[i]? = some x ∧ ys[i]? = some y ∧ d = .tup [x, y] := by
  unfold zipP at h
  rw [List.getElem?_map] at h
  obtain ⟨⟨x, y⟩, hc, rfl⟩ := Option.map_eq_some_iff.mp h
  rw [List.getElem?_zip_eq_some] at hc
  exact ⟨x, y, hc.1, hc.2, rfl⟩
theorem zipP_out {xs ys : List D} {vs ws : List V} (r : Reps K F xs vs) (q : Reps K F ys ws) : vs.length ≤ (zipP xs ys).length ∨ ws.length ≤ (zipP xs ys).length := by
  unfold zipP
  rw [List.length_map, List.length_zip, ← r.length, ← q.length]
  omega
/-- pairs come, whatever walks them -/
theorem yld_pair {J : It} {xs ys : List D} {vs ws : List V} (r : Reps K F xs vs) (q : Reps K F ys ws) (st : ∀ H', Same F H' → ∀ i, vs.length ≤ i ∨ ws.length ≤ i → J.stop i H') (go : ∀ H', Same F H' → ∀ (i : Nat) (x y : V), vs[i]? = some x → ws[i]? = some y → J.go i H')
    (yl : ∀ H', Same F H' → ∀ (i : Nat) (v : V) (H'' : Hp), J.yld i H' v H'' → ∃ p x y, v = .ref p ∧ H' p = none ∧ H'' = upd H' p (.tup [x, y]) ∧ vs[i]? = some x ∧ ws[i]? = some y) : Yld K F J (zipP xs ys) := fun H' s => by
  refine ⟨st H' s _ (zipP_out r q), fun i d hd => ?_⟩
  obtain ⟨x, y, hx, hy, rfl⟩ := zipP_get hd
  obtain ⟨u, hu, ru⟩ := r.get hx
  obtain ⟨w, hw, rw_⟩ := q.get hy
  refine ⟨go H' s i u w hu hw, fun v H'' z => ?_⟩
  obtain ⟨p, u', w', e1, e2, e3, e4, e5⟩ := yl H' s i v H'' z
  rw [hu] at e4; cases e4
  rw [hw] at e5; cases e5
  exact .inr ⟨p, [u, w], [x, y], e2, e3, rfl, e1, .cons ru (.cons rw_ .nil)⟩

variable {tg : Expr}
theorem i_itv (C : Ctx) {ea : E} (ha : PE X a (tO X.K (ev C ea))) : PI X tg a (wI X.K (evI C (.itv ea))) := by
  refine ⟨fun pins s σ H RR I ⟨F, ρ, sm, er, q⟩ => ?_⟩
  simp only [evI] at q
  rw [R.wp_bind] at q
  obtain ⟨o, h1, q⟩ := R.wp_eq q
  rw [R.wp_bind] at q
  obtain ⟨x, h2, q⟩ := R.wp_eq q
  rw [R.wp_bind] at q
  have hf : ((ev C ea ρ).bind fun o => frz o.2 o.1) = .ok x := by rw [h1]; exact h2
  have hp := pe_frz ha
  obtain ⟨d, ρ1⟩ := x
  cases d <;> first | exact q.elim | skip
  · refine (pi_str hp).run pins s σ H RR I ⟨F, ρ, sm, er, ?_⟩
    show ((ev C ea ρ).bind fun o => frz o.2 o.1).wp _
    rw [hf]
    intro F' H' v se r
    cases r
    exact ⟨_, rfl, q F' H' _ se yld_str⟩
  · refine (pi_tup hp).run pins s σ H RR I ⟨F, ρ, sm, er, ?_⟩
    show ((ev C ea ρ).bind fun o => frz o.2 o.1).wp _
    rw [hf]
    intro F' H' v se r
    cases r with
    | tup ht r => exact ⟨_, rfl, ⟨_, sqT_mono se.st.fh ht⟩, q F' H' _ se (yld_tup ht r)⟩
  · refine (pi_list hp).run pins s σ H RR I ⟨F, ρ, sm, er, ?_⟩
    show ((ev C ea ρ).bind fun o => frz o.2 o.1).wp _
    rw [hf]
    intro F' H' v se r
    cases r with
    | lst ht r => exact ⟨_, rfl, ⟨_, SqL.of (se.st.fh _ _ ht)⟩, q F' H' _ se (yld_list ht r)⟩
  · refine (pi_tup hp).run pins s σ H RR I ⟨F, ρ, sm, er, ?_⟩
    show ((ev C ea ρ).bind fun o => frz o.2 o.1).wp _
    rw [hf]
    intro F' H' v se r
    have r1 := Rep.ptpT r
    cases r1 with
    | tup ht r2 => exact ⟨_, rfl, ⟨_, sqT_mono se.st.fh ht⟩, q F' H' _ se (yld_tup ht r2)⟩
theorem i_rng1 (C : Ctx) {ea : E} {p : Pos} (hg : Gl X "range") (hm : X.mg "range" = none) (ha : PE X a (tO X.K (ev C ea))) (he : starEach [a] X.env = (false, eval a X.env) :: starEach [] X.env) : PI X tg (.Call (.Name "range" p) [a] [] pos) (wI X.K (evI C (.rng1 ea))) := by
  refine ⟨fun pins s σ H RR I ⟨F, ρ, sm, er, q⟩ => ?_⟩
  simp only [evI] at q
  rw [R.wp_bind] at q
  refine (pi_range1 hg hm (pa_cons ha pa_nil he) he).run pins s σ H RR I ⟨F, ρ, sm, er, R.wp_mono q fun o q F1 H1 v se ⟨hv, nv⟩ => ?_⟩
  rw [R.wp_bind] at q
  obtain ⟨d, h1, q⟩ := R.wp_eq q
  have hd := hv.rd se.st.er h1
  cases d <;> first | exact q.elim | skip
  rename_i n
  obtain rfl := hd.int
  rw [R.wp_bind] at q
  obtain ⟨hz, q⟩ := R.wp_ite.mp q
  simp only [Bool.and_eq_true, decide_eq_true_eq] at hz
  obtain ⟨⟨⟨z1, z2⟩, z3⟩, z4⟩ := hz
  refine ⟨_, rfl, z3, z4, ?_⟩
  have y := @yld_rng X.K F1 0 (n - 0).toNat
  have := q F1 H1 _ se y
  rw [Int.sub_zero] at this
  exact this
theorem i_rng2 (C : Ctx) {ea eb : E} {p : Pos} (hg : Gl X "range") (hm : X.mg "range" = none) (ha : PE X a (tO X.K (ev C ea))) (hb : PE X b (tO X.K (ev C eb))) (he : starEach [a, b] X.env = (false, eval a X.env) :: starEach [b] X.env) (he2 : starEach [b] X.env = (false, eval b X.env) :: starEach [] X.env) : PI X tg (.Call (.Name "range" p) [a, b] [] pos) (wI X.K (evI C (.rng2 ea eb))) := by
  refine ⟨fun pins s σ H RR I ⟨F, ρ, sm, er, q⟩ => ?_⟩
  simp only [evI] at q
  rw [R.wp_bind] at q
  refine (pi_range2 hg hm (pa_cons ha (pa_cons hb pa_nil he2) he) (by rw [he, he2]; rfl) (by rw [he2]; rfl)).run pins s σ H RR I ⟨F, ρ, sm, er, R.wp_mono q fun o q F1 H1 v se ⟨hv, nv⟩ => ?_⟩
  rw [R.wp_bind] at q
  refine ⟨F1, o.2, se.st.fh, se.st.er, R.wp_mono q fun p q F2 H2 u se2 ⟨hu, nu⟩ => ?_⟩
  have sx := se.trans se2
  rw [R.wp_bind] at q
  obtain ⟨d, h1, q⟩ := R.wp_eq q
  rw [R.wp_bind] at q
  obtain ⟨e, h2, q⟩ := R.wp_eq q
  have hd := (hv.step se2).rd sx.st.er h1
  have hd2 := hu.rd sx.st.er h2
  cases d <;> first | exact q.elim | skip
  cases e <;> first | exact q.elim | skip
  obtain rfl := hd.int
  obtain rfl := hd2.int
  have q := R.wp_bind.mp q
  obtain ⟨hz, q⟩ := R.wp_ite.mp q
  simp only [Bool.and_eq_true, decide_eq_true_eq] at hz
  obtain ⟨⟨⟨z1, z2⟩, z3⟩, z4⟩ := hz
  exact ⟨_, _, rfl, ⟨z1, z2, z3, z4⟩, q F2 H2 _ sx yld_rng⟩
theorem i_enm (C : Ctx) {ea : E} {p tpos : Pos} {elts : List Expr} {kk : Nat} (hg : Gl X "enumerate") (hm : X.mg "enumerate" = none) (ha : PE X a (tO X.K (ev C ea))) (he : starEach [a] X.env = (false, eval a X.env) :: starEach [] X.env) : PI X (.Tuple elts kk tpos) (.Call (.Name "enumerate" p) [a] [] pos) (wI X.K (evI C (.enm ea))) := by
  refine ⟨fun pins s σ H RR I ⟨F, ρ, sm, er, q⟩ => ?_⟩
  simp only [evI] at q
  rw [R.wp_bind] at q
  obtain ⟨o, h1, q⟩ := R.wp_eq q
  rw [R.wp_bind] at q
  obtain ⟨x, h2, q⟩ := R.wp_eq q
  rw [R.wp_bind] at q
  have hf : ((ev C ea ρ).bind fun o => frz o.2 o.1) = .ok x := by rw [h1]; exact h2
  refine (pi_enum hg hm (pa_cons (pe_frz ha) pa_nil he) he).run pins s σ H RR I ⟨F, ρ, sm, er, ?_⟩
  show ((ev C ea ρ).bind fun o => frz o.2 o.1).wp _
  rw [hf]
  intro F' H' v se r
  obtain ⟨d, ρ1⟩ := x
  cases d <;> first | exact q.elim | skip
  cases r with
  | lst ht r => exact ⟨_, _, rfl, SqL.of (se.st.fh _ _ ht), q F' H' _ se (yld_enm ht r)⟩
theorem i_zip (C : Ctx) {ea eb : E} {p tpos : Pos} {elts : List Expr} {kk : Nat} (hg : Gl X "zip") (hm : X.mg "zip" = none) (ha : PE X a (tO X.K (ev C ea))) (hb : PE X b (tO X.K (ev C eb))) (he : starEach [a, b] X.env = (false, eval a X.env) :: starEach [b] X.env) (he2 : starEach [b] X.env = (false, eval b X.env) :: starEach [] X.env)
    (hpl : (backTo pos (starEach [b] X.env)).any (·.1) = false) : PI X (.Tuple elts kk tpos) (.Call (.Name "zip" p) [a, b] [] pos) (wI X.K (evI C (.zip ea eb))) := by
  refine ⟨fun pins s σ H RR I ⟨F, ρ, sm, er, q⟩ => ?_⟩
  simp only [evI] at q
  rw [R.wp_bind] at q
  obtain ⟨o, h1, q⟩ := R.wp_eq q
  rw [R.wp_bind] at q
  obtain ⟨x, h2, q⟩ := R.wp_eq q
  rw [R.wp_bind] at q
  obtain ⟨o', h3, q⟩ := R.wp_eq q
  rw [R.wp_bind] at q
  obtain ⟨y, h4, q⟩ := R.wp_eq q
  rw [R.wp_bind] at q
  have hf : ((ev C ea ρ).bind fun o => frz o.2 o.1) = .ok x := by rw [h1]; exact h2
  have hf2 : ((ev C eb x.2).bind fun o => frz o.2 o.1) = .ok y := by rw [h3]; exact h4
  have pa := pa_cons (pe_frz ha) (pa_cons (pe_frz hb) pa_nil he2) he
  obtain ⟨d, ρ1⟩ := x
  obtain ⟨e, ρ2⟩ := y
  cases d <;> first | exact q.elim | skip
  · cases e <;> first | exact q.elim | skip
    refine (RZ.pi_zipA hg hm pa he hpl).run pins s σ H RR I ⟨F, ρ, sm, er, ?_⟩
    show ((ev C ea ρ).bind fun o => frz o.2 o.1).wp _
    rw [hf]
    intro F' H' v se r
    refine ⟨F', ρ1, se.st.fh, se.st.er, ?_⟩
    show ((ev C eb ρ1).bind fun o => frz o.2 o.1).wp _
    rw [hf2]
    intro F2 H2 u se2 r2
    cases r.mono se2.st.ff with
    | tup ht q1 =>
      cases r2 with
      | tup ht2 r2 =>
        have sx := se.trans se2
        refine ⟨_, _, _, _, rfl, .inr ⟨sqT_mono sx.st.fh ht, sqT_mono sx.st.fh ht2, q F2 H2 _ sx (yld_pair q1 r2 (fun H' s i o => ⟨_, _, sqT_mono s ht, sqT_mono s ht2, o⟩) (fun H' s i x y hx hy => ⟨_, _, _, _, sqT_mono s ht, sqT_mono s ht2, hx, hy⟩) fun H' s i v H'' ⟨p, x, y, e1, e2, e3, e4, e5⟩ => ⟨p, x, y, e1, e2, e3, e4 _ (sqT_mono s ht), e5 _ (sqT_mono s ht2)⟩)⟩⟩
  · cases e <;> first | exact q.elim | skip
    · refine (pi_zipM hg hm pa he hpl).run pins s σ H RR I ⟨F, ρ, sm, er, ?_⟩
      show ((ev C ea ρ).bind fun o => frz o.2 o.1).wp _
      rw [hf]
      intro F' H' v se r
      refine ⟨F', ρ1, se.st.fh, se.st.er, ?_⟩
      show ((ev C eb ρ1).bind fun o => frz o.2 o.1).wp _
      rw [hf2]
      intro F2 H2 u se2 r2
      cases r.mono se2.st.ff with
      | lst ht q1 =>
        cases r2 with
        | tup ht2 r2 =>
          have sx := se.trans se2
          refine ⟨_, _, _, _, rfl, SqL.of (sx.st.fh _ _ ht), sqT_mono sx.st.fh ht2, q F2 H2 _ sx (yld_pair q1 r2 (fun H' s i o => ⟨_, _, SqL.of (s _ _ ht), sqT_mono s ht2, o⟩) (fun H' s i x y hx hy => ⟨_, _, _, _, SqL.of (s _ _ ht), sqT_mono s ht2, hx, hy⟩) fun H' s i v H'' ⟨p, x, y, e1, e2, e3, e4, e5⟩ => ⟨p, x, y, e1, e2, e3, e4 _ (SqL.of (s _ _ ht)), e5 _ (sqT_mono s ht2)⟩)⟩
    · refine (RZ.pi_zipA hg hm pa he hpl).run pins s σ H RR I ⟨F, ρ, sm, er, ?_⟩
      show ((ev C ea ρ).bind fun o => frz o.2 o.1).wp _
      rw [hf]
      intro F' H' v se r
      refine ⟨F', ρ1, se.st.fh, se.st.er, ?_⟩
      show ((ev C eb ρ1).bind fun o => frz o.2 o.1).wp _
      rw [hf2]
      intro F2 H2 u se2 r2
      cases r.mono se2.st.ff with
      | lst ht q1 =>
        cases r2 with
        | lst ht2 r2 =>
          have sx := se.trans se2
          refine ⟨_, _, _, _, rfl, .inl ⟨SqL.of (sx.st.fh _ _ ht), SqL.of (sx.st.fh _ _ ht2), q F2 H2 _ sx (yld_pair q1 r2 (fun H' s i o => ⟨_, _, SqL.of (s _ _ ht), SqL.of (s _ _ ht2), o⟩) (fun H' s i x y hx hy => ⟨_, _, _, _, SqL.of (s _ _ ht), SqL.of (s _ _ ht2), hx, hy⟩) fun H' s i v H'' ⟨p, x, y, e1, e2, e3, e4, e5⟩ => ⟨p, x, y, e1, e2, e3, e4 _ (SqL.of (s _ _ ht)), e5 _ (SqL.of (s _ _ ht2))⟩)⟩⟩
  · cases e <;> first | exact q.elim | skip
    refine (RZ.pi_zipA hg hm pa he hpl).run pins s σ H RR I ⟨F, ρ, sm, er, ?_⟩
    show ((ev C ea ρ).bind fun o => frz o.2 o.1).wp _
    rw [hf]
    intro F' H' v se r
    refine ⟨F', ρ1, se.st.fh, se.st.er, ?_⟩
    show ((ev C eb ρ1).bind fun o => frz o.2 o.1).wp _
    rw [hf2]
    intro F2 H2 u se2 r2
    cases (r.mono se2.st.ff).ptpT with
    | tup ht q1 =>
      cases r2 with
      | tup ht2 r2 =>
        have sx := se.trans se2
        refine ⟨_, _, _, _, rfl, .inr ⟨sqT_mono sx.st.fh ht, sqT_mono sx.st.fh ht2, q F2 H2 _ sx (yld_pair q1 r2 (fun H' s i o => ⟨_, _, sqT_mono s ht, sqT_mono s ht2, o⟩) (fun H' s i x y hx hy => ⟨_, _, _, _, sqT_mono s ht, sqT_mono s ht2, hx, hy⟩) fun H' s i v H'' ⟨p, x, y, e1, e2, e3, e4, e5⟩ => ⟨p, x, y, e1, e2, e3, e4 _ (sqT_mono s ht), e5 _ (sqT_mono s ht2)⟩)⟩⟩

/-! ### behind a comprehension -/
theorem backD_get {ρ0 ρ : EnvD} : ∀ {vs : List Nat} {j : Nat}, (backD ρ0 ρ vs)[j]? = if j ∈ vs ∧ j < ρ.length then some ((ρ0[j]?).getD none) else ρ[j]?
  | [], j => by simp [backD]
  | v :: vs, j => by
    have ih := backD_get (ρ0 := ρ0) (ρ := ρ) (vs := vs) (j := j)
    have len : ∀ vs : List Nat, (backD ρ0 ρ vs).length = ρ.length := fun vs => by
      induction vs with
      | nil => rfl
      | cons v vs ih => unfold backD; rw [List.length_set, ih]
    show ((backD ρ0 ρ vs).set v ((ρ0[v]?).getD none))[j]? = _
    by_cases hj : v = j
    · subst hj
      by_cases hl : v < ρ.length
      · rw [List.getElem?_set_self (by rw [len]; exact hl), if_pos ⟨List.mem_cons_self, hl⟩]
      · rw [List.getElem?_eq_none (by rw [List.length_set, len]; omega), if_neg (fun z => hl z.2), List.getElem?_eq_none (by omega)]
    · rw [getset_ne hj, ih]
      have : (j ∈ v :: vs) ↔ j ∈ vs := by rw [List.mem_cons]; exact ⟨fun z => z.elim (fun e => absurd e.symm hj) id, .inr⟩
      simp only [this]
theorem backD_length {ρ0 ρ : EnvD} : ∀ vs : List Nat, (backD ρ0 ρ vs).length = ρ.length
  | [] => rfl
  | v :: vs => by unfold backD; rw [List.length_set, backD_length vs]
theorem backD_some {ρ0 ρ : EnvD} {vs : List Nat} {j : Nat} {x : D × Bool} (h : (backD ρ0 ρ vs)[j]? = some (some x)) : (j ∈ vs ∧ ρ0[j]? = some (some x)) ∨ (j ∉ vs ∧ ρ[j]? = some (some x)) := by
  rw [backD_get] at h
  by_cases hj : j ∈ vs
  · by_cases hl : j < ρ.length
    · rw [if_pos ⟨hj, hl⟩] at h
      cases q : ρ0[j]? with
      | none => rw [q] at h; cases h
      | some y => rw [q] at h; exact .inl ⟨hj, by simpa using h⟩
    · rw [if_neg (fun z => hl z.2), List.getElem?_eq_none (by omega)] at h; cases h
  · rw [if_neg (fun z => hj z.1)] at h
    exact .inr ⟨hj, h⟩
theorem back_ok {vs : List Nat} (e0 : ERel K F1 H1 ρ1 σ) (s : Stp K F1 H1 (wipeD ρ1 vs) (wipe σ vs) F H ρ (wipe σ vs)) (dm : Dom (wipeD ρ1 vs) ρ) : SE K σ F1 H1 ρ1 F H (backD ρ1 ρ vs) := by
  have sg : ∀ {j : Nat}, j ∉ vs → (wipe σ vs)[j]? = σ[j]? := fun h => wipe_ne h
  have no : ∀ {i : Nat} {d : D} {q : Addr}, i ∈ vs → ρ1[i]? = some (some (d, true)) → σ[i]? = some (some (V.ref q)) → ¬ OwnAt (wipeD ρ1 vs) (wipe σ vs) q := fun {i d q} hi h1 h2 ⟨k, d', h3, h4⟩ => by
    obtain ⟨h3, hk⟩ := wipeD_some.mp h3
    rw [sg hk] at h4
    exact hk (e0.dis i k d d' q h1 h3 h2 h4 ▸ hi)
  have own1 : ∀ {i : Nat} {d : D}, i ∈ vs → ρ1[i]? = some (some (d, true)) → ∃ q, σ[i]? = some (some (V.ref q)) ∧ Own K F H d q ∧ ¬ OwnAt ρ (wipe σ vs) q := fun {i d} hi h => by
    obtain ⟨q, e1, ow⟩ := e0.own i d h
    obtain ⟨o, ho, bx⟩ := ow.hB
    have n := no hi h e1
    obtain ⟨h3, h4⟩ := s.fr q o ho bx ow.nF n
    exact ⟨q, e1, ow.keep s.ff (fun u z => by rw [ho] at z; cases z; exact h3) h4, fun z => (s.os q z).elim n fun z => not_none ho z⟩
  have len : ρ.length = σ.length := by rw [s.er.len, wipe_length]
  refine ⟨⟨s.ff, s.fh, ⟨by rw [backD_length, len], fun j d h => ?_, fun j d h => ?_, fun i j d e q h1 h2 h3 h4 => ?_⟩, fun q o h1 bx h2 h3 => s.fr q o h1 bx h2 fun ⟨k, d, z1, z2⟩ => ?_, fun q ⟨j, d, h1, h2⟩ => ?_, s.gr⟩, fun j x h => ?_⟩
  · rcases backD_some h with ⟨hj, h⟩ | ⟨hj, h⟩
    · obtain ⟨v, e1, r⟩ := e0.frz j d h
      exact ⟨v, e1, r.mono s.ff⟩
    · obtain ⟨v, e1, r⟩ := s.er.frz j d h
      exact ⟨v, by rw [← sg hj]; exact e1, r⟩
  · rcases backD_some h with ⟨hj, h⟩ | ⟨hj, h⟩
    · obtain ⟨q, e1, ow, _⟩ := own1 hj h
      exact ⟨q, e1, ow⟩
    · obtain ⟨q, e1, ow⟩ := s.er.own j d h
      exact ⟨q, by rw [← sg hj]; exact e1, ow⟩
  · rcases backD_some h1 with ⟨hi, h1⟩ | ⟨hi, h1⟩
    · rcases backD_some h2 with ⟨hj, h2⟩ | ⟨hj, h2⟩
      · exact e0.dis i j d e q h1 h2 h3 h4
      · obtain ⟨q', e1, _, n⟩ := own1 hi h1
        rw [e1] at h3; cases h3
        exact absurd ⟨j, e, h2, by rw [sg hj]; exact h4⟩ n
    · rcases backD_some h2 with ⟨hj, h2⟩ | ⟨hj, h2⟩
      · obtain ⟨q', e1, _, n⟩ := own1 hj h2
        rw [e1] at h4; cases h4
        exact absurd ⟨i, d, h1, by rw [sg hi]; exact h3⟩ n
      · exact s.er.dis i j d e q h1 h2 (by rw [sg hi]; exact h3) (by rw [sg hj]; exact h4)
  · obtain ⟨z1, hk⟩ := wipeD_some.mp z1
    rw [sg hk] at z2
    exact h3 ⟨k, d, z1, z2⟩
  · rcases backD_some h1 with ⟨hj, h1⟩ | ⟨hj, h1⟩
    · exact .inl ⟨j, d, h1, h2⟩
    · rcases s.os q ⟨j, d, h1, by rw [sg hj]; exact h2⟩ with ⟨k, d', z1, z2⟩ | z
      · obtain ⟨z1, hk⟩ := wipeD_some.mp z1
        rw [sg hk] at z2
        exact .inl ⟨k, d', z1, z2⟩
      · exact .inr z
  · have hl : j < ρ.length := by rw [len, ← e0.len]; exact (List.getElem?_eq_some_iff.mp h).1
    rw [backD_get]
    by_cases hj : j ∈ vs
    · rw [if_pos ⟨hj, hl⟩, h]
      exact ⟨x, rfl⟩
    · rw [if_neg (fun z => hj z.1)]
      exact dm j x (wipeD_some.mpr ⟨h, hj⟩)
theorem wipe_idem {vs : List Nat} : wipe (wipe σ vs) vs = wipe σ vs := by
  apply List.ext_getElem?
  intro j
  rw [wipe_get, wipe_length, wipe_get]
  by_cases h : j ∈ vs ∧ j < σ.length
  · rw [if_pos h, if_pos h]
  · rw [if_neg h, if_neg h]
theorem Dom.wiped {vs : List Nat} (h : Dom (wipeD ρ0 vs) ρ) : Dom (wipeD ρ0 vs) (wipeD ρ vs) := fun j x e => by
  obtain ⟨y, hy⟩ := h j x e
  exact ⟨y, wipeD_some.mpr ⟨hy, (wipeD_some.mp e).2⟩⟩

/-! ### comprehensions -/
/-- a turn -/
def turnD (C : Ctx) (tg : Tg) (elt c : E) (d : D) (ρ : EnvD) : R (Option D × EnvD) := (bindT [] tg d ρ).bind fun ρ1 =>
  (optC c (ev C c ρ1) ρ1).bind fun b => match b.1 with
    | true => (ev C elt b.2).bind fun o => (frz o.2 o.1).bind fun y => .ok (some y.1, wipeD y.2 tg.slots)
    | false => .ok (none, wipeD b.2 tg.slots)
theorem lc_imp (C : Ctx) {tg : Tg} {elt it c : E} {vs : List Nat} {Q : VK} (hv : vs = tg.slots) (h : tO K (ev C (.comp tg elt it c)) σ H Q) :
    tLc (wI K (evI C it)) (gT K tg) (tB' K fun ρ => optC c (ev C c ρ) ρ) (tF K fun ρ => (ev C elt ρ).bind fun o => frz o.2 o.1) vs σ H Q := by
  obtain ⟨F, ρ, sm, er, q⟩ := h
  subst hv
  simp only [ev] at q
  rw [R.wp_bind] at q
  refine ⟨F, ρ, sm, er, R.wp_mono q fun x q F1 H1 J se y => ?_⟩
  obtain ⟨ds, ρ1⟩ := x
  obtain ⟨hlen, q⟩ := R.wp_ite.mp q
  have hlen : ds.length ≤ lenLine := of_decide_eq_true hlen
  have q := R.wp_bind.mp q
  intro L hL
  generalize hP : (fun y : List D × EnvD => (R.ok (Opd.val (.lst y.1) true, backD ρ1 y.2 tg.slots)).wp fun r => ∀ F' H' v, SE K σ F H ρ F' H' r.2 → (OR K F' H' r.2 σ r.1 v ∧ Nw H r.1 v) → Q v H') = Pr at q
  have q : (compLoop (turnD C tg elt c) ds [] (wipeD ρ1 tg.slots)).wp Pr := q
  let IW : Nat → Hp → Prop := fun i Hi => ∃ Fi ρi accD accV, Stp K F1 H1 (wipeD ρ1 tg.slots) (wipe σ tg.slots) Fi Hi ρi (wipe σ tg.slots) ∧ Dom (wipeD ρ1 tg.slots) ρi ∧ Hi L = some (.lst accV) ∧ Fi L = none ∧ ¬ OwnAt ρi (wipe σ tg.slots) L ∧
    Reps K Fi accD accV ∧ accD.length ≤ i ∧ (compLoop (turnD C tg elt c) (ds.drop i) accD ρi).wp Pr
  have e0 := (wipe_ok (vs := tg.slots) (Stp.refl se.st.fh se.st.er)).er
  have nL : F1 L = none := se.st.fh.free hL
  have noL : ¬ OwnAt (wipeD ρ1 tg.slots) (wipe σ tg.slots) L := fun ⟨k, d, h1, h2⟩ => by
    obtain ⟨p, e1, ow⟩ := e0.own k d h1
    rw [h2] at e1; cases e1
    obtain ⟨o, ho⟩ := ow.hS
    exact not_none ho hL
  refine ⟨fun i m Hi => m = ds.length - i ∧ i ≤ ds.length ∧ IW i Hi, ⟨ds.length, by simp, Nat.zero_le _, F1, wipeD ρ1 tg.slots, [], [], ?_, Dom.refl _, upd_same, nL, noL, .nil, Nat.le_refl _, q⟩, ?_⟩
  · exact stp_grw (Stp.refl se.st.fh e0) (grw_lst (K := K) se.st.fh hL (Reps.nil (K := K))).1
  rintro i m Hi ⟨rfl, hi, Fi, ρi, accD, accV, st, dm, hD, fD, nD, ra, la, q⟩
  by_cases hlt : i < ds.length
  · have hd : ds[i]? = some ds[i] := List.getElem?_eq_getElem hlt
    rw [List.drop_eq_getElem_cons hlt] at q
    refine .inr ⟨((y Hi (st.ff.trans st.fh)).2 i _ hd).1, IW (i + 1), fun H' w => ⟨ds.length - (i + 1), by omega, rfl, hlt, w⟩, fun v H' yl => ?_⟩
    obtain ⟨F', g, rv⟩ := yld_in y hd st.ff st yl
    have st' := stp_grw st g
    have hD' : H' L = some (.lst accV) := g.hh _ _ hD
    have fD' : F' L = none := g.fr _ _ hD trivial fD
    simp only [compLoop] at q
    rw [R.wp_bind] at q
    unfold turnD at q
    rw [R.wp_bind] at q
    obtain ⟨ρb, hb, q⟩ := R.wp_eq q
    rw [R.wp_bind] at q
    refine tg_ok (Stp.refl st'.fh st'.er) rv hb fun σ2 s1 dm1 off _ => ⟨by rw [off.wipe]; exact wipe_idem, F', ρb, s1.fh, s1.er, R.wp_mono q fun b q F2 H2 se2 => ?_⟩
    have s2 := s1.trans se2.st
    have hw : wipe σ2 tg.slots = wipe σ tg.slots := by rw [off.wipe]; exact wipe_idem
    obtain ⟨b, ρ2⟩ := b
    cases b with
    | false =>
      show IW (i + 1) H2
      have q : (compLoop (turnD C tg elt c) (ds.drop (i + 1)) accD (wipeD ρ2 tg.slots)).wp Pr := q
      have s3 := wipe_ok (vs := tg.slots) s2
      rw [hw] at s3
      obtain ⟨hD2, fD2⟩ := s3.fr _ _ hD' trivial fD' nD
      refine ⟨F2, _, accD, accV, st'.trans s3, ((dm.trans dm1).trans se2.dm).wiped, hD2, fD2, fun z => (s3.os _ z).elim nD fun z => not_none hD' z, ra.mono (g.ff.trans s3.ff), Nat.le_succ_of_le la, q⟩
    | true =>
      have q := R.wp_bind.mp q
      refine ⟨F2, ρ2, s2.fh, s2.er, ?_⟩
      show ((ev C elt ρ2).bind fun o => frz o.2 o.1).wp _
      rw [R.wp_bind]
      refine R.wp_mono q fun o q => ?_
      have q := R.wp_bind.mp q
      refine R.wp_mono q fun z q F3 H3 u se3 ru => ?_
      have q : (compLoop (turnD C tg elt c) (ds.drop (i + 1)) (accD ++ [z.1]) (wipeD z.2 tg.slots)).wp Pr := q
      have s3 := wipe_ok (vs := tg.slots) (s2.trans se3.st)
      rw [hw] at s3
      obtain ⟨hD3, fD3⟩ := s3.fr _ _ hD' trivial fD' nD
      have nD3 : ¬ OwnAt (wipeD z.2 tg.slots) (wipe σ tg.slots) L := fun z => (s3.os _ z).elim nD fun z => not_none hD' z
      refine ⟨accV, hD3, ?_, F3, _, accD ++ [z.1], accV ++ [u], ?_, (((dm.trans dm1).trans se2.dm).trans se3.dm).wiped, upd_same, fD3, nD3, (ra.mono (g.ff.trans s3.ff)).append (.cons ru .nil), by rw [List.length_append]; exact Nat.succ_le_succ la, q⟩
      · rw [← ra.length]
        have : lenLine = sizeLine := by decide
        omega
      · exact write_tmp (st'.trans s3) hD3 fD3 nD3 hL
  · have e : i = ds.length := by omega
    subst e
    rw [List.drop_length] at q
    refine .inl ⟨(y Hi (st.ff.trans st.fh)).1, ?_⟩
    have q : Pr (accD, ρi) := q
    rw [← hP] at q
    have bk := back_ok se.st.er st dm
    refine q Fi Hi _ (se.trans bk) ⟨⟨L, rfl, ⟨accV, hD, ra, fD⟩, fun ⟨j, d, h1, h2⟩ => ?_⟩, none_of se.st.gr hL⟩
    rcases backD_some h1 with ⟨hj, h1⟩ | ⟨hj, h1⟩
    · obtain ⟨p, e1, ow⟩ := se.st.er.own j d h1
      rw [h2] at e1; cases e1
      obtain ⟨o, ho⟩ := ow.hS
      exact not_none ho hL
    · exact nD ⟨j, d, h1, by rw [wipe_ne hj]; exact h2⟩
theorem s_comp (C : Ctx) {tg : Tg} {eelt eit ec : E} {elt tgx iter : Expr} {ifs : List Expr} {scope : Scope} {own : List (Str × Nat)} (hc : X.calm = true) (hN : X.N.Nodup) (hi : PI X tgx iter (wI X.K (evI C eit))) (ok : BlkOk X.N X.env.scope scope own) (hv : own.map (·.2) = tg.slots)
    (hg : ∀ (s : Shared) (H : Hp) (Cl : Addr) (cl : List (Str × Addr)) (fp : List Addr), PG (X.blk s H scope (compEnvC scope cl Cl X.env) fp) tgx (gT X.K tg)) (ht : ∀ (s : Shared) (H : Hp) (Cl : Addr) (cl : List (Str × Addr)) (fp : List Addr), PTs (X.blk s H scope (compEnvC scope cl Cl X.env) fp) ifs (tB' X.K fun ρ => optC ec (ev C ec ρ) ρ))
    (he : ∀ (s : Shared) (H : Hp) (Cl : Addr) (cl : List (Str × Addr)) (fp : List Addr), PE (X.blk s H scope (compEnvC scope cl Cl X.env) fp) elt (tO X.K (ev C eelt))) (hs : ∀ x, foldedSetIterable iter X.env x = pure x) : PE X (.ListComp elt [⟨tgx, iter, ifs, 0⟩] scope pos) (tO X.K (ev C (.comp tg eelt eit ec))) :=
  PE.imp (pe_lc hc hN hi ok hg ht (fun s H Cl cl fp => pe_frz (he s H Cl cl fp)) hs) fun σ H Q q => lc_imp C hv q
end VI

set_option Elab.async false
set_option linter.all false
set_option autoImplicit false
set_option maxRecDepth 100000
set_option maxHeartbeats 4000000
/-! VStm: statements. -/
namespace VI
open PySem PySem.Spec PyProof.Rows L2
variable {X : Cx} {K : PySem.W.Frag} {P : Keep} {F H F0 H0 F1 H1 F2 H2 F' H' : Hp} {ρ ρ0 ρ1 ρ2 ρ' : EnvD} {σ σ0 σ1 σ2 σ' : L2.St} {pos : Pos} {a b c : Expr} {es : List Expr}

/-- a step of statements: the kept slots stand -/
structure SS (K : PySem.W.Frag) (P : Keep) (F H : Hp) (ρ : EnvD) (σ : L2.St) (F' H' : Hp) (ρ' : EnvD) (σ' : L2.St) : Prop where
  st : Stp K F H ρ σ F' H' ρ' σ'
  kp : ∀ i, P.getD i false = true → σ'[i]? = σ[i]?
theorem SS.trans (a : SS K P F H ρ σ F1 H1 ρ1 σ1) (b : SS K P F1 H1 ρ1 σ1 F2 H2 ρ2 σ2) : SS K P F H ρ σ F2 H2 ρ2 σ2 := ⟨a.st.trans b.st, fun i h => (b.kp i h).trans (a.kp i h)⟩
theorem SE.ss (a : SE K σ F H ρ F1 H1 ρ1) : SS K P F H ρ σ F1 H1 ρ1 σ := ⟨a.st, fun _ _ => rfl⟩
theorem SS.refl (s : Same F H) (e : ERel K F H ρ σ) : SS K P F H ρ σ F H ρ σ := ⟨Stp.refl s e, fun _ _ => rfl⟩
theorem SS.off {vs : List Nat} (s : Stp K F H ρ σ F1 H1 ρ1 σ1) (o : Off vs σ σ1) (f : Free P vs) : SS K P F H ρ σ F1 H1 ρ1 σ1 := ⟨s, fun i h => o.2 i fun z => by rw [f i z] at h; cases h⟩
/-- what is behind -/
def FlP (K : PySem.W.Frag) (P : Keep) (F H : Hp) (ρ : EnvD) (σ : L2.St) (E : Ends) : Fl → Prop
  | .nx ρ' => ∀ F' H' σ', SS K P F H ρ σ F' H' ρ' σ' → E.nx σ' H'
  | .rt x ρ' => ∀ F' H' σ' v, SS K P F H ρ σ F' H' ρ' σ' → VR K F' H' ρ' σ' x.1 x.2 v → Nw H (.val x.1 x.2) v → E.rt v H'
/-- the reading of a statement -/
def tSt (K : PySem.W.Frag) (P : Keep) (f : EnvD → R Fl) : TS := fun E σ H => ∃ F ρ, Same F H ∧ ERel K F H ρ σ ∧ (f ρ).wp (FlP K P F H ρ σ E)
theorem PS.imp {st : Stmt} {t t' : TS} (h : PS X st t) (k : ∀ E σ H, t' E σ H → t E σ H) : PS X st t' := ⟨fun pins s σ H E I q => h.run pins s σ H E I (k _ _ _ q)⟩
theorem PSs.imp {st : List Stmt} {t t' : TS} (h : PSs X st t) (k : ∀ E σ H, t' E σ H → t E σ H) : PSs X st t' := ⟨fun pins s σ H E I q => h.run pins s σ H E I (k _ _ _ q)⟩
theorem FlP.from {E : Ends} {f : Fl} (a : SS K P F H ρ σ F1 H1 ρ1 σ1) (h : FlP K P F H ρ σ E f) : FlP K P F1 H1 ρ1 σ1 E f := by
  cases f with
  | nx ρ' => exact fun F' H' σ' s => h F' H' σ' (a.trans s)
  | rt x ρ' => exact fun F' H' σ' v s vr nw => h F' H' σ' v (a.trans s) vr (nw.back a.st.gr)
theorem wp_from {E : Ends} {r : R Fl} (a : SS K P F H ρ σ F1 H1 ρ1 σ1) (h : r.wp (FlP K P F H ρ σ E)) : r.wp (FlP K P F1 H1 ρ1 σ1 E) := R.wp_mono h fun _ q => q.from a

/-! ### blocks -/
theorem m_nil (C : Ctx) : PSs X [] (tSt X.K P (run C P .nil)) := PSs.imp pss_nil fun E σ H ⟨F, ρ, s, er, q⟩ => q F H σ (SS.refl s er)
theorem m_cons (C : Ctx) {s r : S} {st : Stmt} {rest : List Stmt} (h1 : PS X st (tSt X.K P (run C P s))) (h2 : PSs X rest (tSt X.K P (run C P r))) : PSs X (st :: rest) (tSt X.K P (run C P (.cons s r))) := by
  refine PSs.imp (pss_cons h1 h2) fun E σ H ⟨F, ρ, sm, er, q⟩ => ?_
  simp only [run] at q
  rw [R.wp_bind] at q
  refine ⟨F, ρ, sm, er, R.wp_mono q fun f q => ?_⟩
  cases f with
  | nx ρ1 => exact fun F1 H1 σ1 ss => ⟨F1, ρ1, ss.st.fh, ss.st.er, wp_from ss q⟩
  | rt x ρ1 => exact q
theorem m_pass (C : Ctx) : PS X (.Pass pos) (tSt X.K P (run C P .pass)) := PS.imp ps_pass fun E σ H ⟨F, ρ, s, er, q⟩ => q F H σ (SS.refl s er)
theorem m_doc (C : Ctx) {x : Str} {j : Nat} {pos' : Pos} : PS X (.Expr (.Constant (.str x) j pos) pos') (tSt X.K P (run C P .doc)) := PS.imp ps_doc fun E σ H ⟨F, ρ, s, er, q⟩ => q F H σ (SS.refl s er)
theorem m_raise (C : Ctx) {st : Stmt} : PS X st (tSt X.K P (run C P .raise)) := PS.imp ps_never fun E σ H ⟨F, ρ, s, er, q⟩ => q

/-! ### name = value -/
theorem asg_imp (C : Ctx) {i : Nat} {e : E} {E : Ends} (h : tSt K P (run C P (.asg (.nm i) e)) E σ H) : tAsg (tO K (ev C e)) (gName i) E σ H := by
  obtain ⟨F, ρ, sm, er, q⟩ := h
  simp only [run] at q
  rw [R.wp_bind] at q
  refine ⟨F, ρ, sm, er, R.wp_mono q fun o q F1 H1 v se ⟨hv, nv⟩ => ?_⟩
  rw [R.wp_bind] at q
  obtain ⟨x, h1, q⟩ := R.wp_eq q
  rw [R.wp_bind] at q
  obtain ⟨ρ2, h2, q⟩ := R.wp_eq q
  obtain ⟨F2, se2, vr, nw⟩ := tak_ok se hv nv h1
  obtain ⟨hp, hi, rfl⟩ := setSlot_ok h2
  have s2 := set_ok se2.st vr nw hi
  exact q F2 H1 _ (SS.off (vs := [i]) s2 (Off.set List.mem_cons_self) fun w hw => by rw [List.mem_singleton.mp hw]; exact hp)
theorem m_asg (C : Ctx) {i : Nat} {e : E} {x : Str} {pos' : Pos} (hN : X.N.Nodup) (hi : X.N[i]? = some x) (hx : Loc X.env.scope x) (ha : PE X a (tO X.K (ev C e))) (hs : swapsWith a (some (.Name x pos')) pos.line X.env = pure false) (hf : X.fn x = true) : PS X (.Assign [.Name x pos'] a pos) (tSt X.K P (run C P (.asg (.nm i) e))) :=
  PS.imp (ps_set hN hi hx ha hs (.inl hf)) fun E σ H q => asg_imp C q
theorem m_asgLc (C : Ctx) {i : Nat} {y : Str} {py : Pos} {tg : Tg} {eelt eit ec : E} {elt tgx iter : Expr} {ifs : List Expr} {scope : Scope} {own : List (Str × Nat)} {spos : Pos} (hc : X.calm = true) (hN : X.N.Nodup) (hy : X.N[i]? = some y) (hyl : X.env.scope.names.lookup y = some .local)
    (hsw : swapsWith (.ListComp elt [⟨tgx, iter, ifs, 0⟩] scope pos) (some (.Name y py)) spos.line X.env = pure true) (hi : PI X tgx iter (wI X.K (evI C eit))) (ok : BlkOk X.N X.env.scope scope own) (hv : own.map (·.2) = tg.slots)
    (hg : ∀ (s : Shared) (H : Hp) (Cl : Addr) (cl : List (Str × Addr)) (fp : List Addr), PG (X.blk s H scope (compEnvC scope cl Cl X.env) fp) tgx (gT X.K tg)) (ht : ∀ (s : Shared) (H : Hp) (Cl : Addr) (cl : List (Str × Addr)) (fp : List Addr), PTs (X.blk s H scope (compEnvC scope cl Cl X.env) fp) ifs (tB' X.K fun ρ => optC ec (ev C ec ρ) ρ))
    (he : ∀ (s : Shared) (H : Hp) (Cl : Addr) (cl : List (Str × Addr)) (fp : List Addr), PE (X.blk s H scope (compEnvC scope cl Cl X.env) fp) elt (tO X.K (ev C eelt))) (hs : ∀ x, foldedSetIterable iter X.env x = pure x) :
    PS X (.Assign [.Name y py] (.ListComp elt [⟨tgx, iter, ifs, 0⟩] scope pos) spos) (tSt X.K P (run C P (.asg (.nm i) (.comp tg eelt eit ec)))) :=
  PS.imp (ps_setLc hc hN hy hyl hsw hi ok hg ht (fun s H Cl cl fp => pe_frz (he s H Cl cl fp)) hs) fun E σ H q => lc_imp C hv (asg_imp C q)
theorem m_asgT (C : Ctx) {is : List Nat} {e : E} {tgx : Expr} (ha : PE X a (tO X.K (ev C e))) (hg : PG X tgx (gT X.K (.tp is))) (hs : swapsWithSole [tgx] a pos.line X.env = pure false) (hw : swappedStores [tgx] a X.env = pure none)
    (h1 : (assignEach [tgx] X.env).map (·.2) = [assign tgx X.env]) : PS X (.Assign [tgx] a pos) (tSt X.K P (run C P (.asg (.tp is) e))) := by
  refine PS.imp (ps_asg (pe_frz ha) hg hs hw h1) fun E σ H ⟨F, ρ, sm, er, q⟩ => ?_
  simp only [run] at q
  rw [R.wp_bind] at q
  refine ⟨F, ρ, sm, er, ?_⟩
  show ((ev C e ρ).bind fun o => frz o.2 o.1).wp _
  rw [R.wp_bind]
  refine R.wp_mono q fun o q => ?_
  rw [R.wp_bind] at q
  refine R.wp_mono q fun x q F1 H1 v se r => ?_
  rw [R.wp_bind] at q
  obtain ⟨ρ2, h2, q⟩ := R.wp_eq q
  exact tg_ok se.st r h2 fun σ' s' dm off fr => q F1 H1 σ' (SS.off s' off fr)

/-! ### two names, two values -/
def tK (K : PySem.W.Frag) (f : EnvD → R ((D × Bool) × EnvD)) : TE := tX K (fun H F' H' ρ' σ x v => VR K F' H' ρ' σ x.1 x.2 v ∧ Nw H (.val x.1 x.2) v) f
theorem pe_tak {f : EnvD → R (Opd × EnvD)} {e : Expr} (h : PE X e (tO X.K f)) : PE X e (tK X.K fun ρ => (f ρ).bind fun o => tak o.2 o.1) := by
  refine PE.imp h fun σ H Q ⟨F, ρ, s, er, q⟩ => ⟨F, ρ, s, er, ?_⟩
  rw [R.wp_bind] at q
  refine R.wp_mono q fun o q F' H' v se ⟨r, nw⟩ => ?_
  obtain ⟨x, hx, q⟩ := R.wp_eq q
  obtain ⟨F2, se2, vr, nw2⟩ := tak_ok se r nw hx
  exact q F2 H' v se2 ⟨vr, nw2⟩
theorem par_imp (C : Ctx) {i j : Nat} {ea eb : E} {E : Ends} {Q : List V → Hp → Prop} (h : tSt K P (run C P (.par i j ea eb)) E σ H)
    (kk : ∀ H1 u v, (∀ H2, Same H1 H2 → E.nx ((σ.set i (some u)).set j (some v)) H2) → Q [u, v] H1) :
    tCons (tK K fun ρ => (ev C ea ρ).bind fun o => tak o.2 o.1) (tCons (tK K fun ρ => (ev C eb ρ).bind fun o => tak o.2 o.1) tNil) σ H Q := by
  obtain ⟨F, ρ, sm, er, q⟩ := h
  simp only [run] at q
  rw [R.wp_bind] at q
  refine ⟨F, ρ, sm, er, ?_⟩
  show ((ev C ea ρ).bind fun o => tak o.2 o.1).wp _
  rw [R.wp_bind]
  refine R.wp_mono q fun o q => ?_
  rw [R.wp_bind] at q
  refine R.wp_mono q fun x q F1 H1 u se ⟨ru, nu⟩ => ?_
  rw [R.wp_bind] at q
  refine ⟨F1, x.2, se.st.fh, se.st.er, ?_⟩
  show ((ev C eb x.2).bind fun o => tak o.2 o.1).wp _
  rw [R.wp_bind]
  refine R.wp_mono q fun p q => ?_
  rw [R.wp_bind] at q
  refine R.wp_mono q fun y q F2 H2 v se2 ⟨rv, nv⟩ => ?_
  rw [R.wp_bind] at q
  obtain ⟨ρ2, h2, q⟩ := R.wp_eq q
  rw [R.wp_bind] at q
  obtain ⟨ρ3, h3, q⟩ := R.wp_eq q
  obtain ⟨hp, hi, rfl⟩ := setSlot_ok h2
  obtain ⟨hp2, hj, rfl⟩ := setSlot_ok h3
  have sx := se.trans se2
  have ru2 := ru.step se2
  have s1 := set_ok sx.st ru2 nu hi
  have rv' : VR K F2 H2 (y.2.set i (some x.1)) (σ.set i (some u)) y.1.1 y.1.2 v := by
    cases hy : y.1.2 with
    | false => rw [hy] at rv; exact rv
    | true =>
      rw [hy] at rv nv
      obtain ⟨q2, rfl, ow, no⟩ := rv
      refine ⟨q2, rfl, ow, fun ⟨k, d, h4, h5⟩ => ?_⟩
      by_cases hk : k = i
      · rw [hk] at h4 h5
        have e1 := getset_self h4
        have e2 := getset_self h5
        have e1 := Option.some.inj e1
        have e2 := Option.some.inj e2
        rw [e1, e2] at ru
        obtain ⟨a', ea', ow', _⟩ := ru
        cases ea'
        obtain ⟨ob, hob⟩ := ow'.hS
        exact not_none hob nv
      · rw [getset_ne (Ne.symm hk)] at h4 h5
        exact no ⟨k, d, h4, h5⟩
  have s2 := set_ok s1 rv' (nv.back se.st.gr) hj
  refine kk H2 u v fun H3 hs => ?_
  have g : Grw F2 H2 F2 H3 := ⟨Same.refl F2, s2.fh.trans hs, hs, fun _ _ _ _ n => n⟩
  refine q F2 H3 _ (SS.off (vs := [i, j]) (stp_grw s2 g) ((Off.set (by simp)).trans (Off.set (by simp))) fun w hw => ?_)
  rcases List.mem_cons.mp hw with e | e
  · rw [e]; exact hp
  · rw [List.mem_singleton.mp e]; exact hp2
theorem m_par (C : Ctx) {i j : Nat} {ea eb : E} {x y : Str} {px py pt : Pos} {kt k2 : Nat} {pt2 : Pos} (hc : X.calm = true) (hN : X.N.Nodup) (hi : X.N[i]? = some x) (hj : X.N[j]? = some y) (hij : i ≠ j)
    (hx : X.env.scope.names.lookup x = some .local) (hy : X.env.scope.names.lookup y = some .local) (ha : PE X a (tO X.K (ev C ea))) (hb : PE X b (tO X.K (ev C eb)))
    (he : starEach [a, b] X.env = (false, eval a X.env) :: starEach [b] X.env) (he2 : starEach [b] X.env = (false, eval b X.env) :: starEach [] X.env)
    (hw : swappedStores [.Tuple [.Name x px, .Name y py] kt pt] (.Tuple [a, b] k2 pt2) X.env = pure (some [x, y])) : PS X (.Assign [.Tuple [.Name x px, .Name y py] kt pt] (.Tuple [a, b] k2 pt2) pos) (tSt X.K P (run C P (.par i j ea eb))) :=
  PS.imp (ps_par hc hN hi hj hij hx hy (pa_cons (pe_tak ha) (pa_cons (pe_tak hb) pa_nil he2) he) hw rfl) fun E σ H q => par_imp C q fun H1 u v k => ⟨u, v, rfl, k H1 (Same.refl H1)⟩
theorem m_parC (C : Ctx) {i j : Nat} {ea eb : E} {x y : Str} {px py pt : Pos} {kt k2 : Nat} {pt2 : Pos} (hg : PG X (.Tuple [.Name x px, .Name y py] kt pt) (gTup X.K 2 (gSl [i, j]))) (ha : PE X a (tO X.K (ev C ea))) (hb : PE X b (tO X.K (ev C eb)))
    (he : starEach [a, b] X.env = (false, eval a X.env) :: starEach [b] X.env) (he2 : starEach [b] X.env = (false, eval b X.env) :: starEach [] X.env)
    (hw : swappedStores [.Tuple [.Name x px, .Name y py] kt pt] (.Tuple [a, b] k2 pt2) X.env = pure none) : PS X (.Assign [.Tuple [.Name x px, .Name y py] kt pt] (.Tuple [a, b] k2 pt2) pos) (tSt X.K P (run C P (.par i j ea eb))) :=
  PS.imp (ps_asg (pe_tup (pa_cons (pe_tak ha) (pa_cons (pe_tak hb) pa_nil he2) he)) hg rfl hw rfl) fun E σ H q => par_imp (Q := fun xs H1 => xs.length ≤ sizeLine ∧ ∀ p, H1 p = none → gTup X.K 2 (gSl [i, j]) (.ref p) σ (upd H1 p (.tup xs)) E.nx) C q fun H1 u v k =>
    ⟨by show 2 ≤ sizeLine; decide, fun p hp => ⟨p, [u, v], rfl, SqT.of upd_same, rfl, u, [v], rfl, v, [], rfl, rfl, k _ (same_upd hp)⟩⟩

/-! ### an owned list is written -/
theorem upd_own {j : Nat} {p : Addr} {xs ys : List D} {ws : List V} (s : Stp K F0 H0 ρ0 σ0 F H ρ σ) (hj : ρ[j]? = some (some (.lst xs, true))) (hs : σ[j]? = some (some (V.ref p))) (r : Reps K F ys ws) :
    Stp K F0 H0 ρ0 σ0 F (upd H p (.lst ws)) (ρ.set j (some (.lst ys, true))) σ := by
  obtain ⟨p', e1, ow⟩ := s.er.own j _ hj
  rw [hs] at e1; cases e1
  have nF := ow.nF
  have at_ : ∀ (k : Nat) (x : D × Bool), (ρ.set j (some (.lst ys, true)))[k]? = some (some x) → (k = j ∧ x = (.lst ys, true)) ∨ (k ≠ j ∧ ρ[k]? = some (some x)) := fun k x h => by
    by_cases hk : k = j
    · subst hk
      exact .inl ⟨rfl, (Option.some.inj (getset_self h)).symm⟩
    · rw [getset_ne (Ne.symm hk)] at h
      exact .inr ⟨hk, h⟩
  have old : ∀ {k : Nat} {d : D}, (ρ.set j (some (.lst ys, true)))[k]? = some (some (d, true)) → ∃ d', ρ[k]? = some (some (d', true)) := fun {k d} h => by
    rcases at_ k _ h with ⟨rfl, e⟩ | ⟨_, h⟩
    · exact ⟨_, hj⟩
    · exact ⟨_, h⟩
  have fne : ∀ b u, F b = some u → b ≠ p := fun b u e z => by rw [z, nF] at e; cases e
  refine ⟨s.ff, fun b u e => by rw [upd_ne (fne b u e)]; exact s.fh b u e, ⟨by rw [List.length_set]; exact s.er.len, fun k d h => ?_, fun k d h => ?_, fun i k d e q h1 h2 h3 h4 => ?_⟩, fun b o h1 bx h2 h3 => ?_, fun b ⟨k, d, h1, h2⟩ => ?_, fun b o h => ?_⟩
  · rcases at_ k _ h with ⟨_, e⟩ | ⟨_, h⟩
    · cases e
    · exact s.er.frz k d h
  · rcases at_ k _ h with ⟨rfl, e⟩ | ⟨hk, h⟩
    · cases e
      exact ⟨p, hs, ws, upd_same, r, nF⟩
    · obtain ⟨q, e1, ow'⟩ := s.er.own k d h
      refine ⟨q, e1, ow'.keep (Same.refl F) (fun u z => ?_) ow'.nF⟩
      rw [upd_ne (fun z => hk (s.er.dis k j d (.lst xs) p h hj (by rw [← z]; exact e1) hs))]
      exact z
  · obtain ⟨d', h1⟩ := old h1
    obtain ⟨e', h2⟩ := old h2
    exact s.er.dis i k d' e' q h1 h2 h3 h4
  · obtain ⟨h4, h5⟩ := s.fr b o h1 bx h2 h3
    have ne : b ≠ p := fun z => by
      subst z
      rcases s.os b ⟨j, _, hj, hs⟩ with z | z
      · exact h3 z
      · exact not_none h1 z
    exact ⟨by rw [upd_ne ne]; exact h4, h5⟩
  · obtain ⟨d', h1⟩ := old h1
    exact s.os b ⟨k, d', h1, h2⟩
  · obtain ⟨u, h⟩ := s.gr b o h
    by_cases hb : b = p
    · subst hb; exact ⟨_, upd_same⟩
    · exact ⟨u, by rw [upd_ne hb]; exact h⟩
theorem var_slot {C : Ctx} {i j : Nat} {ρ ρ' : EnvD} (h : ev C (.var i) ρ = .ok (.slot j, ρ')) : ρ' = ρ ∧ j = i := by
  simp only [ev] at h
  cases g : getD? ρ i with
  | none => rw [g] at h; cases h
  | some x =>
    rw [g] at h
    obtain ⟨d, fr⟩ := x
    cases fr with
    | true => cases h; exact ⟨rfl, rfl⟩
    | false => cases h
theorem setiD_ok {d d' : D × Bool} {k e : D} (h : setiD d k e = .ok d') : ∃ xs n m, d = (.lst xs, true) ∧ k = .int n ∧ ixN xs.length n = some m ∧ d' = (.lst (xs.set m e), true) := by
  obtain ⟨dd, fr⟩ := d
  cases dd <;> first | (cases h; done) | skip
  cases fr <;> first | (cases h; done) | skip
  cases k <;> first | (cases h; done) | skip
  rename_i xs n
  simp only [setiD] at h
  cases hz : ixN xs.length n with
  | none => rw [hz] at h; cases h
  | some m => rw [hz] at h; cases h; exact ⟨xs, n, m, rfl, rfl, hz, rfl⟩
theorem m_seti (C : Ctx) {i : Nat} {ek ee : E} {o k : Expr} {pos' : Pos} (ho : PE X o (tO X.K (ev C (.var i)))) (hk : PE X k (tO X.K (ev C ek))) (ha : PE X a (tO X.K (ev C ee)))
    (hs : swapsWithSole [.Subscript o k pos'] a pos.line X.env = pure false) (hw : swappedStores [.Subscript o k pos'] a X.env = pure none)
    (h1 : (assignEach [.Subscript o k pos'] X.env).map (·.2) = [assign (.Subscript o k pos') X.env])
    (hsub : ∀ v, assign (.Subscript o k pos') X.env v = (do
      let ov ← holding [v] (eval o X.env)
      let iv ← holding [v, ov] (eval k X.env)
      standAt pos'
      holding [v, ov, iv] (setItem ov iv v)
      release [v, ov, iv] [])) : PS X (.Assign [.Subscript o k pos'] a pos) (tSt X.K P (run C P (.seti i ek ee))) := by
  refine PS.imp (ps_asg (pe_frz ha) (pg_sub ho hk set_list hsub) hs hw h1) fun E σ H ⟨F, ρ, sm, er, q⟩ => ?_
  simp only [run] at q
  rw [R.wp_bind] at q
  refine ⟨F, ρ, sm, er, ?_⟩
  show ((ev C ee ρ).bind fun o => frz o.2 o.1).wp _
  rw [R.wp_bind]
  refine R.wp_mono q fun o q => ?_
  rw [R.wp_bind] at q
  refine R.wp_mono q fun x q F1 H1 u se ru => ?_
  rw [R.wp_bind] at q
  refine ⟨F1, x.2, se.st.fh, se.st.er, R.wp_mono q fun w q F2 H2 v se2 ⟨hv, nv⟩ => ?_⟩
  rw [R.wp_bind] at q
  have sx := se.trans se2
  refine ⟨F2, w.2, sx.st.fh, sx.st.er, R.wp_mono q fun p q F3 H3 kv se3 ⟨hk, nk⟩ => ?_⟩
  rw [R.wp_bind] at q
  have sy := sx.trans se3
  obtain ⟨kd, hkd, q⟩ := R.wp_eq q
  have rk := hk.rd sy.st.er hkd
  obtain ⟨wo, wρ⟩ := w
  cases wo with
  | val d fr => exact q.elim
  | slot j =>
    have q := R.wp_bind.mp q
    obtain ⟨d, hd, q⟩ := R.wp_of.mp q
    have hd := getD?_some hd
    have q := R.wp_bind.mp q
    obtain ⟨d', hd', q⟩ := R.wp_eq q
    obtain ⟨hσ, _⟩ := hv
    obtain ⟨xs, n, m, rfl, rfl, hix, rfl⟩ := setiD_ok hd'
    obtain ⟨pa, e1, vs, hp, rs, nF⟩ := sy.st.er.own j _ hd
    rw [hσ] at e1; cases e1
    obtain rfl := rk.int
    have ru3 := ru.mono (se2.trans se3).st.ff
    exact ⟨pa, vs, n, m, rfl, rfl, hp, by rw [← rs.length]; exact hix, q F3 _ σ ⟨upd_own sy.st hd hσ (Reps.set ru3 m rs), fun _ _ => rfl⟩⟩
theorem appD_ok {d d' : D × Bool} {e : D} (h : appD d e = .ok d') : ∃ xs, d = (.lst xs, true) ∧ xs.length < lenLine ∧ d' = (.lst (xs ++ [e]), true) := by
  obtain ⟨dd, fr⟩ := d
  cases dd <;> first | (cases h; done) | skip
  cases fr <;> first | (cases h; done) | skip
  rename_i xs
  simp only [appD] at h
  cases hz : decide (xs.length < lenLine) with
  | false => rw [hz] at h; cases h
  | true => rw [hz] at h; cases h; exact ⟨xs, rfl, of_decide_eq_true hz, rfl⟩
theorem extD_ok {d d' : D × Bool} {e : D} (h : extD d e = .ok d') : ∃ xs ys, d = (.lst xs, true) ∧ e = .lst ys ∧ xs.length + ys.length ≤ lenLine ∧ d' = (.lst (xs ++ ys), true) := by
  obtain ⟨dd, fr⟩ := d
  cases dd <;> first | (cases h; done) | skip
  cases fr <;> first | (cases h; done) | skip
  cases e <;> first | (cases h; done) | skip
  rename_i xs ys
  simp only [extD] at h
  cases hz : decide (xs.length + ys.length ≤ lenLine) with
  | false => rw [hz] at h; cases h
  | true => rw [hz] at h; cases h; exact ⟨xs, ys, rfl, rfl, of_decide_eq_true hz, rfl⟩
/-- the value's type: a list -/
theorem lstAt_ok {α : Type} {w : Opd × EnvD} {k : Nat → R α} {Q : α → Prop} (h : (lstAt w k).wp Q) : ∃ j xs, w.1 = .slot j ∧ w.2[j]? = some (some (.lst xs, true)) ∧ (k j).wp Q := by
  obtain ⟨o, ρ⟩ := w
  cases o with
  | val d fr => exact h.elim
  | slot j =>
    simp only [lstAt] at h
    split at h
    · rename_i xs e
      exact ⟨j, xs, rfl, getD?_some e, h⟩
    · exact h.elim
theorem m_app (C : Ctx) {i : Nat} {ee : E} {o : Expr} {apos pos' : Pos} (ho : PE X o (tO X.K (ev C (.var i)))) (ha : PE X a (tO X.K (ev C ee))) (hb : attributeBase o "append" X.env (eval o X.env) = eval o X.env) (hl : (apos.endLine == pos.line) = true)
    (he : starEach [a] X.env = (false, eval a X.env) :: starEach [] X.env) : PS X (.Expr (.Call (.Attribute o "append" apos) [a] [] pos) pos') (tSt X.K P (run C P (.app i ee))) := by
  refine PS.imp (ps_expr (pe_bm PySem.F.plainAttrs_list PySem.F.slot_list_append PySem.F.type_list_append mt_append ho (pa_cons (pe_frz ha) pa_nil he) hb (by rw [he]; rfl) hl he rfl) rfl) fun E σ H ⟨F, ρ, sm, er, q⟩ => ?_
  simp only [run] at q
  rw [R.wp_bind] at q
  refine ⟨F, ρ, sm, er, R.wp_mono q fun w q F1 H1 v se ⟨hv, nv⟩ => ?_⟩
  obtain ⟨j, xs0, ew, hj, q⟩ := lstAt_ok q
  rw [ew] at hv
  obtain ⟨hσ, _⟩ := hv
  obtain ⟨p0, e1, vs0, hp0, _, _⟩ := se.st.er.own j _ hj
  rw [hσ] at e1; cases e1
  refine ⟨.inl ⟨rfl, vs0, SqL.of hp0⟩, ?_⟩
  rw [R.wp_bind] at q
  refine ⟨F1, w.2, se.st.fh, se.st.er, ?_⟩
  show ((ev C ee w.2).bind fun o => frz o.2 o.1).wp _
  rw [R.wp_bind]
  refine R.wp_mono q fun o q => ?_
  rw [R.wp_bind] at q
  refine R.wp_mono q fun x q F2 H2 u se2 ru => ?_
  have sx := se.trans se2
  rw [R.wp_bind] at q
  obtain ⟨d, hd, q⟩ := R.wp_of.mp q
  have hd := getD?_some hd
  rw [R.wp_bind] at q
  obtain ⟨d', hd', q⟩ := R.wp_eq q
  obtain ⟨xs, rfl, hz, rfl⟩ := appD_ok hd'
  obtain ⟨pa, e1, vs, hp, rs, nF⟩ := sx.st.er.own j _ hd
  rw [hσ] at e1; cases e1
  exact ⟨p0, vs, u, rfl, rfl, hp, by rw [← rs.length]; exact hz, q F2 _ σ ⟨upd_own sx.st hd hσ (rs.append (.cons ru .nil)), fun _ _ => rfl⟩⟩
theorem m_ext (C : Ctx) {i : Nat} {ee : E} {o : Expr} {apos pos' : Pos} (ho : PE X o (tO X.K (ev C (.var i)))) (ha : PE X a (tO X.K (ev C ee))) (hb : attributeBase o "extend" X.env (eval o X.env) = eval o X.env) (hl : (apos.endLine == pos.line) = true)
    (he : starEach [a] X.env = (false, eval a X.env) :: starEach [] X.env) : PS X (.Expr (.Call (.Attribute o "extend" apos) [a] [] pos) pos') (tSt X.K P (run C P (.ext i ee))) := by
  refine PS.imp (ps_expr (pe_bm PySem.F.plainAttrs_list PySem.F.slot_list_extend PySem.F.type_list_extend mt_extend ho (pa_cons (pe_frz ha) pa_nil he) hb (by rw [he]; rfl) hl he rfl) rfl) fun E σ H ⟨F, ρ, sm, er, q⟩ => ?_
  simp only [run] at q
  rw [R.wp_bind] at q
  refine ⟨F, ρ, sm, er, R.wp_mono q fun w q F1 H1 v se ⟨hv, nv⟩ => ?_⟩
  obtain ⟨j, xs0, ew, hj, q⟩ := lstAt_ok q
  rw [ew] at hv
  obtain ⟨hσ, _⟩ := hv
  obtain ⟨p0, e1, vs0, hp0, _, _⟩ := se.st.er.own j _ hj
  rw [hσ] at e1; cases e1
  refine ⟨.inl ⟨rfl, vs0, SqL.of hp0⟩, ?_⟩
  rw [R.wp_bind] at q
  refine ⟨F1, w.2, se.st.fh, se.st.er, ?_⟩
  show ((ev C ee w.2).bind fun o => frz o.2 o.1).wp _
  rw [R.wp_bind]
  refine R.wp_mono q fun o q => ?_
  rw [R.wp_bind] at q
  refine R.wp_mono q fun x q F2 H2 u se2 ru => ?_
  have sx := se.trans se2
  rw [R.wp_bind] at q
  obtain ⟨d, hd, q⟩ := R.wp_of.mp q
  have hd := getD?_some hd
  rw [R.wp_bind] at q
  obtain ⟨d', hd', q⟩ := R.wp_eq q
  obtain ⟨xd, xρ⟩ := x
  obtain ⟨xs, ys, rfl, e2, hz, rfl⟩ := extD_ok hd'
  have e2 : xd = .lst ys := e2
  subst e2
  obtain ⟨pa, e1, vs, hp, rs, nF⟩ := sx.st.er.own j _ hd
  rw [hσ] at e1; cases e1
  cases ru with
  | lst hb ru =>
    exact ⟨p0, _, vs, _, rfl, rfl, hp, sx.st.fh _ _ hb, by rw [← rs.length, ← ru.length]; exact hz, q F2 _ σ ⟨upd_own sx.st hd hσ (rs.append ru), fun _ _ => rfl⟩⟩

/-! ### return, if, for -/
theorem m_ret (C : Ctx) {e : E} (ha : PE X a (tO X.K (ev C e))) : PS X (.Return (some a) pos) (tSt X.K P (run C P (.ret e))) := by
  refine PS.imp (ps_ret ha) fun E σ H ⟨F, ρ, sm, er, q⟩ => ?_
  simp only [run] at q
  rw [R.wp_bind] at q
  refine ⟨F, ρ, sm, er, R.wp_mono q fun o q F1 H1 v se ⟨hv, nv⟩ => ?_⟩
  rw [R.wp_bind] at q
  obtain ⟨x, h1, q⟩ := R.wp_eq q
  obtain ⟨F2, se2, vr, nw⟩ := tak_ok se hv nv h1
  exact q F2 H1 σ v se2.ss vr nw
theorem m_ite (C : Ctx) {ec : E} {sa sb : S} {xs ys : List Stmt} (hc : PT X c (tB' X.K fun ρ => tstO (ev C ec ρ))) (ha : PSs X xs (tSt X.K P (run C P sa))) (hb : PSs X ys (tSt X.K P (run C P sb))) : PS X (.If c xs ys pos) (tSt X.K P (run C P (.ite ec sa sb))) := by
  refine PS.imp (ps_if hc ha hb) fun E σ H ⟨F, ρ, sm, er, q⟩ => ?_
  simp only [run] at q
  rw [R.wp_bind] at q
  refine ⟨F, ρ, sm, er, R.wp_mono q fun x q F1 H1 se => ?_⟩
  obtain ⟨k, ρ1⟩ := x
  cases k with
  | true => exact ⟨F1, ρ1, se.st.fh, se.st.er, wp_from se.ss q⟩
  | false => exact ⟨F1, ρ1, se.st.fh, se.st.er, wp_from se.ss q⟩
theorem m_for (C : Ctx) {tg : Tg} {it : E} {sb : S} {tgx iter : Expr} {body : List Stmt} (hx : X.xe = fun _ _ => False) (hc : X.calm = true) (hi : PI X tgx iter (wI X.K (evI C it))) (hg : PG X tgx (gT X.K tg)) (hb : PSs X body (tSt X.K P (run C P sb)))
    (hs : ∀ x, foldedSetIterable iter X.env x = pure x) : PS X (.For tgx iter body [] pos) (tSt X.K P (run C P (.for tg it sb))) := by
  refine PS.imp (ps_for (by rw [hx]; exact PassesOwn.never) hc hi hg hb hs) fun E σ H ⟨F, ρ, sm, er, q⟩ => ?_
  simp only [run] at q
  rw [R.wp_bind] at q
  refine ⟨F, ρ, sm, er, R.wp_mono q fun x q F1 H1 J se y => ?_⟩
  obtain ⟨ds, ρ1⟩ := x
  let IW : Nat → L2.St → Hp → Prop := fun i σi Hi => ∃ Fi ρi, SS X.K P F H ρ σ Fi Hi ρi σi ∧ Same F1 Fi ∧ (forLoop (fun d ρ => (bindT P tg d ρ).bind fun ρ => run C P sb ρ) (ds.drop i) ρi).wp (FlP X.K P F H ρ σ E)
  refine ⟨fun i m σi Hi => m = ds.length - i ∧ i ≤ ds.length ∧ IW i σi Hi, ⟨ds.length, by simp, Nat.zero_le _, F1, ρ1, se.ss, Same.refl F1, q⟩, ?_⟩
  rintro i m σi Hi ⟨rfl, hi, Fi, ρi, st, ff, q⟩
  by_cases hlt : i < ds.length
  · have hd : ds[i]? = some ds[i] := List.getElem?_eq_getElem hlt
    rw [List.drop_eq_getElem_cons hlt] at q
    refine .inr ⟨((y Hi (ff.trans st.st.fh)).2 i _ hd).1, IW (i + 1), fun σ' H' w => ⟨ds.length - (i + 1), by omega, rfl, hlt, w⟩, fun v H' yl => ?_⟩
    obtain ⟨F', g, rv⟩ := yld_in y hd ff st.st yl
    have st' : SS X.K P F H ρ σ F' H' ρi σi := ⟨stp_grw st.st g, st.kp⟩
    simp only [forLoop] at q
    rw [R.wp_bind, R.wp_bind] at q
    obtain ⟨ρb, hb, q⟩ := R.wp_eq q
    refine tg_ok (Stp.refl st'.st.fh st'.st.er) rv hb fun σ2 s1 dm off fr => ⟨F', ρb, s1.fh, s1.er, R.wp_mono q fun f q => ?_⟩
    have s2 := st'.trans (SS.off s1 off fr)
    cases f with
    | nx ρ2 => exact fun F3 H3 σ3 s3 => ⟨F3, ρ2, s2.trans s3, (ff.trans g.ff).trans (s1.ff.trans s3.st.ff), q⟩
    | rt x ρ2 => exact FlP.from (f := .rt x ρ2) s2 q
  · have e : i = ds.length := by omega
    subst e
    rw [List.drop_length] at q
    exact .inl ⟨(y Hi (ff.trans st.st.fh)).1, q Fi Hi σi st⟩
end VI

set_option Elab.async false
set_option linter.all false
set_option autoImplicit false
set_option maxRecDepth 100000
set_option maxHeartbeats 4000000
/-! VSet: sets of tuples whose items are texts and ints: how one is added. -/
namespace VS
open PySem PySem.Spec PyProof.Rows L2

abbrev KH (P : Program) (w : World) (k : List Key) : Int := tupleKeyHash (mixKind P w) k
abbrev KT (P : Program) (w : World) (h : Heap) (k : List Key) (b : Addr) : Prop := IsTupleKey (mixKind P w) h k b
abbrev Ent : Type := Addr × List Key
section
variable {P : Program} {w : World} {A : Around} {E : Value → Shared → Prop} {s : Shared}

/-! ### what is asked of such tuples -/
theorem leaf {ks : List Key} {us : List Value} (h : ItemsAre (mixKind P w) ks us) : ∀ u ∈ us, (∃ i t, u = Value.int i t) ∨ ∃ x t, u = Value.str x t := by
  induction h with
  | nil => intro u hu; exact absurd hu List.not_mem_nil
  | cons hk _ ih =>
    intro u hu
    cases hu with
    | head =>
      rcases keyIs_shape hk with ⟨i, t, _, e⟩ | ⟨x, t, _, e⟩
      · exact .inl ⟨i, t, e⟩
      · exact .inr ⟨x, t, e⟩
    | tail _ hu => exact ih u hu
theorem cls_int {n : Nat} {i : Int} {t : Tok} : ofAClassStatement n (.int i t) = pure false := by unfold ofAClassStatement; rfl
theorem cls_str {n : Nat} {x : Str} {t : Tok} : ofAClassStatement n (.str x t) = pure false := by unfold ofAClassStatement; rfl
theorem hby_int {n : Nat} {i : Int} {t : Tok} : hashByValue n (.int i t) = pure true := by cases n <;> rfl
theorem hby_str {n : Nat} {x : Str} {t : Tok} : hashByValue n (.str x t) = pure false := by cases n <;> rfl
theorem cls_key {k : List Key} {b : Addr} {Q : Bool → Shared → Prop} (hk : KT P w s.heap k b) (q : Q false s) : wpAny (model P w) A (ofAClassStatement 8 (.ref b)) Q E s := by
  have ty := hk.typeIs
  obtain ⟨o, its, n, ho, _, hd, hi⟩ := hk
  unfold ofAClassStatement
  refine wpAny_bind (wpAny_typeOf ty ?_)
  dsimp only
  have tt : (("tuple" : String) == "tuple") = true := by decide
  simp only [tt, if_true, Bool.not_true, Bool.false_eq_true, if_false]
  try refine wpAny_bind (wpAny_pure ?_)
  try simp only [Bool.not_true, Bool.false_eq_true, if_false]
  show wpAny _ _ (seqItems? (.ref b) >>= _) _ _ s
  refine wpAny_bind (wpAny_seqItems ho hd ?_)
  dsimp only
  refine wpAny_bind ?_
  show wpAny _ _ (forIn its _ _) _ _ s
  rw [← Array.forIn_toList]
  refine wpAny_forIn_list _ (fun left r z => r.1 = none ∧ z = s ∧ ∀ u ∈ left, (∃ i t, u = Value.int i t) ∨ ∃ x t, u = Value.str x t) _ ?_ ?_ _ _ ⟨rfl, rfl, leaf hi⟩
  · rintro u left r z ⟨hr, rfl, al⟩
    have al' := fun v hv => al v (List.mem_cons_of_mem u hv)
    rcases al u List.mem_cons_self with ⟨i, t, rfl⟩ | ⟨x, t, rfl⟩
    · rw [cls_int]
      exact wpAny_bind (wpAny_pure (by simp only [Bool.false_eq_true, if_false]; exact wpAny_pure ⟨rfl, rfl, al'⟩))
    · rw [cls_str]
      exact wpAny_bind (wpAny_pure (by simp only [Bool.false_eq_true, if_false]; exact wpAny_pure ⟨rfl, rfl, al'⟩))
  · rintro ⟨c, d⟩ z ⟨hr, rfl, _⟩
    simp only at hr
    subst hr
    exact wpAny_pure q
theorem hby_key {k : List Key} {b : Addr} {Q : Bool → Shared → Prop} (hk : KT P w s.heap k b) (q : ∀ c, Q c s) : wpAny (model P w) A (hashByValue 8 (.ref b)) Q E s := by
  have ty := hk.typeIs
  obtain ⟨o, its, n, ho, _, hd, hi⟩ := hk
  unfold hashByValue
  refine wpAny_bind (wpAny_specialOf ty F.slot_tuple_hash.lookup ?_)
  show wpAny _ _ (seqItems? (.ref b) >>= _) _ _ s
  refine wpAny_bind (wpAny_seqItems ho hd ?_)
  refine wpAny_bind ?_
  show wpAny _ _ (forIn its _ _) _ _ s
  rw [← Array.forIn_toList]
  refine wpAny_forIn_list _ (fun left r z => z = s ∧ ∀ u ∈ left, (∃ i t, u = Value.int i t) ∨ ∃ x t, u = Value.str x t) _ ?_ ?_ _ _ ⟨rfl, leaf hi⟩
  · rintro u left r z ⟨rfl, al⟩
    have al' := fun v hv => al v (List.mem_cons_of_mem u hv)
    rcases al u List.mem_cons_self with ⟨i, t, rfl⟩ | ⟨x, t, rfl⟩
    · rw [hby_int]
      exact wpAny_bind (wpAny_pure (by simp only [Bool.not_true, Bool.false_eq_true, if_false]; exact wpAny_pure ⟨rfl, al'⟩))
    · rw [hby_str]
      exact wpAny_bind (wpAny_pure (by simp only [Bool.not_false, if_true]; exact wpAny_pure (wpAny_pure (q _))))
  · rintro ⟨c, d⟩ z ⟨rfl, _⟩
    cases c with
    | none => exact wpAny_pure (q _)
    | some c => exact wpAny_pure (q _)
theorem unseen {k : List Key} {b : Addr} {Q : Bool → Shared → Prop} (hk : KT P w s.heap k b) {us : List Value} (hu : ∀ u ∈ us, ∃ k' c, u = Value.ref c ∧ KT P w s.heap k' c) (q : Q false s) :
    wpAny (model P w) A (searchCouldBeSeen (.ref b) us) Q E s := by
  unfold searchCouldBeSeen
  refine wpAny_bind ?_
  refine wpAny_forIn_list _ (fun left r z => r.1 = none ∧ z = s ∧ ∀ u ∈ left, ∃ k' c, u = Value.ref c ∧ KT P w s.heap k' c) _ ?_ ?_ _ _ ⟨rfl, rfl, hu⟩
  · rintro u left r z ⟨hr, rfl, al⟩
    have al' : ∀ v ∈ left, ∃ k' c, v = Value.ref c ∧ KT P w z.heap k' c := fun v hv => al v (List.mem_cons_of_mem u hv)
    obtain ⟨k', c, rfl, hc⟩ := al u List.mem_cons_self
    dsimp only
    by_cases hv : (b == c || (carriedByValue (.ref b) && carriedByValue (.ref c))) = true
    · exact wp_if_pos hv (wpAny_pure ⟨rfl, rfl, al'⟩)
    · refine wp_if_neg hv (wpAny_bind (wpAny_eqIsQuiet_tuple hk ?_))
      simp only [Bool.not_true, Bool.false_eq_true, if_false]
      refine wpAny_bind (wpAny_eqIsQuiet_tuple hc ?_)
      simp only [Bool.not_true, Bool.false_eq_true, if_false]
      refine wpAny_bind (cls_key hk ?_)
      simp only [Bool.false_eq_true, if_false]
      refine wpAny_bind (cls_key hc ?_)
      simp only [Bool.false_eq_true, if_false]
      exact wpAny_pure ⟨rfl, rfl, al'⟩
  · rintro ⟨c, d⟩ z ⟨hr, rfl, _⟩
    simp only at hr
    subst hr
    exact wpAny_pure q

/-! ### the set -/
def ents (P : Program) (w : World) (L : List Ent) : List (Int × Value) := L.map fun p => (KH P w p.2, Value.ref p.1)
def hsh (P : Program) (w : World) (L : List Ent) : List Int := L.map fun p => KH P w p.2
structure TSet (P : Program) (w : World) (h : Heap) (a : Addr) (L : List Ent) (es : Array (Int × Value)) (ep : Nat) (t : SetTable) : Prop where
  o : ∃ o, h.get? a = some o ∧ o.ExactSet ∧ o.data = .set es ep t
  list : es.toList = ents P w L
  tab : TabOk t (hsh P w L)
  nod : (L.map (·.2)).Nodup
  key : ∀ p ∈ L, KT P w h p.2 p.1
  led : w.params.followText "set-order" = true ∨ t.led = true
  low : L.length * 5 < t.mask * 3
  few : L.length < 64
theorem ents_len {L : List Ent} : (ents P w L).length = L.length := by unfold ents; rw [List.length_map]
theorem hsh_len {L : List Ent} : (hsh P w L).length = L.length := by unfold hsh; rw [List.length_map]
theorem size_of_ents {L : List Ent} {es : Array (Int × Value)} (h : es.toList = ents P w L) : es.size = L.length := by rw [← Array.length_toList, h, ents_len]
theorem ent_at {L : List Ent} {es : Array (Int × Value)} (h : es.toList = ents P w L) {i : Nat} {p : Ent} (hp : L[i]? = some p) : es[i]? = some (KH P w p.2, Value.ref p.1) := by
  rw [← Array.getElem?_toList, h]
  show (L.map _)[i]? = _
  rw [List.getElem?_map, hp]
  rfl
theorem fits_by {L : List Ent} {es : Array (Int × Value)} {t : SetTable} (h : es.toList = ents P w L) (z : t.place.size = L.length) (d : t.dummies = #[]) (le : L.length ≤ t.mask) : t.fits es.size = true := by
  show (t.place.size == es.size && decide (t.place.size + t.dummies.size ≤ t.mask)) = true
  rw [size_of_ents h, z, d]
  simp only [beq_self_eq_true, Bool.true_and, decide_eq_true_eq]
  exact le
variable {a : Addr} {L : List Ent} {es : Array (Int × Value)} {ep : Nat} {t : SetTable}
theorem TSet.psz (R : TSet P w s.heap a L es ep t) : t.place.size = L.length := by rw [R.tab.sz, hsh_len]
theorem TSet.fit (R : TSet P w s.heap a L es ep t) : t.fits es.size = true := fits_by R.list R.psz R.tab.dm (by have := R.low; omega)
theorem TSet.odd (R : TSet P w s.heap a L es ep t) : ¬ t.gaveWay = true := by
  unfold SetTable.gaveWay
  rw [mask_odd R.tab.mok]
  decide
theorem same_mem {t : SetTable} : t.sameMemory t.moves t.mask = some true := by
  unfold SetTable.sameMemory
  rw [if_pos (beq_self_eq_true _)]
/-- the state of a search behind c steps -/
abbrev pb (m : Nat) (h : Int) (c : Nat) : SetTable.Probe := nth m (runAt m (SetTable.bits h % (m + 1)) (SetTable.bits h)) c
theorem pb_on {m : Nat} {h : Int} {c q : Nat} : nth m (pb m h c) q = pb m h (c + q) := (nth_add m c _ q).symm
theorem pb_j {m : Nat} {h : Int} {c q : Nat} : (nth m (pb m h c) q).j = way m h (c + q) := congrArg SetTable.Probe.j pb_on
theorem pb_dummy {m : Nat} {h : Int} {c : Nat} : (pb m h c).dummy = none := by
  have go : ∀ (n : Nat) (p : SetTable.Probe), p.dummy = none → (nth m p n).dummy = none := by
    intro n
    induction n with
    | zero => exact fun p z => z
    | succ n ih =>
      intro p z
      refine ih (adv m p) ?_
      unfold adv
      split <;> exact z
  exact go c _ rfl
/-- behind a candidate: what is asked of it -/
theorem cand (R : TSet P w s.heap a L es ep t) {x : Addr} {k : List Key} (hx : KT P w s.heap k x) (hu : A.units < cLine) {i j f : Nat} {p : Ent} {nx : SetTable.Probe} (hp : L[i]? = some p) (hj : t.place.toList[i]? = some j) {Q : SetFound → Shared → Prop}
    (yes : p.2 = k → Q (.there none) s) (no : p.2 ≠ k → wpAny (model P w) A (setSearchFrom a (.ref x) (KH P w k) true f (some nx)) Q E s) :
    wpAny (model P w) A (searchRest a (.ref x) (KH P w k) true f es t j i nx) Q E s := by
  obtain ⟨o, ho, _, hd⟩ := R.o
  have hk := R.key p (List.mem_of_getElem? hp)
  have he := ent_at R.list hp
  unfold searchRest
  rw [he]
  dsimp only
  refine wpAny_bind (wpAny_holding (wpAny_eqBool_tuple hu hk hx ?_))
  refine wpAny_bind (wpAny_setState_of ho hd R.fit ?_)
  dsimp only
  by_cases e : p.2 = k
  · exact wp_if_pos (by simp [e]) (wpAny_pure (yes e))
  · refine wp_if_neg (by simp [e]) ?_
    try refine wpAny_bind (wpAny_pure ?_)
    rw [same_mem]
    dsimp only
    simp only [if_true, slot_live R.tab.ris hj, he]
    refine wpAny_bind (wpAny_isSame_ref_self (wpAny_bind (wpAny_pure ?_)))
    simp only [if_true]
    exact wp_if_neg (by simp [e]) (no e)
/-- a search from its c-th step: K is where the first empty slot lies -/
theorem seek (R : TSet P w s.heap a L es ep t) {x : Addr} {k : List Key} (hx : KT P w s.heap k x) (hu : A.units < cLine) {K : Nat} (big : K < 10 * SetTable.turns t.mask)
    (hole : way t.mask (KH P w k) K ∉ t.place.toList) (full : ∀ c, c < K → way t.mask (KH P w k) c ∈ t.place.toList) {Q : SetFound → Shared → Prop}
    (yes : k ∈ L.map (·.2) → Q (.there none) s) (no : k ∉ L.map (·.2) → Q (.free (way t.mask (KH P w k) K) false) s) :
    ∀ (f c : Nat) (z : Option SetTable.Probe), z.getD (t.probeStart (KH P w k)) = pb t.mask (KH P w k) c → c ≤ K → K - c < f →
      (∀ (i : Nat) (p : Ent), L[i]? = some p → p.2 = k → ∃ c', c ≤ c' ∧ c' < K ∧ t.place.toList[i]? = some (way t.mask (KH P w k) c')) →
      wpAny (model P w) A (setSearchFrom a (.ref x) (KH P w k) true f z) Q E s := by
  intro f
  induction f with
  | zero => intro c z _ _ lt; exact absurd lt (Nat.not_lt_zero _)
  | succ f ih =>
    intro c z hz hc lt ahead
    obtain ⟨o, ho, _, hd⟩ := R.o
    rw [setSearchFrom_succ]
    refine wpAny_bind (wpAny_setState_of ho hd R.fit ?_)
    dsimp only
    refine wp_if_neg R.odd ?_
    try refine wpAny_bind (wpAny_pure ?_)
    have hash : ∀ (i : Nat) (p : Ent), L[i]? = some p → ((es[i]?.map (·.1)).getD 0) = KH P w p.2 := fun i p hp => by rw [ent_at R.list hp]; rfl
    have cut : c + (K - c) = K := by omega
    have two := go_spec t R.tab.ris R.tab.dm (fun i => (es[i]?.map (·.1)).getD 0) (KH P w k) (10 * SetTable.turns t.mask) (K - c) (pb t.mask (KH P w k) c) pb_dummy (by omega)
      (fun q hq => by rw [pb_j]; exact full (c + q) (by omega)) (by rw [pb_j, cut]; exact hole)
    have probe : t.probe (fun i => (es[i]?.map (·.1)).getD 0) (KH P w k) (z.getD (t.probeStart (KH P w k))) = SetTable.probe.go t (fun i => (es[i]?.map (·.1)).getD 0) (KH P w k) (10 * SetTable.turns t.mask) (pb t.mask (KH P w k) c) := by rw [hz]; rfl
    rw [probe]
    rcases two with ⟨q, i, hq, hi, _, miss, e⟩ | ⟨miss, e⟩
    · rw [e]
      dsimp only
      rw [pb_j] at hi
      have il : i < L.length := by
        have h1 := (List.getElem?_eq_some_iff.mp hi).1
        rw [Array.length_toList, R.psz] at h1
        exact h1
      obtain ⟨p, hp⟩ : ∃ p, L[i]? = some p := ⟨L[i], List.getElem?_eq_getElem il⟩
      have rest : wpAny (model P w) A (searchRest a (.ref x) (KH P w k) true f es t (nth t.mask (pb t.mask (KH P w k) c) q).j i (nth t.mask (pb t.mask (KH P w k) c) (q + 1))) Q E s := by
        refine cand R hx hu hp (by rw [pb_j]; exact hi) (fun e => yes (List.mem_map.mpr ⟨p, List.mem_of_getElem? hp, e⟩)) fun ne => ?_
        refine ih (c + (q + 1)) _ pb_on (by omega) (by omega) fun i0 p0 h0 e0 => ?_
        obtain ⟨c', l1, l2, l3⟩ := ahead i0 p0 h0 e0
        have hne : c' ≠ c + q := by
          rintro rfl
          have s1 := slot_live R.tab.ris l3
          rw [slot_live R.tab.ris hi] at s1
          injection s1 with s1
          subst s1
          rw [hp] at h0
          cases h0
          exact ne e0
        have hge : c + q ≤ c' := by
          rcases Nat.lt_or_ge c' (c + q) with y | y
          · have h1 := miss (c' - c) i0 (by omega) (by rw [pb_j, show c + (c' - c) = c' by omega]; exact l3)
            exact absurd ((hash i0 p0 h0).trans (by rw [e0])) h1
          · exact y
        exact ⟨c', by omega, l2, l3⟩
      by_cases hl : t.led = true
      · refine wp_if_neg (by simp [hl]) ?_
        try refine wpAny_bind (wpAny_pure ?_)
        exact rest
      · refine wp_if_pos (by simp [hl]) ?_
        refine wpAny_bind (unseen hx (fun u hm => ?_) ?_)
        · obtain ⟨y, hy, rfl⟩ := List.mem_map.mp hm
          have hy : y ∈ es ∧ y.1 = KH P w k := by simpa using hy
          have hy := hy.1
          rw [← Array.mem_toList_iff, R.list] at hy
          obtain ⟨p2, hp2, rfl⟩ := List.mem_map.mp hy
          exact ⟨p2.2, p2.1, rfl, R.key p2 hp2⟩
        · refine wp_if_neg (by decide) ?_
          try refine wpAny_bind (wpAny_pure ?_)
          exact rest
    · rw [e]
      dsimp only
      rw [pb_j, cut]
      refine wpAny_pure (no fun hm => ?_)
      obtain ⟨p0, hp0, e0⟩ := List.mem_map.mp hm
      obtain ⟨i0, g0⟩ := List.getElem?_of_mem hp0
      obtain ⟨c', l1, l2, l3⟩ := ahead i0 p0 g0 e0
      have h1 := miss (c' - c) i0 (by omega) (by rw [pb_j, show c + (c' - c) = c' by omega]; exact l3)
      exact absurd ((hash i0 p0 g0).trans (by rw [e0])) h1
/-- the search that adding makes -/
theorem look (R : TSet P w s.heap a L es ep t) {x : Addr} {k : List Key} (hx : KT P w s.heap k x) (hu : A.units < cLine) {Q : SetFound → Shared → Prop} (yes : k ∈ L.map (·.2) → Q (.there none) s)
    (no : ∀ K, k ∉ L.map (·.2) → way t.mask (KH P w k) K ∉ t.place.toList → (∀ c, c < K → way t.mask (KH P w k) c ∈ t.place.toList) → Q (.free (way t.mask (KH P w k) K) false) s) :
    wpAny (model P w) A (setSearch a (.ref x) (KH P w k) true) Q E s := by
  have low := R.low
  obtain ⟨K, big, hole, full⟩ := R.tab.first (by rw [hsh_len]; omega) (KH P w k)
  have lt : K < 100000 := by
    have h1 : SetTable.turns t.mask ≤ 142 := by
      unfold SetTable.turns
      rcases R.tab.mok with e | e | e <;> omega
    omega
  unfold setSearch
  refine seek R hx hu big hole full yes (fun n => no K n hole full) 100000 0 none rfl (Nat.zero_le _) (by omega) fun i p hp e => ?_
  have h1 : (hsh P w L)[i]? = some (KH P w k) := by
    show (L.map _)[i]? = _
    rw [List.getElem?_map, hp, ← e]
    rfl
  have il : i < t.place.toList.length := by rw [Array.length_toList, R.psz]; exact (List.getElem?_eq_some_iff.mp hp).1
  obtain ⟨c, hc, ec⟩ := R.tab.before hole h1 (List.getElem?_eq_getElem il)
  exact ⟨c, Nat.zero_le _, hc, by rw [List.getElem?_eq_getElem il, ec]⟩
end
end VS

set_option Elab.async false
set_option linter.all false
set_option autoImplicit false
set_option maxRecDepth 100000
set_option maxHeartbeats 4000000
/-! VSet2: a tuple is added to a set; the loop of set(xs). -/
namespace VS
open PySem PySem.Spec PyProof.Rows L2
section
variable {P : Program} {w : World} {A : Around} {E : Value → Shared → Prop} {s : Shared} {a : Addr} {L : List Ent} {es : Array (Int × Value)} {ep : Nat} {t : SetTable}

theorem all_back {α : Type} (l : List α) : (List.range l.length).filterMap (fun i => l[i]?) = l := by
  induction l with
  | nil => rfl
  | cons x l ih =>
    rw [List.length_cons, List.range_succ_eq_map, List.filterMap_cons]
    simp only [List.getElem?_cons_zero, List.filterMap_map]
    exact congrArg (x :: ·) ih
theorem key_stays {h h' : Heap} {k : List Key} {b : Addr} (x : KT P w h k b) (ho : ∃ o, h.get? a = some o ∧ ∃ es ep t, o.data = .set es ep t) (sb : Heap.SameBut a h h') : KT P w h' k b := by
  obtain ⟨o', its, n, h1, h2, h3, h4⟩ := x
  obtain ⟨o, ho, es, ep, t, hd⟩ := ho
  refine ⟨o', its, n, ?_, h2, h3, h4⟩
  rw [sb.2 b fun z => ?_]
  · exact h1
  · subst z
    rw [h1] at ho
    cases ho
    rw [h3] at hd
    cases hd
theorem key_keep {h h' : Heap} {k : List Key} {b : Addr} (x : KT P w h k b) (kp : ∀ o, h.get? b = some o → h'.get? b = some o) : KT P w h' k b := by
  obtain ⟨o', its, n, h1, r⟩ := x
  exact ⟨o', its, n, kp _ h1, r⟩
/-- the elements in the table's new sequence -/
theorem reorder (hl : es.toList = ents P w L) {od : Array Nat} (pm : od.toList.Perm (List.range L.length)) :
    ∃ M : List Ent, (od.filterMap (es[·]?)).toList = ents P w M ∧ M.Perm L ∧ hsh P w M = od.toList.map fun i => (es.map (·.1)).getD i 0 := by
  have at_ : ∀ i, es[i]? = (L[i]?).map fun (p : Ent) => (KH P w p.2, Value.ref p.1) := fun i => by
    rw [← Array.getElem?_toList, hl]
    show (L.map _)[i]? = _
    rw [List.getElem?_map]
  have lt : ∀ i ∈ od.toList, i < L.length := fun i hi => List.mem_range.mp (pm.mem_iff.mp hi)
  refine ⟨od.toList.filterMap fun i => L[i]?, ?_, ?_, ?_⟩
  · have e : (od.filterMap (es[·]?)).toList = od.toList.filterMap (es[·]?) := by simp
    rw [e]
    show _ = (od.toList.filterMap fun i => L[i]?).map _
    rw [List.map_filterMap]
    congr 1
    exact funext at_
  · have e := pm.filterMap fun i => L[i]?
    rw [all_back] at e
    exact e
  · generalize od.toList = l at lt
    induction l with
    | nil => rfl
    | cons i l ih =>
      have hi := lt i List.mem_cons_self
      have e := List.getElem?_eq_getElem hi
      rw [List.filterMap_cons_some e]
      show _ :: hsh P w _ = _ :: _
      rw [ih fun j hj => lt j (List.mem_cons_of_mem _ hj)]
      congr 1
      have e2 : (es.map (·.1))[i]? = some (KH P w L[i].2) := by rw [Array.getElem?_map, at_, e]; rfl
      show KH P w L[i].2 = (es.map (·.1)).getD i 0
      rw [Array.getD_eq_getD_getElem?, e2]
      rfl
/-- what a set's object must be -/
structure Raw0 (P : Program) (w : World) (h : Heap) (a : Addr) (L : List Ent) (es : Array (Int × Value)) (ep : Nat) (t : SetTable) : Prop where
  o : ∃ o, h.get? a = some o ∧ o.ExactSet ∧ o.data = .set es ep t
  list : es.toList = ents P w L
  nod : (L.map (·.2)).Nodup
  key : ∀ p ∈ L, KT P w h p.2 p.1
  led : w.params.followText "set-order" = true ∨ t.led = true
  few : L.length < 64
/-- laid anew in a larger table -/
theorem larger (R : Raw0 P w s.heap a L es ep t) (ps : t.place.size = L.length) (dm : t.dummies = #[]) (le : L.length ≤ t.mask) {n M : Nat} (hn : SetTable.sizeAbove n - 1 = M) (ok : MaskOk M) (z : SetTable.sizeAbove n ≤ 128) (low : L.length * 5 < M * 3)
    {Q : Unit → Shared → Prop} (q : ∀ h' L' es' ep' t', Heap.SameBut a s.heap h' → TSet P w h' a L' es' ep' t' → L'.Perm L → Q () { s with heap := h' }) : wpAny (model P w) A (setRelay a n) Q E s := by
  obtain ⟨o, ho, hex, hd⟩ := R.o
  have sz := size_of_ents R.list
  obtain ⟨t', od, e, pm, tb, m1, m2, _, _⟩ := relaid_ok t (hs := es.map (·.1)) (wanted := n) hn ok (by rw [Array.size_map, sz]; omega)
  rw [Array.size_map, sz] at pm
  obtain ⟨M', r1, r2, r3⟩ := reorder R.list pm
  rw [← r3] at tb
  have sz' : (od.filterMap (es[·]?)).size = es.size := by rw [size_of_ents r1, sz, r2.length_eq]
  rw [setRelay_eq]
  refine wpAny_bind (wpAny_setState_of ho hd (fits_by R.list ps dm le) ?_)
  dsimp only
  refine wp_if_neg (by rw [sizeLine_eq]; omega) ?_
  try refine wpAny_bind (wpAny_pure ?_)
  rw [e]
  dsimp only
  refine wpAny_bind ?_
  refine wp_if_neg (by rw [sz']; simp) ?_
  try refine wpAny_bind (wpAny_pure ?_)
  refine wpAny_pure ?_
  dsimp only
  have few := R.few
  refine wpAny_storeSet_of ho hd ?_ (by rw [sz', sz, sizeLine_eq]; omega)
  have sb : Heap.SameBut a s.heap (s.heap.update a (Obj.putSet (od.filterMap (es[·]?)) t')) := Heap.SameBut.update ..
  refine q _ M' _ (ep + 1) t' sb ⟨⟨_, store_at ho hd, ⟨hex.1, hex.2.1, hex.2.2⟩, rfl⟩, r1, tb, (r2.map (·.2)).nodup_iff.mpr R.nod, fun p hp => ?_, by rw [m2]; exact R.led, by rw [r2.length_eq, m1]; exact low, by rw [r2.length_eq]; exact few⟩ r2
  exact key_stays (R.key p (r2.mem_iff.mp hp)) ⟨o, ho, _, _, _, hd⟩ sb
theorem ins_perm {α : Type} (l : List α) (p : Nat) (x : α) : (l.take p ++ x :: l.drop p).Perm (x :: l) := by
  have e : (l.take p ++ x :: l.drop p).Perm (x :: (l.take p ++ l.drop p)) := List.perm_middle
  rwa [List.take_append_drop] at e
/-- adding -/
theorem put (R : TSet P w s.heap a L es ep t) {x : Addr} {k : List Key} (hx : KT P w s.heap k x) (hu : A.units < cLine) (room : L.length + 1 < 64) {Q : Bool → Shared → Prop}
    (q : ∀ b h' L' es' ep' t', Heap.SameBut a s.heap h' → TSet P w h' a L' es' ep' t' → (k ∈ L.map (·.2) → L' = L) → (k ∉ L.map (·.2) → L'.Perm ((x, k) :: L)) → Q b { s with heap := h' }) :
    wpAny (model P w) A (setAddHashed a (.ref x) (KH P w k)) Q E s := by
  obtain ⟨o, ho, hex, hd⟩ := R.o
  have low := R.low
  have sz := size_of_ents R.list
  unfold setAddHashed
  refine wpAny_holding ?_
  rw [show (100000 : Nat) = 99999 + 1 from rfl, setAddHashedIn_succ]
  refine wpAny_bind (wpAny_setState_of ho hd R.fit ?_)
  dsimp only
  refine wp_if_neg (by simp [byScan, Value.scannable]) ?_
  try refine wpAny_bind (wpAny_pure ?_)
  refine wpAny_bind (look R hx hu (fun hm => ?_) fun K hm hole full => ?_)
  · dsimp only
    exact wpAny_pure (q false s.heap L es ep t (Heap.SameBut.refl a s.heap) R (fun _ => rfl) fun n => absurd hm n)
  · dsimp only
    refine wpAny_bind (wpAny_setState_of ho hd R.fit ?_)
    dsimp only
    obtain ⟨c1, c2, c3, c4, c5, _, _, _, c9⟩ := R.tab.put hole full
    generalize hpt : t.put (way t.mask (KH P w k) K) = pt at c1 c3 c4 c5 c9 ⊢
    obtain ⟨t1, pl⟩ := pt
    dsimp only at c1 c3 c4 c5 c9 ⊢
    subst c1
    have rows : (SetTable.insertAt es (SetTable.below t.place (way t.mask (KH P w k) K)) (KH P w k, Value.ref x)).toList = ents P w (L.take (SetTable.below t.place (way t.mask (KH P w k) K)) ++ (x, k) :: L.drop (SetTable.below t.place (way t.mask (KH P w k) K))) := by
      rw [SetTable.toList_insertAt, R.list]
      unfold ents
      rw [List.map_append, List.map_cons, List.map_take, List.map_drop]
    have hs1 : hsh P w (L.take (SetTable.below t.place (way t.mask (KH P w k) K)) ++ (x, k) :: L.drop (SetTable.below t.place (way t.mask (KH P w k) K))) =
        (hsh P w L).take (SetTable.below t.place (way t.mask (KH P w k) K)) ++ KH P w k :: (hsh P w L).drop (SetTable.below t.place (way t.mask (KH P w k) K)) := by
      unfold hsh
      rw [List.map_append, List.map_cons, List.map_take, List.map_drop]
    rw [← hs1] at c3
    clear hs1
    generalize SetTable.below t.place (way t.mask (KH P w k) K) = p at rows c2 c3 ⊢
    have pm := ins_perm L p (x, k)
    have n1 : (L.take p ++ (x, k) :: L.drop p).length = L.length + 1 := pm.length_eq
    have nd : ((L.take p ++ (x, k) :: L.drop p).map (·.2)).Nodup := (pm.map (·.2)).nodup_iff.mpr (List.nodup_cons.mpr ⟨hm, R.nod⟩)
    generalize L.take p ++ (x, k) :: L.drop p = L1 at rows c3 pm n1 nd
    generalize SetTable.insertAt es p (KH P w k, Value.ref x) = es1 at rows ⊢
    have z1 := size_of_ents rows
    rw [hsh_len] at c9
    have fin : ∀ t2 : SetTable, t2.place = t1.place → t2.dummies = t1.dummies → t2.mask = t1.mask → t2.led = t1.led →
        wpAny (model P w) A (do
          storeSet a es1 t2
          if (!false && t2.tooFull) = true then setRelay a (SetTable.grown (es.size + 1))
          return true) Q E s := fun t2 g1 g2 g3 g4 => by
      have tb2 : TabOk t2 (hsh P w L1) := ⟨by rw [g1]; exact c3.ris, by rw [g2]; exact c3.dm, by rw [g1]; exact c3.sz, by rw [g3]; exact c3.mok, by rw [g1, g3]; exact c3.bd, by rw [g1, g3]; exact c3.reach⟩
      have full2 : t2.tooFull = decide ((L.length + 1) * 5 ≥ t.mask * 3) := by
        unfold SetTable.tooFull SetTable.fill at *
        rw [g1, g2, g3, c9, c4]
      refine wpAny_bind (wpAny_storeSet_of ho hd ?_ (by rw [z1, n1, sizeLine_eq]; omega))
      have sb : Heap.SameBut a s.heap (s.heap.update a (Obj.putSet es1 t2)) := Heap.SameBut.update ..
      have ho1 := store_at (es' := es1) (t' := t2) ho hd
      generalize s.heap.update a (Obj.putSet es1 t2) = h1 at sb ho1 ⊢
      have ob : ∃ o, h1.get? a = some o ∧ o.ExactSet ∧ o.data = .set es1 (ep + 1) t2 := ⟨_, ho1, ⟨hex.1, hex.2.1, hex.2.2⟩, rfl⟩
      have kk : ∀ p ∈ L1, KT P w h1 p.2 p.1 := fun p hp => by
        rcases List.mem_cons.mp (pm.mem_iff.mp hp) with e | hp
        · rw [e]; exact key_stays hx ⟨o, ho, _, _, _, hd⟩ sb
        · exact key_stays (R.key p hp) ⟨o, ho, _, _, _, hd⟩ sb
      have ld : w.params.followText "set-order" = true ∨ t2.led = true := by rw [g4, c5]; exact R.led
      have few1 : L1.length < 64 := by rw [n1]; exact room
      cases hf : t2.tooFull with
      | true =>
        rw [hf] at full2
        have ge := of_decide_eq_true full2.symm
        have two : (t.mask = 7 ∧ L.length = 4) ∨ (t.mask = 31 ∧ L.length = 18) := by
          rcases R.tab.mok with e | e | e
          · exact .inl ⟨e, by omega⟩
          · exact .inr ⟨e, by omega⟩
          · exfalso; omega
        have raw : Raw0 P w h1 a L1 es1 (ep + 1) t2 := ⟨ob, rows, nd, kk, ld, few1⟩
        have ps : t2.place.size = L1.length := by rw [tb2.sz, hsh_len]
        refine wp_if_pos (by simp) (wpAny_bind ?_)
        have go : ∀ M, SetTable.sizeAbove (SetTable.grown (es.size + 1)) - 1 = M → MaskOk M → SetTable.sizeAbove (SetTable.grown (es.size + 1)) ≤ 128 → L1.length * 5 < M * 3 → L1.length ≤ t2.mask →
            wpAny (model P w) A (setRelay a (SetTable.grown (es.size + 1))) (fun _ s' => wpAny (model P w) A (pure true) Q E s') E { s with heap := h1 } := fun M h1' h2' h3' h4' h5' =>
          larger (s := { s with heap := h1 }) raw ps tb2.dm h5' h1' h2' h3' h4' fun h2 L2' es2 ep2 t3 sb2 R2 pm2 => wpAny_pure (q true h2 L2' es2 ep2 t3 (sb.trans sb2) R2 (fun z => absurd z hm) fun _ => pm2.trans pm)
        rcases two with ⟨e1, e2⟩ | ⟨e1, e2⟩
        · refine go 31 (by rw [sz, e2, size_20]) (.inr (.inl rfl)) (by rw [sz, e2, size_20]; decide) (by omega) (by rw [g3, c4]; omega)
        · refine go 127 (by rw [sz, e2, size_76]) (.inr (.inr rfl)) (by rw [sz, e2, size_76]; decide) (by omega) (by rw [g3, c4]; omega)
      | false =>
        rw [hf] at full2
        have lt := of_decide_eq_false full2.symm
        refine wp_if_neg (by simp) ?_
        exact wpAny_pure (q true h1 L1 es1 (ep + 1) t2 sb ⟨ob, rows, tb2, nd, kk, ld, by rw [g3, c4, n1]; omega, few1⟩ (fun z => absurd z hm) fun _ => pm)
    by_cases hp : t1.plain = true
    · refine wp_if_pos hp (wpAny_bind (hby_key hx fun c => ?_))
      cases c with
      | true => exact fin t1 rfl rfl rfl rfl
      | false => exact fin { t1 with plain := false } rfl rfl rfl rfl
    · exact wp_if_neg hp (wpAny_bind (wpAny_pure (fin t1 rfl rfl rfl rfl)))
end
end VS

set_option Elab.async false
set_option linter.all false
set_option autoImplicit false
set_option maxRecDepth 100000
set_option maxHeartbeats 4000000
/-! VSet3: a text is added to a set of texts. -/
namespace VS
open PySem PySem.Spec PyProof.Rows L2
abbrev SEnt : Type := Str × Tok
def sents (w : World) (L : List SEnt) : List (Int × Value) := L.map fun p => (hashStr w p.1, Value.str p.1 p.2)
structure SSet (w : World) (h : Heap) (a : Addr) (L : List SEnt) (es : Array (Int × Value)) (ep : Nat) (t : SetTable) : Prop where
  o : ∃ o, h.get? a = some o ∧ o.ExactSet ∧ o.data = .set es ep t
  list : es.toList = sents w L
  nod : (L.map (·.1)).Nodup
  ris : Ris t.place.toList
  fit : t.fits es.size = true
  led : w.params.followText "set-order" = true ∨ t.led = true
  few : L.length < 64
section
variable {P : Program} {w : World} {A : Around} {E : Value → Shared → Prop} {s : Shared} {a : Addr} {L : List SEnt} {es : Array (Int × Value)} {ep : Nat} {t : SetTable}
theorem is_str (k : Str) (u : Tok) : (PySem.strKind P w).is k (.str k u) = true := by
  show Value.isStrOf k (.str k u) = true
  unfold Value.isStrOf
  exact beq_self_eq_true k
theorem s_size (h : es.toList = sents w L) : es.size = L.length := by
  rw [← Array.length_toList, h]
  unfold sents
  rw [List.length_map]
theorem s_bound {n : Nat} (h : n < 64) : n < scanBound := Nat.lt_trans h (by decide)
theorem s_elems (h : es.toList = sents w L) : ElemsOf (PySem.strKind P w) es.toList := by
  intro e he
  rw [h] at he
  obtain ⟨p, _, rfl⟩ := List.mem_map.mp he
  exact ⟨⟨p.1, is_str p.1 p.2, rfl⟩, rfl⟩
theorem s_find (h : es.toList = sents w L) (k : Str) : (es.toList.findIdx? fun e => (PySem.strKind P w).is k e.2).isSome = decide (k ∈ L.map (·.1)) := by
  by_cases hk : k ∈ L.map (·.1)
  · rw [decide_eq_true hk]
    obtain ⟨p, hp, e⟩ := List.mem_map.mp hk
    cases q : es.toList.findIdx? fun e => (PySem.strKind P w).is k e.2 with
    | some j => rfl
    | none =>
      have m : (hashStr w p.1, Value.str p.1 p.2) ∈ es.toList := by rw [h]; exact List.mem_map.mpr ⟨p, hp, rfl⟩
      have no := List.findIdx?_eq_none_iff.mp q _ m
      rw [← e] at no
      rw [is_str (P := P) (w := w) p.1 p.2] at no
      cases no
  · rw [decide_eq_false hk]
    cases q : es.toList.findIdx? fun e => (PySem.strKind P w).is k e.2 with
    | none => rfl
    | some j =>
      obtain ⟨hj, yes, _⟩ := List.findIdx?_eq_some_iff_getElem.mp q
      have m : es.toList[j] ∈ sents w L := by rw [← h]; exact List.getElem_mem hj
      obtain ⟨p, hp, e⟩ := List.mem_map.mp m
      rw [← e] at yes
      have e2 := (PySem.strKind P w).inj (.str p.1 p.2) k p.1 yes (is_str p.1 p.2)
      exact absurd (List.mem_map.mpr ⟨p, hp, e2.symm⟩) hk
/-- the end of adding -/
theorem s_tail {g : Bool → Sem Unit} (hg : ∀ (b : Bool) (s₁ : Shared) (Q' : Unit → Shared → Prop), Q' () s₁ → wpAny (model P w) A (g b) Q' E s₁) {o : Obj} (ho : s.heap.get? a = some o) (hex : o.ExactSet) (hd : o.data = .set es ep t)
    {L1 : List SEnt} {es1 : Array (Int × Value)} {t1 : SetTable} (l1 : es1.toList = sents w L1) (nd : (L1.map (·.1)).Nodup) (rs : Ris t1.place.toList) (ft : t1.fits es1.size = true) (ld : w.params.followText "set-order" = true ∨ t1.led = true) (few : L1.length < 64) {d : Bool} {R : Option Bool → Shared → Prop}
    (q : ∀ h' L' es' ep' t', Heap.SameBut a s.heap h' → SSet w h' a L' es' ep' t' → L'.Perm L1 → R (some true) { s with heap := h' }) :
    wpAny (model P w) A (do
      storeSet a es1 t1
      if (!d && t1.tooFull) = true then do
        g (relayAll t1 es1 (SetTable.grown es1.size)).2.2
        storeSet a (relayAll t1 es1 (SetTable.grown es1.size)).1 (relayAll t1 es1 (SetTable.grown es1.size)).2.1
        pure (some true)
      else pure (some true)) R E s := by
  have z1 := s_size l1
  refine wpAny_bind (wpAny_storeSet_of ho hd ?_ (fits_of_scanBound (by rw [z1]; exact s_bound few)))
  have h1 := store_at (es' := es1) (t' := t1) ho hd
  have sb := Heap.SameBut.update s.heap a (Obj.putSet es1 t1)
  generalize s.heap.update a (Obj.putSet es1 t1) = hh at h1 sb ⊢
  by_cases c : (!d && t1.tooFull) = true
  · refine wp_if_pos c ?_
    have pm := relayAll_perm t1 es1 (SetTable.grown es1.size)
    have f2 := relayAll_fits t1 es1 (SetTable.grown es1.size)
    have r2 := relayAll_ris t1 es1 (SetTable.grown es1.size)
    have d2 := relayAll_led t1 es1 (SetTable.grown es1.size)
    generalize relayAll t1 es1 (SetTable.grown es1.size) = Z at pm f2 r2 d2 ⊢
    obtain ⟨es2, t2, gave⟩ := Z
    dsimp only at pm f2 r2 d2 ⊢
    rw [l1] at pm
    obtain ⟨L2', p2, l2⟩ := perm_lift (fun p : SEnt => (hashStr w p.1, Value.str p.1 p.2)) pm L1 rfl
    have z2 : es2.size = L2'.length := s_size l2.symm
    refine wpAny_bind (hg _ _ _ ?_)
    refine wpAny_bind (wpAny_storeSet_of (s := { s with heap := hh }) h1 rfl ?_ (fits_of_scanBound (by rw [z2, p2.length_eq]; exact s_bound few)))
    have h2 := store_at (es' := es2) (t' := t2) h1 rfl
    refine wpAny_pure (q _ L2' es2 _ t2 (sb.trans (Heap.SameBut.update _ a _)) ⟨⟨_, h2, ⟨hex.1, hex.2.1, hex.2.2⟩, rfl⟩, l2.symm, (p2.map (·.1)).nodup_iff.mpr nd, r2, f2, ld.imp id fun z => by rw [d2]; exact z, by rw [p2.length_eq]; exact few⟩ p2)
  · exact wp_if_neg c (wpAny_pure (q _ L1 es1 _ t1 sb ⟨⟨_, h1, ⟨hex.1, hex.2.1, hex.2.2⟩, rfl⟩, l1, nd, rs, ft, ld, few⟩ (List.Perm.refl _)))
/-- adding -/
theorem puts (R : SSet w s.heap a L es ep t) {k : Str} {u : Tok} (room : L.length + 1 < 64) {Q : Bool → Shared → Prop}
    (q : ∀ b h' L' es' ep' t', Heap.SameBut a s.heap h' → SSet w h' a L' es' ep' t' → (k ∈ L.map (·.1) → L' = L) → (k ∉ L.map (·.1) → L'.Perm ((k, u) :: L)) → Q b { s with heap := h' }) :
    wpAny (model P w) A (setAddHashed a (.str k u) ((PySem.strKind P w).hash k)) Q E s := by
  obtain ⟨o, ho, hex, hd⟩ := R.o
  have hel : ElemsOf (PySem.strKind P w) es.toList := s_elems R.list
  have few := R.few
  have fd := s_find (P := P) R.list k
  have gw : ∀ (b : Bool) {s₁ : Shared} {Q' : Unit → Shared → Prop}, Q' () s₁ → wpAny (model P w) A (match b with | true => rule "set.scan.the-table-gave-way" | false => pure ()) Q' E s₁ := by
    intro b s₁ Q' z
    cases b
    · exact wpAny_pure z
    · exact wpAny_rule z
  unfold setAddHashed setAddHashedIn
  refine wpAny_holding (wpAny_bind (wpAny_setState_of ho hd R.fit ?_))
  dsimp only
  rw [byScan_of rfl (by rw [s_size R.list]; exact s_bound few) hel]
  simp only [↓reduceIte]
  unfold setAddByScan
  refine wpAny_bind (wpAny_bind (wpAny_rule ?_))
  refine wpAny_bind (wpAny_setScan_of (knd := PySem.strKind P w) (k := k) (is_str k u) ho hd R.fit hel ?_)
  cases hi : List.findIdx? (fun e => (PySem.strKind P w).is k e.2) es.toList with
  | some j =>
    rw [hi] at fd
    have hm := of_decide_eq_true fd.symm
    dsimp only
    exact wpAny_pure (wpAny_pure (q false s.heap L es ep t (Heap.SameBut.refl a s.heap) R (fun _ => rfl) fun n => absurd hm n))
  | none =>
    rw [hi] at fd
    have hm := of_decide_eq_false fd.symm
    dsimp only
    have pm := layNew_perm t es ((PySem.strKind P w).hash k) (.str k u)
    have f1 := layNew_fits t es ((PySem.strKind P w).hash k) (.str k u)
    have r1 := layNew_ris t es ((PySem.strKind P w).hash k) (.str k u) R.ris
    have d1 := layNew_led t es ((PySem.strKind P w).hash k) (.str k u)
    generalize layNew t es ((PySem.strKind P w).hash k) (.str k u) = Z at pm f1 r1 d1 ⊢
    obtain ⟨es1, t1, wd, gave⟩ := Z
    dsimp only at pm f1 r1 d1 ⊢
    rw [Array.toList_push, R.list] at pm
    have pm' : es1.toList.Perm (sents w ((k, u) :: L)) := pm.trans (List.perm_append_singleton _ _)
    obtain ⟨L1, p1, l1⟩ := perm_lift (fun p : SEnt => (hashStr w p.1, Value.str p.1 p.2)) pm' ((k, u) :: L) rfl
    have nd : (L1.map (·.1)).Nodup := (p1.map (·.1)).nodup_iff.mpr (List.nodup_cons.mpr ⟨hm, R.nod⟩)
    have few1 : L1.length < 64 := by rw [p1.length_eq]; exact room
    have ld : w.params.followText "set-order" = true ∨ t1.led = true := R.led.imp id fun z => by rw [d1]; exact z
    have fin : ∀ h' L' es' ep' t', Heap.SameBut a s.heap h' → SSet w h' a L' es' ep' t' → L'.Perm L1 → Q true { s with heap := h' } := fun h' L' es' ep' t' sb R' pq =>
      q true h' L' es' ep' t' sb R' (fun z => absurd z hm) fun _ => pq.trans p1
    refine wpAny_bind (gw _ ?_)
    by_cases hp : t1.plain = true
    · refine wp_if_pos hp (wpAny_bind ?_)
      rw [hby_str]
      refine wpAny_pure ?_
      refine s_tail ?_ ho hex hd l1.symm nd ?_ ?_ ?_ few1 ?_
      · intro b s₁ Q' z; cases b <;> first | exact wpAny_pure z | exact wpAny_rule z
      · exact r1
      · exact SetTable.fits_plain_off f1
      · exact ld
      · intro h' L' es' ep' t' sb R' pq; dsimp only; exact wpAny_pure (fin h' L' es' ep' t' sb R' pq)
    · refine wp_if_neg hp (wpAny_bind (wpAny_pure ?_))
      simp only [↓reduceIte]
      refine s_tail ?_ ho hex hd l1.symm nd r1 f1 ld few1 ?_
      · intro b s₁ Q' z; cases b <;> first | exact wpAny_pure z | exact wpAny_rule z
      · intro h' L' es' ep' t' sb R' pq; dsimp only; exact wpAny_pure (fin h' L' es' ep' t' sb R' pq)
end
end VS

set_option Elab.async false
set_option linter.all false
set_option autoImplicit false
set_option maxRecDepth 100000
set_option maxHeartbeats 4000000
/-! VSet4: set(xs) of a list, whatever the elements are. -/
namespace VS
open PySem PySem.Spec PyProof.Rows L2
section
variable {P : Program} {w : World} {A : Around} {E : Value → Shared → Prop} {s : Shared}
/-- set.update's loop: J tells of the heap behind i items -/
theorem grow {I : Addr} {fp wr : List Addr} {G : Array GenState → Array GenState → Prop} {n : Nat} {Pv : Nat → Value → Prop} {St : Nat → Shared → Prop} {R : Result → Shared → Prop} (W : WalksS P w A.in1 I fp wr G n Pv St) (S : Addr) (out : S ∉ fp) (J : Nat → Heap → Prop)
    (keep : ∀ i h h', J i h → (∀ b o, b ∉ wr → h.get? b = some o → h'.get? b = some o) → J i h')
    (add : ∀ (i : Nat) (v : Value) (z : Shared) (Q : Bool → Shared → Prop) (E : Value → Shared → Prop), i < n → Pv i v → J i z.heap → (∀ b h' tk, Heap.SameBut S z.heap h' → z.toks ≤ tk → J (i + 1) h' → Q b { z with heap := h', toks := tk }) →
      wpAny (model P w) A.in1 (setAdd S v) Q E z) :
    ∀ (k i : Nat) (z : Shared), n - i = k → i ≤ n → St i z → J i z.heap → (∀ z', Moved (S :: wr) G z z' → J n z'.heap → R (.ok (.ret .none)) z') → codeAny (model P w) A (.builtin "set.update.loop" ⟨[.ref S, .ref I], []⟩) R z := by
  have notS : S ∉ wr := fun c => out (W.sub _ c)
  have wide : ∀ b ∈ wr, b ∈ S :: wr := fun b hb => List.mem_cons_of_mem _ hb
  intro k
  induction k with
  | zero =>
    intro i z hk hi st j hR
    obtain rfl : i = n := by omega
    refine codeAny_builtin F.entry_set_update_loop ?_
    rw [Around.under_plainId F.plain_set_update_loop _]
    show wpAny _ A.in1 (pyNext (.ref I) >>= _) _ _ z
    refine wpAny_bind (W.done z _ _ st fun z' m => ?_)
    show wpAny _ A.in1 (ret Value.none) _ _ z'
    exact wpAny_pure (hR z' (m.mono wide) (keep _ _ _ j m.heap))
  | succ k ih =>
    intro i z hk hi st j hR
    have lt : i < n := by omega
    refine codeAny_builtin F.entry_set_update_loop ?_
    rw [Around.under_plainId F.plain_set_update_loop _]
    show wpAny _ A.in1 (pyNext (.ref I) >>= _) _ _ z
    refine wpAny_bind (W.item i z _ _ lt st fun v z' pv st' m => ?_)
    show wpAny _ A.in1 (holding [v] (setAdd S v) >>= _) _ _ z'
    refine wpAny_bind (wpAny_holding (add i v z' _ _ lt pv (keep _ _ _ j m.heap) fun b h' tk sb le j' => ?_))
    refine wpAny_pure ⟨plainId_quiet F.plain_set_update_loop _, ih (i + 1) _ (by omega) lt (W.frame _ z' _ _ st' le fun b hb o e => ?_) j' fun z'' m' j'' => ?_⟩
    · have : b ≠ S := by rintro rfl; exact out hb
      rw [sb.2 b this]; exact e
    · refine hR z'' (Moved.trans W.gtrans ((m.mono wide).then_heap le fun b o hb e => ?_) m') j''
      have : b ≠ S := by rintro rfl; exact hb List.mem_cons_self
      rw [sb.2 b this]; exact e
def newSetObj (w : World) : Obj := { cls := .type "set", dict := none, data := .set #[] 0 (.fresh 0 0 (!w.params.followText "set-order")) }
set_option maxRecDepth 100000 in
set_option maxHeartbeats 6400000 in
/-- set(xs) -/
theorem make {l : Addr} {its : Array Value} {Q : Value → Shared → Prop} (hh : A.handled = none) (hl : s.heap.IsList l its) (J : Nat → Heap → Prop)
    (keep : ∀ i h h', J i h → (∀ b o, b ≤ s.heap.objs.size → h.get? b = some o → h'.get? b = some o) → J i h')
    (first : ∀ h, h.get? s.heap.objs.size = some (newSetObj w) → (∀ b o, s.heap.get? b = some o → h.get? b = some o) → J 0 h)
    (add : ∀ (A' : Around) (i : Nat) (v : Value) (z : Shared) (Q : Bool → Shared → Prop) (E : Value → Shared → Prop), A'.units ≤ A.units + 8 → its[i]? = some v → J i z.heap →
      (∀ b h' tk, Heap.SameBut s.heap.objs.size z.heap h' → z.toks ≤ tk → J (i + 1) h' → Q b { z with heap := h', toks := tk }) → wpAny (model P w) A' (setAdd s.heap.objs.size v) Q E z)
    (q : ∀ (h' : Heap) (tk : Nat), J its.size h' → (∀ b o, s.heap.get? b = some o → h'.get? b = some o) → Q (.ref s.heap.objs.size) { s with heap := h', toks := tk }) :
    wpAny (model P w) A (call (.type "set") [.ref l]) Q E s := by
  obtain ⟨c, tl, hmro⟩ := F.called_set.mro
  have made := F.called_set.made
  have sub := F.called_set.sub
  refine wpAny_call (codeAny_of_tree ?_)
  show wpAny _ _ (callAny (.type "set") _) _ _ _
  refine wpAny_pure ⟨Code.quiet_builtin _ (by decide +kernel), codeAny_builtin F.entry_type_call ?_⟩
  rw [Around.under_plain (weight_type_call_type "set" [.ref l] []) rfl]
  have nt := F.called_set.notType
  have cc := F.called_set.canCreate
  have tc := F.typeCall_set_1 (.ref l)
  repeat (any_goals (first | assumption | wp_step))
  refine codeAny_mono (code_set_led1 (.ref l) (E := E) (Q₁ := fun ob s₁ => ob = .ref s.heap.objs.size ∧ s₁ = { s with heap := s.heap.push (newSetObj w) }) ⟨rfl, rfl⟩) fun r s₁ hr => ?_
  cases r with
  | error e => exact hr
  | ok fl =>
    cases fl with
    | ret ob =>
      obtain ⟨rfl, rfl⟩ := hr
      have gS : (s.heap.push (newSetObj w)).get? s.heap.objs.size = some (newSetObj w) := Heap.get?_push_size _ rfl
      have tS : Shared.TypeIs { s with heap := s.heap.push (newSetObj w) } (.ref s.heap.objs.size) "set" := ⟨_, gS, rfl⟩
      have li := F.called_set.init.lookup
      have bi := F.called_set.init.bind (.ref s.heap.objs.size)
      repeat (any_goals (first | assumption | wp_step))
      refine codeAny_mono (codeAny_call_builtin (R := wants (fun r z => r = .none ∧ ∃ h' tk, z = { s with heap := h', toks := tk } ∧ J its.size h' ∧ (∀ b o, s.heap.get? b = some o → h'.get? b = some o)) E) F.called_set.init.plain F.entry_set_init (check_set_init_1 tS ?_)) fun r₂ s₂ hr₂ => ?_
      · obtain ⟨ol, hol, hcl, nl, hdl⟩ := hl
        obtain ⟨ocls, odict, odata, oslots⟩ := ol
        simp only at hcl hdl
        subst hcl hdl
        have hol' : (s.heap.push (newSetObj w)).get? l = some { cls := .type "list", dict := odict, data := .seq its nl, slots := oslots } := Heap.get?_push_of_some _ hol
        have sls := F.sub_list_set
        have slf := F.sub_list_frozenset
        have ne : (Value.type "list" == Value.type "dict") = false := by decide
        have l1 : (s.heap.push (newSetObj w)).IsList l its := ⟨_, hol', rfl, nl, rfl⟩
        unfold Builtin.«set.__init__» noKeywords Builtin.Frozenset.updateFrom
        generalize hPI : pyIter = PI
        wp_walk
        subst hPI
        refine wpAny_pyIter_list l1 ?_
        refine wpAny_bind (wpAny_runValue ?_)
        have lS : l < s.heap.objs.size := Heap.lt_size hol
        have hh3 : A.in1.in1.in1.handled = none := by simp [hh]
        have z1 : (s.heap.push (newSetObj w)).objs.size = s.heap.objs.size + 1 := Heap.size_push ..
        have neI : l ≠ (s.heap.push (newSetObj w)).objs.size := by rw [z1]; exact Nat.ne_of_lt (Nat.lt_succ_of_lt lS)
        have outS : s.heap.objs.size ∉ [(s.heap.push (newSetObj w)).objs.size, l] := by
          rw [z1]
          simp only [List.mem_cons, List.not_mem_nil, or_false, not_or]
          exact ⟨Nat.ne_of_lt (Nat.lt_succ_self _), Nat.ne_of_gt lS⟩
        have old : ∀ b o, s.heap.get? b = some o → ((s.heap.push (newSetObj w)).push { cls := .type "list_iterator", data := .fields #[.ref l, .int 0 0] }).get? b = some o := fun b o e => Heap.get?_push_of_some _ (Heap.get?_push_of_some _ e)
        refine grow ((Walks.list hh3 _ l neI its).toS) s.heap.objs.size outS J
          (fun i h h' j k => keep i h h' j fun b o le e => k b o (by rw [List.mem_singleton, z1]; exact fun c => absurd le (by rw [c]; exact Nat.not_succ_le_self _)) e)
          (fun i v z Q' E' lt pv j k => add _ i v z Q' E' (by show A.units + 1 + 1 + 1 ≤ _; omega) pv j k)
          (its.size - 0) 0 _ (by omega) (Nat.zero_le _) ⟨⟨_, Heap.get?_push_size _ rfl, rfl, rfl⟩, l1.push _⟩ (first _ (Heap.get?_push_of_some _ gS) old) ?hR
        case hR =>
          intro z' m j'
          obtain ⟨h', g2, d', tk', os'⟩ := z'
          have eg : g2 = s.gens := m.gens
          have ed : d' = s.drawn := m.drawn
          have eo : os' = s.os := m.os
          subst eg ed eo
          have kp : ∀ b o, s.heap.get? b = some o → h'.get? b = some o := fun b o e => m.heap b o (by
            have := Heap.lt_size e
            rw [z1]
            simp only [List.mem_cons, List.not_mem_nil, or_false, not_or]
            exact ⟨Nat.ne_of_lt this, Nat.ne_of_lt (Nat.lt_succ_of_lt this)⟩) (old b o e)
          show wpAny _ _ _ _ _ _
          refine wpAny_pure ?_
          show wpAny _ _ (ret Value.none) _ _ _
          exact wpAny_pure ⟨rfl, h', tk', rfl, j', kp⟩
      · cases r₂ with
        | error e => exact hr₂
        | ok fl₂ =>
          cases fl₂ with
          | ret r =>
            obtain ⟨rfl, h', tk, rfl, j', kp⟩ := hr₂
            repeat (any_goals (first | assumption | wp_step))
            exact q h' tk j' kp
          | _ => exact hr₂.elim
    | _ => exact hr.elim
end
end VS

set_option Elab.async false
set_option linter.all false
set_option autoImplicit false
set_option maxRecDepth 100000
set_option maxHeartbeats 4000000
/-! VSrt: set(xs) of texts and of (text, int)s; sorted of these, of dicts. -/
namespace VS
open PySem PySem.Spec PyProof.Rows L2
/-- later than: nothing is lost -/
structure Later (s s' : Shared) : Prop where
  keep : ∀ b o, s.heap.get? b = some o → s'.heap.get? b = some o
  gens : s'.gens = s.gens
  os : s'.os = s.os
theorem eta {s s' : Shared} (h : s'.os = s.os) : s' = { s with heap := s'.heap, gens := s'.gens, drawn := s'.drawn, toks := s'.toks } := by
  cases s'
  cases s
  cases h
  rfl
abbrev shp : Nat → Bool := fun i => i == 0
/-- a key (text, int) -/
def pk : List Key → Option (List (Int ⊕ List Nat)) | [.inr x, .inl i] => some [.inr x.cps.toList, .inl i] | _ => none
section
variable {P : Program} {w : World} {A : Around} {E : Value → Shared → Prop} {s : Shared}

/-! ### sets -/
theorem led0 {w : World} : w.params.followText "set-order" = true ∨ (SetTable.fresh 0 0 (!w.params.followText "set-order")).led = true := by
  show _ ∨ (!w.params.followText "set-order") = true
  cases w.params.followText "set-order"
  · exact .inr rfl
  · exact .inl rfl
theorem take_one {α : Type} {l : List α} {i : Nat} {x z : α} (h : l[i]? = some x) : z ∈ l.take (i + 1) ↔ z ∈ l.take i ∨ z = x := by
  rw [List.take_succ, h, List.mem_append]
  simp
theorem nodup_le {α : Type} : ∀ {xs U : List α}, xs.Nodup → (∀ x ∈ xs, x ∈ U) → xs.length ≤ U.length
  | [], _, _, _ => Nat.zero_le _
  | x :: xs, U, h, s => by
    classical
    obtain ⟨h1, h2⟩ := List.nodup_cons.mp h
    have hx := s x List.mem_cons_self
    have q := nodup_le (xs := xs) (U := U.erase x) h2 fun y hy => (List.mem_erase_of_ne (fun e : y = x => h1 (by rw [← e]; exact hy))).mpr (s y (List.mem_cons_of_mem _ hy))
    rw [List.length_erase_of_mem hx] at q
    have := List.length_pos_of_mem hx
    rw [List.length_cons]
    omega
/-- set(xs), texts -/
theorem set_strs {l : Addr} {us : List Value} {ks : List Str} {Q : Value → Shared → Prop} (hh : A.handled = none) (hl : s.heap.IsList l us.toArray) (r : StrsAre us ks) (few : ∃ U : List Str, U.length < 63 ∧ ∀ k ∈ ks, k ∈ U)
    (q : ∀ (h' : Heap) (tk : Nat) L es ep t, SSet w h' s.heap.objs.size L es ep t → (∀ k, k ∈ L.map (·.1) ↔ k ∈ ks) → (∀ b o, s.heap.get? b = some o → h'.get? b = some o) → Q (.ref s.heap.objs.size) { s with heap := h', toks := tk }) :
    wpAny (model P w) A (call (.type "set") [.ref l]) Q E s := by
  have len : us.length = ks.length := StrsAre.len_eq r
  refine make hh hl (fun i h => ∃ L es ep t, SSet w h s.heap.objs.size L es ep t ∧ (∀ k, k ∈ L.map (·.1) ↔ k ∈ ks.take i) ∧ L.length ≤ i) ?_ ?_ ?_ ?_
  · rintro i h h' ⟨L, es, ep, t, R, m, z⟩ kp
    obtain ⟨o, ho, x⟩ := R.o
    exact ⟨L, es, ep, t, ⟨⟨o, kp _ o (Nat.le_refl _) ho, x⟩, R.list, R.nod, R.ris, R.fit, R.led, R.few⟩, m, z⟩
  · intro h ho _
    exact ⟨[], #[], 0, _, ⟨⟨_, ho, ⟨rfl, rfl, rfl⟩, rfl⟩, rfl, List.nodup_nil, List.Pairwise.nil, rfl, led0, by decide⟩, fun k => by simp, Nat.le_refl _⟩
  · rintro A' i v z Q' E' _ hv ⟨L, es, ep, t, R, m, le⟩ k
    have hv : us[i]? = some v := by simpa using hv
    have il := (List.getElem?_eq_some_iff.mp hv).1
    obtain ⟨x, tk, rfl, hx⟩ := StrsAre.item r i v hv
    unfold setAdd
    refine wpAny_holding (wpAny_bind ((PySem.strKind P w).pyHash (k := x) (is_str x tk) ?_))
    obtain ⟨U, ul, um⟩ := few
    have room := nodup_le (U := U) R.nod fun k hk => um k (List.mem_of_mem_take ((m k).mp hk))
    rw [List.length_map] at room
    refine puts (s := { z with toks := z.toks + 1 }) R (by omega) fun b h' L' es' ep' t' sb R' c1 c2 => ?_
    refine k b h' _ sb (Nat.le_succ _) ⟨L', es', ep', t', R', fun y => ?_, ?_⟩
    · rw [take_one hx, ← m y]
      by_cases hm : x ∈ L.map (·.1)
      · rw [c1 hm]
        exact ⟨.inl, fun c => c.elim id fun e => e ▸ hm⟩
      · rw [((c2 hm).map (·.1)).mem_iff, List.map_cons, List.mem_cons]
        exact Or.comm
    · by_cases hm : x ∈ L.map (·.1)
      · rw [c1 hm]; omega
      · rw [(c2 hm).length_eq, List.length_cons]; omega
  · rintro h' tk ⟨L, es, ep, t, R, m, _⟩ kp
    refine q h' tk L es ep t R (fun k => ?_) kp
    rw [m k, show us.toArray.size = ks.length by simp [len], List.take_length]
/-- set(xs), tuples -/
theorem set_keys {l : Addr} {us : List Value} {ks : List Ent} {Q : Value → Shared → Prop} (hh : A.handled = none) (hu : A.units + 9 < cLine) (hl : s.heap.IsList l us.toArray) (r : us = ks.map fun p => Value.ref p.1) (tk : ∀ p ∈ ks, KT P w s.heap p.2 p.1) (few : ∃ U : List (List Key), U.length < 63 ∧ ∀ p ∈ ks, p.2 ∈ U)
    (q : ∀ (h' : Heap) (tk : Nat) L es ep t, TSet P w h' s.heap.objs.size L es ep t → (∀ p ∈ L, p ∈ ks) → (∀ p ∈ ks, p.2 ∈ L.map (·.2)) → (∀ b o, s.heap.get? b = some o → h'.get? b = some o) → Q (.ref s.heap.objs.size) { s with heap := h', toks := tk }) :
    wpAny (model P w) A (call (.type "set") [.ref l]) Q E s := by
  have lt : ∀ p ∈ ks, p.1 ≤ s.heap.objs.size := fun p hp => by
    obtain ⟨o, _, _, ho, _⟩ := tk p hp
    exact Nat.le_of_lt (Heap.lt_size ho)
  refine make hh hl (fun i h => (∃ L es ep t, TSet P w h s.heap.objs.size L es ep t ∧ (∀ p ∈ L, p ∈ ks.take i) ∧ (∀ p ∈ ks.take i, p.2 ∈ L.map (·.2)) ∧ L.length ≤ i) ∧ ∀ p ∈ ks, KT P w h p.2 p.1) ?_ ?_ ?_ ?_
  · rintro i h h' ⟨⟨L, es, ep, t, R, m1, m2, z⟩, kk⟩ kp
    obtain ⟨o, ho, x⟩ := R.o
    have kk' : ∀ p ∈ ks, KT P w h' p.2 p.1 := fun p hp => key_keep (kk p hp) fun o e => kp _ o (lt p hp) e
    exact ⟨⟨L, es, ep, t, ⟨⟨o, kp _ o (Nat.le_refl _) ho, x⟩, R.list, R.tab, R.nod, fun p hp => kk' p (List.mem_of_mem_take (m1 p hp)), R.led, R.low, R.few⟩, m1, m2, z⟩, kk'⟩
  · intro h ho kp
    refine ⟨⟨[], #[], 0, _, ⟨⟨_, ho, ⟨rfl, rfl, rfl⟩, rfl⟩, rfl, ⟨List.Pairwise.nil, rfl, rfl, .inl rfl, fun x hx => (nomatch hx), fun i h j hi => (by simp [hsh] at hi)⟩, List.nodup_nil, fun p hp => (nomatch hp), led0, (show 0 * 5 < 7 * 3 by decide), (show 0 < 64 by decide)⟩, fun p hp => (nomatch hp), fun p hp => by simp at hp, Nat.le_refl _⟩, fun p hp => key_keep (tk p hp) (kp _)⟩
  · rintro A' i v z Q' E' hA hv ⟨⟨L, es, ep, t, R, m1, m2, le⟩, kk⟩ k
    have hv : us[i]? = some v := by simpa using hv
    rw [r, List.getElem?_map] at hv
    obtain ⟨p, hp, rfl⟩ := Option.map_eq_some_iff.mp hv
    have il := (List.getElem?_eq_some_iff.mp hp).1
    have hx := kk p (List.mem_of_getElem? hp)
    have hu' : A'.units < cLine := by omega
    unfold setAdd
    refine wpAny_holding (wpAny_bind (wpAny_pyHash_tuple hu' hx ?_))
    obtain ⟨U, ul, um⟩ := few
    have room := nodup_le (U := U) R.nod fun k hk => by
      obtain ⟨y, hy, rfl⟩ := List.mem_map.mp hk
      exact um y (List.mem_of_mem_take (m1 y hy))
    rw [List.length_map] at room
    refine put (s := { z with toks := z.toks + (p.2.length + 1) }) R hx hu' (by omega) fun b h' L' es' ep' t' sb R' c1 c2 => ?_
    obtain ⟨o, ho, _, hd⟩ := R.o
    refine k b h' _ sb (Nat.le_add_right _ _) ⟨⟨L', es', ep', t', R', fun y hy => ?_, fun y hy => ?_, ?_⟩, fun y hy => key_stays (kk y hy) ⟨o, ho, _, _, _, hd⟩ sb⟩
    · rw [take_one hp]
      by_cases hm : p.2 ∈ L.map (·.2)
      · rw [c1 hm] at hy; exact .inl (m1 y hy)
      · rcases List.mem_cons.mp ((c2 hm).mem_iff.mp hy) with e | c
        · exact .inr e
        · exact .inl (m1 y c)
    · rw [take_one hp] at hy
      by_cases hm : p.2 ∈ L.map (·.2)
      · rw [c1 hm]
        rcases hy with c | e
        · exact m2 y c
        · rw [e]; exact hm
      · rw [((c2 hm).map (·.2)).mem_iff, List.map_cons, List.mem_cons]
        rcases hy with c | e
        · exact .inr (m2 y c)
        · rw [e]; exact .inl rfl
    · by_cases hm : p.2 ∈ L.map (·.2)
      · rw [c1 hm]; omega
      · rw [(c2 hm).length_eq, List.length_cons]; omega
  · rintro h' tk' ⟨⟨L, es, ep, t, R, m1, m2, _⟩, _⟩ kp
    have e : us.toArray.size = ks.length := by rw [r]; simp
    rw [e, List.take_length] at m1 m2
    exact q h' tk' L es ep t R m1 m2 kp

/-! ### sorting -/
theorem out_gen {κ : KeyKind} {vs : List Value} {xs : Array Keyed} (hp : xs.Perm (pairsOf vs)) (hs : SortedToK κ xs (pairsOf vs).size) :
    (xs.map (·.2)).toList.Perm vs ∧ (xs.map (·.2)).toList.Pairwise fun u v => κ.blt ((κ.keyOf v).getD κ.dflt) ((κ.keyOf u).getD κ.dflt) = false := by
  have pl : xs.toList.Perm (vs.zip vs) := by rw [← pairsOf_toList]; exact Array.perm_iff_toList_perm.mp hp
  have dg : ∀ p ∈ xs.toList, p.1 = p.2 := fun p h => (mem_zip_self (pl.mem_iff.mp h)).1
  refine ⟨?_, ?_⟩
  · have e := pl.map Prod.snd
    rw [List.map_snd_zip (Nat.le_refl _)] at e
    rw [Array.toList_map]
    exact e
  · rw [Array.toList_map, List.pairwise_map, List.pairwise_iff_getElem]
    intro i j hi hj hij
    have hj' : j < xs.size := by simpa using hj
    have hi' : i < xs.size := by simpa using hi
    have h := hs i j (Nat.le_of_lt hij) (by rw [← hp.size_eq]; exact hj')
    unfold KK at h
    rw [show xs[i]? = some xs[i] from Array.getElem?_eq_getElem hi', show xs[j]? = some xs[j] from Array.getElem?_eq_getElem hj'] at h
    have di := dg xs[i] (by simp)
    have dj := dg xs[j] (by simp)
    simp only [Array.getElem_toList]
    rw [← di, ← dj]
    exact h
abbrev sHp (z : Shared) (us : List Value) (out : Array Value) : Heap := sortedHeap (z.heap.push (seqObj "list" us.toArray 0)) z.heap.objs.size us out
/-- sorted, what is walked being told by coll -/
theorem sorted_by {u : Addr} {C : Shared → List Value → Prop} {G : Shared → List Value → Array Value → Prop} {Q : Value → Shared → Prop}
    (coll : ∀ (A' : Around) (E' : Value → Shared → Prop) (R : List Value → Shared → Prop), A'.handled = A.handled → (∀ z us, Later s z → C z us → R us z) → wpAny (model P w) A' (collect (.ref u)) R E' s)
    (len : ∀ z us, C z us → us.length < 64)
    (sort : ∀ (z : Shared) (us : List Value) (A' : Around) (E' : Value → Shared → Prop) (R : PySem.Fin → Shared → Prop), Later s z → C z us → (∀ out, G z us out → R (.done (.ret .none)) { z with heap := sHp z us out }) →
      wpAny (model P w) A' (Builtin.«list.sort» ⟨[.ref z.heap.objs.size], []⟩) R E' { z with heap := z.heap.push (seqObj "list" us.toArray 0) })
    (q : ∀ z us out c, Later s z → C z us → G z us out → (sHp z us out).get? z.heap.objs.size = some (seqObj "list" out c) → Later z { z with heap := sHp z us out } → Q (.ref z.heap.objs.size) { z with heap := sHp z us out }) :
    wpAny (model P w) A (call (.builtin "sorted") [.ref u]) Q E s := by
  refine Calls.call_function_entry kind_sorted plain_sorted entry_sorted (args_sorted1 _) ?_
  unfold Builtin.«sorted»
  refine wpAny_bind (m := checkCount "sorted" 1 1 _) (wpAny_pure ?_)
  refine wpAny_bind (coll _ _ _ rfl fun z us lt c => ?_)
  have few := len z us c
  refine wpAny_bind (wpAny_newList ?_ (by rw [sizeLine_eq]; omega))
  have gL : (z.heap.push (seqObj "list" us.toArray 0)).get? z.heap.objs.size = some (seqObj "list" us.toArray 0) := Heap.get?_push_size _ rfl
  refine wpAny_bind (wpAny_holding (wpAny_call_entry slot_list_sort ⟨_, gL, rfl⟩ entry_list_sort (sort z us _ _ _ lt c fun out g => ⟨_, rfl, ?_⟩) (args_list_sort _)))
  obtain ⟨n, hn⟩ := sortedHeap_at (vs := us) (out := out) gL
  refine wpAny_pure ⟨_, rfl, q z us out n lt c g hn ⟨fun b o e' => ?_, rfl, rfl⟩⟩
  have hb := Heap.lt_size e'
  show (sortedHeap (z.heap.push (seqObj "list" us.toArray 0)) z.heap.objs.size us out).get? b = some o
  rw [sortedHeap_old (Nat.ne_of_lt hb) (by rw [size_push']; exact Nat.lt_succ_of_lt hb)]
  exact Heap.get?_push_of_some _ e'
/-- texts: the result -/
structure OutS (ks : List Str) (out : List Value) (ys : List Str) : Prop where
  are : StrsAre out ys
  perm : ys.Perm ks
  asc : (ys.map fun y => y.cps.toList).Pairwise fun x y => strKind.blt y x = false
theorem strs_key {us : List Value} {ks : List Str} (r : StrsAre us ks) : us.map (fun v => (strKind.keyOf v).getD strKind.dflt) = ks.map fun y => y.cps.toList := by
  induction r with
  | nil => rfl
  | cons y t _ ih => rw [List.map_cons, List.map_cons, ih]; rfl
/-- a list of texts in another sequence -/
theorem strs_perm {us out : List Value} {ks : List Str} (r : StrsAre us ks) (p : out.Perm us) : ∃ ys, StrsAre out ys ∧ ys.Perm ks := by
  have one : ∀ {vs : List Value}, (∀ v ∈ vs, ∃ x t, v = Value.str x t) → StrsAre vs (vs.map strOf) := fun {vs} h => strsAre_map vs h
  refine ⟨out.map strOf, one fun v hv => StrsAre.all r v (p.mem_iff.mp hv), ?_⟩
  have e := p.map strOf
  rw [StrsAre.strs r] at e
  exact e
theorem sorted_strs {u : Addr} {ks : List Str} {Q : Value → Shared → Prop} (few : ks.length < 64)
    (coll : ∀ (A' : Around) (E' : Value → Shared → Prop) (R : List Value → Shared → Prop), A'.handled = A.handled → (∀ z us, Later s z → (∃ ks', StrsAre us ks' ∧ ks'.Perm ks) → R us z) → wpAny (model P w) A' (collect (.ref u)) R E' s)
    (q : ∀ y z c us ys, Later s y → Later y z → z.heap.get? y.heap.objs.size = some (seqObj "list" us c) → OutS ks us.toList ys → Q (.ref y.heap.objs.size) z) : wpAny (model P w) A (call (.builtin "sorted") [.ref u]) Q E s := by
  refine sorted_by (C := fun z us => ∃ ks', StrsAre us ks' ∧ ks'.Perm ks) (G := fun z us out => out.toList.Perm us ∧ out.toList.Pairwise fun u v => strKind.blt ((strKind.keyOf v).getD strKind.dflt) ((strKind.keyOf u).getD strKind.dflt) = false)
    (fun A' E' R ha k => coll A' E' R ha k) ?_ ?_ ?_
  · rintro z us ⟨ks', r, p⟩
    rw [StrsAre.len_eq r, p.length_eq]
    exact few
  · rintro z us A' E' R lt ⟨ks', r, p⟩ k
    exact list_sort_treeK strKind_oneLt (Heap.get?_push_size _ rfl) r.keysOf (fun v₁ v₂ rest e => keyKind_strs (by rw [← e]; exact r)) (by rw [StrsAre.len_eq r, p.length_eq]; exact few) fun st' hp hs => k _ (out_gen hp hs)
  · rintro z us out c lt ⟨ks', r, p⟩ ⟨g1, g2⟩ gl lt'
    obtain ⟨ys, r2, p2⟩ := strs_perm r g1
    refine q z _ c out ys lt lt' gl ⟨r2, p2.trans p, ?_⟩
    rw [← strs_key r2]
    exact List.pairwise_map.mpr g2
/-- (text, int): the result -/
def kOf (h : Heap) (v : Value) : List (Int ⊕ List Nat) := (PyProof.Rows.G.tupKeyC h shp v).getD []
theorem kt_key {h : Heap} {k : List Key} {b : Addr} {l : List (Int ⊕ List Nat)} (x : KT P w h k b) (e : pk k = some l) : PyProof.Rows.G.tupKeyC h shp (.ref b) = some l ∧ ∃ f, TupOf h shp (.ref b) f := by
  obtain ⟨o, its, n, ho, hc, hd, hi⟩ := x
  match k, e with
  | [.inr x, .inl i], e =>
    cases e
    cases hi' : its.toList with
    | nil => rw [hi'] at hi; cases hi
    | cons v r =>
      rw [hi'] at hi
      cases hi with
      | cons h1 h2 =>
        cases h2 with
        | cons h3 h4 =>
          cases h4
          rcases keyIs_shape (show keyIs (Sum.inr x) v = true from h1) with ⟨j, t, e1, e2⟩ | ⟨y, t, e1, e2⟩
          · cases e1
          · cases e1
            subst e2
            rcases keyIs_shape (show keyIs (Sum.inl i) _ = true from h3) with ⟨j, t', e1, e2⟩ | ⟨y', t', e1, e2⟩
            · cases e1
              subst e2
              refine ⟨PyProof.Rows.G.tupKeyC_of ho hc hd ?_, Value.str x t, b, o, its, n, rfl, ho, hc, hd, ?_, fun c => (by cases c), fun _ => ⟨_, _, rfl⟩⟩
              · rw [hi']; rfl
              · rw [← Array.getElem?_toList, hi']; rfl
            · cases e1
theorem tups_of {h : Heap} : ∀ {us : List Value}, (∀ v ∈ us, ∃ f, TupOf h shp v f) → ∃ fs, TupsOf h shp us fs
  | [], _ => ⟨[], .nil⟩
  | v :: us, k => by
    obtain ⟨f, a⟩ := k v List.mem_cons_self
    obtain ⟨fs, b⟩ := tups_of fun u hu => k u (List.mem_cons_of_mem _ hu)
    exact ⟨f :: fs, .cons a b⟩
/-- tuples: the result -/
structure OutK (L : List Ent) (out : List Value) (M : List Ent) : Prop where
  are : out = M.map fun p => Value.ref p.1
  perm : M.Perm L
  asc : M.Pairwise fun p q => ∀ x y, pk p.2 = some x → pk q.2 = some y → (listOrd itemOrd).blt y x = false
theorem sorted_keys {u : Addr} {L : List Ent} {Q : Value → Shared → Prop} (few : L.length < 64) (kt : ∀ p ∈ L, KT P w s.heap p.2 p.1 ∧ ∃ l, pk p.2 = some l)
    (coll : ∀ (A' : Around) (E' : Value → Shared → Prop) (R : List Value → Shared → Prop), A'.handled = A.handled → (∀ z us, Later s z → us.Perm (L.map fun p => Value.ref p.1) → R us z) → wpAny (model P w) A' (collect (.ref u)) R E' s)
    (q : ∀ y z c us M, Later s y → Later y z → z.heap.get? y.heap.objs.size = some (seqObj "list" us c) → OutK L us.toList M → Q (.ref y.heap.objs.size) z) : wpAny (model P w) A (call (.builtin "sorted") [.ref u]) Q E s := by
  have at_ : ∀ (z : Shared) (us : List Value), Later s z → us.Perm (L.map fun p => Value.ref p.1) → ∀ v ∈ us, ∃ p ∈ L, v = Value.ref p.1 ∧ ∃ l, pk p.2 = some l ∧ KT P w (z.heap.push (seqObj "list" us.toArray 0)) p.2 p.1 := fun z us lt pm v hv => by
    obtain ⟨p, hp, e⟩ := List.mem_map.mp (pm.mem_iff.mp hv)
    obtain ⟨k1, l, k2⟩ := kt p hp
    exact ⟨p, hp, e.symm, l, k2, key_keep k1 fun o e => Heap.get?_push_of_some _ (lt.keep _ o e)⟩
  refine sorted_by (C := fun z us => us.Perm (L.map fun p => Value.ref p.1))
    (G := fun z us out => out.toList.Perm us ∧ out.toList.Pairwise fun u v => (listOrd itemOrd).blt (kOf (z.heap.push (seqObj "list" us.toArray 0)) v) (kOf (z.heap.push (seqObj "list" us.toArray 0)) u) = false)
    (fun A' E' R ha k => coll A' E' R ha k) ?_ ?_ ?_
  · rintro z us pm
    rw [pm.length_eq, List.length_map]
    exact few
  · rintro z us A' E' R lt pm k
    have each := at_ z us lt pm
    obtain ⟨fs, ht⟩ := tups_of (h := z.heap.push (seqObj "list" us.toArray 0)) (us := us) fun v hv => by
      obtain ⟨p, _, rfl, l, e, x⟩ := each v hv
      exact (kt_key x e).2
    refine PyProof.Rows.G.list_sort_tups (s := { z with heap := z.heap.push (seqObj "list" us.toArray 0) }) (Heap.get?_push_size _ rfl) ht (fun v hv => ?_) (by rw [pm.length_eq, List.length_map, sizeLine_eq]; omega) fun st' hp hs _ => k _ (out_gen hp hs)
    obtain ⟨p, _, rfl, l, e, x⟩ := each v hv
    exact ⟨l, (kt_key x e).1⟩
  · rintro z us out c lt pm ⟨g1, g2⟩ gl lt'
    obtain ⟨M, pM, eM⟩ := perm_lift (fun p : Ent => Value.ref p.1) (g1.trans pm) L rfl
    refine q z _ c out M lt lt' gl ⟨eM.symm, pM, ?_⟩
    rw [← eM, List.pairwise_map] at g2
    refine List.Pairwise.imp_of_mem (fun {p r} hp hr h x y ex ey => ?_) g2
    have key : ∀ {p : Ent} {x}, p ∈ M → pk p.2 = some x → kOf (z.heap.push (seqObj "list" us.toArray 0)) (.ref p.1) = x := fun {p x} hp ex => by
      have k1 := (kt p (pM.mem_iff.mp hp)).1
      have k2 : KT P w (z.heap.push (seqObj "list" us.toArray 0)) p.2 p.1 := key_keep k1 fun o e => Heap.get?_push_of_some _ (lt.keep _ o e)
      unfold kOf
      rw [(kt_key k2 ex).1]
      rfl
    rw [key hp ex, key hr ey] at h
    exact h
end
end VS

set_option Elab.async false
set_option linter.all false
set_option autoImplicit false
set_option maxRecDepth 100000
set_option maxHeartbeats 4000000
/-! VSrt2: set(..) and sorted(..) as rules of the hand layer. -/
namespace VS
open PySem PySem.Spec PyProof.Rows L2
/-- a set of texts, of tuples (the tuples themselves aside) -/
def SSO (w : World) (a : Addr) (ks : List Str) : HO := .ext fun h => ∃ L es ep t, SSet w h a L es ep t ∧ L.map (·.1) = ks
structure TSet0 (P : Program) (w : World) (h : Heap) (a : Addr) (L : List Ent) (es : Array (Int × Value)) (ep : Nat) (t : SetTable) : Prop where
  o : ∃ o, h.get? a = some o ∧ o.ExactSet ∧ o.data = .set es ep t
  list : es.toList = ents P w L
  tab : TabOk t (hsh P w L)
  led : w.params.followText "set-order" = true ∨ t.led = true
  low : L.length * 5 < t.mask * 3
  few : L.length < 64
def TSO (P : Program) (w : World) (a : Addr) (L : List Ent) : HO := .ext fun h => ∃ es ep t, TSet0 P w h a L es ep t
abbrev AscS (ys : List Str) : Prop := (ys.map fun y => y.cps.toList).Pairwise fun x y => strKind.blt y x = false
abbrev AscK (M : List Ent) : Prop := M.Pairwise fun p q => ∀ x y, pk p.2 = some x → pk q.2 = some y → (listOrd itemOrd).blt y x = false
theorem sso_ok {P : Program} {w : World} {H : Hp} {h : Heap} {a : Addr} {L : List SEnt} {es : Array (Int × Value)} {ep : Nat} {t : SetTable} (R : SSet w h a L es ep t) : ObjOk P w H h a (SSO w a (L.map (·.1))) := by
  obtain ⟨o, ho, x⟩ := R.o
  refine ⟨⟨L, es, ep, t, R, rfl⟩, ⟨o, ho⟩, fun h1 h2 ⟨L', es', ep', t', R', e⟩ k => ?_⟩
  obtain ⟨o', ho', x'⟩ := R'.o
  exact ⟨L', es', ep', t', ⟨⟨o', k o' ho', x'⟩, R'.list, R'.nod, R'.ris, R'.fit, R'.led, R'.few⟩, e⟩
theorem tso_ok {P : Program} {w : World} {H : Hp} {h : Heap} {a : Addr} {L : List Ent} {es : Array (Int × Value)} {ep : Nat} {t : SetTable} (R : TSet P w h a L es ep t) : ObjOk P w H h a (TSO P w a L) := by
  obtain ⟨o, ho, x⟩ := R.o
  refine ⟨⟨es, ep, t, ⟨o, ho, x⟩, R.list, R.tab, R.led, R.low, R.few⟩, ⟨o, ho⟩, fun h1 h2 ⟨es', ep', t', R'⟩ k => ?_⟩
  obtain ⟨o', ho', x'⟩ := R'.o
  exact ⟨es', ep', t', ⟨o', k o' ho', x'⟩, R'.list, R'.tab, R'.led, R'.low, R'.few⟩
section
variable {X : Cx}
theorem key_in {pins : List (Addr × Obj)} {σ : L2.St} {H : Hp} {s : Shared} {b : Addr} {k : List Key} (I : Inv X pins σ H s) (h : SqT X.K H b (k.map kV)) : KT X.prog X.w s.heap k b := by
  obtain ⟨its, r, ⟨o, ho, hc, n, hd⟩, _⟩ := I.tuple h
  exact ⟨o, its.toArray, n, ho, hc, hd, by simpa using items_are r⟩
theorem refs_are : ∀ {ks : List Ent} {us : List Value}, Vals (ks.map fun p => V.ref p.1) us → us = ks.map fun p => Value.ref p.1
  | [], _, .nil => rfl
  | p :: ks, _, .cons r t => by
    cases r
    rw [refs_are t]
    rfl
theorem refs_vals : ∀ (ks : List Ent), Vals (ks.map fun p => V.ref p.1) (ks.map fun p => Value.ref p.1)
  | [] => .nil
  | _ :: ks => .cons rfl (refs_vals ks)
theorem strs_are : ∀ {ks : List Str} {us : List Value}, Vals (ks.map V.str) us → StrsAre us ks
  | [], _, .nil => .nil
  | x :: ks, _, .cons r t => by
    obtain ⟨u, rfl⟩ := r
    exact .cons x u (strs_are t)
theorem strs_vals : ∀ {ks : List Str} {us : List Value}, StrsAre us ks → Vals (ks.map V.str) us
  | _, _, .nil => .nil
  | _, _, .cons x u t => .cons ⟨u, rfl⟩ (strs_vals t)
def rSet (X : Cx) : List V → Hp → VK → Prop := fun xs H Q => ∃ l, xs = [V.ref l] ∧
  ((∃ ks : List Str, SqL X.K H l (ks.map V.str) ∧ (∃ U : List Str, U.length < 63 ∧ ∀ k ∈ ks, k ∈ U) ∧ ∀ a ms, H a = none → (∀ k, k ∈ ms ↔ k ∈ ks) → ms.Nodup → ms.length < 64 → Q (.ref a) (upd H a (SSO X.w a ms))) ∨
   ∃ es : List Ent, SqL X.K H l (es.map fun p => V.ref p.1) ∧ (∀ p ∈ es, SqT X.K H p.1 (p.2.map kV)) ∧ (∃ U : List (List Key), U.length < 63 ∧ ∀ p ∈ es, p.2 ∈ U) ∧
     ∀ a L, H a = none → (∀ p ∈ L, p ∈ es) → (∀ p ∈ es, p.2 ∈ L.map (·.2)) → (L.map (·.2)).Nodup → L.length < 64 → Q (.ref a) (upd H a (TSO X.prog X.w a L)))
theorem call_set (hc : X.calm = true) (hu : X.A.units + 64 < cLine) : CallR X (.type "set") (rSet X) := by
  intro pins s σ H xs us Q I r h
  obtain ⟨l, rfl, h⟩ := h
  rw [Vals.ref1 r]
  have no : H s.heap.objs.size = none := I.hok.fresh (Nat.le_refl _)
  rcases h with ⟨ks, hl, few, q⟩ | ⟨es, hl, ht, few, q⟩
  · obtain ⟨its, rv, pl, _⟩ := I.list hl
    refine set_strs (P := X.prog) (w := X.w) (I.ok.hd hc) pl.isList (strs_are rv) few fun h' tk L es ep t R m k => ?_
    exact ⟨.ref s.heap.objs.size, upd H s.heap.objs.size (SSO X.w s.heap.objs.size (L.map (·.1))), I.laid (t' := tk) k (Nat.le_refl _) (sso_ok R), rfl, q _ _ no m R.nod (by rw [List.length_map]; exact R.few)⟩
  · obtain ⟨its, rv, pl, _⟩ := I.list hl
    refine set_keys (P := X.prog) (w := X.w) (I.ok.hd hc) (by omega) pl.isList (refs_are rv) (fun p hp => key_in I (ht p hp)) few fun h' tk L es' ep t R m1 m2 k => ?_
    exact ⟨.ref s.heap.objs.size, upd H s.heap.objs.size (TSO X.prog X.w s.heap.objs.size L), I.laid (t' := tk) k (Nat.le_refl _) (tso_ok R), rfl, q _ _ no m1 m2 R.nod R.few⟩
def rSorted (X : Cx) : List V → Hp → VK → Prop := fun xs H Q => ∃ a, xs = [V.ref a] ∧
  ((∃ ms : List Str, H a = some (SSO X.w a ms) ∧ ∀ p ys, H p = none → ys.Perm ms → AscS ys → Q (.ref p) (upd H p (.lst (ys.map V.str)))) ∨
   (∃ L : List Ent, H a = some (TSO X.prog X.w a L) ∧ (∀ p ∈ L, SqT X.K H p.1 (p.2.map kV) ∧ ∃ l, pk p.2 = some l) ∧ ∀ p M, H p = none → M.Perm L → AscK M → Q (.ref p) (upd H p (.lst (M.map fun q => V.ref q.1)))) ∨
   (∃ (kvs : List (Key × V)) (ks : List Str), H a = some (.dK kvs) ∧ kvs.map (·.1) = ks.map Sum.inr ∧ ks.length < 64 ∧ ∀ p ys, H p = none → ys.Perm ks → ys.Nodup → AscS ys → Q (.ref p) (upd H p (.lst (ys.map V.str)))) ∨
   ∃ kvs : List (List Key × V), H a = some (.dT kvs) ∧ kvs.length < 64 ∧ (∀ kv ∈ kvs, ∃ l, pk kv.1 = some l) ∧
     ∀ p M, H p = none → (∀ q ∈ M, H q.1 = some (.tup (q.2.map kV))) → (M.map (·.2)).Perm (kvs.map (·.1)) → (M.map (·.2)).Nodup → AscK M → Q (.ref p) (upd H p (.lst (M.map fun q => V.ref q.1))))
/-- behind a sort -/
theorem after0 {pins : List (Addr × Obj)} {σ : L2.St} {H : Hp} {s z : Shared} (I : Inv X pins σ H s) (lt : Later s z) : Inv X pins σ H z := by
  have J : Inv X pins σ H { s with heap := z.heap, gens := z.gens, drawn := z.drawn, toks := z.toks } :=
    I.call (ch := []) (Un.kept lt.keep) (I.hok.kept lt.keep) (by rw [lt.gens]; exact I.bare) (fun _ n => nomatch n)
  rw [eta lt.os]
  exact J
theorem after {pins : List (Addr × Obj)} {σ : L2.St} {H : Hp} {r s z : Shared} {c : Nat} {us : Array Value} {vs : List V} {Q : VK} (I : Inv X pins σ H r) (l0 : Later r s) (lt : Later s z) (g : z.heap.get? s.heap.objs.size = some (seqObj "list" us c)) (v : Vals vs us.toList) (few : vs.length < 64)
    (q : H s.heap.objs.size = none → Q (.ref s.heap.objs.size) (upd H s.heap.objs.size (.lst vs))) : EP X pins σ Q (.ref s.heap.objs.size) z := by
  replace I := after0 I l0
  obtain ⟨p, hp⟩ : ∃ p, p = s.heap.objs.size := ⟨_, rfl⟩
  have le : s.heap.objs.size ≤ p := Nat.le_of_eq hp.symm
  rw [← hp] at g q ⊢
  have no : H p = none := I.hok.fresh le
  have J : Inv X pins σ (upd H p (.lst vs)) { s with heap := z.heap, gens := z.gens, drawn := z.drawn, toks := z.toks } :=
    I.call (ch := []) (Un.laid lt.keep le no) (I.hok.laid lt.keep le ⟨by rw [sizeLine_eq]; omega, us.toList, c, v, g⟩) (by rw [lt.gens]; exact I.bare) (fun _ n => nomatch n)
  rw [eta lt.os]
  exact ⟨.ref p, _, J, rfl, q no⟩
end
end VS

set_option Elab.async false
set_option linter.all false
set_option autoImplicit false
set_option maxRecDepth 100000
set_option maxHeartbeats 4000000
/-! VSrt3: sorted(..) of a set, of a dict. -/
namespace VS
open PySem PySem.Spec PyProof.Rows L2
theorem kt_each {H : Hp} {kvs : List (List Key × V)} {xs : List (List Key × Addr × Value)} (rel : L2.KT H kvs xs) : ∀ x ∈ xs.map fun x => ((x.2.1, x.1) : Ent), H x.1 = some (.tup (x.2.map kV)) ∧ x.2 ∈ kvs.map (·.1) := by
  induction rel with
  | nil => intro x hx; exact absurd hx (by simp)
  | @cons p y ps ys h _ ih =>
    intro x hx
    rw [List.map_cons, List.mem_cons] at hx
    rcases hx with rfl | hx
    · exact ⟨by rw [← h.1]; exact h.2.1, by rw [List.map_cons, ← h.1]; exact List.mem_cons_self⟩
    · obtain ⟨c1, c2⟩ := ih x hx
      exact ⟨c1, by rw [List.map_cons]; exact List.mem_cons_of_mem _ c2⟩
theorem kt_keys {H : Hp} {kvs : List (List Key × V)} {xs : List (List Key × Addr × Value)} (rel : L2.KT H kvs xs) : (xs.map fun x => ((x.2.1, x.1) : Ent)).map (·.2) = kvs.map (·.1) := by
  rw [List.map_map]
  induction rel with
  | nil => rfl
  | cons h _ ih => rw [List.map_cons, List.map_cons, ih]; exact congrArg (· :: _) h.1.symm
theorem sent_are : ∀ L : List SEnt, StrsAre (L.map fun p => Value.str p.1 p.2) (L.map (·.1))
  | [] => .nil
  | p :: L => .cons p.1 p.2 (sent_are L)
section
variable {X : Cx}
theorem call_sorted (hc : X.calm = true) : CallR X (.builtin "sorted") (rSorted X) := by
  intro pins s σ H xs us Q I r h
  obtain ⟨a, rfl, h⟩ := h
  rw [Vals.ref1 r]
  have hh := I.ok.hd hc
  rcases h with ⟨ms, ha, q⟩ | ⟨L, ha, ht, q⟩ | ⟨kvs, ks, ha, hk, few, q⟩ | ⟨kvs, ha, few, hk, q⟩
  · obtain ⟨L, es, ep, t, R, rfl⟩ := (I.hok a _ ha).1
    obtain ⟨o, ho, hex, hd⟩ := R.o
    have fl := R.few
    refine sorted_strs (P := X.prog) (w := X.w) (A := X.A) (ks := L.map (·.1)) (by rw [List.length_map]; exact fl) (fun A' E' Rr hA k => ?_) fun y z c us ys l0 lt g O => ?_
    · refine collect_set (P := X.prog) (w := X.w) (A := A') (hA.trans hh) ⟨o, ho, hex.1, hd⟩ R.fit (by rw [s_size R.list]; exact s_bound fl) R.ris R.led fun z out kp sz gn os pm => ?_
      have e : es.toList.map (·.2) = L.map fun p => Value.str p.1 p.2 := by
        rw [R.list]
        unfold sents
        rw [List.map_map]
        rfl
      rw [e] at pm
      exact k z out ⟨kp, gn, os⟩ (strs_perm (sent_are L) pm)
    · exact after I l0 lt g (strs_vals O.are) (by rw [List.length_map, O.perm.length_eq, List.length_map]; exact fl) fun no => q _ ys no O.perm O.asc
  · obtain ⟨es, ep, t, R⟩ := (I.hok a _ ha).1
    obtain ⟨o, ho, hex, hd⟩ := R.o
    have fl := R.few
    have low := R.low
    refine sorted_keys (P := X.prog) (w := X.w) (A := X.A) (L := L) fl (fun p hp => ⟨key_in I (ht p hp).1, (ht p hp).2⟩) (fun A' E' Rr hA k => ?_) fun y z c us M l0 lt g O => ?_
    · refine collect_set (P := X.prog) (w := X.w) (A := A') (hA.trans hh) ⟨o, ho, hex.1, hd⟩ (fits_by R.list (by rw [R.tab.sz, hsh_len]) R.tab.dm (by omega)) (by rw [size_of_ents R.list]; exact s_bound fl) R.tab.ris R.led fun z out kp sz gn os pm => ?_
      have e : es.toList.map (·.2) = L.map fun p => Value.ref p.1 := by
        rw [R.list]
        unfold ents
        rw [List.map_map]
        rfl
      rw [e] at pm
      exact k z out ⟨kp, gn, os⟩ pm
    · refine after I l0 lt g ?_ (by rw [List.length_map, O.perm.length_eq]; exact fl) fun no => q _ M no O.perm O.asc
      rw [O.are]
      exact refs_vals M
  · obtain ⟨_, lo, vs, rel, dd⟩ := dk_of I.hok ha
    obtain ⟨ep, hat⟩ := dd.dictAt
    have keys : vs.map (·.1) = ks.map Sum.inr := rel.keys.symm.trans hk
    have ndk : ks.Nodup := by
      obtain ⟨_, _, _, _, _, _, _, _, nd⟩ := dd
      rw [keys] at nd
      exact List.Pairwise.of_map Sum.inr (fun _ _ ne e => ne (congrArg Sum.inr e)) nd
    have len : vs.length = ks.length := by
      have e := congrArg List.length keys
      rwa [List.length_map, List.length_map] at e
    refine sorted_strs (P := X.prog) (w := X.w) (A := X.A) (ks := ks) few (fun A' E' Rr hA k => ?_) fun y z c us ys l0 lt g O => ?_
    · refine PySem.W.kdu_collect (A := A') (PySem.W.kdl_dict (knd := mixKind X.prog X.w) (kvs := vs) (ep := ep) lo) (hA.trans hh) hat (by rw [len, sizeLine_eq]; omega) fun h' tk acc kp ia => ?_
      refine k _ acc.toList ⟨kp, rfl, rfl⟩ ⟨ks, ?_, List.Perm.refl _⟩
      refine strs_at (by rw [Array.length_toList, ia.1, len]) fun j v e => ?_
      obtain ⟨kk, x, e1, e2⟩ := ia.2 j v (by rw [← Array.getElem?_toList]; exact e)
      have e3 : (ks.map (Sum.inr : Str → Key))[j]? = some kk := by rw [← keys, List.getElem?_map, e1]; rfl
      rw [List.getElem?_map] at e3
      obtain ⟨y, ey, rfl⟩ := Option.map_eq_some_iff.mp e3
      obtain ⟨t, ev⟩ := Value.isStrOf_shape (x := y) (v := v) e2
      exact ⟨y, t, ey, ev⟩
    · exact after I l0 lt g (strs_vals O.are) (by rw [List.length_map, O.perm.length_eq]; exact few) fun no => q _ ys no O.perm (O.perm.nodup_iff.mpr ndk) O.asc
  · obtain ⟨_, lo, xs, rel, dd⟩ := dt_of I.hok ha
    obtain ⟨o, es, ep, ho, hex, hd, he, his, nd⟩ := dd
    have klen : kvs.length = xs.length := Paired.length rel
    have pr := kt_each rel
    have keq := kt_keys rel
    have hl : (xs.map fun x => ((x.2.1, x.1) : Ent)).length < 64 := by rw [List.length_map, ← klen]; exact few
    refine sorted_keys (P := X.prog) (w := X.w) (A := X.A) (L := xs.map fun x => (x.2.1, x.1)) hl (fun p hp => ?_) (fun A' E' Rr hA k => ?_) fun y z c us M l0 lt g O => ?_
    · obtain ⟨c1, c2⟩ := pr p hp
      obtain ⟨kv, hkv, e⟩ := List.mem_map.mp c2
      obtain ⟨l, hl⟩ := hk kv hkv
      exact ⟨key_in I (SqT.of c1), l, by rw [← e]; exact hl⟩
    · have esz : es.size = xs.length := by rw [← Array.length_toList, he, List.length_map]
      refine PySem.W.kdu_collect (A := A') (PySem.KdlSrc.rawDict (es := es) (ep := ep) lo) (hA.trans hh) ⟨o, ho, hex, hd⟩ (by rw [esz, ← klen, sizeLine_eq]; omega) fun h' tk acc kp ia => ?_
      refine k _ acc.toList ⟨kp, rfl, rfl⟩ (List.Perm.of_eq ?_)
      refine List.ext_getElem? fun j => ?_
      rw [List.map_map, List.getElem?_map]
      cases q1 : acc.toList[j]? with
      | none =>
        have hj := List.getElem?_eq_none_iff.mp q1
        rw [Array.length_toList, ia.1, esz] at hj
        rw [List.getElem?_eq_none hj]
        rfl
      | some v =>
        obtain ⟨hi, ev⟩ := ia.2 j v (by rw [← Array.getElem?_toList]; exact q1)
        have hj : j < xs.length := by rw [← esz]; exact hi
        rw [List.getElem?_eq_getElem hj]
        have e2 : es.toList[j]? = some es[j] := by rw [Array.getElem?_toList]; exact Array.getElem?_eq_getElem hi
        rw [he, List.getElem?_map, List.getElem?_eq_getElem hj] at e2
        have e3 := Option.some.inj e2
        rw [ev, ← e3]
        rfl
    · refine after I l0 lt g ?_ (by rw [List.length_map, O.perm.length_eq]; exact hl) fun no => q _ M no (fun x hx => (pr x (O.perm.mem_iff.mp hx)).1) ?_ ?_ O.asc
      · rw [O.are]
        exact refs_vals M
      · rw [← keq]
        exact O.perm.map _
      · exact (O.perm.map (·.2)).nodup_iff.mpr (by rw [List.map_map]; exact nd)
end
end VS

set_option Elab.async false
set_option linter.all false
set_option autoImplicit false
set_option maxRecDepth 100000
set_option maxHeartbeats 4000000
/-! VSrt4: sorted of lists of texts and of pairs, of a dict's items; dict(pairs). -/
namespace VS
open PySem PySem.Spec PyProof.Rows L2
/-- a key (text, text) -/
def pk2 : List Key → Option (List (Int ⊕ List Nat)) | [.inr x, .inr y] => some [.inr x.cps.toList, .inr y.cps.toList] | _ => none
abbrev shp2 : Nat → Bool := fun _ => true
abbrev AscX (pkx : List Key → Option (List (Int ⊕ List Nat))) (M : List Ent) : Prop := M.Pairwise fun p q => ∀ x y, pkx p.2 = some x → pkx q.2 = some y → (listOrd itemOrd).blt y x = false
section
variable {P : Program} {w : World} {A : Around} {E : Value → Shared → Prop} {s : Shared}
def Ktk (P : Program) (w : World) (pkx : List Key → Option (List (Int ⊕ List Nat))) (shx : Nat → Bool) : Prop := ∀ (h : Heap) (k : List Key) (b : Addr) (l : List (Int ⊕ List Nat)), KT P w h k b → pkx k = some l → PyProof.Rows.G.tupKeyC h shx (.ref b) = some l ∧ ∃ f, TupOf h shx (.ref b) f
theorem ktk1 : Ktk P w pk shp := fun h k b l x e => kt_key x e
theorem ktk2 : Ktk P w pk2 shp2 := fun h k b l x e => by
  obtain ⟨o, its, n, ho, hc, hd, hi⟩ := x
  match k, e with
  | [.inr x, .inr y], e =>
    cases e
    cases hi' : its.toList with
    | nil => rw [hi'] at hi; cases hi
    | cons v r =>
      rw [hi'] at hi
      cases hi with
      | cons h1 h2 =>
        cases h2 with
        | cons h3 h4 =>
          cases h4
          rcases keyIs_shape (show keyIs (Sum.inr x) v = true from h1) with ⟨j, t, e1, e2⟩ | ⟨y', t, e1, e2⟩
          · cases e1
          · cases e1
            subst e2
            rcases keyIs_shape (show keyIs (Sum.inr y) _ = true from h3) with ⟨j, t', e1, e2⟩ | ⟨y', t', e1, e2⟩
            · cases e1
            · cases e1
              subst e2
              refine ⟨PyProof.Rows.G.tupKeyC_of ho hc hd ?_, Value.str x t, b, o, its, n, rfl, ho, hc, hd, ?_, fun c => (by cases c), fun _ => ⟨_, _, rfl⟩⟩
              · rw [hi']; rfl
              · rw [← Array.getElem?_toList, hi']; rfl
theorem tups_ofX {shx : Nat → Bool} {h : Heap} : ∀ {us : List Value}, (∀ v ∈ us, ∃ f, TupOf h shx v f) → ∃ fs, TupsOf h shx us fs
  | [], _ => ⟨[], .nil⟩
  | v :: us, k => by
    obtain ⟨f, a⟩ := k v List.mem_cons_self
    obtain ⟨fs, b⟩ := tups_ofX fun u hu => k u (List.mem_cons_of_mem _ hu)
    exact ⟨f :: fs, .cons a b⟩
structure OutX (pkx : List Key → Option (List (Int ⊕ List Nat))) (L : List Ent) (out : List Value) (M : List Ent) : Prop where
  are : out = M.map fun p => Value.ref p.1
  perm : M.Perm L
  asc : AscX pkx M
theorem sorted_keysX {pkx : List Key → Option (List (Int ⊕ List Nat))} {shx : Nat → Bool} (ktk : Ktk P w pkx shx) {D : List Ent → Heap → Prop} {u : Addr} {Q : Value → Shared → Prop} (few : ∀ L h, D L h → L.length < 64)
    (coll : ∀ (A' : Around) (E' : Value → Shared → Prop) (R : List Value → Shared → Prop), A'.handled = A.handled → (∀ z us L, Later s z → us.Perm (L.map fun p => Value.ref p.1) → (∀ p ∈ L, KT P w z.heap p.2 p.1 ∧ ∃ l, pkx p.2 = some l) → D L z.heap → R us z) → wpAny (model P w) A' (collect (.ref u)) R E' s)
    (q : ∀ y z c us M L, Later s y → Later y z → z.heap.get? y.heap.objs.size = some (seqObj "list" us c) → D L y.heap → OutX pkx L us.toList M → Q (.ref y.heap.objs.size) z) : wpAny (model P w) A (call (.builtin "sorted") [.ref u]) Q E s := by
  let C : Shared → List Value → Prop := fun z us => ∃ L, us.Perm (L.map fun p : Ent => Value.ref p.1) ∧ (∀ p ∈ L, KT P w z.heap p.2 p.1 ∧ ∃ l, pkx p.2 = some l) ∧ D L z.heap
  have at_ : ∀ (z : Shared) (us : List Value) (L : List Ent), us.Perm (L.map fun p => Value.ref p.1) → (∀ p ∈ L, KT P w z.heap p.2 p.1 ∧ ∃ l, pkx p.2 = some l) → ∀ v ∈ us, ∃ p ∈ L, v = Value.ref p.1 ∧ ∃ l, pkx p.2 = some l ∧ KT P w (z.heap.push (seqObj "list" us.toArray 0)) p.2 p.1 := fun z us L pm kt v hv => by
    obtain ⟨p, hp, e⟩ := List.mem_map.mp (pm.mem_iff.mp hv)
    obtain ⟨k1, l, k2⟩ := kt p hp
    exact ⟨p, hp, e.symm, l, k2, key_keep k1 fun o e => Heap.get?_push_of_some _ e⟩
  refine sorted_by (C := C)
    (G := fun z us out => out.toList.Perm us ∧ out.toList.Pairwise fun u v => (listOrd itemOrd).blt ((PyProof.Rows.G.tupKeyC (z.heap.push (seqObj "list" us.toArray 0)) shx v).getD []) ((PyProof.Rows.G.tupKeyC (z.heap.push (seqObj "list" us.toArray 0)) shx u).getD []) = false)
    (fun A' E' R ha k => coll A' E' R ha fun z us L lt pm kt d => k z us lt ⟨L, pm, kt, d⟩) ?_ ?_ ?_
  · rintro z us ⟨L, pm, _, d⟩
    rw [pm.length_eq, List.length_map]
    exact few L _ d
  · rintro z us A' E' R lt ⟨L, pm, kt, d⟩ k
    have each := at_ z us L pm kt
    have fw := few L _ d
    obtain ⟨fs, ht⟩ := tups_ofX (shx := shx) (h := z.heap.push (seqObj "list" us.toArray 0)) (us := us) fun v hv => by
      obtain ⟨p, _, rfl, l, e, x⟩ := each v hv
      exact (ktk _ _ _ _ x e).2
    refine PyProof.Rows.G.list_sort_tups (s := { z with heap := z.heap.push (seqObj "list" us.toArray 0) }) (Heap.get?_push_size _ rfl) ht (fun v hv => ?_) (by rw [pm.length_eq, List.length_map, sizeLine_eq]; omega) fun st' hp hs _ => k _ (out_gen hp hs)
    obtain ⟨p, _, rfl, l, e, x⟩ := each v hv
    exact ⟨l, (ktk _ _ _ _ x e).1⟩
  · rintro z us out c lt ⟨L, pm, kt, d⟩ ⟨g1, g2⟩ gl lt'
    obtain ⟨M, pM, eM⟩ := perm_lift (fun p : Ent => Value.ref p.1) (g1.trans pm) L rfl
    refine q z _ c out M L lt lt' gl d ⟨eM.symm, pM, ?_⟩
    rw [← eM, List.pairwise_map] at g2
    refine List.Pairwise.imp_of_mem (fun {p r} hp hr h x y ex ey => ?_) g2
    have key : ∀ {p : Ent} {x}, p ∈ M → pkx p.2 = some x → (PyProof.Rows.G.tupKeyC (z.heap.push (seqObj "list" us.toArray 0)) shx (.ref p.1)).getD [] = x := fun {p x} hp ex => by
      have k1 := (kt p (pM.mem_iff.mp hp)).1
      have k2 : KT P w (z.heap.push (seqObj "list" us.toArray 0)) p.2 p.1 := key_keep k1 fun o e => Heap.get?_push_of_some _ e
      rw [(ktk _ _ _ _ k2 ex).1]
      rfl
    rw [key hp ex, key hr ey] at h
    exact h
end
section
variable {X : Cx}
/-- sorted(l), a list of texts, of (text, int)s, of (text, text)s -/
def rSortL (X : Cx) : List V → Hp → VK → Prop := fun xs H Q => ∃ l, xs = [V.ref l] ∧
  ((∃ ks : List Str, SqL X.K H l (ks.map V.str) ∧ ks.length < 64 ∧ ∀ p ys, H p = none → ys.Perm ks → AscS ys → Q (.ref p) (upd H p (.lst (ys.map V.str)))) ∨
   ∃ (L : List Ent) (pkx : List Key → Option (List (Int ⊕ List Nat))) (shx : Nat → Bool), Ktk X.prog X.w pkx shx ∧ SqL X.K H l (L.map fun p => V.ref p.1) ∧ L.length < 64 ∧ (∀ p ∈ L, SqT X.K H p.1 (p.2.map kV) ∧ ∃ l, pkx p.2 = some l) ∧
     ∀ p M, H p = none → M.Perm L → AscX pkx M → Q (.ref p) (upd H p (.lst (M.map fun q => V.ref q.1))))
theorem later_push {s : Shared} {vs : List Value} : Later s { s with heap := (s.heap.push (seqObj "list" #[] 0)).update s.heap.objs.size (Obj.mapSeq (· ++ vs.toArray)) } := by
  refine ⟨fun b o e => ?_, rfl, rfl⟩
  rw [Heap.get?_update_ne _ _ _ _ (Nat.ne_of_lt (Heap.lt_size e))]
  exact Heap.get?_push_of_some _ e
theorem call_sortedL (hc : X.calm = true) : CallR X (.builtin "sorted") (rSortL X) := by
  intro pins s σ H xs us Q I r h
  obtain ⟨l, rfl, h⟩ := h
  rw [Vals.ref1 r]
  rcases h with ⟨ks, hl, few, q⟩ | ⟨L, pkx, shx, ktk, hl, few, kt, q⟩
  · obtain ⟨its, rv, pl, sz⟩ := I.list hl
    have sa := strs_are rv
    refine sorted_strs (P := X.prog) (w := X.w) (A := X.A) (ks := ks) few (fun A' E' Rr hA k => ?_) fun y z c us ys l0 lt g O => ?_
    · refine collect_list pl.isList (k _ its later_push ⟨ks, sa, List.Perm.refl _⟩) (by rw [StrsAre.len_eq sa, sizeLine_eq]; omega)
    · exact after I l0 lt g (strs_vals O.are) (by rw [List.length_map, O.perm.length_eq]; exact few) fun no => q _ ys no O.perm O.asc
  · obtain ⟨its, rv, pl, sz⟩ := I.list hl
    have ei := refs_are rv
    refine sorted_keysX (P := X.prog) (w := X.w) (A := X.A) ktk (D := fun L' _ => L' = L) (fun L' h e => by rw [e]; exact few) (fun A' E' Rr hA k => ?_) fun y z c us M L' l0 lt g d O => ?_
    · refine collect_list pl.isList (k _ its L later_push (by rw [ei]) (fun p hp => ⟨key_keep (key_in I (kt p hp).1) fun o e => (later_push (vs := its)).keep _ o e, (kt p hp).2⟩) rfl) (by rw [ei, List.length_map, sizeLine_eq]; omega)
    · subst d
      refine after I l0 lt g ?_ (by rw [List.length_map, O.perm.length_eq]; exact few) fun no => q _ M no O.perm O.asc
      rw [O.are]
      exact refs_vals M
end
end VS

set_option Elab.async false
set_option linter.all false
set_option autoImplicit false
set_option maxRecDepth 100000
set_option maxHeartbeats 4000000
/-! VSrt5: sorted(d.items()), texts to texts. -/
namespace VS
open PySem PySem.Spec PyProof.Rows L2
theorem nodup_inj {α β : Type} {f : α → β} : ∀ {l : List α} {a b : α}, (l.map f).Nodup → a ∈ l → b ∈ l → f a = f b → a = b
  | x :: l, a, b, h, ha, hb, e => by
    obtain ⟨h1, h2⟩ := List.nodup_cons.mp h
    rcases List.mem_cons.mp ha with e1 | ha'
    · rcases List.mem_cons.mp hb with e2 | hb'
      · rw [e1, e2]
      · exact absurd (by rw [← e1, e]; exact List.mem_map.mpr ⟨b, hb', rfl⟩) h1
    · rcases List.mem_cons.mp hb with e2 | hb'
      · exact absurd (by rw [← e2, ← e]; exact List.mem_map.mpr ⟨a, ha', rfl⟩) h1
      · exact nodup_inj h2 ha' hb' e
section
variable {X : Cx}
def rItemsK : V → List V → Hp → VK → Prop := fun x xs H Q => ∃ (a : Addr) (kvs : List (Key × V)), x = .ref a ∧ xs = [] ∧ H a = some (.dK kvs) ∧ ∀ p, H p = none → Q (.ref p) (upd H p (DX.itemsO p a))
theorem mt_itemsK : MtR X "dict.items" rItemsK := by
  intro pins s σ H x xs v us Q I rx rxs h
  obtain ⟨a, kvs, rfl, rfl, ha, q⟩ := h
  cases rx
  cases rxs
  obtain ⟨z, hd, vs, rel, o, es, ep, ho, hx, hdat, _⟩ := dk_of I.hok ha
  refine DT.callItems (es := es) (ep := ep) hd ⟨o, ho, hx, hdat⟩ ?_
  have hf : H s.heap.objs.size = none := I.hok.fresh (Nat.le_refl _)
  exact ⟨.ref s.heap.objs.size, upd H s.heap.objs.size (DX.itemsO s.heap.objs.size a), I.laid (t' := s.toks) (fun b u e => Heap.get?_push_of_some _ e) (Nat.le_refl _) (DX.itemsO_ok (Heap.get?_push_size _ rfl)), rfl, q _ hf⟩
abbrev prK (e : Str × Str) : List Key := [Sum.inr e.1, Sum.inr e.2]
def rSortI : List V → Hp → VK → Prop := fun xs H Q => ∃ (p a : Addr) (prs : List (Str × Str)), xs = [.ref p] ∧ H p = some (DX.itemsO p a) ∧ H a = some (.dK (prs.map fun e => (Sum.inr e.1, V.str e.2))) ∧ prs.length < 64 ∧
  ∀ (H' : Hp) (l : Addr) (M : List Ent), (∀ b o, H b = some o → H' b = some o) → (∀ q ∈ M, H' q.1 = some (.tup (q.2.map kV)) ∧ H q.1 = none) → (M.map (·.2)).Perm (prs.map prK) → AscX pk2 M → H l = none → H' l = some (.lst (M.map fun q => V.ref q.1)) → Q (.ref l) H'
/-- the made tuples -/
structure ItD (s : Heap) (keys : List (List Key)) (L : List Ent) (h : Heap) : Prop where
  ks : L.map (·.2) = keys
  nd : (L.map (·.1)).Nodup
  at_ : ∀ p ∈ L, s.objs.size ≤ p.1 ∧ ∃ x y t u, p.2 = [Sum.inr x, Sum.inr y] ∧ h.get? p.1 = some { cls := .type "tuple", data := .seq #[Value.str x t, Value.str y u] }
theorem call_sortedI (hc : X.calm = true) : CallR X (.builtin "sorted") rSortI := by
  intro pins s σ H xs us Q I r h
  obtain ⟨p, a, prs, rfl, hp, ha, few, q⟩ := h
  rw [Vals.ref1 r]
  have hh := I.ok.hd hc
  have view : s.heap.IsItemsView p a := (show ObjOk X.prog X.w H s.heap p (DX.itemsO p a) from I.hok p _ hp).1
  obtain ⟨z, hd, vs, rel, o, es, ep, ho, hx, hdat, hks, hps, hn⟩ := dk_of I.hok ha
  have l1 : prs.length = vs.length := by have := rel.length; rwa [List.length_map] at this
  have l2 : es.size = vs.length := by rw [← Array.length_toList]; exact Pairs.length hps
  -- the entries
  have ent : ∀ (j : Nat) (en : DictEntry), es[j]? = some en → ∃ e t u, prs[j]? = some e ∧ en.key = Value.str e.1 t ∧ en.val = Value.str e.2 u := by
    have all : ∀ {es : List DictEntry} {vs : List (Key × Value)} {prs : List (Str × Str)}, Pairs (mixKind X.prog X.w) es vs → KV (prs.map fun e => (Sum.inr e.1, V.str e.2)) vs → ∀ (j : Nat) (en : DictEntry), es[j]? = some en → ∃ e t u, prs[j]? = some e ∧ en.key = Value.str e.1 t ∧ en.val = Value.str e.2 u := by
      intro es
      induction es with
      | nil => intro vs prs _ _ j en e; simp at e
      | cons e0 es ih =>
        intro vs prs hp r j en e
        cases vs with
        | nil => cases hp
        | cons v vs =>
          cases prs with
          | nil => cases r
          | cons p0 prs =>
            cases r with
            | cons r1 r2 =>
              obtain ⟨hk, hv, ht⟩ : (mixKind X.prog X.w).is v.1 e0.key = true ∧ e0.val = v.2 ∧ Pairs (mixKind X.prog X.w) es vs := by
                cases hp with
                | cons h1 h2 h3 => exact ⟨h1, h2, h3⟩
              cases j with
              | zero =>
                simp only [List.getElem?_cons_zero, Option.some.injEq] at e
                subst e
                obtain ⟨k1, k2⟩ := r1
                have k1 : Sum.inr p0.1 = v.1 := k1
                obtain ⟨u, k2⟩ : ∃ u, v.2 = Value.str p0.2 u := k2
                rw [← k1] at hk
                rcases keyIs_shape (show keyIs (Sum.inr p0.1) e0.key = true from hk) with ⟨j, t', e1, e2⟩ | ⟨y', t', e1, e2⟩
                · cases e1
                · cases e1
                  exact ⟨p0, t', u, rfl, e2, hv.trans k2⟩
              | succ j =>
                obtain ⟨e', t, u, a1, a2, a3⟩ := ih ht r2 j en (by simpa using e)
                exact ⟨e', t, u, by simpa using a1, a2, a3⟩
    exact fun j en e => all hps rel j en (by rw [Array.getElem?_toList]; exact e)
  refine sorted_keysX (P := X.prog) (w := X.w) (A := X.A) ktk2 (D := ItD s.heap (prs.map prK)) (fun L h d => ?_) (fun A' E' Rr hA k => ?_) fun y z' c us M L l0 lt g d O => ?_
  · have := congrArg List.length d.ks
    rw [List.length_map, List.length_map] at this
    omega
  · refine DT.collectI (A := A') (es := es) (ep := ep) (hA.trans hh) view ⟨o, ho, hx, hdat⟩ (by rw [l2, ← l1, sizeLine_eq]; omega) fun h' tk as hk hlt hl hG => ?_
    have la : as.length = prs.length := by omega
    have pr : ∀ pp ∈ as.zip (prs.map prK), s.heap.objs.size ≤ pp.1 ∧ ∃ x y t u, pp.2 = [Sum.inr x, Sum.inr y] ∧ h'.get? pp.1 = some { cls := .type "tuple", data := .seq #[Value.str x t, Value.str y u] } := by
      intro pp hpp
      obtain ⟨j, hj⟩ := List.mem_iff_getElem?.mp hpp
      obtain ⟨j1, j2⟩ := List.getElem?_zip_eq_some.mp hj
      obtain ⟨en, he, hg⟩ := hG.pairs j _ j1
      obtain ⟨e, t, u, p1, p2, p3⟩ := ent j en he
      rw [List.getElem?_map, p1] at j2
      have j2 : prK e = pp.2 := Option.some.inj j2
      rw [p2, p3] at hg
      exact ⟨Nat.le_of_lt (hG.above _ (List.mem_of_getElem? j1)), e.1, e.2, t, u, j2.symm, hg⟩
    refine k { s with heap := h', toks := tk } (as.map Value.ref) (as.zip (prs.map prK)) ⟨hk, rfl, rfl⟩ (List.Perm.of_eq ?_) (fun pp hpp => ?_) ⟨List.map_snd_zip (by rw [List.length_map, la]; exact Nat.le_refl _), ?_, pr⟩
    · have e := List.map_fst_zip (l₁ := as) (l₂ := prs.map prK) (by rw [List.length_map, la]; exact Nat.le_refl _)
      conv => lhs; rw [← e]
      rw [List.map_map]
      rfl
    · obtain ⟨_, x, y, t, u, e1, e2⟩ := pr pp hpp
      refine ⟨?_, _, by rw [e1]; rfl⟩
      rw [e1]
      exact ⟨_, #[Value.str x t, Value.str y u], 0, e2, rfl, rfl, .cons (mixKind_str _ _ x t) (.cons (mixKind_str _ _ y u) .nil)⟩
    · rw [List.map_fst_zip (by rw [List.length_map, la]; exact Nat.le_refl _)]
      exact List.Pairwise.imp (fun h => Nat.ne_of_lt h) hG.rise
  · have lts : Later s z' := ⟨fun b o e => lt.keep b o (l0.keep b o e), lt.gens.trans l0.gens, lt.os.trans l0.os⟩
    have Iy := after0 I l0
    obtain ⟨l, hl⟩ : ∃ l, l = y.heap.objs.size := ⟨_, rfl⟩
    rw [← hl] at g
    have no : H l = none := Iy.hok.fresh (Nat.le_of_eq hl.symm)
    have dl : L.length < 64 := by
      have := congrArg List.length d.ks
      rw [List.length_map, List.length_map] at this
      omega
    have ml : M.length < 64 := by rw [O.perm.length_eq]; exact dl
    have ez := eta (s := s) (s' := z') lts.os
    have I' : Inv X pins σ H { s with gens := z'.gens, drawn := z'.drawn } := I.call (ch := []) (t' := s.toks) (d' := z'.drawn) Un.refl I.hok (by rw [lts.gens]; exact I.bare) (fun _ n => nomatch n)
    have Iz : Inv X pins σ H z' := after0 I lts
    have I1 : Inv X pins σ (upd H l (.lst (M.map fun q => V.ref q.1))) { ({ s with gens := z'.gens, drawn := z'.drawn } : Shared) with heap := z'.heap, toks := z'.toks } := by
      have J : Inv X pins σ (upd H l (.lst (M.map fun q => V.ref q.1))) { y with heap := z'.heap, gens := z'.gens, drawn := z'.drawn, toks := z'.toks } :=
        Iy.call (ch := []) (Un.laid lt.keep (Nat.le_of_eq hl.symm) no) (Iy.hok.laid lt.keep (Nat.le_of_eq hl.symm) ⟨by rw [List.length_map, sizeLine_eq]; omega, us.toList, c, by rw [O.are]; exact refs_vals M, g⟩) (by rw [lt.gens]; exact Iy.bare) (fun _ n => nomatch n)
      have e : ({ y with heap := z'.heap, gens := z'.gens, drawn := z'.drawn, toks := z'.toks } : Shared) = { ({ s with gens := z'.gens, drawn := z'.drawn } : Shared) with heap := z'.heap, toks := z'.toks } := by
        have := l0.os
        cases y
        cases s
        cases this
        rfl
      rw [← e]
      exact J
    have upL : ∀ pp ∈ L, s.heap.objs.size ≤ pp.1 ∧ H pp.1 = none := fun pp hpp => ⟨(d.at_ pp hpp).1, I.hok.fresh (d.at_ pp hpp).1⟩
    have neL : ∀ pp ∈ L, pp.1 ≠ l := fun pp hpp e => by
      obtain ⟨_, x, y', t, u, _, e2⟩ := d.at_ pp hpp
      have := Heap.lt_size e2
      rw [e, hl] at this
      exact Nat.lt_irrefl _ this
    obtain ⟨H2, I3, gr, qt⟩ := DX.takeT (s := { s with gens := z'.gens, drawn := z'.drawn }) (P := fun b vs => ∃ pp ∈ L, pp.1 = b ∧ vs = pp.2.map kV) I' (L.map (·.1)) _ I1 d.nd fun b hb => by
      obtain ⟨pp, hpp, rfl⟩ := List.mem_map.mp hb
      obtain ⟨s1, x, y', t, u, e1, e2⟩ := d.at_ pp hpp
      refine ⟨s1, by rw [upd_ne (neL pp hpp)]; exact (upL pp hpp).2, pp.2.map kV, ⟨pp, hpp, rfl, rfl⟩, fun H3 => ?_⟩
      rw [e1]
      exact ⟨by rw [sizeLine_eq]; show 2 ≤ 16777216; omega, [Value.str x t, Value.str y' u], .cons ⟨t, rfl⟩ (.cons ⟨u, rfl⟩ .nil), ⟨_, lt.keep _ _ e2, rfl, 0, rfl⟩⟩
    have e3 : ({ ({ s with gens := z'.gens, drawn := z'.drawn } : Shared) with heap := z'.heap, toks := z'.toks } : Shared) = z' := ez.symm
    rw [e3] at I3
    have tupAt : ∀ pp ∈ L, H2 pp.1 = some (.tup (pp.2.map kV)) := fun pp hpp => by
      obtain ⟨vs', ⟨p2, hp2, e1, rfl⟩, hH⟩ := qt pp.1 (List.mem_map.mpr ⟨pp, hpp, rfl⟩)
      have : p2 = pp := by
        have nd := d.nd
        exact nodup_inj nd hp2 hpp e1
      rw [this] at hH
      exact hH
    refine ⟨.ref l, H2, I3, by rw [hl]; rfl, q H2 l M (fun b o e => gr b o (by rw [upd_ne (ne_of_none e no)]; exact e)) (fun m hm => ⟨tupAt m (O.perm.mem_iff.mp hm), (upL m (O.perm.mem_iff.mp hm)).2⟩) ?_ O.asc no (gr _ _ upd_same)⟩
    rw [← d.ks]
    exact O.perm.map _
end
end VS

set_option Elab.async false
set_option linter.all false
set_option autoImplicit false
set_option maxRecDepth 100000
set_option maxHeartbeats 4000000
/-! VNew: sorted(set(..)), sorted(d), isupper, *.. in a display. -/
namespace VI
open PySem PySem.Spec PyProof.Rows L2
variable {X : Cx} {K : PySem.W.Frag} {F H F1 H1 F2 H2 F' H' : Hp} {ρ ρ1 ρ2 ρ' : EnvD} {σ : L2.St} {pos : Pos} {a b c : Expr} {es : List Expr}

theorem str_back (x : Str) : (⟨x.cps.toList.toArray⟩ : Str) = x := by cases x; simp
theorem str_inj {x y : Str} (h : x.cps.toList = y.cps.toList) : x = y := by rw [← str_back x, ← str_back y, h]
theorem strs_rep : ∀ {ds : List D} {vs : List V} {ks : List (List Nat)}, Reps K F ds vs → strsD ds = some ks → ∃ ss : List Str, vs = ss.map V.str ∧ ks = ss.map fun y => y.cps.toList
  | _, _, _, .nil, h => by cases h; exact ⟨[], rfl, rfl⟩
  | d :: ds, _, _, .cons h r, e => by
    cases d <;> first | (simp [strsD] at e; done) | skip
    simp only [strsD, Option.map_eq_some_iff] at e
    obtain ⟨l, h1, rfl⟩ := e
    obtain ⟨ss, e1, e2⟩ := strs_rep r h1
    cases h
    rename_i x
    exact ⟨x :: ss, by rw [e1]; rfl, by rw [e2]; rfl⟩
theorem strs_back : ∀ ss : List Str, Reps K F ((ss.map fun y => y.cps.toList).map stD) (ss.map V.str)
  | [] => .nil
  | x :: ss => by
    refine .cons ?_ (strs_back ss)
    unfold stD
    rw [str_back]
    exact .str x
/-- sorted texts, each once -/
theorem srtS_eq {ys ss : List Str} (h : VS.AscS ys) (nd : ys.Nodup) (m : ∀ k, k ∈ ys ↔ k ∈ ss) : ys.map (fun y => y.cps.toList) = VS.srt KO (ss.map fun y => y.cps.toList) := by
  refine VS.srt_of (O := KO) h (List.pairwise_map.mpr (nd.imp fun ne e => ne (str_inj e))) fun z => ?_
  simp only [List.mem_map]
  exact ⟨fun ⟨y, hy, e⟩ => ⟨y, (m y).mp hy, e⟩, fun ⟨y, hy, e⟩ => ⟨y, (m y).mpr hy, e⟩⟩
theorem pair_rep {d : D} {v : V} {k : List (Int ⊕ List Nat)} (h : Rep K F d v) (e : pairD d = some k) : ∃ (a : Addr) (ks : List Key), v = .ref a ∧ SqT K F a (ks.map kV) ∧ VS.pk ks = some k := by
  unfold pairD at e
  split at e
  · rename_i x i
    cases e
    cases h with
    | tup ht r =>
      cases r with
      | cons r1 r2 =>
        cases r2 with
        | cons r2 r3 =>
          cases r3
          cases r1
          cases r2
          exact ⟨_, [.inr x, .inl i], rfl, ht, rfl⟩
  · cases e
theorem pairs_rep : ∀ {ds : List D} {vs : List V} {ks : List (List (Int ⊕ List Nat))}, Reps K F ds vs → pairsD ds = some ks →
    ∃ es : List VS.Ent, vs = es.map (fun p => V.ref p.1) ∧ (∀ p ∈ es, SqT K F p.1 (p.2.map kV)) ∧ es.map (fun p => VS.pk p.2) = ks.map some
  | _, _, _, .nil, h => by cases h; exact ⟨[], rfl, fun p hp => (nomatch hp), rfl⟩
  | d :: ds, _, _, .cons h r, e => by
    simp only [pairsD, Option.bind_eq_some_iff, Option.map_eq_some_iff] at e
    obtain ⟨k, h1, l, h2, rfl⟩ := e
    obtain ⟨es, e1, e2, e3⟩ := pairs_rep r h2
    obtain ⟨a, ks, rfl, h4, h5⟩ := pair_rep h h1
    refine ⟨(a, ks) :: es, by rw [e1]; rfl, fun p hp => ?_, by rw [List.map_cons, List.map_cons, e3, h5]⟩
    cases hp with
    | head => exact h4
    | tail _ hp => exact e2 p hp
theorem pk_some {ks : List Key} {k : List (Int ⊕ List Nat)} (h : VS.pk ks = some k) : ∃ x i, ks = [.inr x, .inl i] ∧ k = [.inr x.cps.toList, .inl i] := by
  unfold VS.pk at h
  split at h
  · cases h; exact ⟨_, _, rfl, rfl⟩
  · cases h
theorem pk_inj {k1 k2 : List Key} {k : List (Int ⊕ List Nat)} (h1 : VS.pk k1 = some k) (h2 : VS.pk k2 = some k) : k1 = k2 := by
  obtain ⟨x, i, rfl, rfl⟩ := pk_some h1
  obtain ⟨y, j, rfl, e⟩ := pk_some h2
  injection e with e1 e2
  injection e1 with e1
  injection e2 with e2
  injection e2 with e2
  rw [str_inj e1, e2]
theorem pair_back {p : VS.Ent} {k : List (Int ⊕ List Nat)} (h : SqT K F p.1 (p.2.map kV)) (e : VS.pk p.2 = some k) : Rep K F (prD k) (.ref p.1) := by
  obtain ⟨x, i, e1, rfl⟩ := pk_some e
  rw [e1] at h
  refine .tup h (.cons ?_ (.cons (.int i) .nil))
  show Rep K F (.str ⟨x.cps.toList.toArray⟩) (.str x)
  rw [str_back]
  exact .str x
/-- sorted (text, int)s, each once -/
theorem srtK_eq {M : List VS.Ent} {ks : List (List (Int ⊕ List Nat))} {kk : List (List Key)} (asc : VS.AscK M) (nd : (M.map (·.2)).Nodup) (m : ∀ k, k ∈ M.map (·.2) ↔ k ∈ kk) (e : kk.map VS.pk = ks.map some) :
    M.map (fun p => VS.pk p.2) = (VS.srt KP ks).map some := by
  have each : ∀ p ∈ M, ∃ k ∈ ks, VS.pk p.2 = some k := fun p hp => by
    have h1 : VS.pk p.2 ∈ kk.map VS.pk := List.mem_map.mpr ⟨p.2, (m p.2).mp (List.mem_map.mpr ⟨p, hp, rfl⟩), rfl⟩
    rw [e] at h1
    obtain ⟨k, hk, e1⟩ := List.mem_map.mp h1
    exact ⟨k, hk, e1.symm⟩
  have lift : ∀ {N : List VS.Ent}, (∀ p ∈ N, ∃ k ∈ ks, VS.pk p.2 = some k) → ∃ qs : List (List (Int ⊕ List Nat)), N.map (fun p => VS.pk p.2) = qs.map some := by
    intro N
    induction N with
    | nil => exact fun _ => ⟨[], rfl⟩
    | cons p N ih =>
      intro h
      obtain ⟨k, _, e1⟩ := h p List.mem_cons_self
      obtain ⟨qs, e2⟩ := ih fun q hq => h q (List.mem_cons_of_mem _ hq)
      exact ⟨k :: qs, by rw [List.map_cons, e1, e2]; rfl⟩
  obtain ⟨qs, hq⟩ := lift each
  have mem : ∀ z, z ∈ qs ↔ ∃ p ∈ M, VS.pk p.2 = some z := fun z => by
    have : some z ∈ qs.map some ↔ some z ∈ M.map fun p => VS.pk p.2 := by rw [hq]
    simp only [List.mem_map, Option.some.injEq, exists_eq_right] at this
    exact this
  rw [hq]
  congr 1
  refine VS.srt_of (O := KP) ?_ ?_ fun z => ?_
  · clear mem each lift nd m e
    induction M generalizing qs with
    | nil => cases qs with
      | nil => exact List.Pairwise.nil
      | cons _ _ => cases hq
    | cons p M ih =>
      cases qs with
      | nil => cases hq
      | cons z qs =>
        rw [List.map_cons, List.map_cons] at hq
        injection hq with h1 h2
        obtain ⟨a1, a2⟩ := List.pairwise_cons.mp asc
        refine List.pairwise_cons.mpr ⟨fun y hy => ?_, ih a2 qs h2⟩
        have : some y ∈ M.map fun p => VS.pk p.2 := by rw [h2]; exact List.mem_map.mpr ⟨y, hy, rfl⟩
        obtain ⟨q, hq2, e2⟩ := List.mem_map.mp this
        exact a1 q hq2 z y h1 e2
  · have nd2 : (M.map fun p => VS.pk p.2).Nodup := by
      refine List.pairwise_map.mpr (List.Pairwise.imp_of_mem (fun {p q} hp hq2 ne e2 => ?_) (List.pairwise_map.mp nd))
      obtain ⟨k, _, e1⟩ := each p hp
      exact ne (pk_inj e1 (by rw [← e2]; exact e1))
    rw [hq] at nd2
    exact List.Pairwise.of_map some (fun _ _ ne e => ne (congrArg some e)) nd2
  · rw [mem]
    constructor
    · rintro ⟨p, hp, e1⟩
      obtain ⟨k, hk, e2⟩ := each p hp
      rw [e1] at e2
      cases e2
      exact hk
    · intro hz
      have h1 : some z ∈ kk.map VS.pk := by rw [e]; exact List.mem_map.mpr ⟨z, hz, rfl⟩
      obtain ⟨kz, hk, e1⟩ := List.mem_map.mp h1
      obtain ⟨p, hp, e2⟩ := List.mem_map.mp ((m kz).mpr hk)
      exact ⟨p, hp, by rw [e2]; exact e1⟩
theorem pairs_back {M : List VS.Ent} {qs : List (List (Int ⊕ List Nat))} (t : ∀ p ∈ M, SqT K F p.1 (p.2.map kV)) (e : M.map (fun p => VS.pk p.2) = qs.map some) : Reps K F (qs.map prD) (M.map fun p => V.ref p.1) := by
  induction M generalizing qs with
  | nil => cases qs with
    | nil => exact .nil
    | cons _ _ => cases e
  | cons p M ih => cases qs with
    | nil => cases e
    | cons z qs =>
      rw [List.map_cons, List.map_cons] at e
      injection e with h1 h2
      exact .cons (pair_back (t p List.mem_cons_self) h1) (ih (fun q hq => t q (List.mem_cons_of_mem _ hq)) h2)
end VI

set_option Elab.async false
set_option linter.all false
set_option autoImplicit false
set_option maxRecDepth 100000
set_option maxHeartbeats 4000000
/-! VNew2: the new forms of expressions. -/
namespace VI
open PySem PySem.Spec PyProof.Rows L2
variable {X : Cx} {F H F1 H1 F2 H2 F' H' : Hp} {ρ ρ1 ρ2 ρ' : EnvD} {σ : L2.St} {pos : Pos} {a b c : Expr} {es : List Expr}

theorem s_dnewT (C : Ctx) : PE X (.Dict [] [] pos) (tO X.K (ev C .dnewT)) := by
  refine PE.imp pe_dnewT fun σ H Q ⟨F, ρ, s, er, q⟩ p hp => ?_
  obtain ⟨g, vn⟩ := grw_dT (K := X.K) s hp .nil
  exact to_op (SE.refl s er) g vn q
theorem s_isup (C : Ctx) {ea : E} {apos : Pos} (ha : PE X a (tO X.K (ev C ea))) (hbase : attributeBase a "isupper" X.env (eval a X.env) = eval a X.env) (hline : (apos.endLine == pos.line) = true) : PE X (.Call (.Attribute a "isupper" apos) [] [] pos) (tO X.K (ev C (.isup ea))) := by
  refine PE.imp (pe_m0 F.slot_str_isupper F.type_str_isupper mt_isupper ha hbase hline) fun σ H Q ⟨F, ρ, s, er, q⟩ => ?_
  simp only [ev] at q
  rw [R.wp_bind] at q
  refine ⟨F, ρ, s, er, R.wp_mono q fun x q F1 H1 v se ⟨hv, nv⟩ => ?_⟩
  rw [R.wp_bind] at q
  obtain ⟨d, h1, q⟩ := R.wp_eq q
  have hd := hv.rd se.st.er h1
  cases d <;> first | exact q.elim | skip
  obtain rfl := hd.str
  exact ⟨⟨_, rfl⟩, _, rfl, rfl, trivial, q F1 H1 _ se ⟨Rep.bl _, trivial⟩⟩
theorem seq_rd {d : D} {ds : List D} {v : V} (s : Same F H) (hd : RdV X.K F H d v) (e : seqD d = some ds) : ∃ p vs, v = .ref p ∧ (SqT X.K H p vs ∨ SqL X.K H p vs) ∧ Reps X.K F ds vs := by
  cases d <;> first | (cases e; done) | skip
  · cases e
    obtain ⟨p, vs, rfl, ht, r⟩ := hd.tup s
    exact ⟨p, vs, rfl, .inl ht, r⟩
  · cases e
    obtain ⟨p, vs, rfl, ht, r⟩ := hd.lst s
    exact ⟨p, vs, rfl, .inr (SqL.of ht), r⟩
theorem l_consS (C : Ctx) {ea el : E} {p : Pos} (ha : PE X a (tO X.K (ev C ea))) (hl : PA X es (tLs X.K (evL C el))) : PA X (.Starred a p :: es) (tLs X.K (evL C (.consS ea el))) := by
  refine PA.imp (StX.pa_star ha hl) fun σ H Q ⟨F, ρ, s, er, q⟩ => ?_
  simp only [evL] at q
  rw [R.wp_bind] at q
  refine ⟨F, ρ, s, er, R.wp_mono q fun o q F1 H1 v se ⟨hv, nv⟩ => ?_⟩
  rw [R.wp_bind] at q
  obtain ⟨d, h1, q⟩ := R.wp_eq q
  rw [R.wp_bind] at q
  obtain ⟨ds, h2, q⟩ := R.wp_of.mp q
  rw [R.wp_bind] at q
  obtain ⟨b, vs, rfl, hs, r⟩ := seq_rd se.st.fh (hv.rd se.st.er h1) h2
  refine ⟨b, vs, rfl, hs, F1, o.2, se.st.fh, se.st.er, R.wp_mono q fun xs q F2 H2 us se2 rs => ?_⟩
  exact q F2 H2 _ (se.trans se2) ((Reps.mono se2.st.ff r).append rs)
/-- a new list of sorted things -/
theorem new_list {F0 H0 : Hp} {ρ0 : EnvD} {Q : VK} {ds : List D} {vs : List V} {p : Addr} (se : SE X.K σ F0 H0 ρ0 F H ρ) (g : Grw F H F1 H1) (hp : H1 p = none) (r : Reps X.K F1 ds vs)
    (q : ∀ F' H' v, SE X.K σ F0 H0 ρ0 F' H' ρ → (OR X.K F' H' ρ σ (.val (.lst ds) true) v ∧ Nw H0 (.val (.lst ds) true) v) → Q v H') : Q (.ref p) (upd H1 p (.lst vs)) := by
  have s1 := se.trans (g.se se.st.er)
  obtain ⟨g2, vn⟩ := grw_lst (K := X.K) s1.st.fh hp r
  exact to_op s1 g2 vn q
theorem s_srts (C : Ctx) {ea : E} {p p2 qp : Pos} (hc : X.calm = true) (hu : X.A.units + 64 < cLine) (hg : Gl X "sorted") (hm : X.mg "sorted" = none) (hg2 : Gl X "set") (hm2 : X.mg "set" = none) (ha : PE X a (tO X.K (ev C ea))) (he : starEach [a] X.env = (false, eval a X.env) :: starEach [] X.env) :
    PE X (.Call (.Name "sorted" p) [.Call (.Name "set" p2) [a] [] qp] [] pos) (tO X.K (ev C (.srts ea))) := by
  have inner := pe_callTy (p := p2) (pos := qp) (VS.call_set hc hu) hg2 hm2 (by decide +kernel) (pa_cons ha pa_nil he) (by decide) (by decide) he (by rfl)
  refine PE.imp (pe_callB (VS.call_sorted hc) hg hm (by decide +kernel) (pa_cons inner pa_nil (by rfl)) (by decide) (by decide) (by rfl) (by rfl)) fun σ H Q ⟨F, ρ, s, er, q⟩ => ?_
  simp only [ev] at q
  rw [R.wp_bind] at q
  refine ⟨F, ρ, s, er, R.wp_mono q fun x q F1 H1 v se ⟨hv, nv⟩ => ?_⟩
  rw [R.wp_bind] at q
  obtain ⟨d, h1, q⟩ := R.wp_eq q
  rw [R.wp_bind] at q
  have hd := hv.rd se.st.er h1
  cases d <;> first | exact q.elim | skip
  rename_i ds
  obtain ⟨l, vs, rfl, ht, r⟩ := hd.lst se.st.fh
  simp only [srtsD] at q
  cases hk : strsD ds with
  | some ks =>
    rw [hk] at q
    obtain ⟨few, q⟩ := R.wp_ite.mp q
    have few := of_decide_eq_true few
    obtain ⟨ss, rfl, rfl⟩ := strs_rep r hk
    refine ⟨l, rfl, .inl ⟨ss, SqL.of ht, ⟨(VS.srt KO (ss.map fun y => y.cps.toList)).map fun l => ⟨l.toArray⟩, by rw [List.length_map]; exact few, fun k hk => List.mem_map.mpr ⟨k.cps.toList, VS.srt_mem.mpr (List.mem_map.mpr ⟨k, hk, rfl⟩), str_back k⟩⟩, fun b ms hb m nd few2 => ⟨b, rfl, .inl ⟨ms, upd_same, fun p ys hp pm asc => ?_⟩⟩⟩⟩
    have e := srtS_eq (ss := ss) asc (pm.nodup_iff.mpr nd) fun k => by rw [pm.mem_iff]; exact m k
    refine new_list se (grw_any se.st.fh hb) hp (strs_back ys) ?_
    rw [e]
    exact q
  | none =>
    rw [hk] at q
    rw [R.wp_bind] at q
    obtain ⟨ks, h2, q⟩ := R.wp_of.mp q
    obtain ⟨es, rfl, ht2, e3⟩ := pairs_rep r h2
    obtain ⟨few, q⟩ := R.wp_ite.mp q
    have few := of_decide_eq_true few
    have fewU : ∃ U : List (List Key), U.length < 63 ∧ ∀ p ∈ es, p.2 ∈ U := ⟨(VS.srt KP ks).map fun k => k.map fun | .inl i => .inl i | .inr x => .inr ⟨x.toArray⟩, by rw [List.length_map]; exact few, fun p hp => by
      have : VS.pk p.2 ∈ es.map fun p => VS.pk p.2 := List.mem_map.mpr ⟨p, hp, rfl⟩
      rw [e3] at this
      obtain ⟨k, hk, ek⟩ := List.mem_map.mp this
      obtain ⟨x, i, e1, e2⟩ := pk_some ek.symm
      refine List.mem_map.mpr ⟨k, VS.srt_mem.mpr hk, ?_⟩
      rw [e1, e2]
      show [Sum.inr (⟨x.cps.toList.toArray⟩ : Str), Sum.inl i] = _
      rw [str_back]⟩
    refine ⟨l, rfl, .inr ⟨es, SqL.of ht, fun p hp => sqT_mono se.st.fh (ht2 p hp), fewU, fun b L hb m1 m2 nd few2 => ⟨b, rfl, .inr (.inl ⟨L, upd_same, fun p hp => ⟨?_, ?_⟩, fun p M hp pm asc => ?_⟩)⟩⟩⟩
    · exact sqT_mono (same_upd hb) (sqT_mono se.st.fh (ht2 p (m1 p hp)))
    · have : VS.pk p.2 ∈ es.map fun p => VS.pk p.2 := List.mem_map.mpr ⟨p, m1 p hp, rfl⟩
      rw [e3] at this
      obtain ⟨k, _, ek⟩ := List.mem_map.mp this
      exact ⟨k, ek.symm⟩
    · have e := srtK_eq (M := M) (ks := ks) (kk := es.map (·.2)) asc ((pm.map (·.2)).nodup_iff.mpr nd) (fun k => by
        rw [(pm.map (·.2)).mem_iff]
        constructor
        · intro hk
          obtain ⟨y, hy, rfl⟩ := List.mem_map.mp hk
          exact List.mem_map.mpr ⟨y, m1 y hy, rfl⟩
        · intro hk
          obtain ⟨y, hy, rfl⟩ := List.mem_map.mp hk
          exact m2 y hy) (by rw [List.map_map]; exact e3)
      exact new_list se (grw_any se.st.fh hb) hp (pairs_back (fun y hy => ht2 y (m1 y (pm.mem_iff.mp hy))) e) q
theorem keys_rep : ∀ {kvs : List (Key × D)} {ws : List (Key × V)} {ks : List (List Nat)}, RepK X.K F kvs ws → keysStr kvs = some ks → ∃ ss : List Str, ws.map (·.1) = ss.map Sum.inr ∧ ks = ss.map fun y => y.cps.toList
  | _, _, _, .nil, h => by cases h; exact ⟨[], rfl, rfl⟩
  | (k, d) :: kvs, _, _, .cons h r, e => by
    simp only [keysStr, Option.bind_eq_some_iff, Option.map_eq_some_iff] at e
    obtain ⟨l, h1, m, h2, rfl⟩ := e
    obtain ⟨ss, e1, e2⟩ := keys_rep r h2
    cases k with
    | inl i => cases h1
    | inr x => cases h1; exact ⟨x :: ss, by rw [List.map_cons, e1]; rfl, by rw [e2]; rfl⟩
theorem keyPr_pk (k : List Key) : keyPr k = VS.pk k := rfl
theorem keysP_rep : ∀ {kvs : List (List Key × D)} {ws : List (List Key × V)} {ks : List (List (Int ⊕ List Nat))}, RepT X.K F kvs ws → keysPr kvs = some ks → (ws.map (·.1)).map VS.pk = ks.map some
  | _, _, _, .nil, h => by cases h; rfl
  | (k, d) :: kvs, _, _, .cons h r, e => by
    simp only [keysPr, Option.bind_eq_some_iff, Option.map_eq_some_iff] at e
    obtain ⟨l, h1, m, h2, rfl⟩ := e
    rw [List.map_cons, List.map_cons, keysP_rep r h2, List.map_cons, ← h1]
    rfl
theorem repK_len : ∀ {kvs : List (Key × D)} {ws : List (Key × V)}, RepK X.K F kvs ws → kvs.length = ws.length
  | _, _, .nil => rfl
  | _, _, .cons _ r => by rw [List.length_cons, List.length_cons, repK_len r]
theorem repT_len : ∀ {kvs : List (List Key × D)} {ws : List (List Key × V)}, RepT X.K F kvs ws → kvs.length = ws.length
  | _, _, .nil => rfl
  | _, _, .cons _ r => by rw [List.length_cons, List.length_cons, repT_len r]
theorem s_srtd (C : Ctx) {ea : E} {p : Pos} (hc : X.calm = true) (hg : Gl X "sorted") (hm : X.mg "sorted" = none) (ha : PE X a (tO X.K (ev C ea))) (he : starEach [a] X.env = (false, eval a X.env) :: starEach [] X.env) :
    PE X (.Call (.Name "sorted" p) [a] [] pos) (tO X.K (ev C (.srtd ea))) := by
  refine PE.imp (pe_callB (VS.call_sorted hc) hg hm (by decide +kernel) (pa_cons ha pa_nil he) (by decide) (by decide) he (by rfl)) fun σ H Q ⟨F, ρ, s, er, q⟩ => ?_
  simp only [ev] at q
  rw [R.wp_bind] at q
  refine ⟨F, ρ, s, er, R.wp_mono q fun x q F1 H1 v se ⟨hv, nv⟩ => ?_⟩
  rw [R.wp_bind] at q
  obtain ⟨d, h1, q⟩ := R.wp_eq q
  rw [R.wp_bind] at q
  have hd := hv.rd se.st.er h1
  cases d <;> first | exact q.elim | skip
  · obtain ⟨l, ws, rfl, ht, r⟩ := hd.dK se.st.fh
    simp only [srtdD] at q
    obtain ⟨few, q⟩ := R.wp_ite.mp q
    rw [R.wp_bind] at q
    obtain ⟨ks, h2, q⟩ := R.wp_of.mp q
    obtain ⟨ss, e1, rfl⟩ := keys_rep r h2
    have ln : ss.length < 64 := by
      have e := congrArg List.length e1
      rw [List.length_map, List.length_map, ← repK_len r] at e
      have := of_decide_eq_true few
      omega
    refine ⟨l, rfl, .inr (.inr (.inl ⟨ws, ss, ht, e1, ln, fun p ys hp pm nd asc => ?_⟩))⟩
    have e := srtS_eq (ss := ss) asc nd fun k => pm.mem_iff
    refine new_list se (Grw.refl se.st.fh) hp (strs_back ys) ?_
    rw [e]
    exact q
  · obtain ⟨l, ws, rfl, ht, r⟩ := hd.dT se.st.fh
    simp only [srtdD] at q
    obtain ⟨few, q⟩ := R.wp_ite.mp q
    rw [R.wp_bind] at q
    obtain ⟨ks, h2, q⟩ := R.wp_of.mp q
    have e3 := keysP_rep r h2
    have ln : ws.length < 64 := by rw [← repT_len r]; exact of_decide_eq_true few
    refine ⟨l, rfl, .inr (.inr (.inr ⟨ws, ht, ln, fun kv hk => ?_, fun p M hp tp pm nd asc => ?_⟩))⟩
    · have : VS.pk kv.1 ∈ (ws.map (·.1)).map VS.pk := List.mem_map.mpr ⟨kv.1, List.mem_map.mpr ⟨kv, hk, rfl⟩, rfl⟩
      rw [e3] at this
      obtain ⟨k, _, ek⟩ := List.mem_map.mp this
      exact ⟨k, ek.symm⟩
    · have e := srtK_eq (M := M) (ks := ks) (kk := ws.map (·.1)) asc nd (fun k => pm.mem_iff) e3
      have g := grw_seen (l := M.map (·.1)) se.st.fh fun b hb => by
        obtain ⟨y, hy, rfl⟩ := List.mem_map.mp hb
        exact ⟨_, tp y hy⟩
      refine new_list se g hp (pairs_back (fun y hy => SqT.of ?_) e) q
      rw [seen_at (List.mem_map.mpr ⟨y, hy, rfl⟩)]
      exact tp y hy
end VI

set_option Elab.async false
set_option linter.all false
set_option autoImplicit false
set_option maxRecDepth 100000
set_option maxHeartbeats 4000000
/-! VStm2: the new statements. -/
namespace VI
open PySem PySem.Spec PyProof.Rows L2
variable {X : Cx} {K : PySem.W.Frag} {P : Keep} {F H F0 H0 F1 H1 F2 H2 F' H' : Hp} {ρ ρ0 ρ1 ρ2 ρ' : EnvD} {σ σ0 σ1 σ2 σ' : L2.St} {pos : Pos} {a b c : Expr} {es : List Expr}

/-! ### an owned container is written -/
theorem upd_box {j : Nat} {p : Addr} {d d' : D} {ob : HO} (s : Stp K F0 H0 ρ0 σ0 F H ρ σ) (hj : ρ[j]? = some (some (d, true))) (hs : σ[j]? = some (some (V.ref p))) (nw : Own K F (upd H p ob) d' p) :
    Stp K F0 H0 ρ0 σ0 F (upd H p ob) (ρ.set j (some (d', true))) σ := by
  obtain ⟨p', e1, ow⟩ := s.er.own j _ hj
  rw [hs] at e1; cases e1
  have nF := ow.nF
  have at_ : ∀ (k : Nat) (x : D × Bool), (ρ.set j (some (d', true)))[k]? = some (some x) → (k = j ∧ x = (d', true)) ∨ (k ≠ j ∧ ρ[k]? = some (some x)) := fun k x h => by
    by_cases hk : k = j
    · subst hk
      exact .inl ⟨rfl, (Option.some.inj (getset_self h)).symm⟩
    · rw [getset_ne (Ne.symm hk)] at h
      exact .inr ⟨hk, h⟩
  have old : ∀ {k : Nat} {d0 : D}, (ρ.set j (some (d', true)))[k]? = some (some (d0, true)) → ∃ d1, ρ[k]? = some (some (d1, true)) := fun {k d0} h => by
    rcases at_ k _ h with ⟨rfl, e⟩ | ⟨_, h⟩
    · exact ⟨_, hj⟩
    · exact ⟨_, h⟩
  have fne : ∀ b u, F b = some u → b ≠ p := fun b u e z => by rw [z, nF] at e; cases e
  refine ⟨s.ff, fun b u e => by rw [upd_ne (fne b u e)]; exact s.fh b u e, ⟨by rw [List.length_set]; exact s.er.len, fun k d h => ?_, fun k d h => ?_, fun i k d e q h1 h2 h3 h4 => ?_⟩, fun b o h1 bx h2 h3 => ?_, fun b ⟨k, d, h1, h2⟩ => ?_, fun b o h => ?_⟩
  · rcases at_ k _ h with ⟨_, e⟩ | ⟨_, h⟩
    · cases e
    · exact s.er.frz k d h
  · rcases at_ k _ h with ⟨rfl, e⟩ | ⟨hk, h⟩
    · cases e
      exact ⟨p, hs, nw⟩
    · obtain ⟨q, e1, ow'⟩ := s.er.own k d h
      refine ⟨q, e1, ow'.keep (Same.refl F) (fun u z => ?_) ow'.nF⟩
      rw [upd_ne (fun z => hk (s.er.dis k j d _ p h hj (by rw [← z]; exact e1) hs))]
      exact z
  · obtain ⟨d1, h1⟩ := old h1
    obtain ⟨e1, h2⟩ := old h2
    exact s.er.dis i k d1 e1 q h1 h2 h3 h4
  · obtain ⟨h4, h5⟩ := s.fr b o h1 bx h2 h3
    have ne : b ≠ p := fun z => by
      subst z
      rcases s.os b ⟨j, _, hj, hs⟩ with z | z
      · exact h3 z
      · exact not_none h1 z
    exact ⟨by rw [upd_ne ne]; exact h4, h5⟩
  · obtain ⟨d1, h1⟩ := old h1
    exact s.os b ⟨k, d1, h1, h2⟩
  · obtain ⟨u, h⟩ := s.gr b o h
    by_cases hb : b = p
    · subst hb; exact ⟨_, upd_same⟩
    · exact ⟨u, by rw [upd_ne hb]; exact h⟩
/-- a slot's value is no more known -/
theorem hide {r : Nat} {u : Option V} (s : Stp K F0 H0 ρ0 σ0 F H ρ σ) : Stp K F0 H0 ρ0 σ0 F H (ρ.set r none) (σ.set r u) := by
  have at_ : ∀ (k : Nat) (x : D × Bool), (ρ.set r none)[k]? = some (some x) → r ≠ k ∧ ρ[k]? = some (some x) := fun k x h => by
    by_cases hk : r = k
    · subst hk
      cases getset_self h
    · rw [getset_ne hk] at h
      exact ⟨hk, h⟩
  refine ⟨s.ff, s.fh, ⟨by rw [List.length_set, List.length_set]; exact s.er.len, fun k d h => ?_, fun k d h => ?_, fun i k d e q h1 h2 h3 h4 => ?_⟩, s.fr, fun b ⟨k, d, h1, h2⟩ => ?_, s.gr⟩
  · obtain ⟨hk, h⟩ := at_ k _ h
    rw [getset_ne hk]
    exact s.er.frz k d h
  · obtain ⟨hk, h⟩ := at_ k _ h
    rw [getset_ne hk]
    exact s.er.own k d h
  · obtain ⟨n1, h1⟩ := at_ i _ h1
    obtain ⟨n2, h2⟩ := at_ k _ h2
    rw [getset_ne n1] at h3
    rw [getset_ne n2] at h4
    exact s.er.dis i k d e q h1 h2 h3 h4
  · obtain ⟨n1, h1⟩ := at_ k _ h1
    rw [getset_ne n1] at h2
    exact s.os b ⟨k, d, h1, h2⟩

/-! ### a call alone -/
theorem m_alone (C : Ctx) {e : E} (ha : PE X a (tO X.K (ev C e))) (hs : swapsWith a none pos.line X.env = pure false) : PS X (.Expr a pos) (tSt X.K P (run C P (.alone e))) := by
  refine PS.imp (ps_expr ha hs) fun E σ H ⟨F, ρ, sm, er, q⟩ => ?_
  simp only [run] at q
  rw [R.wp_bind] at q
  refine ⟨F, ρ, sm, er, R.wp_mono q fun o q F1 H1 v se _ => q F1 H1 σ se.ss⟩

/-! ### three names, three values -/
theorem vr_set {i : Nat} {x y : D × Bool} {u v : V} (ru : VR K F1 H1 ρ1 σ1 x.1 x.2 u) (nv : Nw H1 (.val y.1 y.2) v) (rv : VR K F2 H2 ρ2 σ2 y.1 y.2 v) : VR K F2 H2 (ρ2.set i (some x)) (σ2.set i (some u)) y.1 y.2 v := by
  cases hy : y.2 with
  | false => rw [hy] at rv; exact rv
  | true =>
    rw [hy] at rv nv
    obtain ⟨q2, rfl, ow, no⟩ := rv
    refine ⟨q2, rfl, ow, fun ⟨k, d, h4, h5⟩ => ?_⟩
    by_cases hk : k = i
    · rw [hk] at h4 h5
      have e1 := getset_self h4
      have e2 := getset_self h5
      have e1 := Option.some.inj e1
      have e2 := Option.some.inj e2
      rw [e1, e2] at ru
      obtain ⟨a', ea', ow', _⟩ := ru
      cases ea'
      obtain ⟨ob, hob⟩ := ow'.hS
      exact not_none hob nv
    · rw [getset_ne (Ne.symm hk)] at h4 h5
      exact no ⟨k, d, h4, h5⟩
theorem m_par3 (C : Ctx) {i j l : Nat} {ea eb ec : E} {x y z : Str} {px py pz pt : Pos} {kt k2 : Nat} {pt2 : Pos} (hc : X.calm = true) (hN : X.N.Nodup) (hi : X.N[i]? = some x) (hj : X.N[j]? = some y) (hl : X.N[l]? = some z) (hij : i ≠ j) (hil : i ≠ l) (hjl : j ≠ l)
    (hx : X.env.scope.names.lookup x = some .local) (hy : X.env.scope.names.lookup y = some .local) (hz : X.env.scope.names.lookup z = some .local) (ha : PE X a (tO X.K (ev C ea))) (hb : PE X b (tO X.K (ev C eb))) (hcc : PE X c (tO X.K (ev C ec)))
    (he : starEach [a, b, c] X.env = (false, eval a X.env) :: starEach [b, c] X.env) (he2 : starEach [b, c] X.env = (false, eval b X.env) :: starEach [c] X.env) (he3 : starEach [c] X.env = (false, eval c X.env) :: starEach [] X.env)
    (hw : swappedStores [.Tuple [.Name x px, .Name y py, .Name z pz] kt pt] (.Tuple [a, b, c] k2 pt2) X.env = pure (some [x, y, z])) : PS X (.Assign [.Tuple [.Name x px, .Name y py, .Name z pz] kt pt] (.Tuple [a, b, c] k2 pt2) pos) (tSt X.K P (run C P (.par3 i j l ea eb ec))) := by
  refine PS.imp (ps_par3 hc hN hi hj hl hij hil hjl hx hy hz (pa_cons (pe_tak ha) (pa_cons (pe_tak hb) (pa_cons (pe_tak hcc) pa_nil he3) he2) he) hw rfl) fun E σ H ⟨F, ρ, sm, er, q⟩ => ?_
  simp only [run] at q
  rw [R.wp_bind] at q
  refine ⟨F, ρ, sm, er, ?_⟩
  show ((ev C ea ρ).bind fun o => tak o.2 o.1).wp _
  rw [R.wp_bind]
  refine R.wp_mono q fun o q => ?_
  rw [R.wp_bind] at q
  refine R.wp_mono q fun x q F1 H1 u se ⟨ru, nu⟩ => ?_
  rw [R.wp_bind] at q
  refine ⟨F1, x.2, se.st.fh, se.st.er, ?_⟩
  show ((ev C eb x.2).bind fun o => tak o.2 o.1).wp _
  rw [R.wp_bind]
  refine R.wp_mono q fun p q => ?_
  rw [R.wp_bind] at q
  refine R.wp_mono q fun y q F2 H2 v se2 ⟨rv, nv⟩ => ?_
  rw [R.wp_bind] at q
  have sx := se.trans se2
  refine ⟨F2, y.2, sx.st.fh, sx.st.er, ?_⟩
  show ((ev C ec y.2).bind fun o => tak o.2 o.1).wp _
  rw [R.wp_bind]
  refine R.wp_mono q fun p q => ?_
  rw [R.wp_bind] at q
  refine R.wp_mono q fun z q F3 H3 w se3 ⟨rw_, nw⟩ => ?_
  rw [R.wp_bind] at q
  obtain ⟨ρ2, h2, q⟩ := R.wp_eq q
  rw [R.wp_bind] at q
  obtain ⟨ρ3, h3, q⟩ := R.wp_eq q
  rw [R.wp_bind] at q
  obtain ⟨ρ4, h4, q⟩ := R.wp_eq q
  obtain ⟨hp, hi, rfl⟩ := setSlot_ok h2
  obtain ⟨hp2, hj, rfl⟩ := setSlot_ok h3
  obtain ⟨hp3, hl, rfl⟩ := setSlot_ok h4
  have sy := sx.trans se3
  have s1 := set_ok sy.st (ru.step (se2.trans se3)) nu hi
  have s2 := set_ok s1 (vr_set (i := i) ru nv (rv.step se3)) (nv.back se.st.gr) hj
  have s3 := set_ok s2 (vr_set (i := j) rv nw (vr_set (i := i) (ru.step se2) nw rw_)) (nw.back sx.st.gr) hl
  refine ⟨u, v, w, rfl, q F3 H3 _ (SS.off (vs := [i, j, l]) s3 (((Off.set (by simp)).trans (Off.set (by simp))).trans (Off.set (by simp))) fun m hm => ?_)⟩
  rcases List.mem_cons.mp hm with e | hm
  · rw [e]; exact hp
  · rcases List.mem_cons.mp hm with e | hm
    · rw [e]; exact hp2
    · rw [List.mem_singleton.mp hm]; exact hp3

/-! ### dicts -/
theorem any_rep : ∀ {kvs : List (Key × D)} {ws : List (Key × V)} {k : Key}, RepK K F kvs ws → (kvs.any fun kv => decide (kv.1 = k)) = (ws.any fun kv => decide (kv.1 = k))
  | _, _, _, .nil => rfl
  | _, _, _, .cons _ r => by rw [List.any_cons, List.any_cons, any_rep r]
theorem map_rep {d : D} {v : V} (h : Rep K F d v) : ∀ {kvs : List (Key × D)} {ws : List (Key × V)} {k : Key}, RepK K F kvs ws → RepK K F (kvs.map fun kv => if kv.1 = k then (kv.1, d) else kv) (ws.map fun kv => if kv.1 = k then (kv.1, v) else kv)
  | _, _, _, .nil => .nil
  | _, _, k, @RepK.cons _ _ q _ _ _ _ h1 r => by
    rw [List.map_cons, List.map_cons]
    by_cases e : q = k
    · simp only [e, if_true]
      exact .cons h (map_rep h r)
    · simp only [e, if_false]
      exact .cons h1 (map_rep h r)
theorem app_rep : ∀ {kvs kvs2 : List (Key × D)} {ws ws2 : List (Key × V)}, RepK K F kvs ws → RepK K F kvs2 ws2 → RepK K F (kvs ++ kvs2) (ws ++ ws2)
  | _, _, _, _, .nil, h => h
  | _, _, _, _, .cons h r, q => .cons h (app_rep r q)
theorem put_rep {kvs : List (Key × D)} {ws : List (Key × V)} {k : Key} {d : D} {v : V} (r : RepK K F kvs ws) (h : Rep K F d v) : RepK K F (putA kvs k d) (putK ws k v) := by
  unfold putA putK
  rw [any_rep r]
  split
  · exact map_rep h r
  · exact app_rep r (.cons h .nil)
theorem mrg_rep : ∀ {more : List (Key × D)} {ms : List (Key × V)} {kvs : List (Key × D)} {ws : List (Key × V)}, RepK K F more ms → RepK K F kvs ws → RepK K F (mrgA kvs more) (mergeK ws ms)
  | _, _, _, _, .nil, h => h
  | _, _, kvs, ws, @RepK.cons _ _ k _ _ more ms h1 r, h => by
    have q := mrg_rep r (put_rep (k := k) h h1)
    exact q
theorem repK_mono (e : Same F F') {kvs : List (Key × D)} {ws : List (Key × V)} (r : RepK K F kvs ws) : RepK K F' kvs ws := RepK.mono e r
theorem anyT_rep : ∀ {kvs : List (List Key × D)} {ws : List (List Key × V)} {k : List Key}, RepT K F kvs ws → (kvs.any fun kv => decide (kv.1 = k)) = (ws.any fun kv => decide (kv.1 = k))
  | _, _, _, .nil => rfl
  | _, _, _, .cons _ r => by rw [List.any_cons, List.any_cons, anyT_rep r]
theorem mapT_rep {d : D} {v : V} (h : Rep K F d v) : ∀ {kvs : List (List Key × D)} {ws : List (List Key × V)} {k : List Key}, RepT K F kvs ws → RepT K F (kvs.map fun kv => if kv.1 = k then (kv.1, d) else kv) (ws.map fun kv => if kv.1 = k then (kv.1, v) else kv)
  | _, _, _, .nil => .nil
  | _, _, k, @RepT.cons _ _ q _ _ _ _ h1 r => by
    rw [List.map_cons, List.map_cons]
    by_cases e : q = k
    · simp only [e, if_true]
      exact .cons h (mapT_rep h r)
    · simp only [e, if_false]
      exact .cons h1 (mapT_rep h r)
theorem appT_rep : ∀ {kvs kvs2 : List (List Key × D)} {ws ws2 : List (List Key × V)}, RepT K F kvs ws → RepT K F kvs2 ws2 → RepT K F (kvs ++ kvs2) (ws ++ ws2)
  | _, _, _, _, .nil, h => h
  | _, _, _, _, .cons h r, q => .cons h (appT_rep r q)
theorem putT_rep {kvs : List (List Key × D)} {ws : List (List Key × V)} {k : List Key} {d : D} {v : V} (r : RepT K F kvs ws) (h : Rep K F d v) : RepT K F (putA kvs k d) (putK ws k v) := by
  unfold putA putK
  rw [anyT_rep r]
  split
  · exact mapT_rep h r
  · exact appT_rep r (.cons h .nil)
theorem key_rep {d : D} {v : V} {k : Key} (h : Rep K F d v) (e : keyD d = some k) : v = kV k := by
  cases d <;> first | (cases e; done) | skip
  · cases h; cases e; rfl
  · cases h; cases e; rfl
theorem keyDs_rep : ∀ {ds : List D} {vs : List V} {ks : List Key}, Reps K F ds vs → keyDs ds = some ks → vs = ks.map kV
  | _, _, _, .nil, h => by cases h; rfl
  | d :: ds, _, _, .cons h r, e => by
    simp only [keyDs, Option.bind_eq_some_iff, Option.map_eq_some_iff] at e
    obtain ⟨k, h1, l, h2, rfl⟩ := e
    rw [List.map_cons, ← keyDs_rep r h2, key_rep h h1]
theorem prs_rep : ∀ {ds : List D} {vs : List V} {ws : List (Key × D)}, Reps K F ds vs → prsD ds = some ws →
    ∃ (ps : List Addr) (kvs : List (Key × V)), vs = ps.map V.ref ∧ Paired (fun p kv => SqT K F p [kV kv.1, kv.2]) ps kvs ∧ RepK K F ws kvs ∧ kvs.length = ds.length
  | _, _, _, .nil, h => by cases h; exact ⟨[], [], rfl, .nil, .nil, rfl⟩
  | d :: ds, _, _, .cons h r, e => by
    unfold prsD at e
    split at e
    · rename_i heq; cases heq
    · rename_i k v ds' heq
      injection heq with e1 e2
      subst e1 e2
      simp only [Option.bind_eq_some_iff, Option.map_eq_some_iff] at e
      obtain ⟨q, h1, l, h2, rfl⟩ := e
      obtain ⟨ps, kvs, rfl, pr, rk, ln⟩ := prs_rep r h2
      cases h with
      | tup ht rr =>
        cases rr with
        | cons r1 rr =>
          cases rr with
          | cons r2 rr =>
            cases rr
            obtain rfl := key_rep r1 h1
            exact ⟨_ :: ps, (q, _) :: kvs, rfl, .cons ht pr, .cons r2 rk, by simp [ln]⟩
    · cases e
def rUpd : V → List V → Hp → VK → Prop := fun x xs H Q => ∃ (a b : Addr) (kvs more : List (Key × V)), x = .ref a ∧ xs = [.ref b] ∧ H a = some (.dK kvs) ∧ H b = some (.dK more) ∧ a ≠ b ∧ kvs.length + more.length ≤ sizeLine ∧ Q .non (upd H a (.dK (mergeK kvs more)))
theorem mt_update : MtR X "dict.update" rUpd := by
  intro pins s σ H x xs v us Q I rx rxs q
  obtain ⟨a, b, kvs, more, rfl, rfl, ha, hb, ne, hz, q⟩ := q
  cases rx
  obtain ⟨u, rfl, ru⟩ := rxs.one
  cases ru
  obtain ⟨z, hd, vs, rel, dd⟩ := dk_of I.hok ha
  obtain ⟨z2, hd2, vs2, rel2, dd2⟩ := dk_of I.hok hb
  refine call_meetsIn PySem.F.slot_dict_update dd.typeIs PySem.F.entry_dict_update (PySem.F.args_dict_update_2 _ _) (meets_dict_update (mixKind X.prog X.w) a b ne hd2) ⟨vs, vs2, dd, dd2, by rw [← rel.length, ← rel2.length]; exact hz, fun h' dd' _ hs => ?_⟩
  have he : ∃ q, h'.get? a = some q := let ⟨q, _, _, hq, _⟩ := dd'; ⟨q, hq⟩
  exact ⟨.non, _, d_write (t' := s.toks) I (by rw [ha]; exact True.intro) hs he (dk_new (Nat.le_trans (length_mergeK more kvs) hz) hd (KV.merge rel2 rel) dd'), rfl, q⟩
theorem updD_ok {d d' : D × Bool} {e : D} (h : updD d e = .ok d') : ∃ kvs ds ws, d = (.dK kvs, true) ∧ e = .lst ds ∧ prsD ds = some ws ∧ kvs.length + ds.length ≤ lenLine ∧ d' = (.dK (mrgA kvs (mrgA [] ws)), true) := by
  obtain ⟨dd, fr⟩ := d
  cases dd <;> first | (cases h; done) | skip
  cases fr <;> first | (cases h; done) | skip
  cases e <;> first | (cases h; done) | skip
  rename_i kvs ds
  simp only [updD] at h
  cases hw : prsD ds with
  | none => rw [hw] at h; cases h
  | some ws =>
    rw [hw] at h
    have h : R.ite (decide (kvs.length + ds.length ≤ lenLine)) (R.ok (D.dK (mrgA kvs (mrgA [] ws)), true)) = R.ok d' := h
    cases hz : decide (kvs.length + ds.length ≤ lenLine) with
    | false => rw [hz] at h; cases h
    | true => rw [hz] at h; cases h; exact ⟨kvs, ds, ws, rfl, rfl, hw, of_decide_eq_true hz, rfl⟩
theorem dctAt_ok {α : Type} {w : Opd × EnvD} {k : Nat → R α} {Q : α → Prop} (h : (dctAt w k).wp Q) : ∃ j kvs, w.1 = .slot j ∧ w.2[j]? = some (some (.dK kvs, true)) ∧ (k j).wp Q := by
  obtain ⟨o, ρ⟩ := w
  cases o with
  | val d fr => exact h.elim
  | slot j =>
    simp only [dctAt] at h
    split at h
    · rename_i xs e
      exact ⟨j, xs, rfl, getD?_some e, h⟩
    · exact h.elim
theorem m_updd (C : Ctx) {i : Nat} {ee : E} {o : Expr} {apos pos' qp p2 : Pos} (hc : X.calm = true) (hg : Gl X "dict") (hm : X.mg "dict" = none) (ho : PE X o (tO X.K (ev C (.var i)))) (ha : PE X a (tO X.K (ev C ee))) (hb : attributeBase o "update" X.env (eval o X.env) = eval o X.env) (hl : (apos.endLine == pos.line) = true)
    (he : starEach [a] X.env = (false, eval a X.env) :: starEach [] X.env) : PS X (.Expr (.Call (.Attribute o "update" apos) [.Call (.Name "dict" p2) [a] [] qp] [] pos) pos') (tSt X.K P (run C P (.updd i ee))) := by
  have inner := pe_callTy (p := p2) (pos := qp) (call_dictP hc) hg hm (by decide +kernel) (pa_cons ha pa_nil he) (by decide) (by decide) he (by rfl)
  refine PS.imp (ps_expr (pe_bm PySem.F.plainAttrs_dict PySem.F.slot_dict_update PySem.F.type_dict_update mt_update ho (pa_cons inner pa_nil (by rfl)) hb (by rfl) hl (by rfl) (by rfl)) rfl) fun E σ H ⟨F, ρ, sm, er, q⟩ => ?_
  simp only [run] at q
  rw [R.wp_bind] at q
  refine ⟨F, ρ, sm, er, R.wp_mono q fun w q F1 H1 v se ⟨hv, nv⟩ => ?_⟩
  obtain ⟨j, kvs0, ew, hj, q⟩ := dctAt_ok q
  rw [ew] at hv
  obtain ⟨hσ, _⟩ := hv
  obtain ⟨p0, e1, ws0, hp0, _, _⟩ := se.st.er.own j _ hj
  rw [hσ] at e1; cases e1
  refine ⟨.inr (.inr (.inl ⟨rfl, .inl ⟨_, hp0⟩⟩)), ?_⟩
  rw [R.wp_bind] at q
  refine ⟨F1, w.2, se.st.fh, se.st.er, R.wp_mono q fun o q F2 H2 u se2 ⟨hu, nu⟩ => ?_⟩
  have sx := se.trans se2
  rw [R.wp_bind] at q
  obtain ⟨x, h2, q⟩ := R.wp_eq q
  rw [R.wp_bind] at q
  obtain ⟨d, hd, q⟩ := R.wp_of.mp q
  have hd := getD?_some hd
  rw [R.wp_bind] at q
  obtain ⟨d', hd', q⟩ := R.wp_eq q
  obtain ⟨kvs, ds, ws, rfl, rfl, hp, hz, rfl⟩ := updD_ok hd'
  obtain ⟨l, vs, rfl, hl2, r⟩ := (hu.rd sx.st.er h2).lst sx.st.fh
  obtain ⟨ps, ms, rfl, pr, rk, ln⟩ := prs_rep r hp
  obtain ⟨pa, e1, w0, hp1, r0, nF⟩ := sx.st.er.own j _ hd
  rw [hσ] at e1; cases e1
  refine ⟨l, ps, ms, rfl, SqL.of hl2, Paired.mapP pr fun _ _ z => sqT_mono sx.st.fh z, fun p hp2 => ?_⟩
  have g := grw_any (o := .dK (mergeK [] ms)) sx.st.fh hp2
  have s3 := stp_grw sx.st g
  have ne : p0 ≠ p := fun z => not_none hp1 (z ▸ hp2)
  have hp3 : upd H2 p (.dK (mergeK [] ms)) p0 = some (.dK w0) := by rw [upd_ne ne]; exact hp1
  refine ⟨p0, p, w0, mergeK [] ms, rfl, rfl, hp3, upd_same, ne, ?_, ?_⟩
  · have h1 := length_mergeK ms []
    have h3 := repK_len r0
    rw [List.length_nil, Nat.zero_add] at h1
    have hz : kvs.length + ds.length ≤ sizeLine := hz
    omega
  · exact q F2 _ σ ⟨upd_box s3 hd hσ ⟨_, upd_same, mrg_rep (mrg_rep rk .nil) r0, nF⟩, fun _ _ => rfl⟩
/-! ### r = x if c else y if d else z if e else None; if r is not None: r[k] = v -/
theorem putTD_ok {d d' : D × Bool} {k : List D} {v : D} (h : putTD d k v = .ok d') : ∃ kvs ks, d = (.dT kvs, true) ∧ keyDs k = some ks ∧ kvs.length < lenLine ∧ d' = (.dT (putA kvs ks v), true) := by
  obtain ⟨dd, fr⟩ := d
  cases dd <;> first | (cases h; done) | skip
  cases fr <;> first | (cases h; done) | skip
  rename_i kvs
  simp only [putTD] at h
  cases hw : keyDs k with
  | none => rw [hw] at h; cases h
  | some ks =>
    rw [hw] at h
    have h : R.ite (decide (kvs.length < lenLine)) (R.ok (D.dT (putA kvs ks v), true)) = R.ok d' := h
    cases hz : decide (kvs.length < lenLine) with
    | false => rw [hz] at h; cases h
    | true => rw [hz] at h; cases h; exact ⟨kvs, ks, rfl, rfl, of_decide_eq_true hz, rfl⟩
/-- the second statement, r standing for x's dict -/
theorem pick_put (C : Ctx) {x r : Nat} {ek ev_ : E} {sr : S} {E : Ends} (hp : P.getD r false = false) (hr : r < ρ.length) (ss : SS X.K P F0 H0 ρ0 σ F H ρ σ)
    (q : (pickAt C x r ek ev_ ρ).wp fun f => (match f with | .nx ρ => run C P sr ρ | .rt x ρ => R.ok (Fl.rt x ρ)).wp (FlP X.K P F0 H0 ρ0 σ E)) :
    ∃ u, σ[x]? = some (some u) ∧ tIfS (tTest (tOp (fun x y H Q => y = .non ∧ Q (.bl (!decide (x = .non))) H) (tVar r) (tC .non))) (tSeq (sDPut (tVar r) (tTup (tLs X.K (evL C ek))) (tF X.K fun ρ => (ev C ev_ ρ).bind fun o => frz o.2 o.1)) tNext) tNext { E with nx := tSt X.K P (run C P sr) E } (σ.set r (some u)) H := by
  unfold pickAt at q
  obtain ⟨ne, q1⟩ := R.wp_ite.mp q
  clear q
  have ne : x ≠ r := of_decide_eq_true ne
  rw [R.wp_bind] at q1
  obtain ⟨⟨wd, wf⟩, hw, q2⟩ := R.wp_of.mp q1
  clear q1
  have hw := getD?_some hw
  obtain ⟨hf, q⟩ := R.wp_ite.mp q2
  clear q2
  have hf : wf = true := hf
  subst hf
  obtain ⟨p, hσ, ow⟩ := ss.st.er.own x _ hw
  refine ⟨.ref p, hσ, .ref p, ?_, rfl, true, rfl, ?_⟩
  · exact List.getElem?_set_self (by rw [← ss.st.er.len]; exact hr)
  have rp : (σ.set r (some (V.ref p)))[r]? = some (some (V.ref p)) := List.getElem?_set_self (by rw [← ss.st.er.len]; exact hr)
  have xp : (σ.set r (some (V.ref p)))[x]? = some (some (V.ref p)) := by rw [getset_ne (Ne.symm ne)]; exact hσ
  have s1 := hide (r := r) (u := some (V.ref p)) ss.st
  rw [R.wp_bind] at q
  show tF X.K (fun ρ => (ev C ev_ ρ).bind fun o => frz o.2 o.1) (σ.set r (some (V.ref p))) H _
  refine ⟨F, ρ.set r none, s1.fh, s1.er, ?_⟩
  rw [R.wp_bind]
  refine R.wp_mono q fun o q => ?_
  rw [R.wp_bind] at q
  refine R.wp_mono q fun vd q F1 H1 v se rv => ?_
  refine ⟨.ref p, rp, ?_⟩
  rw [R.wp_bind] at q
  refine ⟨F1, vd.2, se.st.fh, se.st.er, R.wp_mono q fun kd q F2 H2 ks se2 rk => ?_⟩
  obtain ⟨hz, q⟩ := R.wp_ite.mp q
  have hz : kd.1.length ≤ sizeLine := of_decide_eq_true hz
  rw [R.wp_bind] at q
  obtain ⟨d, hd, q⟩ := R.wp_of.mp q
  have hd := getD?_some hd
  rw [R.wp_bind] at q
  obtain ⟨d', hd', q⟩ := R.wp_eq q
  obtain ⟨kvs, kl, rfl, hk, hl, rfl⟩ := putTD_ok hd'
  obtain rfl := keyDs_rep rk hk
  refine ⟨by rw [← rk.length]; exact hz, fun b hb => ?_⟩
  have s2 := s1.trans (se.trans se2).st
  have g := grw_any (o := .tup (kl.map kV)) s2.fh hb
  have s3 := stp_grw s2 g
  obtain ⟨p', e1, w0, hp1, r0, nF⟩ := s2.er.own x _ hd
  rw [xp] at e1; cases e1
  have neb : p ≠ b := fun z => not_none hp1 (z ▸ hb)
  have hp3 : upd H2 b (.tup (kl.map kV)) p = some (.dT w0) := by rw [upd_ne neb]; exact hp1
  have ln : w0.length < sizeLine := by rw [← repT_len r0]; exact hl
  have s4 := upd_box (d' := .dT (putA kvs kl vd.1)) s3 hd xp (ob := .dT (putK w0 kl v)) ⟨_, upd_same, putT_rep r0 (rv.mono se2.st.ff), nF⟩
  have s5 : SS X.K P F0 H0 ρ0 σ F2 _ _ _ := SS.off (vs := [r]) s4 (Off.set (by simp)) fun m hm => by rw [List.mem_singleton.mp hm]; exact hp
  exact ⟨p, _, rfl, DPut.t hp3 upd_same ln, F2, _, s5.st.fh, s5.st.er, wp_from s5 q⟩
theorem m_pick (C : Ctx) {r x y z : Nat} {ec ed ee ek ev_ : E} {sr : S} {rn xn yn zn : Str} {cx dx ex : Expr} {ks : List Expr} {vx : Expr} {pr px py pz pc pd pe p1 rp2 pq rp3 kp ps p4 p5 : Pos} {nk nk2 tk : Nat} {np np2 : Pos} {rest : List Stmt}
    (hN : X.N.Nodup) (hu : X.A.units + 1 < cLine)
    (hr : X.N[r]? = some rn) (hrl : Loc X.env.scope rn) (hrv : Vis X.env.scope rn) (hrf : X.fn rn = true) (hrd : (rn == ("__debug__" : Str)) = false) (hrc : (rn == ("__classdict__" : Str)) = false)
    (hx : X.N[x]? = some xn) (hxv : Vis X.env.scope xn) (hxd : (xn == ("__debug__" : Str)) = false) (hxc : (xn == ("__classdict__" : Str)) = false)
    (hy : X.N[y]? = some yn) (hyv : Vis X.env.scope yn) (hyd : (yn == ("__debug__" : Str)) = false) (hyc : (yn == ("__classdict__" : Str)) = false)
    (hz : X.N[z]? = some zn) (hzv : Vis X.env.scope zn) (hzd : (zn == ("__debug__" : Str)) = false) (hzc : (zn == ("__classdict__" : Str)) = false)
    (hc : PT X cx (tB' X.K fun ρ => tstO (ev C ec ρ))) (hd : PT X dx (tB' X.K fun ρ => tstO (ev C ed ρ))) (he : PT X ex (tB' X.K fun ρ => tstO (ev C ee ρ)))
    (hk : PA X ks (tLs X.K (evL C ek))) (hv : PE X vx (tO X.K (ev C ev_))) (hsv : swapsWith vx (some (.Subscript (.Name rn rp3) (.Tuple ks tk kp) ps)) p4.line X.env = pure false)
    (h2 : PSs X rest (tSt X.K P (run C P sr))) :
    PSs X (.Assign [.Name rn pr] (.IfExp cx (.Name xn px) (.IfExp dx (.Name yn py) (.IfExp ex (.Name zn pz) (.Constant .none nk np) pe) pd) pc) p1 ::
      .If (.Compare (.Name rn rp2) [.IsNot] [.Constant .none nk2 np2] pq) [.Assign [.Subscript (.Name rn rp3) (.Tuple ks tk kp) ps] vx p4] [] p5 :: rest) (tSt X.K P (run C P (.cons (.pick r x y z ec ed ee ek ev_) sr))) := by
  refine PSs.imp (pss_cons (ps_set hN hr hrl (pe_ifExp hc (pe_var hx hxv hxd hxc) (pe_ifExp hd (pe_var hy hyv hyd hyc) (pe_ifExp he (pe_var hz hzv hzd hzc) pe_non))) rfl (.inl hrf))
    (pss_cons (ps_if (pt_cmpR op_notN (pe_var hr hrv hrd hrc) pe_non (by rfl)) (pss_cons (ps_dput hu (pe_var hr hrv hrd hrc) (pe_tup hk) (pe_frz hv) hsv) pss_nil) pss_nil) h2)) fun E σ H ⟨F, ρ, sm, er, q⟩ => ?_
  simp only [run] at q
  rw [R.wp_bind] at q
  obtain ⟨ok, q⟩ := R.wp_ite.mp q
  rw [Bool.and_eq_true] at ok
  obtain ⟨ok1, ok2⟩ := ok
  have hp : P.getD r false = false := by unfold canSet at ok1; simpa using ok1
  have hl : r < ρ.length := of_decide_eq_true ok2
  rw [R.wp_bind] at q
  refine ⟨F, ρ, sm, er, R.wp_mono q fun t1 q F1 H1 se => ?_⟩
  have l1 : r < t1.2.length := by rw [se.st.er.len, ← er.len]; exact hl
  obtain ⟨b1, ρ1⟩ := t1
  cases b1 with
  | true =>
    obtain ⟨u, h1, h2⟩ := pick_put (X := X) C hp l1 se.ss q
    exact ⟨u, h1, h2⟩
  | false =>
    have q := R.wp_bind.mp q
    refine ⟨F1, ρ1, se.st.fh, se.st.er, R.wp_mono q fun t2 q F2 H2 se2 => ?_⟩
    have sx := se.trans se2
    have l2 : r < t2.2.length := by rw [sx.st.er.len, ← er.len]; exact hl
    obtain ⟨b2, ρ2⟩ := t2
    cases b2 with
    | true =>
      obtain ⟨u, h1, h2⟩ := pick_put (X := X) C hp l2 sx.ss q
      exact ⟨u, h1, h2⟩
    | false =>
      have q := R.wp_bind.mp q
      refine ⟨F2, ρ2, sx.st.fh, sx.st.er, R.wp_mono q fun t3 q F3 H3 se3 => ?_⟩
      have sy := sx.trans se3
      have l3 : r < t3.2.length := by rw [sy.st.er.len, ← er.len]; exact hl
      obtain ⟨b3, ρ3⟩ := t3
      cases b3 with
      | true =>
        obtain ⟨u, h1, h2⟩ := pick_put (X := X) C hp l3 sy.ss q
        exact ⟨u, h1, h2⟩
      | false =>
        have s5 : SS X.K P F H ρ σ F3 H3 _ _ := SS.off (vs := [r]) (hide (r := r) (u := some V.non) sy.st) (Off.set (by simp)) fun m hm => by rw [List.mem_singleton.mp hm]; exact hp
        have rn' : (σ.set r (some V.non))[r]? = some (some V.non) := List.getElem?_set_self (by rw [← sy.st.er.len]; exact l3)
        exact ⟨.non, rn', rfl, false, rfl, F3, _, s5.st.fh, s5.st.er, wp_from s5 q⟩
end VI

set_option Elab.async false
set_option linter.all false
set_option autoImplicit false
set_option maxRecDepth 100000
set_option maxHeartbeats 4000000
/-! VNew3: d.get, dict(pairs), tuple(list) that is plain, sorted(list), sorted(d.items()), l.pop(i), two keywords. -/
namespace VI
open PySem PySem.Spec PyProof.Rows L2
variable {X : Cx} {K : PySem.W.Frag} {F H F1 H1 F2 H2 F' H' : Hp} {ρ ρ1 ρ2 ρ' : EnvD} {σ : L2.St} {pos : Pos} {a b c : Expr} {es : List Expr}

/-! ### d.get(k, x) -/
theorem key_rd {d : D} {v : V} {k : Key} (h : RdV K F H d v) (e : keyD d = some k) : v = kV k := by
  cases d <;> first | (cases e; done) | skip
  · cases e; exact h.int
  · cases e; exact h.str
theorem val_rep {x : D} {w : V} (hx : Rep K F x w) : ∀ {kvs : List (Key × D)} {ws : List (Key × V)} {k : Key}, RepK K F kvs ws → Rep K F ((valA kvs k).getD x) ((valV ws k).getD w)
  | _, _, _, .nil => hx
  | _, _, k, @RepK.cons _ _ q d v _ _ h r => by
    unfold valA valV
    rw [List.find?_cons, List.find?_cons]
    by_cases e : q = k
    · simp only [e, decide_true]
      exact h
    · simp only [e, decide_false]
      exact val_rep hx r
theorem getDD_ok {d k x z : D} (h : getDD d k x = .ok z) : ∃ kvs q, d = .dK kvs ∧ keyD k = some q ∧ z = (valA kvs q).getD x := by
  cases d <;> first | (cases h; done) | skip
  rename_i kvs
  simp only [getDD] at h
  cases e : keyD k with
  | none => rw [e] at h; cases h
  | some q => rw [e] at h; cases h; exact ⟨kvs, q, rfl, rfl, rfl⟩
theorem isDk_ok {d : D} (h : isDk d = true) : ∃ kvs, d = .dK kvs := by
  cases d <;> first | (cases h; done) | exact ⟨_, rfl⟩
theorem s_dget (C : Ctx) {ed ek ex : E} {apos : Pos} (hu : X.A.units + 1 < cLine) (ho : PE X a (tO X.K (ev C ed))) (he : PE X b (tO X.K (ev C ek))) (hf : PE X c (tO X.K (ev C ex))) (m : M2 X a "get" apos b c pos) :
    PE X (.Call (.Attribute a "get" apos) [b, c] [] pos) (tO X.K (ev C (.dget ed ek ex))) := by
  refine PE.imp (pe_dget2 hu ho he (pe_frz hf) m) fun σ H Q ⟨F, ρ, s, er, q⟩ => ?_
  simp only [ev] at q
  rw [R.wp_bind] at q
  refine ⟨F, ρ, s, er, R.wp_mono q fun x q1 F1 H1 v se ⟨hv, nv⟩ => ?_⟩
  clear q
  rw [R.wp_bind] at q1
  obtain ⟨d0, h0, q2⟩ := R.wp_eq q1
  clear q1
  obtain ⟨hk, q3⟩ := R.wp_ite.mp q2
  clear q2
  obtain ⟨kvs0, rfl⟩ := isDk_ok hk
  obtain ⟨p, ws0, rfl, hp, _⟩ := (hv.rd se.st.er h0).dK se.st.fh
  refine ⟨p, rfl, .inl ⟨ws0, .inl hp⟩, ?_⟩
  rw [R.wp_bind] at q3
  refine ⟨F1, x.2, se.st.fh, se.st.er, R.wp_mono q3 fun y q4 F2 H2 u se2 ⟨hu, nu⟩ => ?_⟩
  clear q3
  rw [R.wp_bind] at q4
  have sx := se.trans se2
  refine ⟨F2, y.2, sx.st.fh, sx.st.er, ?_⟩
  show ((ev C ex y.2).bind fun o => frz o.2 o.1).wp _
  rw [R.wp_bind]
  refine R.wp_mono q4 fun o q5 => ?_
  clear q4
  rw [R.wp_bind] at q5
  refine R.wp_mono q5 fun xv q6 F3 H3 w se3 rw_ => ?_
  clear q5
  rw [R.wp_bind] at q6
  have sy := sx.trans se3
  obtain ⟨dd, h1, q7⟩ := R.wp_eq q6
  clear q6
  rw [R.wp_bind] at q7
  obtain ⟨kd, h2, q8⟩ := R.wp_eq q7
  clear q7
  rw [R.wp_bind] at q8
  obtain ⟨z, h3, q9⟩ := R.wp_eq q8
  obtain ⟨kvs, k, rfl, hkd, rfl⟩ := getDD_ok h3
  obtain ⟨p', ws, e1, hp', r⟩ := (((hv.step se2).step se3).rd sy.st.er h1).dK sy.st.fh
  cases e1
  obtain rfl := key_rd ((hu.step se3).rd sy.st.er h2) hkd
  exact ⟨_, DGet.k hp', q9 F3 H3 _ sy ⟨val_rep rw_ r, trivial⟩⟩

/-! ### tuple(l), plain -/
def rPtp (K : PySem.W.Frag) : List V → Hp → VK → Prop := fun xs H Q => ∃ p vs, xs = [.ref p] ∧ SqL K H p vs ∧ ∀ q ob, H q = none → ob.dict = none → Q (.ref q) (upd H q (.frz ob (.tup vs)))
theorem call_ptp : CallR X (.type "tuple") (rPtp X.K) := by
  intro pins s σ H xs us Q I r h
  obtain ⟨p, vs, rfl, hs, q⟩ := h
  rw [Vals.ref1 r]
  obtain ⟨its, rv, pl, hz⟩ := I.list hs
  refine call_tuple_list pl.isList (fun h' hk => ?_) (by rw [List.size_toArray, ← rv.length]; exact hz)
  have I1 : Inv X pins σ H { s with heap := h' } := I.kept (t' := s.toks) hk
  have I2 : Inv X pins σ (upd H h'.objs.size (.frz { cls := .type "tuple", data := .seq its.toArray } (.tup vs))) { s with heap := h'.push { cls := .type "tuple", data := .seq its.toArray } } :=
    I1.laid (t' := s.toks) (fun b o e => Heap.get?_push_of_some _ e) (Nat.le_refl _) (show ObjOk X.prog X.w _ _ _ (.frz { cls := .type "tuple", data := .seq its.toArray } (.tup vs)) from ⟨Heap.get?_push_size _ rfl, hz, its, rv, IsTup.new _ _⟩)
  exact ⟨.ref h'.objs.size, _, I2, rfl, q _ _ (I1.hok.fresh (Nat.le_refl _)) rfl⟩
theorem grw_ptp {p : Addr} {xs : List D} {vs : List V} {ob : Obj} (s : Same F H) (n : H p = none) (hd : ob.dict = none) (r : Reps K F xs vs) : Grw F H (upd F p (.frz ob (.tup vs))) (upd H p (.frz ob (.tup vs))) ∧ VN K H (upd F p (.frz ob (.tup vs))) (upd H p (.frz ob (.tup vs))) (.ptp xs) false (.ref p) := by
  have nF : F p = none := s.free n
  refine ⟨⟨same_upd nF, fun b o q => ?_, same_upd n, fun b o h1 _ h2 => ?_⟩, Rep.ptp upd_same hd (r.mono (same_upd nF))⟩
  · by_cases e : b = p
    · subst e; rw [upd_same] at q ⊢; exact q
    · rw [upd_ne e] at q ⊢; exact s b o q
  · rw [upd_ne (ne_of_none h1 n)]; exact h2
theorem s_tupS (C : Ctx) {ea : E} {p : Pos} (hg : Gl X "tuple") (hm : X.mg "tuple" = none) (ha : PE X a (tO X.K (ev C ea))) (he : starEach [a] X.env = (false, eval a X.env) :: starEach [] X.env) :
    PE X (.Call (.Name "tuple" p) [a] [] pos) (tO X.K (ev C (.tupS ea))) := by
  refine PE.imp (pe_callTy call_ptp hg hm (by decide +kernel) (pa_cons ha pa_nil he) (by decide) (by decide) he (by rfl)) fun σ H Q ⟨F, ρ, s, er, q⟩ => ?_
  simp only [ev] at q
  rw [R.wp_bind] at q
  refine ⟨F, ρ, s, er, R.wp_mono q fun x q F1 H1 v se ⟨hv, nv⟩ => ?_⟩
  rw [R.wp_bind] at q
  obtain ⟨d, h1, q⟩ := R.wp_eq q
  rw [R.wp_bind] at q
  have hd := hv.rd se.st.er h1
  cases d <;> first | exact q.elim | skip
  obtain ⟨l, vs, rfl, ht, r⟩ := hd.lst se.st.fh
  refine ⟨l, vs, rfl, SqL.of ht, fun p ob hp hn => ?_⟩
  obtain ⟨g, vn⟩ := grw_ptp (K := X.K) se.st.fh hp hn r
  exact to_op (fr := false) se g vn q

/-! ### (a, b), plain -/
def tTupF (t : TA) : TE := fun σ H Q => t σ H fun xs H1 => xs.length ≤ sizeLine ∧ ∀ p ob, H1 p = none → ob.dict = none → Q (.ref p) (upd H1 p (.frz ob (.tup xs)))
theorem pe_tupF {es : List Expr} {x1} {pos : Pos} {t : TA} (h : PA X es t) : PE X (.Tuple es x1 pos) (tTupF t) := by
  refine ⟨fun pins s σ H Q I hq => ?_⟩
  refine wpAny_Tuple_spliced (thn (h.run pos pins s σ H _ I hq) fun us s1 ⟨xs, H1, I1, r, z, q⟩ => ⟨by rw [← r.length]; exact z, ?_⟩)
  have hf : H1 s1.heap.objs.size = none := I1.hok.fresh (Nat.le_refl _)
  refine ⟨.ref s1.heap.objs.size, upd H1 s1.heap.objs.size (.frz { cls := .type "tuple", data := .seq us.toArray } (.tup xs)), I1.laid (t' := s1.toks) (fun b u e => Heap.get?_push_of_some _ e) (Nat.le_refl _) ?_, rfl, q _ _ hf rfl⟩
  exact ⟨Heap.get?_push_size _ rfl, z, us, r, ⟨_, Heap.get?_push_size _ rfl, rfl, _, rfl⟩⟩
theorem s_tupP (C : Ctx) {es : List Expr} {el : E} {k : Nat} {pos : Pos} (h : PA X es (tLs X.K (evL C el))) : PE X (.Tuple es k pos) (tO X.K (ev C (.tupP el))) := by
  refine PE.imp (pe_tupF h) fun σ H Q ⟨F, ρ, s, er, q⟩ => ?_
  simp only [ev] at q
  rw [R.wp_bind] at q
  refine ⟨F, ρ, s, er, R.wp_mono q fun x q F1 H1 vs se r => ?_⟩
  obtain ⟨hz, q⟩ := R.wp_ite.mp q
  refine ⟨by rw [← r.length]; exact of_decide_eq_true hz, fun p ob hp hn => ?_⟩
  obtain ⟨g, vn⟩ := grw_ptp (K := X.K) se.st.fh hp hn r
  exact to_op (fr := false) se g vn q

/-! ### dict(pairs) -/
theorem pairs_of2 {pins : List (Addr × Obj)} {s : Shared} (I : Inv X pins σ H s) : ∀ {ps : List Addr} {kvs : List (Key × V)}, Paired (fun p kv => SqT X.K H p [kV kv.1, kv.2]) ps kvs →
    ∃ (prs : List (Key × Value)) (vps : List (Value × Value)), KV kvs prs ∧ prs.length = ps.length ∧ vps.length = ps.length ∧ ∀ (j : Nat) (u y : Value), vps[j]? = some (u, y) → ∃ (b : Addr) (k : Key), ps[j]? = some b ∧ prs[j]? = some (k, y) ∧ IsTup s.heap b #[u, y] ∧ (mixKind X.prog X.w).is k u = true
  | _, _, .nil => ⟨[], [], .nil, rfl, rfl, fun j u y e => by simp at e⟩
  | _, _, .cons (a := p) (b := kv) h t => by
    obtain ⟨prs, vps, r, hl, hl2, hp⟩ := pairs_of2 I t
    obtain ⟨its, rv, ht, _⟩ := I.tuple h
    obtain ⟨u, y, ei, ru, ry⟩ := vals2 rv
    subst ei
    refine ⟨(kv.1, y) :: prs, (u, y) :: vps, .cons ⟨rfl, ry⟩ r, by rw [List.length_cons, List.length_cons, hl], by rw [List.length_cons, List.length_cons, hl2], fun j u' y' e => ?_⟩
    cases j with
    | zero =>
      have e' : (u, y) = (u', y') := Option.some.inj e
      injection e' with e1 e2
      subst e1 e2
      exact ⟨p, kv.1, rfl, rfl, ht, kV_is (P := X.prog) (w := X.w) ru⟩
    | succ j =>
      obtain ⟨b, k, e1, e2, e3, e4⟩ := hp j u' y' (by simpa using e)
      exact ⟨b, k, by simpa using e1, by simpa using e2, e3, e4⟩
def rDictS (X : Cx) : List V → Hp → VK → Prop := fun xs H Q => ∃ (a : Addr) (ps : List Addr) (kvs : List (Key × V)), xs = [.ref a] ∧ (SqL X.K H a (ps.map V.ref) ∨ ∃ ob, H a = some (.frz ob (.tup (ps.map V.ref))) ∧ ob.dict = none) ∧
  Paired (fun p kv => SqT X.K H p [kV kv.1, kv.2]) ps kvs ∧ ∀ p, H p = none → Q (.ref p) (upd H p (.dK (mergeK [] kvs)))
theorem call_dictS (hc : X.calm = true) : CallR X (.type "dict") (rDictS X) := by
  intro pins s σ H xs us Q I r h
  obtain ⟨a, ps, kvs, rfl, hl | ⟨ob, ho, hn⟩, hp, q⟩ := h
  · exact call_dictP hc pins s σ H _ us Q I r ⟨a, ps, kvs, rfl, hl, hp, q⟩
  · rw [Vals.ref1 r]
    obtain ⟨prs, vps, rel, hl1, hl2, hpr⟩ := pairs_of2 I hp
    obtain ⟨g1, hz, its, rv, o2, g2, hcls, n, hdat⟩ := (show ObjOk X.prog X.w H s.heap a (.frz ob (.tup (ps.map V.ref))) from I.hok a _ ho)
    rw [g1] at g2
    cases g2
    have ei := refs_at rv
    subst ei
    rw [List.length_map] at hz
    have P := PySem.PairArg.tuple (prog := X.prog) (w := X.w) a (ps.map Value.ref).toArray (fun j => (ps[j]?).getD 0) vps
    have ok : PySem.PlainSeq "tuple" s.heap a (ps.map Value.ref).toArray ∧ PySem.PairItems s.heap (ps.map Value.ref).toArray (fun j => (ps[j]?).getD 0) vps := by
      refine ⟨⟨ob, n, g1, hcls, hn, hdat⟩, by simp [hl2], fun j k v e => ?_⟩
      obtain ⟨b, kk, e1, e2, e3, e4⟩ := hpr j k v e
      refine ⟨by simp [e1], ?_⟩
      show PySem.PairAt s.heap ((ps[j]?).getD 0) k v
      rw [e1]
      exact .inl e3
    refine PySem.call_dict_pairs (knd := mixKind X.prog X.w) (kvs := prs) P (I.ok.hd hc) ok ⟨by rw [hl1, hl2], fun i key v e => ?_⟩ (by rw [hl2]; exact hz) fun h' tk hd' kk => ?_
    · obtain ⟨b, k, e1, e2, e3, e4⟩ := hpr i key v e
      exact ⟨k, e2, e4⟩
    · have hm : (s.heap.objs.size == sysModules) = false := beq_eq_false_iff_ne.mpr (Nat.ne_of_gt I.big)
      have hlen : (mergeK [] kvs).length ≤ sizeLine := by
        refine Nat.le_trans (length_mergeK kvs []) ?_
        rw [List.length_nil, Nat.zero_add, rel.length, hl1]
        exact hz
      exact ⟨.ref s.heap.objs.size, upd H s.heap.objs.size (.dK (mergeK [] kvs)), I.laid (t' := tk) (fun b o e => kk b o (by simp) e) (Nat.le_refl _) (show ObjOk X.prog X.w _ _ _ (.dK (mergeK [] kvs)) from ⟨hlen, hm, merged [] prs, KV.merge rel .nil, hd'⟩), rfl, q _ (I.hok.fresh (Nat.le_refl _))⟩
theorem dictD_ok {d z : D} (h : dictD d = .ok z) : ∃ ds ws, (d = .lst ds ∨ d = .ptp ds) ∧ prsD ds = some ws ∧ z = .dK (mrgA [] ws) := by
  have go : ∀ {ds : List D}, ((R.of (prsD ds)).bind fun ws => R.ite (decide (ds.length ≤ lenLine)) (.ok (D.dK (mrgA [] ws)))) = .ok z → ∃ ws, prsD ds = some ws ∧ z = .dK (mrgA [] ws) := by
    intro ds h
    cases e : prsD ds with
    | none => rw [e] at h; cases h
    | some ws =>
      rw [e] at h
      have h : R.ite (decide (ds.length ≤ lenLine)) (R.ok (D.dK (mrgA [] ws))) = .ok z := h
      cases e2 : decide (ds.length ≤ lenLine) with
      | false => rw [e2] at h; cases h
      | true => rw [e2] at h; cases h; exact ⟨ws, rfl, rfl⟩
  cases d <;> first | (cases h; done) | skip
  · obtain ⟨ws, h1, h2⟩ := go h
    exact ⟨_, ws, .inl rfl, h1, h2⟩
  · obtain ⟨ws, h1, h2⟩ := go h
    exact ⟨_, ws, .inr rfl, h1, h2⟩
theorem s_dictP (C : Ctx) {ea : E} {p : Pos} (hc : X.calm = true) (hg : Gl X "dict") (hm : X.mg "dict" = none) (ha : PE X a (tO X.K (ev C ea))) (he : starEach [a] X.env = (false, eval a X.env) :: starEach [] X.env) :
    PE X (.Call (.Name "dict" p) [a] [] pos) (tO X.K (ev C (.dictP ea))) := by
  refine PE.imp (pe_callTy (call_dictS hc) hg hm (by decide +kernel) (pa_cons ha pa_nil he) (by decide) (by decide) he (by rfl)) fun σ H Q ⟨F, ρ, s, er, q⟩ => ?_
  simp only [ev] at q
  rw [R.wp_bind] at q
  refine ⟨F, ρ, s, er, R.wp_mono q fun x q F1 H1 v se ⟨hv, nv⟩ => ?_⟩
  rw [R.wp_bind] at q
  obtain ⟨d, h1, q⟩ := R.wp_eq q
  rw [R.wp_bind] at q
  obtain ⟨z, h2, q⟩ := R.wp_eq q
  have hd := hv.rd se.st.er h1
  obtain ⟨ds, ws, hds, h3, rfl⟩ := dictD_ok h2
  obtain ⟨l, vs, rfl, hl, r⟩ : ∃ l vs, v = .ref l ∧ (SqL X.K H1 l vs ∨ ∃ ob, H1 l = some (.frz ob (.tup vs)) ∧ ob.dict = none) ∧ Reps X.K F1 ds vs := by
    rcases hds with rfl | rfl
    · obtain ⟨l, vs, e, ht, r⟩ := hd.lst se.st.fh
      exact ⟨l, vs, e, .inl (SqL.of ht), r⟩
    · obtain ⟨l, vs, ob, e, ht, hn, r⟩ := hd.ptp se.st.fh
      exact ⟨l, vs, e, .inr ⟨ob, ht, hn⟩, r⟩
  obtain ⟨ps, ms, rfl, pr, rk, _⟩ := prs_rep r h3
  refine ⟨l, ps, ms, rfl, hl, Paired.mapP pr fun _ _ z => sqT_mono se.st.fh z, fun p hp => ?_⟩
  obtain ⟨g, vn⟩ := grw_dK (K := X.K) se.st.fh hp (mrg_rep rk .nil)
  exact to_op (fr := true) se g vn q

/-! ### l.pop(i) -/
theorem reps_erase : ∀ {ds : List D} {vs : List V} (i : Nat), Reps K F ds vs → Reps K F (ds.eraseIdx i) (vs.eraseIdx i)
  | _, _, _, .nil => .nil
  | _, _, 0, .cons _ r => r
  | _, _, i + 1, .cons h r => .cons h (reps_erase i r)
theorem popD_ok {d : D × Bool} {k : D} {z : D × (D × Bool)} (h : popD d k = .ok z) : ∃ xs i y, d = (.lst xs, true) ∧ k = .int i ∧ 0 ≤ i ∧ i < xs.length ∧ xs.length ≤ lenLine ∧ xs[i.toNat]? = some y ∧ z = (y, (.lst (xs.eraseIdx i.toNat), true)) := by
  obtain ⟨dd, fr⟩ := d
  cases dd <;> first | (cases h; done) | skip
  cases fr <;> first | (cases h; done) | skip
  cases k <;> first | (cases h; done) | skip
  rename_i xs i
  simp only [popD] at h
  cases e : (decide (0 ≤ i) && decide (i < (xs.length : Int)) && decide (xs.length ≤ lenLine)) with
  | false => rw [e] at h; cases h
  | true =>
    rw [e] at h
    simp only [Bool.and_eq_true, decide_eq_true_eq] at e
    have h : ((R.of xs[i.toNat]?).bind fun y => R.ok (y, (D.lst (xs.eraseIdx i.toNat), true))) = .ok z := h
    cases e2 : xs[i.toNat]? with
    | none => rw [e2] at h; cases h
    | some y => rw [e2] at h; cases h; exact ⟨xs, i, y, rfl, rfl, e.1.1, e.1.2, e.2, e2, rfl⟩
theorem s_popA (C : Ctx) {i : Nat} {ee : E} {apos : Pos} (ho : PE X a (tO X.K (ev C (.var i)))) (ha : PE X b (tO X.K (ev C ee))) (hb : attributeBase a "pop" X.env (eval a X.env) = eval a X.env) (hl : (apos.endLine == pos.line) = true)
    (he : starEach [b] X.env = (false, eval b X.env) :: starEach [] X.env) : PE X (.Call (.Attribute a "pop" apos) [b] [] pos) (tO X.K (ev C (.popA i ee))) := by
  refine PE.imp (pe_bm PySem.F.plainAttrs_list PySem.F.slot_list_pop PySem.F.type_list_pop mt_popAt ho (pa_cons ha pa_nil he) hb (by rw [he]; rfl) hl he rfl) fun σ H Q ⟨F, ρ, sm, er, q⟩ => ?_
  simp only [ev] at q
  obtain ⟨j, xs0, ej, hj, q⟩ := lstAt_ok q
  cases ej
  refine ⟨F, ρ, sm, er, ?_⟩
  have hv : ev C (.var i) ρ = .ok (.slot i, ρ) := by
    simp only [ev]
    unfold getD?
    rw [hj]
    rfl
  rw [hv]
  intro F1 H1 v se ⟨⟨hσ, _⟩, _⟩
  obtain ⟨p0, e1, vs0, hp0, _, _⟩ := se.st.er.own i _ hj
  rw [hσ] at e1; cases e1
  refine ⟨.inl ⟨rfl, vs0, SqL.of hp0⟩, ?_⟩
  rw [R.wp_bind] at q
  refine ⟨F1, ρ, se.st.fh, se.st.er, R.wp_mono q fun o q F2 H2 u se2 ⟨hu, nu⟩ => ?_⟩
  have sx := se.trans se2
  rw [R.wp_bind] at q
  obtain ⟨kd, h1, q⟩ := R.wp_eq q
  rw [R.wp_bind] at q
  obtain ⟨d, hd, q⟩ := R.wp_of.mp q
  have hd := getD?_some hd
  rw [R.wp_bind] at q
  obtain ⟨r, h2, q⟩ := R.wp_eq q
  obtain ⟨xs, n, y, rfl, rfl, n0, n1, hz, hy, rfl⟩ := popD_ok h2
  obtain rfl := (hu.rd sx.st.er h1).int
  obtain ⟨pa, e1, vs, hp, rs, nF⟩ := sx.st.er.own i _ hd
  rw [hσ] at e1; cases e1
  obtain ⟨w, hw, rw_⟩ := rs.get hy
  have hz : xs.length ≤ 16777216 := hz
  have ln := rs.length
  refine ⟨p0, vs, n, n.toNat, w, rfl, rfl, hp, by omega, by omega, ?_, hw, ?_⟩
  · unfold seqIndex?
    first | (simp only []; split <;> first | omega | rfl) | (simp; omega)
  · have st := upd_box (d' := .lst (xs.eraseIdx n.toNat)) sx.st hd hσ (ob := .lst (vs.eraseIdx n.toNat)) ⟨_, upd_same, reps_erase _ rs, nF⟩
    exact q F2 _ w ⟨st, sx.dm.trans dom_set⟩ ⟨rw_, trivial⟩

/-! ### two keywords -/
theorem s_callk2 (C : Ctx) {f : Nat} {sw : Bool} {ea eb : E} {id k1 k2 : Str} {p kp kp2 : Pos} {k : Nat} {ps : List Str} (G : FnG X k id ps (C.fn f)) (hps : ps = if sw = true then [k2, k1] else [k1, k2]) (hr : Room k X.A) (hg : Gl X id) (hd : (id == ("__debug__" : Str)) = false)
    (ha : PE X a (tO X.K (ev C ea))) (hb : PE X b (tO X.K (ev C eb))) : PE X (.Call (.Name id p) [] [⟨some k1, a, kp⟩, ⟨some k2, b, kp2⟩] pos) (tO X.K (ev C (.callk2 f sw ea eb))) := by
  obtain ⟨f', fd, ok, hj, hm, hk, _, _, h2⟩ := G.ex
  refine ⟨fun pins s σ H Q I ⟨F, ρ, sm, er, q⟩ => ?_⟩
  simp only [ev] at q
  rw [R.wp_bind] at q
  refine wpAny_Call_Name_kw (ld_glob I hg hm ?_ hd)
  refine PySem.W.callWith_KW0 (h₀ := X.base) I.ok.mod.kin hk (by rfl) ?_ (by rfl)
  refine thn ((pk_cons (nm := some k1) (kpos := kp) ha (pk_cons (nm := some k2) (kpos := kp2) hb pk_nil)).run pos pins s σ H (fun zs H2 => ∃ v u, zs = [v, u] ∧ spOf X.K (C.fn f) (if sw = true then [u, v] else [v, u]) H2 Q E0) I ⟨F, ρ, sm, er, R.wp_mono q fun x q F1 H1 v se ⟨hv, nv⟩ => ?_⟩) fun ws s2 ⟨zs, H2, I2, rz, v, u, e1, q2⟩ => ⟨I2.kIn, ?_⟩
  · rw [R.wp_bind] at q
    refine ⟨F1, x.2, se.st.fh, se.st.er, R.wp_mono q fun y q F2 H2 u se2 ⟨hu, nu⟩ => ⟨v, u, rfl, ?_⟩⟩
    have sx := se.trans se2
    have hv2 := hv.step se2
    have nu' := nu.back se.st.gr
    have t1 : Tds [x.1, y.1] [v, u] := Tds.join hv (.cons nu .nil) (.cons (fun a _ ⟨i, d, e, _⟩ => by simp at e) .nil)
    cases sw with
    | false => exact call_sp sx (.cons hv2 (.cons hu .nil)) (.cons nv (.cons nu' .nil)) t1 q
    | true =>
      have t2 : Tds [y.1, x.1] [u, v] := by
        cases t1 with
        | cons t1 _ =>
          refine .cons (fun a hy ⟨i, d, e1, e2⟩ => ?_) (.cons (fun a _ ⟨i, d, e, _⟩ => by simp at e) .nil)
          cases i with
          | succ i => simp at e1
          | zero =>
            simp only [List.getElem?_cons_zero, Option.some.injEq] at e1 e2
            obtain ⟨d', e3, e4⟩ := hy
            exact t1 a ⟨d, e1, e2⟩ ⟨0, d', by simp [e3], by simp [e4]⟩
      exact call_sp sx (.cons hu (.cons hv2 .nil)) (.cons nu' (.cons nv .nil)) t2 q
  · subst e1
    obtain ⟨w1, w2, rfl, r1, r2⟩ := vals2 rz
    cases sw with
    | true =>
      have hps : ps = [k2, k1] := hps
      exact q_run2 (us := [w2, w1]) (xs := [u, v]) ok hr hj (by rw [hps]; exact (h2 _ _ hps s2 w2 w1).2) pass0 I2 (.cons r2 (.cons r1 .nil)) q2
    | false =>
      have hps : ps = [k1, k2] := hps
      exact q_run2 (us := [w1, w2]) (xs := [v, u]) ok hr hj (by rw [hps]; exact (h2 _ _ hps s2 w1 w2).1) pass0 I2 (.cons r1 (.cons r2 .nil)) q2
end VI

set_option Elab.async false
set_option linter.all false
set_option autoImplicit false
set_option maxRecDepth 100000
set_option maxHeartbeats 4000000
/-! VNew4: sorted(list), sorted(d.items()). -/
namespace VS
open PySem PySem.Spec PyProof.Rows L2
theorem ins_same {O : KeyOrd} {x : O.α} : ∀ {m : List O.α}, Asc m → x ∈ m → (ins O x m).length = m.length
  | [], _, h => (nomatch h)
  | y :: r, a, h => by
    obtain ⟨h1, h2⟩ := List.pairwise_cons.mp a
    unfold ins
    rcases List.mem_cons.mp h with rfl | hx
    · rw [O.irrefl]
      simp
    · have c1 := h1 x hx
      cases c : O.blt x y with
      | true =>
        have := O.trans _ _ _ c c1
        rw [O.irrefl] at this
        cases this
      | false =>
        rw [c1]
        simp only [Bool.false_eq_true, if_false, if_true, List.length_cons]
        rw [ins_same h2 hx]
theorem ins_le {O : KeyOrd} (x : O.α) : ∀ m : List O.α, (ins O x m).length ≤ m.length + 1
  | [] => Nat.le_refl _
  | y :: m => by
    unfold ins
    split
    · exact Nat.le_refl _
    · split
      · exact Nat.succ_le_succ (ins_le x m)
      · exact Nat.le_succ _
theorem nodup_of_len {O : KeyOrd} : ∀ {l : List O.α}, (srt O l).length = l.length → l.Nodup
  | [], _ => List.nodup_nil
  | x :: l, h => by
    have h : (ins O x (srt O l)).length = l.length + 1 := h
    have h1 := ins_le (O := O) x (srt O l)
    have h2 := srt_len (O := O) (l := l)
    refine List.nodup_cons.mpr ⟨fun hx => ?_, nodup_of_len (by omega)⟩
    have := ins_same (O := O) (srt_asc (l := l)) (srt_mem.mpr hx)
    omega
end VS
namespace VI
open PySem PySem.Spec PyProof.Rows L2
variable {X : Cx} {K : PySem.W.Frag} {F H F1 H1 F2 H2 F' H' : Hp} {ρ ρ1 ρ2 ρ' : EnvD} {σ : L2.St} {pos : Pos} {a b c : Expr} {es : List Expr}
abbrev PKx := List Key → Option (List (Int ⊕ List Nat))
theorem onceB_ok {O : KeyOrd} {ks : List O.α} (h : onceB O ks = true) : ks.length < 64 ∧ ks.Nodup := by
  unfold onceB at h
  simp only [Bool.and_eq_true, decide_eq_true_eq] at h
  exact ⟨h.1, VS.nodup_of_len h.2⟩
/-- sorted pairs, each once -/
theorem srtX_eq {pkx : PKx} {M : List VS.Ent} {kk : List (List Key)} {ks : List (List (Int ⊕ List Nat))} (asc : VS.AscX pkx M) (pm : (M.map (·.2)).Perm kk) (e : kk.map pkx = ks.map some) (nd : ks.Nodup) :
    M.map (fun p => pkx p.2) = (VS.srt KP ks).map some := by
  have pm2 : (M.map fun p => pkx p.2).Perm (ks.map some) := by
    have := pm.map pkx
    rw [e, List.map_map] at this
    exact this
  obtain ⟨qs, p2, e2⟩ := perm_lift (some : List (Int ⊕ List Nat) → Option (List (Int ⊕ List Nat))) pm2 ks rfl
  rw [← e2]
  congr 1
  refine VS.srt_of (O := KP) ?_ (p2.nodup_iff.mpr nd) fun z => p2.mem_iff
  clear pm2 p2 pm e nd
  induction M generalizing qs with
  | nil => cases qs with
    | nil => exact List.Pairwise.nil
    | cons _ _ => cases e2
  | cons p M ih =>
    cases qs with
    | nil => cases e2
    | cons z qs =>
      rw [List.map_cons, List.map_cons] at e2
      injection e2 with h1 h2
      obtain ⟨a1, a2⟩ := List.pairwise_cons.mp asc
      refine List.pairwise_cons.mpr ⟨fun y hy => ?_, ih a2 qs h2⟩
      have : some y ∈ M.map fun p => pkx p.2 := by rw [← h2]; exact List.mem_map.mpr ⟨y, hy, rfl⟩
      obtain ⟨q, hq2, e3⟩ := List.mem_map.mp this
      exact a1 q hq2 z y h1.symm e3
def kBk : Int ⊕ List Nat → Key
  | .inl i => .inl i
  | .inr x => .inr ⟨x.toArray⟩
theorem kBk_rep : ∀ k : List (Int ⊕ List Nat), Reps K F (k.map itD) ((k.map kBk).map kV)
  | [] => .nil
  | .inl i :: k => .cons (.int i) (kBk_rep k)
  | .inr x :: k => .cons (.str _) (kBk_rep k)
abbrev BkX (pkx : PKx) : Prop := ∀ ks k, pkx ks = some k → ks = k.map kBk
theorem bk1 : BkX VS.pk := fun ks k h => by
  obtain ⟨x, i, rfl, rfl⟩ := pk_some h
  show _ = [Sum.inr (⟨x.cps.toList.toArray⟩ : Str), Sum.inl i]
  rw [str_back]
theorem bk2 : BkX VS.pk2 := fun ks k h => by
  unfold VS.pk2 at h
  split at h
  · cases h
    rename_i x y
    show _ = [Sum.inr (⟨x.cps.toList.toArray⟩ : Str), Sum.inr (⟨y.cps.toList.toArray⟩ : Str)]
    rw [str_back, str_back]
  · cases h
theorem pairX_back {pkx : PKx} (bk : BkX pkx) {p : VS.Ent} {k : List (Int ⊕ List Nat)} (h : SqT K F p.1 (p.2.map kV)) (e : pkx p.2 = some k) : Rep K F (prD k) (.ref p.1) := by
  rw [bk _ _ e] at h
  exact .tup h (kBk_rep k)
theorem pairsX_back {pkx : PKx} (bk : BkX pkx) {M : List VS.Ent} {qs : List (List (Int ⊕ List Nat))} (t : ∀ p ∈ M, SqT K F p.1 (p.2.map kV)) (e : M.map (fun p => pkx p.2) = qs.map some) : Reps K F (qs.map prD) (M.map fun p => V.ref p.1) := by
  induction M generalizing qs with
  | nil => cases qs with
    | nil => exact .nil
    | cons _ _ => cases e
  | cons p M ih => cases qs with
    | nil => cases e
    | cons z qs =>
      rw [List.map_cons, List.map_cons] at e
      injection e with h1 h2
      exact .cons (pairX_back bk (t p List.mem_cons_self) h1) (ih (fun q hq => t q (List.mem_cons_of_mem _ hq)) h2)
theorem pairS_rep {d : D} {v : V} {k : List (Int ⊕ List Nat)} (h : Rep K F d v) (e : pairS d = some k) : ∃ (a : Addr) (ks : List Key), v = .ref a ∧ SqT K F a (ks.map kV) ∧ VS.pk2 ks = some k := by
  unfold pairS at e
  split at e
  · rename_i x y
    cases e
    cases h with
    | tup ht r =>
      cases r with
      | cons r1 r2 =>
        cases r2 with
        | cons r2 r3 =>
          cases r3
          cases r1
          cases r2
          exact ⟨_, [.inr x, .inr y], rfl, ht, rfl⟩
  · cases e
theorem pairsS_rep : ∀ {ds : List D} {vs : List V} {ks : List (List (Int ⊕ List Nat))}, Reps K F ds vs → pairsS ds = some ks →
    ∃ es : List VS.Ent, vs = es.map (fun p => V.ref p.1) ∧ (∀ p ∈ es, SqT K F p.1 (p.2.map kV)) ∧ es.map (fun p => VS.pk2 p.2) = ks.map some
  | _, _, _, .nil, h => by cases h; exact ⟨[], rfl, fun p hp => (nomatch hp), rfl⟩
  | d :: ds, _, _, .cons h r, e => by
    simp only [pairsS, Option.bind_eq_some_iff, Option.map_eq_some_iff] at e
    obtain ⟨k, h1, l, h2, rfl⟩ := e
    obtain ⟨es, e1, e2, e3⟩ := pairsS_rep r h2
    obtain ⟨a, ks, rfl, h4, h5⟩ := pairS_rep h h1
    refine ⟨(a, ks) :: es, by rw [e1]; rfl, fun p hp => ?_, by rw [List.map_cons, List.map_cons, e3, h5]⟩
    cases hp with
    | head => exact h4
    | tail _ hp => exact e2 p hp
/-- the pairs' case -/
theorem srtl_pairs {F0 H0 : Hp} {ρ0 : EnvD} {Q : VK} {l : Addr} {pkx : PKx} {shx : Nat → Bool} (ktk : VS.Ktk X.prog X.w pkx shx) (bk : BkX pkx) {es : List VS.Ent} {ks : List (List (Int ⊕ List Nat))} (se : SE X.K σ F0 H0 ρ0 F H ρ) (hl : SqL X.K H l (es.map fun p => V.ref p.1))
    (ht : ∀ p ∈ es, SqT X.K F p.1 (p.2.map kV)) (e : es.map (fun p => pkx p.2) = ks.map some) (o : onceB KP ks = true)
    (q : ∀ F' H' v, SE X.K σ F0 H0 ρ0 F' H' ρ → (OR X.K F' H' ρ σ (.val (.lst ((VS.srt KP ks).map prD)) true) v ∧ Nw H0 (.val (.lst ((VS.srt KP ks).map prD)) true) v) → Q v H') : VS.rSortL X [.ref l] H Q := by
  obtain ⟨few, nd⟩ := onceB_ok o
  have ln : es.length = ks.length := by have := congrArg List.length e; rwa [List.length_map, List.length_map] at this
  refine ⟨l, rfl, .inr ⟨es, pkx, shx, ktk, hl, by omega, fun p hp => ⟨sqT_mono se.st.fh (ht p hp), ?_⟩, fun p M hp pm asc => ?_⟩⟩
  · have : pkx p.2 ∈ es.map fun p => pkx p.2 := List.mem_map.mpr ⟨p, hp, rfl⟩
    rw [e] at this
    obtain ⟨k, _, ek⟩ := List.mem_map.mp this
    exact ⟨k, ek.symm⟩
  · have e2 := srtX_eq (kk := es.map (·.2)) asc (pm.map _) (by rw [List.map_map]; exact e) nd
    exact new_list se (Grw.refl se.st.fh) hp (pairsX_back bk (fun y hy => ht y (pm.mem_iff.mp hy)) e2) q
theorem s_srtl (C : Ctx) {ea : E} {p : Pos} (hc : X.calm = true) (hg : Gl X "sorted") (hm : X.mg "sorted" = none) (ha : PE X a (tO X.K (ev C ea))) (he : starEach [a] X.env = (false, eval a X.env) :: starEach [] X.env) :
    PE X (.Call (.Name "sorted" p) [a] [] pos) (tO X.K (ev C (.srtl ea))) := by
  refine PE.imp (pe_callB (VS.call_sortedL hc) hg hm (by decide +kernel) (pa_cons ha pa_nil he) (by decide) (by decide) he (by rfl)) fun σ H Q ⟨F, ρ, s, er, q⟩ => ?_
  simp only [ev] at q
  rw [R.wp_bind] at q
  refine ⟨F, ρ, s, er, R.wp_mono q fun x q F1 H1 v se ⟨hv, nv⟩ => ?_⟩
  rw [R.wp_bind] at q
  obtain ⟨d, h1, q⟩ := R.wp_eq q
  rw [R.wp_bind] at q
  have hd := hv.rd se.st.er h1
  cases d <;> first | exact q.elim | skip
  rename_i ds
  obtain ⟨l, vs, rfl, ht, r⟩ := hd.lst se.st.fh
  simp only [srtlD] at q
  cases hk : strsD ds with
  | some ks =>
    rw [hk] at q
    obtain ⟨o, q⟩ := R.wp_ite.mp q
    obtain ⟨few, nd⟩ := onceB_ok o
    obtain ⟨ss, rfl, rfl⟩ := strs_rep r hk
    rw [List.length_map] at few
    have nds : ss.Nodup := List.Pairwise.of_map _ (fun _ _ ne e => ne (by rw [e])) nd
    refine ⟨l, rfl, .inl ⟨ss, SqL.of ht, few, fun p ys hp pm asc => ?_⟩⟩
    have e := srtS_eq (ss := ss) asc (pm.nodup_iff.mpr nds) fun k => pm.mem_iff
    refine new_list se (Grw.refl se.st.fh) hp (strs_back ys) ?_
    rw [e]
    exact q
  | none =>
    rw [hk] at q
    cases hk2 : pairsD ds with
    | some ks =>
      rw [hk2] at q
      obtain ⟨o, q⟩ := R.wp_ite.mp q
      obtain ⟨es, rfl, ht2, e3⟩ := pairs_rep r hk2
      exact srtl_pairs VS.ktk1 bk1 se (SqL.of ht) ht2 e3 o q
    | none =>
      rw [hk2] at q
      rw [R.wp_bind] at q
      obtain ⟨ks, h2, q⟩ := R.wp_of.mp q
      obtain ⟨o, q⟩ := R.wp_ite.mp q
      obtain ⟨es, rfl, ht2, e3⟩ := pairsS_rep r h2
      exact srtl_pairs VS.ktk2 bk2 se (SqL.of ht) ht2 e3 o q

/-! ### sorted(d.items()) -/
theorem items_rep : ∀ {kvs : List (Key × D)} {ws : List (Key × V)} {ks : List (List (Int ⊕ List Nat))}, RepK K F kvs ws → itemsS kvs = some ks →
    ∃ prs : List (Str × Str), ws = prs.map (fun e => (Sum.inr e.1, V.str e.2)) ∧ (prs.map VS.prK).map VS.pk2 = ks.map some
  | _, _, _, .nil, h => by cases h; exact ⟨[], rfl, rfl⟩
  | (k, d) :: kvs, _, _, .cons h r, e => by
    simp only [itemsS, Option.bind_eq_some_iff, Option.map_eq_some_iff] at e
    obtain ⟨k', h1, l, h2, rfl⟩ := e
    obtain ⟨prs, rfl, e2⟩ := items_rep r h2
    unfold itemS at h1
    split at h1
    · rename_i x y e0
      cases h1
      obtain ⟨rfl, rfl⟩ := Prod.mk.inj e0
      cases h
      exact ⟨(x, y) :: prs, rfl, by rw [List.map_cons, List.map_cons, e2]; rfl⟩
    · cases h1
theorem s_srti (C : Ctx) {ea : E} {p : Pos} {apos qp : Pos} (hc : X.calm = true) (hg : Gl X "sorted") (hm : X.mg "sorted" = none) (ho : PE X a (tO X.K (ev C ea))) (hb : attributeBase a "items" X.env (eval a X.env) = eval a X.env) (hl : (apos.endLine == qp.line) = true) :
    PE X (.Call (.Name "sorted" p) [.Call (.Attribute a "items" apos) [] [] qp] [] pos) (tO X.K (ev C (.srti ea))) := by
  have inner := pe_bm0 (cpos := qp) PySem.F.plainAttrs_dict PySem.F.slot_dict_items PySem.F.type_dict_items VS.mt_itemsK ho hb hl
  refine PE.imp (pe_callB (VS.call_sortedI hc) hg hm (by decide +kernel) (pa_cons inner pa_nil (by rfl)) (by decide) (by decide) (by rfl) (by rfl)) fun σ H Q ⟨F, ρ, s, er, q⟩ => ?_
  simp only [ev] at q
  rw [R.wp_bind] at q
  refine ⟨F, ρ, s, er, R.wp_mono q fun x q F1 H1 v se ⟨hv, nv⟩ => ?_⟩
  rw [R.wp_bind] at q
  obtain ⟨d, h1, q⟩ := R.wp_eq q
  rw [R.wp_bind] at q
  have hd := hv.rd se.st.er h1
  cases d <;> first | exact q.elim | skip
  obtain ⟨m, ws, rfl, ht, r⟩ := hd.dK se.st.fh
  simp only [srtiD] at q
  rw [R.wp_bind] at q
  obtain ⟨ks, h2, q⟩ := R.wp_of.mp q
  obtain ⟨o, q⟩ := R.wp_ite.mp q
  obtain ⟨few, nd⟩ := onceB_ok o
  obtain ⟨prs, rfl, e3⟩ := items_rep r h2
  have ln : prs.length < 64 := by
    have := congrArg List.length e3
    rw [List.length_map, List.length_map, List.length_map] at this
    omega
  refine ⟨.inr (.inr (.inl ⟨rfl, .inl ⟨_, ht⟩⟩)), m, _, rfl, rfl, ht, fun vp hvp => ?_⟩
  have n0 : m ≠ vp := fun z => not_none ht (z ▸ hvp)
  refine ⟨vp, m, prs, rfl, upd_same, by rw [upd_ne n0]; exact ht, ln, fun H' l M keep tup pm asc hl hH => ?_⟩
  have e := srtX_eq (kk := prs.map VS.prK) asc pm e3 nd
  have back : ∀ {b : Addr} {u : HO}, upd H1 vp u b = none → b ≠ vp ∧ H1 b = none := fun {b u} h => by
    by_cases e : b = vp
    · subst e; rw [upd_same] at h; cases h
    · rw [upd_ne e] at h; exact ⟨e, h⟩
  have hl1 := (back hl).2
  have hh : Same H1 H' := fun b o q => keep b o (by rw [upd_ne (ne_of_none q hvp)]; exact q)
  have inM : ∀ {b}, b ∈ M.map (·.1) → H1 b = none ∧ ∃ vs, H' b = some (.tup vs) := fun {b} hb => by
    obtain ⟨y, hy, rfl⟩ := List.mem_map.mp hb
    exact ⟨(back (tup y hy).2).2, _, (tup y hy).1⟩
  have lM : l ∉ M.map (·.1) := fun hb => by
    obtain ⟨_, vs, e1⟩ := inM hb
    rw [hH] at e1
    cases e1
  have g : Grw F1 H1 (seen F1 H' (M.map (·.1))) H' := by
    refine ⟨fun b o q => ?_, fun b o q => ?_, hh, fun b o h bx n => ?_⟩
    · unfold seen
      split
      · exact hh b o (se.st.fh b o q)
      · exact q
    · unfold seen at q
      split at q
      · exact q
      · exact hh b o (se.st.fh b o q)
    · unfold seen
      split
      · rename_i hb
        have := (inM hb).1
        rw [h] at this
        cases this
      · exact n
  have vn : VN X.K H1 (seen F1 H' (M.map (·.1))) H' (.lst ((VS.srt KP ks).map prD)) true (.ref l) := by
    refine ⟨l, rfl, ⟨_, hH, pairsX_back bk2 (fun y hy => SqT.of ?_) e, ?_⟩, hl1⟩
    · rw [seen_at (List.mem_map.mpr ⟨y, hy, rfl⟩)]
      exact (tup y hy).1
    · unfold seen
      rw [if_neg lM]
      exact se.st.fh.free hl1
  exact to_op se g vn q
end VI

set_option Elab.async false
set_option linter.all false
set_option autoImplicit false
set_option maxRecDepth 100000
set_option maxHeartbeats 4000000
/-! VMt: the look that compares syntax with the program's text. -/
namespace VI
open PySem PySem.Spec PyProof.Rows L2

def chk {α : Type} (o : Option α) (f : α → Bool) : Bool := match o with | some a => f a | none => false
theorem chk_ok {α : Type} {o : Option α} {f : α → Bool} (h : chk o f = true) : ∃ a, o = some a ∧ f a = true := by
  cases o with
  | none => cases h
  | some a => exact ⟨a, rfl, h⟩

/-! ### forms of the text -/
section
variable {x : Expr}
def asName : Expr → Option Str | .Name id _ => some id | _ => none
theorem asName_ok {id : Str} (h : asName x = some id) : ∃ p, x = .Name id p := by cases x <;> first | (cases h; done) | (cases h; exact ⟨_, rfl⟩)
def asCon : Expr → Option Const | .Constant c _ _ => some c | _ => none
theorem asCon_ok {c : Const} (h : asCon x = some c) : ∃ k p, x = .Constant c k p := by cases x <;> first | (cases h; done) | (cases h; exact ⟨_, _, rfl⟩)
def asUn : Expr → Option (UnaryOp × Expr) | .UnaryOp o e _ => some (o, e) | _ => none
theorem asUn_ok {o : UnaryOp × Expr} (h : asUn x = some o) : ∃ p, x = .UnaryOp o.1 o.2 p := by cases x <;> first | (cases h; done) | (cases h; exact ⟨_, rfl⟩)
def asTup : Expr → Option (List Expr) | .Tuple es _ _ => some es | _ => none
theorem asTup_ok {o : List Expr} (h : asTup x = some o) : ∃ k p, x = .Tuple o k p := by cases x <;> first | (cases h; done) | (cases h; exact ⟨_, _, rfl⟩)
def asLst : Expr → Option (List Expr) | .List es _ => some es | _ => none
theorem asLst_ok {o : List Expr} (h : asLst x = some o) : ∃ p, x = .List o p := by cases x <;> first | (cases h; done) | (cases h; exact ⟨_, rfl⟩)
def isDict0 : Expr → Bool | .Dict [] [] _ => true | _ => false
theorem isDict0_ok (h : isDict0 x = true) : ∃ p, x = .Dict [] [] p := by
  cases x <;> first | (cases h; done) | skip
  rename_i a b p
  cases a <;> cases b <;> first | (cases h; done) | exact ⟨_, rfl⟩
def asBin : Expr → Option (Expr × Operator × Expr) | .BinOp a o b _ => some (a, o, b) | _ => none
theorem asBin_ok {o : Expr × Operator × Expr} (h : asBin x = some o) : ∃ p, x = .BinOp o.1 o.2.1 o.2.2 p := by cases x <;> first | (cases h; done) | (cases h; exact ⟨_, rfl⟩)
def asCmp : Expr → Option (Expr × List CmpOp × List Expr) | .Compare a o b _ => some (a, o, b) | _ => none
theorem asCmp_ok {o : Expr × List CmpOp × List Expr} (h : asCmp x = some o) : ∃ p, x = .Compare o.1 o.2.1 o.2.2 p := by cases x <;> first | (cases h; done) | (cases h; exact ⟨_, rfl⟩)
def asBool : Expr → Option (BoolOp × List Expr) | .BoolOp o es _ => some (o, es) | _ => none
theorem asBool_ok {o : BoolOp × List Expr} (h : asBool x = some o) : ∃ p, x = .BoolOp o.1 o.2 p := by cases x <;> first | (cases h; done) | (cases h; exact ⟨_, rfl⟩)
def asIf : Expr → Option (Expr × Expr × Expr) | .IfExp a b c _ => some (a, b, c) | _ => none
theorem asIf_ok {o : Expr × Expr × Expr} (h : asIf x = some o) : ∃ p, x = .IfExp o.1 o.2.1 o.2.2 p := by cases x <;> first | (cases h; done) | (cases h; exact ⟨_, rfl⟩)
def asSub : Expr → Option (Expr × Expr) | .Subscript a b _ => some (a, b) | _ => none
theorem asSub_ok {o : Expr × Expr} (h : asSub x = some o) : ∃ p, x = .Subscript o.1 o.2 p := by cases x <;> first | (cases h; done) | (cases h; exact ⟨_, rfl⟩)
def asSli : Expr → Option (Option Expr × Option Expr × Option Expr) | .Slice a b c _ => some (a, b, c) | _ => none
theorem asSli_ok {o : Option Expr × Option Expr × Option Expr} (h : asSli x = some o) : ∃ p, x = .Slice o.1 o.2.1 o.2.2 p := by cases x <;> first | (cases h; done) | (cases h; exact ⟨_, rfl⟩)
/-- a call by a name, its arguments and keywords -/
def asCall : Expr → Option (Str × List Expr × List Keyword) | .Call (.Name id _) es ks _ => some (id, es, ks) | _ => none
theorem asCall_ok {o : Str × List Expr × List Keyword} (h : asCall x = some o) : ∃ p p', x = .Call (.Name o.1 p) o.2.1 o.2.2 p' := by
  cases x <;> first | (cases h; done) | skip
  rename_i f es ks p
  cases f <;> first | (cases h; done) | (cases h; exact ⟨_, _, rfl⟩)
/-- a method's call -/
def asMeth : Expr → Option (Expr × Str × List Expr × List Keyword × Pos × Pos) | .Call (.Attribute o m ap) es ks p => some (o, m, es, ks, ap, p) | _ => none
theorem asMeth_ok {o : Expr × Str × List Expr × List Keyword × Pos × Pos} (h : asMeth x = some o) : x = .Call (.Attribute o.1 o.2.1 o.2.2.2.2.1) o.2.2.1 o.2.2.2.1 o.2.2.2.2.2 := by
  cases x <;> first | (cases h; done) | skip
  rename_i f es ks p
  cases f <;> first | (cases h; done) | (cases h; rfl)
def asLc : Expr → Option (Expr × Expr × Expr × List Expr × Scope) | .ListComp e [⟨t, i, ifs, 0⟩] sc _ => some (e, t, i, ifs, sc) | _ => none
theorem asLc_ok {o : Expr × Expr × Expr × List Expr × Scope} (h : asLc x = some o) : ∃ p, x = .ListComp o.1 [⟨o.2.1, o.2.2.1, o.2.2.2.1, 0⟩] o.2.2.2.2 p := by
  unfold asLc at h
  split at h
  · cases h; exact ⟨_, rfl⟩
  · cases h
def notStar : Expr → Bool | .Starred _ _ => false | _ => true
def asStar : Expr → Option Expr | .Starred e _ => some e | _ => none
theorem asStar_ok {o : Expr} (h : asStar x = some o) : ∃ p, x = .Starred o p := by cases x <;> first | (cases h; done) | (cases h; exact ⟨_, rfl⟩)
def isBase : Expr → Bool | .Name _ _ => true | .Subscript _ _ _ => true | _ => false
theorem isBase_ok {a : Expr} {n : Str} {env : Env} (h : isBase a = true) : attributeBase a n env (eval a env) = eval a env := by cases a <;> first | (cases h; done) | rfl
def three3 {α : Type} : List α → Option (α × α × α) | [a, b, c] => some (a, b, c) | _ => none
theorem three3_ok {α : Type} {l : List α} {a : α × α × α} (h : three3 l = some a) : l = [a.1, a.2.1, a.2.2] := by
  unfold three3 at h
  split at h
  · cases h; rfl
  · cases h
def notSet : Expr → Bool | .Set _ _ _ => false | _ => true
def notSli : Expr → Bool | .Slice _ _ _ _ => false | _ => true
def notComp : Expr → Bool | .ListComp .. => false | .SetComp .. => false | .DictComp .. => false | _ => true
def one1 {α : Type} : List α → Option α | [a] => some a | _ => none
theorem one1_ok {α : Type} {l : List α} {a : α} (h : one1 l = some a) : l = [a] := by
  cases l with
  | nil => cases h
  | cons b r => cases r with
    | nil => cases h; rfl
    | cons c r => cases h
def two2 {α : Type} : List α → Option (α × α) | [a, b] => some (a, b) | _ => none
theorem two2_ok {α : Type} {l : List α} {a : α × α} (h : two2 l = some a) : l = [a.1, a.2] := by
  cases l with
  | nil => cases h
  | cons b r => cases r with
    | nil => cases h
    | cons c r => cases r with
      | nil => cases h; rfl
      | cons d r => cases h
def nil0 {α : Type} : List α → Bool | [] => true | _ => false
theorem nil0_ok {α : Type} {l : List α} (h : nil0 l = true) : l = [] := by cases l; rfl; cases h
theorem star_ok {a : Expr} {es : List Expr} {env : Env} (h : notStar a = true) : starEach (a :: es) env = (false, eval a env) :: starEach es env := by cases a <;> first | (cases h; done) | rfl
theorem stars_ok {env : Env} {pos : Pos} : ∀ {es : List Expr}, es.all notStar = true → (backTo pos (starEach es env)).any (·.1) = false
  | [], _ => rfl
  | a :: es, h => by
    rw [List.all_cons, Bool.and_eq_true] at h
    rw [star_ok h.1]
    exact stars_ok h.2
theorem set_ok0 {a : Expr} {env : Env} (h : notSet a = true) : ∀ v, foldedSetIterable a env v = pure v := by intro v; cases a <;> first | (cases h; done) | rfl
theorem sli_ok {a : Expr} (h : notSli a = true) : PlainIx a := by intro o i; cases a <;> first | (cases h; done) | rfl
theorem comp_ok {a : Expr} {t : Option Expr} {l : Nat} {env : Env} (h : notComp a = true) : swapsWith a t l env = pure false := by cases a <;> first | (cases h; done) | rfl
end
/-- names of the scope -/
def visB (sc : Scope) (id : Str) : Bool := decide (sc.names.lookup id = some .local) || decide (sc.names.lookup id = some .cell) || decide (sc.names.lookup id = some .free)
theorem visB_ok {sc : Scope} {id : Str} (h : visB sc id = true) : Vis sc id := by
  unfold visB at h
  simp only [Bool.or_eq_true, decide_eq_true_eq] at h
  rcases h with (h | h) | h
  · exact .inl h
  · exact .inr (.inl h)
  · exact .inr (.inr h)
def locB (sc : Scope) (id : Str) : Bool := decide (sc.names.lookup id = some .local) || decide (sc.names.lookup id = some .cell)
theorem locB_ok {sc : Scope} {id : Str} (h : locB sc id = true) : Loc sc id := by
  unfold locB at h
  simp only [Bool.or_eq_true, decide_eq_true_eq] at h
  exact h
def glB (sc : Scope) (id : Str) : Bool := decide (sc.names.lookup id = some .globalImplicit) && !(id == ("__debug__" : Str))
def bltNames : List Str := ["len", "int", "abs", "max", "min", "sum", "list", "tuple", "all", "repr", "str", "isinstance", "bool", "range", "zip", "enumerate", "sorted", "set", "dict"]

/-! ### the table -/
structure Tb where
  fns : List (Str × List Str)
  gls : List Str
structure Wd (X : Cx) (T : Tb) (N : List Str) (C : Ctx) : Prop where
  n : X.N = N
  calm : X.calm = true
  nd : N.Nodup
  un : X.A.units + 64 < cLine
  un2 : X.A.units + 150 < cLine
  gd : X.A.guards = some []
  fns : ∀ (f : Nat) (id : Str) (ps : List Str), T.fns[f]? = some (id, ps) → ∃ k, Room k X.A ∧ FnG X k id ps (C.fn f)
  gls : ∀ (k : Nat) (id : Str), T.gls[k]? = some id → ∃ (d : D) (v : V) (u : Value), C.G[k]? = some d ∧ X.mg id = some u ∧ RelV v u ∧ ∀ F, Rep X.K F d v
  blt : ∀ id ∈ bltNames, X.mg id = none
theorem Wd.blk {X : Cx} {T : Tb} {N : List Str} {C : Ctx} (w : Wd X T N C) (s : Shared) (H : Hp) (scope : Scope) (cenv : Env) (fp : List Addr) : Wd (X.blk s H scope cenv fp) T N C :=
  ⟨w.n, w.calm, w.nd, w.un, w.un2, w.gd, fun f id ps e => let ⟨k, r, G⟩ := w.fns f id ps e; ⟨k, r, ⟨G.ex⟩⟩, w.gls, w.blt⟩

/-! ### targets -/
/-- fn: may a cell's name be stored to -/
def nmB (N : List Str) (fn : Str → Bool) (sc : Scope) (i : Nat) (x : Expr) : Bool := chk (asName x) fun id => decide (N[i]? = some id) && locB sc id && (fn id || decide (sc.names.lookup id = some .local))
def nmsB (N : List Str) (fn : Str → Bool) (sc : Scope) : List Nat → List Expr → Bool
  | [], [] => true
  | i :: is, x :: xs => nmB N fn sc i x && nmsB N fn sc is xs
  | _, _ => false
def tgB (N : List Str) (fn : Str → Bool) (sc : Scope) : Tg → Expr → Bool
  | .nm i, x => nmB N fn sc i x
  | .tp is, x => chk (asTup x) fun es => nmsB N fn sc is es
section
variable {X : Cx} {N : List Str} {sc : Scope} {fn : Str → Bool}
theorem nm_ok (hn : X.N = N) (nd : N.Nodup) (hs : X.env.scope = sc) (hf : X.fn = fn) {i : Nat} {x : Expr} (h : nmB N fn sc i x = true) : PG X x (gName i) := by
  unfold nmB at h
  obtain ⟨id, e, g⟩ := chk_ok h
  obtain ⟨p, rfl⟩ := asName_ok e
  simp only [Bool.and_eq_true, Bool.or_eq_true, decide_eq_true_eq] at g
  obtain ⟨⟨h1, h2⟩, h3⟩ := g
  subst hn hs hf
  exact pg_name nd h1 (locB_ok h2) h3
theorem nms_ok (hn : X.N = N) (nd : N.Nodup) (hs : X.env.scope = sc) (hf : X.fn = fn) : ∀ {is : List Nat} {xs : List Expr}, nmsB N fn sc is xs = true → PGs X xs (gSl is) ∧ (assignEach xs X.env).length = is.length ∧ (assignEach xs X.env).findIdx? (·.1) = none
  | [], [], _ => ⟨pgs_nil, rfl, rfl⟩
  | [], _ :: _, h => by cases h
  | _ :: _, [], h => by cases h
  | i :: is, x :: xs, h => by
    have h : (nmB N fn sc i x && nmsB N fn sc is xs) = true := h
    rw [Bool.and_eq_true] at h
    obtain ⟨h1, h2⟩ := h
    obtain ⟨g, l, f⟩ := nms_ok hn nd hs hf h2
    have g1 := nm_ok hn nd hs hf h1
    unfold nmB at h1
    obtain ⟨id, e, _⟩ := chk_ok h1
    obtain ⟨p, rfl⟩ := asName_ok e
    have ea : assignEach (.Name id p :: xs) X.env = (false, assign (.Name id p) X.env) :: assignEach xs X.env := rfl
    refine ⟨pgs_cons g1 g (by rw [ea]; rfl), by rw [ea, List.length_cons, List.length_cons, l], ?_⟩
    rw [ea, List.findIdx?_cons]
    simp [f]
theorem tg_okE (hn : X.N = N) (nd : N.Nodup) (hs : X.env.scope = sc) (hf : X.fn = fn) (hc : X.calm = true) {tg : Tg} {x : Expr} (h : tgB N fn sc tg x = true) : PG X x (gT X.K tg) := by
  cases tg with
  | nm i => exact nm_ok hn nd hs hf h
  | tp is =>
    unfold tgB at h
    obtain ⟨es, e, h'⟩ := chk_ok h
    obtain ⟨k, p, rfl⟩ := asTup_ok e
    obtain ⟨g, l, f⟩ := nms_ok hn nd hs hf h'
    exact pg_tup hc g l f
end

/-! ### expressions -/
def isNil : E → Bool | .nil => true | _ => false
theorem isNil_ok {e : E} (h : isNil e = true) : e = .nil := by cases e <;> first | rfl | (cases h; done)
def tOk : E → Bool | .ite _ _ _ => false | _ => true
def ownOf (N : List Str) (vs : List Nat) : List (Str × Nat) := vs.map fun i => ((N[i]?).getD "", i)
theorem ownOf_snd (N : List Str) (vs : List Nat) : (ownOf N vs).map (·.2) = vs := by
  unfold ownOf
  rw [List.map_map]
  exact List.map_id _
def coB (o : CO) (p : CmpOp) (b : Expr) : Bool := decide (p = coOp o) && !behindInMarks p b
mutual
def mtE (T : Tb) (N : List Str) : E → Scope → Expr → Bool
  | .var i, sc, x => chk (asName x) fun id => decide (N[i]? = some id) && visB sc id && !(id == ("__debug__" : Str)) && !(id == ("__classdict__" : Str))
  | .non, _, x => chk (asCon x) fun c => decide (c = .none)
  | .bl b, _, x => chk (asCon x) fun c => decide (c = .bool b)
  | .int i, _, x => chk (asCon x) fun c => decide (c = .int i)
  | .neg i, _, x => chk (asUn x) fun o => decide (o.1 = .USub) && chk (asCon o.2) fun c => decide (c = .int i)
  | .str s, _, x => chk (asCon x) fun c => decide (c = .str (Str.ofString s))
  | .glb k, sc, x => chk (asName x) fun id => decide (T.gls[k]? = some id) && glB sc id
  | .tup l, sc, x => chk (asTup x) fun es => mtL T N l sc es
  | .tupP l, sc, x => chk (asTup x) fun es => mtL T N l sc es
  | .lst l, sc, x => chk (asLst x) fun es => mtL T N l sc es
  | .dnew, _, x => isDict0 x
  | .dnewT, _, x => isDict0 x
  | .srts a, sc, x => chk (asCall x) fun y => decide (y.1 = "sorted") && glB sc "sorted" && nil0 y.2.2 && chk (one1 y.2.1) fun z => chk (asCall z) fun u => decide (u.1 = "set") && glB sc "set" && nil0 u.2.2 && chk (one1 u.2.1) fun v => notStar v && mtE T N a sc v
  | .srtd a, sc, x => chk (asCall x) fun y => decide (y.1 = "sorted") && glB sc "sorted" && nil0 y.2.2 && chk (one1 y.2.1) fun z => notStar z && mtE T N a sc z
  | .isup a, sc, x => chk (asMeth x) fun y => decide (y.2.1 = "isupper") && nil0 y.2.2.1 && nil0 y.2.2.2.1 && mtE T N a sc y.1 && decide (y.2.2.2.2.1.endLine = y.2.2.2.2.2.line) && isBase y.1
  | .dget d k f, sc, x => chk (asMeth x) fun y => decide (y.2.1 = "get") && nil0 y.2.2.2.1 && (chk (two2 y.2.2.1) fun z => notStar z.1 && notStar z.2 && mtE T N k sc z.1 && mtE T N f sc z.2) && mtE T N d sc y.1 && decide (y.2.2.2.2.1.endLine = y.2.2.2.2.2.line) && isBase y.1
  | .tupS a, sc, x => chk (asCall x) fun y => decide (y.1 = "tuple") && glB sc "tuple" && nil0 y.2.2 && chk (one1 y.2.1) fun z => notStar z && mtE T N a sc z
  | .dictP a, sc, x => chk (asCall x) fun y => decide (y.1 = "dict") && glB sc "dict" && nil0 y.2.2 && chk (one1 y.2.1) fun z => notStar z && mtE T N a sc z
  | .srtl a, sc, x => chk (asCall x) fun y => decide (y.1 = "sorted") && glB sc "sorted" && nil0 y.2.2 && chk (one1 y.2.1) fun z => notStar z && mtE T N a sc z
  | .srti a, sc, x => chk (asCall x) fun y => decide (y.1 = "sorted") && glB sc "sorted" && nil0 y.2.2 && chk (one1 y.2.1) fun z => chk (asMeth z) fun u => decide (u.2.1 = "items") && nil0 u.2.2.1 && nil0 u.2.2.2.1 && mtE T N a sc u.1 && decide (u.2.2.2.2.1.endLine = u.2.2.2.2.2.line) && isBase u.1
  | .popA i e, sc, x => chk (asMeth x) fun y => decide (y.2.1 = "pop") && nil0 y.2.2.2.1 && (chk (one1 y.2.2.1) fun z => notStar z && mtE T N e sc z) && (chk (asName y.1) fun id => decide (N[i]? = some id) && visB sc id && !(id == ("__debug__" : Str)) && !(id == ("__classdict__" : Str))) && decide (y.2.2.2.2.1.endLine = y.2.2.2.2.2.line)
  | .callk2 f sw a b, sc, x => chk (asCall x) fun y => chk T.fns[f]? fun z => chk (two2 y.2.2) fun kw => decide (z.1 = y.1) && glB sc y.1 && nil0 y.2.1 && mtE T N a sc kw.1.value && mtE T N b sc kw.2.value && chk kw.1.arg fun q => chk kw.2.arg fun r => decide (z.2 = if sw = true then [r, q] else [q, r])
  | .bin o a b, sc, x => chk (asBin x) fun y => decide (y.2.1 = boOp o) && mtE T N a sc y.1 && mtE T N b sc y.2.2
  | .cmp o a b, sc, x => chk (asCmp x) fun y => chk (one1 y.2.1) fun p => chk (one1 y.2.2) fun z => coB o p z && mtE T N a sc y.1 && mtE T N b sc z
  | .chain o p a b c, sc, x => chk (asCmp x) fun y => chk (two2 y.2.1) fun q => chk (two2 y.2.2) fun z => decide (q.1 = coOp o) && coB p q.2 z.2 && mtE T N a sc y.1 && mtE T N b sc z.1 && mtE T N c sc z.2
  | .and l, sc, x => chk (asBool x) fun y => decide (y.1 = .And) && mtW T N l sc y.2
  | .or l, sc, x => chk (asBool x) fun y => decide (y.1 = .Or) && mtW T N l sc y.2
  | .not a, sc, x => chk (asUn x) fun y => decide (y.1 = .Not) && mtE T N a sc y.2 && tOk a
  | .ite c a b, sc, x => chk (asIf x) fun y => mtE T N c sc y.1 && tOk c && mtE T N a sc y.2.1 && mtE T N b sc y.2.2
  | .idx a i, sc, x => chk (asSub x) fun y => mtE T N a sc y.1 && mtE T N i sc y.2 && notSli y.2
  | .slc a lo hi, sc, x => chk (asSub x) fun y => chk (asSli y.2) fun z => mtE T N a sc y.1 && (match z.1 with | none => isNil lo | some u => mtE T N lo sc u) && (match z.2.1 with | none => isNil hi | some u => mtE T N hi sc u) && (match z.2.2 with | none => true | some _ => false)
  | .rev a, sc, x => chk (asSub x) fun y => chk (asSli y.2) fun z => mtE T N a sc y.1 && (match z.1 with | none => true | some _ => false) && (match z.2.1 with | none => true | some _ => false) && chk z.2.2 fun v => chk (asUn v) fun o => decide (o.1 = .USub) && chk (asCon o.2) fun c => decide (c = .int 1)
  | .call f l, sc, x => chk (asCall x) fun y => chk T.fns[f]? fun z => decide (z.1 = y.1) && glB sc y.1 && (mtL T N l sc y.2.1 && y.2.1.all notStar) && nil0 y.2.2
  | .callk f a, sc, x => chk (asCall x) fun y => chk T.fns[f]? fun z => chk (one1 y.2.2) fun kw => decide (z.1 = y.1) && glB sc y.1 && nil0 y.2.1 && mtE T N a sc kw.value && chk kw.arg fun q => decide (z.2 = [q])
  | .bc b l, sc, x => chk (asCall x) fun y => nil0 y.2.2 && (match b with
    | .lrng => (match l with
      | .cons a .nil => decide (y.1 = "list") && glB sc "list" && chk (one1 y.2.1) fun z => chk (asCall z) fun u => decide (u.1 = "range") && glB sc "range" && nil0 u.2.2 && chk (one1 u.2.1) fun v => notStar v && mtE T N a sc v
      | _ => false)
    | b => decide (y.1 = bfName b) && glB sc y.1 && !nil0 y.2.1 && (mtL T N l sc y.2.1 && y.2.1.all notStar))
  | .isi a t, sc, x => chk (asCall x) fun y => nil0 y.2.2 && decide (y.1 = "isinstance") && glB sc "isinstance" && chk (two2 y.2.1) fun z => notStar z.1 && mtE T N a sc z.1 && chk (asName z.2) fun id => decide (id = tyStr t) && glB sc id
  | .upper a, sc, x => chk (asMeth x) fun y => decide (y.2.1 = "upper") && nil0 y.2.2.1 && nil0 y.2.2.2.1 && mtE T N a sc y.1 && decide (y.2.2.2.2.1.endLine = y.2.2.2.2.2.line) && chk (asName y.1) fun _ => true
  | .comp tg elt it c, sc, x => chk (asLc x) fun y => blkC N sc y.2.2.2.2 (ownOf N tg.slots) && tgB N (fun z => y.2.2.2.2.names.lookup z == some .cell) (relS y.2.2.2.2 sc) tg y.2.1 && mtI T N it sc y.2.1 y.2.2.1 && mtE T N elt (relS y.2.2.2.2 sc) y.1 && notSet y.2.2.1 && (match y.2.2.2.1 with | [] => isNil c | u :: r => nil0 r && tOk c && mtE T N c (relS y.2.2.2.2 sc) u)
  | _, _, _ => false
/-- items -/
def mtL (T : Tb) (N : List Str) : E → Scope → List Expr → Bool
  | .nil, _, es => nil0 es
  | .cons a r, sc, es => (match es with | [] => false | x :: es => notStar x && mtE T N a sc x && mtL T N r sc es)
  | .consS a r, sc, es => (match es with | [] => false | x :: es => (chk (asStar x) fun y => mtE T N a sc y) && mtL T N r sc es)
  | _, _, _ => false
def mtW (T : Tb) (N : List Str) : E → Scope → List Expr → Bool
  | .cons a r, sc, es => (match es with | [] => false | x :: es => mtE T N a sc x && tOk a && (match r with | .nil => nil0 es | _ => mtW T N r sc es))
  | _, _, _ => false
def mtI (T : Tb) (N : List Str) : E → Scope → Expr → Expr → Bool
  | .itv a, sc, _, x => mtE T N a sc x
  | .rng1 a, sc, _, x => chk (asCall x) fun y => decide (y.1 = "range") && glB sc "range" && nil0 y.2.2 && chk (one1 y.2.1) fun z => notStar z && mtE T N a sc z
  | .rng2 a b, sc, _, x => chk (asCall x) fun y => decide (y.1 = "range") && glB sc "range" && nil0 y.2.2 && chk (two2 y.2.1) fun z => notStar z.1 && notStar z.2 && mtE T N a sc z.1 && mtE T N b sc z.2
  | .zip a b, sc, t, x => chk (asTup t) fun _ => chk (asCall x) fun y => decide (y.1 = "zip") && glB sc "zip" && nil0 y.2.2 && chk (two2 y.2.1) fun z => notStar z.1 && notStar z.2 && mtE T N a sc z.1 && mtE T N b sc z.2
  | .enm a, sc, t, x => chk (asTup t) fun _ => chk (asCall x) fun y => decide (y.1 = "enumerate") && glB sc "enumerate" && nil0 y.2.2 && chk (one1 y.2.1) fun z => notStar z && mtE T N a sc z
  | _, _, _, _ => false
end
end VI

set_option Elab.async false
set_option linter.all false
set_option autoImplicit false
set_option maxRecDepth 100000
set_option maxHeartbeats 8000000
/-! VMs: what the look compares is run alike. -/
namespace VI
open PySem PySem.Spec PyProof.Rows L2

/-- a test's value as an expression's -/
theorem tst_tO {X : Cx} {f : EnvD → R (Opd × EnvD)} {σ : L2.St} {H : Hp} {Q : Bool → Hp → Prop} (h : tB' X.K (fun ρ => tstO (f ρ)) σ H Q) : tO X.K f σ H fun v H' => ∃ k, v = .bl k ∧ Q k H' := by
  obtain ⟨F, ρ, s, er, q⟩ := h
  rw [tstO_wp] at q
  refine ⟨F, ρ, s, er, R.wp_mono q fun x q F1 H1 v se ⟨hv, nv⟩ => ?_⟩
  obtain ⟨k, fr, e1, q⟩ := q
  rw [e1] at hv
  exact ⟨k, or_bl (X := X) hv, q F1 H1 se⟩
theorem chain_imp {K : PySem.W.Frag} {o p : CO} {C : Ctx} {ea eb ec : E} {r r' : R2} (snd : CmpSnd K r (cmpD o)) (snd' : CmpSnd K r' (cmpD p)) {σ : L2.St} {H : Hp} {Q : VK} (h : tO K (ev C (.chain o p ea eb ec)) σ H Q) : tChain r r' (tO K (ev C ea)) (tO K (ev C eb)) (tO K (ev C ec)) σ H Q := by
  obtain ⟨F, ρ, s, er, q⟩ := h
  simp only [ev] at q
  rw [R.wp_bind] at q
  refine ⟨F, ρ, s, er, R.wp_mono q fun x q F1 H1 v se ⟨hv, nv⟩ => ?_⟩
  rw [R.wp_bind] at q
  refine ⟨F1, x.2, se.st.fh, se.st.er, R.wp_mono q fun y q F2 H2 u se2 ⟨hu, nu⟩ => ?_⟩
  rw [R.wp_bind] at q
  obtain ⟨d, h1, q⟩ := R.wp_eq q
  rw [R.wp_bind] at q
  obtain ⟨e, h2, q⟩ := R.wp_eq q
  rw [R.wp_bind] at q
  have sx := se.trans se2
  refine snd F2 H2 d e v u _ sx.st.fh ((hv.step se2).rd sx.st.er h1) (hu.rd sx.st.er h2) (R.wp_mono q fun z q => ?_)
  refine ⟨z, rfl, ?_⟩
  cases z with
  | false => exact q F2 H2 _ sx ⟨Rep.bl false, trivial⟩
  | true =>
    rw [if_pos rfl]
    have q : ((ev C ec y.2).bind fun w => (res w.2 y.1).bind fun e => (res w.2 w.1).bind fun g => (cmpD p e g).bind fun z => R.ok (Opd.val (.bl z) false, w.2)).wp _ := q
    rw [R.wp_bind] at q
    refine ⟨F2, y.2, sx.st.fh, sx.st.er, R.wp_mono q fun w q F3 H3 t se3 ⟨ht, nt⟩ => ?_⟩
    rw [R.wp_bind] at q
    obtain ⟨e', h3, q⟩ := R.wp_eq q
    rw [R.wp_bind] at q
    obtain ⟨g, h4, q⟩ := R.wp_eq q
    rw [R.wp_bind] at q
    have sy := sx.trans se3
    refine snd' F3 H3 e' g u t Q sy.st.fh ((hu.step se3).rd sy.st.er h3) (ht.rd sy.st.er h4) (R.wp_mono q fun z q => ?_)
    exact q F3 H3 _ sy ⟨Rep.bl z, trivial⟩

/-- a comprehension's tests -/
theorem pts_nilD (C : Ctx) {X : Cx} {K : PySem.W.Frag} : PTs X [] (tB' K fun ρ => optC .nil (ev C .nil ρ) ρ) := ⟨fun pins s σ H Q I ⟨F, ρ, sm, er, q⟩ => pts_nil.run pins s σ H Q I (q F H (SE.refl sm er))⟩
theorem pts_oneD (C : Ctx) {X : Cx} {K : PySem.W.Frag} {c : Expr} {ec : E} (hn : ec ≠ .nil) (h : PT X c (tB' K fun ρ => tstO (ev C ec ρ))) : PTs X [c] (tB' K fun ρ => optC ec (ev C ec ρ) ρ) := by
  have e : (fun ρ => optC ec (ev C ec ρ) ρ) = fun ρ => tstO (ev C ec ρ) := by
    funext ρ
    cases ec <;> first | exact absurd rfl hn | rfl
  rw [e]
  exact pts_one h
section
variable {T : Tb} {N : List Str} {C : Ctx}
/-- the promise about an expression -/
abbrev Okx (C : Ctx) (X : Cx) (e : E) (x : Expr) : Prop := PE X x (tO X.K (ev C e)) ∧ (tOk e = true → PT X x (tB' X.K fun ρ => tstO (ev C e ρ)))
theorem okx_val {X : Cx} {e : E} {x : Expr} (h : PE X x (tO X.K (ev C e))) (hp : ∀ whole, isTrue x X.env whole = (do let v ← whole; standAt x.pos; holding [v] (truthy v))) : Okx C X e x := ⟨h, fun _ => t_val h hp⟩
theorem glB_ok {X : Cx} {sc : Scope} {id : Str} (hs : X.env.scope = sc) (h : glB sc id = true) : Gl X id ∧ (id == ("__debug__" : Str)) = false := by
  unfold glB at h
  simp only [Bool.and_eq_true, Bool.not_eq_true', decide_eq_true_eq] at h
  exact ⟨by unfold Gl Env.kindOf; rw [hs]; exact h.1, h.2⟩
theorem a_never (C : Ctx) {X : Cx} {es : List Expr} {a r : E} : PA X es (tAr X.K (evA C (.consS a r))) := ⟨fun p pins s σ H Q I ⟨F, ρ, s, er, q⟩ => q.elim⟩
theorem mtE_nil {sc : Scope} {x : Expr} {e : E} (h : mtE T N e sc x = true) : e ≠ .nil := fun z => by subst z; simp only [mtE] at h; cases h
end

mutual
theorem snd_e {T : Tb} {N : List Str} {C : Ctx} : ∀ (e : E) {X : Cx} {sc : Scope} {x : Expr}, Wd X T N C → X.env.scope = sc → mtE T N e sc x = true → Okx C X e x
  | .var i, X, sc, x, w, hs, h => by
    simp only [mtE] at h
    obtain ⟨id, e, g⟩ := chk_ok h
    obtain ⟨p, rfl⟩ := asName_ok e
    simp only [Bool.and_eq_true, Bool.not_eq_true', decide_eq_true_eq] at g
    obtain ⟨⟨⟨g1, g2⟩, g3⟩, g4⟩ := g
    exact okx_val (s_var (by rw [w.n]; exact g1) (by rw [hs]; exact visB_ok g2) g3 g4 C) fun _ => rfl
  | .non, X, sc, x, w, hs, h => by
    simp only [mtE] at h
    obtain ⟨c, e, g⟩ := chk_ok h
    obtain ⟨k, p, rfl⟩ := asCon_ok e
    obtain rfl := of_decide_eq_true g
    exact okx_val (s_const C pe_non (fun _ => rfl) fun _ => .non) fun _ => rfl
  | .bl b, X, sc, x, w, hs, h => by
    simp only [mtE] at h
    obtain ⟨c, e, g⟩ := chk_ok h
    obtain ⟨k, p, rfl⟩ := asCon_ok e
    obtain rfl := of_decide_eq_true g
    exact okx_val (s_const C pe_bl (fun _ => rfl) fun _ => .bl b) fun _ => rfl
  | .int i, X, sc, x, w, hs, h => by
    simp only [mtE] at h
    obtain ⟨c, e, g⟩ := chk_ok h
    obtain ⟨k, p, rfl⟩ := asCon_ok e
    obtain rfl := of_decide_eq_true g
    exact okx_val (s_const C pe_int (fun _ => rfl) fun _ => .int i) fun _ => rfl
  | .str s, X, sc, x, w, hs, h => by
    simp only [mtE] at h
    obtain ⟨c, e, g⟩ := chk_ok h
    obtain ⟨k, p, rfl⟩ := asCon_ok e
    obtain rfl := of_decide_eq_true g
    exact okx_val (s_const C pe_str (fun _ => rfl) fun _ => .str _) fun _ => rfl
  | .neg i, X, sc, x, w, hs, h => by
    simp only [mtE] at h
    obtain ⟨o, e, g⟩ := chk_ok h
    obtain ⟨p, rfl⟩ := asUn_ok e
    obtain ⟨op, y⟩ := o
    simp only [Bool.and_eq_true, decide_eq_true_eq] at g
    obtain ⟨rfl, g⟩ := g
    obtain ⟨c, e2, g⟩ := chk_ok g
    obtain ⟨k, p2, rfl⟩ := asCon_ok e2
    obtain rfl := of_decide_eq_true g
    refine okx_val (PE.imp (pe_un un_neg pe_int) fun σ H Q ⟨F, ρ, s, er, q⟩ => ?_) fun _ => rfl
    exact ⟨i, rfl, q F H _ (SE.refl s er) ⟨Rep.int _, trivial⟩⟩
  | .glb k, X, sc, x, w, hs, h => by
    simp only [mtE] at h
    obtain ⟨id, e, g⟩ := chk_ok h
    obtain ⟨p, rfl⟩ := asName_ok e
    simp only [Bool.and_eq_true, decide_eq_true_eq] at g
    obtain ⟨g1, g2⟩ := g
    obtain ⟨hg, hd⟩ := glB_ok hs g2
    obtain ⟨d, v, u, h1, h2, h3, h4⟩ := w.gls k id g1
    refine okx_val (s_const (d := d) (v := v) C (pe_glob hg h2 h3 hd) (fun ρ => ?_) h4) fun _ => rfl
    simp only [ev]
    rw [h1]
    rfl
  | .tup l, X, sc, x, w, hs, h => by
    simp only [mtE] at h
    obtain ⟨es, e, g⟩ := chk_ok h
    obtain ⟨k, p, rfl⟩ := asTup_ok e
    exact okx_val (s_tup C (snd_l l w hs g).1) fun _ => rfl
  | .tupP l, X, sc, x, w, hs, h => by
    simp only [mtE] at h
    obtain ⟨es, e, g⟩ := chk_ok h
    obtain ⟨k, p, rfl⟩ := asTup_ok e
    exact okx_val (s_tupP C (snd_l l w hs g).1) fun _ => rfl
  | .lst l, X, sc, x, w, hs, h => by
    simp only [mtE] at h
    obtain ⟨es, e, g⟩ := chk_ok h
    obtain ⟨p, rfl⟩ := asLst_ok e
    exact okx_val (s_lst C (snd_l l w hs g).1) fun _ => rfl
  | .dnew, X, sc, x, w, hs, h => by
    simp only [mtE] at h
    obtain ⟨p, rfl⟩ := isDict0_ok h
    exact okx_val (s_dnew C) fun _ => rfl
  | .dnewT, X, sc, x, w, hs, h => by
    simp only [mtE] at h
    obtain ⟨p, rfl⟩ := isDict0_ok h
    exact okx_val (s_dnewT C) fun _ => rfl
  | .srts a, X, sc, x, w, hs, h => by
    simp only [mtE] at h
    obtain ⟨y, e, g⟩ := chk_ok h
    obtain ⟨p, p', rfl⟩ := asCall_ok e
    obtain ⟨y1, y2, y3⟩ := y
    simp only [Bool.and_eq_true, decide_eq_true_eq] at g
    obtain ⟨⟨⟨g0, g1⟩, g2⟩, ga⟩ := g
    obtain ⟨z, e2, gb⟩ := chk_ok ga
    obtain ⟨u, e3, gc⟩ := chk_ok gb
    obtain ⟨q1, q2, e4⟩ := asCall_ok e3
    obtain ⟨u1, u2, u3⟩ := u
    simp only [Bool.and_eq_true, decide_eq_true_eq] at gc
    obtain ⟨⟨⟨g5, g6⟩, g7⟩, gd⟩ := gc
    obtain ⟨v, e5, ge⟩ := chk_ok gd
    rw [Bool.and_eq_true] at ge
    have e2 := one1_ok e2
    have e5 := one1_ok e5
    have g7 := nil0_ok g7
    have g2 := nil0_ok g2
    subst g0 e2 e4 g5 g7 g2 e5
    exact okx_val (s_srts C w.calm w.un (glB_ok hs g1).1 (w.blt _ (by decide)) (glB_ok hs g6).1 (w.blt _ (by decide)) (snd_e a w hs ge.2).1 (star_ok ge.1)) fun _ => rfl
  | .srtd a, X, sc, x, w, hs, h => by
    simp only [mtE] at h
    obtain ⟨y, e, g⟩ := chk_ok h
    obtain ⟨p, p', rfl⟩ := asCall_ok e
    obtain ⟨y1, y2, y3⟩ := y
    simp only [Bool.and_eq_true, decide_eq_true_eq] at g
    obtain ⟨⟨⟨g0, g1⟩, g2⟩, ga⟩ := g
    obtain ⟨z, e2, gb⟩ := chk_ok ga
    rw [Bool.and_eq_true] at gb
    have e2 := one1_ok e2
    have g2 := nil0_ok g2
    subst g0 e2 g2
    exact okx_val (s_srtd C w.calm (glB_ok hs g1).1 (w.blt _ (by decide)) (snd_e a w hs gb.2).1 (star_ok gb.1)) fun _ => rfl
  | .isup a, X, sc, x, w, hs, h => by
    simp only [mtE] at h
    obtain ⟨y, e, g⟩ := chk_ok h
    obtain rfl := asMeth_ok e
    obtain ⟨y1, y2, y3, y4, y5, y6⟩ := y
    simp only [Bool.and_eq_true, decide_eq_true_eq] at g
    obtain ⟨⟨⟨⟨⟨rfl, g1⟩, g2⟩, g3⟩, g4⟩, g5⟩ := g
    obtain rfl := nil0_ok g1
    obtain rfl := nil0_ok g2
    exact okx_val (s_isup C (snd_e a w hs g3).1 (isBase_ok g5) (by rw [g4]; exact beq_self_eq_true _)) fun _ => rfl
  | .dget d k f, X, sc, x, w, hs, h => by
    simp only [mtE] at h
    obtain ⟨y, e, g⟩ := chk_ok h
    obtain rfl := asMeth_ok e
    obtain ⟨y1, y2, y3, y4, y5, y6⟩ := y
    simp only [Bool.and_eq_true, decide_eq_true_eq] at g
    obtain ⟨⟨⟨⟨⟨rfl, g2⟩, ga⟩, g3⟩, g4⟩, g5⟩ := g
    obtain rfl := nil0_ok g2
    obtain ⟨z, e2, gb⟩ := chk_ok ga
    obtain ⟨z1, z2⟩ := z
    obtain rfl := two2_ok e2
    simp only [Bool.and_eq_true] at gb
    obtain ⟨⟨⟨g6, g7⟩, g8⟩, g9⟩ := gb
    have hl : (y5.endLine == y6.line) = true := by rw [g4]; exact beq_self_eq_true _
    have un := w.un
    have m : M2 X y1 "get" y5 z1 z2 y6 := by
      refine ⟨isBase_ok g5, ?_, hl, ?_⟩
      · rw [star_ok g6, star_ok g7]; rfl
      · rw [star_ok g6, star_ok g7]; rfl
    exact okx_val (s_dget C (by omega) (snd_e d w hs g3).1 (snd_e k w hs g8).1 (snd_e f w hs g9).1 m) fun _ => rfl
  | .tupS a, X, sc, x, w, hs, h => by
    simp only [mtE] at h
    obtain ⟨y, e, g⟩ := chk_ok h
    obtain ⟨p, p', rfl⟩ := asCall_ok e
    obtain ⟨y1, y2, y3⟩ := y
    simp only [Bool.and_eq_true, decide_eq_true_eq] at g
    obtain ⟨⟨⟨g0, g1⟩, g2⟩, ga⟩ := g
    obtain ⟨z, e2, gb⟩ := chk_ok ga
    rw [Bool.and_eq_true] at gb
    have e2 := one1_ok e2
    have g2 := nil0_ok g2
    subst g0 e2 g2
    exact okx_val (s_tupS C (glB_ok hs g1).1 (w.blt _ (by decide)) (snd_e a w hs gb.2).1 (star_ok gb.1)) fun _ => rfl
  | .dictP a, X, sc, x, w, hs, h => by
    simp only [mtE] at h
    obtain ⟨y, e, g⟩ := chk_ok h
    obtain ⟨p, p', rfl⟩ := asCall_ok e
    obtain ⟨y1, y2, y3⟩ := y
    simp only [Bool.and_eq_true, decide_eq_true_eq] at g
    obtain ⟨⟨⟨g0, g1⟩, g2⟩, ga⟩ := g
    obtain ⟨z, e2, gb⟩ := chk_ok ga
    rw [Bool.and_eq_true] at gb
    have e2 := one1_ok e2
    have g2 := nil0_ok g2
    subst g0 e2 g2
    exact okx_val (s_dictP C w.calm (glB_ok hs g1).1 (w.blt _ (by decide)) (snd_e a w hs gb.2).1 (star_ok gb.1)) fun _ => rfl
  | .srtl a, X, sc, x, w, hs, h => by
    simp only [mtE] at h
    obtain ⟨y, e, g⟩ := chk_ok h
    obtain ⟨p, p', rfl⟩ := asCall_ok e
    obtain ⟨y1, y2, y3⟩ := y
    simp only [Bool.and_eq_true, decide_eq_true_eq] at g
    obtain ⟨⟨⟨g0, g1⟩, g2⟩, ga⟩ := g
    obtain ⟨z, e2, gb⟩ := chk_ok ga
    rw [Bool.and_eq_true] at gb
    have e2 := one1_ok e2
    have g2 := nil0_ok g2
    subst g0 e2 g2
    exact okx_val (s_srtl C w.calm (glB_ok hs g1).1 (w.blt _ (by decide)) (snd_e a w hs gb.2).1 (star_ok gb.1)) fun _ => rfl
  | .srti a, X, sc, x, w, hs, h => by
    simp only [mtE] at h
    obtain ⟨y, e, g⟩ := chk_ok h
    obtain ⟨p, p', rfl⟩ := asCall_ok e
    obtain ⟨y1, y2, y3⟩ := y
    simp only [Bool.and_eq_true, decide_eq_true_eq] at g
    obtain ⟨⟨⟨g0, g1⟩, g2⟩, ga⟩ := g
    obtain ⟨z, e2, gb⟩ := chk_ok ga
    obtain ⟨u, e3, gc⟩ := chk_ok gb
    have e3 := asMeth_ok e3
    obtain ⟨u1, u2, u3, u4, u5, u6⟩ := u
    simp only [Bool.and_eq_true, decide_eq_true_eq] at gc
    obtain ⟨⟨⟨⟨⟨k0, k1⟩, k2⟩, k3⟩, k4⟩, k5⟩ := gc
    have e2 := one1_ok e2
    have g2 := nil0_ok g2
    have k1 := nil0_ok k1
    have k2 := nil0_ok k2
    subst k0 k1 k2 e3 g0 e2 g2
    exact okx_val (s_srti C w.calm (glB_ok hs g1).1 (w.blt _ (by decide)) (snd_e a w hs k3).1 (isBase_ok k5) (by rw [k4]; exact beq_self_eq_true _)) fun _ => rfl
  | .popA i a, X, sc, x, w, hs, h => by
    simp only [mtE] at h
    obtain ⟨y, e, g⟩ := chk_ok h
    obtain rfl := asMeth_ok e
    obtain ⟨y1, y2, y3, y4, y5, y6⟩ := y
    simp only [Bool.and_eq_true, decide_eq_true_eq] at g
    obtain ⟨⟨⟨⟨rfl, g2⟩, ga⟩, gc⟩, g4⟩ := g
    obtain rfl := nil0_ok g2
    obtain ⟨z, e2, gb⟩ := chk_ok ga
    obtain rfl := one1_ok e2
    rw [Bool.and_eq_true] at gb
    obtain ⟨id, e3, gd⟩ := chk_ok gc
    obtain ⟨p3, rfl⟩ := asName_ok e3
    simp only [Bool.and_eq_true, Bool.not_eq_true', decide_eq_true_eq] at gd
    obtain ⟨⟨⟨k1, k2⟩, k3⟩, k4⟩ := gd
    exact okx_val (s_popA C (s_var (by rw [w.n]; exact k1) (by rw [hs]; exact visB_ok k2) k3 k4 C) (snd_e a w hs gb.2).1 rfl (by rw [g4]; exact beq_self_eq_true _) (star_ok gb.1)) fun _ => rfl
  | .callk2 f sw a b, X, sc, x, w, hs, h => by
    simp only [mtE] at h
    obtain ⟨y, e, g⟩ := chk_ok h
    obtain ⟨p, p', rfl⟩ := asCall_ok e
    obtain ⟨y1, y2, y3⟩ := y
    obtain ⟨z, e2, g⟩ := chk_ok g
    obtain ⟨z1, z2⟩ := z
    obtain ⟨kw, e3, g⟩ := chk_ok g
    simp only [Bool.and_eq_true, decide_eq_true_eq] at g
    obtain ⟨⟨⟨⟨⟨rfl, g1⟩, g2⟩, g3⟩, g4⟩, g5⟩ := g
    obtain ⟨q, e4, g6⟩ := chk_ok g5
    obtain ⟨r, e5, g7⟩ := chk_ok g6
    have g8 : z2 = if sw = true then [r, q] else [q, r] := of_decide_eq_true g7
    obtain rfl := nil0_ok g2
    obtain ⟨kw1, kw2⟩ := kw
    obtain rfl := two2_ok e3
    obtain ⟨k, hr, G⟩ := w.fns f _ _ e2
    obtain ⟨hg, hd⟩ := glB_ok hs g1
    obtain ⟨ka, kv, kp⟩ := kw1
    obtain ⟨la, lv, lp⟩ := kw2
    cases e4
    cases e5
    exact okx_val (s_callk2 C G g8 hr hg hd (snd_e a w hs g3).1 (snd_e b w hs g4).1) fun _ => rfl
  | .bin o a b, X, sc, x, w, hs, h => by
    simp only [mtE] at h
    obtain ⟨y, e, g⟩ := chk_ok h
    obtain ⟨p, rfl⟩ := asBin_ok e
    obtain ⟨y1, y2, y3⟩ := y
    simp only [Bool.and_eq_true, decide_eq_true_eq] at g
    obtain ⟨⟨rfl, g1⟩, g2⟩ := g
    exact okx_val (s_bin o C (snd_e a w hs g1).1 (snd_e b w hs g2).1) fun _ => rfl
  | .cmp o a b, X, sc, x, w, hs, h => by
    simp only [mtE] at h
    obtain ⟨y, e, g⟩ := chk_ok h
    obtain ⟨p, rfl⟩ := asCmp_ok e
    obtain ⟨y1, y2, y3⟩ := y
    obtain ⟨op, e1, g⟩ := chk_ok g
    obtain ⟨z, e2, g⟩ := chk_ok g
    obtain rfl := one1_ok e1
    obtain rfl := one1_ok e2
    simp only [coB, Bool.and_eq_true, Bool.not_eq_true', decide_eq_true_eq] at g
    obtain ⟨⟨⟨rfl, hm⟩, g1⟩, g2⟩ := g
    exact ⟨s_cmp o C w.un (snd_e a w hs g1).1 (snd_e b w hs g2).1 hm, fun _ => t_cmp o C w.un (snd_e a w hs g1).1 (snd_e b w hs g2).1 hm⟩
  | .chain o p a b c, X, sc, x, w, hs, h => by
    simp only [mtE] at h
    obtain ⟨y, e, g⟩ := chk_ok h
    obtain ⟨pp, rfl⟩ := asCmp_ok e
    obtain ⟨y1, y2, y3⟩ := y
    obtain ⟨q, e1, g⟩ := chk_ok g
    obtain ⟨z, e2, g⟩ := chk_ok g
    obtain ⟨q1, q2⟩ := q
    obtain ⟨z1, z2⟩ := z
    obtain rfl := two2_ok e1
    obtain rfl := two2_ok e2
    simp only [coB, Bool.and_eq_true, Bool.not_eq_true', decide_eq_true_eq] at g
    obtain ⟨⟨⟨⟨rfl, rfl, hm⟩, g1⟩, g2⟩, g3⟩ := g
    have pa := (snd_e a w hs g1).1
    have pb := (snd_e b w hs g2).1
    have pc := (snd_e c w hs g3).1
    obtain ⟨r, ho, sn⟩ := op_cmp (X := X) w.un o
    obtain ⟨r', ho', sn'⟩ := op_cmp (X := X) w.un p
    exact ⟨PE.imp (pe_chain ho ho' pa pb pc hm) fun σ H Q q => chain_imp sn sn' q, fun _ => PT.imp (pt_chain ho ho' pa pb pc hm) fun σ H Q q => chain_imp sn sn' (tst_tO q)⟩
  | .and l, X, sc, x, w, hs, h => by
    simp only [mtE] at h
    obtain ⟨y, e, g⟩ := chk_ok h
    obtain ⟨p, rfl⟩ := asBool_ok e
    obtain ⟨y1, y2⟩ := y
    simp only [Bool.and_eq_true, decide_eq_true_eq] at g
    obtain ⟨rfl, g1⟩ := g
    have q := snd_w l w hs g1 true p
    refine ⟨PE.imp q.1 fun σ H Q z => ?_, fun _ => PT.imp q.2.pt fun σ H Q z => ?_⟩
    · simp only [ev] at z; exact z
    · simp only [ev] at z; exact z
  | .or l, X, sc, x, w, hs, h => by
    simp only [mtE] at h
    obtain ⟨y, e, g⟩ := chk_ok h
    obtain ⟨p, rfl⟩ := asBool_ok e
    obtain ⟨y1, y2⟩ := y
    simp only [Bool.and_eq_true, decide_eq_true_eq] at g
    obtain ⟨rfl, g1⟩ := g
    have q := snd_w l w hs g1 false p
    refine ⟨PE.imp q.1 fun σ H Q z => ?_, fun _ => PT.imp q.2.pt fun σ H Q z => ?_⟩
    · simp only [ev] at z; exact z
    · simp only [ev] at z; exact z
  | .not a, X, sc, x, w, hs, h => by
    simp only [mtE] at h
    obtain ⟨y, e, g⟩ := chk_ok h
    obtain ⟨p, rfl⟩ := asUn_ok e
    obtain ⟨y1, y2⟩ := y
    simp only [Bool.and_eq_true, decide_eq_true_eq] at g
    obtain ⟨⟨rfl, g1⟩, g2⟩ := g
    have q := snd_e a w hs g1
    exact ⟨s_not C q.1, fun _ => t_not C (q.2 g2)⟩
  | .ite c a b, X, sc, x, w, hs, h => by
    simp only [mtE] at h
    obtain ⟨y, e, g⟩ := chk_ok h
    obtain ⟨p, rfl⟩ := asIf_ok e
    obtain ⟨y1, y2, y3⟩ := y
    simp only [Bool.and_eq_true] at g
    obtain ⟨⟨⟨g1, g2⟩, g3⟩, g4⟩ := g
    exact ⟨s_ite C ((snd_e c w hs g1).2 g2) (snd_e a w hs g3).1 (snd_e b w hs g4).1, fun z => by cases z⟩
  | .idx a i, X, sc, x, w, hs, h => by
    simp only [mtE] at h
    obtain ⟨y, e, g⟩ := chk_ok h
    obtain ⟨p, rfl⟩ := asSub_ok e
    obtain ⟨y1, y2⟩ := y
    simp only [Bool.and_eq_true] at g
    obtain ⟨⟨g1, g2⟩, g3⟩ := g
    exact okx_val (s_idx C (snd_e a w hs g1).1 (snd_e i w hs g2).1 (sli_ok g3)) fun _ => rfl
  | .slc a lo hi, X, sc, x, w, hs, h => by
    simp only [mtE] at h
    obtain ⟨y, e, g⟩ := chk_ok h
    obtain ⟨p, rfl⟩ := asSub_ok e
    obtain ⟨y1, y2⟩ := y
    obtain ⟨z, e2, g⟩ := chk_ok g
    obtain ⟨p2, rfl⟩ := asSli_ok e2
    obtain ⟨z1, z2, z3⟩ := z
    simp only [Bool.and_eq_true] at g
    obtain ⟨⟨⟨g1, g2⟩, g3⟩, g4⟩ := g
    have pa := (snd_e a w hs g1).1
    have pl : PO X z1 (tP X.K fun ρ => optE lo (ev C lo ρ) ρ) := by
      cases z1 with
      | none => obtain rfl := isNil_ok g2; exact p_none C
      | some u => exact p_some C (mtE_nil g2) (snd_e lo w hs g2).1
    have ph : PO X z2 (tP X.K fun ρ => optE hi (ev C hi ρ) ρ) := by
      cases z2 with
      | none => obtain rfl := isNil_ok g3; exact p_none C
      | some u => exact p_some C (mtE_nil g3) (snd_e hi w hs g3).1
    cases z3 with
    | none => exact okx_val (s_slc C pa pl ph) fun _ => rfl
    | some u => cases g4
  | .rev a, X, sc, x, w, hs, h => by
    simp only [mtE] at h
    obtain ⟨y, e, g⟩ := chk_ok h
    obtain ⟨p, rfl⟩ := asSub_ok e
    obtain ⟨y1, y2⟩ := y
    obtain ⟨z, e2, g⟩ := chk_ok g
    obtain ⟨p2, rfl⟩ := asSli_ok e2
    obtain ⟨z1, z2, z3⟩ := z
    simp only [Bool.and_eq_true] at g
    obtain ⟨⟨⟨g1, g2⟩, g3⟩, g4⟩ := g
    obtain ⟨v, e3, ga⟩ := chk_ok g4
    obtain ⟨o, e4, gb⟩ := chk_ok ga
    obtain ⟨p3, rfl⟩ := asUn_ok e4
    obtain ⟨o1, o2⟩ := o
    simp only [Bool.and_eq_true, decide_eq_true_eq] at gb
    obtain ⟨g7, gc⟩ := gb
    obtain ⟨c, e5, gd⟩ := chk_ok gc
    obtain ⟨k, p4, e6⟩ := asCon_ok e5
    have e7 := of_decide_eq_true gd
    subst g7 e7 e6
    cases z1 with
    | some u => cases g2
    | none =>
      cases z2 with
      | some u => cases g3
      | none =>
        cases z3 with
        | none => cases e3
        | some u => cases e3; exact okx_val (s_rev C (snd_e a w hs g1).1) fun _ => rfl
  | .call f l, X, sc, x, w, hs, h => by
    simp only [mtE] at h
    obtain ⟨y, e, g⟩ := chk_ok h
    obtain ⟨p, p', rfl⟩ := asCall_ok e
    obtain ⟨y1, y2, y3⟩ := y
    obtain ⟨z, e2, g⟩ := chk_ok g
    obtain ⟨z1, z2⟩ := z
    simp only [Bool.and_eq_true, decide_eq_true_eq] at g
    obtain ⟨⟨⟨rfl, g1⟩, g2⟩, g3⟩ := g
    obtain rfl := nil0_ok g3
    obtain ⟨k, hr, G⟩ := w.fns f _ _ e2
    obtain ⟨hg, hd⟩ := glB_ok hs g1
    cases y2 with
    | nil =>
      have el : l = .nil := by
        have g2 := g2.1
        cases l <;> first | rfl | (simp only [mtL] at g2; cases g2)
      subst el
      exact okx_val (s_call0 C G hr hg hd) fun _ => rfl
    | cons a es =>
      obtain ⟨g2, st⟩ := g2
      rw [List.all_cons, Bool.and_eq_true] at st
      exact okx_val (s_call C G hr hg hd (snd_l l w hs g2).2 (star_ok st.1) (stars_ok st.2)) fun _ => rfl
  | .callk f a, X, sc, x, w, hs, h => by
    simp only [mtE] at h
    obtain ⟨y, e, g⟩ := chk_ok h
    obtain ⟨p, p', rfl⟩ := asCall_ok e
    obtain ⟨y1, y2, y3⟩ := y
    obtain ⟨z, e2, g⟩ := chk_ok g
    obtain ⟨z1, z2⟩ := z
    obtain ⟨kw, e3, g⟩ := chk_ok g
    simp only [Bool.and_eq_true, decide_eq_true_eq] at g
    obtain ⟨⟨⟨⟨rfl, g1⟩, g2⟩, g3⟩, g4⟩ := g
    obtain ⟨q, e4, g5⟩ := chk_ok g4
    have g6 : z2 = [q] := of_decide_eq_true g5
    obtain rfl := nil0_ok g2
    obtain rfl := one1_ok e3
    obtain ⟨k, hr, G⟩ := w.fns f _ _ e2
    obtain ⟨hg, hd⟩ := glB_ok hs g1
    obtain ⟨ka, kv, kp⟩ := kw
    cases e4
    exact okx_val (s_callk C G g6 hr hg hd (snd_e a w hs g3).1) fun _ => rfl
  | .bc b l, X, sc, x, w, hs, h => by
    simp only [mtE] at h
    obtain ⟨y, e, g⟩ := chk_ok h
    obtain ⟨p, p', rfl⟩ := asCall_ok e
    obtain ⟨y1, y2, y3⟩ := y
    simp only [Bool.and_eq_true] at g
    obtain ⟨g0, g⟩ := g
    obtain rfl := nil0_ok g0
    by_cases hb : b = .lrng
    · subst hb
      cases l <;> first | (cases g; done) | skip
      rename_i a r
      cases r <;> first | (cases g; done) | skip
      simp only [Bool.and_eq_true, decide_eq_true_eq] at g
      obtain ⟨⟨g00, g1⟩, ga⟩ := g
      obtain ⟨z, e2, gb⟩ := chk_ok ga
      obtain ⟨u, e3, gc⟩ := chk_ok gb
      obtain ⟨q1, q2, e4⟩ := asCall_ok e3
      obtain ⟨u1, u2, u3⟩ := u
      simp only [Bool.and_eq_true, decide_eq_true_eq] at gc
      obtain ⟨⟨⟨g5, g6⟩, g7⟩, gd⟩ := gc
      obtain ⟨v, e5, ge⟩ := chk_ok gd
      rw [Bool.and_eq_true] at ge
      have e2 := one1_ok e2
      have e5 := one1_ok e5
      have g7 := nil0_ok g7
      subst g00 e2 e4 g5 g7 e5
      exact okx_val (s_lrng C w.calm (glB_ok hs g1).1 (w.blt _ (by decide)) (glB_ok hs g6).1 (w.blt _ (by decide)) (snd_e a w hs ge.2).1 (star_ok ge.1)) fun _ => rfl
    · have g : (decide (y1 = bfName b) && glB sc y1 && !nil0 y2 && (mtL T N l sc y2 && y2.all notStar)) = true := by
        cases b <;> first | exact absurd rfl hb | exact g
      simp only [Bool.and_eq_true, Bool.not_eq_true', decide_eq_true_eq] at g
      obtain ⟨⟨⟨rfl, g1⟩, g2⟩, g3⟩ := g
      obtain ⟨hg, hd⟩ := glB_ok hs g1
      cases y2 with
      | nil => cases g2
      | cons a es =>
        obtain ⟨g3, st⟩ := g3
        rw [List.all_cons, Bool.and_eq_true] at st
        exact okx_val (s_bf C w.calm w.gd w.un2 hb rfl hg (w.blt (bfName b) (by cases b <;> decide)) (snd_l l w hs g3).2 (star_ok st.1) (stars_ok st.2)) fun _ => rfl
  | .isi a t, X, sc, x, w, hs, h => by
    simp only [mtE] at h
    obtain ⟨y, e, g⟩ := chk_ok h
    obtain ⟨p, p', rfl⟩ := asCall_ok e
    obtain ⟨y1, y2, y3⟩ := y
    simp only [Bool.and_eq_true, decide_eq_true_eq] at g
    obtain ⟨⟨⟨g0, g00⟩, g1⟩, ga⟩ := g
    obtain rfl := nil0_ok g0
    obtain ⟨z, e2, gb⟩ := chk_ok ga
    obtain ⟨z1, z2⟩ := z
    have e2 := two2_ok e2
    simp only [Bool.and_eq_true] at gb
    obtain ⟨⟨g2, g3⟩, gc⟩ := gb
    obtain ⟨id, e3, gd⟩ := chk_ok gc
    obtain ⟨p3, e4⟩ := asName_ok e3
    simp only [Bool.and_eq_true, decide_eq_true_eq] at gd
    obtain ⟨e5, g4⟩ := gd
    subst g00 e5 e2 e4
    exact okx_val (s_isi C rfl rfl (glB_ok hs g1).1 (w.blt "isinstance" (by decide)) (glB_ok hs g4).1 (w.blt (tyStr t) (by cases t <;> decide)) (snd_e a w hs g3).1 (star_ok g2)) fun _ => rfl
  | .upper a, X, sc, x, w, hs, h => by
    simp only [mtE] at h
    obtain ⟨y, e, g⟩ := chk_ok h
    obtain rfl := asMeth_ok e
    obtain ⟨y1, y2, y3, y4, y5, y6⟩ := y
    simp only [Bool.and_eq_true, decide_eq_true_eq] at g
    obtain ⟨⟨⟨⟨⟨rfl, g1⟩, g2⟩, g3⟩, g4⟩, g5⟩ := g
    obtain rfl := nil0_ok g1
    obtain rfl := nil0_ok g2
    obtain ⟨id, e3, _⟩ := chk_ok g5
    obtain ⟨p3, rfl⟩ := asName_ok e3
    exact okx_val (s_upper C (snd_e a w hs g3).1 rfl (by rw [g4]; exact beq_self_eq_true _)) fun _ => rfl
  | .comp tg elt it c, X, sc, x, w, hs, h => by
    simp only [mtE] at h
    obtain ⟨y, e, g⟩ := chk_ok h
    obtain ⟨p, rfl⟩ := asLc_ok e
    obtain ⟨y1, y2, y3, y4, y5⟩ := y
    simp only [Bool.and_eq_true] at g
    obtain ⟨⟨⟨⟨⟨g1, g2⟩, g3⟩, g4⟩, g5⟩, g6⟩ := g
    have he : ∀ (s : Shared) (H : Hp) (Cl : Addr) (cl : List (Str × Addr)) (fp : List Addr), PE (X.blk s H y5 (compEnvC y5 cl Cl X.env) fp) y1 (tO X.K (ev C elt)) := fun s H Cl cl fp => (snd_e elt (w.blk s H y5 (compEnvC y5 cl Cl X.env) fp) (by rw [← hs]; rfl) g4).1
    have ht : ∀ (s : Shared) (H : Hp) (Cl : Addr) (cl : List (Str × Addr)) (fp : List Addr), PTs (X.blk s H y5 (compEnvC y5 cl Cl X.env) fp) y4 (tB' X.K fun ρ => optC c (ev C c ρ) ρ) := fun s H Cl cl fp => by
      cases y4 with
      | nil =>
        obtain rfl := isNil_ok g6
        exact pts_nilD C
      | cons u r =>
        simp only [Bool.and_eq_true] at g6
        obtain ⟨⟨g7, g8⟩, g9⟩ := g6
        obtain rfl := nil0_ok g7
        exact pts_oneD C (mtE_nil g9) ((snd_e c (w.blk s H y5 (compEnvC y5 cl Cl X.env) fp) (by rw [← hs]; rfl) g9).2 g8)
    have hg : ∀ (s : Shared) (H : Hp) (Cl : Addr) (cl : List (Str × Addr)) (fp : List Addr), PG (X.blk s H y5 (compEnvC y5 cl Cl X.env) fp) y2 (gT X.K tg) := fun s H Cl cl fp => tg_okE (X := X.blk s H y5 (compEnvC y5 cl Cl X.env) fp) w.n w.nd (by rw [← hs]; rfl) rfl w.calm g2
    exact okx_val (s_comp C w.calm (by rw [w.n]; exact w.nd) (snd_i it w hs g3) (by rw [w.n, hs]; exact blkOk_by g1) (ownOf_snd N tg.slots) hg ht he (set_ok0 g5)) fun _ => rfl
  | .nil, X, sc, x, w, hs, h => by simp only [mtE] at h; cases h
  | .cons _ _, X, sc, x, w, hs, h => by simp only [mtE] at h; cases h
  | .consS _ _, X, sc, x, w, hs, h => by simp only [mtE] at h; cases h
  | .itv _, X, sc, x, w, hs, h => by simp only [mtE] at h; cases h
  | .rng1 _, X, sc, x, w, hs, h => by simp only [mtE] at h; cases h
  | .rng2 _ _, X, sc, x, w, hs, h => by simp only [mtE] at h; cases h
  | .zip _ _, X, sc, x, w, hs, h => by simp only [mtE] at h; cases h
  | .enm _, X, sc, x, w, hs, h => by simp only [mtE] at h; cases h
theorem snd_l {T : Tb} {N : List Str} {C : Ctx} : ∀ (l : E) {X : Cx} {sc : Scope} {x : List Expr}, Wd X T N C → X.env.scope = sc → mtL T N l sc x = true → PA X x (tLs X.K (evL C l)) ∧ PA X x (tAr X.K (evA C l))
  | .nil, X, sc, x, w, hs, h => by
    simp only [mtL] at h
    obtain rfl := nil0_ok h
    exact ⟨l_nil C, a_nil C⟩
  | .cons a r, X, sc, x, w, hs, h => by
    cases x with
    | nil => simp only [mtL] at h; cases h
    | cons x es =>
      simp only [mtL, Bool.and_eq_true] at h
      obtain ⟨⟨g1, g2⟩, g3⟩ := h
      have pa := (snd_e a w hs g2).1
      have pl := snd_l r w hs g3
      exact ⟨l_cons C pa pl.1 (star_ok g1), a_cons C pa pl.2 (star_ok g1)⟩
  | .consS a r, X, sc, x, w, hs, h => by
    cases x with
    | nil => simp only [mtL] at h; cases h
    | cons x es =>
      simp only [mtL, Bool.and_eq_true] at h
      obtain ⟨g1, g3⟩ := h
      obtain ⟨y, e, g2⟩ := chk_ok g1
      obtain ⟨p, rfl⟩ := asStar_ok e
      exact ⟨l_consS C (snd_e a w hs g2).1 (snd_l r w hs g3).1, a_never C⟩
  | .var _, X, sc, x, w, hs, h => by simp only [mtL] at h; cases h
  | .non, X, sc, x, w, hs, h => by simp only [mtL] at h; cases h
  | .bl _, X, sc, x, w, hs, h => by simp only [mtL] at h; cases h
  | .int _, X, sc, x, w, hs, h => by simp only [mtL] at h; cases h
  | .str _, X, sc, x, w, hs, h => by simp only [mtL] at h; cases h
  | .glb _, X, sc, x, w, hs, h => by simp only [mtL] at h; cases h
  | .tup _, X, sc, x, w, hs, h => by simp only [mtL] at h; cases h
  | .tupP _, X, sc, x, w, hs, h => by simp only [mtL] at h; cases h
  | .lst _, X, sc, x, w, hs, h => by simp only [mtL] at h; cases h
  | .dnew, X, sc, x, w, hs, h => by simp only [mtL] at h; cases h
  | .bin _ _ _, X, sc, x, w, hs, h => by simp only [mtL] at h; cases h
  | .neg _, X, sc, x, w, hs, h => by simp only [mtL] at h; cases h
  | .cmp _ _ _, X, sc, x, w, hs, h => by simp only [mtL] at h; cases h
  | .chain _ _ _ _ _, X, sc, x, w, hs, h => by simp only [mtL] at h; cases h
  | .and _, X, sc, x, w, hs, h => by simp only [mtL] at h; cases h
  | .or _, X, sc, x, w, hs, h => by simp only [mtL] at h; cases h
  | .not _, X, sc, x, w, hs, h => by simp only [mtL] at h; cases h
  | .ite _ _ _, X, sc, x, w, hs, h => by simp only [mtL] at h; cases h
  | .idx _ _, X, sc, x, w, hs, h => by simp only [mtL] at h; cases h
  | .slc _ _ _, X, sc, x, w, hs, h => by simp only [mtL] at h; cases h
  | .rev _, X, sc, x, w, hs, h => by simp only [mtL] at h; cases h
  | .call _ _, X, sc, x, w, hs, h => by simp only [mtL] at h; cases h
  | .callk _ _, X, sc, x, w, hs, h => by simp only [mtL] at h; cases h
  | .bc _ _, X, sc, x, w, hs, h => by simp only [mtL] at h; cases h
  | .isi _ _, X, sc, x, w, hs, h => by simp only [mtL] at h; cases h
  | .upper _, X, sc, x, w, hs, h => by simp only [mtL] at h; cases h
  | .comp _ _ _ _, X, sc, x, w, hs, h => by simp only [mtL] at h; cases h
  | .dnewT, X, sc, x, w, hs, h => by simp only [mtL] at h; cases h
  | .srts _, X, sc, x, w, hs, h => by simp only [mtL] at h; cases h
  | .srtd _, X, sc, x, w, hs, h => by simp only [mtL] at h; cases h
  | .isup _, X, sc, x, w, hs, h => by simp only [mtL] at h; cases h
  | .dget _ _ _, X, sc, x, w, hs, h => by simp only [mtL] at h; cases h
  | .tupS _, X, sc, x, w, hs, h => by simp only [mtL] at h; cases h
  | .dictP _, X, sc, x, w, hs, h => by simp only [mtL] at h; cases h
  | .srtl _, X, sc, x, w, hs, h => by simp only [mtL] at h; cases h
  | .srti _, X, sc, x, w, hs, h => by simp only [mtL] at h; cases h
  | .popA _ _, X, sc, x, w, hs, h => by simp only [mtL] at h; cases h
  | .callk2 _ _ _ _, X, sc, x, w, hs, h => by simp only [mtL] at h; cases h
  | .itv _, X, sc, x, w, hs, h => by simp only [mtL] at h; cases h
  | .rng1 _, X, sc, x, w, hs, h => by simp only [mtL] at h; cases h
  | .rng2 _ _, X, sc, x, w, hs, h => by simp only [mtL] at h; cases h
  | .zip _ _, X, sc, x, w, hs, h => by simp only [mtL] at h; cases h
  | .enm _, X, sc, x, w, hs, h => by simp only [mtL] at h; cases h
theorem snd_w {T : Tb} {N : List Str} {C : Ctx} : ∀ (l : E) {X : Cx} {sc : Scope} {x : List Expr}, Wd X T N C → X.env.scope = sc → mtW T N l sc x = true → ∀ (b : Bool) (pos : Pos), PE X (.BoolOp (if b then .And else .Or) x pos) (tO X.K (evW C b l)) ∧ PW X (.BoolOp (if b then .And else .Or) x pos) (tB' X.K fun ρ => tstO (evW C b l ρ))
  | .cons a r, X, sc, x, w, hs, h => fun b pos => by
    cases x with
    | nil => simp only [mtW] at h; cases h
    | cons x es =>
      have ih := fun g => @snd_w T N C r X sc es w hs g b pos
      have ha := fun g => @snd_e T N C a X sc x w hs g
      simp only [mtW, Bool.and_eq_true] at h
      obtain ⟨⟨g1, g2⟩, g3⟩ := h
      have pa := ha g1
      have pt := pa.2 g2
      cases r with
      | nil =>
        obtain rfl := nil0_ok g3
        exact ⟨s_w1 C b pa.1, t_w1 C b pt⟩
      | cons c r =>
        cases es with
        | nil => simp only [mtW] at g3; cases g3
        | cons v vs =>
          have q := ih g3
          cases b with
          | true => exact ⟨s_and C pa.1 q.1, t_and C pt q.2⟩
          | false => exact ⟨s_or C pa.1 q.1, t_or C pt q.2⟩
      | _ => simp only [mtW] at g3; cases g3
  | .nil, X, sc, x, w, hs, h => by simp only [mtW] at h; cases h
  | .var _, X, sc, x, w, hs, h => by simp only [mtW] at h; cases h
  | .non, X, sc, x, w, hs, h => by simp only [mtW] at h; cases h
  | .bl _, X, sc, x, w, hs, h => by simp only [mtW] at h; cases h
  | .int _, X, sc, x, w, hs, h => by simp only [mtW] at h; cases h
  | .str _, X, sc, x, w, hs, h => by simp only [mtW] at h; cases h
  | .glb _, X, sc, x, w, hs, h => by simp only [mtW] at h; cases h
  | .tup _, X, sc, x, w, hs, h => by simp only [mtW] at h; cases h
  | .tupP _, X, sc, x, w, hs, h => by simp only [mtW] at h; cases h
  | .lst _, X, sc, x, w, hs, h => by simp only [mtW] at h; cases h
  | .dnew, X, sc, x, w, hs, h => by simp only [mtW] at h; cases h
  | .bin _ _ _, X, sc, x, w, hs, h => by simp only [mtW] at h; cases h
  | .neg _, X, sc, x, w, hs, h => by simp only [mtW] at h; cases h
  | .cmp _ _ _, X, sc, x, w, hs, h => by simp only [mtW] at h; cases h
  | .chain _ _ _ _ _, X, sc, x, w, hs, h => by simp only [mtW] at h; cases h
  | .and _, X, sc, x, w, hs, h => by simp only [mtW] at h; cases h
  | .or _, X, sc, x, w, hs, h => by simp only [mtW] at h; cases h
  | .not _, X, sc, x, w, hs, h => by simp only [mtW] at h; cases h
  | .ite _ _ _, X, sc, x, w, hs, h => by simp only [mtW] at h; cases h
  | .idx _ _, X, sc, x, w, hs, h => by simp only [mtW] at h; cases h
  | .slc _ _ _, X, sc, x, w, hs, h => by simp only [mtW] at h; cases h
  | .rev _, X, sc, x, w, hs, h => by simp only [mtW] at h; cases h
  | .call _ _, X, sc, x, w, hs, h => by simp only [mtW] at h; cases h
  | .callk _ _, X, sc, x, w, hs, h => by simp only [mtW] at h; cases h
  | .bc _ _, X, sc, x, w, hs, h => by simp only [mtW] at h; cases h
  | .isi _ _, X, sc, x, w, hs, h => by simp only [mtW] at h; cases h
  | .upper _, X, sc, x, w, hs, h => by simp only [mtW] at h; cases h
  | .comp _ _ _ _, X, sc, x, w, hs, h => by simp only [mtW] at h; cases h
  | .dnewT, X, sc, x, w, hs, h => by simp only [mtW] at h; cases h
  | .consS _ _, X, sc, x, w, hs, h => by simp only [mtW] at h; cases h
  | .srts _, X, sc, x, w, hs, h => by simp only [mtW] at h; cases h
  | .srtd _, X, sc, x, w, hs, h => by simp only [mtW] at h; cases h
  | .isup _, X, sc, x, w, hs, h => by simp only [mtW] at h; cases h
  | .dget _ _ _, X, sc, x, w, hs, h => by simp only [mtW] at h; cases h
  | .tupS _, X, sc, x, w, hs, h => by simp only [mtW] at h; cases h
  | .dictP _, X, sc, x, w, hs, h => by simp only [mtW] at h; cases h
  | .srtl _, X, sc, x, w, hs, h => by simp only [mtW] at h; cases h
  | .srti _, X, sc, x, w, hs, h => by simp only [mtW] at h; cases h
  | .popA _ _, X, sc, x, w, hs, h => by simp only [mtW] at h; cases h
  | .callk2 _ _ _ _, X, sc, x, w, hs, h => by simp only [mtW] at h; cases h
  | .itv _, X, sc, x, w, hs, h => by simp only [mtW] at h; cases h
  | .rng1 _, X, sc, x, w, hs, h => by simp only [mtW] at h; cases h
  | .rng2 _ _, X, sc, x, w, hs, h => by simp only [mtW] at h; cases h
  | .zip _ _, X, sc, x, w, hs, h => by simp only [mtW] at h; cases h
  | .enm _, X, sc, x, w, hs, h => by simp only [mtW] at h; cases h
theorem snd_i {T : Tb} {N : List Str} {C : Ctx} : ∀ (l : E) {X : Cx} {sc : Scope} {t x : Expr}, Wd X T N C → X.env.scope = sc → mtI T N l sc t x = true → PI X t x (wI X.K (evI C l))
  | .itv a, X, sc, t, x, w, hs, h => by
    simp only [mtI] at h
    exact i_itv C (snd_e a w hs h).1
  | .rng1 a, X, sc, t, x, w, hs, h => by
    simp only [mtI] at h
    obtain ⟨y, e, g⟩ := chk_ok h
    obtain ⟨p, p', rfl⟩ := asCall_ok e
    obtain ⟨y1, y2, y3⟩ := y
    simp only [Bool.and_eq_true, decide_eq_true_eq] at g
    obtain ⟨⟨⟨g00, g1⟩, g2⟩, ga⟩ := g
    obtain ⟨z, e2, g⟩ := chk_ok ga
    have e3 := one1_ok e2
    have g2 := nil0_ok g2
    rw [Bool.and_eq_true] at g
    subst g00 g2 e3
    exact i_rng1 C (glB_ok hs g1).1 (w.blt _ (by decide)) (snd_e a w hs g.2).1 (star_ok g.1)
  | .rng2 a b, X, sc, t, x, w, hs, h => by
    simp only [mtI] at h
    obtain ⟨y, e, g⟩ := chk_ok h
    obtain ⟨p, p', rfl⟩ := asCall_ok e
    obtain ⟨y1, y2, y3⟩ := y
    simp only [Bool.and_eq_true, decide_eq_true_eq] at g
    obtain ⟨⟨⟨g00, g1⟩, g2⟩, ga⟩ := g
    obtain ⟨z, e2, gb⟩ := chk_ok ga
    have e3 := two2_ok e2
    have g2 := nil0_ok g2
    simp only [Bool.and_eq_true] at gb
    obtain ⟨⟨⟨g3, g4⟩, g5⟩, g6⟩ := gb
    subst g00 g2 e3
    exact i_rng2 C (glB_ok hs g1).1 (w.blt _ (by decide)) (snd_e a w hs g5).1 (snd_e b w hs g6).1 (star_ok g3) (star_ok g4)
  | .zip a b, X, sc, t, x, w, hs, h => by
    simp only [mtI] at h
    obtain ⟨ts, e0, h'⟩ := chk_ok h
    obtain ⟨y, e, g⟩ := chk_ok h'
    obtain ⟨tk, tp, rfl⟩ := asTup_ok e0
    obtain ⟨p, p', rfl⟩ := asCall_ok e
    obtain ⟨y1, y2, y3⟩ := y
    simp only [Bool.and_eq_true, decide_eq_true_eq] at g
    obtain ⟨⟨⟨g00, g1⟩, g2⟩, ga⟩ := g
    obtain ⟨z, e2, gb⟩ := chk_ok ga
    have e3 := two2_ok e2
    have g2 := nil0_ok g2
    simp only [Bool.and_eq_true] at gb
    obtain ⟨⟨⟨g3, g4⟩, g5⟩, g6⟩ := gb
    subst g00 g2 e3
    exact i_zip C (glB_ok hs g1).1 (w.blt _ (by decide)) (snd_e a w hs g5).1 (snd_e b w hs g6).1 (star_ok g3) (star_ok g4) (stars_ok (by rw [List.all_cons, g4]; rfl))
  | .enm a, X, sc, t, x, w, hs, h => by
    simp only [mtI] at h
    obtain ⟨ts, e0, h'⟩ := chk_ok h
    obtain ⟨y, e, g⟩ := chk_ok h'
    obtain ⟨tk, tp, rfl⟩ := asTup_ok e0
    obtain ⟨p, p', rfl⟩ := asCall_ok e
    obtain ⟨y1, y2, y3⟩ := y
    simp only [Bool.and_eq_true, decide_eq_true_eq] at g
    obtain ⟨⟨⟨g00, g1⟩, g2⟩, ga⟩ := g
    obtain ⟨z, e2, g⟩ := chk_ok ga
    have e3 := one1_ok e2
    have g2 := nil0_ok g2
    rw [Bool.and_eq_true] at g
    subst g00 g2 e3
    exact i_enm C (glB_ok hs g1).1 (w.blt _ (by decide)) (snd_e a w hs g.2).1 (star_ok g.1)
  | .nil, X, sc, t, x, w, hs, h => by simp only [mtI] at h; cases h
  | .cons _ _, X, sc, t, x, w, hs, h => by simp only [mtI] at h; cases h
  | .var _, X, sc, t, x, w, hs, h => by simp only [mtI] at h; cases h
  | .non, X, sc, t, x, w, hs, h => by simp only [mtI] at h; cases h
  | .bl _, X, sc, t, x, w, hs, h => by simp only [mtI] at h; cases h
  | .int _, X, sc, t, x, w, hs, h => by simp only [mtI] at h; cases h
  | .str _, X, sc, t, x, w, hs, h => by simp only [mtI] at h; cases h
  | .glb _, X, sc, t, x, w, hs, h => by simp only [mtI] at h; cases h
  | .tup _, X, sc, t, x, w, hs, h => by simp only [mtI] at h; cases h
  | .tupP _, X, sc, t, x, w, hs, h => by simp only [mtI] at h; cases h
  | .lst _, X, sc, t, x, w, hs, h => by simp only [mtI] at h; cases h
  | .dnew, X, sc, t, x, w, hs, h => by simp only [mtI] at h; cases h
  | .bin _ _ _, X, sc, t, x, w, hs, h => by simp only [mtI] at h; cases h
  | .neg _, X, sc, t, x, w, hs, h => by simp only [mtI] at h; cases h
  | .cmp _ _ _, X, sc, t, x, w, hs, h => by simp only [mtI] at h; cases h
  | .chain _ _ _ _ _, X, sc, t, x, w, hs, h => by simp only [mtI] at h; cases h
  | .and _, X, sc, t, x, w, hs, h => by simp only [mtI] at h; cases h
  | .or _, X, sc, t, x, w, hs, h => by simp only [mtI] at h; cases h
  | .not _, X, sc, t, x, w, hs, h => by simp only [mtI] at h; cases h
  | .ite _ _ _, X, sc, t, x, w, hs, h => by simp only [mtI] at h; cases h
  | .idx _ _, X, sc, t, x, w, hs, h => by simp only [mtI] at h; cases h
  | .slc _ _ _, X, sc, t, x, w, hs, h => by simp only [mtI] at h; cases h
  | .rev _, X, sc, t, x, w, hs, h => by simp only [mtI] at h; cases h
  | .call _ _, X, sc, t, x, w, hs, h => by simp only [mtI] at h; cases h
  | .callk _ _, X, sc, t, x, w, hs, h => by simp only [mtI] at h; cases h
  | .bc _ _, X, sc, t, x, w, hs, h => by simp only [mtI] at h; cases h
  | .isi _ _, X, sc, t, x, w, hs, h => by simp only [mtI] at h; cases h
  | .upper _, X, sc, t, x, w, hs, h => by simp only [mtI] at h; cases h
  | .comp _ _ _ _, X, sc, t, x, w, hs, h => by simp only [mtI] at h; cases h
  | .dnewT, X, sc, t, x, w, hs, h => by simp only [mtI] at h; cases h
  | .consS _ _, X, sc, t, x, w, hs, h => by simp only [mtI] at h; cases h
  | .srts _, X, sc, t, x, w, hs, h => by simp only [mtI] at h; cases h
  | .srtd _, X, sc, t, x, w, hs, h => by simp only [mtI] at h; cases h
  | .isup _, X, sc, t, x, w, hs, h => by simp only [mtI] at h; cases h
  | .dget _ _ _, X, sc, t, x, w, hs, h => by simp only [mtI] at h; cases h
  | .tupS _, X, sc, t, x, w, hs, h => by simp only [mtI] at h; cases h
  | .dictP _, X, sc, t, x, w, hs, h => by simp only [mtI] at h; cases h
  | .srtl _, X, sc, t, x, w, hs, h => by simp only [mtI] at h; cases h
  | .srti _, X, sc, t, x, w, hs, h => by simp only [mtI] at h; cases h
  | .popA _ _, X, sc, t, x, w, hs, h => by simp only [mtI] at h; cases h
  | .callk2 _ _ _ _, X, sc, t, x, w, hs, h => by simp only [mtI] at h; cases h
end
end VI

set_option Elab.async false
set_option linter.all false
set_option autoImplicit false
set_option maxRecDepth 100000
set_option maxHeartbeats 8000000
/-! VMd: the look at statements; defs. -/
namespace VI
open PySem PySem.Spec PyProof.Rows L2

section
variable {st : Stmt}
def asAsg : Stmt → Option (Expr × Expr × Pos) | .Assign [t] x p => some (t, x, p) | _ => none
theorem asAsg_ok {o : Expr × Expr × Pos} (h : asAsg st = some o) : st = .Assign [o.1] o.2.1 o.2.2 := by
  unfold asAsg at h
  split at h
  · cases h; rfl
  · cases h
def asExp : Stmt → Option Expr | .Expr x _ => some x | _ => none
theorem asExp_ok {o : Expr} (h : asExp st = some o) : ∃ p, st = .Expr o p := by cases st <;> first | (cases h; done) | (cases h; exact ⟨_, rfl⟩)
def asRet : Stmt → Option Expr | .Return (some x) _ => some x | _ => none
theorem asRet_ok {o : Expr} (h : asRet st = some o) : ∃ p, st = .Return (some o) p := by
  cases st <;> first | (cases h; done) | skip
  rename_i x p
  cases x <;> first | (cases h; done) | (cases h; exact ⟨_, rfl⟩)
def asIfS : Stmt → Option (Expr × List Stmt × List Stmt) | .If c a b _ => some (c, a, b) | _ => none
theorem asIfS_ok {o : Expr × List Stmt × List Stmt} (h : asIfS st = some o) : ∃ p, st = .If o.1 o.2.1 o.2.2 p := by cases st <;> first | (cases h; done) | (cases h; exact ⟨_, rfl⟩)
def asFor : Stmt → Option (Expr × Expr × List Stmt) | .For t i b [] _ => some (t, i, b) | _ => none
theorem asFor_ok {o : Expr × Expr × List Stmt} (h : asFor st = some o) : ∃ p, st = .For o.1 o.2.1 o.2.2 [] p := by
  unfold asFor at h
  split at h
  · cases h; exact ⟨_, rfl⟩
  · cases h
def isPass : Stmt → Bool | .Pass _ => true | _ => false
theorem isPass_ok (h : isPass st = true) : ∃ p, st = .Pass p := by cases st <;> first | (cases h; done) | exact ⟨_, rfl⟩
def isDoc : Stmt → Bool | .Expr (.Constant (.str _) _ _) _ => true | _ => false
theorem isDoc_ok (h : isDoc st = true) : ∃ x k p p', st = .Expr (.Constant (.str x) k p) p' := by
  unfold isDoc at h
  split at h
  · exact ⟨_, _, _, _, rfl⟩
  · cases h
end
/-- where a name stands -/
def asNameP : Expr → Option (Str × Pos) | .Name id p => some (id, p) | _ => none
theorem asNameP_ok {x : Expr} {o : Str × Pos} (h : asNameP x = some o) : x = .Name o.1 o.2 := by cases x <;> first | (cases h; done) | (cases h; rfl)
def notTup : Expr → Bool | .Tuple _ _ _ => false | _ => true
/-- is the comprehension's list stored by the block -/
def swB (sc : Scope) (id : Str) (py : Pos) : Expr → Bool
  | .ListComp _ _ s p => decide (sc.names.lookup id = some .local) && decide (py.line = p.line) && !(s.names.any fun (n, k) => n == id && (k == .local || k == .cell))
  | _ => false
def isDS : Expr → Bool | .SetComp .. => true | .DictComp .. => true | _ => false
theorem swB_ok {env : Env} {id : Str} {py : Pos} {x : Expr} {l : Nat} (hk : env.scope.kind = .function) (hd : isDS x = false) : swapsWith x (some (.Name id py)) l env = pure (swB env.scope id py x) := by
  have bk : env.blockKind = .function := by unfold Env.blockKind; rw [hk]; rfl
  cases x <;> first | rfl | (cases hd; done) | skip
  rename_i e g s p
  show (pure (env.blockKind == .function && env.kindOf id == some .local && py.line == p.line && !(s.names.any fun (n, k) => n == id && (k == .local || k == .cell))) : Sem Bool) = _
  congr 1
  rw [bk]
  unfold swB Env.kindOf
  have e1 : ∀ a : Option NameKind, (a == some NameKind.local) = decide (a = some .local) := fun a => by
    by_cases h : a = some .local
    · rw [h]; rfl
    · rw [decide_eq_false h]; exact beq_eq_false_iff_ne.mpr h
  rw [e1]
  rfl
theorem sole_ok {es : List Expr} {k : Nat} {p : Pos} {x : Expr} {l : Nat} {env : Env} : swapsWithSole [.Tuple es k p] x l env = pure false := by cases x <;> rfl
theorem sole_sub {o i : Expr} {p : Pos} {x : Expr} {l : Nat} {env : Env} : swapsWithSole [.Subscript o i p] x l env = pure false := by cases x <;> rfl
theorem swp_ok {es : List Expr} {k : Nat} {p : Pos} {x : Expr} {env : Env} (h : notTup x = true) : swappedStores [.Tuple es k p] x env = pure none := by cases x <;> first | (cases h; done) | rfl
theorem swp_sub {o i : Expr} {p : Pos} {x : Expr} {env : Env} : swappedStores [.Subscript o i p] x env = pure none := by cases x <;> rfl
def bothB (sc : Scope) (x y : Str) (px py : Pos) : Bool := decide (sc.names.lookup x = some .local) && decide (sc.names.lookup y = some .local) && decide (py.line = px.line)
theorem par_yes {env : Env} {x y : Str} {px py pt pt2 : Pos} {kt k2 : Nat} {a b : Expr} (hk : env.scope.kind = .function) (h : bothB env.scope x y px py = true) (hxy : x ≠ y) (ha : notStar a = true) (hb : notStar b = true)
    (hf : [a, b].all (foldedForSure 8) = false) (hc : [a, b].all (constantsAlone 8) = false) : swappedStores [.Tuple [.Name x px, .Name y py] kt pt] (.Tuple [a, b] k2 pt2) env = pure (some [x, y]) := by
  have bk : env.blockKind = .function := by unfold Env.blockKind; rw [hk]; rfl
  unfold bothB at h
  simp only [Bool.and_eq_true, decide_eq_true_eq] at h
  obtain ⟨⟨h1, h2⟩, h3⟩ := h
  have k1 : env.kindOf x = some .local := h1
  have k2 : env.kindOf y = some .local := h2
  have st : ([a, b].any fun | .Starred .. => true | _ => false) = false := by
    cases a <;> first | (cases ha; done) | (cases b <;> first | (cases hb; done) | rfl)
  have ed : [x, y].eraseDups.length = 2 := by
    rw [List.eraseDups_cons]
    have : ([y].filter fun b => !(b == x)) = [y] := by
      have : (y == x) = false := beq_eq_false_iff_ne.mpr (Ne.symm hxy)
      simp [List.filter, this]
    rw [this]
    rfl
  have fm : ([Expr.Name x px, Expr.Name y py].filterMap fun | .Name id pos => if env.kindOf id == some .local && pos.line == px.line then some id else none | _ => none) = [x, y] := by
    simp [k1, k2, h3]
  simp only [swappedStores, pure_bind, List.length_cons, List.length_nil, List.head?_cons, Option.map_some, Option.getD_some, Expr.pos, bk, hf, hc]
  rw [if_neg (by decide), if_neg (fun h => by have h' : (false : Bool) = true := st.symm.trans h; cases h')]
  generalize hL : List.filterMap _ [Expr.Name x px, Expr.Name y py] = L
  have e : L = [x, y] := hL.symm.trans fm
  rw [e, ed]
  rfl
theorem par_no {env : Env} {x y : Str} {px py pt pt2 : Pos} {kt k2 : Nat} {a b : Expr} (hk : env.scope.kind = .function) (h : bothB env.scope x y px py = false) (ha : notStar a = true) (hb : notStar b = true) : swappedStores [.Tuple [.Name x px, .Name y py] kt pt] (.Tuple [a, b] k2 pt2) env = pure none := by
  have bk : env.blockKind = .function := by unfold Env.blockKind; rw [hk]; rfl
  have st : ([a, b].any fun | .Starred .. => true | _ => false) = false := by
    cases a <;> first | (cases ha; done) | (cases b <;> first | (cases hb; done) | rfl)
  have e1 : ∀ a : Option NameKind, (a == some NameKind.local) = decide (a = some .local) := fun a => by
    by_cases h : a = some .local
    · rw [h]; rfl
    · rw [decide_eq_false h]; exact beq_eq_false_iff_ne.mpr h
  have fm : (([Expr.Name x px, Expr.Name y py].filterMap fun | .Name id pos => if env.kindOf id == some .local && pos.line == px.line then some id else none | _ => none).length != 2) = true := by
    have h : (decide (env.kindOf x = some .local) && decide (env.kindOf y = some .local) && decide (py.line = px.line)) = false := h
    simp only [List.filterMap_cons, List.filterMap_nil, e1]
    by_cases a1 : env.kindOf x = some .local
    · by_cases a2 : env.kindOf y = some .local
      · by_cases a3 : py.line = px.line
        · simp [a1, a2, a3] at h
        · simp [a1, a2, a3]
      · simp [a1, a2]
    · by_cases a2 : env.kindOf y = some .local
      · by_cases a3 : py.line = px.line
        · simp [a1, a2, a3]
        · simp [a1, a2, a3]
      · simp [a1, a2]
  simp only [swappedStores, pure_bind, List.length_cons, List.length_nil, List.head?_cons, Option.map_some, Option.getD_some, Expr.pos, bk]
  rw [if_neg (by decide), if_neg (fun h => by have h' : (false : Bool) = true := st.symm.trans h; cases h')]
  exact if_pos ((Bool.or_eq_true _ _).mpr (.inl fm))

theorem par3_yes {env : Env} {x y z : Str} {px py pz pt pt2 : Pos} {kt k2 : Nat} {a b c : Expr} (hk : env.scope.kind = .function) (h1 : env.scope.names.lookup x = some .local) (h2 : env.scope.names.lookup y = some .local) (h3 : env.scope.names.lookup z = some .local) (l2 : py.line = px.line) (l3 : pz.line = px.line)
    (hxy : x ≠ y) (hxz : x ≠ z) (hyz : y ≠ z) (ha : notStar a = true) (hb : notStar b = true) (hc : notStar c = true)
    (hf : [a, b, c].all (foldedForSure 8) = false) (hcc : [a, b, c].all (constantsAlone 8) = false) : swappedStores [.Tuple [.Name x px, .Name y py, .Name z pz] kt pt] (.Tuple [a, b, c] k2 pt2) env = pure (some [x, y, z]) := by
  have bk : env.blockKind = .function := by unfold Env.blockKind; rw [hk]; rfl
  have k1 : env.kindOf x = some .local := h1
  have k2 : env.kindOf y = some .local := h2
  have k3 : env.kindOf z = some .local := h3
  have k : ∀ e : Expr, notStar e = true → (match e with | .Starred .. => true | _ => false) = false := fun e h => by cases e <;> first | (cases h; done) | rfl
  have st : ([a, b, c].any fun | .Starred .. => true | _ => false) = false := by
    simp only [List.any_cons, List.any_nil, k a ha, k b hb, k c hc]
    rfl
  have e1 : (y == x) = false := beq_eq_false_iff_ne.mpr (Ne.symm hxy)
  have e2 : (z == x) = false := beq_eq_false_iff_ne.mpr (Ne.symm hxz)
  have e3 : (z == y) = false := beq_eq_false_iff_ne.mpr (Ne.symm hyz)
  have ed : [x, y, z].eraseDups.length = 3 := by
    rw [List.eraseDups_cons]
    have : ([y, z].filter fun b => !(b == x)) = [y, z] := by simp [List.filter, e1, e2]
    rw [this, List.eraseDups_cons]
    have : ([z].filter fun b => !(b == y)) = [z] := by simp [List.filter, e3]
    rw [this]
    rfl
  have fm : ([Expr.Name x px, Expr.Name y py, Expr.Name z pz].filterMap fun | .Name id pos => if env.kindOf id == some .local && pos.line == px.line then some id else none | _ => none) = [x, y, z] := by
    simp [k1, k2, k3, l2, l3]
  simp only [swappedStores, pure_bind, List.length_cons, List.length_nil, List.head?_cons, Option.map_some, Option.getD_some, Expr.pos, bk, hf, hcc]
  rw [if_neg (by decide), if_neg (fun h => by have h' : (false : Bool) = true := st.symm.trans h; cases h')]
  generalize hL : List.filterMap _ [Expr.Name x px, Expr.Name y py, Expr.Name z pz] = L
  have e : L = [x, y, z] := hL.symm.trans fm
  rw [e, ed]
  rfl

/-! ### the look at statements -/
def lclB (N : List Str) (sc : Scope) (i : Nat) (id : Str) : Bool := decide (N[i]? = some id) && decide (sc.names.lookup id = some .local)
def nmV (N : List Str) (sc : Scope) (i : Nat) (id : Str) : Bool := decide (N[i]? = some id) && visB sc id && !(id == ("__debug__" : Str)) && !(id == ("__classdict__" : Str))
structure PickF where
  (rn : Str) (cx : Expr) (xn : Str) (dx : Expr) (yn : Str) (ex : Expr) (zn rn2 rn3 : Str) (ks : List Expr) (vx : Expr)
def asIfN : Expr → Option (Expr × Str × Expr) | .IfExp c (.Name n _) e _ => some (c, n, e) | _ => none
theorem asIfN_ok {x : Expr} {o : Expr × Str × Expr} (h : asIfN x = some o) : ∃ p p', x = .IfExp o.1 (.Name o.2.1 p) o.2.2 p' := by
  cases x <;> first | (cases h; done) | skip
  rename_i c a b p
  cases a <;> first | (cases h; done) | (cases h; exact ⟨_, _, rfl⟩)
def isNon : Expr → Bool | .Constant .none _ _ => true | _ => false
theorem isNon_ok {x : Expr} (h : isNon x = true) : ∃ k p, x = .Constant .none k p := by
  cases x <;> first | (cases h; done) | skip
  rename_i c k p
  cases c <;> first | (cases h; done) | exact ⟨_, _, rfl⟩
/-- r is not None -/
def asNotN : Expr → Option Str | .Compare (.Name n _) [.IsNot] [.Constant .none _ _] _ => some n | _ => none
theorem asNotN_ok {x : Expr} {n : Str} (h : asNotN x = some n) : ∃ p k q p', x = .Compare (.Name n p) [.IsNot] [.Constant .none k q] p' := by
  unfold asNotN at h
  split at h
  · cases h; exact ⟨_, _, _, _, rfl⟩
  · cases h
/-- r[ks] = v -/
def asPutT : Stmt → Option (Str × List Expr × Expr) | .Assign [.Subscript (.Name n _) (.Tuple ks _ _) _] v _ => some (n, ks, v) | _ => none
theorem asPutT_ok {st : Stmt} {o : Str × List Expr × Expr} (h : asPutT st = some o) : ∃ p k q p' p2, st = .Assign [.Subscript (.Name o.1 p) (.Tuple o.2.1 k q) p'] o.2.2 p2 := by
  unfold asPutT at h
  split at h
  · cases h; exact ⟨_, _, _, _, _, rfl⟩
  · cases h
def pickC (T : Tb) (N : List Str) (sc : Scope) (r x y z : Nat) (c d e k v : E) (st1 st2 : Stmt) : Bool := chk (asAsg st1) fun a1 => chk (asName a1.1) fun rn => chk (asIfN a1.2.1) fun f1 => chk (asIfN f1.2.2) fun f2 => chk (asIfN f2.2.2) fun f3 => chk (asIfS st2) fun g => chk (asNotN g.1) fun rn2 => chk (one1 g.2.1) fun st3 => chk (asPutT st3) fun w =>
  isNon f3.2.2 && nil0 g.2.2 && decide (rn2 = rn) && decide (w.1 = rn) && nmV N sc r rn && locB sc rn && nmV N sc x f1.2.1 && nmV N sc y f2.2.1 && nmV N sc z f3.2.1 &&
  mtE T N c sc f1.1 && tOk c && mtE T N d sc f2.1 && tOk d && mtE T N e sc f3.1 && tOk e && mtL T N k sc w.2.1 && mtE T N v sc w.2.2 && notComp w.2.2
def pickB (T : Tb) (N : List Str) (s : S) (sc : Scope) (sts : List Stmt) : Option (List Stmt) := match s, sts with
  | .pick r x y z c d e k v, st1 :: st2 :: rest => if pickC T N sc r x y z c d e k v st1 st2 = true then some rest else none
  | _, _ => none
mutual
def mtS (T : Tb) (N : List Str) : S → Scope → Stmt → Bool
  | .pass, _, st => isPass st
  | .doc, _, st => isDoc st
  | .raise, _, _ => true
  | .asg tg e, sc, st => chk (asAsg st) fun y => mtE T N e sc y.2.1 && (match tg with
    | .nm i => chk (asNameP y.1) fun z => decide (N[i]? = some z.1) && locB sc z.1
    | .tp is => tgB N (fun _ => true) sc (.tp is) y.1 && notTup y.2.1)
  | .par i j a b, sc, st => chk (asAsg st) fun y => chk (asTup y.1) fun ts => chk (two2 ts) fun t => chk (asTup y.2.1) fun vs => chk (two2 vs) fun v => chk (asNameP t.1) fun n1 => chk (asNameP t.2) fun n2 =>
      decide (N[i]? = some n1.1) && decide (N[j]? = some n2.1) && notStar v.1 && notStar v.2 && mtE T N a sc v.1 && mtE T N b sc v.2 && locB sc n1.1 && locB sc n2.1 && decide (i ≠ j) && decide (n1.1 ≠ n2.1) && (!bothB sc n1.1 n2.1 n1.2 n2.2 || (!([v.1, v.2].all (foldedForSure 8)) && !([v.1, v.2].all (constantsAlone 8))))
  | .alone e, sc, st => chk (asExp st) fun x => notComp x && mtE T N e sc x
  | .par3 i j l a b c, sc, st => chk (asAsg st) fun y => chk (asTup y.1) fun ts => chk (three3 ts) fun t => chk (asTup y.2.1) fun vs => chk (three3 vs) fun v => chk (asNameP t.1) fun n1 => chk (asNameP t.2.1) fun n2 => chk (asNameP t.2.2) fun n3 =>
      lclB N sc i n1.1 && lclB N sc j n2.1 && lclB N sc l n3.1 && decide (i ≠ j) && decide (i ≠ l) && decide (j ≠ l) && decide (n1.1 ≠ n2.1) && decide (n1.1 ≠ n3.1) && decide (n2.1 ≠ n3.1) && decide (n2.2.line = n1.2.line) && decide (n3.2.line = n1.2.line) &&
      notStar v.1 && notStar v.2.1 && notStar v.2.2 && mtE T N a sc v.1 && mtE T N b sc v.2.1 && mtE T N c sc v.2.2 && !([v.1, v.2.1, v.2.2].all (foldedForSure 8)) && !([v.1, v.2.1, v.2.2].all (constantsAlone 8))
  | .updd i e, sc, st => chk (asExp st) fun x => chk (asMeth x) fun y => decide (y.2.1 = "update") && nil0 y.2.2.2.1 && decide (y.2.2.2.2.1.endLine = y.2.2.2.2.2.line) && mtE T N (.var i) sc y.1 && chk (one1 y.2.2.1) fun z => chk (asCall z) fun u => decide (u.1 = "dict") && glB sc "dict" && nil0 u.2.2 && chk (one1 u.2.1) fun v => notStar v && mtE T N e sc v
  | .seti i k e, sc, st => chk (asAsg st) fun y => chk (asSub y.1) fun z => mtE T N e sc y.2.1 && mtE T N (.var i) sc z.1 && mtE T N k sc z.2 && notSli z.2
  | .app i e, sc, st => chk (asExp st) fun x => chk (asMeth x) fun y => decide (y.2.1 = "append") && nil0 y.2.2.2.1 && decide (y.2.2.2.2.1.endLine = y.2.2.2.2.2.line) && mtE T N (.var i) sc y.1 && chk (one1 y.2.2.1) fun z => notStar z && mtE T N e sc z
  | .ext i e, sc, st => chk (asExp st) fun x => chk (asMeth x) fun y => decide (y.2.1 = "extend") && nil0 y.2.2.2.1 && decide (y.2.2.2.2.1.endLine = y.2.2.2.2.2.line) && mtE T N (.var i) sc y.1 && chk (one1 y.2.2.1) fun z => notStar z && mtE T N e sc z
  | .ret e, sc, st => chk (asRet st) fun x => mtE T N e sc x
  | .ite c a b, sc, st => chk (asIfS st) fun y => mtE T N c sc y.1 && tOk c && mtB T N a sc y.2.1 && mtB T N b sc y.2.2
  | .for tg it b, sc, st => chk (asFor st) fun y => tgB N (fun _ => true) sc tg y.1 && mtI T N it sc y.1 y.2.1 && notSet y.2.1 && mtB T N b sc y.2.2
  | _, _, _ => false
def mtB (T : Tb) (N : List Str) : S → Scope → List Stmt → Bool
  | .nil, _, sts => nil0 sts
  | .cons s r, sc, sts => (match sts with | [] => false | st :: rest => mtS T N s sc st && mtB T N r sc rest) || (match pickB T N s sc sts with | none => false | some rest => mtB T N r sc rest)
  | _, _, _ => false
end
/-- in a def's body -/
structure Wb (X : Cx) (T : Tb) (N : List Str) (C : Ctx) (sc : Scope) : Prop where
  w : Wd X T N C
  fn : X.fn = fun _ => true
  xe : X.xe = fun _ _ => False
  hsc : X.env.scope = sc
  kd : sc.kind = .function
theorem mtE_ds {T : Tb} {N : List Str} {e : E} {sc : Scope} {x : Expr} (h : mtE T N e sc x = true) : isDS x = false := by
  cases x <;> first | rfl | skip
  all_goals (cases e <;> first | (simp only [mtE] at h; cases h; done) | skip)
theorem mtE_lc {T : Tb} {N : List Str} {e : E} {sc : Scope} {y : Expr} {g : List Comprehension} {s : Scope} {p : Pos} (h : mtE T N e sc (.ListComp y g s p) = true) : ∃ tg elt it c, e = .comp tg elt it c := by
  cases e <;> first | exact ⟨_, _, _, _, rfl⟩ | (simp only [mtE] at h; cases h; done)
section
variable {T : Tb} {N : List Str} {C : Ctx} {X : Cx} {sc : Scope} {P : Keep}
theorem okx_var {i : Nat} {x : Expr} {name : Str} (w : Wd X T N C) (hs : X.env.scope = sc) (h : mtE T N (.var i) sc x = true) : PE X x (tO X.K (ev C (.var i))) ∧ attributeBase x name X.env (eval x X.env) = eval x X.env := by
  refine ⟨(snd_e (.var i) w hs h).1, ?_⟩
  simp only [mtE] at h
  obtain ⟨id, e, _⟩ := chk_ok h
  obtain ⟨p, rfl⟩ := asName_ok e
  rfl
theorem sub_ok {o k : Expr} {p : Pos} {env : Env} (h : notSli k = true) : ∀ v, assign (.Subscript o k p) env v = (do
      let ov ← holding [v] (eval o env)
      let iv ← holding [v, ov] (eval k env)
      standAt p
      holding [v, ov, iv] (setItem ov iv v)
      release [v, ov, iv] []) := by intro v; cases k <;> first | (cases h; done) | rfl
end
theorem comp_parts {T : Tb} {N : List Str} {C : Ctx} {X : Cx} {sc : Scope} {tg : Tg} {elt it c : E} {x : Expr} (w : Wd X T N C) (hs : X.env.scope = sc) (h : mtE T N (.comp tg elt it c) sc x = true) : ∃ y1 y2 y3 y4 y5 p, x = .ListComp y1 [⟨y2, y3, y4, 0⟩] y5 p ∧ PI X y2 y3 (wI X.K (evI C it)) ∧ BlkOk X.N X.env.scope y5 (ownOf N tg.slots) ∧
    (∀ (s : Shared) (H : Hp) (Cl : Addr) (cl : List (Str × Addr)) (fp : List Addr), PG (X.blk s H y5 (compEnvC y5 cl Cl X.env) fp) y2 (gT X.K tg)) ∧ (∀ (s : Shared) (H : Hp) (Cl : Addr) (cl : List (Str × Addr)) (fp : List Addr), PTs (X.blk s H y5 (compEnvC y5 cl Cl X.env) fp) y4 (tB' X.K fun ρ => optC c (ev C c ρ) ρ)) ∧
    (∀ (s : Shared) (H : Hp) (Cl : Addr) (cl : List (Str × Addr)) (fp : List Addr), PE (X.blk s H y5 (compEnvC y5 cl Cl X.env) fp) y1 (tO X.K (ev C elt))) ∧ ∀ v, foldedSetIterable y3 X.env v = pure v := by
  simp only [mtE] at h
  obtain ⟨y, e, g⟩ := chk_ok h
  obtain ⟨p, e1⟩ := asLc_ok e
  obtain ⟨y1, y2, y3, y4, y5⟩ := y
  simp only [Bool.and_eq_true] at g
  obtain ⟨⟨⟨⟨⟨g1, g2⟩, g3⟩, g4⟩, g5⟩, g6⟩ := g
  refine ⟨y1, y2, y3, y4, y5, p, e1, snd_i it w hs g3, by rw [w.n, hs]; exact blkOk_by g1, fun s H Cl cl fp => tg_okE (X := X.blk s H y5 (compEnvC y5 cl Cl X.env) fp) w.n w.nd (by rw [← hs]; rfl) rfl w.calm g2, fun s H Cl cl fp => ?_,
    fun s H Cl cl fp => (snd_e elt (w.blk s H y5 (compEnvC y5 cl Cl X.env) fp) (by rw [← hs]; rfl) g4).1, set_ok0 g5⟩
  cases y4 with
  | nil =>
    obtain rfl := isNil_ok g6
    exact pts_nilD C
  | cons u r =>
    simp only [Bool.and_eq_true] at g6
    obtain ⟨⟨g7, g8⟩, g9⟩ := g6
    obtain rfl := nil0_ok g7
    exact pts_oneD C (mtE_nil g9) ((snd_e c (w.blk s H y5 (compEnvC y5 cl Cl X.env) fp) (by rw [← hs]; rfl) g9).2 g8)
theorem nmV_ok {N : List Str} {sc : Scope} {i : Nat} {id : Str} (h : nmV N sc i id = true) : N[i]? = some id ∧ Vis sc id ∧ (id == ("__debug__" : Str)) = false ∧ (id == ("__classdict__" : Str)) = false := by
  unfold nmV at h
  simp only [Bool.and_eq_true, Bool.not_eq_true', decide_eq_true_eq] at h
  exact ⟨h.1.1.1, visB_ok h.1.1.2, h.1.2, h.2⟩
theorem pick_snd {T : Tb} {N : List Str} {C : Ctx} {P : Keep} {X : Cx} {sc : Scope} {s : S} {sr : S} {sts rest : List Stmt} (w : Wb X T N C sc) (h : pickB T N s sc sts = some rest) (h2 : PSs X rest (tSt X.K P (run C P sr))) : PSs X sts (tSt X.K P (run C P (.cons s sr))) := by
  unfold pickB at h
  split at h
  · rename_i r x y z c d e k v st1 st2 rest'
    split at h
    · rename_i g
      cases h
      unfold pickC at g
      obtain ⟨a1, e1, ga⟩ := chk_ok g
      clear g
      obtain ⟨rn, e2, gb⟩ := chk_ok ga
      clear ga
      obtain ⟨f1, e3, gc⟩ := chk_ok gb
      clear gb
      obtain ⟨f2, e4, gd⟩ := chk_ok gc
      clear gc
      obtain ⟨f3, e5, ge⟩ := chk_ok gd
      clear gd
      obtain ⟨gg, e6, gf⟩ := chk_ok ge
      clear ge
      obtain ⟨rn2, e7, gh⟩ := chk_ok gf
      clear gf
      obtain ⟨st3, e8, gi⟩ := chk_ok gh
      clear gh
      obtain ⟨w3, e9, g⟩ := chk_ok gi
      clear gi
      have e1 := asAsg_ok e1
      obtain ⟨pr, e2⟩ := asName_ok e2
      obtain ⟨px, pc, e3⟩ := asIfN_ok e3
      obtain ⟨py, pd, e4⟩ := asIfN_ok e4
      obtain ⟨pz, pe, e5⟩ := asIfN_ok e5
      obtain ⟨p5, e6⟩ := asIfS_ok e6
      obtain ⟨rp2, nk2, np2, pq, e7⟩ := asNotN_ok e7
      have e8 := one1_ok e8
      obtain ⟨rp3, tk, kp, ps, p4, e9⟩ := asPutT_ok e9
      simp only [Bool.and_eq_true, decide_eq_true_eq] at g
      obtain ⟨⟨⟨⟨⟨⟨⟨⟨⟨⟨⟨⟨⟨⟨⟨⟨⟨h1, h2'⟩, h3⟩, h4⟩, h5⟩, h6⟩, h7⟩, h8⟩, h9⟩, h10⟩, h11⟩, h12⟩, h13⟩, h14⟩, h15⟩, h16⟩, h17⟩, h18⟩ := g
      obtain ⟨nk, np, h1⟩ := isNon_ok h1
      have h2' := nil0_ok h2'
      rw [e1, e2, e3, e4, e5, h1, e6, e7, e8, e9, h2', h3, h4]
      obtain ⟨r1, r2, r3, r4⟩ := nmV_ok h5
      obtain ⟨x1, x2, x3, x4⟩ := nmV_ok h7
      obtain ⟨y1, y2, y3, y4⟩ := nmV_ok h8
      obtain ⟨z1, z2, z3, z4⟩ := nmV_ok h9
      have hs := w.hsc
      have h6 := locB_ok h6
      rw [← hs] at r2 x2 y2 z2 h6
      rw [← w.w.n] at r1 x1 y1 z1
      exact m_pick C (by rw [w.w.n]; exact w.w.nd) (by have := w.w.un; omega) r1 h6 r2 (by rw [w.fn]) r3 r4 x1 x2 x3 x4 y1 y2 y3 y4 z1 z2 z3 z4
        ((snd_e c w.w hs h10).2 h11) ((snd_e d w.w hs h12).2 h13) ((snd_e e w.w hs h14).2 h15) (snd_l k w.w hs h16).1 (snd_e v w.w hs h17).1 (comp_ok h18) h2
    · cases h
  · cases h
mutual
theorem snd_s {T : Tb} {N : List Str} {C : Ctx} {P : Keep} : ∀ (s : S) {X : Cx} {sc : Scope} {st : Stmt}, Wb X T N C sc → mtS T N s sc st = true → PS X st (tSt X.K P (run C P s))
  | .pass, X, sc, st, w, h => by
    simp only [mtS] at h
    obtain ⟨p, rfl⟩ := isPass_ok h
    exact m_pass C
  | .doc, X, sc, st, w, h => by
    simp only [mtS] at h
    obtain ⟨x, k, p, p', rfl⟩ := isDoc_ok h
    exact m_doc C
  | .raise, X, sc, st, w, h => m_raise C
  | .ret e, X, sc, st, w, h => by
    simp only [mtS] at h
    obtain ⟨x, e1, g⟩ := chk_ok h
    obtain ⟨p, rfl⟩ := asRet_ok e1
    exact m_ret C (snd_e e w.w w.hsc g).1
  | .ite c a b, X, sc, st, w, h => by
    simp only [mtS] at h
    obtain ⟨y, e1, g⟩ := chk_ok h
    obtain ⟨p, rfl⟩ := asIfS_ok e1
    simp only [Bool.and_eq_true] at g
    obtain ⟨⟨⟨g1, g2⟩, g3⟩, g4⟩ := g
    exact m_ite C ((snd_e c w.w w.hsc g1).2 g2) (snd_b a w g3) (snd_b b w g4)
  | .for tg it b, X, sc, st, w, h => by
    simp only [mtS] at h
    obtain ⟨y, e1, g⟩ := chk_ok h
    obtain ⟨p, rfl⟩ := asFor_ok e1
    simp only [Bool.and_eq_true] at g
    obtain ⟨⟨⟨g1, g2⟩, g3⟩, g4⟩ := g
    exact m_for C w.xe w.w.calm (snd_i it w.w w.hsc g2) (tg_okE w.w.n w.w.nd w.hsc w.fn w.w.calm g1) (snd_b b w g4) (set_ok0 g3)
  | .app i e, X, sc, st, w, h => by
    simp only [mtS] at h
    obtain ⟨x, e1, g⟩ := chk_ok h
    obtain ⟨p, rfl⟩ := asExp_ok e1
    obtain ⟨y, e2, g'⟩ := chk_ok g
    have e3 := asMeth_ok e2
    obtain ⟨y1, y2, y3, y4, y5, y6⟩ := y
    simp only [Bool.and_eq_true, decide_eq_true_eq] at g'
    obtain ⟨⟨⟨⟨g1, g2⟩, g3⟩, g4⟩, g5⟩ := g'
    obtain ⟨z, e4, g6⟩ := chk_ok g5
    rw [Bool.and_eq_true] at g6
    have e5 := one1_ok e4
    have e6 := nil0_ok g2
    subst g1 e5 e6 e3
    obtain ⟨pv, hb⟩ := okx_var (name := "append") w.w w.hsc g4
    exact m_app C pv (snd_e e w.w w.hsc g6.2).1 hb (by rw [g3]; exact beq_self_eq_true _) (star_ok g6.1)
  | .ext i e, X, sc, st, w, h => by
    simp only [mtS] at h
    obtain ⟨x, e1, g⟩ := chk_ok h
    obtain ⟨p, rfl⟩ := asExp_ok e1
    obtain ⟨y, e2, g'⟩ := chk_ok g
    have e3 := asMeth_ok e2
    obtain ⟨y1, y2, y3, y4, y5, y6⟩ := y
    simp only [Bool.and_eq_true, decide_eq_true_eq] at g'
    obtain ⟨⟨⟨⟨g1, g2⟩, g3⟩, g4⟩, g5⟩ := g'
    obtain ⟨z, e4, g6⟩ := chk_ok g5
    rw [Bool.and_eq_true] at g6
    have e5 := one1_ok e4
    have e6 := nil0_ok g2
    subst g1 e5 e6 e3
    obtain ⟨pv, hb⟩ := okx_var (name := "extend") w.w w.hsc g4
    exact m_ext C pv (snd_e e w.w w.hsc g6.2).1 hb (by rw [g3]; exact beq_self_eq_true _) (star_ok g6.1)
  | .alone e, X, sc, st, w, h => by
    simp only [mtS] at h
    obtain ⟨x, e1, g⟩ := chk_ok h
    obtain ⟨p, rfl⟩ := asExp_ok e1
    rw [Bool.and_eq_true] at g
    exact m_alone C (snd_e e w.w w.hsc g.2).1 (comp_ok g.1)
  | .par3 i j l a b c, X, sc, st, w, h => by
    simp only [mtS] at h
    obtain ⟨y, e1, g⟩ := chk_ok h
    have e2 := asAsg_ok e1
    obtain ⟨y1, y2, y3⟩ := y
    obtain ⟨ts, e3, ga⟩ := chk_ok g
    obtain ⟨t, e4, gb⟩ := chk_ok ga
    obtain ⟨vs, e5, gc⟩ := chk_ok gb
    obtain ⟨v, e6, gd⟩ := chk_ok gc
    obtain ⟨n1, e7, ge⟩ := chk_ok gd
    obtain ⟨n2, e8, gf⟩ := chk_ok ge
    obtain ⟨n3, e8', gg⟩ := chk_ok gf
    obtain ⟨kt, pt, e9⟩ := asTup_ok e3
    obtain ⟨k2, pt2, e10⟩ := asTup_ok e5
    have e11 := three3_ok e4
    have e12 := three3_ok e6
    have e13 := asNameP_ok e7
    have e14 := asNameP_ok e8
    have e15 := asNameP_ok e8'
    obtain ⟨t1, t2, t3⟩ := t
    obtain ⟨v1, v2, v3⟩ := v
    obtain ⟨n1, p1⟩ := n1
    obtain ⟨n2, p2⟩ := n2
    obtain ⟨n3, p3⟩ := n3
    simp only [lclB, Bool.and_eq_true, Bool.not_eq_true', decide_eq_true_eq] at gg
    obtain ⟨⟨⟨⟨⟨⟨⟨⟨⟨⟨⟨⟨⟨⟨⟨⟨⟨⟨⟨g1, g1'⟩, g2, g2'⟩, g3, g3'⟩, g4⟩, g5⟩, g6⟩, g7⟩, g8⟩, g9⟩, g10⟩, g11⟩, g12⟩, g13⟩, g14⟩, g15⟩, g16⟩, g17⟩, g18⟩, g19⟩ := gg
    have e9 : y1 = .Tuple ts kt pt := e9
    have e10 : y2 = .Tuple vs k2 pt2 := e10
    have e13 : t1 = .Name n1 p1 := e13
    have e14 : t2 = .Name n2 p2 := e14
    have e15 : t3 = .Name n3 p3 := e15
    have e11 : ts = [t1, t2, t3] := e11
    have e12 : vs = [v1, v2, v3] := e12
    subst e2 e9 e10 e11 e12 e13 e14 e15
    have kd : X.env.scope.kind = .function := by rw [w.hsc]; exact w.kd
    have hs := w.hsc
    rw [← hs] at g1' g2' g3'
    rw [← w.w.n] at g1 g2 g3
    exact m_par3 C w.w.calm (by rw [w.w.n]; exact w.w.nd) g1 g2 g3 g4 g5 g6 g1' g2' g3' (snd_e a w.w hs g15).1 (snd_e b w.w hs g16).1 (snd_e c w.w hs g17).1 (star_ok g12) (star_ok g13) (star_ok g14)
      (par3_yes kd g1' g2' g3' g10 g11 g7 g8 g9 g12 g13 g14 g18 g19)
  | .updd i e, X, sc, st, w, h => by
    simp only [mtS] at h
    obtain ⟨x, e1, g⟩ := chk_ok h
    obtain ⟨p, rfl⟩ := asExp_ok e1
    obtain ⟨y, e2, g'⟩ := chk_ok g
    have e3 := asMeth_ok e2
    obtain ⟨y1, y2, y3, y4, y5, y6⟩ := y
    simp only [Bool.and_eq_true, decide_eq_true_eq] at g'
    obtain ⟨⟨⟨⟨g1, g2⟩, g3⟩, g4⟩, g5⟩ := g'
    obtain ⟨z, e4, ga⟩ := chk_ok g5
    obtain ⟨u, e7, gb⟩ := chk_ok ga
    obtain ⟨q1, q2, e8⟩ := asCall_ok e7
    obtain ⟨u1, u2, u3⟩ := u
    simp only [Bool.and_eq_true, decide_eq_true_eq] at gb
    obtain ⟨⟨⟨g7, g8⟩, g9⟩, gc⟩ := gb
    obtain ⟨v, e9, gd⟩ := chk_ok gc
    rw [Bool.and_eq_true] at gd
    have e5 := one1_ok e4
    have e9 := one1_ok e9
    have e6 := nil0_ok g2
    have g9 := nil0_ok g9
    subst g1 e5 e6 e3 e8 g7 g9 e9
    obtain ⟨pv, hb⟩ := okx_var (name := "update") w.w w.hsc g4
    exact m_updd C w.w.calm (glB_ok w.hsc g8).1 (w.w.blt _ (by decide)) pv (snd_e e w.w w.hsc gd.2).1 hb (by rw [g3]; exact beq_self_eq_true _) (star_ok gd.1)
  | .pick _ _ _ _ _ _ _ _ _, X, sc, st, w, h => by simp only [mtS] at h; cases h
  | .seti i k e, X, sc, st, w, h => by
    simp only [mtS] at h
    obtain ⟨y, e1, g⟩ := chk_ok h
    have e2 := asAsg_ok e1
    obtain ⟨y1, y2, y3⟩ := y
    obtain ⟨z, e3, g'⟩ := chk_ok g
    obtain ⟨p, e4⟩ := asSub_ok e3
    obtain ⟨z1, z2⟩ := z
    simp only [Bool.and_eq_true] at g'
    obtain ⟨⟨⟨g1, g2⟩, g3⟩, g4⟩ := g'
    subst e2
    have e4 : y1 = .Subscript z1 z2 p := e4
    subst e4
    exact m_seti C (snd_e (.var i) w.w w.hsc g2).1 (snd_e k w.w w.hsc g3).1 (snd_e e w.w w.hsc g1).1 sole_sub swp_sub rfl (sub_ok g4)
  | .par i j a b, X, sc, st, w, h => by
    simp only [mtS] at h
    obtain ⟨y, e1, g⟩ := chk_ok h
    have e2 := asAsg_ok e1
    obtain ⟨y1, y2, y3⟩ := y
    obtain ⟨ts, e3, ga⟩ := chk_ok g
    obtain ⟨t, e4, gb⟩ := chk_ok ga
    obtain ⟨vs, e5, gc⟩ := chk_ok gb
    obtain ⟨v, e6, gd⟩ := chk_ok gc
    obtain ⟨n1, e7, ge⟩ := chk_ok gd
    obtain ⟨n2, e8, gf⟩ := chk_ok ge
    obtain ⟨kt, pt, e9⟩ := asTup_ok e3
    obtain ⟨k2, pt2, e10⟩ := asTup_ok e5
    have e11 := two2_ok e4
    have e12 := two2_ok e6
    have e13 := asNameP_ok e7
    have e14 := asNameP_ok e8
    obtain ⟨t1, t2⟩ := t
    obtain ⟨v1, v2⟩ := v
    obtain ⟨n1, p1⟩ := n1
    obtain ⟨n2, p2⟩ := n2
    simp only [Bool.and_eq_true, decide_eq_true_eq] at gf
    obtain ⟨⟨⟨⟨⟨⟨⟨⟨⟨⟨g1, g2⟩, g3⟩, g4⟩, g5⟩, g6⟩, g7⟩, g8⟩, g9⟩, g10⟩, g11⟩ := gf
    have e9 : y1 = .Tuple ts kt pt := e9
    have e10 : y2 = .Tuple vs k2 pt2 := e10
    have e13 : t1 = .Name n1 p1 := e13
    have e14 : t2 = .Name n2 p2 := e14
    have e11 : ts = [t1, t2] := e11
    have e12 : vs = [v1, v2] := e12
    subst e2 e9 e10 e11 e12 e13 e14
    have pa := (snd_e a w.w w.hsc g5).1
    have pb := (snd_e b w.w w.hsc g6).1
    have kd : X.env.scope.kind = .function := by rw [w.hsc]; exact w.kd
    cases hb : bothB sc n1 n2 p1 p2 with
    | true =>
      rw [hb] at g11
      simp only [Bool.not_true, Bool.false_or, Bool.and_eq_true, Bool.not_eq_true'] at g11
      have hb' := hb
      unfold bothB at hb'
      simp only [Bool.and_eq_true, decide_eq_true_eq] at hb'
      exact m_par C w.w.calm (by rw [w.w.n]; exact w.w.nd) (by rw [w.w.n]; exact g1) (by rw [w.w.n]; exact g2) g9 (by rw [w.hsc]; exact hb'.1.1) (by rw [w.hsc]; exact hb'.1.2) pa pb (star_ok g3) (star_ok g4) (par_yes kd (by rw [w.hsc]; exact hb) g10 g3 g4 g11.1 g11.2)
    | false =>
      have hg : tgB N (fun _ => true) sc (.tp [i, j]) (.Tuple [.Name n1 p1, .Name n2 p2] kt pt) = true := by
        show ((decide (N[i]? = some n1) && locB sc n1 && (true || _)) && ((decide (N[j]? = some n2) && locB sc n2 && (true || _)) && true)) = true
        rw [g7, g8, decide_eq_true g1, decide_eq_true g2]
        rfl
      exact m_parC C (tg_okE w.w.n w.w.nd w.hsc w.fn w.w.calm hg) pa pb (star_ok g3) (star_ok g4) (par_no kd (by rw [w.hsc]; exact hb) g3 g4)
  | .asg tg e, X, sc, st, w, h => by
    simp only [mtS] at h
    obtain ⟨y, e1, g⟩ := chk_ok h
    have e2 := asAsg_ok e1
    obtain ⟨y1, y2, y3⟩ := y
    rw [Bool.and_eq_true] at g
    obtain ⟨g1, g2⟩ := g
    have g1 : mtE T N e sc y2 = true := g1
    have e2 : st = .Assign [y1] y2 y3 := e2
    subst e2
    have kd : X.env.scope.kind = .function := by rw [w.hsc]; exact w.kd
    cases tg with
    | tp is =>
      simp only [Bool.and_eq_true] at g2
      obtain ⟨g2, g3⟩ := g2
      have pg := tg_okE (X := X) w.w.n w.w.nd w.hsc w.fn w.w.calm g2
      obtain ⟨es, e3, _⟩ := chk_ok g2
      obtain ⟨k, p, e4⟩ := asTup_ok e3
      have e4 : y1 = .Tuple es k p := e4
      subst e4
      exact m_asgT C (snd_e e w.w w.hsc g1).1 pg sole_ok (swp_ok g3) rfl
    | nm i =>
      obtain ⟨z, e3, g3⟩ := chk_ok g2
      have e4 := asNameP_ok e3
      obtain ⟨id, py⟩ := z
      simp only [Bool.and_eq_true, decide_eq_true_eq] at g3
      obtain ⟨g4, g5⟩ := g3
      have e4 : y1 = .Name id py := e4
      subst e4
      have hsw := swB_ok (env := X.env) (id := id) (py := py) (l := y3.line) kd (mtE_ds g1)
      cases hb : swB X.env.scope id py y2 with
      | false =>
        rw [hb] at hsw
        exact m_asg C (by rw [w.w.n]; exact w.w.nd) (by rw [w.w.n]; exact g4) (by rw [w.hsc]; exact locB_ok g5) (snd_e e w.w w.hsc g1).1 hsw (by rw [w.fn])
      | true =>
        rw [hb] at hsw
        cases y2 <;> first | (cases hb; done) | skip
        obtain ⟨tg, elt, it, c, rfl⟩ := mtE_lc g1
        obtain ⟨y1, y2, y3, y4, y5, p, ex, p1, p2, p3, p4, p5, p6⟩ := comp_parts w.w w.hsc g1
        cases ex
        have hl : X.env.scope.names.lookup id = some .local := by
          unfold swB at hb
          simp only [Bool.and_eq_true, decide_eq_true_eq] at hb
          exact hb.1.1
        exact m_asgLc C w.w.calm (by rw [w.w.n]; exact w.w.nd) (by rw [w.w.n]; exact g4) hl hsw p1 p2 (ownOf_snd N tg.slots) p3 p4 p5 p6
  | .nil, X, sc, st, w, h => by simp only [mtS] at h; cases h
  | .cons _ _, X, sc, st, w, h => by simp only [mtS] at h; cases h
theorem snd_b {T : Tb} {N : List Str} {C : Ctx} {P : Keep} : ∀ (s : S) {X : Cx} {sc : Scope} {st : List Stmt}, Wb X T N C sc → mtB T N s sc st = true → PSs X st (tSt X.K P (run C P s))
  | .nil, X, sc, st, w, h => by
    simp only [mtB] at h
    obtain rfl := nil0_ok h
    exact m_nil C
  | .cons s r, X, sc, st, w, h => by
    simp only [mtB] at h
    rcases (Bool.or_eq_true _ _).mp h with h | h
    · cases st with
      | nil => cases h
      | cons x rest =>
        simp only [Bool.and_eq_true] at h
        exact m_cons C (snd_s s w h.1) (snd_b r w h.2)
    · cases hp : pickB T N s sc st with
      | none => rw [hp] at h; cases h
      | some rest =>
        rw [hp] at h
        exact pick_snd w hp (snd_b r w h)
  | .pass, X, sc, st, w, h => by simp only [mtB] at h; cases h
  | .alone _, X, sc, st, w, h => by simp only [mtB] at h; cases h
  | .par3 _ _ _ _ _ _, X, sc, st, w, h => by simp only [mtB] at h; cases h
  | .updd _ _, X, sc, st, w, h => by simp only [mtB] at h; cases h
  | .pick _ _ _ _ _ _ _ _ _, X, sc, st, w, h => by simp only [mtB] at h; cases h
  | .doc, X, sc, st, w, h => by simp only [mtB] at h; cases h
  | .raise, X, sc, st, w, h => by simp only [mtB] at h; cases h
  | .ret _, X, sc, st, w, h => by simp only [mtB] at h; cases h
  | .ite _ _ _, X, sc, st, w, h => by simp only [mtB] at h; cases h
  | .for _ _ _, X, sc, st, w, h => by simp only [mtB] at h; cases h
  | .app _ _, X, sc, st, w, h => by simp only [mtB] at h; cases h
  | .ext _ _, X, sc, st, w, h => by simp only [mtB] at h; cases h
  | .seti _ _ _, X, sc, st, w, h => by simp only [mtB] at h; cases h
  | .par _ _ _ _, X, sc, st, w, h => by simp only [mtB] at h; cases h
  | .asg _ _, X, sc, st, w, h => by simp only [mtB] at h; cases h
end
end VI

set_option Elab.async false
set_option linter.all false
set_option autoImplicit false
set_option maxRecDepth 100000
set_option maxHeartbeats 8000000
/-! VEnd: the defs of a module do as they are run; the law's end. -/
namespace VI
theorem room2 {k : Nat} {A : PySem.Around} (h : L2.Room k A) : A.units + 150 < PySem.cLine := by have := h.un; omega
open PySem PySem.Spec PyProof.Rows L2
variable {K : PySem.W.Frag} {F H F' H' : Hp} {ρ ρ' : EnvD} {σ σ' : L2.St}

theorem pad_get {α : Type} {l : List (Option α)} {n i : Nat} {x : α} (h : (l ++ List.replicate n none)[i]? = some (some x)) : l[i]? = some (some x) := by
  by_cases hi : i < l.length
  · rw [List.getElem?_append_left hi] at h; exact h
  · rw [List.getElem?_append_right (by omega), List.getElem?_replicate] at h
    split at h <;> cases h
theorem pad_up {α : Type} {l : List (Option α)} {n i : Nat} {x : α} (h : l[i]? = some (some x)) : (l ++ List.replicate n none)[i]? = some (some x) := by
  rw [List.getElem?_append_left (List.getElem?_eq_some_iff.mp h).1]; exact h
theorem erel_pad {n : Nat} (e : ERel K F H ρ σ) : ERel K F H (ρ ++ List.replicate n none) (σ ++ List.replicate n none) :=
  ⟨by simp [e.len], fun i d h => let ⟨v, h1, h2⟩ := e.frz i d (pad_get h); ⟨v, pad_up h1, h2⟩, fun i d h => let ⟨v, h1, h2⟩ := e.own i d (pad_get h); ⟨v, pad_up h1, h2⟩,
    fun i j d e' a h1 h2 h3 h4 => e.dis i j d e' a (pad_get h1) (pad_get h2) (pad_get h3) (pad_get h4)⟩
theorem params_ok {P : Keep} : ∀ {xs ys : List (D × Bool)} {j : Nat}, params P j xs ρ = .ok ys → ys.length = xs.length ∧ ∀ (i : Nat) (y : D × Bool), ys[i]? = some y → (P.getD (j + i) false = true ∧ ρ[j + i]? = some (some y)) ∨ (P.getD (j + i) false = false ∧ xs[i]? = some y)
  | [], ys, j, h => by cases h; exact ⟨rfl, fun i y h => by simp at h⟩
  | x :: xs, ys, j, h => by
    simp only [params] at h
    have first : ∀ {y : D × Bool}, (if P.getD j false = true then R.of (getD? ρ j) else R.ok x) = R.ok y → (P.getD j false = true ∧ ρ[j]? = some (some y)) ∨ (P.getD j false = false ∧ x = y) := fun {y} h => by
      cases hp : P.getD j false with
      | true =>
        rw [hp, if_pos rfl] at h
        refine .inl ⟨rfl, ?_⟩
        cases q : getD? ρ j with
        | none => rw [q] at h; cases h
        | some z => rw [q] at h; cases h; exact getD?_some q
      | false =>
        rw [hp, if_neg (by decide)] at h
        cases h
        exact .inr ⟨rfl, rfl⟩
    cases h1 : (if P.getD j false = true then R.of (getD? ρ j) else R.ok x) with
    | no => rw [h1] at h; cases h
    | ok y =>
      rw [h1] at h
      have h : ((params P (j + 1) xs ρ).bind fun ys => R.ok (y :: ys)) = .ok ys := h
      cases h2 : params P (j + 1) xs ρ with
      | no => rw [h2] at h; cases h
      | ok zs =>
        rw [h2] at h
        cases h
        obtain ⟨l, q⟩ := params_ok h2
        refine ⟨by simp [l], fun i z hz => ?_⟩
        cases i with
        | zero =>
          simp at hz; subst hz
          rcases first h1 with ⟨a, b⟩ | ⟨a, b⟩
          · exact .inl ⟨a, b⟩
          · exact .inr ⟨a, by simp [b]⟩
        | succ i =>
          have hz : zs[i]? = some z := by simpa using hz
          have := q i z hz
          rw [show j + 1 + i = j + (i + 1) by omega] at this
          rcases this with ⟨a, b⟩ | ⟨a, b⟩
          · exact .inl ⟨a, b⟩
          · exact .inr ⟨a, by simpa using b⟩
theorem okKeep_ok : ∀ {P : Keep} {xs : List (D × Bool)}, okKeep P xs = true → ∀ (i : Nat) (d : D), xs[i]? = some (d, true) → P.getD i false = true
  | [], [], _, i, d, h => by simp at h
  | _ :: _, [], _, i, d, h => by simp at h
  | [], x :: xs, h, i, d, hi => by
    simp only [okKeep, Bool.and_eq_true, Bool.not_eq_true'] at h
    cases i with
    | zero => simp at hi; rw [hi] at h; cases h.1
    | succ i =>
      have := okKeep_ok h.2 i d (by simpa using hi)
      simp at this
  | k :: ks, x :: xs, h, i, d, hi => by
    simp only [okKeep, Bool.and_eq_true, Bool.or_eq_true, Bool.not_eq_true'] at h
    cases i with
    | zero =>
      simp at hi
      rw [hi] at h
      rcases h.1 with z | z
      · simpa using z
      · cases z
    | succ i =>
      have := okKeep_ok h.2 i d (by simpa using hi)
      simpa using this
theorem asE_get {as : List (D × Bool)} {i : Nat} {x : D × Bool} : (AsE as)[i]? = some (some x) ↔ as[i]? = some x := by
  show (as.map some)[i]? = some (some x) ↔ _
  rw [List.getElem?_map]
  cases as[i]? with
  | none => simp
  | some y => simp
theorem vsS_get {vs : List V} {i : Nat} {x : V} : (VsS vs)[i]? = some (some x) ↔ vs[i]? = some x := by
  show (vs.map some)[i]? = some (some x) ↔ _
  rw [List.getElem?_map]
  cases vs[i]? with
  | none => simp
  | some y => simp
/-- a def's end, seen from its call -/
theorem back_call {P : Keep} {n : Nat} {as ys : List (D × Bool)} {vs : List V} (e0 : ERel K F H (AsE as) (VsS vs)) (ok : okKeep P as = true) (s : SS K P F H (AsE as ++ List.replicate n none) (VsS vs ++ List.replicate n none) F' H' ρ' σ') (hp : params P 0 as ρ' = .ok ys) :
    Stp K F H (AsE as) (VsS vs) F' H' (AsE ys) (VsS vs) ∧ ∀ a, OwnAt (AsE ys) (VsS vs) a → OwnAt ρ' σ' a := by
  obtain ⟨hl, q⟩ := params_ok hp
  have q : ∀ (i : Nat) (y : D × Bool), ys[i]? = some y → (P.getD i false = true ∧ ρ'[i]? = some (some y)) ∨ (P.getD i false = false ∧ as[i]? = some y) := fun i y h => by
    have := q i y h
    rw [Nat.zero_add] at this
    exact this
  have lv : as.length = vs.length := by have := e0.len; simpa [AsE, VsS] using this
  have val : ∀ {i : Nat} {u : V}, i < vs.length → P.getD i false = true → σ'[i]? = some (some u) → (VsS vs)[i]? = some (some u) := fun {i u} hi hk h => by
    rw [s.kp i hk, List.getElem?_append_left (by simpa [VsS] using hi)] at h
    exact h
  have lt : ∀ {i : Nat} {y : D × Bool}, ys[i]? = some y → i < vs.length := fun {i y} h => by
    have := (List.getElem?_eq_some_iff.mp h).1
    omega
  have own : ∀ {i : Nat} {d : D}, ys[i]? = some (d, true) → P.getD i false = true ∧ ρ'[i]? = some (some (d, true)) := fun {i d} h => by
    rcases q i _ h with z | ⟨z1, z2⟩
    · exact z
    · rw [okKeep_ok ok i d z2] at z1; cases z1
  have ownAt : ∀ a, OwnAt (AsE ys) (VsS vs) a → OwnAt ρ' σ' a := fun a ⟨i, d, h1, h2⟩ => by
    have h1 := asE_get.mp h1
    obtain ⟨k, r⟩ := own h1
    obtain ⟨b, e1, _⟩ := s.st.er.own i d r
    have := val (lt h1) k e1
    rw [h2] at this; cases this
    exact ⟨i, d, r, e1⟩
  have up : ∀ {a : Addr}, OwnAt (AsE as ++ List.replicate n none) (VsS vs ++ List.replicate n none) a → OwnAt (AsE as) (VsS vs) a := fun ⟨i, d, h1, h2⟩ => ⟨i, d, pad_get h1, pad_get h2⟩
  refine ⟨⟨s.st.ff, s.st.fh, ⟨by simp [AsE, VsS, hl, lv], fun i d h => ?_, fun i d h => ?_, fun i j d e a h1 h2 h3 h4 => ?_⟩, fun b o h1 bx h2 h3 => s.st.fr b o h1 bx h2 fun z => h3 (up z), fun b h => (s.st.os b (ownAt b h)).imp up id, s.st.gr⟩, ownAt⟩
  · have h := asE_get.mp h
    rcases q i _ h with ⟨k, r⟩ | ⟨k, r⟩
    · obtain ⟨v, e1, rv⟩ := s.st.er.frz i d r
      exact ⟨v, val (lt h) k e1, rv⟩
    · obtain ⟨v, e1, rv⟩ := e0.frz i d (asE_get.mpr r)
      exact ⟨v, e1, rv.mono s.st.ff⟩
  · have h := asE_get.mp h
    obtain ⟨k, r⟩ := own h
    obtain ⟨a, e1, ow⟩ := s.st.er.own i d r
    exact ⟨a, val (lt h) k e1, ow⟩
  · have h1 := asE_get.mp h1
    have h2 := asE_get.mp h2
    obtain ⟨k1, r1⟩ := own h1
    obtain ⟨k2, r2⟩ := own h2
    obtain ⟨b, e1, _⟩ := s.st.er.own i d r1
    obtain ⟨c, e2, _⟩ := s.st.er.own j e r2
    have z1 := val (lt h1) k1 e1
    have z2 := val (lt h2) k2 e2
    rw [h3] at z1; cases z1
    rw [h4] at z2; cases z2
    exact s.st.er.dis i j d e a r1 r2 e1 e2

/-! ### defs -/
structure FD where
  id : Str
  ps : List Str
  N : List Str
  st : Stmt
  df : Df
def FD.ok (T : Tb) (F : FD) : Bool := mtB T F.N F.df.body (defScope F.st) (defBody F.st) && C8.scC F.N F.ps (defScope F.st) && decide (F.df.np = F.ps.length) && decide (F.df.nl = F.N.length)
def tbOf (fs : List FD) (gls : List Str) : Tb := ⟨fs.map fun F => (F.id, F.ps), gls⟩
/-- a def of the module, under its name -/
structure DefM (K : PySem.W.Frag) (mg : Str → Option Value) (x : Str) (st : Stmt) (f : Addr) (fd : FuncData) : Prop where
  fn : Fun K x x st f fd
  mgf : mg x = some (.ref f)
/-- one def as it stands in the module -/
def DefAt (K : PySem.W.Frag) (mg : Str → Option Value) (F : FD) : Prop := ∃ (fa : Addr) (fd : FuncData), DefM K mg F.id F.st fa fd ∧ Binds K fd F.ps [] ∧ (∀ p, F.ps = [p] → KBinds K fd F.ps F.ps (fun us ws => us ++ ws) (fun us ws => us ++ ws)) ∧ (∀ p q, F.ps = [p, q] → ∀ (s : Shared) (u v : Value), BindsTo s fd ⟨[], [(p, u), (q, v)]⟩ [(p, u), (q, v)] ∧ BindsTo s fd ⟨[], [(q, v), (p, u)]⟩ [(p, u), (q, v)])
def GlbAt (K : PySem.W.Frag) (mg : Str → Option Value) (id : Str) (d : D) : Prop := ∃ (v : V) (u : Value), mg id = some u ∧ RelV v u ∧ ∀ F, Rep K F d v
structure Mw (K : PySem.W.Frag) (mg : Str → Option Value) (fs : List FD) (gls : List Str) (G : List D) : Prop where
  fns : ∀ F ∈ fs, DefAt K mg F
  gls : ∀ (k : Nat) (id : Str), gls[k]? = some id → ∃ d, G[k]? = some d ∧ GlbAt K mg id d
  blt : ∀ id ∈ bltNames, mg id = none
section
variable {P : Program} {w : World} {mg : Str → Option Value} {base : Heap} {fs : List FD} {gls : List Str} {G : List D}
theorem fn_ok (M : Mw K mg fs gls G) (hok : fs.all (FD.ok (tbOf fs gls)) = true) : ∀ (n f : Nat) (A : FD), fs[f]? = some A → ∀ (fa : Addr) (fd : FuncData), DefM K mg A.id A.st fa fd → FnQ P w K mg base n fa fd A.ps (spOf K (callI G (fs.map (·.df)) n f))
  | 0, f, A, hA, fa, fd, dm => ⟨fun vs H Q E ⟨F, as, _, _, q⟩ => q.elim, fun _ _ _ _ _ _ vs _ _ _ _ _ _ _ ⟨F, as, _, _, q⟩ => q.elim⟩
  | n + 1, f, A, hA, fa, fd, dm => by
    have oka : FD.ok (tbOf fs gls) A = true := List.all_eq_true.mp hok A (List.mem_of_getElem? hA)
    unfold FD.ok at oka
    simp only [Bool.and_eq_true, decide_eq_true_eq] at oka
    obtain ⟨⟨⟨o1, o2⟩, o3⟩, o4⟩ := oka
    have S := C8.fnScope_by o2
    have hdf : (fs.map (·.df))[f]? = some A.df := by rw [List.getElem?_map, hA]; rfl
    -- what a call of it yields
    have inv : ∀ {xs : List (D × Bool)} {Q : ((D × Bool) × List (D × Bool)) → Prop}, (callI G (fs.map (·.df)) (n + 1) f xs).wp Q → xs.length = A.df.np ∧ A.df.np ≤ A.df.nl ∧ okKeep A.df.keep xs = true ∧
        (run ⟨G, callI G (fs.map (·.df)) n⟩ A.df.keep A.df.body (AsE xs ++ List.replicate (A.df.nl - A.df.np) none)).wp fun r => match r with
          | .nx ρ => ∃ ys, params A.df.keep 0 xs ρ = .ok ys ∧ Q ((.non, false), ys)
          | .rt x ρ => ∃ ys, params A.df.keep 0 xs ρ = .ok ys ∧ Q (x, ys) := fun {xs Q} q => by
      simp only [callI] at q
      rw [hdf] at q
      have q := R.wp_bind.mp q
      obtain ⟨hc, q⟩ := R.wp_ite.mp q
      simp only [Bool.and_eq_true, decide_eq_true_eq] at hc
      refine ⟨hc.1.1, hc.1.2, hc.2, ?_⟩
      have q := R.wp_bind.mp q
      refine R.wp_mono q fun r q => ?_
      cases r with
      | nx ρ =>
        have q := R.wp_bind.mp q
        obtain ⟨ys, h1, q⟩ := R.wp_eq q
        exact ⟨ys, h1, q⟩
      | rt x ρ =>
        have q := R.wp_bind.mp q
        obtain ⟨ys, h1, q⟩ := R.wp_eq q
        exact ⟨ys, h1, q⟩
    have lens : ∀ {xs : List (D × Bool)} {vs : List V} {F H : Hp}, ERel K F H (AsE xs) (VsS vs) → xs.length = vs.length := fun e => by have := e.len; simpa [AsE, VsS] using this
    refine FnQ.body dm.fn S (fun vs H Q E ⟨F, as, s, er, q⟩ => ?_) (fun cdv A' outer s H vs Q E hr gd ⟨F, as, sm, er, q⟩ => ?_)
    · obtain ⟨h1, _⟩ := inv q
      rw [← lens er, h1, o3]
    · obtain ⟨h1, h2, h3, q⟩ := inv q
      have hv : vs.length = A.df.np := by rw [← lens er, h1]
      have wd : Wd (cxOf CX0 P w K mg base A.N A.id (defScope A.st) fa cdv A' outer s H E).nox (tbOf fs gls) A.N ⟨G, callI G (fs.map (·.df)) n⟩ := by
        refine ⟨rfl, rfl, S.nd, hr.units, room2 hr, gd, fun g id ps e => ?_, fun k id e => ?_, fun id hid => M.blt id hid⟩
        · have e : (fs.map fun F => (F.id, F.ps))[g]? = some (id, ps) := e
          rw [List.getElem?_map] at e
          obtain ⟨B, hB, eB⟩ := Option.map_eq_some_iff.mp e
          cases eB
          obtain ⟨fb, fdb, DB, b1, b2, b3⟩ := M.fns B (List.mem_of_getElem? hB)
          exact ⟨n, hr, ⟨fb, fdb, fn_ok M hok n g B hB fb fdb DB, gd, DB.mgf, DB.fn.kp, b1, b2, b3⟩⟩
        · obtain ⟨d, hd, v, u, g1, g2, g3⟩ := M.gls k id e
          exact ⟨d, v, u, hd, g1, g2, g3⟩
      have wb : Wb (cxOf CX0 P w K mg base A.N A.id (defScope A.st) fa cdv A' outer s H E).nox (tbOf fs gls) A.N ⟨G, callI G (fs.map (·.df)) n⟩ (defScope A.st) := ⟨wd, rfl, rfl, rfl, S.kind⟩
      refine ⟨_, snd_b (P := A.df.keep) A.df.body wb o1, ?_⟩
      have hst : L2.start A.N vs = VsS vs ++ List.replicate (A.df.nl - A.df.np) none := by unfold L2.start; rw [o4, hv]
      rw [hst]
      refine ⟨F, _, sm, erel_pad er, R.wp_mono q fun r q => ?_⟩
      cases r with
      | nx ρ' =>
        obtain ⟨ys, hp, q⟩ := q
        intro F' H' σ' ss
        obtain ⟨st, oa⟩ := back_call er h3 ss hp
        exact q F' H' _ st (Rep.non) trivial
      | rt x ρ' =>
        obtain ⟨ys, hp, q⟩ := q
        intro F' H' σ' v ss vr nw
        obtain ⟨st, oa⟩ := back_call er h3 ss hp
        refine q F' H' v st ?_ nw
        cases hx : x.2 with
        | false => rw [hx] at vr; exact vr
        | true =>
          rw [hx] at vr
          obtain ⟨a, e1, ow, no⟩ := vr
          exact ⟨a, e1, ow, fun z => no (oa a z)⟩
/-- the law's promise -/
def spLaw (K : PySem.W.Frag) : Sp := fun vs H Q _ => ∃ (a : Addr) (ns : List Int), vs = [.ref a] ∧ SqL K H a (ns.map V.int) ∧ ns.length ≤ 63 ∧ ∀ H', Q (.bl true) H'
theorem law_ok {n f : Nat} {A : FD} {fa : Addr} {fd : FuncData} (h : FnQ P w K mg base n fa fd A.ps (spOf K (callI G (fs.map (·.df)) n f)))
    (law : ∀ ns : List Int, ns.length ≤ 63 → ∃ ys, callI G (fs.map (·.df)) n f [(.ro (ns.map D.int), false)] = .ok ((.bl true, false), ys)) : FnQ P w K mg base n fa fd A.ps (spLaw K) := by
  refine h.weak fun vs H Q E ⟨a, ns, e1, hs, hl, k⟩ => ?_
  subst e1
  obtain ⟨ys, hy⟩ := law ns hl
  have ri : ∀ ns : List Int, Reps K H (ns.map D.int) (ns.map V.int) := fun ns => by
    induction ns with
    | nil => exact .nil
    | cons n ns ih => exact .cons (.int n) ih
  refine ⟨H, [(.ro (ns.map D.int), false)], fun _ _ z => z, ⟨rfl, fun i d h => ?_, fun i d h => ?_, fun i j d e b h1 h2 h3 h4 => ?_⟩, ?_⟩
  · cases i with
    | zero => cases h; exact ⟨_, rfl, Rep.ro hs (ri ns)⟩
    | succ i => simp [AsE] at h
  · cases i with
    | zero => cases h
    | succ i => simp [AsE] at h
  · cases i with
    | zero => cases h1
    | succ i => simp [AsE] at h1
  · rw [hy]
    intro F' H' v st vr nw
    cases vr
    exact k H'
end
end VI

set_option Elab.async false
set_option linter.all false
set_option autoImplicit false
set_option maxRecDepth 100000
set_option maxHeartbeats 8000000
/-! VEnd2: what the top has left, read; the walk's end. -/
namespace VI
open PySem PySem.Spec PyProof.Rows L2

/-- the arguments of a def bind by place; a lone one by its name, too -/
def ArgsOk (A : FD) : Prop := (∀ (kV doc pm : Value) (an : Option Addr) (cdv ct : Value) (us : List Value), us.length = A.ps.length → bindArgs (PySem.W.fnOf A.id A.id (defArgs A.st) (defBody A.st) (defScope A.st) .none kV doc pm an cdv ct) ⟨us, []⟩ = pure (A.ps.zip us)) ∧
  (∀ p : Str, A.ps = [p] → ∀ (kV doc pm : Value) (an : Option Addr) (cdv ct : Value) (u : Value), bindArgs (PySem.W.fnOf A.id A.id (defArgs A.st) (defBody A.st) (defScope A.st) .none kV doc pm an cdv ct) ⟨[], [(p, u)]⟩ = pure [(p, u)]) ∧
  ∀ p q : Str, A.ps = [p, q] → ∀ (kV doc pm : Value) (an : Option Addr) (cdv ct : Value) (u v : Value), bindArgs (PySem.W.fnOf A.id A.id (defArgs A.st) (defBody A.st) (defScope A.st) .none kV doc pm an cdv ct) ⟨[], [(p, u), (q, v)]⟩ = pure [(p, u), (q, v)] ∧
    bindArgs (PySem.W.fnOf A.id A.id (defArgs A.st) (defBody A.st) (defScope A.st) .none kV doc pm an cdv ct) ⟨[], [(q, v), (p, u)]⟩ = pure [(p, u), (q, v)]
section
variable {K : PySem.W.Frag} {h : Heap} {mg : Str → Option Value}
theorem defAt_mk {A : FD} {fa : Addr} {oc : Value} {od an : Option Addr} {osl : Array (Option Value)} {kV doc pm cdv ct : Value} (hb : ArgsOk A) (X : K.In h) (G : h.Ns mainGlobals mg) (a : PySem.W.nsIn K mainGlobals A.id = some (some (.ref fa)))
    (l : K.lookup fa = some ⟨oc, od, .func (PySem.W.fnOf A.id A.id (defArgs A.st) (defBody A.st) (defScope A.st) .none kV doc pm an cdv ct), osl⟩) (c : PySem.W.codeIn K cdv A.id = true) (k : PySem.W.keepIn K (.ref fa) = true) : DefAt K mg A := by
  refine ⟨fa, _, ⟨fun_mk l c k, PySem.W.mg_of X G a⟩, .all (hb.1 kV doc pm an cdv ct), fun p hp => ⟨fun s us ws _ hl => ?_, fun r q => r.append q⟩, fun p q hp s u v => ⟨.of_eq (hb.2.2 p q hp kV doc pm an cdv ct u v).1, .of_eq (hb.2.2 p q hp kV doc pm an cdv ct u v).2⟩⟩
  rw [hp] at hl
  have hl : (us ++ ws).length = 1 := hl
  cases us with
  | nil =>
    cases ws with
    | nil => cases hl
    | cons w r =>
      cases r with
      | nil =>
        rw [hp]
        exact .of_eq (hb.2.1 p hp kV doc pm an cdv ct w)
      | cons _ _ => simp at hl
  | cons u r =>
    cases r with
    | nil =>
      cases ws with
      | nil =>
        have e : A.ps.zip ([u] ++ []) = A.ps.zip [u] := rfl
        rw [e]
        have e2 : A.ps.zip ([] : List Value) = [] := List.zip_nil_right
        rw [e2]
        exact .of_eq (hb.1 kV doc pm an cdv ct [u] (by rw [hp]; rfl))
      | cons w r => simp at hl
    | cons _ _ => simp at hl
theorem glb_str {id x y : Str} {t : Tok} (X : K.In h) (G : h.Ns mainGlobals mg) (a : PySem.W.nsIn K mainGlobals id = some (some (.str x t))) (e : (x == y) = true) : GlbAt K mg id (.str y) := by
  obtain rfl : x = y := by simpa using e
  exact ⟨.str x, _, PySem.W.mg_of X G a, ⟨t, rfl⟩, fun F => .str x⟩
theorem glb_int {id : Str} {i j : Int} {t : Tok} (X : K.In h) (G : h.Ns mainGlobals mg) (a : PySem.W.nsIn K mainGlobals id = some (some (.int i t))) (e : decide (i = j) = true) : GlbAt K mg id (.int j) := by
  obtain rfl := of_decide_eq_true e
  exact ⟨.int i, _, PySem.W.mg_of X G a, ⟨t, rfl⟩, fun F => .int i⟩
/-- flat items of a written tuple -/
def flatV : List D → List Value → Bool
  | [], [] => true
  | .str x :: ds, .str y _ :: vs => x == y && flatV ds vs
  | .int i :: ds, .int j _ :: vs => decide (i = j) && flatV ds vs
  | .bl i :: ds, .bool j :: vs => decide (i = j) && flatV ds vs
  | .non :: ds, .none :: vs => flatV ds vs
  | _, _ => false
theorem flatV_ok {F : Hp} : ∀ {ds : List D} {us : List Value}, flatV ds us = true → ∃ vs, Vals vs us ∧ Reps K F ds vs
  | [], [], _ => ⟨[], .nil, .nil⟩
  | .str x :: ds, .str y t :: vs, h => by
    simp only [flatV, Bool.and_eq_true] at h
    obtain ⟨ws, r, q⟩ := flatV_ok (F := F) h.2
    obtain rfl : x = y := by simpa using h.1
    exact ⟨.str x :: ws, .cons ⟨t, rfl⟩ r, .cons (.str x) q⟩
  | .int i :: ds, .int j t :: vs, h => by
    simp only [flatV, Bool.and_eq_true, decide_eq_true_eq] at h
    obtain ⟨ws, r, q⟩ := flatV_ok (F := F) h.2
    obtain rfl := h.1
    exact ⟨.int i :: ws, .cons ⟨t, rfl⟩ r, .cons (.int i) q⟩
  | .bl i :: ds, .bool j :: vs, h => by
    simp only [flatV, Bool.and_eq_true, decide_eq_true_eq] at h
    obtain ⟨ws, r, q⟩ := flatV_ok (F := F) h.2
    obtain rfl := h.1
    exact ⟨.bl i :: ws, .cons rfl r, .cons (.bl i) q⟩
  | .non :: ds, .none :: vs, h => by
    simp only [flatV] at h
    obtain ⟨ws, r, q⟩ := flatV_ok (F := F) h
    exact ⟨.non :: ws, .cons rfl r, .cons .non q⟩
theorem glb_tup {id : Str} {p : Addr} {oc : Value} {od : Option Addr} {its : Array Value} {n : Nat} {osl : Array (Option Value)} {ds : List D} (X : K.In h) (G : h.Ns mainGlobals mg) (a : PySem.W.nsIn K mainGlobals id = some (some (.ref p)))
    (l : K.lookup p = some ⟨oc, od, .seq its n, osl⟩) (hc : oc = .type "tuple") (e : (decide (its.size ≤ 1000) && flatV ds its.toList) = true) : GlbAt K mg id (.tup ds) := by
  rw [Bool.and_eq_true] at e
  refine ⟨.ref p, _, PySem.W.mg_of X G a, rfl, fun F => ?_⟩
  obtain ⟨vs, r, q⟩ := flatV_ok (K := K) (F := F) e.2
  exact .tup (.inr ⟨_, its, n, l, hc, rfl, Nat.le_trans (of_decide_eq_true e.1) (by decide), r⟩) q
/-- the facts in rows -/
def dAll (K : PySem.W.Frag) (mg : Str → Option Value) : List FD → Prop
  | [] => True
  | A :: r => DefAt K mg A ∧ dAll K mg r
def gAll (K : PySem.W.Frag) (mg : Str → Option Value) : List Str → List D → Prop
  | [], [] => True
  | id :: r, d :: s => GlbAt K mg id d ∧ gAll K mg r s
  | _, _ => False
def bAll (mg : Str → Option Value) : List Str → Prop
  | [] => True
  | id :: r => mg id = none ∧ bAll mg r
theorem dcons {A : FD} {r : List FD} (h : DefAt K mg A) (q : dAll K mg r) : dAll K mg (A :: r) := ⟨h, q⟩
theorem gcons {id : Str} {d : D} {r : List Str} {s : List D} (h : GlbAt K mg id d) (q : gAll K mg r s) : gAll K mg (id :: r) (d :: s) := ⟨h, q⟩
theorem bcons {id : Str} {r : List Str} (h : mg id = none) (q : bAll mg r) : bAll mg (id :: r) := ⟨h, q⟩
theorem dnil : dAll K mg [] := trivial
theorem gnil : gAll K mg [] [] := trivial
theorem bnil : bAll mg [] := trivial
theorem dAll_ok : ∀ {fs : List FD}, dAll K mg fs → ∀ A ∈ fs, DefAt K mg A
  | [], _, A, h => nomatch h
  | B :: r, ⟨h1, h2⟩, A, h => by
    rcases List.mem_cons.mp h with rfl | h
    · exact h1
    · exact dAll_ok h2 A h
theorem gAll_ok : ∀ {ids : List Str} {ds : List D}, gAll K mg ids ds → ∀ (k : Nat) (id : Str), ids[k]? = some id → ∃ d, ds[k]? = some d ∧ GlbAt K mg id d
  | [], [], _, k, id, h => by simp at h
  | [], _ :: _, h, _, _, _ => h.elim
  | _ :: _, [], h, _, _, _ => h.elim
  | i :: r, d :: s, ⟨h1, h2⟩, 0, id, h => by simp at h; subst h; exact ⟨d, rfl, h1⟩
  | i :: r, d :: s, ⟨h1, h2⟩, k + 1, id, h => by
    obtain ⟨e, q, z⟩ := gAll_ok h2 k id (by simpa using h)
    exact ⟨e, by simpa using q, z⟩
theorem bAll_ok : ∀ {ids : List Str}, bAll mg ids → ∀ id ∈ ids, mg id = none
  | [], _, A, h => nomatch h
  | B :: r, ⟨h1, h2⟩, A, h => by
    rcases List.mem_cons.mp h with rfl | h
    · exact h1
    · exact bAll_ok h2 A h
theorem mw_of {fs : List FD} {gls : List Str} {G : List D} (d : dAll K mg fs) (g : gAll K mg gls G) (b : bAll mg bltNames) : Mw K mg fs gls G := ⟨dAll_ok d, gAll_ok g, bAll_ok b⟩
theorem law_end {P : Program} {w : World} {fs : List FD} {gls : List Str} {G : List D} {n f : Nat} {A : FD} {fa : Addr} (M : Mw K mg fs gls G) (hok : fs.all (FD.ok (tbOf fs gls)) = true) (hA : fs[f]? = some A) (hps : A.ps = ([("script" : Str)] : List Str)) (hb : ArgsOk A) (hmg : mg A.id = some (.ref fa))
    (law : ∀ ns : List Int, ns.length ≤ 63 → ∃ ys, callI G (fs.map (·.df)) n f [(.ro (ns.map D.int), false)] = .ok ((.bl true, false), ys)) :
    ∃ fd : FuncData, (∀ (s : Shared) (u : Value), BindsTo s fd ⟨[u], []⟩ [("script", u)]) ∧ ∀ base : Heap, K.In base → base.Ns mainGlobals mg → FnQ P w K mg base n fa fd ["script"] (spLaw K) := by
  obtain ⟨fa', fd, dm, b1, b2, _⟩ := M.fns A (List.mem_of_getElem? hA)
  have e := hmg.symm.trans dm.mgf
  cases e
  refine ⟨fd, fun s u => ?_, fun base _ _ => ?_⟩
  · obtain ⟨oc, od, kV, doc, pm, an, cdv, ct, osl, rfl, lk, hcd⟩ := dm.fn.ex
    refine .of_eq ?_
    have := hb.1 kV doc pm an cdv ct [u] (by rw [hps]; rfl)
    rw [this, hps]
    rfl
  · have := law_ok (fn_ok (P := P) (w := w) (base := base) M hok n f A hA fa fd dm) law
    rw [hps] at this
    exact this
end
end VI

set_option Elab.async false
set_option linter.all false
set_option autoImplicit false
set_option maxRecDepth 100000
set_option maxHeartbeats 8000000
/-! VTop: the claim's walk from a promise under no open repr. -/
namespace VI
open PySem PySem.Spec PyProof.Rows L2

/-- what is tracked ahead of the law's call: nothing, or the script alone -/
structure Lay0 (P : Program) (w : World) (K : PySem.W.Frag) (h : Heap) (a : Addr) (o : Obj) (ns : List Int) (H : Hp) : Prop where
  sq : SqL K H a (ns.map V.int)
  ok : HOk P w H h
  one : ∀ b u, H b = some u → b = a ∧ u = .frz o (.lst (ns.map V.int)) ∧ K.lookup a = none
theorem lay0 {P : Program} {w : World} {K : PySem.W.Frag} {h : Heap} {a : Addr} {vs : List Value} {ns : List Int} (kin : K.In h) (at_ : h.get? a = some { cls := .type "list", data := .seq vs.toArray }) (i : IntsAre vs ns) (z : ns.length ≤ sizeLine) :
    ∃ H, Lay0 P w K h a { cls := .type "list", data := .seq vs.toArray } ns H := by
  have vl := vals_ints i
  cases q : K.lookup a with
  | none =>
    refine ⟨upd (fun _ => none) a (.frz { cls := .type "list", data := .seq vs.toArray } (.lst (ns.map V.int))), .inl (.inr ⟨_, upd_same⟩), fun b u e => ?_, fun b u e => ?_⟩
    · by_cases c : b = a
      · subst c
        rw [upd_same] at e
        cases e
        exact ⟨at_, by rw [List.length_map]; exact z, vs, _, vl, at_⟩
      · rw [upd_ne c] at e; cases e
    · by_cases c : b = a
      · subst c
        rw [upd_same] at e
        cases e
        exact ⟨rfl, rfl, q⟩
      · rw [upd_ne c] at e; cases e
  | some o =>
    have same := kin a o q
    rw [at_] at same
    cases same
    refine ⟨fun _ => none, .inr ⟨_, vs.toArray, _, q, rfl, rfl, rfl, ?_, by simpa using vl⟩, fun b u e => (by cases e), fun b u e => (by cases e)⟩
    rw [List.size_toArray, i.length]
    exact z
/-- the law's call -/
theorem top_run {P : Program} {w : World} {K : PySem.W.Frag} {mg mb : Str → Option Value} {k : Nat} {fa a : Addr} {fd : FuncData} {s₁ : Shared} {vs : List Value} {ns : List Int}
    (kin : K.In s₁.heap) (gN : s₁.heap.Ns mainGlobals mg) (bN : s₁.heap.Ns builtinsNs mb) (bB : ∀ x : Str, x ≠ "__name__" → mb x = bootBuiltins x) (nl : s₁.heap.NoLimit) (ng : s₁.gens = #[])
    (at_ : s₁.heap.get? a = some { cls := .type "list", data := .seq vs.toArray }) (i : IntsAre vs ns) (z : ns.length ≤ 63) (rm : Room k callerA)
    (G : ∀ base : Heap, K.In base → base.Ns mainGlobals mg → FnQ P w K mg base k fa fd ["script"] (spLaw K)) (bd : ∀ (s : Shared) (u : Value), BindsTo s fd ⟨[u], []⟩ [("script", u)]) :
    codeAny (model P w) callerA (.call (.ref fa) ⟨[.ref a], []⟩) (fun r s' => r = .ok (.ret (.bool true)) ∧ OldK s₁.heap s'.heap ∧ s'.os = s₁.os ∧ AllBare s'.gens) s₁ := by
  have z' : ns.length ≤ sizeLine := Nat.le_trans z (by decide)
  obtain ⟨H, L⟩ := lay0 (P := P) (w := w) kin at_ i z'
  -- what is not tracked stands in the base
  have dictFree : ∀ {b : Addr} {o : Obj} {es : Array DictEntry} {ep : Nat}, s₁.heap.get? b = some o → o.data = .dict es ep → H b = none := by
    intro b o es ep e d
    cases q : H b with
    | none => rfl
    | some u =>
      obtain ⟨rfl, _, _⟩ := L.one b u q
      rw [at_] at e
      cases e
      cases d
  have nsB : ∀ {b : Addr} {m : Str → Option Value}, s₁.heap.Ns b m → (hidT s₁.heap H).Ns b m := by
    rintro b m ⟨o, es, ep, e, d, r⟩
    exact ⟨o, es, ep, hidT_get e (dictFree e d), d, r⟩
  have kinB : K.In (hidT s₁.heap H) := fun b o e => hidT_get (kin b o e) (by
    cases q : H b with
    | none => rfl
    | some u =>
      obtain ⟨rfl, _, no⟩ := L.one b u q
      rw [e] at no
      cases no)
  have md : Mod K mg (hidT s₁.heap H) := by
    obtain ⟨mc, l1, l2⟩ := nl
    exact ⟨kinB, nsB gN, ⟨mb, nsB bN, bB⟩, ⟨mc, nsB l1, l2⟩⟩
  have e0 : Env0 P w K mg (hidT s₁.heap H) callerA [] s₁ H := ⟨rfl, md, fun b o e => of_hidT e, Nat.le_of_eq (hidT_size _ _), trivial, fun b c => (nomatch c), L.ok, .of_eq ng⟩
  have sp : spLaw K [.ref a] H (fun v _ => v = .bl true) fun _ _ _ => False := ⟨a, ns, rfl, L.sq, z, fun _ => rfl⟩
  refine codeAny_mono ((G _ kinB (nsB gN)).go callerA [] s₁ H ⟨[.ref a], []⟩ [.ref a] [.ref a] _ _ rm rfl e0 (bd s₁ (.ref a)) (.cons rfl .nil) sp) ?_
  intro r s' c
  cases r with
  | error e => exact c.elim
  | ok fl =>
    cases fl <;> first | exact False.elim c | skip
    obtain ⟨v, H', os, bare, un, ok', rv, q⟩ := c
    have q : v = .bl true := q
    subst q
    have rv : _ = Value.bool true := rv
    subst rv
    refine ⟨rfl, OldK.of_keep fun b o e => ?_, os, bare⟩
    cases q : H b with
    | none => exact un.keep b o e q (fun c => nomatch c) (fun c => nomatch c)
    | some u =>
      obtain ⟨rfl, rfl, _⟩ := L.one b u q
      obtain ⟨g1, _⟩ := L.ok b _ q
      obtain ⟨g2, _⟩ := ok' b _ (un.frzs b _ _ q)
      rw [e] at g1
      cases g1
      exact g2
theorem walkQ {l : PySem.W.OpenLaw} {k : Nat} {q : Program} {loose : List Str} {XP : (Str → Option Value) → Heap → Prop} {YP : World → Heap → Prop} {d : DefRec} {K : Params → PySem.W.Frag} (hn : l.most = some 63) (hdf : d.params.defaults = []) (hr : Room k callerA)
    (hY : ∀ (w : World) (h : Heap), YP w h → (K w.params).In h)
    (F : ∀ (w : World) (mg : Str → Option Value) (fa : Addr) (h : Heap), (K w.params).In h → h.Ns mainGlobals mg → mg d.name = some (.ref fa) →
      ∃ fd : FuncData, (∀ (s : Shared) (u : Value), BindsTo s fd ⟨[u], []⟩ [("script", u)]) ∧ ∀ base : Heap, (K w.params).In base → base.Ns mainGlobals mg → FnQ l.prog w (K w.params) mg base k fa fd ["script"] (spLaw (K w.params))) :
    PySem.W.WalkO q loose XP YP l.row.toRowW d [] (fun f vs => PySem.call f vs) := by
  refine Att.attach_call hn hdf fun w s₀ s₁ mg mb fa o pm cd doc a vs ns G Y _ _ _ hmg at_ i z ng => ?_
  obtain ⟨fd, bd, g⟩ := F w mg fa _ (hY w _ Y) G.T.g hmg
  exact top_run (hY w _ Y) G.T.g G.T.b G.T.builtins G.T.nolimit ng at_ i z hr g bd
end VI

set_option Elab.async false
set_option linter.all false
set_option autoImplicit false
set_option maxRecDepth 100000
set_option maxHeartbeats 8000000
/-! VRun: the run from the left, with no function behind a step: rows to rewrite by. -/
namespace VI
open PySem PySem.Spec PyProof.Rows L2
variable {C : Ctx} {P : Keep} {ρ ρ1 ρ2 : EnvD}

theorem rb1 {α β : Type} {a : α} {f : α → R β} : (R.ok a).bind f = f a := rfl
theorem ri1 {α : Type} {r : R α} : R.ite true r = r := rfl
theorem ro1 {α : Type} {a : α} : R.of (some a) = R.ok a := rfl
/-! ### operators -/
theorem bAddI {i j : Int} : binD .add (.int i) (.int j) = .ok (.int (i + j), false) := rfl
theorem bAddS {x y : Str} : binD .add (.str x) (.str y) = R.ite (decide (x.length + y.length ≤ lenLine)) (.ok (.str (x ++ y), false)) := rfl
theorem bAddT {x y : List D} : binD .add (.tup x) (.tup y) = R.ite (decide (x.length + y.length ≤ lenLine)) (.ok (.tup (x ++ y), false)) := rfl
theorem bAddL {x y : List D} : binD .add (.lst x) (.lst y) = R.ite (decide (x.length + y.length ≤ lenLine)) (.ok (.lst (x ++ y), true)) := rfl
theorem bSubI {i j : Int} : binD .sub (.int i) (.int j) = .ok (.int (i - j), false) := rfl
theorem bMulI {i j : Int} : binD .mul (.int i) (.int j) = R.ite (bound64 i || bound64 j) (.ok (.int (i * j), false)) := rfl
theorem bMulT {x : List D} {k : Int} : binD .mul (.tup x) (.int k) = R.ite (decide (2 ≤ k) && decide (k ≤ 1000) && decide (x.length ≤ 1000)) (.ok (.tup (List.replicate k.toNat x).flatten, false)) := rfl
theorem bModI {i j : Int} : binD .mod (.int i) (.int j) = R.ite (decide (0 < j)) (.ok (.int (i % j), false)) := rfl
theorem bDivI {i j : Int} : binD .fdiv (.int i) (.int j) = R.ite (decide (0 < j) && decide (j < 2 ^ 30)) (.ok (.int (i / j), false)) := rfl
/-! ### slots -/
theorem gd0 {x : D × Bool} : getD? (some x :: ρ) 0 = some x := rfl
theorem gdS {o : Option (D × Bool)} {i : Nat} : getD? (o :: ρ) (i + 1) = getD? ρ i := by
  unfold getD?
  rw [List.getElem?_cons_succ]
def kGet (ρ : EnvD) : Option (D × Bool) → R D
  | some x => .ok x.1
  | none => .no
theorem res_slot_eq {i : Nat} : res ρ (.slot i) = kGet ρ (getD? ρ i) := by
  simp only [res]
  cases getD? ρ i <;> rfl
theorem kGet1 {x : D × Bool} : kGet ρ (some x) = .ok x.1 := rfl
theorem res_val {d : D} {fr : Bool} : res ρ (.val d fr) = .ok d := rfl
def kFrz (i : Nat) (ρ : EnvD) : Option (D × Bool) → R (D × EnvD)
  | some (d, true) => .ok (d, ρ.set i (some (d, false)))
  | some (d, false) => .ok (d, ρ)
  | none => .no
theorem frz_slot_e {i : Nat} : frz ρ (.slot i) = kFrz i ρ (getD? ρ i) := by
  simp only [frz]
  cases h : getD? ρ i with
  | none => rfl
  | some x => obtain ⟨d, fr⟩ := x; cases fr <;> rfl
theorem kFrz1 {i : Nat} {d : D} : kFrz i ρ (some (d, true)) = .ok (d, ρ.set i (some (d, false))) := rfl
theorem kFrz2 {i : Nat} {d : D} : kFrz i ρ (some (d, false)) = .ok (d, ρ) := rfl
theorem frz_val {d : D} {fr : Bool} : frz ρ (.val d fr) = .ok (d, ρ) := rfl
def kTak : R (D × EnvD) → R ((D × Bool) × EnvD)
  | .ok x => .ok ((x.1, false), x.2)
  | .no => .no
theorem tak_slot_e {i : Nat} : tak ρ (.slot i) = kTak (frz ρ (.slot i)) := by
  simp only [tak]
  cases frz ρ (.slot i) <;> rfl
theorem kTak1 {x : D × EnvD} : kTak (.ok x) = .ok ((x.1, false), x.2) := rfl
theorem tak_val {d : D} {fr : Bool} : tak ρ (.val d fr) = .ok ((d, fr), ρ) := rfl

/-! ### expressions -/
def kVar (i : Nat) (ρ : EnvD) : Option (D × Bool) → R (Opd × EnvD)
  | some (d, true) => .ok (.slot i, ρ)
  | some (d, false) => .ok (.val d false, ρ)
  | none => .no
theorem ev_var {i : Nat} : ev C (.var i) ρ = kVar i ρ (getD? ρ i) := by
  simp only [ev]
  cases h : getD? ρ i with
  | none => rfl
  | some x => obtain ⟨d, fr⟩ := x; cases fr <;> rfl
theorem kVar1 {i : Nat} {d : D} : kVar i ρ (some (d, true)) = .ok (.slot i, ρ) := rfl
theorem kVar2 {i : Nat} {d : D} : kVar i ρ (some (d, false)) = .ok (.val d false, ρ) := rfl
theorem ev_non : ev C .non ρ = .ok (.val .non false, ρ) := by simp only [ev]
theorem ev_bl {b : Bool} : ev C (.bl b) ρ = .ok (.val (.bl b) false, ρ) := by simp only [ev]
theorem ev_int {b : Int} : ev C (.int b) ρ = .ok (.val (.int b) false, ρ) := by simp only [ev]
theorem ev_neg {b : Int} : ev C (.neg b) ρ = .ok (.val (.int (-b)) false, ρ) := by simp only [ev]
theorem ev_str {b : String} : ev C (.str b) ρ = .ok (.val (.str (Str.ofString b)) false, ρ) := by simp only [ev]
theorem ev_dnew : ev C .dnew ρ = .ok (.val (.dK []) true, ρ) := by simp only [ev]
def kGlb (ρ : EnvD) : Option D → R (Opd × EnvD)
  | some d => .ok (.val d false, ρ)
  | none => .no
theorem ev_glb {k : Nat} : ev C (.glb k) ρ = kGlb ρ C.G[k]? := by
  simp only [ev]
  cases C.G[k]? <;> rfl
theorem kGlb1 {d : D} : kGlb ρ (some d) = .ok (.val d false, ρ) := rfl
/-- a value with its kind -/
def kDn (ρ : EnvD) : R (D × Bool) → R (Opd × EnvD)
  | .ok z => .ok (.val z.1 z.2, ρ)
  | .no => .no
theorem kDn1 {z : D × Bool} : kDn ρ (.ok z) = .ok (.val z.1 z.2, ρ) := rfl
def kDv (ρ : EnvD) : R D → R (Opd × EnvD)
  | .ok z => .ok (.val z false, ρ)
  | .no => .no
theorem kDv1 {z : D} : kDv ρ (.ok z) = .ok (.val z false, ρ) := rfl
def kDb (ρ : EnvD) : R Bool → R (Opd × EnvD)
  | .ok z => .ok (.val (.bl z) false, ρ)
  | .no => .no
theorem kDb1 {z : Bool} : kDb ρ (.ok z) = .ok (.val (.bl z) false, ρ) := rfl
def kTup : R (List D × EnvD) → R (Opd × EnvD)
  | .ok x => R.ite (decide (x.1.length ≤ lenLine)) (.ok (.val (.tup x.1) false, x.2))
  | .no => .no
theorem ev_tup {l : E} : ev C (.tup l) ρ = kTup (evL C l ρ) := by
  simp only [ev]
  cases evL C l ρ <;> rfl
theorem kTup1 {ds : List D} : kTup (.ok (ds, ρ)) = R.ite (decide (ds.length ≤ lenLine)) (.ok (.val (.tup ds) false, ρ)) := rfl
def kLst : R (List D × EnvD) → R (Opd × EnvD)
  | .ok x => R.ite (decide (x.1.length ≤ lenLine)) (.ok (.val (.lst x.1) true, x.2))
  | .no => .no
theorem ev_lst {l : E} : ev C (.lst l) ρ = kLst (evL C l ρ) := by
  simp only [ev]
  cases evL C l ρ <;> rfl
theorem kLst1 {ds : List D} : kLst (.ok (ds, ρ)) = R.ite (decide (ds.length ≤ lenLine)) (.ok (.val (.lst ds) true, ρ)) := rfl
def kL3 (d : D) : R (List D × EnvD) → R (List D × EnvD)
  | .ok x => .ok (d :: x.1, x.2)
  | .no => .no
def kL2 (C : Ctx) (r : E) : R (D × EnvD) → R (List D × EnvD)
  | .ok x => kL3 x.1 (evL C r x.2)
  | .no => .no
def kL1 (C : Ctx) (r : E) : R (Opd × EnvD) → R (List D × EnvD)
  | .ok o => kL2 C r (frz o.2 o.1)
  | .no => .no
theorem evL_nil : evL C .nil ρ = .ok ([], ρ) := by simp only [evL]
theorem evL_cons {a r : E} : evL C (.cons a r) ρ = kL1 C r (ev C a ρ) := by
  simp only [evL]
  cases ev C a ρ with
  | no => rfl
  | ok o =>
    show (frz o.2 o.1).bind _ = kL2 C r (frz o.2 o.1)
    cases frz o.2 o.1 with
    | no => rfl
    | ok x =>
      show (evL C r x.2).bind _ = kL3 x.1 (evL C r x.2)
      cases evL C r x.2 <;> rfl
theorem kL11 {r : E} {o : Opd} : kL1 C r (.ok (o, ρ)) = kL2 C r (frz ρ o) := rfl
theorem kL21 {r : E} {d : D} : kL2 C r (.ok (d, ρ)) = kL3 d (evL C r ρ) := rfl
theorem kL31 {d : D} {ds : List D} : kL3 d (.ok (ds, ρ)) = .ok (d :: ds, ρ) := rfl
/-- two values -/
def kBin3 (o : BO) (ρ : EnvD) : R D → R D → R (Opd × EnvD)
  | .ok d, .ok e => kDn ρ (binD o d e)
  | _, _ => .no
def kBin2 (o : BO) (x : Opd) : R (Opd × EnvD) → R (Opd × EnvD)
  | .ok y => kBin3 o y.2 (res y.2 x) (res y.2 y.1)
  | .no => .no
def kBin1 (C : Ctx) (o : BO) (b : E) : R (Opd × EnvD) → R (Opd × EnvD)
  | .ok x => kBin2 o x.1 (ev C b x.2)
  | .no => .no
theorem ev_bin {o : BO} {a b : E} : ev C (.bin o a b) ρ = kBin1 C o b (ev C a ρ) := by
  simp only [ev]
  cases ev C a ρ with
  | no => rfl
  | ok x =>
    show (ev C b x.2).bind _ = kBin2 o x.1 (ev C b x.2)
    cases ev C b x.2 with
    | no => rfl
    | ok y =>
      show (res y.2 x.1).bind _ = kBin3 o y.2 (res y.2 x.1) (res y.2 y.1)
      cases res y.2 x.1 with
      | no => rfl
      | ok d =>
        show (res y.2 y.1).bind _ = kBin3 o y.2 (.ok d) (res y.2 y.1)
        cases res y.2 y.1 with
        | no => rfl
        | ok e =>
          show (binD o d e).bind _ = kDn y.2 (binD o d e)
          cases binD o d e <;> rfl
theorem kBin11 {o : BO} {b : E} {x : Opd} : kBin1 C o b (.ok (x, ρ)) = kBin2 o x (ev C b ρ) := rfl
theorem kBin21 {o : BO} {x y : Opd} : kBin2 o x (.ok (y, ρ)) = kBin3 o ρ (res ρ x) (res ρ y) := rfl
theorem kBin31 {o : BO} {d e : D} : kBin3 o ρ (.ok d) (.ok e) = kDn ρ (binD o d e) := rfl
def kCmp3 (o : CO) (ρ : EnvD) : R D → R D → R (Opd × EnvD)
  | .ok d, .ok e => kDb ρ (cmpD o d e)
  | _, _ => .no
def kCmp2 (o : CO) (x : Opd) : R (Opd × EnvD) → R (Opd × EnvD)
  | .ok y => kCmp3 o y.2 (res y.2 x) (res y.2 y.1)
  | .no => .no
def kCmp1 (C : Ctx) (o : CO) (b : E) : R (Opd × EnvD) → R (Opd × EnvD)
  | .ok x => kCmp2 o x.1 (ev C b x.2)
  | .no => .no
theorem ev_cmp {o : CO} {a b : E} : ev C (.cmp o a b) ρ = kCmp1 C o b (ev C a ρ) := by
  simp only [ev]
  cases ev C a ρ with
  | no => rfl
  | ok x =>
    show (ev C b x.2).bind _ = kCmp2 o x.1 (ev C b x.2)
    cases ev C b x.2 with
    | no => rfl
    | ok y =>
      show (res y.2 x.1).bind _ = kCmp3 o y.2 (res y.2 x.1) (res y.2 y.1)
      cases res y.2 x.1 with
      | no => rfl
      | ok d =>
        show (res y.2 y.1).bind _ = kCmp3 o y.2 (.ok d) (res y.2 y.1)
        cases res y.2 y.1 with
        | no => rfl
        | ok e =>
          show (cmpD o d e).bind _ = kDb y.2 (cmpD o d e)
          cases cmpD o d e <;> rfl
theorem kCmp11 {o : CO} {b : E} {x : Opd} : kCmp1 C o b (.ok (x, ρ)) = kCmp2 o x (ev C b ρ) := rfl
theorem kCmp21 {o : CO} {x y : Opd} : kCmp2 o x (.ok (y, ρ)) = kCmp3 o ρ (res ρ x) (res ρ y) := rfl
theorem kCmp31 {o : CO} {d e : D} : kCmp3 o ρ (.ok d) (.ok e) = kDb ρ (cmpD o d e) := rfl
def kCh5 (p : CO) (ρ : EnvD) : R D → R D → R (Opd × EnvD)
  | .ok d, .ok e => kDb ρ (cmpD p d e)
  | _, _ => .no
def kCh4 (p : CO) (y : Opd) : R (Opd × EnvD) → R (Opd × EnvD)
  | .ok w => kCh5 p w.2 (res w.2 y) (res w.2 w.1)
  | .no => .no
def kCh3 (C : Ctx) (p : CO) (c : E) (y : Opd) (ρ : EnvD) : R Bool → R (Opd × EnvD)
  | .ok true => kCh4 p y (ev C c ρ)
  | .ok false => .ok (.val (.bl false) false, ρ)
  | .no => .no
def kCh2 (C : Ctx) (o p : CO) (c : E) (y : Opd) (ρ : EnvD) : R D → R D → R (Opd × EnvD)
  | .ok d, .ok e => kCh3 C p c y ρ (cmpD o d e)
  | _, _ => .no
def kCh1 (C : Ctx) (o p : CO) (c : E) (x : Opd) : R (Opd × EnvD) → R (Opd × EnvD)
  | .ok y => kCh2 C o p c y.1 y.2 (res y.2 x) (res y.2 y.1)
  | .no => .no
def kCh0 (C : Ctx) (o p : CO) (b c : E) : R (Opd × EnvD) → R (Opd × EnvD)
  | .ok x => kCh1 C o p c x.1 (ev C b x.2)
  | .no => .no
theorem ev_chain {o p : CO} {a b c : E} : ev C (.chain o p a b c) ρ = kCh0 C o p b c (ev C a ρ) := by
  simp only [ev]
  cases ev C a ρ with
  | no => rfl
  | ok x =>
    show (ev C b x.2).bind _ = kCh1 C o p c x.1 (ev C b x.2)
    cases ev C b x.2 with
    | no => rfl
    | ok y =>
      show (res y.2 x.1).bind _ = kCh2 C o p c y.1 y.2 (res y.2 x.1) (res y.2 y.1)
      cases res y.2 x.1 with
      | no => rfl
      | ok d =>
        show (res y.2 y.1).bind _ = kCh2 C o p c y.1 y.2 (.ok d) (res y.2 y.1)
        cases res y.2 y.1 with
        | no => rfl
        | ok e =>
          show (cmpD o d e).bind _ = kCh3 C p c y.1 y.2 (cmpD o d e)
          cases cmpD o d e with
          | no => rfl
          | ok z =>
            cases z with
            | false => rfl
            | true =>
              show (ev C c y.2).bind _ = kCh4 p y.1 (ev C c y.2)
              cases ev C c y.2 with
              | no => rfl
              | ok w =>
                show (res w.2 y.1).bind _ = kCh5 p w.2 (res w.2 y.1) (res w.2 w.1)
                cases res w.2 y.1 with
                | no => rfl
                | ok d =>
                  show (res w.2 w.1).bind _ = kCh5 p w.2 (.ok d) (res w.2 w.1)
                  cases res w.2 w.1 with
                  | no => rfl
                  | ok e =>
                    show (cmpD p d e).bind _ = kDb w.2 (cmpD p d e)
                    cases cmpD p d e <;> rfl
theorem kCh01 {o p : CO} {b c : E} {x : Opd} : kCh0 C o p b c (.ok (x, ρ)) = kCh1 C o p c x (ev C b ρ) := rfl
theorem kCh11 {o p : CO} {c : E} {x y : Opd} : kCh1 C o p c x (.ok (y, ρ)) = kCh2 C o p c y ρ (res ρ x) (res ρ y) := rfl
theorem kCh21 {o p : CO} {c : E} {y : Opd} {d e : D} : kCh2 C o p c y ρ (.ok d) (.ok e) = kCh3 C p c y ρ (cmpD o d e) := rfl
theorem kCh31 {p : CO} {c : E} {y : Opd} : kCh3 C p c y ρ (.ok true) = kCh4 p y (ev C c ρ) := rfl
theorem kCh32 {p : CO} {c : E} {y : Opd} : kCh3 C p c y ρ (.ok false) = .ok (.val (.bl false) false, ρ) := rfl
theorem kCh41 {p : CO} {y w : Opd} : kCh4 p y (.ok (w, ρ)) = kCh5 p ρ (res ρ y) (res ρ w) := rfl
theorem kCh51 {p : CO} {d e : D} : kCh5 p ρ (.ok d) (.ok e) = kDb ρ (cmpD p d e) := rfl
/-- tests -/
def kTst : R (Opd × EnvD) → R (Bool × EnvD)
  | .ok (.val (.bl k) _, ρ) => .ok (k, ρ)
  | _ => .no
theorem tst_eq {r : R (Opd × EnvD)} : tstO r = kTst r := by
  cases r with
  | no => rfl
  | ok x =>
    obtain ⟨o, ρ⟩ := x
    cases o with
    | slot i => rfl
    | val d fr => cases d <;> rfl
theorem kTst1 {k fr : Bool} : kTst (.ok (.val (.bl k) fr, ρ)) = .ok (k, ρ) := rfl
theorem ev_and {l : E} : ev C (.and l) ρ = evW C true l ρ := by simp only [ev]
theorem ev_or {l : E} : ev C (.or l) ρ = evW C false l ρ := by simp only [ev]
def kW1 : R (Bool × EnvD) → R (Opd × EnvD)
  | .ok x => .ok (.val (.bl x.1) false, x.2)
  | .no => .no
def kW2 (C : Ctx) (w : Bool) (l : E) : R (Bool × EnvD) → R (Opd × EnvD)
  | .ok x => if x.1 = w then evW C w l x.2 else .ok (.val (.bl (!w)) false, x.2)
  | .no => .no
theorem evW_one {w : Bool} {a : E} : evW C w (.cons a .nil) ρ = kW1 (kTst (ev C a ρ)) := by
  simp only [evW, tst_eq]
  cases kTst (ev C a ρ) <;> rfl
theorem evW_two {w : Bool} {a b r : E} : evW C w (.cons a (.cons b r)) ρ = kW2 C w (.cons b r) (kTst (ev C a ρ)) := by
  rw [evW_cons, tst_eq]
  cases kTst (ev C a ρ) <;> rfl
theorem kW11 {k : Bool} : kW1 (.ok (k, ρ)) = .ok (.val (.bl k) false, ρ) := rfl
theorem kW2a {l : E} : kW2 C true l (.ok (true, ρ)) = evW C true l ρ := rfl
theorem kW2b {l : E} : kW2 C true l (.ok (false, ρ)) = .ok (.val (.bl false) false, ρ) := rfl
theorem kW2c {l : E} : kW2 C false l (.ok (false, ρ)) = evW C false l ρ := rfl
theorem kW2d {l : E} : kW2 C false l (.ok (true, ρ)) = .ok (.val (.bl true) false, ρ) := rfl
def kNot : R (Bool × EnvD) → R (Opd × EnvD)
  | .ok x => .ok (.val (.bl (!x.1)) false, x.2)
  | .no => .no
theorem ev_not {a : E} : ev C (.not a) ρ = kNot (kTst (ev C a ρ)) := by
  simp only [ev, tst_eq]
  cases kTst (ev C a ρ) <;> rfl
theorem kNot1 {k : Bool} : kNot (.ok (k, ρ)) = .ok (.val (.bl (!k)) false, ρ) := rfl
def kIte (C : Ctx) (a b : E) : R (Bool × EnvD) → R (Opd × EnvD)
  | .ok (true, ρ) => ev C a ρ
  | .ok (false, ρ) => ev C b ρ
  | .no => .no
theorem ev_ite {c a b : E} : ev C (.ite c a b) ρ = kIte C a b (kTst (ev C c ρ)) := by
  simp only [ev, tst_eq]
  cases kTst (ev C c ρ) with
  | no => rfl
  | ok x => obtain ⟨k, ρ⟩ := x; cases k <;> rfl
theorem kIte1 {a b : E} : kIte C a b (.ok (true, ρ)) = ev C a ρ := rfl
theorem kIte2 {a b : E} : kIte C a b (.ok (false, ρ)) = ev C b ρ := rfl
def kIdx3 (ρ : EnvD) : R D → R D → R (Opd × EnvD)
  | .ok d, .ok e => kDv ρ (idxD d e)
  | _, _ => .no
def kIdx2 (x : Opd) : R (Opd × EnvD) → R (Opd × EnvD)
  | .ok y => kIdx3 y.2 (res y.2 x) (res y.2 y.1)
  | .no => .no
def kIdx1 (C : Ctx) (b : E) : R (Opd × EnvD) → R (Opd × EnvD)
  | .ok x => kIdx2 x.1 (ev C b x.2)
  | .no => .no
theorem ev_idx {a b : E} : ev C (.idx a b) ρ = kIdx1 C b (ev C a ρ) := by
  simp only [ev]
  cases ev C a ρ with
  | no => rfl
  | ok x =>
    show (ev C b x.2).bind _ = kIdx2 x.1 (ev C b x.2)
    cases ev C b x.2 with
    | no => rfl
    | ok y =>
      show (res y.2 x.1).bind _ = kIdx3 y.2 (res y.2 x.1) (res y.2 y.1)
      cases res y.2 x.1 with
      | no => rfl
      | ok d =>
        show (res y.2 y.1).bind _ = kIdx3 y.2 (.ok d) (res y.2 y.1)
        cases res y.2 y.1 with
        | no => rfl
        | ok e =>
          show (idxD d e).bind _ = kDv y.2 (idxD d e)
          cases idxD d e <;> rfl
theorem kIdx11 {b : E} {x : Opd} : kIdx1 C b (.ok (x, ρ)) = kIdx2 x (ev C b ρ) := rfl
theorem kIdx21 {x y : Opd} : kIdx2 x (.ok (y, ρ)) = kIdx3 ρ (res ρ x) (res ρ y) := rfl
theorem kIdx31 {d e : D} : kIdx3 ρ (.ok d) (.ok e) = kDv ρ (idxD d e) := rfl
/-- slices: the bounds -/
def kB (r : R (Opd × EnvD)) : R (Option Int × EnvD) := match r with
  | .ok (.val (.int k) _, ρ) => .ok (some k, ρ)
  | _ => .no
theorem kB1 {k : Int} {fr : Bool} : kB (.ok (.val (.int k) fr, ρ)) = .ok (some k, ρ) := rfl
theorem optE_nil {r : R (Opd × EnvD)} : optE .nil r ρ = .ok (none, ρ) := rfl
theorem optE_some {e : E} {r : R (Opd × EnvD)} (h : isNil e = false) : optE e r ρ = kB r := by
  have q : (r.bind fun x => match x.1 with | .val (.int k) _ => R.ok (some k, x.2) | _ => R.no) = kB r := by
    cases r with
    | no => rfl
    | ok x =>
      obtain ⟨o, ρ⟩ := x
      cases o with
      | slot i => rfl
      | val d fr => cases d <;> rfl
  cases e <;> first | (cases h; done) | exact q
theorem optE_int {k : Int} {r : R (Opd × EnvD)} : optE (.int k) r ρ = kB r := optE_some rfl
theorem optE_var {k : Nat} {r : R (Opd × EnvD)} : optE (.var k) r ρ = kB r := optE_some rfl
theorem optE_neg {k : Int} {r : R (Opd × EnvD)} : optE (.neg k) r ρ = kB r := optE_some rfl
theorem optE_bin {o : BO} {a b : E} {r : R (Opd × EnvD)} : optE (.bin o a b) r ρ = kB r := optE_some rfl
theorem optE_bc {b : BF} {l : E} {r : R (Opd × EnvD)} : optE (.bc b l) r ρ = kB r := optE_some rfl
def kSl4 (lo hi : Option Int) (ρ : EnvD) : R D → R (Opd × EnvD)
  | .ok d => kDn ρ (slcD d lo hi)
  | .no => .no
def kSl3 (x : Opd) (lo : Option Int) : R (Option Int × EnvD) → R (Opd × EnvD)
  | .ok z => kSl4 lo z.1 z.2 (res z.2 x)
  | .no => .no
def kSl2 (C : Ctx) (x : Opd) (hi : E) : R (Option Int × EnvD) → R (Opd × EnvD)
  | .ok y => kSl3 x y.1 (optE hi (ev C hi y.2) y.2)
  | .no => .no
def kSl1 (C : Ctx) (lo hi : E) : R (Opd × EnvD) → R (Opd × EnvD)
  | .ok x => kSl2 C x.1 hi (optE lo (ev C lo x.2) x.2)
  | .no => .no
theorem ev_slc {a lo hi : E} : ev C (.slc a lo hi) ρ = kSl1 C lo hi (ev C a ρ) := by
  simp only [ev]
  cases ev C a ρ with
  | no => rfl
  | ok x =>
    show (optE lo (ev C lo x.2) x.2).bind _ = kSl2 C x.1 hi (optE lo (ev C lo x.2) x.2)
    cases optE lo (ev C lo x.2) x.2 with
    | no => rfl
    | ok y =>
      show (optE hi (ev C hi y.2) y.2).bind _ = kSl3 x.1 y.1 (optE hi (ev C hi y.2) y.2)
      cases optE hi (ev C hi y.2) y.2 with
      | no => rfl
      | ok z =>
        show (res z.2 x.1).bind _ = kSl4 y.1 z.1 z.2 (res z.2 x.1)
        cases res z.2 x.1 with
        | no => rfl
        | ok d =>
          show (slcD d y.1 z.1).bind _ = kDn z.2 (slcD d y.1 z.1)
          cases slcD d y.1 z.1 <;> rfl
theorem kSl11 {lo hi : E} {x : Opd} : kSl1 C lo hi (.ok (x, ρ)) = kSl2 C x hi (optE lo (ev C lo ρ) ρ) := rfl
theorem kSl21 {hi : E} {x : Opd} {lo : Option Int} : kSl2 C x hi (.ok (lo, ρ)) = kSl3 x lo (optE hi (ev C hi ρ) ρ) := rfl
theorem kSl31 {x : Opd} {lo hi : Option Int} : kSl3 x lo (.ok (hi, ρ)) = kSl4 lo hi ρ (res ρ x) := rfl
theorem kSl41 {d : D} {lo hi : Option Int} : kSl4 lo hi ρ (.ok d) = kDn ρ (slcD d lo hi) := rfl
def kRev2 (ρ : EnvD) : R D → R (Opd × EnvD)
  | .ok d => kDn ρ (revD d)
  | .no => .no
def kRev1 : R (Opd × EnvD) → R (Opd × EnvD)
  | .ok x => kRev2 x.2 (res x.2 x.1)
  | .no => .no
theorem ev_rev {a : E} : ev C (.rev a) ρ = kRev1 (ev C a ρ) := by
  simp only [ev]
  cases ev C a ρ with
  | no => rfl
  | ok x =>
    show (res x.2 x.1).bind _ = kRev2 x.2 (res x.2 x.1)
    cases res x.2 x.1 with
    | no => rfl
    | ok d =>
      show (revD d).bind _ = kDn x.2 (revD d)
      cases revD d <;> rfl
theorem kRev11 {x : Opd} : kRev1 (.ok (x, ρ)) = kRev2 ρ (res ρ x) := rfl
theorem kRev21 {d : D} : kRev2 ρ (.ok d) = kDn ρ (revD d) := rfl
/-- arguments -/
def kA2 (o : Opd) : R (List Opd × EnvD) → R (List Opd × EnvD)
  | .ok x => .ok (o :: x.1, x.2)
  | .no => .no
def kA1 (C : Ctx) (r : E) : R (Opd × EnvD) → R (List Opd × EnvD)
  | .ok o => kA2 o.1 (evA C r o.2)
  | .no => .no
theorem evA_nil : evA C .nil ρ = .ok ([], ρ) := by simp only [evA]
theorem evA_cons {a r : E} : evA C (.cons a r) ρ = kA1 C r (ev C a ρ) := by
  simp only [evA]
  cases ev C a ρ with
  | no => rfl
  | ok o =>
    show (evA C r o.2).bind _ = kA2 o.1 (evA C r o.2)
    cases evA C r o.2 <;> rfl
theorem kA11 {r : E} {o : Opd} : kA1 C r (.ok (o, ρ)) = kA2 o (evA C r ρ) := rfl
theorem kA21 {o : Opd} {os : List Opd} : kA2 o (.ok (os, ρ)) = .ok (o :: os, ρ) := rfl
/-- calls: the arguments stand; the call's end -/
def kEnd (os : List Opd) (ρ : EnvD) : R ((D × Bool) × List (D × Bool)) → R (Opd × EnvD)
  | .ok y => R.ite (decide (y.2.length = os.length)) (.ok (.val y.1.1 y.1.2, putBack os y.2 ρ))
  | .no => .no
def kCl2 (f : Fn) (os : List Opd) (ρ : EnvD) : R (List (D × Bool)) → R (Opd × EnvD)
  | .ok xs => kEnd os ρ (f xs)
  | .no => .no
def kCl1 (f : Fn) : R (List Opd × EnvD) → R (Opd × EnvD)
  | .ok x => R.ite (nodupB (slotsOf x.1)) (kCl2 f x.1 x.2 (argsD x.2 x.1))
  | .no => .no
theorem callD_eq {f : Fn} {os : List Opd} : callD f os ρ = kCl1 f (.ok (os, ρ)) := by
  show R.ite (nodupB (slotsOf os)) _ = R.ite (nodupB (slotsOf os)) (kCl2 f os ρ (argsD ρ os))
  cases nodupB (slotsOf os) with
  | false => rfl
  | true =>
    show (argsD ρ os).bind _ = kCl2 f os ρ (argsD ρ os)
    cases argsD ρ os with
    | no => rfl
    | ok xs =>
      show (f xs).bind _ = kEnd os ρ (f xs)
      cases f xs <;> rfl
theorem ev_call {f : Nat} {l : E} : ev C (.call f l) ρ = kCl1 (C.fn f) (evA C l ρ) := by
  simp only [ev]
  cases evA C l ρ with
  | no => rfl
  | ok x => exact callD_eq
def kOne : R (Opd × EnvD) → R (List Opd × EnvD)
  | .ok x => .ok ([x.1], x.2)
  | .no => .no
theorem ev_callk {f : Nat} {l : E} : ev C (.callk f l) ρ = kCl1 (C.fn f) (kOne (ev C l ρ)) := by
  simp only [ev]
  cases ev C l ρ with
  | no => rfl
  | ok x => exact callD_eq
theorem kOne1 {o : Opd} : kOne (.ok (o, ρ)) = .ok ([o], ρ) := rfl
theorem kCl11 {f : Fn} {os : List Opd} : kCl1 f (.ok (os, ρ)) = R.ite (nodupB (slotsOf os)) (kCl2 f os ρ (argsD ρ os)) := rfl
theorem kCl21 {f : Fn} {os : List Opd} {xs : List (D × Bool)} : kCl2 f os ρ (.ok xs) = kEnd os ρ (f xs) := rfl
theorem kEnd1 {os : List Opd} {d : D} {fr : Bool} {xs : List (D × Bool)} : kEnd os ρ (.ok ((d, fr), xs)) = R.ite (decide (xs.length = os.length)) (.ok (.val d fr, putBack os xs ρ)) := rfl
def kAr2 (x : D × Bool) : R (List (D × Bool)) → R (List (D × Bool))
  | .ok xs => .ok (x :: xs)
  | .no => .no
def kAr1 (ρ : EnvD) (r : List Opd) : Option (D × Bool) → R (List (D × Bool))
  | some x => R.ite x.2 (kAr2 x (argsD ρ r))
  | none => .no
theorem argsD_nil : argsD ρ [] = .ok [] := rfl
theorem argsD_slot {i : Nat} {r : List Opd} : argsD ρ (.slot i :: r) = kAr1 ρ r (getD? ρ i) := by
  simp only [argsD]
  cases getD? ρ i with
  | none => rfl
  | some x =>
    show R.ite x.2 _ = R.ite x.2 _
    cases x.2 with
    | false => rfl
    | true => cases argsD ρ r <;> rfl
theorem argsD_val {d : D} {fr : Bool} {r : List Opd} : argsD ρ (.val d fr :: r) = kAr2 (d, fr) (argsD ρ r) := by
  simp only [argsD]
  cases argsD ρ r <;> rfl
theorem kAr11 {d : D} {r : List Opd} : kAr1 ρ r (some (d, true)) = kAr2 (d, true) (argsD ρ r) := rfl
theorem kAr21 {x : D × Bool} {xs : List (D × Bool)} : kAr2 x (.ok xs) = .ok (x :: xs) := rfl
/-- built-in functions -/
def kRs2 (d : D) : R (List D) → R (List D)
  | .ok ds => .ok (d :: ds)
  | .no => .no
def kRs1 (ρ : EnvD) (r : List Opd) : R D → R (List D)
  | .ok d => kRs2 d (ress ρ r)
  | .no => .no
theorem ress_nil : ress ρ [] = .ok [] := rfl
theorem ress_cons {o : Opd} {r : List Opd} : ress ρ (o :: r) = kRs1 ρ r (res ρ o) := by
  simp only [ress]
  cases res ρ o with
  | no => rfl
  | ok d =>
    show (ress ρ r).bind _ = kRs2 d (ress ρ r)
    cases ress ρ r <;> rfl
theorem kRs11 {d : D} {r : List Opd} : kRs1 ρ r (.ok d) = kRs2 d (ress ρ r) := rfl
theorem kRs21 {d : D} {ds : List D} : kRs2 d (.ok ds) = .ok (d :: ds) := rfl
def kBf2 (b : BF) (ρ : EnvD) : R (List D) → R (Opd × EnvD)
  | .ok ds => kDn ρ (bfD b ds)
  | .no => .no
def kBf1 (b : BF) : R (List Opd × EnvD) → R (Opd × EnvD)
  | .ok x => kBf2 b x.2 (ress x.2 x.1)
  | .no => .no
theorem ev_bc {b : BF} {l : E} : ev C (.bc b l) ρ = kBf1 b (evA C l ρ) := by
  simp only [ev]
  cases evA C l ρ with
  | no => rfl
  | ok x =>
    show (ress x.2 x.1).bind _ = kBf2 b x.2 (ress x.2 x.1)
    cases ress x.2 x.1 with
    | no => rfl
    | ok ds =>
      show (bfD b ds).bind _ = kDn x.2 (bfD b ds)
      cases bfD b ds <;> rfl
theorem kBf11 {b : BF} {os : List Opd} : kBf1 b (.ok (os, ρ)) = kBf2 b ρ (ress ρ os) := rfl
theorem kBf21 {b : BF} {ds : List D} : kBf2 b ρ (.ok ds) = kDn ρ (bfD b ds) := rfl
def kIsi2 (t : TyN) (ρ : EnvD) : R D → R (Opd × EnvD)
  | .ok d => .ok (.val (.bl (isiD t d)) false, ρ)
  | .no => .no
def kIsi1 (t : TyN) : R (Opd × EnvD) → R (Opd × EnvD)
  | .ok x => kIsi2 t x.2 (res x.2 x.1)
  | .no => .no
theorem ev_isi {t : TyN} {a : E} : ev C (.isi a t) ρ = kIsi1 t (ev C a ρ) := by
  simp only [ev]
  cases ev C a ρ with
  | no => rfl
  | ok x =>
    show (res x.2 x.1).bind _ = kIsi2 t x.2 (res x.2 x.1)
    cases res x.2 x.1 <;> rfl
theorem kIsi11 {t : TyN} {x : Opd} : kIsi1 t (.ok (x, ρ)) = kIsi2 t ρ (res ρ x) := rfl
theorem kIsi21 {t : TyN} {d : D} : kIsi2 t ρ (.ok d) = .ok (.val (.bl (isiD t d)) false, ρ) := rfl
def kUp2 (ρ : EnvD) : R D → R (Opd × EnvD)
  | .ok d => kDv ρ (upD d)
  | .no => .no
def kUp1 : R (Opd × EnvD) → R (Opd × EnvD)
  | .ok x => kUp2 x.2 (res x.2 x.1)
  | .no => .no
theorem ev_upper {a : E} : ev C (.upper a) ρ = kUp1 (ev C a ρ) := by
  simp only [ev]
  cases ev C a ρ with
  | no => rfl
  | ok x =>
    show (res x.2 x.1).bind _ = kUp2 x.2 (res x.2 x.1)
    cases res x.2 x.1 with
    | no => rfl
    | ok d =>
      show (upD d).bind _ = kDv x.2 (upD d)
      cases upD d <;> rfl
theorem kUp11 {x : Opd} : kUp1 (.ok (x, ρ)) = kUp2 ρ (res ρ x) := rfl
theorem kUp21 {d : D} : kUp2 ρ (.ok d) = kDv ρ (upD d) := rfl
/-- comprehensions -/
def kLc2 (ρ : EnvD) (tg : Tg) : R (List D × EnvD) → R (Opd × EnvD)
  | .ok y => .ok (.val (.lst y.1) true, backD ρ y.2 tg.slots)
  | .no => .no
def kLc1 (C : Ctx) (tg : Tg) (elt c : E) : R (List D × EnvD) → R (Opd × EnvD)
  | .ok x => R.ite (decide (x.1.length ≤ lenLine)) (kLc2 x.2 tg (compLoop (turnD C tg elt c) x.1 [] (wipeD x.2 tg.slots)))
  | .no => .no
theorem ev_comp {tg : Tg} {elt it c : E} : ev C (.comp tg elt it c) ρ = kLc1 C tg elt c (evI C it ρ) := by
  simp only [ev]
  cases evI C it ρ with
  | no => rfl
  | ok x =>
    show R.ite (decide (x.1.length ≤ lenLine)) _ = R.ite (decide (x.1.length ≤ lenLine)) _
    cases decide (x.1.length ≤ lenLine) with
    | false => rfl
    | true =>
      show (compLoop (turnD C tg elt c) x.1 [] (wipeD x.2 tg.slots)).bind _ = kLc2 x.2 tg (compLoop (turnD C tg elt c) x.1 [] (wipeD x.2 tg.slots))
      cases compLoop (turnD C tg elt c) x.1 [] (wipeD x.2 tg.slots) <;> rfl
theorem kLc11 {tg : Tg} {elt c : E} {ds : List D} : kLc1 C tg elt c (.ok (ds, ρ)) = R.ite (decide (ds.length ≤ lenLine)) (kLc2 ρ tg (compLoop (turnD C tg elt c) ds [] (wipeD ρ tg.slots))) := rfl
theorem kLc21 {tg : Tg} {ds : List D} : kLc2 ρ tg (.ok (ds, ρ1)) = .ok (.val (.lst ds) true, backD ρ ρ1 tg.slots) := rfl
def kTn4 (vs : List Nat) : R (D × EnvD) → R (Option D × EnvD)
  | .ok y => .ok (some y.1, wipeD y.2 vs)
  | .no => .no
def kTn3 (vs : List Nat) : R (Opd × EnvD) → R (Option D × EnvD)
  | .ok o => kTn4 vs (frz o.2 o.1)
  | .no => .no
def kTn2 (C : Ctx) (vs : List Nat) (elt : E) : R (Bool × EnvD) → R (Option D × EnvD)
  | .ok (true, ρ) => kTn3 vs (ev C elt ρ)
  | .ok (false, ρ) => .ok (none, wipeD ρ vs)
  | .no => .no
def kTn1 (C : Ctx) (tg : Tg) (elt c : E) : R EnvD → R (Option D × EnvD)
  | .ok ρ => kTn2 C tg.slots elt (optC c (ev C c ρ) ρ)
  | .no => .no
theorem turn_eq {tg : Tg} {elt c : E} {d : D} : turnD C tg elt c d ρ = kTn1 C tg elt c (bindT [] tg d ρ) := by
  unfold turnD
  cases bindT [] tg d ρ with
  | no => rfl
  | ok ρ1 =>
    show (optC c (ev C c ρ1) ρ1).bind _ = kTn2 C tg.slots elt (optC c (ev C c ρ1) ρ1)
    cases optC c (ev C c ρ1) ρ1 with
    | no => rfl
    | ok b =>
      obtain ⟨k, ρ2⟩ := b
      cases k with
      | false => rfl
      | true =>
        show (ev C elt ρ2).bind _ = kTn3 tg.slots (ev C elt ρ2)
        cases ev C elt ρ2 with
        | no => rfl
        | ok o =>
          show (frz o.2 o.1).bind _ = kTn4 tg.slots (frz o.2 o.1)
          cases frz o.2 o.1 <;> rfl
theorem optC_nil {r : R (Opd × EnvD)} : optC .nil r ρ = .ok (true, ρ) := rfl
theorem optC_some {e : E} {r : R (Opd × EnvD)} (h : isNil e = false) : optC e r ρ = kTst r := by
  rw [← tst_eq]
  cases e <;> first | (cases h; done) | rfl
theorem optC_cmp {o : CO} {a b : E} {r : R (Opd × EnvD)} : optC (.cmp o a b) r ρ = kTst r := optC_some rfl
theorem optC_isi {a : E} {t : TyN} {r : R (Opd × EnvD)} : optC (.isi a t) r ρ = kTst r := optC_some rfl
theorem optC_not {a : E} {r : R (Opd × EnvD)} : optC (.not a) r ρ = kTst r := optC_some rfl
theorem optC_and {a : E} {r : R (Opd × EnvD)} : optC (.and a) r ρ = kTst r := optC_some rfl
theorem optC_or {a : E} {r : R (Opd × EnvD)} : optC (.or a) r ρ = kTst r := optC_some rfl
theorem optC_call {f : Nat} {a : E} {r : R (Opd × EnvD)} : optC (.call f a) r ρ = kTst r := optC_some rfl
theorem kTn11 {tg : Tg} {elt c : E} : kTn1 C tg elt c (.ok ρ) = kTn2 C tg.slots elt (optC c (ev C c ρ) ρ) := rfl
theorem kTn21 {vs : List Nat} {elt : E} : kTn2 C vs elt (.ok (true, ρ)) = kTn3 vs (ev C elt ρ) := rfl
theorem kTn22 {vs : List Nat} {elt : E} : kTn2 C vs elt (.ok (false, ρ)) = .ok (none, wipeD ρ vs) := rfl
theorem kTn31 {vs : List Nat} {o : Opd} : kTn3 vs (.ok (o, ρ)) = kTn4 vs (frz ρ o) := rfl
theorem kTn41 {vs : List Nat} {d : D} : kTn4 vs (.ok (d, ρ)) = .ok (some d, wipeD ρ vs) := rfl
/-- what is walked -/
def kPr (ρ : EnvD) : R (List D) → R (List D × EnvD)
  | .ok ds => .ok (ds, ρ)
  | .no => .no
theorem kPr1 {ds : List D} : kPr ρ (.ok ds) = .ok (ds, ρ) := rfl
def kIv2 : R (D × EnvD) → R (List D × EnvD)
  | .ok x => kPr x.2 (itemsD x.1)
  | .no => .no
def kIv1 : R (Opd × EnvD) → R (List D × EnvD)
  | .ok o => kIv2 (frz o.2 o.1)
  | .no => .no
theorem evI_itv {a : E} : evI C (.itv a) ρ = kIv1 (ev C a ρ) := by
  simp only [evI]
  cases ev C a ρ with
  | no => rfl
  | ok o =>
    show (frz o.2 o.1).bind _ = kIv2 (frz o.2 o.1)
    cases frz o.2 o.1 with
    | no => rfl
    | ok x =>
      show (itemsD x.1).bind _ = kPr x.2 (itemsD x.1)
      cases itemsD x.1 <;> rfl
theorem kIv11 {o : Opd} : kIv1 (.ok (o, ρ)) = kIv2 (frz ρ o) := rfl
theorem kIv21 {d : D} : kIv2 (.ok (d, ρ)) = kPr ρ (itemsD d) := rfl
def kEm2 : R (D × EnvD) → R (List D × EnvD)
  | .ok x => kPr x.2 (enmD x.1)
  | .no => .no
def kEm1 : R (Opd × EnvD) → R (List D × EnvD)
  | .ok o => kEm2 (frz o.2 o.1)
  | .no => .no
theorem evI_enm {a : E} : evI C (.enm a) ρ = kEm1 (ev C a ρ) := by
  simp only [evI]
  cases ev C a ρ with
  | no => rfl
  | ok o =>
    show (frz o.2 o.1).bind _ = kEm2 (frz o.2 o.1)
    cases frz o.2 o.1 with
    | no => rfl
    | ok x =>
      show (enmD x.1).bind _ = kPr x.2 (enmD x.1)
      cases enmD x.1 <;> rfl
theorem kEm11 {o : Opd} : kEm1 (.ok (o, ρ)) = kEm2 (frz ρ o) := rfl
theorem kEm21 {d : D} : kEm2 (.ok (d, ρ)) = kPr ρ (enmD d) := rfl
def kR2 (ρ : EnvD) : R D → R (List D × EnvD)
  | .ok (.int n) => kPr ρ (rngD 0 n)
  | _ => .no
def kR1 : R (Opd × EnvD) → R (List D × EnvD)
  | .ok o => kR2 o.2 (res o.2 o.1)
  | .no => .no
theorem evI_rng1 {a : E} : evI C (.rng1 a) ρ = kR1 (ev C a ρ) := by
  simp only [evI]
  cases ev C a ρ with
  | no => rfl
  | ok o =>
    show (res o.2 o.1).bind _ = kR2 o.2 (res o.2 o.1)
    cases res o.2 o.1 with
    | no => rfl
    | ok d =>
      cases d <;> first | rfl | skip
      rename_i n
      show (rngD 0 n).bind _ = kPr o.2 (rngD 0 n)
      cases rngD 0 n <;> rfl
theorem kR11 {o : Opd} : kR1 (.ok (o, ρ)) = kR2 ρ (res ρ o) := rfl
theorem kR21 {n : Int} : kR2 ρ (.ok (.int n)) = kPr ρ (rngD 0 n) := rfl
def kZ4 (d : D) : R (D × EnvD) → R (List D × EnvD)
  | .ok y => kPr y.2 (zipD d y.1)
  | .no => .no
def kZ3 (d : D) : R (Opd × EnvD) → R (List D × EnvD)
  | .ok o => kZ4 d (frz o.2 o.1)
  | .no => .no
def kZ2 (C : Ctx) (b : E) : R (D × EnvD) → R (List D × EnvD)
  | .ok x => kZ3 x.1 (ev C b x.2)
  | .no => .no
def kZ1 (C : Ctx) (b : E) : R (Opd × EnvD) → R (List D × EnvD)
  | .ok o => kZ2 C b (frz o.2 o.1)
  | .no => .no
theorem evI_zip {a b : E} : evI C (.zip a b) ρ = kZ1 C b (ev C a ρ) := by
  simp only [evI]
  cases ev C a ρ with
  | no => rfl
  | ok o =>
    show (frz o.2 o.1).bind _ = kZ2 C b (frz o.2 o.1)
    cases frz o.2 o.1 with
    | no => rfl
    | ok x =>
      show (ev C b x.2).bind _ = kZ3 x.1 (ev C b x.2)
      cases ev C b x.2 with
      | no => rfl
      | ok p =>
        show (frz p.2 p.1).bind _ = kZ4 x.1 (frz p.2 p.1)
        cases frz p.2 p.1 with
        | no => rfl
        | ok y =>
          show (zipD x.1 y.1).bind _ = kPr y.2 (zipD x.1 y.1)
          cases zipD x.1 y.1 <;> rfl
theorem kZ11 {b : E} {o : Opd} : kZ1 C b (.ok (o, ρ)) = kZ2 C b (frz ρ o) := rfl
theorem kZ21 {b : E} {d : D} : kZ2 C b (.ok (d, ρ)) = kZ3 d (ev C b ρ) := rfl
theorem kZ31 {d : D} {o : Opd} : kZ3 d (.ok (o, ρ)) = kZ4 d (frz ρ o) := rfl
theorem kZ41 {d e : D} : kZ4 d (.ok (e, ρ)) = kPr ρ (zipD d e) := rfl

/-! ### statements -/
def kSq (C : Ctx) (P : Keep) (r : S) : R Fl → R Fl
  | .ok (.nx ρ) => run C P r ρ
  | .ok (.rt x ρ) => .ok (.rt x ρ)
  | .no => .no
theorem run_nil : run C P .nil ρ = .ok (.nx ρ) := rfl
theorem run_cons {s r : S} : run C P (.cons s r) ρ = kSq C P r (run C P s ρ) := by
  simp only [run]
  cases run C P s ρ with
  | no => rfl
  | ok f => cases f <;> rfl
theorem kSq1 {r : S} : kSq C P r (.ok (.nx ρ)) = run C P r ρ := rfl
theorem kSq2 {r : S} {x : D × Bool} : kSq C P r (.ok (.rt x ρ)) = .ok (.rt x ρ) := rfl
def kNx : R EnvD → R Fl
  | .ok ρ => .ok (.nx ρ)
  | .no => .no
theorem kNx1 : kNx (.ok ρ) = .ok (.nx ρ) := rfl
def kAs2 (P : Keep) (i : Nat) : R ((D × Bool) × EnvD) → R Fl
  | .ok x => kNx (setSlot P x.2 i x.1)
  | .no => .no
def kAs1 (P : Keep) (i : Nat) : R (Opd × EnvD) → R Fl
  | .ok o => kAs2 P i (tak o.2 o.1)
  | .no => .no
theorem run_asg {i : Nat} {e : E} : run C P (.asg (.nm i) e) ρ = kAs1 P i (ev C e ρ) := by
  simp only [run]
  cases ev C e ρ with
  | no => rfl
  | ok o =>
    show (tak o.2 o.1).bind _ = kAs2 P i (tak o.2 o.1)
    cases tak o.2 o.1 with
    | no => rfl
    | ok x =>
      show (setSlot P x.2 i x.1).bind _ = kNx (setSlot P x.2 i x.1)
      cases setSlot P x.2 i x.1 <;> rfl
theorem kAs11 {i : Nat} {o : Opd} : kAs1 P i (.ok (o, ρ)) = kAs2 P i (tak ρ o) := rfl
theorem kAs21 {i : Nat} {x : D × Bool} : kAs2 P i (.ok (x, ρ)) = kNx (setSlot P ρ i x) := rfl
def kAt2 (P : Keep) (is : List Nat) : R (D × EnvD) → R Fl
  | .ok x => kNx (bindT P (.tp is) x.1 x.2)
  | .no => .no
def kAt1 (P : Keep) (is : List Nat) : R (Opd × EnvD) → R Fl
  | .ok o => kAt2 P is (frz o.2 o.1)
  | .no => .no
theorem run_asgT {is : List Nat} {e : E} : run C P (.asg (.tp is) e) ρ = kAt1 P is (ev C e ρ) := by
  simp only [run]
  cases ev C e ρ with
  | no => rfl
  | ok o =>
    show (frz o.2 o.1).bind _ = kAt2 P is (frz o.2 o.1)
    cases frz o.2 o.1 with
    | no => rfl
    | ok x =>
      show (bindT P (.tp is) x.1 x.2).bind _ = kNx (bindT P (.tp is) x.1 x.2)
      cases bindT P (.tp is) x.1 x.2 <;> rfl
theorem kAt11 {is : List Nat} {o : Opd} : kAt1 P is (.ok (o, ρ)) = kAt2 P is (frz ρ o) := rfl
theorem kAt21 {is : List Nat} {d : D} : kAt2 P is (.ok (d, ρ)) = kNx (bindT P (.tp is) d ρ) := rfl
def kPa5 (P : Keep) (j : Nat) (y : D × Bool) : R EnvD → R Fl
  | .ok ρ => kNx (setSlot P ρ j y)
  | .no => .no
def kPa4 (P : Keep) (i j : Nat) (x : D × Bool) : R ((D × Bool) × EnvD) → R Fl
  | .ok y => kPa5 P j y.1 (setSlot P y.2 i x)
  | .no => .no
def kPa3 (P : Keep) (i j : Nat) (x : D × Bool) : R (Opd × EnvD) → R Fl
  | .ok p => kPa4 P i j x (tak p.2 p.1)
  | .no => .no
def kPa2 (C : Ctx) (P : Keep) (i j : Nat) (b : E) : R ((D × Bool) × EnvD) → R Fl
  | .ok x => kPa3 P i j x.1 (ev C b x.2)
  | .no => .no
def kPa1 (C : Ctx) (P : Keep) (i j : Nat) (b : E) : R (Opd × EnvD) → R Fl
  | .ok o => kPa2 C P i j b (tak o.2 o.1)
  | .no => .no
theorem run_par {i j : Nat} {a b : E} : run C P (.par i j a b) ρ = kPa1 C P i j b (ev C a ρ) := by
  simp only [run]
  cases ev C a ρ with
  | no => rfl
  | ok o =>
    show (tak o.2 o.1).bind _ = kPa2 C P i j b (tak o.2 o.1)
    cases tak o.2 o.1 with
    | no => rfl
    | ok x =>
      show (ev C b x.2).bind _ = kPa3 P i j x.1 (ev C b x.2)
      cases ev C b x.2 with
      | no => rfl
      | ok p =>
        show (tak p.2 p.1).bind _ = kPa4 P i j x.1 (tak p.2 p.1)
        cases tak p.2 p.1 with
        | no => rfl
        | ok y =>
          show (setSlot P y.2 i x.1).bind _ = kPa5 P j y.1 (setSlot P y.2 i x.1)
          cases setSlot P y.2 i x.1 with
          | no => rfl
          | ok ρ =>
            show (setSlot P ρ j y.1).bind _ = kNx (setSlot P ρ j y.1)
            cases setSlot P ρ j y.1 <;> rfl
theorem kPa11 {i j : Nat} {b : E} {o : Opd} : kPa1 C P i j b (.ok (o, ρ)) = kPa2 C P i j b (tak ρ o) := rfl
theorem kPa21 {i j : Nat} {b : E} {x : D × Bool} : kPa2 C P i j b (.ok (x, ρ)) = kPa3 P i j x (ev C b ρ) := rfl
theorem kPa31 {i j : Nat} {x : D × Bool} {o : Opd} : kPa3 P i j x (.ok (o, ρ)) = kPa4 P i j x (tak ρ o) := rfl
theorem kPa41 {i j : Nat} {x y : D × Bool} : kPa4 P i j x (.ok (y, ρ)) = kPa5 P j y (setSlot P ρ i x) := rfl
theorem kPa51 {j : Nat} {y : D × Bool} : kPa5 P j y (.ok ρ) = kNx (setSlot P ρ j y) := rfl
def kSi6 (j : Nat) (ρ : EnvD) : R (D × Bool) → R Fl
  | .ok d => .ok (.nx (ρ.set j (some d)))
  | .no => .no
def kSi5 (j : Nat) (ρ : EnvD) (x kd : D) : Option (D × Bool) → R Fl
  | some d => kSi6 j ρ (setiD d kd x)
  | none => .no
def kSi4 (w : Opd) (x : D) (ρ : EnvD) : R D → R Fl
  | .ok kd => (match w with
    | .slot j => kSi5 j ρ x kd (getD? ρ j)
    | .val _ _ => .no)
  | .no => .no
def kSi3 (w : Opd) (x : D) : R (Opd × EnvD) → R Fl
  | .ok p => kSi4 w x p.2 (res p.2 p.1)
  | .no => .no
def kSi2 (C : Ctx) (k : E) (x : D) : R (Opd × EnvD) → R Fl
  | .ok w => kSi3 w.1 x (ev C k w.2)
  | .no => .no
def kSi1 (C : Ctx) (i : Nat) (k : E) : R (D × EnvD) → R Fl
  | .ok x => kSi2 C k x.1 (ev C (.var i) x.2)
  | .no => .no
def kSi0 (C : Ctx) (i : Nat) (k : E) : R (Opd × EnvD) → R Fl
  | .ok o => kSi1 C i k (frz o.2 o.1)
  | .no => .no
theorem run_seti {i : Nat} {k e : E} : run C P (.seti i k e) ρ = kSi0 C i k (ev C e ρ) := by
  simp only [run]
  cases ev C e ρ with
  | no => rfl
  | ok o =>
    show (frz o.2 o.1).bind _ = kSi1 C i k (frz o.2 o.1)
    cases frz o.2 o.1 with
    | no => rfl
    | ok x =>
      show (ev C (.var i) x.2).bind _ = kSi2 C k x.1 (ev C (.var i) x.2)
      cases ev C (.var i) x.2 with
      | no => rfl
      | ok w =>
        show (ev C k w.2).bind _ = kSi3 w.1 x.1 (ev C k w.2)
        cases ev C k w.2 with
        | no => rfl
        | ok p =>
          show (res p.2 p.1).bind _ = kSi4 w.1 x.1 p.2 (res p.2 p.1)
          cases res p.2 p.1 with
          | no => rfl
          | ok kd =>
            obtain ⟨wo, wρ⟩ := w
            cases wo with
            | val d fr => rfl
            | slot j =>
              show (R.of (getD? p.2 j)).bind _ = kSi5 j p.2 x.1 kd (getD? p.2 j)
              cases getD? p.2 j with
              | none => rfl
              | some d =>
                show (setiD d kd x.1).bind _ = kSi6 j p.2 (setiD d kd x.1)
                cases setiD d kd x.1 <;> rfl
theorem kSi01 {i : Nat} {k : E} {o : Opd} : kSi0 C i k (.ok (o, ρ)) = kSi1 C i k (frz ρ o) := rfl
theorem kSi11 {i : Nat} {k : E} {d : D} : kSi1 C i k (.ok (d, ρ)) = kSi2 C k d (ev C (.var i) ρ) := rfl
theorem kSi21 {k : E} {d : D} {w : Opd} : kSi2 C k d (.ok (w, ρ)) = kSi3 w d (ev C k ρ) := rfl
theorem kSi31 {d : D} {w o : Opd} : kSi3 w d (.ok (o, ρ)) = kSi4 w d ρ (res ρ o) := rfl
theorem kSi41 {d kd : D} {j : Nat} : kSi4 (.slot j) d ρ (.ok kd) = kSi5 j ρ d kd (getD? ρ j) := rfl
theorem kSi51 {j : Nat} {d kd : D} {x : D × Bool} : kSi5 j ρ d kd (some x) = kSi6 j ρ (setiD x kd d) := rfl
theorem kSi61 {j : Nat} {x : D × Bool} : kSi6 j ρ (.ok x) = .ok (.nx (ρ.set j (some x))) := rfl
/-- append, extend: m is the change -/
def kAp4 (j : Nat) (ρ : EnvD) : R (D × Bool) → R Fl
  | .ok d => .ok (.nx (ρ.set j (some d)))
  | .no => .no
def kAp3 (m : D × Bool → D → R (D × Bool)) (j : Nat) (ρ : EnvD) (x : D) : Option (D × Bool) → R Fl
  | some d => kAp4 j ρ (m d x)
  | none => .no
def kAp2 (m : D × Bool → D → R (D × Bool)) (j : Nat) : R (D × EnvD) → R Fl
  | .ok x => kAp3 m j x.2 x.1 (getD? x.2 j)
  | .no => .no
def kAp1 (m : D × Bool → D → R (D × Bool)) (j : Nat) : R (Opd × EnvD) → R Fl
  | .ok o => kAp2 m j (frz o.2 o.1)
  | .no => .no
def kAp0 (C : Ctx) (m : D × Bool → D → R (D × Bool)) (i : Nat) (e : E) (ρ : EnvD) : Option (D × Bool) → R Fl
  | some (.lst _, true) => kAp1 m i (ev C e ρ)
  | _ => .no
theorem app_tail {m : D × Bool → D → R (D × Bool)} {j : Nat} {e : E} : ((ev C e ρ).bind fun o => (frz o.2 o.1).bind fun x => (R.of (getD? x.2 j)).bind fun d => (m d x.1).bind fun d' => R.ok (Fl.nx (x.2.set j (some d')))) = kAp1 m j (ev C e ρ) := by
  cases ev C e ρ with
  | no => rfl
  | ok o =>
    show (frz o.2 o.1).bind _ = kAp2 m j (frz o.2 o.1)
    cases frz o.2 o.1 with
    | no => rfl
    | ok x =>
      show (R.of (getD? x.2 j)).bind _ = kAp3 m j x.2 x.1 (getD? x.2 j)
      cases getD? x.2 j with
      | none => rfl
      | some d =>
        show (m d x.1).bind _ = kAp4 j x.2 (m d x.1)
        cases m d x.1 <;> rfl
theorem app_head {i : Nat} {k : Opd × EnvD → Nat → R Fl} : ((ev C (.var i) ρ).bind fun w => lstAt w fun j => k w j) = match getD? ρ i with | some (.lst _, true) => k (.slot i, ρ) i | _ => .no := by
  rw [ev_var]
  cases h : getD? ρ i with
  | none => rfl
  | some x =>
    obtain ⟨d, fr⟩ := x
    cases fr with
    | false => cases d <;> rfl
    | true =>
      show lstAt (Opd.slot i, ρ) (fun j => k (.slot i, ρ) j) = _
      unfold lstAt
      simp only
      rw [h]
      all_goals (cases d <;> rfl)
theorem run_app {i : Nat} {e : E} : run C P (.app i e) ρ = kAp0 C appD i e ρ (getD? ρ i) := by
  simp only [run]
  rw [app_head (k := fun w j => (ev C e w.2).bind fun o => (frz o.2 o.1).bind fun x => (R.of (getD? x.2 j)).bind fun d => (appD d x.1).bind fun d' => R.ok (Fl.nx (x.2.set j (some d'))))]
  cases getD? ρ i with
  | none => rfl
  | some x =>
    obtain ⟨d, fr⟩ := x
    cases fr <;> cases d <;> first | rfl | exact app_tail
theorem run_ext {i : Nat} {e : E} : run C P (.ext i e) ρ = kAp0 C extD i e ρ (getD? ρ i) := by
  simp only [run]
  rw [app_head (k := fun w j => (ev C e w.2).bind fun o => (frz o.2 o.1).bind fun x => (R.of (getD? x.2 j)).bind fun d => (extD d x.1).bind fun d' => R.ok (Fl.nx (x.2.set j (some d'))))]
  cases getD? ρ i with
  | none => rfl
  | some x =>
    obtain ⟨d, fr⟩ := x
    cases fr <;> cases d <;> first | rfl | exact app_tail
theorem kAp01 {m : D × Bool → D → R (D × Bool)} {i : Nat} {e : E} {xs : List D} : kAp0 C m i e ρ (some (.lst xs, true)) = kAp1 m i (ev C e ρ) := rfl
theorem kAp11 {m : D × Bool → D → R (D × Bool)} {j : Nat} {o : Opd} : kAp1 m j (.ok (o, ρ)) = kAp2 m j (frz ρ o) := rfl
theorem kAp21 {m : D × Bool → D → R (D × Bool)} {j : Nat} {d : D} : kAp2 m j (.ok (d, ρ)) = kAp3 m j ρ d (getD? ρ j) := rfl
theorem kAp31 {m : D × Bool → D → R (D × Bool)} {j : Nat} {d : D} {x : D × Bool} : kAp3 m j ρ d (some x) = kAp4 j ρ (m x d) := rfl
theorem kAp41 {j : Nat} {x : D × Bool} : kAp4 j ρ (.ok x) = .ok (.nx (ρ.set j (some x))) := rfl
def kRt2 : R ((D × Bool) × EnvD) → R Fl
  | .ok x => .ok (.rt x.1 x.2)
  | .no => .no
def kRt1 : R (Opd × EnvD) → R Fl
  | .ok o => kRt2 (tak o.2 o.1)
  | .no => .no
theorem run_ret {e : E} : run C P (.ret e) ρ = kRt1 (ev C e ρ) := by
  simp only [run]
  cases ev C e ρ with
  | no => rfl
  | ok o =>
    show (tak o.2 o.1).bind _ = kRt2 (tak o.2 o.1)
    cases tak o.2 o.1 <;> rfl
theorem kRt11 {o : Opd} : kRt1 (.ok (o, ρ)) = kRt2 (tak ρ o) := rfl
theorem kRt21 {x : D × Bool} : kRt2 (.ok (x, ρ)) = .ok (.rt x ρ) := rfl
def kIf (C : Ctx) (P : Keep) (a b : S) : R (Bool × EnvD) → R Fl
  | .ok (true, ρ) => run C P a ρ
  | .ok (false, ρ) => run C P b ρ
  | .no => .no
theorem run_ite {c : E} {a b : S} : run C P (.ite c a b) ρ = kIf C P a b (kTst (ev C c ρ)) := by
  simp only [run, tst_eq]
  cases kTst (ev C c ρ) with
  | no => rfl
  | ok x => obtain ⟨k, ρ⟩ := x; cases k <;> rfl
theorem kIf1 {a b : S} : kIf C P a b (.ok (true, ρ)) = run C P a ρ := rfl
theorem kIf2 {a b : S} : kIf C P a b (.ok (false, ρ)) = run C P b ρ := rfl
/-- a turn of a loop -/
def turnS (C : Ctx) (P : Keep) (tg : Tg) (b : S) (d : D) (ρ : EnvD) : R Fl := (bindT P tg d ρ).bind fun ρ => run C P b ρ
def kFo1 (C : Ctx) (P : Keep) (tg : Tg) (b : S) : R (List D × EnvD) → R Fl
  | .ok x => forLoop (turnS C P tg b) x.1 x.2
  | .no => .no
theorem run_for {tg : Tg} {it : E} {b : S} : run C P (.for tg it b) ρ = kFo1 C P tg b (evI C it ρ) := by
  simp only [run]
  cases evI C it ρ <;> rfl
theorem kFo11 {tg : Tg} {b : S} {ds : List D} : kFo1 C P tg b (.ok (ds, ρ)) = forLoop (turnS C P tg b) ds ρ := rfl
def kBt (C : Ctx) (P : Keep) (b : S) : R EnvD → R Fl
  | .ok ρ => run C P b ρ
  | .no => .no
theorem turnS_eq {tg : Tg} {b : S} {d : D} : turnS C P tg b d ρ = kBt C P b (bindT P tg d ρ) := by
  unfold turnS
  cases bindT P tg d ρ <;> rfl
theorem kBt1 {b : S} : kBt C P b (.ok ρ) = run C P b ρ := rfl
theorem bindT_nm {i : Nat} {d : D} : bindT P (.nm i) d ρ = setSlot P ρ i (d, false) := rfl
theorem bindT_tp {is : List Nat} {ds : List D} : bindT P (.tp is) (.tup ds) ρ = setSlots P is ds ρ := rfl
theorem setSlots_nil : setSlots P [] [] ρ = .ok ρ := rfl
def kSs (P : Keep) (is : List Nat) (ds : List D) : R EnvD → R EnvD
  | .ok ρ => setSlots P is ds ρ
  | .no => .no
theorem setSlots_cons {i : Nat} {is : List Nat} {d : D} {ds : List D} : setSlots P (i :: is) (d :: ds) ρ = kSs P is ds (setSlot P ρ i (d, false)) := by
  simp only [setSlots]
  cases setSlot P ρ i (d, false) <;> rfl
theorem kSs1 {is : List Nat} {ds : List D} : kSs P is ds (.ok ρ) = setSlots P is ds ρ := rfl
/-- a def's end -/
def kFin (P : Keep) (xs : List (D × Bool)) : R Fl → R ((D × Bool) × List (D × Bool))
  | .ok (.nx ρ) => (params P 0 xs ρ).bind fun ys => .ok ((.non, false), ys)
  | .ok (.rt x ρ) => (params P 0 xs ρ).bind fun ys => .ok (x, ys)
  | .no => .no
theorem call_eq {G : List D} {ds : List Df} {n f : Nat} {df : Df} (h : ds[f]? = some df) (xs : List (D × Bool)) : callI G ds (n + 1) f xs = R.ite (decide (xs.length = df.np) && decide (df.np ≤ df.nl) && okKeep df.keep xs) (kFin df.keep xs (run ⟨G, callI G ds n⟩ df.keep df.body (xs.map some ++ List.replicate (df.nl - df.np) none))) := by
  simp only [callI]
  rw [h]
  show R.ite _ _ = R.ite _ _
  congr 1
  cases run ⟨G, callI G ds n⟩ df.keep df.body (xs.map some ++ List.replicate (df.nl - df.np) none) with
  | no => rfl
  | ok r => cases r <;> rfl
theorem kFin1 {xs : List (D × Bool)} : kFin P xs (.ok (.nx ρ)) = (params P 0 xs ρ).bind fun ys => .ok ((.non, false), ys) := rfl
theorem kFin2 {xs : List (D × Bool)} {x : D × Bool} : kFin P xs (.ok (.rt x ρ)) = (params P 0 xs ρ).bind fun ys => .ok (x, ys) := rfl
end VI

set_option Elab.async false
set_option linter.all false
set_option autoImplicit false
set_option maxRecDepth 100000
set_option maxHeartbeats 8000000
/-! VRun2: the rows of the new forms. -/
namespace VI
open PySem PySem.Spec PyProof.Rows L2
variable {C : Ctx} {P : Keep} {ρ ρ1 ρ2 : EnvD}

theorem ev_dnewT : ev C .dnewT ρ = .ok (.val (.dT []) true, ρ) := by simp only [ev]
/-- *a in a display -/
def kLs3 (ds : List D) : R (List D × EnvD) → R (List D × EnvD)
  | .ok x => .ok (ds ++ x.1, x.2)
  | .no => .no
def kLs2 (C : Ctx) (r : E) (ρ : EnvD) : R D → R (List D × EnvD)
  | .ok d => (R.of (seqD d)).bind fun ds => kLs3 ds (evL C r ρ)
  | .no => .no
def kLs1 (C : Ctx) (r : E) : R (Opd × EnvD) → R (List D × EnvD)
  | .ok o => kLs2 C r o.2 (res o.2 o.1)
  | .no => .no
theorem evL_consS {a r : E} : evL C (.consS a r) ρ = kLs1 C r (ev C a ρ) := by
  simp only [evL]
  cases ev C a ρ with
  | no => rfl
  | ok o =>
    show (res o.2 o.1).bind _ = kLs2 C r o.2 (res o.2 o.1)
    cases res o.2 o.1 with
    | no => rfl
    | ok d =>
      show (R.of (seqD d)).bind _ = (R.of (seqD d)).bind _
      cases seqD d with
      | none => rfl
      | some ds =>
        show (evL C r o.2).bind _ = kLs3 ds (evL C r o.2)
        cases evL C r o.2 <;> rfl
theorem kLs11 {r : E} {o : Opd} : kLs1 C r (.ok (o, ρ)) = kLs2 C r ρ (res ρ o) := rfl
theorem kLs21t {r : E} {ds : List D} : kLs2 C r ρ (.ok (.tup ds)) = kLs3 ds (evL C r ρ) := rfl
theorem kLs21l {r : E} {ds : List D} : kLs2 C r ρ (.ok (.lst ds)) = kLs3 ds (evL C r ρ) := rfl
theorem kLs31 {ds es : List D} : kLs3 ds (.ok (es, ρ)) = .ok (ds ++ es, ρ) := rfl
/-- a value with its kind, from a value: a new list -/
def kDl (ρ : EnvD) : R D → R (Opd × EnvD)
  | .ok z => .ok (.val z true, ρ)
  | .no => .no
theorem kDl1 {z : D} : kDl ρ (.ok z) = .ok (.val z true, ρ) := rfl
def kSt2 (ρ : EnvD) : R D → R (Opd × EnvD)
  | .ok d => kDl ρ (srtsD d)
  | .no => .no
def kSt1 : R (Opd × EnvD) → R (Opd × EnvD)
  | .ok x => kSt2 x.2 (res x.2 x.1)
  | .no => .no
theorem ev_srts {a : E} : ev C (.srts a) ρ = kSt1 (ev C a ρ) := by
  simp only [ev]
  cases ev C a ρ with
  | no => rfl
  | ok x =>
    show (res x.2 x.1).bind _ = kSt2 x.2 (res x.2 x.1)
    cases res x.2 x.1 with
    | no => rfl
    | ok d =>
      show (srtsD d).bind _ = kDl x.2 (srtsD d)
      cases srtsD d <;> rfl
theorem kSt11 {x : Opd} : kSt1 (.ok (x, ρ)) = kSt2 ρ (res ρ x) := rfl
theorem kSt21 {d : D} : kSt2 ρ (.ok d) = kDl ρ (srtsD d) := rfl
def kSd2 (ρ : EnvD) : R D → R (Opd × EnvD)
  | .ok d => kDl ρ (srtdD d)
  | .no => .no
def kSd1 : R (Opd × EnvD) → R (Opd × EnvD)
  | .ok x => kSd2 x.2 (res x.2 x.1)
  | .no => .no
theorem ev_srtd {a : E} : ev C (.srtd a) ρ = kSd1 (ev C a ρ) := by
  simp only [ev]
  cases ev C a ρ with
  | no => rfl
  | ok x =>
    show (res x.2 x.1).bind _ = kSd2 x.2 (res x.2 x.1)
    cases res x.2 x.1 with
    | no => rfl
    | ok d =>
      show (srtdD d).bind _ = kDl x.2 (srtdD d)
      cases srtdD d <;> rfl
theorem kSd11 {x : Opd} : kSd1 (.ok (x, ρ)) = kSd2 ρ (res ρ x) := rfl
theorem kSd21 {d : D} : kSd2 ρ (.ok d) = kDl ρ (srtdD d) := rfl
def kIu2 (ρ : EnvD) : R D → R (Opd × EnvD)
  | .ok d => kDv ρ (isupD d)
  | .no => .no
def kIu1 : R (Opd × EnvD) → R (Opd × EnvD)
  | .ok x => kIu2 x.2 (res x.2 x.1)
  | .no => .no
theorem ev_isup {a : E} : ev C (.isup a) ρ = kIu1 (ev C a ρ) := by
  simp only [ev]
  cases ev C a ρ with
  | no => rfl
  | ok x =>
    show (res x.2 x.1).bind _ = kIu2 x.2 (res x.2 x.1)
    cases res x.2 x.1 with
    | no => rfl
    | ok d =>
      show (isupD d).bind _ = kDv x.2 (isupD d)
      cases isupD d <;> rfl
theorem kIu11 {x : Opd} : kIu1 (.ok (x, ρ)) = kIu2 ρ (res ρ x) := rfl
theorem kIu21 {d : D} : kIu2 ρ (.ok d) = kDv ρ (isupD d) := rfl
theorem optC_isup {a : E} {r : R (Opd × EnvD)} : optC (.isup a) r ρ = kTst r := optC_some rfl

/-! ### statements -/
def kAl : R (Opd × EnvD) → R Fl
  | .ok o => .ok (.nx o.2)
  | .no => .no
theorem run_alone {e : E} : run C P (.alone e) ρ = kAl (ev C e ρ) := by
  simp only [run]
  cases ev C e ρ <;> rfl
theorem kAl1 {o : Opd} : kAl (.ok (o, ρ)) = .ok (.nx ρ) := rfl
/-- three stores -/
def kPt9 (P : Keep) (l : Nat) (z : D × Bool) : R EnvD → R Fl
  | .ok ρ => kNx (setSlot P ρ l z)
  | .no => .no
def kPt8 (P : Keep) (j l : Nat) (y z : D × Bool) : R EnvD → R Fl
  | .ok ρ => kPt9 P l z (setSlot P ρ j y)
  | .no => .no
def kPt7 (P : Keep) (i j l : Nat) (x y : D × Bool) : R ((D × Bool) × EnvD) → R Fl
  | .ok z => kPt8 P j l y z.1 (setSlot P z.2 i x)
  | .no => .no
def kPt6 (P : Keep) (i j l : Nat) (x y : D × Bool) : R (Opd × EnvD) → R Fl
  | .ok q => kPt7 P i j l x y (tak q.2 q.1)
  | .no => .no
def kPt5 (C : Ctx) (P : Keep) (i j l : Nat) (c : E) (x : D × Bool) : R ((D × Bool) × EnvD) → R Fl
  | .ok y => kPt6 P i j l x y.1 (ev C c y.2)
  | .no => .no
def kPt4 (C : Ctx) (P : Keep) (i j l : Nat) (c : E) (x : D × Bool) : R (Opd × EnvD) → R Fl
  | .ok p => kPt5 C P i j l c x (tak p.2 p.1)
  | .no => .no
def kPt3 (C : Ctx) (P : Keep) (i j l : Nat) (b c : E) : R ((D × Bool) × EnvD) → R Fl
  | .ok x => kPt4 C P i j l c x.1 (ev C b x.2)
  | .no => .no
def kPt2 (C : Ctx) (P : Keep) (i j l : Nat) (b c : E) : R (Opd × EnvD) → R Fl
  | .ok o => kPt3 C P i j l b c (tak o.2 o.1)
  | .no => .no
theorem run_par3 {i j l : Nat} {a b c : E} : run C P (.par3 i j l a b c) ρ = kPt2 C P i j l b c (ev C a ρ) := by
  simp only [run]
  cases ev C a ρ with
  | no => rfl
  | ok o =>
    show (tak o.2 o.1).bind _ = kPt3 C P i j l b c (tak o.2 o.1)
    cases tak o.2 o.1 with
    | no => rfl
    | ok x =>
      show (ev C b x.2).bind _ = kPt4 C P i j l c x.1 (ev C b x.2)
      cases ev C b x.2 with
      | no => rfl
      | ok p =>
        show (tak p.2 p.1).bind _ = kPt5 C P i j l c x.1 (tak p.2 p.1)
        cases tak p.2 p.1 with
        | no => rfl
        | ok y =>
          show (ev C c y.2).bind _ = kPt6 P i j l x.1 y.1 (ev C c y.2)
          cases ev C c y.2 with
          | no => rfl
          | ok q =>
            show (tak q.2 q.1).bind _ = kPt7 P i j l x.1 y.1 (tak q.2 q.1)
            cases tak q.2 q.1 with
            | no => rfl
            | ok z =>
              show (setSlot P z.2 i x.1).bind _ = kPt8 P j l y.1 z.1 (setSlot P z.2 i x.1)
              cases setSlot P z.2 i x.1 with
              | no => rfl
              | ok ρ =>
                show (setSlot P ρ j y.1).bind _ = kPt9 P l z.1 (setSlot P ρ j y.1)
                cases setSlot P ρ j y.1 with
                | no => rfl
                | ok ρ =>
                  show (setSlot P ρ l z.1).bind _ = kNx (setSlot P ρ l z.1)
                  cases setSlot P ρ l z.1 <;> rfl
theorem kPt21 {i j l : Nat} {b c : E} {o : Opd} : kPt2 C P i j l b c (.ok (o, ρ)) = kPt3 C P i j l b c (tak ρ o) := rfl
theorem kPt31 {i j l : Nat} {b c : E} {x : D × Bool} : kPt3 C P i j l b c (.ok (x, ρ)) = kPt4 C P i j l c x (ev C b ρ) := rfl
theorem kPt41 {i j l : Nat} {c : E} {x : D × Bool} {o : Opd} : kPt4 C P i j l c x (.ok (o, ρ)) = kPt5 C P i j l c x (tak ρ o) := rfl
theorem kPt51 {i j l : Nat} {c : E} {x y : D × Bool} : kPt5 C P i j l c x (.ok (y, ρ)) = kPt6 P i j l x y (ev C c ρ) := rfl
theorem kPt61 {i j l : Nat} {x y : D × Bool} {o : Opd} : kPt6 P i j l x y (.ok (o, ρ)) = kPt7 P i j l x y (tak ρ o) := rfl
theorem kPt71 {i j l : Nat} {x y z : D × Bool} : kPt7 P i j l x y (.ok (z, ρ)) = kPt8 P j l y z (setSlot P ρ i x) := rfl
theorem kPt81 {j l : Nat} {y z : D × Bool} : kPt8 P j l y z (.ok ρ) = kPt9 P l z (setSlot P ρ j y) := rfl
theorem kPt91 {l : Nat} {z : D × Bool} : kPt9 P l z (.ok ρ) = kNx (setSlot P ρ l z) := rfl
/-- d.update(dict(e)) -/
def kUd4 (j : Nat) (ρ : EnvD) : R (D × Bool) → R Fl
  | .ok d => .ok (.nx (ρ.set j (some d)))
  | .no => .no
def kUd3 (j : Nat) (ρ : EnvD) (x : D) : Option (D × Bool) → R Fl
  | some d => kUd4 j ρ (updD d x)
  | none => .no
def kUd2 (j : Nat) (ρ : EnvD) : R D → R Fl
  | .ok x => kUd3 j ρ x (getD? ρ j)
  | .no => .no
def kUd1 (j : Nat) : R (Opd × EnvD) → R Fl
  | .ok o => kUd2 j o.2 (res o.2 o.1)
  | .no => .no
def kUd0 (C : Ctx) (i : Nat) (e : E) (ρ : EnvD) : Option (D × Bool) → R Fl
  | some (.dK _, true) => kUd1 i (ev C e ρ)
  | _ => .no
theorem upd_head {i : Nat} {k : Opd × EnvD → Nat → R Fl} : ((ev C (.var i) ρ).bind fun w => dctAt w fun j => k w j) = match getD? ρ i with | some (.dK _, true) => k (.slot i, ρ) i | _ => .no := by
  rw [ev_var]
  cases h : getD? ρ i with
  | none => rfl
  | some x =>
    obtain ⟨d, fr⟩ := x
    cases fr with
    | false => cases d <;> rfl
    | true =>
      show dctAt (Opd.slot i, ρ) (fun j => k (.slot i, ρ) j) = _
      unfold dctAt
      simp only
      rw [h]
      all_goals (cases d <;> rfl)
theorem upd_tail {j : Nat} {e : E} : ((ev C e ρ).bind fun o => (res o.2 o.1).bind fun x => (R.of (getD? o.2 j)).bind fun d => (updD d x).bind fun d' => R.ok (Fl.nx (o.2.set j (some d')))) = kUd1 j (ev C e ρ) := by
  cases ev C e ρ with
  | no => rfl
  | ok o =>
    show (res o.2 o.1).bind _ = kUd2 j o.2 (res o.2 o.1)
    cases res o.2 o.1 with
    | no => rfl
    | ok x =>
      show (R.of (getD? o.2 j)).bind _ = kUd3 j o.2 x (getD? o.2 j)
      cases getD? o.2 j with
      | none => rfl
      | some d =>
        show (updD d x).bind _ = kUd4 j o.2 (updD d x)
        cases updD d x <;> rfl
theorem run_updd {i : Nat} {e : E} : run C P (.updd i e) ρ = kUd0 C i e ρ (getD? ρ i) := by
  simp only [run]
  rw [upd_head (k := fun w j => (ev C e w.2).bind fun o => (res o.2 o.1).bind fun x => (R.of (getD? o.2 j)).bind fun d => (updD d x).bind fun d' => R.ok (Fl.nx (o.2.set j (some d'))))]
  cases getD? ρ i with
  | none => rfl
  | some x =>
    obtain ⟨d, fr⟩ := x
    cases fr <;> cases d <;> first | rfl | exact upd_tail
theorem kUd01 {i : Nat} {e : E} {xs : List (Key × D)} : kUd0 C i e ρ (some (.dK xs, true)) = kUd1 i (ev C e ρ) := rfl
theorem kUd11 {j : Nat} {o : Opd} : kUd1 j (.ok (o, ρ)) = kUd2 j ρ (res ρ o) := rfl
theorem kUd21 {j : Nat} {d : D} : kUd2 j ρ (.ok d) = kUd3 j ρ d (getD? ρ j) := rfl
theorem kUd31 {j : Nat} {d : D} {x : D × Bool} : kUd3 j ρ d (some x) = kUd4 j ρ (updD x d) := rfl
theorem kUd41 {j : Nat} {x : D × Bool} : kUd4 j ρ (.ok x) = .ok (.nx (ρ.set j (some x))) := rfl
/-- the alias -/
def kPk6 (x : Nat) (ρ : EnvD) : R (D × Bool) → R Fl
  | .ok d => .ok (.nx (ρ.set x (some d)))
  | .no => .no
def kPk5 (x : Nat) (k : List D) (v : D) (ρ : EnvD) : Option (D × Bool) → R Fl
  | some d => kPk6 x ρ (putTD d k v)
  | none => .no
def kPk4 (x : Nat) (v : D) : R (List D × EnvD) → R Fl
  | .ok kd => R.ite (decide (kd.1.length ≤ lenLine)) (kPk5 x kd.1 v kd.2 (getD? kd.2 x))
  | .no => .no
def kPk3 (C : Ctx) (x : Nat) (k : E) : R (D × EnvD) → R Fl
  | .ok vd => kPk4 x vd.1 (evL C k vd.2)
  | .no => .no
def kPk2 (C : Ctx) (x : Nat) (k : E) : R (Opd × EnvD) → R Fl
  | .ok o => kPk3 C x k (frz o.2 o.1)
  | .no => .no
def kPk1 (C : Ctx) (x r : Nat) (k v : E) (ρ : EnvD) : Option (D × Bool) → R Fl
  | some w => R.ite w.2 (kPk2 C x k (ev C v (ρ.set r none)))
  | none => .no
theorem pickAt_eq {x r : Nat} {k v : E} : pickAt C x r k v ρ = R.ite (decide (x ≠ r)) (kPk1 C x r k v ρ (getD? ρ x)) := by
  unfold pickAt
  congr 1
  cases getD? ρ x with
  | none => rfl
  | some w =>
    show R.ite w.2 _ = R.ite w.2 _
    congr 1
    cases ev C v (ρ.set r none) with
    | no => rfl
    | ok o =>
      show (frz o.2 o.1).bind _ = kPk3 C x k (frz o.2 o.1)
      cases frz o.2 o.1 with
      | no => rfl
      | ok vd =>
        show (evL C k vd.2).bind _ = kPk4 x vd.1 (evL C k vd.2)
        cases evL C k vd.2 with
        | no => rfl
        | ok kd =>
          show R.ite _ _ = R.ite _ _
          congr 1
          cases getD? kd.2 x with
          | none => rfl
          | some d =>
            show (putTD d kd.1 vd.1).bind _ = kPk6 x kd.2 (putTD d kd.1 vd.1)
            cases putTD d kd.1 vd.1 <;> rfl
theorem kPk11 {x r : Nat} {k v : E} {d : D} : kPk1 C x r k v ρ (some (d, true)) = kPk2 C x k (ev C v (ρ.set r none)) := rfl
theorem kPk21 {x : Nat} {k : E} {o : Opd} : kPk2 C x k (.ok (o, ρ)) = kPk3 C x k (frz ρ o) := rfl
theorem kPk31 {x : Nat} {k : E} {d : D} : kPk3 C x k (.ok (d, ρ)) = kPk4 x d (evL C k ρ) := rfl
theorem kPk41 {x : Nat} {d : D} {ks : List D} : kPk4 x d (.ok (ks, ρ)) = R.ite (decide (ks.length ≤ lenLine)) (kPk5 x ks d ρ (getD? ρ x)) := rfl
theorem kPk51 {x : Nat} {d : D} {ks : List D} {w : D × Bool} : kPk5 x ks d ρ (some w) = kPk6 x ρ (putTD w ks d) := rfl
theorem kPk61 {x : Nat} {w : D × Bool} : kPk6 x ρ (.ok w) = .ok (.nx (ρ.set x (some w))) := rfl
def kPc3 (C : Ctx) (r z : Nat) (k v : E) : R (Bool × EnvD) → R Fl
  | .ok (true, ρ) => pickAt C z r k v ρ
  | .ok (false, ρ) => .ok (.nx (ρ.set r none))
  | .no => .no
def kPc2 (C : Ctx) (r y z : Nat) (e k v : E) : R (Bool × EnvD) → R Fl
  | .ok (true, ρ) => pickAt C y r k v ρ
  | .ok (false, ρ) => kPc3 C r z k v (kTst (ev C e ρ))
  | .no => .no
def kPc1 (C : Ctx) (r x y z : Nat) (d e k v : E) : R (Bool × EnvD) → R Fl
  | .ok (true, ρ) => pickAt C x r k v ρ
  | .ok (false, ρ) => kPc2 C r y z e k v (kTst (ev C d ρ))
  | .no => .no
theorem run_pick {r x y z : Nat} {c d e k v : E} : run C P (.pick r x y z c d e k v) ρ = R.ite (canSet P r && decide (r < ρ.length)) (kPc1 C r x y z d e k v (kTst (ev C c ρ))) := by
  simp only [run, tst_eq]
  congr 1
  cases kTst (ev C c ρ) with
  | no => rfl
  | ok t =>
    obtain ⟨b, ρ⟩ := t
    cases b with
    | true => rfl
    | false =>
      show (kTst (ev C d ρ)).bind _ = kPc2 C r y z e k v (kTst (ev C d ρ))
      cases kTst (ev C d ρ) with
      | no => rfl
      | ok t =>
        obtain ⟨b, ρ⟩ := t
        cases b with
        | true => rfl
        | false =>
          show (kTst (ev C e ρ)).bind _ = kPc3 C r z k v (kTst (ev C e ρ))
          cases kTst (ev C e ρ) with
          | no => rfl
          | ok t =>
            obtain ⟨b, ρ⟩ := t
            cases b <;> rfl
theorem kPc11 {r x y z : Nat} {d e k v : E} : kPc1 C r x y z d e k v (.ok (true, ρ)) = pickAt C x r k v ρ := rfl
theorem kPc12 {r x y z : Nat} {d e k v : E} : kPc1 C r x y z d e k v (.ok (false, ρ)) = kPc2 C r y z e k v (kTst (ev C d ρ)) := rfl
theorem kPc21 {r y z : Nat} {e k v : E} : kPc2 C r y z e k v (.ok (true, ρ)) = pickAt C y r k v ρ := rfl
theorem kPc22 {r y z : Nat} {e k v : E} : kPc2 C r y z e k v (.ok (false, ρ)) = kPc3 C r z k v (kTst (ev C e ρ)) := rfl
theorem kPc31 {r z : Nat} {k v : E} : kPc3 C r z k v (.ok (true, ρ)) = pickAt C z r k v ρ := rfl
theorem kPc32 {r z : Nat} {k v : E} : kPc3 C r z k v (.ok (false, ρ)) = .ok (.nx (ρ.set r none)) := rfl
end VI

set_option Elab.async false
set_option linter.all false
set_option autoImplicit false
set_option maxRecDepth 100000
set_option maxHeartbeats 8000000
/-! VRun3: the rows of get, dict(..), sorted(list), sorted(d.items()), pop, two keywords. -/
namespace VI
open PySem PySem.Spec PyProof.Rows L2
variable {C : Ctx} {P : Keep} {ρ ρ1 ρ2 : EnvD}

def kDg7 (dd x : D) (ρ : EnvD) : R D → R (Opd × EnvD)
  | .ok kd => kDv ρ (getDD dd kd x)
  | .no => .no
def kDg6 (p : Opd) (x : D) (ρ : EnvD) : R D → R (Opd × EnvD)
  | .ok dd => kDg7 dd x ρ (res ρ p)
  | .no => .no
def kDg5 (o p : Opd) : R (D × EnvD) → R (Opd × EnvD)
  | .ok xv => kDg6 p xv.1 xv.2 (res xv.2 o)
  | .no => .no
def kDg4 (o p : Opd) : R (Opd × EnvD) → R (Opd × EnvD)
  | .ok q => kDg5 o p (frz q.2 q.1)
  | .no => .no
def kDg3 (C : Ctx) (x : E) (o : Opd) : R (Opd × EnvD) → R (Opd × EnvD)
  | .ok p => kDg4 o p.1 (ev C x p.2)
  | .no => .no
def kDg2 (C : Ctx) (k x : E) (o : Opd) (ρ : EnvD) : R D → R (Opd × EnvD)
  | .ok d0 => R.ite (isDk d0) (kDg3 C x o (ev C k ρ))
  | .no => .no
def kDg1 (C : Ctx) (k x : E) : R (Opd × EnvD) → R (Opd × EnvD)
  | .ok o => kDg2 C k x o.1 o.2 (res o.2 o.1)
  | .no => .no
theorem ev_dget {d k x : E} : ev C (.dget d k x) ρ = kDg1 C k x (ev C d ρ) := by
  simp only [ev]
  cases ev C d ρ with
  | no => rfl
  | ok o =>
    show (res o.2 o.1).bind _ = kDg2 C k x o.1 o.2 (res o.2 o.1)
    cases res o.2 o.1 with
    | no => rfl
    | ok d0 =>
      show R.ite (isDk d0) _ = R.ite (isDk d0) _
      congr 1
      cases ev C k o.2 with
      | no => rfl
      | ok p =>
        show (ev C x p.2).bind _ = kDg4 o.1 p.1 (ev C x p.2)
        cases ev C x p.2 with
        | no => rfl
        | ok q =>
          show (frz q.2 q.1).bind _ = kDg5 o.1 p.1 (frz q.2 q.1)
          cases frz q.2 q.1 with
          | no => rfl
          | ok xv =>
            show (res xv.2 o.1).bind _ = kDg6 p.1 xv.1 xv.2 (res xv.2 o.1)
            cases res xv.2 o.1 with
            | no => rfl
            | ok dd =>
              show (res xv.2 p.1).bind _ = kDg7 dd xv.1 xv.2 (res xv.2 p.1)
              cases res xv.2 p.1 with
              | no => rfl
              | ok kd =>
                show (getDD dd kd xv.1).bind _ = kDv xv.2 (getDD dd kd xv.1)
                cases getDD dd kd xv.1 <;> rfl
theorem kDg11 {k x : E} {o : Opd} : kDg1 C k x (.ok (o, ρ)) = kDg2 C k x o ρ (res ρ o) := rfl
theorem kDg21 {k x : E} {o : Opd} {kvs : List (Key × D)} : kDg2 C k x o ρ (.ok (.dK kvs)) = kDg3 C x o (ev C k ρ) := rfl
theorem kDg31 {x : E} {o p : Opd} : kDg3 C x o (.ok (p, ρ)) = kDg4 o p (ev C x ρ) := rfl
theorem kDg41 {o p q : Opd} : kDg4 o p (.ok (q, ρ)) = kDg5 o p (frz ρ q) := rfl
theorem kDg51 {o p : Opd} {d : D} : kDg5 o p (.ok (d, ρ)) = kDg6 p d ρ (res ρ o) := rfl
theorem kDg61 {p : Opd} {d x : D} : kDg6 p x ρ (.ok d) = kDg7 d x ρ (res ρ p) := rfl
theorem kDg71 {d k x : D} : kDg7 d x ρ (.ok k) = kDv ρ (getDD d k x) := rfl
def kPs2 (ρ : EnvD) : R D → R (Opd × EnvD)
  | .ok d => kDv ρ (ptpD d)
  | .no => .no
def kPs1 : R (Opd × EnvD) → R (Opd × EnvD)
  | .ok x => kPs2 x.2 (res x.2 x.1)
  | .no => .no
theorem ev_tupS {a : E} : ev C (.tupS a) ρ = kPs1 (ev C a ρ) := by
  simp only [ev]
  cases ev C a ρ with
  | no => rfl
  | ok x =>
    show (res x.2 x.1).bind _ = kPs2 x.2 (res x.2 x.1)
    cases res x.2 x.1 with
    | no => rfl
    | ok d =>
      show (ptpD d).bind _ = kDv x.2 (ptpD d)
      cases ptpD d <;> rfl
theorem kPs11 {x : Opd} : kPs1 (.ok (x, ρ)) = kPs2 ρ (res ρ x) := rfl
theorem kPs21 {ds : List D} : kPs2 ρ (.ok (.lst ds)) = .ok (.val (.ptp ds) false, ρ) := rfl
/-- a new container from a value -/
def kNw2 (f : D → R D) (ρ : EnvD) : R D → R (Opd × EnvD)
  | .ok d => kDl ρ (f d)
  | .no => .no
def kNw1 (f : D → R D) : R (Opd × EnvD) → R (Opd × EnvD)
  | .ok x => kNw2 f x.2 (res x.2 x.1)
  | .no => .no
theorem nw_eq {f : D → R D} {r : R (Opd × EnvD)} : (r.bind fun x => (res x.2 x.1).bind fun d => (f d).bind fun z => R.ok (Opd.val z true, x.2)) = kNw1 f r := by
  cases r with
  | no => rfl
  | ok x =>
    show (res x.2 x.1).bind _ = kNw2 f x.2 (res x.2 x.1)
    cases res x.2 x.1 with
    | no => rfl
    | ok d =>
      show (f d).bind _ = kDl x.2 (f d)
      cases f d <;> rfl
theorem ev_dictP {a : E} : ev C (.dictP a) ρ = kNw1 dictD (ev C a ρ) := by simp only [ev]; exact nw_eq
theorem ev_srtl {a : E} : ev C (.srtl a) ρ = kNw1 srtlD (ev C a ρ) := by simp only [ev]; exact nw_eq
theorem ev_srti {a : E} : ev C (.srti a) ρ = kNw1 srtiD (ev C a ρ) := by simp only [ev]; exact nw_eq
theorem kNw11 {f : D → R D} {x : Opd} : kNw1 f (.ok (x, ρ)) = kNw2 f ρ (res ρ x) := rfl
theorem kNw21 {f : D → R D} {d : D} : kNw2 f ρ (.ok d) = kDl ρ (f d) := rfl
/-- l.pop(e) -/
def kPo4 (j : Nat) (ρ : EnvD) : R (D × (D × Bool)) → R (Opd × EnvD)
  | .ok r => .ok (.val r.1 false, ρ.set j (some r.2))
  | .no => .no
def kPo3 (j : Nat) (ρ : EnvD) (k : D) : Option (D × Bool) → R (Opd × EnvD)
  | some d => kPo4 j ρ (popD d k)
  | none => .no
def kPo2 (j : Nat) (ρ : EnvD) : R D → R (Opd × EnvD)
  | .ok k => kPo3 j ρ k (getD? ρ j)
  | .no => .no
def kPo1 (j : Nat) : R (Opd × EnvD) → R (Opd × EnvD)
  | .ok o => kPo2 j o.2 (res o.2 o.1)
  | .no => .no
def kPo0 (C : Ctx) (i : Nat) (e : E) (ρ : EnvD) : Option (D × Bool) → R (Opd × EnvD)
  | some (.lst _, true) => kPo1 i (ev C e ρ)
  | _ => .no
theorem pop_tail {j : Nat} {e : E} : ((ev C e ρ).bind fun o => (res o.2 o.1).bind fun kd => (R.of (getD? o.2 j)).bind fun d => (popD d kd).bind fun r => R.ok (Opd.val r.1 false, o.2.set j (some r.2))) = kPo1 j (ev C e ρ) := by
  cases ev C e ρ with
  | no => rfl
  | ok o =>
    show (res o.2 o.1).bind _ = kPo2 j o.2 (res o.2 o.1)
    cases res o.2 o.1 with
    | no => rfl
    | ok x =>
      show (R.of (getD? o.2 j)).bind _ = kPo3 j o.2 x (getD? o.2 j)
      cases getD? o.2 j with
      | none => rfl
      | some d =>
        show (popD d x).bind _ = kPo4 j o.2 (popD d x)
        cases popD d x <;> rfl
theorem ev_popA {i : Nat} {e : E} : ev C (.popA i e) ρ = kPo0 C i e ρ (getD? ρ i) := by
  simp only [ev, lstAt]
  cases getD? ρ i with
  | none => rfl
  | some x =>
    obtain ⟨d, fr⟩ := x
    cases fr <;> cases d <;> first | rfl | exact pop_tail
theorem kPo01 {i : Nat} {e : E} {xs : List D} : kPo0 C i e ρ (some (.lst xs, true)) = kPo1 i (ev C e ρ) := rfl
theorem kPo11 {j : Nat} {o : Opd} : kPo1 j (.ok (o, ρ)) = kPo2 j ρ (res ρ o) := rfl
theorem kPo21 {j : Nat} {d : D} : kPo2 j ρ (.ok d) = kPo3 j ρ d (getD? ρ j) := rfl
theorem kPo31 {j : Nat} {d : D} {x : D × Bool} : kPo3 j ρ d (some x) = kPo4 j ρ (popD x d) := rfl
theorem kPo41 {j : Nat} {r : D × (D × Bool)} : kPo4 j ρ (.ok r) = .ok (.val r.1 false, ρ.set j (some r.2)) := rfl
/-- two keywords -/
def kK22 (C : Ctx) (f : Nat) (sw : Bool) (x : Opd) : R (Opd × EnvD) → R (Opd × EnvD)
  | .ok y => callD (C.fn f) (if sw = true then [y.1, x] else [x, y.1]) y.2
  | .no => .no
def kK21 (C : Ctx) (f : Nat) (sw : Bool) (b : E) : R (Opd × EnvD) → R (Opd × EnvD)
  | .ok x => kK22 C f sw x.1 (ev C b x.2)
  | .no => .no
theorem ev_callk2 {f : Nat} {sw : Bool} {a b : E} : ev C (.callk2 f sw a b) ρ = kK21 C f sw b (ev C a ρ) := by
  simp only [ev]
  cases ev C a ρ with
  | no => rfl
  | ok x =>
    show (ev C b x.2).bind _ = kK22 C f sw x.1 (ev C b x.2)
    cases ev C b x.2 <;> rfl
theorem kK211 {f : Nat} {sw : Bool} {b : E} {x : Opd} : kK21 C f sw b (.ok (x, ρ)) = kK22 C f sw x (ev C b ρ) := rfl
theorem kK22t {f : Nat} {x y : Opd} : kK22 C f true x (.ok (y, ρ)) = callD (C.fn f) [y, x] ρ := rfl
theorem kK22f {f : Nat} {x y : Opd} : kK22 C f false x (.ok (y, ρ)) = callD (C.fn f) [x, y] ρ := rfl
/-! ### what is read of dicts, and looks -/
theorem getDD_s {kvs : List (Key × D)} {s : Str} {x : D} : getDD (.dK kvs) (.str s) x = .ok ((valA kvs (.inr s)).getD x) := rfl
theorem getDD_i {kvs : List (Key × D)} {i : Int} {x : D} : getDD (.dK kvs) (.int i) x = .ok ((valA kvs (.inl i)).getD x) := rfl
theorem optC_chain {o p : CO} {a b c : E} {r : R (Opd × EnvD)} : optC (.chain o p a b c) r ρ = kTst r := optC_some rfl
end VI

set_option Elab.async false
set_option linter.all false
set_option autoImplicit false
set_option maxRecDepth 100000
set_option maxHeartbeats 4000000
/-! W1: promises of defs that may raise; they may speak of the state at the call. -/
namespace VI
open PySem PySem.Spec PyProof.Rows L2

abbrev SpS := List Env → Shared → Sp
structure FnS (P : Program) (w : World) (K : PySem.W.Frag) (mg : Str → Option Value) (base : Heap) (CG : CXT) (k : Nat) (f : Addr) (fd : FuncData) (ps : List Str) (sp : SpS) : Prop where
  many : ∀ b s xs H Q E, sp b s xs H Q E → xs.length = ps.length
  go : ∀ (A : Around) (below : List Env) (s : Shared) (H : Hp) (ar : Args) (us : List Value) (xs : List V) (Q : VK) (E : XK), Room k A → A.guards = some [] → Env0 P w K mg base A below s H →
    BindsTo s fd ar (ps.zip us) → Vals xs us → sp below s xs H Q E → codeAny (model P w) A (.call (.ref f) ar) (CR CG below P w H s Q E) s
section
variable {P : Program} {w : World} {K : PySem.W.Frag} {mg : Str → Option Value} {base : Heap} {CG : CXT} {k : Nat} {f : Addr} {fd : FuncData} {ps : List Str} {sp sp' : SpS}
theorem FnS.weak (G : FnS P w K mg base CG k f fd ps sp) (i : ∀ b s xs H Q E, sp' b s xs H Q E → sp b s xs H Q E) : FnS P w K mg base CG k f fd ps sp' :=
  ⟨fun b s xs H Q E z => G.many b s xs H Q E (i _ _ _ _ _ _ z), fun A b s H ar us xs Q E r g e0 bd vl z => G.go A b s H ar us xs Q E r g e0 bd vl (i _ _ _ _ _ _ z)⟩
theorem FnS.or (G : FnS P w K mg base CG k f fd ps sp) (G' : FnS P w K mg base CG k f fd ps sp') : FnS P w K mg base CG k f fd ps (fun b s xs H Q E => sp b s xs H Q E ∨ sp' b s xs H Q E) :=
  ⟨fun b s xs H Q E z => z.elim (G.many b s xs H Q E) (G'.many b s xs H Q E), fun A b s H ar us xs Q E r g e0 bd vl z => z.elim (G.go A b s H ar us xs Q E r g e0 bd vl) (G'.go A b s H ar us xs Q E r g e0 bd vl)⟩
theorem FnS.up {j : Nat} (G : FnS P w K mg base CG k f fd ps sp) (h : k ≤ j) : FnS P w K mg base CG j f fd ps sp :=
  ⟨G.many, fun A b s H ar us xs Q E r => G.go A b s H ar us xs Q E (r.mono h)⟩
/-- a promise without exceptions is one -/
theorem FnQ.gen {sq : Sp} (G : FnQ P w K mg base k f fd ps sq) : FnS P w K mg base CG k f fd ps (fun _ _ => sq) :=
  ⟨fun _ _ => G.many, fun A b s H ar us xs Q E r g e0 bd vl z => codeAny_mono (G.go A b s H ar us xs Q E r g e0 bd vl z) fun r s' c => by
    cases r with
    | error e => exact c.elim
    | ok fl => cases fl <;> exact c⟩
theorem FnS.fnq {sq : Sp} (G : FnS P w K mg base CX0 k f fd ps fun _ _ => sq) : FnQ P w K mg base k f fd ps sq := ⟨fun xs H Q E z => G.many [] {} xs H Q E z, G.go⟩
theorem FnS.bodyC {x qual : Str} {st : Stmt} {N : List Str} (F : Fun K x qual st f fd) (S : FnScope N ps (defScope st)) (hl : ∀ b s xs H Q E, sp b s xs H Q E → xs.length = ps.length)
    (hb : ∀ (cdv : Value) (A : Around) (below : List Env) (s : Shared) (H : Hp) (us : List Value) (xs : List V) (Q : VK) (E : XK), Room k (A.deeper (envOfC qual (defScope st) s.heap.objs.size f cdv)) → A.guards = some [] → Env0 P w K mg base A below s H → Vals xs us → fd.code = cdv → sp below s xs H Q E →
      ∃ t, PSs (cxOf CG P w K mg base N qual (defScope st) f cdv A below s H E) (defBody st) t ∧ t { nx := fun _ H' => Q .non H', rt := Q } (start N xs) H) : FnS P w K mg base CG (k + 1) f fd ps sp := by
  obtain ⟨oc, od, kV, doc, pm, an, cdv, ct, osl, rfl, lk, hcd⟩ := F.ex
  refine ⟨hl, fun A below s H ar us xs Q E rm gd e0 bd vl hsp => ?_⟩
  have kin : K.In s.heap := e0.mod.kin.keeps fun b o z => (e0.bs b o z).1
  have nol : s.heap.NoLimit := e0.mod.nolimit.keeps fun b o z => (e0.bs b o z).1
  have kinds : ∀ z ∈ ps.zip us, (defScope st).names.lookup z.1 = some .local ∨ ((defScope st).names.lookup z.1 = some .cell ∧ ((cellsFrom (s.heap.objs.size + 1) (defScope st).names []).lookup z.1).isSome = true) := by
    rintro ⟨n, v⟩ hz
    cases S.par n (List.of_mem_zip hz).1 with
    | inl c => exact .inl c
    | inr c => exact .inr ⟨c, PySem.W.cellsFrom_some _ _ _ (.inl c)⟩
  refine codeAny_call_function rm.depth (kin _ _ lk) rfl S.co S.gen rfl (PySem.W.codeRec_of kin hcd) (bd _ _ _ _ ?_)
  refine wpAny_newFunctionEnv_cells S.kind kinds fun env he sB ic => ?_
  subst he
  refine ⟨nol.keeps ic.toInCall.keep, codeAny_func ?_⟩
  obtain ⟨t, ht, hq⟩ := hb cdv A below s H us xs Q E (rm.deeper _) gd e0 vl rfl hsp
  have iv := inv_start (CX := CG) (E := E) S rm.hd e0 (hl _ _ _ _ _ _ hsp) vl ic
  refine wpAny_mono (ht.run [] sB (start N xs) H _ iv hq) ?_ fun e s' z => z
  intro fl s' z
  cases fl with
  | brk => obtain ⟨_, _, _, no⟩ := z; exact no.elim
  | cont => obtain ⟨_, _, _, no⟩ := z; exact no.elim
  | next =>
    obtain ⟨σ', H', J, q⟩ := z
    exact ⟨.non, H', J.os, J.bare, J.base, J.hok, rfl, q⟩
  | ret u =>
    obtain ⟨v, σ', H', J, rv, q⟩ := z
    exact ⟨v, H', J.os, J.bare, J.base, J.hok, rv, q⟩
theorem FnS.body {x qual : Str} {st : Stmt} {N : List Str} (F : Fun K x qual st f fd) (S : FnScope N ps (defScope st)) (hl : ∀ b s xs H Q E, sp b s xs H Q E → xs.length = ps.length)
    (hb : ∀ (cdv : Value) (A : Around) (below : List Env) (s : Shared) (H : Hp) (us : List Value) (xs : List V) (Q : VK) (E : XK), Room k (A.deeper (envOfC qual (defScope st) s.heap.objs.size f cdv)) → A.guards = some [] → Env0 P w K mg base A below s H → Vals xs us → sp below s xs H Q E →
      ∃ t, PSs (cxOf CG P w K mg base N qual (defScope st) f cdv A below s H E) (defBody st) t ∧ t { nx := fun _ H' => Q .non H', rt := Q } (start N xs) H) : FnS P w K mg base CG (k + 1) f fd ps sp := FnS.bodyC F S hl fun cdv A below s H us xs Q E r g e0 vl _ hsp => hb cdv A below s H us xs Q E r g e0 vl hsp
end
section
variable {X : Cx} {CG : CXT} {k : Nat} {f : Addr} {fd : FuncData} {ps ks : List Str} {sp : SpS} {E : L2.St → XK} {x : Str} {p pos : Pos} {e : Expr} {es : List Expr} {t : TA}
theorem g_end {pins : List (Addr × Obj)} {σ : L2.St} {H : Hp} {s s' : Shared} {Q : VK} {r : Result} (I : Inv X pins σ H s) (z : CR CG X.stack X.prog X.w H s Q (E σ) r s') (hx : PassesAt CG X σ (E σ)) : wants (EP X pins σ Q) X.xe r s' := by
  cases r with
  | error e => exact hx pins H s e s' I z
  | ok fl => cases fl <;> first | exact I.after z | exact False.elim z
/-- the callee runs -/
theorem g_run {pins : List (Addr × Obj)} {σ : L2.St} {H : Hp} {s : Shared} {Q : VK} {us : List Value} {xs : List V} (G : FnS X.prog X.w X.K X.mg X.base CG k f fd ps sp) (rm : Room k X.A) (gd : X.A.guards = some []) (bd : Binds X.K fd ps [])
    (hx : PassesAt CG X σ (E σ)) (I : Inv X pins σ H s) (vl : Vals xs us) (z : sp X.stack s xs H Q (E σ)) : wpAny (model X.prog X.w) X.A (call (.ref f) us) (EP X pins σ Q) X.xe s := by
  have n1 : us.length = ps.length := by rw [← vl.length]; exact G.many _ _ _ _ _ _ z
  have b := bd s us I.kIn (by rw [List.append_nil]; exact n1)
  rw [List.append_nil] at b
  exact wpAny_call (codeAny_mono (G.go X.A X.stack s H ⟨us, []⟩ us xs Q (E σ) rm gd I.env0 b vl z) fun r s' c => g_end I c hx)
/-- a call by a def's name; what it wants may hang on the state -/
theorem g_call (G : FnS X.prog X.w X.K X.mg X.base CG k f fd ps sp) (rm : Room k X.A) (gd : X.A.guards = some []) (hg : Gl X x) (hm : X.mg x = some (.ref f)) (hk : PySem.W.keepIn X.K (.ref f) = true) (bd : Binds X.K fd ps []) (hx : ∀ σ, PassesAt CG X σ (E σ))
    (ha : PA X (e :: es) t) (hd : (x == ("__debug__" : Str)) = false) (he : starEach (e :: es) X.env = (false, eval e X.env) :: starEach es X.env) (hp : (backTo pos (starEach es X.env)).any (·.1) = false) :
    PE X (.Call (.Name x p) (e :: es) [] pos) (fun σ H Q => t σ H fun xs H1 => ∀ (s : Shared) (pins : List (Addr × Obj)), Inv X pins σ H1 s → sp X.stack s xs H1 Q (E σ)) :=
  ⟨fun pins s σ H Q I z => wpAny_Call_Name_kw (ld_glob I hg hm (PySem.W.callWith_K (h₀ := X.base) I.ok.mod.kin hk
    (thn (ha.run pos pins s σ H _ I z) fun us s1 ⟨xs, H1, I1, r, q⟩ => ⟨I1.kIn, g_run G rm gd bd (hx σ) I1 r (q s1 pins I1)⟩) he hp) hd)⟩
end
end VI

set_option Elab.async false
set_option linter.all false
set_option autoImplicit false
set_option maxRecDepth 100000
set_option maxHeartbeats 4000000
/-! W2: an error of the package is made: its __init__ hands the value on to ValueError's and keeps it. -/
namespace VI
open PySem PySem.Spec PyProof.Rows L2
open PySem.W (Frag findIn subIn typeIn keepIn clsIn mroIn nsIn)

def riA (p1 p2 : Pos) : Arguments := { posonlyargs := [], args := [{ arg := "self", annotation := none, pos := p1 }, { arg := "value", annotation := none, pos := p2 }], vararg := none, kwonlyargs := [], kw_defaults := [], kwarg := none, defaults := [] }
def riB : List Stmt := [.Expr (.Call (.Attribute (.Call (.Name "super" ⟨5, 8, 5, 13⟩) [] [] ⟨5, 8, 5, 15⟩) "__init__" ⟨5, 8, 5, 24⟩) [.Name "value" ⟨5, 25, 5, 30⟩] [] ⟨5, 8, 5, 31⟩) ⟨5, 8, 5, 31⟩, .Assign [.Attribute (.Name "self" ⟨6, 8, 6, 12⟩) "value" ⟨6, 8, 6, 18⟩] (.Name "value" ⟨6, 21, 6, 26⟩) ⟨6, 8, 6, 26⟩]
def riS : Scope := { kind := .function, names := [("self", .local), ("value", .local), ("__class__", .free), ("super", .globalImplicit)], isGenerator := false, isCoroutine := false, more := [] }
/-- what the written part says of the error class nm at C, of RuleError at D, of its __init__ at fI -/
structure ErrTxt (P : Program) (K : Frag) (mg : Str → Option Value) (nm : Str) (C D fI : Addr) : Prop where
  gC : mg nm = some (.ref C)
  cls : ∃ cn q N bs bm sn sub ab col dd k0 k1 k2 k3 k5, K.lookup C = some (excClassObj cn q C N bs bm true sn sub ab col dd k0 k1 k2 k3 k5 "ValueError.__new__") ∧ HandSPX.refsVE bm = true
  sa : findIn K (.ref C) "__setattr__" = some (some (.builtin "object.__setattr__"))
  ga : findIn K (.ref C) "__getattribute__" = some (some (.builtin "BaseException.__getattribute__"))
  gg : findIn K (.ref C) "__getattr__" = some none
  noN : findIn K (.ref C) "value" = some none
  iC : findIn K (.ref C) "__init__" = some (some (.ref fI))
  tC : typeIn K (.ref fI) = some (.type "function")
  kC : keepIn K (.ref C) = true
  exC : subIn K (.ref C) (.type "BaseException") = some true
  veC : subIn K (.ref C) (.type "ValueError") = some true
  tyC : typeIn K (.ref C) = some (.type "type")
  hdC : PySem.W.hasDictIn K C = true
  sup : PySem.W.ks_superIn K C D "__init__" = some (some (.builtin "ValueError.__init__"))
  cdD : ∃ cd, clsIn K D = some cd
  subD : mroIn K C (.ref D) = some true
  opq : nsIn K cStatics "thirdparty.any" = some none
  exi : PySem.W.excInitIn K C [.type "ValueError", .type "Exception", .type "BaseException", .type "object"] "ValueError.__new__" = true
  nsup : mg "super" = none
  top : (P.main.scope.names.lookup ("super" : Str)).isSome = false
  fn : ∃ (oc : Value) (od : Option Addr) (doc pm : Value) (an : Option Addr) (cda cc : Addr) (ct : Value) (osl : Array (Option Value)) (p1 p2 : Pos) (c1 c2 : Value) (d1 d2 : Option Addr) (vs : Array Value) (s1 s2 : Array (Option Value)) (file : Str) (tf : Tok),
    K.lookup fI = some ⟨oc, od, .func (PySem.W.ksFn "__init__" "RuleError.__init__" (riA p1 p2) riB riS .none .none doc pm an (.ref cda) ct cc), osl⟩ ∧ PySem.W.codeIn K (.ref cda) "RuleError.__init__" = true ∧
    K.lookup cda = some ⟨c1, d1, .fields vs, s1⟩ ∧ vs[2]? = some (.str file tf) ∧ ((P.main.file : Str) == file) = true ∧ K.lookup cc = some ⟨c2, d2, .cell (some (.ref D)), s2⟩
/-- an error that was made -/
structure ErrMade (h h' : Heap) (e C d : Addr) (v : Value) : Prop where
  keep : ∀ b o, h.get? b = some o → h'.get? b = some o
  new : h.objs.size ≤ e
  obj : ∃ oe vs, h'.get? e = some oe ∧ oe.cls = .ref C ∧ oe.dict = some d ∧ oe.data = .fields vs ∧ vs[1]? = some .none
  dbig : h.objs.size ≤ d
  dne : d ≠ e
  ns : h'.Ns1 d (fun y => if y = "value" then some v else none)
section
variable {P : Program} {w : World} {A : Around} {R : Result → Shared → Prop} {K : Frag} {mg mb : Str → Option Value} {nm : Str} {C D fI : Addr}
theorem err_init (T : ErrTxt P K mg nm C D fI) {hp hs : Heap} {g : Array GenState} {dr : Drawn} {tk : Nat} {os : OsState} {x t0 : Addr} {v : Value} (X : K.In hp) (old : ∀ b o, hp.get? b = some o → hs.get? b = some o) (above : hp.objs.size ≤ hs.objs.size) (hlim : hs.NoLimit)
    (G : hp.Ns mainGlobals mg) (B : hp.Ns builtinsNs mb) (hB : ∀ y : Str, y ≠ "__name__" → mb y = bootBuiltins y) (hx : hs.get? x = some (PySem.W.excObj C t0 none .none)) (nx : hp.get? x = none) (hroom : A.depth < recursionLimit)
    (hq : ∀ h' tk' dx t1, (∀ b o, hp.get? b = some o → h'.get? b = some o) → hp.objs.size ≤ dx → dx ≠ x → h'.get? x = some { cls := .ref C, dict := some dx, data := .fields #[.ref t1, .none, .none, .none, .bool false, .none] } →
      h'.Ns1 dx (fun y => if y = "value" then some v else none) → R (.ok (.ret .none)) ⟨h', g, dr, tk', os⟩) :
    codeAny (model P w) A (.call (.ref fI) ⟨[.ref x, v], []⟩) R ⟨hs, g, dr, tk, os⟩ := by
  obtain ⟨oc, od, doc, pm, an, cda, cc, ct, osl, p1, p2, c1, c2, d1, d2, vs, s1, s2, file, tf, hfn, hcode, hcda, hvs, hfile, hcc⟩ := T.fn
  obtain ⟨cn, q, N, bs, bm, sn, sub, ab, col, dd, k0, k1, k2, k3, k5, hC, hbm⟩ := T.cls
  obtain ⟨cdD, hD⟩ := T.cdD
  have hcl : clsIn K C = some { name := cn, bases := bs, mro := .ref C :: bm, ns := N, qualname := q, hasDict := true, slotNames := sn, subclasses := sub, abstract := ab, collection := col, hasDel := false } := by unfold clsIn; rw [hC] <;> rfl
  have Xs : K.In hs := X.keeps old
  refine ks_codeAny_call_defAt (binds := [("self", .ref x), ("value", v)]) hroom (Xs _ _ hfn) rfl hlim (PySem.W.codeRec_of Xs hcode) rfl (BindsTo.of_eq (by first | rfl | with_unfolding_all rfl)) (show ∀ y ∈ riS.names, y.2 ≠ .cell by decide) (fun y hy => by
    rcases List.mem_cons.mp hy with rfl | hy
    · exact (show riS.names.lookup ("self" : Str) = some .local by decide)
    rcases List.mem_cons.mp hy with rfl | hy
    · exact (show riS.names.lookup ("value" : Str) = some .local by decide)
    · cases hy) (fun h₁ hns hk₁ => ?_)
  have X₁ : K.In h₁ := Xs.keeps hk₁
  have k01 : ∀ b o, hp.get? b = some o → h₁.get? b = some o := fun b o e => hk₁ b o (old b o e)
  have hx₁ := hk₁ _ _ hx
  have I₁ : PySem.W.InstAt h₁ x (PySem.W.excObj C t0 none .none) C none := ⟨hx₁, rfl, rfl, trivial⟩
  obtain ⟨oD, hD1, hD2⟩ : ∃ oD, h₁.get? D = some oD ∧ oD.data = .cls cdD := by
    unfold clsIn at hD
    split at hD
    · rename_i ho
      cases hD
      exact ⟨_, X₁ _ _ ho, rfl⟩
    · cases hD
  skip
  refine ks_wpAt_execs_cons (ks_wpAt_Expr_any (ks_wpAt_MethodCall ?_))
  refine ks_wpAt_super_base (env := PySem.W.ksEnv "RuleError.__init__" riS hs.objs.size fI (.ref cda) cc) rfl rfl (by decide) rfl (X₁ _ _ hfn) rfl rfl rfl (X₁ _ _ hcda) rfl hvs hfile T.top ?_
  refine PySem.W.ks_loadName_global rfl rfl (Calls.loadGlobal_builtin (G.keeps k01) T.nsup (B.keeps k01) (hB "super" (by decide +kernel)) ⟨by with_unfolding_all rfl, ?_⟩)
  refine wpAny_loadName_free rfl rfl rfl ⟨_, X₁ _ _ hcc, rfl⟩ ?_
  refine wpAny_loadName_local (v := .ref x) rfl rfl hns (by first | rfl | with_unfolding_all rfl | kernel_rfl) ?_
  refine ks_wpAny_isType_cls hD1 hD2 ⟨rfl, ?_⟩
  refine ks_wpAny_call_super hD1 hD2 hx₁ rfl (fun c e => by cases e) (PySem.W.looks_mroIn X₁ T.subD) (fun h₂ e₂ k₂ => ?_)
  have F₂ : Fr hp hs.objs.size h₂ (fun y => ([("self", .ref x), ("value", v)] : List (Str × Value)).reverse.lookup y) := ⟨hns.keeps k₂, fun b o e => k₂ b o (k01 b o e), above⟩
  have nL : x ≠ hs.objs.size := Nat.ne_of_lt (Heap.lt_size hx)
  have lt₁ : hs.objs.size < h₁.objs.size := hns.lt
  have N₂ : News hp hs.objs.size h₂ [(h₁.objs.size, PySem.W.ks_superObj D x C), (x, PySem.W.excObj C t0 none .none)] := by
    intro p hp'
    rcases List.mem_cons.mp hp' with rfl | hp'
    · refine ⟨e₂, Nat.ne_of_gt lt₁, ?_⟩
      cases z : hp.get? h₁.objs.size with
      | none => rfl
      | some o => exact absurd (Heap.lt_size (k01 _ _ z)) (Nat.lt_irrefl _)
    · rcases List.mem_cons.mp hp' with rfl | hp'
      · exact ⟨k₂ _ _ hx₁, nL, nx⟩
      · cases hp'
  refine PySem.W.kxs_method PySem.W.kxs_ValueError F₂ X N₂ List.mem_cons_self (C := C) (D := D) (x := x) (ox := PySem.W.excObj C t0 none .none) (odx := none) ⟨k₂ _ _ hx₁, rfl, rfl, trivial⟩ T.opq T.sup T.veC (by decide) (fun so h₃ F₃ N₃ l₃ => ?_)
  refine PySem.W.kxs_callWith1 (i := "ValueError.__init__") (x := x) N₃ List.mem_cons_self ?_
  refine Calls.spliced_cons (wpAny_Name (wpAny_loadName_local (v := v) rfl rfl F₃.ns (by first | rfl | with_unfolding_all rfl | kernel_rfl) ?_) (by decide))
  refine Calls.spliced_nil ⟨PySem.W.kxs_at N₃ List.mem_cons_self, ?_⟩
  refine PySem.W.kxs_call F₃ X N₃ PySem.F.excBase_ValueError T.exi List.mem_cons_self (x := x) (t := t0) (dv := none) (c2 := .none) (.tail (Nat.ne_of_gt (l₃ _ (List.mem_cons_of_mem _ List.mem_cons_self))) (.tail (Nat.ne_of_gt (Nat.lt_trans (Nat.lt_of_lt_of_le (Heap.lt_size hx) (Nat.le_refl _)) lt₁)) (.head (fun p hp' => nomatch hp')))) (by rw [sizeLine_eq]; show 1 ≤ 16777216; decide) (fun t1 h₄ F₄ N₄ l₄ => ?_)
  -- self.value = value
  refine ks_wpAt_execs_cons (ks_wpAt_Assign_Attr (wpAt_of_wpAny ?_))
  refine wpAny_Name (wpAny_loadName_local (v := v) rfl rfl F₄.ns (by first | rfl | with_unfolding_all rfl | kernel_rfl) ?_) (by decide)
  refine wpAny_Name (wpAny_loadName_local (v := .ref x) rfl rfl F₄.ns (by first | rfl | with_unfolding_all rfl | kernel_rfl) ?_) (by decide)
  have hx₄ : h₄.get? x = some (PySem.W.excObj C t1 none .none) := (N₄ (x, _) (by simp)).1
  have X₄ : K.In h₄ := X.keeps F₄.keep
  refine PySem.W.set_plain X₄ (ox := PySem.W.excObj C t1 none .none) (od := none) ⟨hx₄, rfl, rfl, trivial⟩ T.sa ?_
  refine HandSPX.exc_osa X₄ hx₄ hcl (show HandSPX.refsVE (.ref C :: bm) = true from hbm) rfl T.noN (fun h₅ tk₅ dx k₅ dn dne hx₅ hn₅ => ?_)
  refine wpAt_of_wpAny (wpAny_execs_nil ?_)
  exact hq h₅ _ dx t1 (fun b o e => k₅ b o (fun z => by rw [z, nx] at e; cases e) (F₄.keep b o e)) (Nat.le_trans above (Nat.le_trans (Nat.le_of_lt F₄.ns.lt) dn)) dne hx₅ hn₅
theorem err_made (T : ErrTxt P K mg nm C D fI) {s : Shared} {v : Value} (X : K.In s.heap) (hlim : s.heap.NoLimit) (G : s.heap.Ns mainGlobals mg) (B : s.heap.Ns builtinsNs mb) (hB : ∀ y : Str, y ≠ "__name__" → mb y = bootBuiltins y) (hroom : A.depth + 1 < recursionLimit)
    (hq : ∀ h' tk e d, ErrMade s.heap h' e C d v → R (.ok (.ret (.ref e))) { s with heap := h', toks := tk }) : codeAny (model P w) A (.call (.ref C) ⟨[v], []⟩) R s := by
  obtain ⟨cn, q, N, bs, bm, sn, sub, ab, col, dd, k0, k1, k2, k3, k5, hC, hbm⟩ := T.cls
  obtain ⟨hp, g, dr, tk, os⟩ := s
  have k : ∀ b o, hp.get? b = some o → ((hp.push (PySem.W.kdv_tup [v])).push (HandSPX.excO C hp.objs.size)).get? b = some o := fun b o e => Heap.get?_push_of_some _ (Heap.get?_push_of_some _ e)
  have hget : ((hp.push (PySem.W.kdv_tup [v])).push (HandSPX.excO C hp.objs.size)).get? (hp.objs.size + 1) = some (HandSPX.excO C hp.objs.size) := by heap_get
  have nx : hp.get? (hp.objs.size + 1) = none := by
    cases e : hp.get? (hp.objs.size + 1) with
    | none => rfl
    | some o => exact absurd (Nat.lt_of_succ_lt (Heap.lt_size e)) (Nat.lt_irrefl _)
  refine HandSPX.call_own PySem.F.excBase_ValueError (fun Y => HandSPX.refsVE_contains Y bm hbm) (X _ _ hC) (PySem.W.looks_findIn X T.iC) (fun self => PySem.W.bind_fn X self T.tC) (by rw [sizeLine_eq]; show 1 ≤ 16777216; decide) ?_
  refine err_init T X k (by rw [Heap.size_push, Heap.size_push]; exact Nat.le_trans (Nat.le_succ _) (Nat.le_succ _)) (hlim.keeps k) G B hB hget nx (by exact hroom) fun h' tk' dx t1 old dn dne hx hns => ?_
  exact ⟨rfl, hq h' tk' (hp.objs.size + 1) dx ⟨old, Nat.le_succ _, ⟨_, _, hx, rfl, rfl, rfl, rfl⟩, dn, dne, hns⟩⟩
end
end VI

set_option Elab.async false
set_option linter.all false
set_option autoImplicit false
set_option maxRecDepth 100000
set_option maxHeartbeats 8000000
/-! W3: what a def raises, by paths: a test and a raise; a call that raises; a call, then a test and a raise. -/
namespace VI
open PySem PySem.Spec PyProof.Rows L2
section
variable {X : Cx} {nm : Str} {C D fI : Addr}
/-- nm(e) is made, to be raised -/
def tMkE (C : Addr) (ta : TA) : L2.St → Hp → XK → Prop := fun σ H Q => ta σ H fun vs H1 => ∃ v, vs = [v] ∧ ∀ d, H1 d = none → Q (.ref C) (some d) (upd H1 d (.xd [(("value" : Str), v)]))
theorem relO_val {v : V} {u : Value} (r : RelV v u) (f : Str) : RelO (List.lookup f [(("value" : Str), v)]) (if f = "value" then some u else none) := by
  by_cases hw : f = "value"
  · subst hw
    rw [if_pos rfl, show List.lookup ("value" : Str) [(("value" : Str), v)] = some v by simp [List.lookup]]
    exact r
  · have qw : (f == ("value" : Str)) = false := by simpa using hw
    rw [if_neg hw, show List.lookup f [(("value" : Str), v)] = none by simp [List.lookup, qw]]
    trivial
theorem pmk_err {a : Expr} {ta : TA} {p pos : Pos} {k : Nat} (T : ErrTxt X.prog X.K X.mg nm C D fI) (hr : Room k X.A) (ha : PA X [a] ta) (hg : Gl X nm) (hdb : (nm == ("__debug__" : Str)) = false)
    (he : starEach [a] X.env = (false, eval a X.env) :: starEach [] X.env) : PMk X (.Call (.Name nm p) [a] [] pos) (tMkE C ta) := by
  intro pins s σ H Q I h
  refine wpAny_Call_Name_kw (ld_glob I hg T.gC ?_ hdb)
  refine PySem.W.callWith_K (h₀ := X.base) I.ok.mod.kin T.kC (thn (ha.run pos pins s σ H _ I h) fun us s1 hh => ?_) he rfl
  obtain ⟨vs, H1, I1, r1, v, rfl, q1⟩ := hh
  refine ⟨I1.kIn, ?_⟩
  cases r1 with
  | cons rv rn =>
    rename_i v' us'
    cases rn
    show wpAny _ _ (call (.ref C) [v']) _ _ _
    have hlim := I1.nolimit
    obtain ⟨mb, hb1, hb2⟩ := I1.mod.blt
    obtain ⟨hp, g, dr, tk, os⟩ := s1
    refine wpAny_call (err_made T I1.kIn hlim (I1.mod.glob.keeps I1.bk) (hb1.keeps I1.bk) hb2 (by have := hr.dp; omega) fun h' tk' e d M => ?_)
    show MkP X pins σ Q (.ref e) ⟨h', g, dr, tk', os⟩
    obtain ⟨oe, fv, hoe, hc, hd, hdat, h1⟩ := M.obj
    have hns := M.ns
    obtain ⟨G', g1, g2⟩ := restrict h' fun b => decide (b ≠ e)
    have gk : ∀ b, b ≠ e → G'.get? b = h'.get? b := fun b hb => g1 b (decide_eq_true hb)
    have ge : G'.get? e = none := g2 e (by simp)
    have old : ∀ b o, hp.get? b = some o → G'.get? b = some o := fun b o q => (gk b (Nat.ne_of_lt (Nat.lt_of_lt_of_le (Heap.lt_size q) M.new))).trans (M.keep b o q)
    have ob : ObjOk X.prog X.w (upd H1 d (.xd [(("value" : Str), v)])) G' d (.xd [(("value" : Str), v)]) := ⟨_, hns.at (fun o q => (gk d M.dne).trans q), fun f => relO_val rv f⟩
    have J : Inv X pins σ (upd H1 d (.xd [(("value" : Str), v)])) ⟨G', g, dr, tk', os⟩ := I1.laid (t' := tk') old M.dbig ob
    refine ⟨e, oe, fv, ⟨G', g, dr, tk', os⟩, _, .ref C, some d, rfl, J, fun b o q => ?_, ge, hoe, ⟨hc, hd⟩, hdat, h1, ?_, rfl, I1.bare, raises_own T.exC T.tyC, q1 d (I1.hok.fresh M.dbig)⟩
    · by_cases hb : b = e
      · have q' : G'.get? b = some o := q
        rw [hb, ge] at q'; cases q'
      · exact (gk b hb).symm.trans q
    · rw [upd_ne (Ne.symm M.dne)]
      exact I1.hok.fresh M.new
end
/-! ### what is kept of the heap -/
structure Kp (F H F' H' : Hp) : Prop where
  ff : Same F F'
  fh : Same F' H'
  fr : ∀ b o, H b = some o → Box o → F b = none → H' b = some o ∧ F' b = none
  gr : ∀ b o, H b = some o → ∃ o', H' b = some o'
variable {K : PySem.W.Frag} {F H F' H' F1 H1 F2 H2 : Hp} {ρ ρ' : EnvD} {σ σ' : L2.St}
theorem Kp.of (s : Stp K F H ρ σ F' H' ρ' σ') (no : ∀ b, ¬ OwnAt ρ σ b) : Kp F H F' H' := ⟨s.ff, s.fh, fun b o h1 h2 h3 => s.fr b o h1 h2 h3 (no b), s.gr⟩
theorem Kp.refl (s : Same F H) : Kp F H F H := ⟨Same.refl F, s, fun b o h _ n => ⟨h, n⟩, fun b o h => ⟨o, h⟩⟩
theorem Kp.trans (a : Kp F H F1 H1) (b : Kp F1 H1 F2 H2) : Kp F H F2 H2 :=
  ⟨a.ff.trans b.ff, b.fh, fun c o h bx n => let ⟨h1, n1⟩ := a.fr c o h bx n; b.fr c o h1 bx n1, fun c o h => let ⟨o', h1⟩ := a.gr c o h; b.gr c o' h1⟩
theorem Kp.upd {d : Addr} {o : HO} (a : Kp F H F1 H1) (n : H1 d = none) : Kp F H F1 (upd H1 d o) :=
  ⟨a.ff, fun b u e => by rw [upd_ne (ne_of_none (a.fh b u e) n)]; exact a.fh b u e, fun b u h bx nb => let ⟨h1, n1⟩ := a.fr b u h bx nb; ⟨by rw [upd_ne (ne_of_none h1 n)]; exact h1, n1⟩,
    fun b u h => let ⟨o', h1⟩ := a.gr b u h; ⟨o', by rw [upd_ne (ne_of_none h1 n)]; exact h1⟩⟩
/-- frozen arguments -/
abbrev frzA (ds : List D) : List (D × Bool) := ds.map fun d => (d, false)
theorem erel_frzA {ds : List D} {xs : List V} (r : Reps K F ds xs) : ERel K F H (AsE (frzA ds)) (VsS xs) := by
  have at_ : ∀ {i : Nat} {x : D × Bool}, (AsE (frzA ds))[i]? = some (some x) → x.2 = false ∧ ds[i]? = some x.1 := fun {i x} h => by
    have h := asE_get.mp h
    rw [List.getElem?_map] at h
    obtain ⟨d, h1, rfl⟩ := Option.map_eq_some_iff.mp h
    exact ⟨rfl, h1⟩
  refine ⟨by simp [AsE, VsS, frzA, r.length], fun i d h => ?_, fun i d h => ?_, fun i j d e a h1 => ?_⟩
  · obtain ⟨v, h1, h2⟩ := r.get (at_ h).2
    exact ⟨v, vsS_get.mpr h1, h2⟩
  · cases (at_ h).1
  · cases (at_ h1).1
theorem noOwnA {ds : List D} {n : Nat} {σ : L2.St} : ∀ b, ¬ OwnAt (AsE (frzA ds) ++ List.replicate n none) σ b := fun b ⟨i, d, h1, _⟩ => by
  have h := asE_get.mp (pad_get h1)
  rw [List.getElem?_map] at h
  obtain ⟨e, _, h2⟩ := Option.map_eq_some_iff.mp h
  cases h2
/-- what is raised: the class by its number, the value -/
def spE (K : PySem.W.Frag) (cs : Nat → Addr) (sem : List D → R (Nat × D)) : SpS := fun _ _ xs H _ E => ∃ F ds, Same F H ∧ Reps K F ds xs ∧ (sem ds).wp fun z => ∀ F' H' dx v, Kp F H F' H' → H dx = none → Rep K F' z.2 v → H' dx = some (.xd [(("value" : Str), v)]) → E (.ref (cs z.1)) (some dx) H'
/-- operands that are frozen -/
def frzO : List Opd → R (List D)
  | [] => .ok []
  | .val d false :: r => (frzO r).bind fun ds => .ok (d :: ds)
  | _ :: _ => .no
theorem frzO_ok : ∀ {os : List Opd} {vs : List V} {ds : List D}, ORs K F H ρ σ os vs → frzO os = .ok ds → Reps K F ds vs
  | _, _, ds, .nil, h => by cases h; exact .nil
  | .val d false :: os, v :: vs, ds, .cons h r, e => by
    simp only [frzO] at e
    cases q : frzO os with
    | no => rw [q] at e; cases e
    | ok l =>
      rw [q] at e
      cases e
      exact .cons h (frzO_ok r q)
  | .val d true :: os, _, ds, .cons h r, e => by cases e
  | .slot i :: os, _, ds, .cons h r, e => by cases e
section
variable {X : Cx} {nm id x : Str} {C D fI : Addr} {W : WX}
/-- if c: raise nm(x) -/
theorem ps_ifraise {T : Tb} {N : List Str} {Ct : Ctx} {sc : Scope} {c : E} {ce : Expr} {i k : Nat} {p1 p2 p3 p4 p5 : Pos} (w : Wd X T N Ct) (hsc : X.env.scope = sc) (g1 : mtE T N c sc ce = true) (g2 : isDS ce = false ∨ True) (gt : PT X ce (tB' X.K fun ρ => tstO (ev Ct c ρ)))
    (tk : Takes X W) (TE : ErrTxt X.prog X.K X.mg nm C D fI) (hr : Room k X.A) (hi : X.N[i]? = some x) (hv : Vis X.env.scope x) (hd1 : (x == ("__debug__" : Str)) = false) (hd2 : (x == ("__classdict__" : Str)) = false) (hg : Gl X nm) (hdb : (nm == ("__debug__" : Str)) = false)
    (hst : starEach [Expr.Name x p2] X.env = (false, eval (.Name x p2) X.env) :: starEach [] X.env) :
    PS X (.If ce [.Raise (some (.Call (.Name nm p1) [.Name x p2] [] p3)) none p4] [] p5) (fun D σ H => ∃ F ρ, Same F H ∧ ERel X.K F H ρ σ ∧ (tstO (ev Ct c ρ)).wp fun t => ∀ F' H', SE X.K σ F H ρ F' H' t.2 →
      if t.1 = true then ∃ v, σ[i]? = some (some v) ∧ ∀ d, H' d = none → W (.ref C) (some d) σ (upd H' d (.xd [(("value" : Str), v)])) else D.nx σ H') := by
  have body := pss_one (ps_raise (X := X) (pos := p4) w.calm tk (pmk_err (p := p1) (pos := p3) TE hr (pa_cons (pe_var (pos := p2) hi hv hd1 hd2) pa_nil hst) hg hdb hst))
  refine PS.imp (ps_if (pos := p5) gt body pss_nil) fun Dx σ H ⟨F, ρ, sm, er, q⟩ => ⟨F, ρ, sm, er, R.wp_mono q fun t q F' H' se => ?_⟩
  have q := q F' H' se
  cases ht : t.1 with
  | false =>
    rw [ht, if_neg (by decide)] at q
    dsimp only
    rw [if_neg (by decide)]
    exact q
  | true =>
    rw [ht, if_pos rfl] at q
    dsimp only
    rw [if_pos rfl]
    obtain ⟨v, h1, h2⟩ := q
    exact ⟨v, h1, v, rfl, h2⟩
end
end VI

set_option Elab.async false
set_option linter.all false
set_option autoImplicit false
set_option maxRecDepth 100000
set_option maxHeartbeats 4000000
/-! W4: try: .. except X as n: return n: the error comes back as a value that is tracked. -/
namespace VI
open PySem PySem.Spec PyProof.Rows L2

/-- a caught error at a: its class, its dict -/
def ExV (cls : Value) (d : Option Addr) (a : Addr) : HO := .ext fun h => ∃ (oe : Obj) (vs : Array Value), h.get? a = some oe ∧ Zc cls d oe ∧ oe.data = .fields vs
theorem exV_ok {P : Program} {w : World} {H : Hp} {h : Heap} {a : Addr} {cls : Value} {d : Option Addr} {oe : Obj} {vs : Array Value} (e : h.get? a = some oe) (z : Zc cls d oe) (q : oe.data = .fields vs) : ObjOk P w H h a (ExV cls d a) :=
  ⟨⟨oe, vs, e, z, q⟩, ⟨oe, e⟩, fun h1 h2 ⟨oe, vs, e, z, q⟩ k => ⟨oe, vs, k _ e, z, q⟩⟩
section
variable {X : Cx} {pins : List (Addr × Obj)} {σ : L2.St} {H : Hp} {s : Shared}
/-- a known object that was not there at the entry is tracked from now on -/
theorem track {a : Addr} {ob : Obj} {o : HO} (I : Inv X pins σ H s) (ha : s.heap.get? a = some ob) (na : H a = none) (nL : a ≠ X.env.locals) (nC : ∀ v, ob.data ≠ .cell v) (n0 : X.s_0.heap.get? a = none) (np : ∀ p ∈ X.pn ++ pins, p.1 ≠ a)
    (new : ObjOk X.prog X.w (upd H a o) s.heap a o) : Inv X pins σ (upd H a o) s := by
  have ne0 : ∀ {b : Addr} {u : Obj}, X.s_0.heap.get? b = some u → b ≠ a := fun {b u} e z => by rw [z, n0] at e; cases e
  have neS : ∀ {b : Addr} {u : HO}, H b = some u → b ≠ a := fun {b u} e => ne_of_none e na
  have ceC : ∀ {x : Str} {c : Addr}, X.env.cells.lookup x = some c → c ≠ a := fun {x c} e z => by
    obtain ⟨v, oc, h1, h2⟩ := I.cell x c e
    rw [z, ha] at h1
    cases h1
    exact nC _ h2
  exact ⟨I.ok, I.os, I.bare,
    ⟨I.base.keep, I.base.slot, fun b u e n hq => by rw [upd_ne (ne0 e)]; exact I.base.free b u e n hq, I.base.there, fun b xs e => by have q := I.base.tups b xs e; rw [upd_ne (neS q)]; exact q,
      fun b u v e => by have q := I.base.frzs b u v e; rw [upd_ne (neS q)]; exact q, fun b ps e => by obtain ⟨m, q⟩ := I.base.tbls b ps e; exact ⟨m, by rw [upd_ne (neS q)]; exact q⟩⟩,
    I.loc, I.cell, by rw [upd_ne (Ne.symm nL)]; exact I.free, fun x c e => by rw [upd_ne (ceC e)]; exact I.freeC x c e, fun p hp => by
      obtain ⟨e, n, ne, nf, d⟩ := I.pin p hp
      exact ⟨e, by rw [upd_ne (np p hp)]; exact n, ne, nf, d⟩,
    I.hok.laidN (fun _ _ e => e) na new, I.len⟩
theorem addpin {a : Addr} {oe : Obj} (I : Inv X pins σ H s) (ha : s.heap.get? a = some oe) (na : H a = none) (nL : a ≠ X.env.locals) (nF : a ∉ X.fs) (nC : ∀ v, oe.data ≠ .cell v) : Inv X ((a, oe) :: pins) σ H s :=
  ⟨I.ok, I.os, I.bare, I.base, I.loc, I.cell, I.free, I.freeC, fun p hp => by
    rcases List.mem_append.mp hp with h | h
    · exact I.pin p (List.mem_append_left _ h)
    rcases List.mem_cons.mp h with e | h
    · rw [e]; exact ⟨ha, na, nL, nF, nC⟩
    · exact I.pin p (List.mem_append_right _ h), I.hok, I.len⟩
theorem droppin {q : Addr × Obj} (I : Inv X (q :: pins) σ H s) : Inv X pins σ H s :=
  ⟨I.ok, I.os, I.bare, I.base, I.loc, I.cell, I.free, I.freeC, fun p hp => by
    rcases List.mem_append.mp hp with h | h
    · exact I.pin p (List.mem_append_left _ h)
    · exact I.pin p (List.mem_append_right _ (List.mem_cons_of_mem _ h)), I.hok, I.len⟩
end
/-- what the clause wishes of what its body raises: that it takes it; the error is handed back -/
def wRet (K : PySem.W.Frag) (c : Value) (D : Ends) : WX := fun cls d _ H => PySem.W.exmOne K cls c = some true ∧ ∀ a, H a = none → D.rt (.ref a) (upd H a (ExV cls d a))
section
variable {X : Cx} {x n : Str} {i : Nat} {c : Value} {body : List Stmt} {np pos pos' pn1 pr : Pos} {tb : WX → TS}
theorem ps_try_ret (hs : X.stack = X.env :: X.outer) (hf : X.env.frame = some X.env.locals) (hex : X.ex = []) (hN : X.N.Nodup) (hi : X.N[i]? = some n) (hln : X.env.scope.names.lookup n = some .local) (hc : Names X x c)
    (hd1 : (n == ("__debug__" : Str)) = false) (hd2 : (n == ("__classdict__" : Str)) = false)
    (hb : ∀ (W : WX) (pn : List (Addr × Obj)) (xe : Value → Shared → Prop), Takes (X.tr pn xe) W → PassesOwn (model X.prog X.w) X.A X.env xe → PSs (X.tr pn xe) body (tb W)) :
    PS X (.Try body [.ExceptHandler (some (.Name x np)) (some n) [.Return (some (.Name n pn1)) pr] pos'] [] [] pos) (fun D σ H => tb (wRet X.K c D) D σ H) := by
  refine ⟨fun pins s σ H D I h => ?_⟩
  have ok := I.ok
  have hfr : X.A.frames = some (X.env :: X.outer) := by rw [ok.frames, hs]
  have hkn : X.env.kindOf n = some .local := hln
  refine wpAny_Try_except ?_
  refine wpAny_mono ((hb (wRet X.K c D) (X.pn ++ pins) (fun e s₁ => wpAny (model X.prog X.w) X.A (noteFrame e X.env) (fun _ s₂ => wpAny (model X.prog X.w) X.A (setFlight e none) (fun _ s₃ =>
    wpAny (model X.prog X.w) X.A (handleBy e X.env [.ExceptHandler (some (.Name x np)) (some n) [.Return (some (.Name n pn1)) pr] pos']) (SP X pins D) X.xe s₃) X.xe s₂) X.xe s₁) (fun u s' xx => ?_) PassesOwn.looking).run [] s σ H D (I.toTry _) h) (fun f s1 hsp => ?_) (fun e s1 he => he)
  · obtain ⟨a, B, sI, pins', σ', H', cls, d, rfl, J', nb, up, sky, na, os, ag, hb1, hyes⟩ := xx
    have J : Inv X pins σ' H' sI := J'.ofTry ok
    have sky' : Sky B (X.env :: X.outer) a (Zc cls d) X.env.locals s'.heap := by rw [← hs]; exact sky
    show wpAny (model X.prog X.w) X.A (noteFrame (.ref a) X.env) _ _ _
    refine Sky.land Zc.steady hfr hf sky' fun h3 fl3 up3 => ?_
    have J3 : Inv X pins σ' H' { s' with heap := h3 } := J.landed nb fl3.1 (up.trans up3) os ag
    obtain ⟨oe3, vs3, he3, hz3, hd3⟩ := fl3.there
    have nfr : a ∉ frs (X.env :: X.outer) := fun hm => by
      obtain ⟨_, o', e', hnf⟩ := fl3.2.2.1.mem hm
      rw [he3] at e'; cases e'
      exact hnf _ hd3
    have nL : a ≠ X.env.locals := fun z => nfr (List.mem_filterMap.mpr ⟨X.env, List.mem_cons_self, by rw [hf, z]⟩)
    have nF : a ∉ X.fs := fun hm => by
      obtain ⟨e, he, q⟩ := List.mem_filterMap.mp hm
      exact nfr (List.mem_filterMap.mpr ⟨e, List.mem_cons_of_mem _ he, q⟩)
    have nI : ∀ o, sI.heap.get? a ≠ some o := fun o e => by
      have q := nb a o e (by rw [hs]; exact nfr)
      rw [fl3.2.1] at q; cases q
    have n0 : X.s_0.heap.get? a = none := by
      cases e : X.s_0.heap.get? a with
      | none => rfl
      | some o =>
        obtain ⟨o', q⟩ := J.base.there a o e (by rw [hex]; exact fun z => nomatch z)
        exact absurd q (nI o')
    have npn : ∀ p ∈ X.pn ++ pins, p.1 ≠ a := fun p hp z => by
      obtain ⟨e, _⟩ := J.pin p hp
      rw [z] at e
      exact nI _ e
    have S3 := J3.suite he3 hd3 na nL nF
    refine wpAny_handleBy_cons (codeAny_handlers_test ?_) (by intro q; cases q)
    have LT : PySem.W.Looks (model X.prog X.w) h3 (typeOf (.ref a)) cls := fun A Q E s k q => wpAny_typeOf_ref (k _ _ he3) (by rw [hz3.1]; exact q)
    have LM := PySem.W.exm_one (M := model X.prog X.w) (J3.kIn) LT hb1
    have test : ∀ {Q : Value → Shared → Prop} {E : Value → Shared → Prop}, Q c { s' with heap := h3 } → wpAny (model X.prog X.w) (X.A.mark (some (.ref a))) (eval (.Name x np) X.env) Q E { s' with heap := h3 } := fun {Q E} q => by
      obtain ⟨hg, hdbg, hm | ⟨hm, hv, hnn⟩⟩ := hc
      · exact ld_glob (X := X.suite a ((a, oe3) :: (X.pn ++ pins))) S3 hg hm q hdbg
      · exact ld_blt (X := X.suite a ((a, oe3) :: (X.pn ++ pins))) S3 hg hm hv q hnn hdbg
    refine test (LM.here ?_)
    refine codeAny_handlers_suite_as ?_
    refine HandSPX.lands_againZ fl3 fun h4 fl4 up4 => ?_
    have J4 : Inv X pins σ' H' { s' with heap := h4 } := J.landed nb fl4.1 ((up.trans up3).trans up4) os ag
    obtain ⟨oe4, vs4, he4, hz4, hd4⟩ := fl4.there
    have S4 := J4.suite he4 hd4 na nL nF
    refine store_ok (X := X.suite a ((a, oe4) :: (X.pn ++ pins))) (v := .ref a) S4 hN hi (.inl hln) rfl (fun s5 S5 => ?_) (.inr hln)
    have len5 : i < (σ'.set i (some (V.ref a))).length := by
      have l1 := J4.len
      have l2 := (List.getElem?_eq_some_iff.mp hi).1
      rw [List.length_set]
      omega
    have rd : PE (X.suite a ((a, oe4) :: (X.pn ++ pins))) (.Name n pn1) _ := pe_var (X := X.suite a ((a, oe4) :: (X.pn ++ pins))) (pos := pn1) hi (.inl hln) hd1 hd2
    refine wpAny_mono ((pss_one (ps_ret (pos := pr) rd)).run [] s5 _ H' { nx := fun _ _ => False, rt := fun v H6 => v = .ref a ∧ H6 = H' } S5 ⟨.ref a, by rw [List.getElem?_set_self (by rw [List.length_set] at len5; exact len5)], rfl, rfl⟩) (fun f s6 hsp => ?_) (fun _ _ z => False.elim z)
    cases f with
    | next => obtain ⟨_, _, _, z⟩ := hsp; exact z.elim
    | brk => obtain ⟨_, _, _, z⟩ := hsp; exact z.elim
    | cont => obtain ⟨_, _, _, z⟩ := hsp; exact z.elim
    | ret u =>
      obtain ⟨v6, σ6, H6, S6, r6, rfl, rfl⟩ := hsp
      obtain ⟨g6, _, _, _, nc6⟩ := S6.pin (a, oe4) (List.mem_append_left _ List.mem_cons_self)
      have J6 := addpin (S6.unsuite ok) g6 na nL nF nc6
      refine gone_ok J6 hN hi hkn fun s7 J7 => ?_
      obtain ⟨g7, _, _, _, nc7⟩ := J7.pin (a, oe4) (List.mem_append_right _ List.mem_cons_self)
      exact ⟨.ref a, _, _, track (droppin J7) g7 na nL nc7 n0 npn (exV_ok g7 hz4 hd4), r6, hyes a na⟩
  · cases f with
    | next =>
      obtain ⟨σ', H', J', q⟩ := hsp
      exact wpAny_execs_nil ⟨σ', H', J'.ofTry ok, q⟩
    | brk =>
      obtain ⟨σ', H', J', q⟩ := hsp
      exact ⟨σ', H', J'.ofTry ok, q⟩
    | cont =>
      obtain ⟨σ', H', J', q⟩ := hsp
      exact ⟨σ', H', J'.ofTry ok, q⟩
    | ret u =>
      obtain ⟨v, σ', H', J', r, q⟩ := hsp
      exact ⟨v, σ', H', J'.ofTry ok, r, q⟩
end
end VI

set_option Elab.async false
set_option linter.all false
set_option autoImplicit false
set_option maxRecDepth 100000
set_option maxHeartbeats 8000000
/-! W5: the promises of defs that raise. -/
namespace VI
open PySem PySem.Spec PyProof.Rows L2
section
variable {P : Program} {w : World} {K : PySem.W.Frag} {mg : Str → Option Value} {base : Heap} {fs : List FD} {gls : List Str} {G : List D}
/-- a def's context knows the others -/
theorem wd_mk {CG : CXT} (M : Mw K mg fs gls G) (hok : fs.all (FD.ok (tbOf fs gls)) = true) {n : Nat} {N : List Str} {qual : Str} {sc : Scope} {fa : Addr} {cdv : Value} {A' : Around} {outer : List Env} {s : Shared} {H : Hp} {E : XK} (nd : N.Nodup)
    (hr : Room n (A'.deeper (envOfC qual sc s.heap.objs.size fa cdv))) (gd : A'.guards = some []) : Wd (cxOf CG P w K mg base N qual sc fa cdv A' outer s H E) (tbOf fs gls) N ⟨G, callI G (fs.map (·.df)) n⟩ := by
  refine ⟨rfl, rfl, nd, hr.units, room2 hr, gd, fun g id ps e => ?_, fun k id e => ?_, fun id hid => M.blt id hid⟩
  · have e : (fs.map fun F => (F.id, F.ps))[g]? = some (id, ps) := e
    rw [List.getElem?_map] at e
    obtain ⟨B, hB, eB⟩ := Option.map_eq_some_iff.mp e
    cases eB
    obtain ⟨fb, fdb, DB, b1, b2, b3⟩ := M.fns B (List.mem_of_getElem? hB)
    exact ⟨n, hr, ⟨fb, fdb, fn_ok M hok n g B hB fb fdb DB, gd, DB.mgf, DB.fn.kp, b1, b2, b3⟩⟩
  · obtain ⟨d, hd, v, u, g1, g2, g3⟩ := M.gls k id e
    exact ⟨d, v, u, hd, g1, g2, g3⟩
theorem wd_nox {X : Cx} {T : Tb} {N : List Str} {C : Ctx} (w : Wd X T N C) : Wd X.nox T N C :=
  ⟨w.n, w.calm, w.nd, w.un, w.un2, w.gd, fun f id ps e => let ⟨k, r, G⟩ := w.fns f id ps e; ⟨k, r, ⟨G.ex⟩⟩, w.gls, w.blt⟩
/-- the slots at a def's start, its arguments frozen -/
abbrev startD (df : Df) (ds : List D) : EnvD := AsE (frzA ds) ++ List.replicate (df.nl - df.np) none
theorem start_rel {A : FD} {N ps : List Str} {F H : Hp} {ds : List D} {xs : List V} (o3 : A.df.np = ps.length) (o4 : A.df.nl = N.length) (hl : xs.length = ps.length) (r : Reps K F ds xs) : ERel K F H (startD A.df ds) (L2.start N xs) := by
  have e : L2.start N xs = VsS xs ++ List.replicate (A.df.nl - A.df.np) none := by unfold L2.start; rw [o4, o3, hl]
  rw [e]
  exact erel_pad (erel_frzA r)
theorem start_at {N : List Str} {xs : List V} {i : Nat} {v : V} (h : xs[i]? = some v) : (L2.start N xs)[i]? = some (some v) := by
  unfold L2.start
  exact pad_up (vsS_get.mpr h)
theorem pick_ite {T : Tb} {N : List Str} {c : E} {a b : S} {sc : Scope} {sts : List Stmt} : pickB T N (.ite c a b) sc sts = none := by cases sts <;> rfl
theorem pick_alone {T : Tb} {N : List Str} {e : E} {sc : Scope} {sts : List Stmt} : pickB T N (.alone e) sc sts = none := by cases sts <;> rfl
theorem mtB_cons {T : Tb} {N : List Str} {s r : S} {sc : Scope} {st : Stmt} {rest : List Stmt} (hp : pickB T N s sc (st :: rest) = none) (h : mtB T N (.cons s r) sc (st :: rest) = true) : mtS T N s sc st = true ∧ mtB T N r sc rest = true := by
  simp only [mtB, hp] at h
  simpa using h
theorem mtS_ite {T : Tb} {N : List Str} {c : E} {a b : S} {sc : Scope} {ce : Expr} {xs ys : List Stmt} {p : Pos} (h : mtS T N (.ite c a b) sc (.If ce xs ys p) = true) : mtE T N c sc ce = true ∧ ∀ {C : Ctx} {X : Cx}, Wd X T N C → X.env.scope = sc → PT X ce (tB' X.K fun ρ => tstO (ev C c ρ)) := by
  simp only [mtS] at h
  obtain ⟨y, e1, g⟩ := chk_ok h
  obtain ⟨p', e2⟩ := asIfS_ok e1
  cases e2
  simp only [Bool.and_eq_true] at g
  obtain ⟨⟨⟨g1, g2⟩, g3⟩, g4⟩ := g
  exact ⟨g1, fun w hs => (snd_e c w hs g1).2 g2⟩
variable {n f : Nat} {A : FD} {fa : Addr} {fd : FuncData} {nm x id : Str} {D fI : Addr} {cs : Nat → Addr} {k i : Nat}
theorem okFD (hok : fs.all (FD.ok (tbOf fs gls)) = true) (hA : fs[f]? = some A) : mtB (tbOf fs gls) A.N A.df.body (defScope A.st) (defBody A.st) = true ∧ FnScope A.N A.ps (defScope A.st) ∧ A.df.np = A.ps.length ∧ A.df.nl = A.N.length := by
  have oka : FD.ok (tbOf fs gls) A = true := List.all_eq_true.mp hok A (List.mem_of_getElem? hA)
  unfold FD.ok at oka
  simp only [Bool.and_eq_true, decide_eq_true_eq] at oka
  exact ⟨oka.1.1.1, C8.fnScope_by oka.1.1.2, oka.1.2, oka.2⟩
/-- if c: raise nm(x), at a def's start -/
theorem x_raise0 (M : Mw K mg fs gls G) (hok : fs.all (FD.ok (tbOf fs gls)) = true) (hA : fs[f]? = some A) (dm : DefM K mg A.id A.st fa fd) {c : E} {sa sb rs : S} (hs : A.df.body = .cons (.ite c sa sb) rs)
    {ce : Expr} {rest : List Stmt} {p1 p2 p3 p4 p5 : Pos} (ht : defBody A.st = .If ce [.Raise (some (.Call (.Name nm p1) [.Name x p2] [] p3)) none p4] [] p5 :: rest)
    (TE : ErrTxt P K mg nm (cs k) D fI) (hi : A.N[i]? = some x) (hip : i < A.ps.length) (hv : Vis (defScope A.st) x) (hd1 : (x == ("__debug__" : Str)) = false) (hd2 : (x == ("__classdict__" : Str)) = false) (hg : (defScope A.st).names.lookup nm = some .globalImplicit) (hdb : (nm == ("__debug__" : Str)) = false) :
    FnS P w K mg base (L2.CX P w) (n + 1) fa fd A.ps (fun b s xs H Q E => xs.length = A.ps.length ∧ spE K cs (fun ds => (tstO (ev ⟨G, callI G (fs.map (·.df)) n⟩ c (startD A.df ds))).bind fun t => R.ite t.1 ((R.of ds[i]?).bind fun d => .ok (k, d))) b s xs H Q E) := by
  obtain ⟨o1, S, o3, o4⟩ := okFD hok hA
  rw [hs, ht] at o1
  obtain ⟨m1, m2⟩ := mtB_cons pick_ite o1
  obtain ⟨g1, gt⟩ := mtS_ite m1
  refine FnS.body dm.fn S (fun b s xs H Q E h => h.1) (fun cdv A' below s H us xs Q E hr gd e0 vl ⟨hl, F, ds, sm, rp, q⟩ => ?_)
  have wd := wd_mk (CG := L2.CX P w) (P := P) (w := w) (base := base) (qual := A.id) (sc := defScope A.st) (fa := fa) (cdv := cdv) (outer := below) (s := s) (H := H) (E := E) M hok S.nd hr gd
  rw [ht]
  have tk : Takes (cxOf (L2.CX P w) P w K mg base A.N A.id (defScope A.st) fa cdv A' below s H E) (fun cls d _ H => E cls d H) := takes_of rfl rfl rfl rfl
  refine ⟨_, pss_cons (ps_ifraise (k := n) wd rfl g1 (.inr trivial) (gt wd rfl) tk TE hr hi hv hd1 hd2 hg hdb rfl) (PSs.nox (snd_b (P := A.df.keep) rs ⟨wd_nox wd, rfl, rfl, rfl, S.kind⟩ m2)), ?_⟩
  rw [R.wp_bind] at q
  refine ⟨F, _, sm, start_rel o3 o4 hl rp, R.wp_mono q fun t q F1 H1 se => ?_⟩
  obtain ⟨ht1, q⟩ := R.wp_ite.mp q
  rw [R.wp_bind] at q
  obtain ⟨d, hd, q⟩ := R.wp_eq q
  have hd : ds[i]? = some d := by
    cases e : ds[i]? with
    | none => rw [e] at hd; cases hd
    | some z => rw [e] at hd; cases hd; rfl
  obtain ⟨v, hv1, hv2⟩ := rp.get hd
  rw [if_pos ht1]
  have kp := Kp.of se.st (fun b ⟨j, e, h1, _⟩ => noOwnA b ⟨j, e, h1, by assumption⟩)
  refine ⟨v, start_at hv1, fun dx nx => q F1 _ dx v (kp.upd nx) (none_of kp.gr nx) (hv2.mono se.st.ff) upd_same⟩
end
end VI

set_option Elab.async false
set_option linter.all false
set_option autoImplicit false
set_option maxRecDepth 100000
set_option maxHeartbeats 8000000
/-! W6: what is raised by a call that a def makes first; by a test behind such a call. -/
namespace VI
theorem PS.nox' {X : L2.Cx} {st : PySem.Stmt} {t : L2.TS} (h : L2.PS X.nox st t) : L2.PS X st t := ⟨fun pins s σ H D I hw => PySem.wpAny_mono (h.run pins s σ H D (I.wish _) hw) (fun _ _ q => q.unwish) fun _ _ z => False.elim z⟩
open PySem PySem.Spec PyProof.Rows L2
section
variable {X : Cx}
/-- a call that may raise, or come back -/
theorem pe_callX {T : Tb} {N : List Str} {C : Ctx} {sc : Scope} {g : Nat} {el : E} {ce : Expr} {CG : CXT} {k : Nat} {fb : Addr} {fdb : FuncData} {id : Str} {ps : List Str} {sp : SpS} {E : L2.St → XK} (w : Wd X T N C) (hs : X.env.scope = sc) (h : mtE T N (.call g el) sc ce = true) (ne : el ≠ .nil)
    (hT : T.fns[g]? = some (id, ps)) (hB : FnS X.prog X.w X.K X.mg X.base CG k fb fdb ps sp) (hr : Room k X.A) (hm : X.mg id = some (.ref fb)) (hk : PySem.W.keepIn X.K (.ref fb) = true) (hb : Binds X.K fdb ps []) (hx : ∀ σ, PassesAt CG X σ (E σ)) :
    PE X ce (fun σ H Q => tAr X.K (evA C el) σ H fun xs H1 => ∀ (s : Shared) (pins : List (Addr × Obj)), Inv X pins σ H1 s → sp X.stack s xs H1 Q (E σ)) := by
  simp only [mtE] at h
  obtain ⟨y, e, g'⟩ := chk_ok h
  obtain ⟨p, p', rfl⟩ := asCall_ok e
  obtain ⟨y1, y2, y3⟩ := y
  obtain ⟨z, e2, g'⟩ := chk_ok g'
  rw [hT] at e2
  cases e2
  simp only [Bool.and_eq_true, decide_eq_true_eq] at g'
  obtain ⟨⟨⟨rfl, g1⟩, g2⟩, g3⟩ := g'
  obtain rfl := nil0_ok g3
  obtain ⟨hg, hd⟩ := glB_ok hs g1
  cases y2 with
  | nil =>
    exfalso
    have g2 := g2.1
    cases el <;> first | exact ne rfl | (simp only [mtL] at g2; cases g2)
  | cons a es =>
    obtain ⟨g2, st⟩ := g2
    rw [List.all_cons, Bool.and_eq_true] at st
    exact g_call hB hr w.gd hg hm hk hb hx (snd_l el w hs g2).2 hd (star_ok st.1) (stars_ok st.2)
end
section
variable {P : Program} {w : World} {K : PySem.W.Frag} {mg : Str → Option Value} {base : Heap} {fs : List FD} {gls : List Str} {G : List D}
/-- the def number f raises as sem says -/
def Raiser (P : Program) (w : World) (K : PySem.W.Frag) (mg : Str → Option Value) (base : Heap) (fs : List FD) (cs : Nat → Addr) (n f : Nat) (sem : List D → R (Nat × D)) : Prop :=
  ∀ (A : FD) (fa : Addr) (fd : FuncData), fs[f]? = some A → DefM K mg A.id A.st fa fd → FnS P w K mg base (L2.CX P w) n fa fd A.ps (fun b s xs H Q E => xs.length = A.ps.length ∧ spE K cs sem b s xs H Q E)
variable {n f g : Nat} {A : FD} {nm x id : Str} {D fI : Addr} {cs : Nat → Addr} {k i : Nat}
theorem raiser0 (M : Mw K mg fs gls G) (hok : fs.all (FD.ok (tbOf fs gls)) = true) (hA : fs[f]? = some A) {c : E} {sa sb rs : S} (hs : A.df.body = .cons (.ite c sa sb) rs)
    {ce : Expr} {rest : List Stmt} {p1 p2 p3 p4 p5 : Pos} (ht : defBody A.st = .If ce [.Raise (some (.Call (.Name nm p1) [.Name x p2] [] p3)) none p4] [] p5 :: rest)
    (TE : ErrTxt P K mg nm (cs k) D fI) (hi : A.N[i]? = some x) (hip : i < A.ps.length) (hv : Vis (defScope A.st) x) (hd1 : (x == ("__debug__" : Str)) = false) (hd2 : (x == ("__classdict__" : Str)) = false) (hg : (defScope A.st).names.lookup nm = some .globalImplicit) (hdb : (nm == ("__debug__" : Str)) = false) :
    Raiser P w K mg base fs cs (n + 1) f (fun ds => (tstO (ev ⟨G, callI G (fs.map (·.df)) n⟩ c (startD A.df ds))).bind fun t => R.ite t.1 ((R.of ds[i]?).bind fun d => .ok (k, d))) := fun A' fa fd hA' dm => by
  rw [hA] at hA'
  cases hA'
  exact x_raise0 M hok hA dm hs ht TE hi hip hv hd1 hd2 hg hdb
/-- the first call raises -/
theorem raiser1 (M : Mw K mg fs gls G) (hok : fs.all (FD.ok (tbOf fs gls)) = true) (hA : fs[f]? = some A) {el : E} {rs : S} (hs : A.df.body = .cons (.alone (.call g el)) rs) (ne : el ≠ .nil)
    {ce : Expr} {rest : List Stmt} {p : Pos} (ht : defBody A.st = .Expr ce p :: rest) {B : FD} (hB : fs[g]? = some B) {sem : List VI.D → R (Nat × VI.D)} (hr : Raiser P w K mg base fs cs n g sem) (hsw : ∀ env : Env, swapsWith ce none p.line env = pure false) :
    Raiser P w K mg base fs cs (n + 1) f (fun ds => (evA ⟨G, callI G (fs.map (·.df)) n⟩ el (startD A.df ds)).bind fun x => (frzO x.1).bind fun ds' => R.ite (decide (ds'.length = B.ps.length)) (sem ds')) := fun A' fa fd hA' dm => by
  rw [hA] at hA'
  cases hA'
  obtain ⟨o1, S, o3, o4⟩ := okFD hok hA
  rw [hs, ht] at o1
  obtain ⟨m1, m2⟩ := mtB_cons pick_alone o1
  have me : mtE (tbOf fs gls) A.N (.call g el) (defScope A.st) ce = true := by
    simp only [mtS] at m1
    obtain ⟨x', e1, g'⟩ := chk_ok m1
    obtain ⟨p', e2⟩ := asExp_ok e1
    cases e2
    rw [Bool.and_eq_true] at g'
    exact g'.2
  refine FnS.body dm.fn S (fun b s xs H Q E h => h.1) (fun cdv A' below s H us xs Q E hrm gd e0 vl ⟨hl, F, ds, sm, rp, q⟩ => ?_)
  have wd := wd_mk (CG := L2.CX P w) (P := P) (w := w) (base := base) (qual := A.id) (sc := defScope A.st) (fa := fa) (cdv := cdv) (outer := below) (s := s) (H := H) (E := E) M hok S.nd hrm gd
  rw [ht]
  have tk : Takes (cxOf (L2.CX P w) P w K mg base A.N A.id (defScope A.st) fa cdv A' below s H E) (fun cls d _ H => E cls d H) := takes_of rfl rfl rfl rfl
  obtain ⟨fb, fdb, DB, b1, b2, b3⟩ := M.fns B (List.mem_of_getElem? hB)
  have hT : (tbOf fs gls).fns[g]? = some (B.id, B.ps) := by
    show (fs.map fun F => (F.id, F.ps))[g]? = _
    rw [List.getElem?_map, hB]
    rfl
  refine ⟨_, pss_cons (ps_expr (pe_callX wd rfl me ne hT (hr B fb fdb hB DB) hrm DB.mgf DB.fn.kp b1 (fun σ => passAt tk σ)) (hsw _)) (PSs.nox (snd_b (P := A.df.keep) rs ⟨wd_nox wd, rfl, rfl, rfl, S.kind⟩ m2)), ?_⟩
  rw [R.wp_bind] at q
  refine ⟨F, _, sm, start_rel o3 o4 hl rp, R.wp_mono q fun r q F1 H1 vs se ors nws tds s' pins I => ?_⟩
  rw [R.wp_bind] at q
  obtain ⟨ds', hd, q⟩ := R.wp_eq q
  obtain ⟨h1, q⟩ := R.wp_ite.mp q
  have rp' := frzO_ok ors hd
  have kp := Kp.of se.st (fun b ⟨j, e, h1, _⟩ => noOwnA b ⟨j, e, h1, by assumption⟩)
  refine ⟨by rw [← rp'.length]; exact of_decide_eq_true h1, F1, ds', se.st.fh, rp', R.wp_mono q fun z q F2 H2 dx v kp2 nx rz hx => ?_⟩
  exact q F2 H2 dx v (kp.trans kp2) (none_of kp.gr nx) rz hx
/-- a call that comes back, then if c: raise nm(x) -/
theorem raiser2 (M : Mw K mg fs gls G) (hok : fs.all (FD.ok (tbOf fs gls)) = true) (hA : fs[f]? = some A) {e0 c : E} {sa sb rs : S} (hs : A.df.body = .cons (.alone e0) (.cons (.ite c sa sb) rs))
    {st0 : Stmt} {ce : Expr} {rest : List Stmt} {p1 p2 p3 p4 p5 : Pos} (ht : defBody A.st = st0 :: .If ce [.Raise (some (.Call (.Name nm p1) [.Name x p2] [] p3)) none p4] [] p5 :: rest)
    (TE : ErrTxt P K mg nm (cs k) D fI) (hi : A.N[i]? = some x) (hip : i < A.ps.length) (hkp : A.df.keep.getD i false = true) (hv : Vis (defScope A.st) x) (hd1 : (x == ("__debug__" : Str)) = false) (hd2 : (x == ("__classdict__" : Str)) = false) (hg : (defScope A.st).names.lookup nm = some .globalImplicit) (hdb : (nm == ("__debug__" : Str)) = false) :
    Raiser P w K mg base fs cs (n + 1) f (fun ds => (run ⟨G, callI G (fs.map (·.df)) n⟩ A.df.keep (.alone e0) (startD A.df ds)).bind fun fl => match fl with
      | .nx ρ1 => (tstO (ev ⟨G, callI G (fs.map (·.df)) n⟩ c ρ1)).bind fun t => R.ite t.1 ((R.of ds[i]?).bind fun d => .ok (k, d))
      | .rt _ _ => .no) := fun A' fa fd hA' dm => by
  rw [hA] at hA'
  cases hA'
  obtain ⟨o1, S, o3, o4⟩ := okFD hok hA
  rw [hs, ht] at o1
  obtain ⟨m0, m1⟩ := mtB_cons pick_alone o1
  obtain ⟨m1, m2⟩ := mtB_cons pick_ite m1
  obtain ⟨g1, gt⟩ := mtS_ite m1
  refine FnS.body dm.fn S (fun b s xs H Q E h => h.1) (fun cdv A' below s H us xs Q E hr gd e0 vl ⟨hl, F, ds, sm, rp, q⟩ => ?_)
  have wd := wd_mk (CG := L2.CX P w) (P := P) (w := w) (base := base) (qual := A.id) (sc := defScope A.st) (fa := fa) (cdv := cdv) (outer := below) (s := s) (H := H) (E := E) M hok S.nd hr gd
  rw [ht]
  have tk : Takes (cxOf (L2.CX P w) P w K mg base A.N A.id (defScope A.st) fa cdv A' below s H E) (fun cls d _ H => E cls d H) := takes_of rfl rfl rfl rfl
  have wb : Wb (cxOf (L2.CX P w) P w K mg base A.N A.id (defScope A.st) fa cdv A' below s H E).nox (tbOf fs gls) A.N ⟨G, callI G (fs.map (·.df)) n⟩ (defScope A.st) := ⟨wd_nox wd, rfl, rfl, rfl, S.kind⟩
  have first := (snd_s (P := A.df.keep) _ wb m0)
  have first1 : PSs (cxOf (L2.CX P w) P w K mg base A.N A.id (defScope A.st) fa cdv A' below s H E).nox [st0] _ := pss_one first
  refine ⟨_, pss_cons (PS.nox' first) (pss_cons (ps_ifraise (k := n) wd rfl g1 (.inr trivial) (gt wd rfl) tk TE hr hi hv hd1 hd2 hg hdb rfl) (PSs.nox (snd_b (P := A.df.keep) rs wb m2))), ?_⟩
  rw [R.wp_bind] at q
  refine ⟨F, _, sm, start_rel o3 o4 hl rp, R.wp_mono q fun fl q => ?_⟩
  cases fl with
  | rt _ _ => exact q.elim
  | nx ρ1 =>
    intro F1 H1 σ1 ss
    rw [R.wp_bind] at q
    refine ⟨F1, ρ1, ss.st.fh, ss.st.er, R.wp_mono q fun t q F2 H2 se => ?_⟩
    obtain ⟨ht1, q⟩ := R.wp_ite.mp q
    rw [R.wp_bind] at q
    obtain ⟨d, hd, q⟩ := R.wp_eq q
    have hd : ds[i]? = some d := by
      cases e : ds[i]? with
      | none => rw [e] at hd; cases hd
      | some z => rw [e] at hd; cases hd; rfl
    obtain ⟨v, hv1, hv2⟩ := rp.get hd
    rw [if_pos ht1]
    have st := ss.st.trans se.st
    have kp := Kp.of st (fun b ⟨j, e, h1, _⟩ => noOwnA b ⟨j, e, h1, by assumption⟩)
    refine ⟨v, (ss.kp i hkp).trans (start_at hv1), fun dx nx => q F2 _ dx v (kp.upd nx) (none_of kp.gr nx) (hv2.mono st.ff) upd_same⟩
end
end VI

set_option Elab.async false
set_option linter.all false
set_option autoImplicit false
set_option maxRecDepth 100000
set_option maxHeartbeats 4000000
/-! W7: a caught error looked at: isinstance, its value. -/
namespace VI
open PySem PySem.Spec PyProof.Rows L2
/-- what the written part says of an error class, so that its instances can be asked -/
structure ErrSeen (K : PySem.W.Frag) (C : Addr) : Prop where
  cl : (PySem.W.clsIn K C).isSome = true
  ga : PySem.W.findIn K (.ref C) "__getattribute__" = some (some (.builtin "BaseException.__getattribute__"))
  gg : PySem.W.findIn K (.ref C) "__getattr__" = some none
  sb : PySem.W.subIn K (.ref C) (.type "BaseException") = some true
  ha : PySem.W.findIn K (.ref C) "__class__" = some (some (.builtin "object.__class__"))
  hn : PySem.W.specialIn K (.builtin "object.__class__") "__get__" = some (some (.builtin "getset_descriptor.__get__"))
  ht : PySem.W.takesIn K (.builtin "object.__class__") = some true
  hm : PySem.W.mroIn K C (.type "object") = some true
  hd : PySem.W.hasDictIn K C = true
  no : PySem.W.findIn K (.ref C) "value" = some none
/-- at a: a caught error of the class at C that keeps v -/
def Caught (H : Hp) (a C : Addr) (v : V) : Prop := ∃ dd, H a = some (ExV (.ref C) (some dd) a) ∧ H dd = some (.xd [(("value" : Str), v)])
section
variable {X : Cx}
theorem caught_inst {pins : List (Addr × Obj)} {σ : L2.St} {H : Hp} {s : Shared} {a C : Addr} {v : V} (I : Inv X pins σ H s) (h : Caught H a C v) : ∃ (oe od : Obj), PySem.W.InstAt s.heap a oe C (some od) ∧ ∃ u, RelV v u ∧ PySem.W.lookIn "value" od = some (some u) := by
  obtain ⟨dd, h1, h2⟩ := h
  have x1 : ObjOk X.prog X.w H s.heap a (ExV (.ref C) (some dd) a) := I.hok a _ h1
  obtain ⟨⟨oe, vs, e, z, q⟩, _, _⟩ := x1
  have x2 : ObjOk X.prog X.w H s.heap dd (.xd [(("value" : Str), v)]) := I.hok dd _ h2
  obtain ⟨mA, hns, hr⟩ := x2
  obtain ⟨od, ho, hl⟩ := lookIn_ns hns
  have l : List.lookup ("value" : Str) [(("value" : Str), v)] = some v := by simp [List.lookup]
  obtain ⟨u, hu, ru⟩ := RelO.some_of (v := v) (o := mA "value") (by rw [← l]; exact hr "value")
  exact ⟨oe, od, ⟨e, z.1, by unfold PySem.W.notCls; rw [q] <;> rfl, by rw [z.2]; exact ho⟩, u, ru, by rw [hl, hu]⟩
/-- isinstance of a caught error -/
theorem call_isX : CallR X (.builtin "isinstance") (fun xs H Q => ∃ (a C c : Addr) (v : V) (b : Bool), xs = [.ref a, .ref c] ∧ Caught H a C v ∧ ErrSeen X.K C ∧ PySem.W.kitOne X.K (.ref C) (.ref c) = some b ∧ Q (.bl b) H) := by
  intro pins s σ H xs us Q I r h
  obtain ⟨a, C, c, v, b, rfl, hc, S, e, q⟩ := h
  cases r with
  | cons rx rr =>
    cases rr with
    | cons rt rr =>
      cases rr
      cases rx
      cases rt
      obtain ⟨oe, od, J, _⟩ := caught_inst I hc
      exact PySem.W.kia_one (PySem.W.kitx_exc (ox := oe) (od := some od) S.cl S.ga S.gg S.sb S.ha S.hn S.ht S.hm) I.kIn J e (fun z => nomatch z) fun tk => ⟨.bl b, H, I.kept (t' := tk) fun _ _ z => z, rfl, q⟩
/-- e.value -/
theorem pe_val {e : Expr} {te : TE} {pos : Pos} (he : PE X e te) (hb : attributeBase e "value" X.env (eval e X.env) = eval e X.env) :
    PE X (.Attribute e "value" pos) (fun σ H Q => te σ H fun x H1 => ∃ (a C : Addr) (v : V), x = .ref a ∧ Caught H1 a C v ∧ ErrSeen X.K C ∧ Q v H1) := by
  refine ⟨fun pins s σ H Q I h => ?_⟩
  refine attr_of hb (thn (he.run pins s σ H _ I h) fun u s1 hh => ?_)
  obtain ⟨x, H1, I1, rx, a, C, v, rfl, hc, S, q⟩ := hh
  obtain rfl : u = Value.ref a := rx
  obtain ⟨oe, od, J, u, ru, hl⟩ := caught_inst I1 hc
  exact HandSPX.exc_get I1.kIn J S.ga S.gg S.sb (PySem.W.findObj_own S.hd S.no rfl hl) (handed_of ru) ⟨v, H1, I1.tok _, ru, q⟩
end
end VI

set_option Elab.async false
set_option linter.all false
set_option autoImplicit false
set_option maxRecDepth 100000
set_option maxHeartbeats 4000000
/-! W8: a lambda without parameters is made, tracked as a value; it is called later. -/
namespace VI
open PySem PySem.Spec PyProof.Rows L2 LamX

/-- at f: the lambda, its code object at c' -/
def CloO (q : Str) (params : Arguments) (body : Expr) (scope : Scope) (cl : List (Str × Addr)) (c' f : Addr) : HO := .ext fun h => ∃ pm ctv : Value, h.get? f = some (PySem.W.kla_obj "<lambda>" q params body scope cl pm c' ctv)
theorem cloO_ok {P : Program} {w : World} {H : Hp} {h : Heap} {q : Str} {params : Arguments} {body : Expr} {scope : Scope} {cl : List (Str × Addr)} {c' f : Addr} {pm ctv : Value} (e : h.get? f = some (PySem.W.kla_obj "<lambda>" q params body scope cl pm c' ctv)) : ObjOk P w H h f (CloO q params body scope cl c' f) :=
  ⟨⟨pm, ctv, e⟩, ⟨_, e⟩, fun h1 h2 ⟨pm, ctv, e⟩ k => ⟨pm, ctv, k _ e⟩⟩
theorem cloO_ne {q : Str} {params : Arguments} {body : Expr} {scope : Scope} {cl : List (Str × Addr)} {c' f : Addr} (ps : Array Value) : CloO q params body scope cl c' f ≠ .tbl ps := fun z => by
  unfold CloO at z
  cases z
def IsClo (H : Hp) (f : Addr) (q : Str) (params : Arguments) (body : Expr) (scope : Scope) (cl : List (Str × Addr)) : Prop := ∃ c', H f = some (CloO q params body scope cl c' f) ∧ H c' = some (CodeO c' q)
theorem IsClo.mono {H H' : Hp} {f : Addr} {q : Str} {params : Arguments} {body : Expr} {scope : Scope} {cl : List (Str × Addr)} (h : IsClo H f q params body scope cl) (s : Same H H') : IsClo H' f q params body scope cl :=
  let ⟨c', h1, h2⟩ := h; ⟨c', s _ _ h1, s _ _ h2⟩
theorem IsClo.extN {H H' : Hp} {f : Addr} {q : Str} {params : Arguments} {body : Expr} {scope : Scope} {cl : List (Str × Addr)} (h : IsClo H f q params body scope cl) (s : ExtN H H') : IsClo H' f q params body scope cl :=
  let ⟨c', h1, h2⟩ := h; ⟨c', s _ _ h1 cloO_ne, s _ _ h2 codeO_ne⟩
section
variable {X : Cx} {c P : Addr} {params : Arguments} {body : Expr} {scope : Scope} {pos : Pos}
theorem pe_lam (TB : TabB X.base X.mg c P) (hcode : X.env.code = .ref c) (hex : X.ex = []) (hdef : defaultsOf params X.env = ([], [])) (hfree : ∀ y ∈ scope.names, y.2 = .free → ∃ a, X.env.cells.lookup y.1 = some a) :
    PE X (.Lambda params body scope pos) (fun _ H Q => TabS H P (X.env.qual ++ "<lambda>") ∧ ∀ f H1, ExtN H H1 → TabS H1 P (X.env.qual ++ "<lambda>") → IsClo H1 f (X.env.qual ++ "<lambda>") params body scope (cloFrom X.env.cells scope.names []) → H f = none → Q (.ref f) H1) := by
  refine ⟨fun pins s σ H Q I ⟨⟨tb, hP, tok, tall⟩, k⟩ => ?_⟩
  have there : ∀ (f : Addr), s.heap.objs.size ≤ f → X.s_0.heap.get? f = none ∧ (∀ p ∈ X.pn ++ pins, p.1 ≠ f) ∧ f ≠ X.env.locals := fun f hf => by
    have no : ∀ {b : Addr} {o : Obj}, s.heap.get? b = some o → b ≠ f := fun {b o} e => Nat.ne_of_lt (Nat.lt_of_lt_of_le (Heap.lt_size e) hf)
    refine ⟨?_, fun p hp => no (I.pin p hp).1, fun z => ?_⟩
    · cases e : X.s_0.heap.get? f with
      | none => rfl
      | some o =>
        obtain ⟨o', q⟩ := I.base.there f o e (by rw [hex]; exact fun z => nomatch z)
        exact absurd rfl (no q)
    · exact Nat.lt_irrefl _ (Nat.lt_of_lt_of_le (z ▸ I.lt) hf)
  have notcell : ∀ {cl : List (Str × Addr)} {q : Str} {pm ctv : Value} {c' : Addr} (v : Option Value), (PySem.W.kla_obj "<lambda>" q params body scope cl pm c' ctv).data ≠ .cell v := fun v z => by cases z
  have bP : s.heap.BuiltinsAt X.mg P := TB.bm.keeps I.bk
  have hPo : s.heap.get? P = some { cls := .none, data := .fields tb } := I.hok P _ hP
  -- what is left, once the lambda stands at f
  have fin : ∀ {h1 : Heap} {tk : Nat} {H1 : Hp} {c' : Addr} {pm ctv : Value}, s.heap.objs.size ≤ h1.objs.size →
      Inv X pins σ H1 { s with heap := h1.push (PySem.W.kla_obj "<lambda>" (X.env.qual ++ "<lambda>") params body scope (cloFrom X.env.cells scope.names []) pm c' ctv), toks := tk } → ExtN H H1 → TabS H1 P (X.env.qual ++ "<lambda>") → H1 h1.objs.size = none → H1 c' = some (CodeO c' (X.env.qual ++ "<lambda>")) →
      EP X pins σ Q (.ref h1.objs.size) { s with heap := h1.push (PySem.W.kla_obj "<lambda>" (X.env.qual ++ "<lambda>") params body scope (cloFrom X.env.cells scope.names []) pm c' ctv), toks := tk } := fun {h1 tk H1 c' pm ctv} sz J eN tS n1 hc' => by
    obtain ⟨t1, t2, t3⟩ := there h1.objs.size sz
    have nH : H h1.objs.size = none := I.hok.fresh sz
    have at_ : (h1.push (PySem.W.kla_obj "<lambda>" (X.env.qual ++ "<lambda>") params body scope (cloFrom X.env.cells scope.names []) pm c' ctv)).get? h1.objs.size = some (PySem.W.kla_obj "<lambda>" (X.env.qual ++ "<lambda>") params body scope (cloFrom X.env.cells scope.names []) pm c' ctv) := Heap.get?_push_size _ rfl
    have up : ∀ b o, H1 b = some o → upd H1 h1.objs.size (CloO (X.env.qual ++ "<lambda>") params body scope (cloFrom X.env.cells scope.names []) c' h1.objs.size) b = some o := fun b o e => by rw [upd_ne (ne_of_none e n1)]; exact e
    exact ⟨.ref h1.objs.size, _, track J at_ n1 t3 notcell t1 t2 (cloO_ok at_), rfl, k _ _ (fun b o e n => up b o (eN b o e n)) (tS.ext up) ⟨c', upd_same, up _ _ hc'⟩ nH⟩
  refine PySem.W.kla_eval hdef ?_
  cases hc : codeAmong pos tb.toList with
  | some cv =>
    obtain ⟨c', rfl, hco⟩ := tall pos cv hc
    refine PySem.W.kla_makeFunctionHit (mg := X.mg) (c := c) (P := P) (ps := tb) (closure_ok hfree) I.ok.glob (I.mod.glob.keeps I.bk) hcode (TB.code.keeps I.bk) hPo tok hc bP fun ctv h1 tk kx sz => ?_
    have J : Inv X pins σ H { s with heap := h1.push (PySem.W.kla_obj "<lambda>" (X.env.qual ++ "<lambda>") params body scope (cloFrom X.env.cells scope.names []) ((X.mg "__name__").getD .none) c' ctv), toks := tk } := I.kept fun b o e => Heap.get?_push_of_some _ (kx b o e)
    exact fin sz J (ExtN.refl H) ⟨tb, hP, tok, tall⟩ (I.hok.fresh sz) hco
  | none =>
    refine PySem.W.kla_makeFunction (mg := X.mg) (c := c) (P := P) (ps := tb) (closure_ok hfree) I.ok.glob (I.mod.glob.keeps I.bk) hcode (TB.code.keeps I.bk) hPo tok hc TB.gP bP fun c' ctv h1 tk kx ge lt rc tbl => ?_
    obtain ⟨c2, oc, vs, t, e2, hoc, hd, hv⟩ := rc
    cases e2
    have sz : s.heap.objs.size ≤ h1.objs.size := Nat.le_trans ge (Nat.le_of_lt lt)
    have nC : H c' = none := I.hok.fresh ge
    have J := inv_table (t' := tk) (more := #[rawInt pos.line, rawInt pos.col, .ref c']) (h' := h1.push (PySem.W.kla_obj "<lambda>" (X.env.qual ++ "<lambda>") params body scope (cloFrom X.env.cells scope.names []) ((X.mg "__name__").getD .none) c' ctv)) I hP
      (fun b o hb e => Heap.get?_push_of_some _ (kx b o hb e)) (Heap.get?_push_of_some _ tbl) ge ⟨oc, vs, t, Heap.get?_push_of_some _ hoc, hd, hv⟩
    have nP : P ≠ c' := ne_of_none hP nC
    have eN : ExtN H (upd (upd H P (.tbl (tb ++ #[rawInt pos.line, rawInt pos.col, .ref c']))) c' (CodeO c' (X.env.qual ++ "<lambda>"))) := fun b o e n => by
      rw [upd_ne (ne_of_none e nC), upd_ne (fun z => n tb (Option.some.inj (e.symm.trans (by rw [z]; exact hP))))]
      exact e
    have n1 : upd (upd H P (.tbl (tb ++ #[rawInt pos.line, rawInt pos.col, .ref c']))) c' (CodeO c' (X.env.qual ++ "<lambda>")) h1.objs.size = none := by
      rw [upd_ne (Nat.ne_of_gt lt), upd_ne (Nat.ne_of_gt (Nat.lt_of_lt_of_le (Heap.lt_size hPo) sz))]
      exact I.hok.fresh sz
    have eL : (tb ++ #[rawInt pos.line, rawInt pos.col, .ref c']).toList = tb.toList ++ [rawInt pos.line, rawInt pos.col, .ref c'] := by simp
    refine fin sz J eN ⟨_, by rw [upd_ne nP, upd_same], by rw [eL]; exact PySem.TriplesOk_snoc _ _ _ _ tok, fun p' cv hcv => ?_⟩ n1 upd_same
    rw [eL] at hcv
    rcases among_app _ tok hcv with z | z
    · obtain ⟨c0, e1, e2⟩ := tall p' cv z
      exact ⟨c0, e1, eN _ _ e2 codeO_ne⟩
    · exact ⟨c', z, upd_same⟩
end
end VI

set_option Elab.async false
set_option linter.all false
set_option autoImplicit false
set_option maxRecDepth 100000
set_option maxHeartbeats 4000000
/-! W9: [e for t in xs], the element read with what is known of the state around the block. -/
namespace VI
open PySem PySem.Spec PyProof.Rows L2
section
variable {X : Cx}
theorem pe_lcSeen {elt tg iter : Expr} {scope : Scope} {own : List (Str × Nat)} {pos : Pos} {wi : TI} {g : TG} {te : L2.St → TE} (calm : X.calm = true) (nd : X.N.Nodup) (hi : PI X tg iter wi) (ok : BlkOk X.N X.env.scope scope own)
    (hg : ∀ (s : Shared) (H : Hp) (C : Addr) (cl : List (Str × Addr)) (fp : List Addr), PG (X.blk s H scope (compEnvC scope cl C X.env) fp) tg g)
    (he : ∀ (σ0 : L2.St) (pins : List (Addr × Obj)) (s : Shared) (H : Hp) (C : Addr) (cl : List (Str × Addr)) (fp : List Addr), (∀ (pins' : List (Addr × Obj)) (σ' : L2.St) (H' : Hp) (s' : Shared), Inv (X.blk s H scope (compEnvC scope cl C X.env) fp) pins' σ' H' s' → Inv X pins σ0 H' s') → PE (X.blk s H scope (compEnvC scope cl C X.env) fp) elt (te σ0)) (hs : ∀ x, foldedSetIterable iter X.env x = pure x) :
    PE X (.ListComp elt [⟨tg, iter, [], 0⟩] scope pos) (fun σ H Q => tLc wi g tYes (te σ) (own.map (·.2)) σ H Q) := by
  refine ⟨fun pins s σ H Q I h => ?_⟩
  rw [eval_ListComp]
  have cells : ∀ y ∈ scope.names, y.2 = .free → ∃ c, X.env.cells.lookup y.1 = some c := fun y hy e => (ok.free y hy e).elim (fun k => I.ok.has _ (.inl k)) (fun k => I.ok.has _ (.inr k))
  refine wpAny_comprehension_free (use := none) rfl hs (closure_ok cells) ok.kind (fun y hy e => by rw [ok.uniq y hy, e]) (thn (hi.run pins s σ H _ I h) fun xv s1 hx => thn hx fun itv s2 h2 => ?_)
  obtain ⟨it, fp, tn, J, Ha, rfl, Ia, T, ta, fa, q⟩ := h2
  refine wpAny_newObj_type (newEnv_comp ?_) (by show 0 ≤ sizeLine; decide)
  obtain ⟨L, hL⟩ : ∃ L, L = s2.heap.objs.size := ⟨_, rfl⟩
  rw [← hL]
  obtain ⟨W, ⟨m0, w0⟩, turn⟩ := q L (Ia.hok.fresh (Nat.le_of_eq hL.symm))
  obtain ⟨t, ht⟩ : ∃ t : Shared, t = { s2 with heap := s2.heap.push { cls := .type "list", data := .seq ([] : List Value).toArray } } := ⟨_, rfl⟩
  have keepT : ∀ b o, s2.heap.get? b = some o → t.heap.get? b = some o := fun b o e => by rw [ht]; exact Heap.get?_push_of_some _ e
  obtain ⟨Hb, hHb⟩ : ∃ Hb, Hb = upd Ha L (.lst []) := ⟨_, rfl⟩
  have It : Inv X pins σ Hb t := by
    rw [ht, hHb]
    refine Ia.laid (t' := s2.toks) (fun b o e => Heap.get?_push_of_some _ e) (Nat.le_of_eq hL.symm) ⟨Nat.zero_le _, [], 0, .nil, ?_⟩
    rw [hL]
    exact Heap.get?_push_size _ rfl
  have low : ∀ b ∈ fp, b < s2.heap.objs.size := fun b hb => let ⟨o, e, _⟩ := T.obj _ _ ta b hb; Heap.lt_size e
  have fb : ∀ b ∈ fp, FpOk X pins Hb b ∧ b < t.heap.objs.size := fun b hb => by
    refine ⟨⟨?_, (fa b hb).2⟩, by rw [ht]; show b < (s2.heap.push _).objs.size; rw [Heap.size_push]; exact Nat.lt_succ_of_lt (low b hb)⟩
    rw [hHb, upd_ne (by rw [hL]; exact Nat.ne_of_lt (low b hb))]
    exact (fa b hb).1
  have tb : tn 0 t.heap := T.keep _ _ _ ta fun b _ o e => keepT b o e
  have Ic := block_start It ok nd fb
  have pg := hg t Hb t.heap.objs.size (cellsFrom (t.heap.objs.size + 1) scope.names (cloFrom X.env.cells scope.names [])) fp
  have pe := he σ pins t Hb t.heap.objs.size (cellsFrom (t.heap.objs.size + 1) scope.names (cloFrom X.env.cells scope.names [])) fp fun pins' σ' H' s' J => It.call' (ch := fp) J.os J.base J.hok J.bare fun b hb => let f := (fb b hb).1; ⟨f.2.2.2.1, f.2.1, f.2.2.2.2.1, f.2.2.2.2.2⟩
  rw [← ht]
  show codeAny _ _ (.compStart (.ListComp elt [⟨tg, iter, [], 0⟩] scope pos) 0 (.ref it) (.ref L) (compEnvC scope (cellsFrom (t.heap.objs.size + 1) scope.names (cloFrom X.env.cells scope.names [])) t.heap.objs.size X.env)) (compPost (model X.prog X.w) X.A X.xe none (EP X pins σ Q) (.ref L) t.heap.objs.size) { t with heap := pushCells (t.heap.push { cls := .type "dict", data := .dict #[] }) scope.names }
  obtain ⟨ce, hce⟩ : ∃ ce, ce = compEnvC scope (cellsFrom (t.heap.objs.size + 1) scope.names (cloFrom X.env.cells scope.names [])) t.heap.objs.size X.env := ⟨_, rfl⟩
  have lce : ce.locals = t.heap.objs.size := by rw [hce]; rfl
  rw [← hce] at Ic pg pe ⊢
  obtain ⟨u, hu⟩ : ∃ u : Shared, u = { t with heap := pushCells (t.heap.push { cls := .type "dict", data := .dict #[] }) scope.names } := ⟨_, rfl⟩
  rw [← hu] at Ic ⊢
  have tu : tn 0 u.heap := T.keep _ _ _ tb fun b _ o e => by rw [hu]; exact pushCells_keeps _ _ _ _ (Heap.get?_push_of_some _ e)
  have fpOk : ∀ {σ' : L2.St} {H' : Hp} {s' : Shared}, Inv (X.blk t Hb scope ce fp) [] σ' H' s' → (∀ b ∈ fp, H' b = none) → ∀ b ∈ fp, FpOk (X.blk t Hb scope ce fp) [] H' b := fun J n b hb =>
    ⟨n b hb, (J.ok.exf b hb).1, J.ok.exfs b hb, .inl hb, fun x c e => (J.ok.exf b hb).2 x c e, fun p hp => nomatch (show p ∈ ([] : List (Addr × Obj)) ++ [] from hp)⟩
  have walk : codeAny (model X.prog X.w) X.A (.compLoop (.ListComp elt [⟨tg, iter, [], 0⟩] scope pos) 0 (.ref it) (.ref L) ce) (compPost (model X.prog X.w) X.A X.xe none (EP X pins σ Q) (.ref L) t.heap.objs.size) u := by
    refine compLoop_any (fun n s' => ∃ i H', Inv (X.blk t Hb scope ce fp) [] (wipe σ (own.map (·.2))) H' s' ∧ tn i s'.heap ∧ (∀ b ∈ fp, H' b = none) ∧ W i n H') ?_ m0 ⟨0, Hb, Ic, tu, fun b hb => (fb b hb).1.1, by rw [hHb]; exact w0⟩
    rintro n v ⟨i, Hv, Iv, tv, nv, wv⟩
    rcases turn i n Hv wv with ⟨stop, qq⟩ | ⟨go, Nx, hNx, step⟩
    · refine thnF (T.done (X.blk t Hb scope ce fp) rfl rfl rfl calm i [] v _ Hv (fun _ _ => False) Iv (fpOk Iv nv) tv stop) fun r z ⟨hr, Iz⟩ => ?_
      subst hr
      have Iy : Inv X pins σ Hv z := It.call' (ch := fp) Iz.os Iz.base Iz.hok Iz.bare fun b hb => let f := (fb b hb).1; ⟨f.2.2.2.1, f.2.1, f.2.2.2.2.1, f.2.2.2.2.2⟩
      have nC : Hv t.heap.objs.size = none := by rw [← lce]; exact Iz.free
      obtain ⟨m, hn, _⟩ := Iz.loc
      refine ⟨m, by rw [← lce]; exact hn, fun hh sb => ?_⟩
      obtain ⟨f0, f1, f2, f3, f4, f5⟩ := It.fpOk (Nat.le_refl _) nC
      exact ⟨.ref L, Hv, Iy.turned (t' := z.toks) (fun b o hb e => (sb.2 b hb).trans e) f0 f1 f3 f4 f5, rfl, qq⟩
    · refine thnF (T.item (X.blk t Hb scope ce fp) rfl rfl rfl calm i [] v _ Hv (fun _ _ => False) Iv (fpOk Iv nv) tv go) fun r z ⟨y, hr, hz⟩ => ?_
      subst hr
      refine thnF hz fun _ a ⟨x, Hx, Ix, rx, yx, tx, nx⟩ => ?_
      refine thnF (pg.run _ a _ Hx x y _ (Ix.pinned (fpOk Ix nx) (T.obj _ _ tx)) rx (step x Hx yx)) fun _ b ⟨σb, Hb', Ib, hw, qb⟩ => ?_
      refine thnF ((pts_nil (X := X.blk t Hb scope ce fp)).run _ b σb Hb' _ Ib qb) fun bb c ⟨Hc, Ic', qc⟩ => ?_
      have fin : ∀ {s' : Shared} {H' : Hp}, Inv (X.blk t Hb scope ce fp) ([] ++ pinsAt fp a.heap) σb H' s' → Nx H' → ∃ m, m < n ∧ ∃ i H', Inv (X.blk t Hb scope ce fp) [] (wipe σ (own.map (·.2))) H' s' ∧ tn i s'.heap ∧ (∀ b ∈ fp, H' b = none) ∧ W i m H' := fun {s' H'} J nj => by
        obtain ⟨m', hm, w'⟩ := hNx H' nj
        have pin : ∀ b ∈ fp, ∀ o, a.heap.get? b = some o → s'.heap.get? b = some o ∧ H' b = none := fun b hb o e =>
          let z := J.pin (b, o) (List.mem_append_right _ (List.mem_append_right _ (mem_pinsAt hb e))); ⟨z.1, z.2.1⟩
        have hl : (wipe σ (own.map (·.2))).length = σb.length := by rw [← hw, wipe_length]
        exact ⟨m', hm, i + 1, H', (J.unpinned (pins := [])).weak hl fun j v e => by rw [← hw] at e; exact (wipe_some e).1, T.keep _ _ _ tx fun b hb o e => (pin b hb o e).1, fun b hb => let ⟨o, e, _⟩ := T.obj _ _ tx b hb; (pin b hb o e).2, w'⟩
      cases bb with
      | false => simp only [Bool.false_eq_true, if_false] at qc ⊢; exact fin Ic' qc
      | true =>
        simp only [if_true] at qc ⊢
        refine thnF (pe.run _ c σb Hc _ Ic' qc) fun zv d ⟨yv, Hd, Id, rd, acc, hD, hz', nd'⟩ => ?_
        exact app_ok (X := X.blk t Hb scope ce fp) Id hD hz' rd fun e Ie => fin Ie nd'
  exact codeAny_compStart_list walk (T.self X.A 0 _ _ _ tu walk)
end
end VI

set_option Elab.async false
set_option linter.all false
set_option autoImplicit false
set_option maxRecDepth 100000
set_option maxHeartbeats 4000000
/-! W10: a lambda that was made is called later, from within other defs. -/
namespace VI
open PySem PySem.Spec PyProof.Rows L2 LamX
variable {K : PySem.W.Frag} {F H F' H' F1 H1 F2 H2 : Hp} {ρ ρ' : EnvD} {σ σ' : L2.St}
/-- steps of an inner frame, seen from an outer one -/
theorem un_step {fs fs' : List Addr} {h h1 h2 : Heap} (a : Un fs [] H H1 h h1) (b : Un fs' [] H1 H2 h1 h2) (sub : ∀ x ∈ fs, x ∈ fs') (new : ∀ x ∈ fs', x ∈ fs ∨ h.objs.size ≤ x) : Un fs [] H H2 h h2 where
  keep := fun x o e n hx q => by
    have nx : x ∉ fs' := fun z => (new x z).elim hx fun y => absurd (Heap.lt_size e) (Nat.not_lt.mpr y)
    exact b.keep x o (a.keep x o e n hx q) (a.free x o e n q) nx q
  slot := fun x o e n hx q => by
    obtain ⟨sl, e1⟩ := a.slot x o e n hx q
    obtain ⟨sl2, e2⟩ := b.slot x _ e1 (a.free x o e n q) (sub x hx) q
    exact ⟨sl2, e2⟩
  free := fun x o e n q => by
    obtain ⟨o', e1⟩ := a.there x o e q
    exact b.free x o' e1 (a.free x o e n q) q
  there := fun x o e q => by
    obtain ⟨o', e1⟩ := a.there x o e q
    exact b.there x o' e1 q
  tups := fun x xs e => b.tups x xs (a.tups x xs e)
  frzs := fun x o u e => b.frzs x o u (a.frzs x o u e)
  tbls := fun x ps e => by
    obtain ⟨m, e1⟩ := a.tbls x ps e
    obtain ⟨m2, e2⟩ := b.tbls x _ e1
    exact ⟨m ++ m2, by rw [e2, Array.append_assoc]⟩
/-- what is wanted of a call: it comes back, or it raises -/
def Wants (K : PySem.W.Frag) (F H1 : Hp) (Q : VK) (E : XK) : Option (Addr × D) → Prop
  | none => ∀ F' H' v, Kp F H1 F' H' → Q v H'
  | some (C, d) => ∀ F' H' dx v, Kp F H1 F' H' → H1 dx = none → Rep K F' d v → H' dx = some (.xd [(("value" : Str), v)]) → E (.ref C) (some dx) H'
/-- f, called without arguments in any later state, does so -/
def ClosRun (P : Program) (w : World) (K : PySem.W.Frag) (mg : Str → Option Value) (base : Heap) (k : Nat) (fs : List Addr) (s : Shared) (H F : Hp) (f : Addr) (o : Option (Addr × D)) : Prop :=
  ∀ (A : Around) (below : List Env) (s1 : Shared) (H1 : Hp) (Q : VK) (E : XK), Room k A → A.guards = some [] → Env0 P w K mg base A below s1 H1 → Un fs [] H H1 s.heap s1.heap → Same F H1 → Wants K F H1 Q E o →
    codeAny (model P w) A (.call (.ref f) ⟨[], []⟩) (CR (L2.CX P w) below P w H1 s1 Q E) s1
/-- later, it still does so -/
theorem ClosRun.later {P : Program} {w : World} {mg : Str → Option Value} {base : Heap} {k : Nat} {fs fs' : List Addr} {s s' : Shared} {f : Addr} {o : Option (Addr × D)} (h : ClosRun P w K mg base k fs s H F f o) (u : Un fs [] H H' s.heap s'.heap) (sub : ∀ x ∈ fs, x ∈ fs') (new : ∀ x ∈ fs', x ∈ fs ∨ s.heap.objs.size ≤ x) :
    ClosRun P w K mg base k fs' s' H' F f o := fun A below s1 H1 Q E r g e0 u1 sm wt => h A below s1 H1 Q E r g e0 (un_step u u1 sub new) sm wt
section
variable {X : Cx} {pins : List (Addr × Obj)} {s : Shared} {params : Arguments} {body : Expr} {scope : Scope} {f : Addr} {n : Nat} {o : Option (Addr × D)}
theorem clos_run (I : Inv X pins σ H s) (L : LamS X.env.scope scope) (hc : IsClo F f (X.env.qual ++ "<lambda>") params body scope (cloFrom X.env.cells scope.names []))
    (hbind : ∀ (pm cv ctv : Value), bindArgs (PySem.W.kla_fn "<lambda>" (X.env.qual ++ "<lambda>") params body scope (cloFrom X.env.cells scope.names []) pm cv ctv) ⟨[], []⟩ = pure [])
    (hpe : ∀ (A : Around) (below : List Env) (s1 : Shared) (H1 : Hp) (E : XK) (c' : Addr), Room n (A.deeper (lamEnv X scope s1.heap.objs.size f c')) → A.guards = some [] → Same F H1 → ∃ t, PE (lamCx X A below s1 H1 E scope f c') body t ∧ ∀ Q, Wants X.K F H1 Q E o → t σ H1 Q) :
    ClosRun X.prog X.w X.K X.mg X.base (n + 1) (frs X.stack) s H F f o := by
  intro A below s1 H1 Q E hr gd e0 un sm wt
  obtain ⟨c', h1, h2⟩ := hc.mono sm
  have x1 : ObjOk X.prog X.w H1 s1.heap f (CloO (X.env.qual ++ "<lambda>") params body scope (cloFrom X.env.cells scope.names []) c' f) := e0.hok f _ h1
  obtain ⟨⟨pm, ctv, of1⟩, _, _⟩ := x1
  have x2 : ObjOk X.prog X.w H1 s1.heap c' (CodeO c' (X.env.qual ++ "<lambda>")) := e0.hok c' _ h2
  obtain ⟨⟨oc, vs, t, hoc, hdc, hvc⟩, _, _⟩ := x2
  have nol : s1.heap.NoLimit := e0.mod.nolimit.keeps fun b u z => (e0.bs b u z).1
  refine PySem.W.kla_callFunE hr.depth of1 rfl L.co L.gen rfl ⟨c', oc, vs, t, rfl, hoc, hdc, hvc⟩ ?_
  rw [hbind]
  refine wpAny_pure (wpAny_newFunctionEnv (fun y hy => (L.own y hy).2) (fun y hy => absurd hy (by simp)) (fun hh hns hsb => ⟨nol.fresh _ hsb, ?_⟩) L.kind)
  show codeAny _ _ (.expr body (lamEnv X scope s1.heap.objs.size f c')) _ _
  have kp : ∀ b u, s1.heap.get? b = some u → hh.get? b = some u := fun b u e => hsb.extBut b u (Nat.ne_of_lt (Heap.lt_size e)) (Heap.get?_push_of_some _ e)
  have J : Inv (lamCx X A below s1 H1 E scope f c') [] σ H1 { s1 with heap := hh, toks := s1.toks + ([] : List (Str × Value)).length } := lam_start2 I L e0 hr.hd un hns kp
  obtain ⟨tb, hb, ht⟩ := hpe A below s1 H1 E c' (hr.deeper _) gd sm
  refine PySem.W.kla_codeExpr (wpAny_mono (hb.run [] _ _ H1 Q J (ht Q wt)) (fun v z hq => ?_) fun e z hq => hq)
  obtain ⟨w', Hz, Jz, rv, q⟩ := hq
  exact ⟨w', Hz, Jz.os, Jz.bare, Jz.base, Jz.hok, rv, q⟩
end
/-- the frozen slots -/
def froz (ρ : EnvD) : EnvD := ρ.map fun x => match x with | some (d, false) => some (d, false) | _ => none
theorem froz_at {i : Nat} {x : D × Bool} (h : (froz ρ)[i]? = some (some x)) : x.2 = false ∧ ρ[i]? = some (some x) := by
  unfold froz at h
  rw [List.getElem?_map] at h
  obtain ⟨y, h1, h2⟩ := Option.map_eq_some_iff.mp h
  match y, h2 with
  | some (d, false), h2 => cases h2; exact ⟨rfl, h1⟩
theorem ERel.froz (e : ERel K F H ρ σ) (ff : Same F F') : ERel K F' H' (froz ρ) σ :=
  ⟨by unfold VI.froz; rw [List.length_map]; exact e.len, fun i d h => let ⟨v, h1, h2⟩ := e.frz i d (froz_at h).2; ⟨v, h1, h2.mono ff⟩, fun i d h => (by cases (froz_at h).1), fun i j d e a h => (by cases (froz_at h).1)⟩
theorem noOwnF {σ : L2.St} : ∀ b, ¬ OwnAt (froz ρ) σ b := fun b ⟨i, d, h1, _⟩ => by cases (froz_at h1).1
section
variable {X : Cx} {fs : List FD} {gls : List Str} {G : List D} {n : Nat} {scope : Scope} {f c' : Addr} {A : Around} {below : List Env} {s1 : Shared} {E : XK}
/-- a lambda's context knows the defs -/
theorem wd_lam (M : Mw X.K X.mg fs gls G) (hok : fs.all (FD.ok (tbOf fs gls)) = true) (nd : X.N.Nodup) (hr : Room n (A.deeper (lamEnv X scope s1.heap.objs.size f c'))) (gd : A.guards = some []) :
    Wd (lamCx X A below s1 H1 E scope f c') (tbOf fs gls) X.N ⟨G, callI G (fs.map (·.df)) n⟩ := by
  refine ⟨rfl, rfl, nd, hr.units, room2 hr, gd, fun g id ps e => ?_, fun k id e => ?_, fun id hid => M.blt id hid⟩
  · have e : (fs.map fun F => (F.id, F.ps))[g]? = some (id, ps) := e
    rw [List.getElem?_map] at e
    obtain ⟨B, hB, eB⟩ := Option.map_eq_some_iff.mp e
    cases eB
    obtain ⟨fb, fdb, DB, b1, b2, b3⟩ := M.fns B (List.mem_of_getElem? hB)
    exact ⟨n, hr, ⟨fb, fdb, fn_ok M hok n g B hB fb fdb DB, gd, DB.mgf, DB.fn.kp, b1, b2, b3⟩⟩
  · obtain ⟨d, hd, v, u, g1, g2, g3⟩ := M.gls k id e
    exact ⟨d, v, u, hd, g1, g2, g3⟩
theorem takes_lam {X : Cx} {A : Around} {below : List Env} {s1 : Shared} {H1 : Hp} {E : XK} {scope : Scope} {f c' : Addr} : Takes (lamCx X A below s1 H1 E scope f c') (fun cls d _ H => E cls d H) := takes_of rfl rfl rfl rfl
variable {pins : List (Addr × Obj)} {s : Shared} {params : Arguments} {body : Expr} {g : Nat} {el : VI.E}
/-- lambda: f(..), which comes back -/
theorem clos_ok (M : Mw X.K X.mg fs gls G) (hok : fs.all (FD.ok (tbOf fs gls)) = true) (nd : X.N.Nodup) (I : Inv X pins σ H s) (L : LamS X.env.scope scope) (hc : IsClo F f (X.env.qual ++ "<lambda>") params body scope (cloFrom X.env.cells scope.names []))
    (hbind : ∀ (pm cv ctv : Value), bindArgs (PySem.W.kla_fn "<lambda>" (X.env.qual ++ "<lambda>") params body scope (cloFrom X.env.cells scope.names []) pm cv ctv) ⟨[], []⟩ = pure [])
    {e : VI.E} (m : mtE (tbOf fs gls) X.N e scope body = true) (er : ERel X.K F H ρ σ) (run : ∃ r, ev ⟨G, callI G (fs.map (·.df)) n⟩ e (froz ρ) = .ok r) : ClosRun X.prog X.w X.K X.mg X.base (n + 1) (frs X.stack) s H F f none := by
  obtain ⟨r, hr⟩ := run
  refine clos_run (o := none) I L hc hbind fun A below s1 H1 E c' rm gd sm => ⟨_, (snd_e e (wd_lam M hok nd rm gd) rfl m).1, fun Q wt => ?_⟩
  refine ⟨F, froz ρ, sm, er.froz (Same.refl F), ?_⟩
  rw [hr]
  intro F2 H2 v se _
  exact wt F2 H2 v (Kp.of se.st noOwnF)
/-- lambda: f(..), which raises -/
theorem clos_ex {cs : Nat → Addr} {z : Nat × D} {B : FD} {sem : List D → R (Nat × D)} {ds : List D} (M : Mw X.K X.mg fs gls G) (hok : fs.all (FD.ok (tbOf fs gls)) = true) (nd : X.N.Nodup) (I : Inv X pins σ H s) (L : LamS X.env.scope scope) (hc : IsClo F f (X.env.qual ++ "<lambda>") params body scope (cloFrom X.env.cells scope.names []))
    (hbind : ∀ (pm cv ctv : Value), bindArgs (PySem.W.kla_fn "<lambda>" (X.env.qual ++ "<lambda>") params body scope (cloFrom X.env.cells scope.names []) pm cv ctv) ⟨[], []⟩ = pure [])
    (m : mtE (tbOf fs gls) X.N (.call g el) scope body = true) (ne : el ≠ .nil) (hB : fs[g]? = some B) (hR : Raiser X.prog X.w X.K X.mg X.base fs cs n g sem) (er : ERel X.K F H ρ σ)
    (run : ∃ os ρ', evA ⟨G, callI G (fs.map (·.df)) n⟩ el (froz ρ) = .ok (os, ρ') ∧ frzO os = .ok ds ∧ ds.length = B.ps.length ∧ sem ds = .ok z) : ClosRun X.prog X.w X.K X.mg X.base (n + 1) (frs X.stack) s H F f (some (cs z.1, z.2)) := by
  obtain ⟨os, ρ2, r1, r2, r3, r4⟩ := run
  obtain ⟨fb, fdb, DB, b1, b2, b3⟩ := M.fns B (List.mem_of_getElem? hB)
  have hT : (tbOf fs gls).fns[g]? = some (B.id, B.ps) := by
    show (fs.map fun F => (F.id, F.ps))[g]? = _
    rw [List.getElem?_map, hB]
    rfl
  refine clos_run (o := some (cs z.1, z.2)) I L hc hbind fun A below s1 H1 E c' rm gd sm => ⟨_, pe_callX (wd_lam M hok nd rm gd) rfl m ne hT (hR B fb fdb hB DB) rm DB.mgf DB.fn.kp b1 (fun σ => passAt takes_lam σ), fun Q wt => ?_⟩
  refine ⟨F, froz ρ, sm, er.froz (Same.refl F), ?_⟩
  rw [r1]
  intro F2 H2 vs se ors nws tds s' pins' I'
  have rp := frzO_ok ors r2
  have kp := Kp.of se.st noOwnF
  refine ⟨by rw [← rp.length]; exact r3, F2, ds, se.st.fh, rp, ?_⟩
  rw [r4]
  intro F3 H3 dx v k2 nx rz hx
  exact wt F3 H3 dx v (kp.trans k2) (none_of kp.gr nx) rz hx
end
end VI

set_option Elab.async false
set_option linter.all false
set_option autoImplicit false
set_option maxRecDepth 100000
set_option maxHeartbeats 4000000
/-! W11: x(), x a lambda that was handed in, within a try. -/
namespace VI
open PySem PySem.Spec PyProof.Rows L2 LamX
section
variable {Z : Cx} {W : WX} {i k : Nat} {x : Str} {p1 p2 : Pos} {F : Hp} {f : Addr} {o : Option (Addr × D)} {q : Str} {params : Arguments} {body : Expr} {scope : Scope} {cl : List (Str × Addr)}
theorem pe_clo (tk : Takes Z W) (hi : Z.N[i]? = some x) (hv : Vis Z.env.scope x) (hd : (x == ("__debug__" : Str)) = false) (hcd : (x == ("__classdict__" : Str)) = false) (hex : Z.ex = []) (hs : Z.stack = Z.env :: Z.outer) (hf : Z.env.frame = some Z.env.locals) (hr : Room k Z.A) (gd : Z.A.guards = some [])
    (hc : IsClo F f q params body scope cl) (C : ClosRun Z.prog Z.w Z.K Z.mg Z.base k Z.fs Z.s_0 Z.H_0 F f o) :
    PE Z (.Call (.Name x p1) [] [] p2) (fun σ H Q => σ[i]? = some (some (.ref f)) ∧ Same F H ∧ Wants Z.K F H Q (WE W σ) o) := by
  refine ⟨fun pins s σ H Q I ⟨hσ, sm, wt⟩ => ?_⟩
  refine wpAny_Call_Name_kw (thn ((pe_var (pos := p1) (i := i) hi hv hd hcd).run pins s σ H (fun v H1 => v = .ref f ∧ H1 = H) I ⟨.ref f, hσ, rfl, rfl⟩) fun u s1 ⟨v, H1, I1, r1, e1, e2⟩ => ?_)
  subst e1 e2
  obtain rfl : u = Value.ref f := r1
  obtain ⟨c', h1, h2⟩ := hc.mono sm
  have x1 : ObjOk Z.prog Z.w H1 s1.heap f (CloO q params body scope cl c' f) := I1.hok f _ h1
  obtain ⟨⟨pm, ctv, of1⟩, _, _⟩ := x1
  refine PySem.W.callWith_F0 ⟨_, _, _, _, of1⟩ ?_
  have un : Un Z.fs [] Z.H_0 H1 Z.s_0.heap s1.heap := by have := I1.base; rw [hex] at this; exact this
  have Cl := C.later (fs' := frs Z.stack) un (fun b hb => by
    obtain ⟨e, he, q⟩ := List.mem_filterMap.mp hb
    exact List.mem_filterMap.mpr ⟨e, by rw [hs]; exact List.mem_cons_of_mem _ he, q⟩) fun b hb => by
    obtain ⟨e, he, q⟩ := List.mem_filterMap.mp hb
    rw [hs] at he
    rcases List.mem_cons.mp he with rfl | he
    · rw [hf] at q
      cases q
      exact .inr I1.ok.above
    · exact .inl (List.mem_filterMap.mpr ⟨e, he, q⟩)
  refine wpAny_call (codeAny_mono (Cl Z.A Z.stack s1 H1 Q (WE W σ) hr gd I1.env0 Un.refl sm wt) fun r s2 hq => ?_)
  cases r with
  | error e => exact tk _ _ (XE.of_call I1 (fun _ _ _ h => h) hq)
  | ok fl => cases fl <;> first | exact I1.after hq | exact False.elim hq
end
/-- what a def that takes a lambda promises: whether it came back, or the error -/
def spCa (P : Program) (w : World) (K : PySem.W.Frag) (mg : Str → Option Value) (base : Heap) (k : Nat) (CR : Addr) : SpS := fun below s xs H Q _ => ∃ F f o q params body scope cl, xs = [.ref f] ∧ Same F H ∧ IsClo F f q params body scope cl ∧ ClosRun P w K mg base k (frs below) s H F f o ∧
  match o with
  | none => ∀ F' H', Kp F H F' H' → Q .non H'
  | some (C, d) => PySem.W.exmOne K (.ref C) (.ref CR) = some true ∧ ∀ F' H' a v, Kp F H F' H' → Rep K F' d v → Caught F' a C v → Q (.ref a) H'
theorem Caught.mono {H H' : Hp} {a C : Addr} {v : V} (h : Caught H a C v) (s : Same H H') : Caught H' a C v := let ⟨dd, h1, h2⟩ := h; ⟨dd, s _ _ h1, s _ _ h2⟩
/-- an error that was caught joins what stands for good -/
theorem kp_caught {F H F' H' : Hp} {a C dx : Addr} {v : V} (kp : Kp F H F' H') (nx : H dx = none) (hx : H' dx = some (.xd [(("value" : Str), v)])) (na : H' a = none) : Kp F H (upd (upd F' dx (.xd [(("value" : Str), v)])) a (ExV (.ref C) (some dx) a)) (upd H' a (ExV (.ref C) (some dx) a)) ∧ Same F' (upd (upd F' dx (.xd [(("value" : Str), v)])) a (ExV (.ref C) (some dx) a)) ∧ Caught (upd (upd F' dx (.xd [(("value" : Str), v)])) a (ExV (.ref C) (some dx) a)) a C v := by
  have da : dx ≠ a := ne_of_none hx na
  have nHa : H a = none := none_of kp.gr na
  have nFa : F' a = none := kp.fh.free na
  have s1 : Same F' (upd (upd F' dx (.xd [(("value" : Str), v)])) a (ExV (.ref C) (some dx) a)) := fun b o e => by
    rw [upd_ne (ne_of_none e nFa)]
    by_cases hb : b = dx
    · have := kp.fh b o e
      rw [hb, hx] at this
      rw [hb, upd_same]; exact this
    · rw [upd_ne hb]; exact e
  refine ⟨⟨kp.ff.trans s1, fun b o e => ?_, fun b o h bx n => ?_, fun b o h => ?_⟩, s1, dx, upd_same, by rw [upd_ne da, upd_same]⟩
  · by_cases ha : b = a
    · rw [ha, upd_same] at e ⊢; exact e
    · rw [upd_ne ha] at e ⊢
      by_cases hb : b = dx
      · rw [hb, upd_same] at e
        rw [hb, hx]; exact e
      · rw [upd_ne hb] at e
        exact kp.fh b o e
  · obtain ⟨h1, n1⟩ := kp.fr b o h bx n
    exact ⟨by rw [upd_ne (ne_of_none h1 na)]; exact h1, by rw [upd_ne (ne_of_none h1 na), upd_ne (ne_of_none h nx)]; exact n1⟩
  · obtain ⟨o', h1⟩ := kp.gr b o h
    exact ⟨o', by rw [upd_ne (ne_of_none h1 na)]; exact h1⟩
end VI

set_option Elab.async false
set_option linter.all false
set_option autoImplicit false
set_option maxRecDepth 100000
set_option maxHeartbeats 8000000
namespace VI.L
open PySem PySem.Spec PyProof.Rows L2 VI
def top (i : Nat) : Stmt := PySem.Challenge.pw_astherulessay_k04_what_trees_refuse.main.body.getD i (.Pass ⟨0, 0, 0, 0⟩)
def f15_0 : S := (.cons (.ext 1 (.call 13 (.cons (.var 2) .nil))) .nil)
def c16_0 : E := (.var 1)
def c18_0 : E := (.tup (.cons (.var 3) (.cons (.bl true) .nil)))
def f18_1 : S := (.cons (.updd 1 (.comp (.nm 3) c18_0 (.itv (.call 15 (.cons (.var 2) .nil))) (.call 3 (.cons (.var 3) .nil)))) .nil)
def c20_0 : E := (.idx (.idx (.var 1) (.int 0)) (.int 1))
def c23_0 : E := (.call 22 (.cons (.var 0) (.cons (.var 2) .nil)))
def c25_0 : E := (.call 24 (.cons (.var 0) (.cons (.var 2) .nil)))
def c26_0 : E := (.call 24 (.cons (.var 0) (.cons (.var 2) .nil)))
def c27_0 : E := (.call 25 (.cons (.var 0) (.cons (.var 2) .nil)))
def c28_0 : E := (.and (.cons (.isi (.var 2) .tup) (.cons (.cmp .eq (.bc .len (.cons (.var 2) .nil)) (.int 2)) .nil)))
def c28_1 : E := (.and (.cons (.call 4 (.cons (.idx (.var 2) (.int 0)) .nil)) (.cons (.call 3 (.cons (.idx (.var 2) (.int 1)) .nil)) .nil)))
def c28_2 : E := (.idx (.var 2) (.int 0))
def c30_0 : E := (.cmp .eq (.call 16 (.cons (.var 1) .nil)) (.lst .nil))
def c31_0 : E := (.idx (.var 2) (.int 2))
def c32_0 : E := (.idx (.var 2) (.neg 1))
def c33_0 : E := (.idx (.var 2) (.int 2))
def c34_0 : E := (.tup (.cons (.idx (.var 1) (.int 0)) (.cons (.bin .sub (.bc .len (.cons (.var 1) .nil)) (.int 1)) .nil)))
def f35_0 : S := (.cons (.ext 2 (.call 31 (.cons (.var 1) .nil))) (.cons (.ext 3 (.call 32 (.cons (.var 1) .nil))) (.cons (.ext 4 (.call 33 (.cons (.var 1) .nil))) .nil)))
def c36_0 : E := (.and (.cons (.isi (.var 1) .tup) (.cons (.cmp .eq (.bc .len (.cons (.var 1) .nil)) (.int 2)) .nil)))
def c36_1 : E := (.and (.cons (.call 3 (.cons (.idx (.var 1) (.int 0)) .nil)) (.cons (.call 3 (.cons (.idx (.var 1) (.int 1)) .nil)) .nil)))
def c36_2 : E := (.cmp .lt (.idx (.var 2) (.int 0)) (.idx (.var 3) (.int 0)))
def c37_0 : E := (.dget (.var 0) (.var 2) (.var 2))
def c38_0 : E := (.call 37 (.cons (.var 1) (.cons (.var 7) .nil)))
def c38_1 : E := (.tup (.consS (.slc (.var 6) .nil (.int 2)) (.consS (.comp (.nm 7) c38_0 (.itv (.slc (.var 6) (.int 2) .nil)) .nil) .nil)))
def c38_2 : E := (.call 37 (.cons (.var 1) (.cons (.var 7) .nil)))
def f38_3 : S := (.cons (.asg (.nm 5) (.comp (.nm 6) c38_1 (.itv (.var 4)) .nil)) (.cons (.app 2 (.tup (.cons (.tup (.cons (.idx (.var 3) (.int 0)) (.consS (.comp (.nm 7) c38_2 (.itv (.slc (.var 3) (.int 1) .nil)) .nil) .nil))) (.cons (.bc .tuple (.cons (.var 5) .nil)) .nil)))) .nil))
def c40_0 : E := (.bc .len (.cons (.var 2) .nil))
def b0 : S := (.cons (.ret (.and (.cons (.isi (.var 0) .int) (.cons (.not (.isi (.var 0) .bool)) .nil)))) .nil)
def b1 : S := (.cons (.ret (.and (.cons (.call 0 (.cons (.var 0) .nil)) (.cons (.chain .le .le (.var 1) (.var 0) (.var 2)) .nil)))) .nil)
def b2 : S := (.cons (.ite (.or (.cons (.not (.isi (.var 0) .str)) (.cons (.not (.chain .le .le (.int 1) (.bc .len (.cons (.var 0) .nil)) (.glb 0))) (.cons (.cmp .nin (.idx (.var 0) (.int 0)) (.var 1)) .nil)))) (.cons (.ret (.bl false)) .nil) .nil) (.cons (.ret (.bc .all (.cons (.comp (.nm 2) (.cmp .isin (.var 2) (.bin .add (.glb 1) (.glb 2))) (.itv (.slc (.var 0) (.int 1) .nil)) .nil) .nil))) .nil))
def b3 : S := (.cons (.ret (.and (.cons (.call 2 (.cons (.var 0) (.cons (.glb 1) .nil))) (.cons (.cmp .nin (.var 0) (.glb 3)) .nil)))) .nil)
def b4 : S := (.cons (.ret (.call 2 (.cons (.var 0) (.cons (.glb 4) .nil)))) .nil)
def b5 : S := (.cons (.ret (.or (.cons (.call 3 (.cons (.var 0) .nil)) (.cons (.call 4 (.cons (.var 0) .nil)) .nil)))) .nil)
def b6 : S := (.cons (.ite (.or (.cons (.not (.isi (.var 0) .tup)) (.cons (.not (.chain .le .le (.int 1) (.bc .len (.cons (.var 0) .nil)) (.bin .add (.int 1) (.glb 5)))) (.cons (.not (.call 3 (.cons (.idx (.var 0) (.int 0)) .nil))) .nil)))) (.cons (.ret (.bl false)) .nil) .nil) (.cons (.ret (.bc .all (.cons (.comp (.nm 1) (.call 5 (.cons (.var 1) .nil)) (.itv (.slc (.var 0) (.int 1) .nil)) .nil) .nil))) .nil))
def b7 : S := (.cons (.ite (.or (.cons (.not (.isi (.var 0) .tup)) (.cons (.cmp .nin (.bc .len (.cons (.var 0) .nil)) (.tup (.cons (.glb 7) (.cons (.glb 6) .nil)))) (.cons (.not (.isi (.idx (.var 0) (.int 0)) .str)) .nil)))) (.cons (.ret (.bl false)) .nil) .nil) (.cons (.ite (.not (.isi (.idx (.var 0) (.int 1)) .bool)) (.cons (.ret (.bl false)) .nil) .nil) (.cons (.ite (.cmp .eq (.bc .len (.cons (.var 0) .nil)) (.glb 7)) (.cons (.ret (.or (.cons (.and (.cons (.cmp .isin (.idx (.var 0) (.int 0)) (.tup (.cons (.glb 10) (.cons (.glb 9) .nil)))) (.cons (.call 6 (.cons (.idx (.var 0) (.int 2)) .nil)) .nil))) (.cons (.and (.cons (.cmp .eq (.idx (.var 0) (.int 0)) (.glb 8)) (.cons (.call 5 (.cons (.idx (.var 0) (.int 2)) .nil)) .nil))) .nil)))) .nil) .nil) (.cons (.ite (.cmp .eq (.idx (.var 0) (.int 0)) (.glb 11)) (.cons (.ret (.and (.cons (.call 5 (.cons (.idx (.var 0) (.int 2)) .nil)) (.cons (.call 6 (.cons (.idx (.var 0) (.neg 1)) .nil)) .nil)))) .nil) .nil) (.cons (.ret (.and (.cons (.cmp .eq (.idx (.var 0) (.int 0)) (.glb 12)) (.cons (.call 5 (.cons (.idx (.var 0) (.int 2)) .nil)) (.cons (.call 5 (.cons (.idx (.var 0) (.neg 1)) .nil)) .nil))))) .nil)))))
def b8 : S := (.cons (.ite (.or (.cons (.not (.isi (.var 0) .tup)) (.cons (.not (.chain .le .le (.int 1) (.bc .len (.cons (.var 0) .nil)) (.glb 7))) (.cons (.not (.isi (.idx (.var 0) (.int 0)) .str)) .nil)))) (.cons (.ret (.bl false)) .nil) .nil) (.cons (.ite (.cmp .eq (.bc .len (.cons (.var 0) .nil)) (.int 1)) (.cons (.ret (.cmp .eq (.idx (.var 0) (.int 0)) (.glb 13))) .nil) .nil) (.cons (.ite (.cmp .eq (.bc .len (.cons (.var 0) .nil)) (.int 2)) (.cons (.ret (.or (.cons (.and (.cons (.cmp .isin (.idx (.var 0) (.int 0)) (.tup (.cons (.glb 15) (.cons (.glb 14) (.cons (.glb 9) .nil))))) (.cons (.call 6 (.cons (.idx (.var 0) (.int 1)) .nil)) .nil))) (.cons (.and (.cons (.cmp .eq (.idx (.var 0) (.int 0)) (.glb 8)) (.cons (.call 3 (.cons (.idx (.var 0) (.int 1)) .nil)) .nil))) .nil)))) .nil) .nil) (.cons (.ite (.cmp .eq (.idx (.var 0) (.int 0)) (.glb 16)) (.cons (.ret (.and (.cons (.call 5 (.cons (.idx (.var 0) (.int 1)) .nil)) (.cons (.call 6 (.cons (.idx (.var 0) (.int 2)) .nil)) .nil)))) .nil) .nil) (.cons (.ret (.and (.cons (.cmp .eq (.idx (.var 0) (.int 0)) (.glb 18)) (.cons (.call 5 (.cons (.idx (.var 0) (.int 1)) .nil)) (.cons (.call 1 (.cons (.idx (.var 0) (.int 2)) (.cons (.int 0) (.cons (.glb 17) .nil)))) .nil))))) .nil)))))
def b9 : S := (.cons (.ite (.or (.cons (.not (.isi (.var 0) .tup)) (.cons (.cmp .ne (.bc .len (.cons (.var 0) .nil)) (.int 2)) (.cons (.not (.call 8 (.cons (.idx (.var 0) (.int 0)) .nil))) .nil)))) (.cons (.ret (.bl false)) .nil) .nil) (.cons (.ret (.and (.cons (.isi (.idx (.var 0) (.int 1)) .tup) (.cons (.cmp .le (.bc .len (.cons (.idx (.var 0) (.int 1)) .nil)) (.glb 19)) (.cons (.bc .all (.cons (.comp (.nm 1) (.call 7 (.cons (.var 1) .nil)) (.itv (.idx (.var 0) (.int 1))) .nil) .nil)) .nil))))) .nil))
def b10 : S := (.cons (.ite (.or (.cons (.not (.isi (.var 0) .tup)) (.cons (.not (.chain .le .le (.int 1) (.bc .len (.cons (.var 0) .nil)) (.glb 20))) .nil))) (.cons (.ret (.bl false)) .nil) .nil) (.cons (.ret (.bc .all (.cons (.comp (.nm 1) (.call 9 (.cons (.var 1) .nil)) (.itv (.var 0)) .nil) .nil))) .nil))
def b11 : S := (.cons (.ite (.not (.call 10 (.cons (.var 0) .nil))) (.cons .raise .nil) .nil) .nil)
def b12 : S := (.cons (.ite (.not (.call 9 (.cons (.var 0) .nil))) (.cons .raise .nil) .nil) .nil)
def b13 : S := (.cons (.ite (.cmp .isin (.idx (.var 0) (.int 0)) (.tup (.cons (.glb 10) (.cons (.glb 9) .nil)))) (.cons (.ret (.bc .list (.cons (.slc (.idx (.var 0) (.int 2)) (.int 1) .nil) .nil))) .nil) .nil) (.cons (.ite (.cmp .eq (.idx (.var 0) (.int 0)) (.glb 11)) (.cons (.ret (.lst (.cons (.idx (.var 0) (.int 2)) (.consS (.slc (.idx (.var 0) (.neg 1)) (.int 1) .nil) .nil)))) .nil) .nil) (.cons (.ret (.bc .list (.cons (.slc (.var 0) (.int 2) .nil) .nil))) .nil)))
def b14 : S := (.cons (.ite (.cmp .isin (.idx (.var 0) (.int 0)) (.tup (.cons (.glb 15) (.cons (.glb 14) (.cons (.glb 9) .nil))))) (.cons (.ret (.bc .list (.cons (.slc (.idx (.var 0) (.int 1)) (.int 1) .nil) .nil))) .nil) .nil) (.cons (.ite (.cmp .eq (.idx (.var 0) (.int 0)) (.glb 16)) (.cons (.ret (.lst (.cons (.idx (.var 0) (.int 1)) (.consS (.slc (.idx (.var 0) (.int 2)) (.int 1) .nil) .nil)))) .nil) .nil) (.cons (.ret (.ite (.cmp .isin (.idx (.var 0) (.int 0)) (.tup (.cons (.glb 8) (.cons (.glb 18) .nil)))) (.lst (.cons (.idx (.var 0) (.int 1)) .nil)) (.lst .nil))) .nil)))
def b15 : S := (.cons (.asg (.nm 1) (.call 14 (.cons (.idx (.var 0) (.int 0)) .nil))) (.cons (.for (.nm 2) (.itv (.idx (.var 0) (.int 1))) f15_0) (.cons (.ret (.var 1)) .nil)))
def b16 : S := (.cons (.ret (.srts (.comp (.nm 1) c16_0 (.itv (.call 15 (.cons (.var 0) .nil))) (.call 4 (.cons (.var 1) .nil))))) .nil)
def b17 : S := (.cons (.alone (.call 12 (.cons (.var 0) .nil))) (.cons (.ret (.bc .tuple (.cons (.call 16 (.cons (.var 0) .nil)) .nil))) .nil))
def b18 : S := (.cons (.asg (.nm 1) .dnew) (.cons (.for (.nm 2) (.itv (.var 0)) f18_1) (.cons (.ret (.srtd (.var 1))) .nil)))
def b19 : S := (.cons (.alone (.call 11 (.cons (.var 0) .nil))) (.cons (.ret (.bc .tuple (.cons (.call 18 (.cons (.var 0) .nil)) .nil))) .nil))
def b20 : S := (.cons (.ret (.comp (.nm 1) c20_0 (.itv (.var 0)) (.cmp .eq (.idx (.idx (.var 1) (.int 0)) (.int 0)) (.glb 8)))) .nil)
def b21 : S := (.cons (.alone (.call 11 (.cons (.var 0) .nil))) (.cons (.ret (.bc .tuple (.cons (.call 20 (.cons (.var 0) .nil)) .nil))) .nil))
def b22 : S := (.cons (.ret (.dget (.var 0) (.var 1) (.var 1))) .nil)
def b23 : S := (.cons (.ret (.tup (.cons (.idx (.var 1) (.int 0)) (.consS (.comp (.nm 2) c23_0 (.itv (.slc (.var 1) (.int 1) .nil)) .nil) .nil)))) .nil)
def b24 : S := (.cons (.ite (.isi (.var 1) .tup) (.cons (.ret (.call 23 (.cons (.var 0) (.cons (.var 1) .nil)))) .nil) .nil) (.cons (.ret (.ite (.isi (.var 1) .str) (.call 22 (.cons (.var 0) (.cons (.var 1) .nil))) (.var 1))) .nil))
def b25 : S := (.cons (.ret (.tup (.consS (.slc (.var 1) .nil (.int 2)) (.consS (.comp (.nm 2) c25_0 (.itv (.slc (.var 1) (.int 2) .nil)) .nil) .nil)))) .nil)
def b26 : S := (.cons (.ret (.tup (.cons (.idx (.var 1) (.int 0)) (.consS (.comp (.nm 2) c26_0 (.itv (.slc (.var 1) (.int 1) .nil)) .nil) .nil)))) .nil)
def b27 : S := (.cons (.ret (.tup (.cons (.call 26 (.cons (.var 0) (.cons (.idx (.var 1) (.int 0)) .nil))) (.cons (.bc .tuple (.cons (.comp (.nm 2) c27_0 (.itv (.idx (.var 1) (.int 1))) .nil) .nil)) .nil)))) .nil)
def b28 : S := (.cons (.ite (.or (.cons (.not (.isi (.var 1) .tup)) (.cons (.not (.bc .all (.cons (.comp (.nm 2) c28_0 (.itv (.var 1)) .nil) .nil))) .nil))) (.cons (.ret (.bl false)) .nil) .nil) (.cons (.ite (.not (.bc .all (.cons (.comp (.nm 2) c28_1 (.itv (.var 1)) .nil) .nil))) (.cons (.ret (.bl false)) .nil) .nil) (.cons (.ret (.cmp .eq (.comp (.nm 2) c28_2 (.itv (.var 1)) .nil) (.call 16 (.cons (.var 0) .nil)))) .nil)))
def b29 : S := (.cons (.alone (.call 12 (.cons (.var 0) .nil))) (.cons (.ite (.not (.call 28 (.cons (.var 0) (.cons (.var 1) .nil)))) (.cons .raise .nil) .nil) (.cons (.ret (.call 27 (.cons (.dictP (.var 1)) (.cons (.var 0) .nil)))) .nil)))
def b30 : S := (.cons (.alone (.call 11 (.cons (.var 0) .nil))) (.cons (.ret (.bc .all (.cons (.comp (.nm 1) c30_0 (.itv (.var 0)) .nil) .nil))) .nil))
def b31 : S := (.cons (.asg (.nm 1) (.ite (.cmp .isin (.idx (.idx (.var 0) (.int 0)) (.int 0)) (.tup (.cons (.glb 15) (.cons (.glb 14) .nil)))) (.lst (.cons (.idx (.idx (.var 0) (.int 0)) (.int 1)) .nil)) (.lst .nil))) (.cons (.ret (.bin .add (.var 1) (.comp (.nm 2) c31_0 (.itv (.idx (.var 0) (.int 1))) (.cmp .eq (.idx (.var 2) (.int 0)) (.glb 10))))) .nil))
def b32 : S := (.cons (.asg (.nm 1) (.ite (.cmp .eq (.idx (.idx (.var 0) (.int 0)) (.int 0)) (.glb 16)) (.lst (.cons (.idx (.idx (.var 0) (.int 0)) (.int 2)) .nil)) (.lst .nil))) (.cons (.ret (.bin .add (.var 1) (.comp (.nm 2) c32_0 (.itv (.idx (.var 0) (.int 1))) (.cmp .eq (.idx (.var 2) (.int 0)) (.glb 11))))) .nil))
def b33 : S := (.cons (.asg (.nm 1) (.ite (.cmp .eq (.idx (.idx (.var 0) (.int 0)) (.int 0)) (.glb 9)) (.lst (.cons (.idx (.idx (.var 0) (.int 0)) (.int 1)) .nil)) (.lst .nil))) (.cons (.ret (.bin .add (.var 1) (.comp (.nm 2) c33_0 (.itv (.idx (.var 0) (.int 1))) (.cmp .eq (.idx (.var 2) (.int 0)) (.glb 9))))) .nil))
def b34 : S := (.cons (.ret (.bc .tuple (.cons (.srts (.comp (.nm 1) c34_0 (.itv (.var 0)) .nil)) .nil))) .nil)
def b35 : S := (.cons (.alone (.call 11 (.cons (.var 0) .nil))) (.cons (.par3 2 3 4 (.lst .nil) (.lst .nil) (.lst .nil)) (.cons (.for (.nm 1) (.itv (.var 0)) f35_0) (.cons (.ret (.tup (.cons (.call 34 (.cons (.var 2) .nil)) (.cons (.call 34 (.cons (.var 3) .nil)) (.cons (.call 34 (.cons (.var 4) .nil)) .nil))))) .nil))))
def b36 : S := (.cons (.ite (.or (.cons (.not (.isi (.var 0) .tup)) (.cons (.not (.bc .all (.cons (.comp (.nm 1) c36_0 (.itv (.var 0)) .nil) .nil))) .nil))) (.cons (.ret (.bl false)) .nil) .nil) (.cons (.ite (.not (.bc .all (.cons (.comp (.nm 1) c36_1 (.itv (.var 0)) .nil) .nil))) (.cons (.ret (.bl false)) .nil) .nil) (.cons (.ret (.bc .all (.cons (.comp (.tp [2, 3]) c36_2 (.zip (.var 0) (.slc (.var 0) (.int 1) .nil)) .nil) .nil))) .nil)))
def b37 : S := (.cons (.ite (.isi (.var 1) .tup) (.cons (.ret (.bc .tuple (.cons (.comp (.nm 2) c37_0 (.itv (.var 1)) .nil) .nil))) .nil) .nil) (.cons (.ret (.ite (.isi (.var 1) .str) (.dget (.var 0) (.var 1) (.var 1)) (.var 1))) .nil))
def b38 : S := (.cons (.asg (.nm 2) (.lst .nil)) (.cons (.for (.tp [3, 4]) (.itv (.var 0)) f38_3) (.cons (.ret (.bc .tuple (.cons (.var 2) .nil))) .nil)))
def b39 : S := (.cons (.alone (.call 11 (.cons (.var 0) .nil))) (.cons (.ite (.not (.call 36 (.cons (.var 1) .nil))) (.cons .raise .nil) .nil) (.cons (.ret (.call 38 (.cons (.var 0) (.cons (.dictP (.var 1)) .nil)))) .nil)))
def b40 : S := (.cons (.alone (.call 11 (.cons (.var 0) .nil))) (.cons (.ret (.tup (.cons (.bc .len (.cons (.var 0) .nil)) (.cons (.bc .sum (.cons (.comp (.tp [1, 2]) c40_0 (.itv (.var 0)) .nil) .nil)) .nil)))) .nil))
def b41 : S := (.cons (.asg (.nm 2) (.ite (.cmp .lt (.var 1) (.bc .len (.cons (.var 0) .nil))) (.idx (.var 0) (.var 1)) (.bin .add (.bin .add (.bin .mod (.bc .int (.cons (.bc .sum (.cons (.slc (.var 0) .nil (.int 1)) .nil)) .nil)) (.int 1000003)) (.bin .mul (.int 4115) (.var 1))) (.int 10151)))) (.cons (.asg (.nm 3) (.bin .mul (.bin .mod (.bc .int (.cons (.bc .abs (.cons (.var 2) .nil)) .nil)) (.bin .pow (.bin .pow (.int 10) (.int 60)) (.int 5))) (.bc .int (.cons (.cmp .ge (.bc .abs (.cons (.var 2) .nil)) (.bin .pow (.int 10) (.int 18))) .nil)))) (.cons (.asg (.nm 4) (.bin .mod (.bc .int (.cons (.var 2) .nil)) (.int 2305843009213693951))) (.cons (.ret (.lst (.cons (.var 3) (.cons (.bin .mod (.bc .int (.cons (.bin .add (.bin .add (.bin .mul (.var 4) (.int 99429)) (.bin .mul (.bin .mul (.int 14839) (.var 1)) (.var 1))) (.int 3515)) .nil)) (.int 2305843009213693921)) (.cons (.int 0) .nil))))) .nil))))
def b42 : S := (.cons (.ite (.cmp .gt (.idx (.var 0) (.int 0)) (.int 0)) (.cons (.asg (.nm 4) (.bin .mod (.bc .int (.cons (.idx (.var 0) (.int 0)) .nil)) (.var 1))) (.cons (.seti 0 (.int 0) (.bin .fdiv (.idx (.var 0) (.int 0)) (.var 1))) (.cons (.ret (.var 4)) .nil))) .nil) (.cons (.seti 0 (.int 2) (.bin .add (.idx (.var 0) (.int 2)) (.int 1))) (.cons (.asg (.nm 2) (.idx (.lst (.cons (.int 2147483647) (.cons (.int 2147483629) (.cons (.int 2147483587) (.cons (.int 2147483579) .nil))))) (.bin .mod (.bc .int (.cons (.idx (.var 0) (.int 2)) .nil)) (.int 4)))) (.cons (.asg (.nm 3) (.bin .mod (.bc .int (.cons (.bin .pow (.bc .int (.cons (.bin .add (.bin .add (.idx (.var 0) (.int 1)) (.bin .mul (.bin .mul (.int 147289) (.idx (.var 0) (.int 2))) (.idx (.var 0) (.int 2)))) (.int 4215)) .nil)) (.int 3)) .nil)) (.var 2))) (.cons (.ret (.bin .mod (.bc .int (.cons (.bin .fdiv (.bin .mul (.var 3) (.bin .add (.bin .mod (.bc .int (.cons (.var 3) .nil)) (.int 10007)) (.bin .mul (.int 3417) (.idx (.var 0) (.int 2))))) (.int 307)) .nil)) (.var 1))) .nil)))))
def b43 : S := (.cons (.ret (.idx (.var 1) (.call 42 (.cons (.var 0) (.cons (.bc .len (.cons (.var 1) .nil)) .nil))))) .nil)
def b44 : S := (.cons (.ret (.bc .lrng (.cons (.bc .max2 (.cons (.int 1) (.cons (.bc .min2 (.cons (.var 1) (.cons (.bc .len (.cons (.var 0) .nil)) .nil))) .nil))) .nil))) .nil)
abbrev s0 : Stmt := top 7
def t0 : FD := ⟨"is_integer", ["value"], ["value"], s0, ⟨1, 1, [true], b0⟩⟩
abbrev s1 : Stmt := top 8
def t1 : FD := ⟨"is_between", ["value", "low", "high"], ["value", "low", "high"], s1, ⟨3, 3, [true, true, true], b1⟩⟩
abbrev s2 : Stmt := top 34
def t2 : FD := ⟨"is_word", ["value", "first"], ["value", "first", "sign"], s2, ⟨2, 3, [true, true], b2⟩⟩
abbrev s3 : Stmt := top 35
def t3 : FD := ⟨"is_name", ["value"], ["value"], s3, ⟨1, 1, [true], b3⟩⟩
abbrev s4 : Stmt := top 36
def t4 : FD := ⟨"is_variable", ["value"], ["value"], s4, ⟨1, 1, [true], b4⟩⟩
abbrev s5 : Stmt := top 37
def t5 : FD := ⟨"is_term", ["value"], ["value"], s5, ⟨1, 1, [true], b5⟩⟩
abbrev s6 : Stmt := top 38
def t6 : FD := ⟨"is_atom", ["value"], ["value", "term"], s6, ⟨1, 2, [true], b6⟩⟩
abbrev s7 : Stmt := top 39
def t7 : FD := ⟨"is_literal", ["value"], ["value"], s7, ⟨1, 1, [true], b7⟩⟩
abbrev s8 : Stmt := top 40
def t8 : FD := ⟨"is_head", ["value"], ["value"], s8, ⟨1, 1, [true], b8⟩⟩
abbrev s9 : Stmt := top 41
def t9 : FD := ⟨"is_rule", ["value"], ["value", "one"], s9, ⟨1, 2, [true], b9⟩⟩
abbrev s10 : Stmt := top 42
def t10 : FD := ⟨"is_game", ["value"], ["value", "rule"], s10, ⟨1, 2, [true], b10⟩⟩
abbrev s11 : Stmt := top 43
def t11 : FD := ⟨"check_game", ["game"], ["game"], s11, ⟨1, 1, [true], b11⟩⟩
abbrev s12 : Stmt := top 44
def t12 : FD := ⟨"check_rule", ["rule"], ["rule"], s12, ⟨1, 1, [true], b12⟩⟩
abbrev s13 : Stmt := top 45
def t13 : FD := ⟨"terms_of_literal", ["literal"], ["literal"], s13, ⟨1, 1, [true], b13⟩⟩
abbrev s14 : Stmt := top 46
def t14 : FD := ⟨"terms_of_head", ["head"], ["head"], s14, ⟨1, 1, [true], b14⟩⟩
abbrev s15 : Stmt := top 47
def t15 : FD := ⟨"terms_of", ["rule"], ["rule", "found", "literal"], s15, ⟨1, 3, [true], b15⟩⟩
abbrev s16 : Stmt := top 48
def t16 : FD := ⟨"variables_in", ["rule"], ["rule", "term"], s16, ⟨1, 2, [true], b16⟩⟩
abbrev s17 : Stmt := top 49
def t17 : FD := ⟨"variables_of", ["rule"], ["rule"], s17, ⟨1, 1, [true], b17⟩⟩
abbrev s18 : Stmt := top 50
def t18 : FD := ⟨"names_in", ["game"], ["game", "found", "rule", "term"], s18, ⟨1, 4, [true], b18⟩⟩
abbrev s19 : Stmt := top 51
def t19 : FD := ⟨"names_of", ["game"], ["game"], s19, ⟨1, 1, [true], b19⟩⟩
abbrev s20 : Stmt := top 52
def t20 : FD := ⟨"roles_in", ["game"], ["game", "rule"], s20, ⟨1, 2, [true], b20⟩⟩
abbrev s21 : Stmt := top 53
def t21 : FD := ⟨"roles_of", ["game"], ["game"], s21, ⟨1, 1, [true], b21⟩⟩
abbrev s22 : Stmt := top 54
def t22 : FD := ⟨"put_term", ["binding", "term"], ["binding", "term"], s22, ⟨2, 2, [true, true], b22⟩⟩
abbrev s23 : Stmt := top 55
def t23 : FD := ⟨"put_atom", ["binding", "atom"], ["binding", "atom", "term"], s23, ⟨2, 3, [true, true], b23⟩⟩
abbrev s24 : Stmt := top 56
def t24 : FD := ⟨"put_part", ["binding", "part"], ["binding", "part"], s24, ⟨2, 2, [true, true], b24⟩⟩
abbrev s25 : Stmt := top 57
def t25 : FD := ⟨"put_literal", ["binding", "literal"], ["binding", "literal", "part"], s25, ⟨2, 3, [true, true], b25⟩⟩
abbrev s26 : Stmt := top 58
def t26 : FD := ⟨"put_head", ["binding", "head"], ["binding", "head", "part"], s26, ⟨2, 3, [true, true], b26⟩⟩
abbrev s27 : Stmt := top 59
def t27 : FD := ⟨"put_rule", ["binding", "rule"], ["binding", "rule", "literal"], s27, ⟨2, 3, [true, true], b27⟩⟩
abbrev s28 : Stmt := top 60
def t28 : FD := ⟨"is_binding", ["rule", "value"], ["rule", "value", "pair"], s28, ⟨2, 3, [true, true], b28⟩⟩
abbrev s29 : Stmt := top 61
def t29 : FD := ⟨"put_in", ["rule", "binding"], ["rule", "binding"], s29, ⟨2, 2, [true, true], b29⟩⟩
abbrev s30 : Stmt := top 62
def t30 : FD := ⟨"is_plain", ["game"], ["game", "rule"], s30, ⟨1, 2, [true], b30⟩⟩
abbrev s31 : Stmt := top 63
def t31 : FD := ⟨"facts_in", ["rule"], ["rule", "found", "literal"], s31, ⟨1, 3, [true], b31⟩⟩
abbrev s32 : Stmt := top 64
def t32 : FD := ⟨"moves_in", ["rule"], ["rule", "found", "literal"], s32, ⟨1, 3, [true], b32⟩⟩
abbrev s33 : Stmt := top 65
def t33 : FD := ⟨"helpers_in", ["rule"], ["rule", "found", "literal"], s33, ⟨1, 3, [true], b33⟩⟩
abbrev s34 : Stmt := top 66
def t34 : FD := ⟨"shapes_of", ["atoms"], ["atoms", "atom"], s34, ⟨1, 2, [true], b34⟩⟩
abbrev s35 : Stmt := top 67
def t35 : FD := ⟨"relations_of", ["game"], ["game", "rule", "facts", "moves", "helpers"], s35, ⟨1, 5, [true], b35⟩⟩
abbrev s36 : Stmt := top 68
def t36 : FD := ⟨"is_naming", ["value"], ["value", "pair", "one", "other"], s36, ⟨1, 4, [true], b36⟩⟩
abbrev s37 : Stmt := top 69
def t37 : FD := ⟨"named_part", ["names", "part"], ["names", "part", "word"], s37, ⟨2, 3, [true, true], b37⟩⟩
abbrev s38 : Stmt := top 70
def t38 : FD := ⟨"named_game", ["game", "names"], ["game", "names", "found", "head", "body", "parts", "literal", "part"], s38, ⟨2, 8, [true, true], b38⟩⟩
abbrev s39 : Stmt := top 71
def t39 : FD := ⟨"renamed", ["game", "naming"], ["game", "naming"], s39, ⟨2, 2, [true, true], b39⟩⟩
abbrev s40 : Stmt := top 72
def t40 : FD := ⟨"size_of", ["game"], ["game", "head", "body"], s40, ⟨1, 3, [true], b40⟩⟩
abbrev s41 : Stmt := top 74
def t41 : FD := ⟨"_law_pot", ["script", "place"], ["script", "place", "cell", "own", "small"], s41, ⟨2, 5, [true, true], b41⟩⟩
abbrev s42 : Stmt := top 75
def t42 : FD := ⟨"_law_take", ["pot", "upto"], ["pot", "upto", "prime", "blend", "digit"], s42, ⟨2, 5, [true, true], b42⟩⟩
abbrev s43 : Stmt := top 76
def t43 : FD := ⟨"_law_of", ["pot", "some"], ["pot", "some"], s43, ⟨2, 2, [true, true], b43⟩⟩
abbrev s44 : Stmt := top 77
def t44 : FD := ⟨"_law_cells", ["script", "limit"], ["script", "limit"], s44, ⟨2, 2, [true, true], b44⟩⟩
abbrev s_caught : Stmt := top 78
abbrev s_is_raised : Stmt := top 79
abbrev s_right : Stmt := top 80
abbrev slaw : Stmt := top 81
def bRi : S := (.cons (.asg (.nm 1) (.tup (.cons (.tup (.cons (.str "may") (.cons (.str "R") (.cons (.tup (.cons (.str "go") (.cons (.str "X") .nil))) .nil)))) (.cons (.tup (.cons (.tup (.cons (.str "now") (.cons (.bl true) (.cons (.tup (.cons (.str "at") (.cons (.str "X") .nil))) .nil)))) (.cons (.tup (.cons (.str "role") (.cons (.bl true) (.cons (.str "R") .nil)))) .nil))) .nil)))) (.cons (.asg (.nm 2) (.tup (.cons (.tup (.cons (.tup (.cons (.str "role") (.cons (.str "x") .nil))) (.cons (.tup .nil) .nil))) (.cons (.var 1) .nil)))) (.cons (.asg (.nm 3) (.lst (.cons .non (.cons (.tup .nil) (.cons (.bc .list (.cons (.var 1) .nil)) (.cons (.slc (.var 1) .nil (.int 1)) (.cons (.tup (.cons (.idx (.var 1) (.int 0)) (.cons (.bc .list (.cons (.idx (.var 1) (.int 1)) .nil)) .nil))) (.cons (.tup (.cons (.tup (.cons (.str "may") (.cons (.str "R") (.cons (.tup (.cons (.str "go") (.cons (.str "if") .nil))) .nil)))) (.cons (.idx (.var 1) (.int 1)) .nil))) (.cons (.tup (.cons (.idx (.var 1) (.int 0)) (.cons (.tup (.cons (.tup (.cons (.str "now") (.cons (.int 1) (.cons (.tup (.cons (.str "at") (.cons (.str "X") .nil))) .nil)))) .nil)) .nil))) .nil))))))))) (.cons (.ext 3 (.lst (.cons (.tup (.cons (.tup (.cons (.str "worth") (.cons (.str "x") (.cons (.int 101) .nil)))) (.cons (.tup .nil) .nil))) (.cons (.tup (.cons (.tup (.cons (.str "over") (.cons (.str "x") .nil))) (.cons (.tup .nil) .nil))) (.cons (.tup (.cons (.idx (.var 1) (.int 0)) (.cons (.bin .mul (.idx (.var 1) (.int 1)) (.int 4)) .nil))) .nil))))) (.cons (.asg (.nm 4) (.call 43 (.cons (.var 0) (.cons (.bin .add (.bin .mul (.lst (.cons (.var 1) .nil)) (.int 4)) (.var 3)) .nil)))) (.cons (.asg (.nm 5) (.call 43 (.cons (.var 0) (.cons (.bin .add (.bin .mul (.lst (.cons (.var 2) .nil)) (.int 4)) (.lst (.cons .non (.cons (.tup .nil) (.cons (.bc .list (.cons (.var 2) .nil)) (.cons (.bin .add (.var 2) (.tup (.cons .non .nil))) (.cons (.bin .add (.var 2) (.tup (.cons (.call 43 (.cons (.var 0) (.cons (.var 3) .nil))) .nil))) (.cons (.bin .mul (.slc (.var 2) .nil (.int 1)) (.int 201)) (.cons (.str "role x") .nil))))))))) .nil)))) (.cons (.asg (.nm 6) (.lst (.cons .non (.cons (.tup .nil) (.cons (.tup (.cons (.tup (.cons (.str "X") (.cons (.str "a") .nil))) (.cons (.tup (.cons (.str "R") (.cons (.str "x") .nil))) .nil))) (.cons (.tup (.cons (.tup (.cons (.str "R") (.cons (.str "x") .nil))) .nil)) (.cons (.tup (.cons (.tup (.cons (.str "R") (.cons (.str "x") .nil))) (.cons (.tup (.cons (.str "X") (.cons (.str "Y") .nil))) .nil))) (.cons (.lst (.cons (.tup (.cons (.str "R") (.cons (.str "x") .nil))) (.cons (.tup (.cons (.str "X") (.cons (.str "a") .nil))) .nil))) .nil)))))))) (.cons (.ext 6 (.lst (.cons (.tup (.cons (.tup (.cons (.str "R") (.cons (.str "x") .nil))) (.cons (.tup (.cons (.str "X") (.cons (.str "a") .nil))) (.cons (.tup (.cons (.str "Y") (.cons (.str "b") .nil))) .nil)))) (.cons (.tup (.cons (.lst (.cons (.str "R") (.cons (.str "x") .nil))) (.cons (.tup (.cons (.str "X") (.cons (.str "a") .nil))) .nil))) .nil)))) (.cons (.asg (.nm 7) (.call 43 (.cons (.var 0) (.cons (.bin .add (.bin .mul (.lst (.cons (.tupP (.cons (.tup (.cons (.str "R") (.cons (.str "x") .nil))) (.cons (.tup (.cons (.str "X") (.cons (.str "a") .nil))) .nil))) .nil)) (.int 4)) (.var 6)) .nil)))) (.cons (.asg (.nm 8) (.call 43 (.cons (.var 0) (.cons (.bin .add (.bin .mul (.lst (.cons (.tupP (.cons (.tup (.cons (.str "at") (.cons (.str "here") .nil))) .nil)) .nil)) (.int 4)) (.lst (.cons .non (.cons (.lst (.cons (.tup (.cons (.str "at") (.cons (.str "here") .nil))) .nil)) (.cons (.tup (.cons (.tup (.cons (.str "at") (.cons (.str "Here") .nil))) .nil)) (.cons (.tup (.cons (.tup (.cons (.str "at") (.cons (.str "if") .nil))) .nil)) (.cons (.tup (.cons (.tup (.cons (.str "b") (.cons (.str "c") .nil))) (.cons (.tup (.cons (.str "a") (.cons (.str "d") .nil))) .nil))) (.cons (.tup (.cons (.tup (.cons (.str "a") (.cons (.str "b") .nil))) (.cons (.tup (.cons (.str "a") (.cons (.str "c") .nil))) .nil))) (.cons (.tup (.cons (.tup (.cons (.str "at") .nil)) .nil)) (.cons (.tup (.cons (.tup (.cons (.str "A") (.cons (.str "b") .nil))) .nil)) .nil)))))))))) .nil)))) (.cons (.par 10 11 (.ite (.cmp .ne (.bc .repr (.cons (.var 5) .nil)) (.bc .repr (.cons (.var 2) .nil))) (.lst (.cons (.tup (.cons (.str "game") (.cons (.var 5) .nil))) .nil)) (.lst .nil)) (.ite (.cmp .ne (.bc .repr (.cons (.var 4) .nil)) (.bc .repr (.cons (.var 1) .nil))) (.lst (.cons (.tup (.cons (.str "rule") (.cons (.var 4) .nil))) .nil)) (.lst .nil))) (.cons (.par 12 13 (.ite (.cmp .ne (.bc .repr (.cons (.var 7) .nil)) (.bc .repr (.cons (.tup (.cons (.tup (.cons (.str "R") (.cons (.str "x") .nil))) (.cons (.tup (.cons (.str "X") (.cons (.str "a") .nil))) .nil))) .nil))) (.lst (.cons (.tup (.cons (.str "binding") (.cons (.var 7) .nil))) .nil)) (.lst .nil)) (.ite (.cmp .ne (.bc .repr (.cons (.var 8) .nil)) (.bc .repr (.cons (.tup (.cons (.tup (.cons (.str "at") (.cons (.str "here") .nil))) .nil)) .nil))) (.lst (.cons (.tup (.cons (.str "naming") (.cons (.var 8) .nil))) .nil)) (.lst .nil))) .nil))))))))))))
def fs : List FD := [t0, t1, t2, t3, t4, t5, t6, t7, t8, t9, t10, t11, t12, t13, t14, t15, t16, t17, t18, t19, t20, t21, t22, t23, t24, t25, t26, t27, t28, t29, t30, t31, t32, t33, t34, t35, t36, t37, t38, t39, t40, t41, t42, t43, t44]
def gls : List Str := ["MOST_SIGNS", "SMALL", "FIGURES", "RESERVED", "GREAT", "MOST_TERMS", "FOUR", "THREE", "ROLE", "HOLDS", "NOW", "DOES", "SAME", "OVER", "NEXT", "BEGINS", "MAY", "MOST_WORTH", "WORTH", "MOST_BODY", "MOST_RULES"]
def G : List D := [(.int 8), (.str "abcdefghijklmnopqrstuvwxyz"), (.str "0123456789"), (.tup [(.str "role"), (.str "begins"), (.str "may"), (.str "next"), (.str "over"), (.str "worth"), (.str "if"), (.str "now"), (.str "does"), (.str "not"), (.str "is")]), (.str "ABCDEFGHIJKLMNOPQRSTUVWXYZ"), (.int 3), (.int 4), (.int 3), (.str "role"), (.str "holds"), (.str "now"), (.str "does"), (.str "same"), (.str "over"), (.str "next"), (.str "begins"), (.str "may"), (.int 100), (.str "worth"), (.int 6), (.int 200)]
end VI.L

set_option Elab.async false
set_option linter.all false
set_option autoImplicit false
set_option maxRecDepth 100000
set_option maxHeartbeats 8000000
/-! W12: _law_caught. -/
namespace VI.L
open PySem PySem.Spec PyProof.Rows L2 VI LamX
theorem scCa : FnScope ["call", "caught"] ["call"] (defScope s_caught) := C8.fnScope_by (by decide +kernel)
section
variable {P : Program} {w : World} {K : PySem.W.Frag} {mg : Str → Option Value} {base : Heap} {k : Nat} {CR fa : Addr} {fd : FuncData}
theorem caught_ok (gR : mg "RuleError" = some (.ref CR)) (dm : DefM K mg "_law_caught" s_caught fa fd) : FnS P w K mg base C8.CX0 (k + 1) fa fd ["call"] (spCa P w K mg base k CR) := by
  refine FnS.body dm.fn scCa (fun b s xs H Q E ⟨F, f, o, q, pr, bd, sc, cl, e, _⟩ => by rw [e]; rfl) (fun cdv A' below s H us xs Q E hr gd e0 vl ⟨F, f, o, q, pr, bd, sc, cl, e1, sm, hc, C, h⟩ => ?_)
  subst e1
  refine ⟨_, pss_cons (ps_try_ret (tb := fun W D σ H => σ[0]? = some (some (.ref f)) ∧ Same F H ∧ Wants K F H (fun _ H' => D.nx σ H') (WE W σ) o) (i := 1) (c := .ref CR) rfl rfl rfl scCa.nd rfl rfl ⟨rfl, by decide, .inl gR⟩ (by decide) (by decide) (fun W pn xe tk po => pss_one (ps_expr (pe_clo (i := 0) (k := k) (F := F) (f := f) (o := o) tk rfl (.inl rfl) (by decide) (by decide) rfl rfl rfl hr gd hc C)))) (pss_one (ps_ret pe_non)), ?_⟩
  refine ⟨rfl, sm, ?_⟩
  cases o with
  | none => exact fun F' H' v kp => h F' H' kp
  | some z =>
    obtain ⟨Ce, d⟩ := z
    obtain ⟨h1, h2⟩ := h
    refine fun F' H' dx v kp nx rv hx => ⟨h1, fun a na => ?_⟩
    obtain ⟨k1, k2, k3⟩ := kp_caught (C := Ce) kp nx hx na
    exact h2 _ _ a v k1 (rv.mono k2) k3
end
end VI.L

set_option Elab.async false
set_option linter.all false
set_option autoImplicit false
set_option maxRecDepth 100000
set_option maxHeartbeats 8000000
/-! W13: _law_is_raised, where what is raised is what is due. -/
namespace VI.L
open PySem PySem.Spec PyProof.Rows L2 VI LamX
def nmC : Nat → Str | 0 => "BadGame" | 1 => "BadRule" | 2 => "BadBinding" | _ => "BadNaming"
def wdC : Nat → Str | 0 => "game" | 1 => "rule" | 2 => "binding" | _ => "naming"
structure ErrEnv (K : PySem.W.Frag) (mg : Str → Option Value) (cs : Nat → Addr) (CR : Addr) : Prop where
  gC : ∀ j, j < 4 → mg (nmC j) = some (.ref (cs j))
  seen : ∀ j, j < 4 → ErrSeen K (cs j)
  kit : ∀ i j, i < 4 → j < 4 → PySem.W.kitOne K (.ref (cs i)) (.ref (cs j)) = some (decide (i = j))
  exm : ∀ j, j < 4 → PySem.W.exmOne K (.ref (cs j)) (.ref CR) = some true
  gR : mg "RuleError" = some (.ref CR)
  mi : mg "isinstance" = none
  mr : mg "repr" = none
/-- what is due is what comes -/
def Due (cs : Nat → Addr) (due : D) : Option (Addr × D) → Prop
  | none => due = .non
  | some (C, d) => ∃ (j : Nat) (t : Str), j < 4 ∧ C = cs j ∧ due = .tup [.str (wdC j), d] ∧ bf1 .repr d = .ok (.str t, false)
def spIr (P : Program) (w : World) (K : PySem.W.Frag) (mg : Str → Option Value) (base : Heap) (k : Nat) (cs : Nat → Addr) : SpS := fun below s xs H Q _ => ∃ F f o q params body scope cl due vd, xs = [.ref f, vd] ∧ Same F H ∧ Rep K F due vd ∧ IsClo F f q params body scope cl ∧ ClosRun P w K mg base k (frs below) s H F f o ∧ Due cs due o ∧
  ∀ F' H', Kp F H F' H' → Q (.bl true) H'
def kv4 (j : Nat) : List (Key × V) := [(.inr "game", .bl (decide (j = 0))), (.inr "rule", .bl (decide (j = 1))), (.inr "binding", .bl (decide (j = 2))), (.inr "naming", .bl (decide (j = 3)))]
theorem val4 : ∀ j, j < 4 → valV (mergeK [] (kv4 j)) (.inr (wdC j)) = some (.bl true)
  | 0, _ => by decide +kernel
  | 1, _ => by decide +kernel
  | 2, _ => by decide +kernel
  | 3, _ => by decide +kernel
  | n + 4, h => absurd h (by omega)
theorem _root_.VI.Kp.grw {F H F1 H1 F2 H2 : Hp} (a : Kp F H F1 H1) (g : Grw F1 H1 F2 H2) : Kp F H F2 H2 :=
  ⟨a.ff.trans g.ff, g.fh, fun b o h bx n => let ⟨h1, n1⟩ := a.fr b o h bx n; ⟨g.hh b o h1, g.fr b o h1 bx n1⟩, fun b o h => let ⟨o', h1⟩ := a.gr b o h; ⟨o', g.hh b o' h1⟩⟩
theorem ifT {c : Bool} {A B : Prop} (hc : c = true) (h : A) : if c = true then A else B := by rw [if_pos hc]; exact h
theorem ifF {c : Bool} {A B : Prop} (hc : c = false) (h : B) : if c = true then A else B := by rw [hc, if_neg Bool.false_ne_true]; exact h
theorem scIr : FnScope ["call", "due", "caught", "marks"] ["call", "due"] (defScope s_is_raised) := C8.fnScope_by (by decide +kernel)
theorem pe_reprD {X : Cx} (gd : X.A.guards = some []) (hu : X.A.units + 150 < cLine) : ∃ r, CallR X (.builtin "repr") r ∧ ∀ (F H : Hp) (d : D) (v : V) (t : Str) (Q : VK), Same F H → Rep X.K F d v → bf1 .repr d = .ok (.str t, false) → (∀ F' H', Grw F H F' H' → Q (.str t) H') → r [v] H Q := by
  refine ⟨_, call_repr gd hu, fun F H d v t Q sm rv h q => ?_⟩
  cases d with
  | non => cases rv; cases h; exact .inr (.inr (.inl ⟨rfl, q F H (Grw.refl sm)⟩))
  | bl b => cases rv; cases h; exact .inl ⟨_, rfl, q F H (Grw.refl sm)⟩
  | str x =>
    cases rv
    have h : R.ite (decide ((reprText x).length ≤ lenLine)) (.ok (D.str (reprText x), false)) = .ok (.str t, false) := h
    by_cases hz : (reprText x).length ≤ lenLine
    · rw [decide_eq_true hz] at h
      cases h
      exact .inr (.inr (.inr ⟨_, rfl, hz, q F H (Grw.refl sm)⟩))
    · rw [decide_eq_false hz] at h
      cases h
  | tup xs =>
    obtain ⟨a, vs, rfl, _, _⟩ := (show RdV X.K F H (.tup xs) v from .inl rv).tup sm
    have h : ((R.of (toPy (D.tup xs))).bind fun p => R.ite (okR p) (R.ok (D.str p.shown, false))) = .ok (.str t, false) := h
    cases h1 : toPy (D.tup xs) with
    | none => rw [h1] at h; cases h
    | some p =>
      rw [h1] at h
      have h : R.ite (okR p) (R.ok (D.str p.shown, false)) = .ok (.str t, false) := h
      cases h2 : okR p with
      | false => rw [h2] at h; cases h
      | true => rw [h2] at h; cases h; exact .inr (.inl ⟨a, p, rfl, (show RdV X.K F H (.tup xs) _ from .inl rv).dp sm h1, toPy_nd h1, h2, q F H (Grw.refl sm)⟩)
  | lst xs =>
    obtain ⟨a, vs, rfl, _, _⟩ := (show RdV X.K F H (.lst xs) v from .inl rv).lst sm
    have h : ((R.of (toPy (D.lst xs))).bind fun p => R.ite (okR p) (R.ok (D.str p.shown, false))) = .ok (.str t, false) := h
    cases h1 : toPy (D.lst xs) with
    | none => rw [h1] at h; cases h
    | some p =>
      rw [h1] at h
      have h : R.ite (okR p) (R.ok (D.str p.shown, false)) = .ok (.str t, false) := h
      cases h2 : okR p with
      | false => rw [h2] at h; cases h
      | true => rw [h2] at h; cases h; exact .inr (.inl ⟨a, p, rfl, (show RdV X.K F H (.lst xs) _ from .inl rv).dp sm h1, toPy_nd h1, h2, q F H (Grw.refl sm)⟩)
  | ptp xs =>
    obtain ⟨a, vs, rfl, _, _⟩ := (show RdV X.K F H (.ptp xs) v from .inl rv).ptpT.tup sm
    have h : ((R.of (toPy (D.ptp xs))).bind fun p => R.ite (okR p) (R.ok (D.str p.shown, false))) = .ok (.str t, false) := h
    cases h1 : toPy (D.ptp xs) with
    | none => rw [h1] at h; cases h
    | some p =>
      rw [h1] at h
      have h : R.ite (okR p) (R.ok (D.str p.shown, false)) = .ok (.str t, false) := h
      cases h2 : okR p with
      | false => rw [h2] at h; cases h
      | true => rw [h2] at h; cases h; exact .inr (.inl ⟨a, p, rfl, (show RdV X.K F H (.ptp xs) _ from .inl rv).dp sm h1, toPy_nd h1, h2, q F H (Grw.refl sm)⟩)
  | _ => cases h
section
variable {P : Program} {w : World} {K : PySem.W.Frag} {mg : Str → Option Value} {base : Heap} {k : Nat} {CR fa fc : Addr} {fd fdc : FuncData} {cs : Nat → Addr}
theorem raised_ok (EE : ErrEnv K mg cs CR) (dm : DefM K mg "_law_is_raised" s_is_raised fa fd) (dc : DefM K mg "_law_caught" s_caught fc fdc) (bc : Binds K fdc ["call"] []) : FnS P w K mg base C8.CX0 (k + 2) fa fd ["call", "due"] (spIr P w K mg base k cs) := by
  refine FnS.body dm.fn scIr (fun b s xs H Q E ⟨F, f, o, q, pr, bd, sc, cl, due, vd, e, _⟩ => by rw [e]; rfl) (fun cdv A' below s H us xs Q E hr gd e0 vl ⟨F, f, o, q, pr, bd, sc, cl, due, vd, e1, sm, rd, hc, C, hdue, h⟩ => ?_)
  subst e1
  have hu : (A'.deeper (envOfC "_law_is_raised" (defScope s_is_raised) s.heap.objs.size fa cdv)).units + 150 < cLine := room2 hr
  have hu1 : (A'.deeper (envOfC "_law_is_raised" (defScope s_is_raised) s.heap.objs.size fa cdv)).units + 1 < cLine := by omega
  obtain ⟨rr, hrr, srr⟩ := pe_reprD (X := cxOf C8.CX0 P w K mg base ["call", "due", "caught", "marks"] "_law_is_raised" (defScope s_is_raised) fa cdv A' below s H E) gd hu
  refine ⟨_, pss_cons (ps_set (i := 2) scIr.nd rfl (.inl rfl) (g_call (E := fun _ => E0) (caught_ok (P := P) (w := w) (base := base) (k := k) EE.gR dc) hr gd (by rfl) dc.mgf dc.fn.kp bc (fun _ _ _ _ _ _ _ (c : False) => c.elim) (pa_cons (pv 0) pa_nil) (by decide) rfl rfl))
    (pss_cons (ps_if (pt_cmpR op_isN (pv 1) pe_non (nomark _)) (pss_one (ps_ret (pe_cmpR op_isN (pv 2) pe_non (nomark _)))) pss_nil)
    (pss_cons (ps_set (i := 3) scIr.nd rfl (.inl rfl) (pe_disp (pps_cons pe_str (pe_callB call_isX (by rfl) EE.mi (by decide +kernel) (pa_cons (pv 2) (pa_cons (pe_glob (v := .ref (cs 0)) (by rfl) (EE.gC 0 (by decide)) rfl) pa_nil)))
        (pps_cons pe_str (pe_callB call_isX (by rfl) EE.mi (by decide +kernel) (pa_cons (pv 2) (pa_cons (pe_glob (v := .ref (cs 1)) (by rfl) (EE.gC 1 (by decide)) rfl) pa_nil)))
        (pps_cons pe_str (pe_callB call_isX (by rfl) EE.mi (by decide +kernel) (pa_cons (pv 2) (pa_cons (pe_glob (v := .ref (cs 2)) (by rfl) (EE.gC 2 (by decide)) rfl) pa_nil)))
        (pps_cons pe_str (pe_callB call_isX (by rfl) EE.mi (by decide +kernel) (pa_cons (pv 2) (pa_cons (pe_glob (v := .ref (cs 3)) (by rfl) (EE.gC 3 (by decide)) rfl) pa_nil))) pps_nil)))) rfl rfl (by decide) (by decide)))
    (pss_one (ps_ret (pe_and (pe_dget hu1 (pv 3) (pe_ix ix_tup (pv 1) pe_int (fun _ _ => rfl)) (fun _ _ => rfl))
      (pe_one (pe_cmpR op_eq (pe_callB hrr (by rfl) EE.mr (by decide +kernel) (pa_cons (pe_val (pv 2) rfl) pa_nil)) (pe_callB hrr (by rfl) EE.mr (by decide +kernel) (pa_cons (pe_ix ix_tup (pv 1) pe_int (fun _ _ => rfl)) pa_nil)) (nomark _)))))))), ?_⟩
  refine ⟨_, rfl, fun s1 pins I1 => ?_⟩
  have C1 : ClosRun P w K mg base k (frs (envOfC "_law_is_raised" (defScope s_is_raised) s.heap.objs.size fa cdv :: below)) s1 H F f o := C.later (show Un (frs below) [] H H s.heap s1.heap from I1.base) (fun b hb => by
    obtain ⟨e, he, q⟩ := List.mem_filterMap.mp hb
    exact List.mem_filterMap.mpr ⟨e, List.mem_cons_of_mem _ he, q⟩) fun b hb => by
    obtain ⟨e, he, q⟩ := List.mem_filterMap.mp hb
    rcases List.mem_cons.mp he with rfl | he
    · cases q
      exact .inr I1.ok.above
    · exact .inl (List.mem_filterMap.mpr ⟨e, he, q⟩)
  refine ⟨F, f, o, q, pr, bd, sc, cl, rfl, sm, hc, C1, ?_⟩
  cases o with
  | none =>
    have hdue : due = .non := hdue
    subst hdue
    cases rd
    intro F' H' kp
    refine ⟨_, rfl, rfl, _, rfl, ?_⟩
    exact ifT (by decide) ⟨_, rfl, rfl, h F' H' kp⟩
  | some z =>
    obtain ⟨Ce, d⟩ := z
    obtain ⟨j, t, hj, rfl, rfl, ht⟩ := hdue
    refine ⟨EE.exm j hj, fun F' H' a v kp rv ca => ?_⟩
    have rd' := rd.mono kp.ff
    obtain ⟨b, vs, rfl, hbF, rvs⟩ := (show RdV K F' F' (.tup [.str (wdC j), d]) vd from .inl rd').tup (Same.refl F')
    obtain ⟨v0, v1, rfl, r0, r1⟩ : ∃ v0 v1, vs = [v0, v1] ∧ Rep K F' (.str (wdC j)) v0 ∧ Rep K F' d v1 := by
      cases rvs with
      | cons a1 r =>
        cases r with
        | cons a2 r =>
          cases r
          exact ⟨_, _, rfl, a1, a2⟩
    cases r0
    have hbS : ∀ {H2 : Hp}, Same F' H2 → SqT K H2 b [V.str (wdC j), v1] := fun s2 => hbF.elim (fun r => .inl (r.elim (fun e => .inl (s2 _ _ e)) fun ⟨o, e⟩ => .inr ⟨o, s2 _ _ e⟩)) .inr
    refine ⟨_, rfl, rfl, _, rfl, ?_⟩
    refine ifF (by simp) fun p np => ?_
    have s2 : Same F' (upd H' p (.dK [])) := fun x u hx => by rw [upd_ne (ne_of_none (kp.fh x u hx) np)]; exact kp.fh x u hx
    have c2 : Caught (upd H' p (.dK [])) a (cs j) v := ca.mono s2
    refine ⟨_, rfl, a, cs j, cs 0, v, _, rfl, c2, EE.seen j hj, EE.kit j 0 hj (by decide), _, rfl, a, cs j, cs 1, v, _, rfl, c2, EE.seen j hj, EE.kit j 1 hj (by decide), _, rfl, a, cs j, cs 2, v, _, rfl, c2, EE.seen j hj, EE.kit j 2 hj (by decide), _, rfl, a, cs j, cs 3, v, _, rfl, c2, EE.seen j hj, EE.kit j 3 hj (by decide), ?_⟩
    refine ⟨upd_same, kv4 j, rfl, (by show 4 ≤ 15; decide), ?_⟩
    rw [upd_upd]
    have s3 : Same F' (upd H' p (.dK (mergeK [] (kv4 j)))) := fun x u hx => by rw [upd_ne (ne_of_none (kp.fh x u hx) np)]; exact kp.fh x u hx
    have hb3 : SqT K (upd H' p (.dK (mergeK [] (kv4 j)))) b [V.str (wdC j), v1] := hbS s3
    refine ⟨V.ref p, rfl, V.ref b, rfl, b, _, 0, _, rfl, rfl, hb3, rfl, p, _, rfl, .inl ⟨mergeK [] (kv4 j), .inr (wdC j), .inl upd_same, rfl, (val4 j hj).symm⟩, true, rfl, ifT rfl ?_⟩
    refine ⟨V.ref a, rfl, a, cs j, v, rfl, ca.mono s3, EE.seen j hj, ?_⟩
    refine srr F' _ d v t _ s3 rv ht fun F4 H4 g4 => ?_
    refine ⟨V.ref b, rfl, b, _, 1, _, rfl, rfl, hbS (g4.ff.trans g4.fh), rfl, ?_⟩
    refine srr F4 _ d v1 t _ g4.fh (r1.mono g4.ff) ht fun F5 H5 g5 => ?_
    have k5 : Kp F H F5 H5 := ((kp.upd (o := .dK (mergeK [] (kv4 j))) np).grw g4).grw g5
    have et : decide (V.str t = V.str t) = true := decide_eq_true rfl
    refine ⟨rfl, ?_⟩
    rw [et]
    exact h F5 H5 k5
end
end VI.L

set_option Elab.async false
set_option linter.all false
set_option autoImplicit false
set_option maxRecDepth 100000
set_option maxHeartbeats 8000000
/-! W14: statements ahead of others; the rows of a table of lambdas. -/
namespace VI
open PySem PySem.Spec PyProof.Rows L2 LamX
variable {X : Cx} {K : PySem.W.Frag} {P : Keep} {F H F' H' F1 H1 F2 H2 : Hp} {ρ ρ' : EnvD} {σ σ' : L2.St}
def listS : S → List S
  | .cons s r => s :: listS r
  | _ => []
/-- the statements one by one -/
def runs (C : Ctx) (P : Keep) : List S → EnvD → R EnvD
  | [], ρ => .ok ρ
  | s :: ss, ρ => (run C P s ρ).bind fun f => match f with
    | .nx ρ' => runs C P ss ρ'
    | .rt _ _ => .no
def ssOk (T : Tb) (N : List Str) (sc : Scope) : List S → List Stmt → Bool
  | [], [] => true
  | s :: ss, st :: sts => mtS T N s sc st && ssOk T N sc ss sts
  | _, _ => false
def tPre (K : PySem.W.Frag) (P : Keep) (C : Ctx) (u : TS) : List S → TS
  | [] => u
  | s :: ss => tSeq (tSt K P (run C P s)) (tPre K P C u ss)
theorem snd_pre {T : Tb} {N : List Str} {C : Ctx} {sc : Scope} {rest : List Stmt} {u : TS} (w : Wb X T N C sc) (hu : PSs X rest u) : ∀ (ss : List S) (sts : List Stmt), ssOk T N sc ss sts = true → PSs X (sts ++ rest) (tPre X.K P C u ss)
  | [], [], _ => hu
  | s :: ss, st :: sts, h => by
    simp only [ssOk, Bool.and_eq_true] at h
    exact pss_cons (snd_s s w h.1) (snd_pre w hu ss sts h.2)
  | [], _ :: _, h => by cases h
  | _ :: _, [], h => by cases h
theorem pre_ok {C : Ctx} {u : TS} {D : Ends} : ∀ (ss : List S) {F H : Hp} {ρ : EnvD} {σ : L2.St}, Same F H → ERel K F H ρ σ → (runs C P ss ρ).wp (fun ρ' => ∀ F' H' σ', SS K P F H ρ σ F' H' ρ' σ' → u D σ' H') → tPre K P C u ss D σ H
  | [], F, H, ρ, σ, sm, er, q => q F H σ (SS.refl sm er)
  | s :: ss, F, H, ρ, σ, sm, er, q => by
    simp only [runs] at q
    rw [R.wp_bind] at q
    refine ⟨F, ρ, sm, er, R.wp_mono q fun f q => ?_⟩
    cases f with
    | rt _ _ => exact q.elim
    | nx ρ1 => exact fun F1 H1 σ1 s1 => pre_ok ss s1.st.fh s1.st.er (R.wp_mono q fun ρ' q F' H' σ' s2 => q F' H' σ' (s1.trans s2))
/-- all that is no table stands as before, but for what is at L -/
def KeepL (L : Addr) (H H' : Hp) : Prop := ∀ b o, H b = some o → (∀ ps, o ≠ .tbl ps) → b ≠ L → H' b = some o
theorem KeepL.of {L : Addr} (h : ExtN H H') : KeepL L H H' := fun b o e n _ => h b o e n
theorem KeepL.trans {L : Addr} (a : KeepL L H H1) (b : KeepL L H1 H2) : KeepL L H H2 := fun c o e n hl => b c o (a c o e n hl) n hl
theorem KeepL.new {L p : Addr} {o : HO} (n : H p = none) : KeepL L H (upd H p o) := fun b u e _ _ => by rw [upd_ne (ne_of_none e n)]; exact e
theorem KeepL.put {L : Addr} {o : HO} : KeepL L H (upd H L o) := fun b u e _ hl => by rw [upd_ne hl]; exact e
theorem ExtN.new {p : Addr} {o : HO} (n : H p = none) : ExtN H (upd H p o) := fun b u e _ => by rw [upd_ne (ne_of_none e n)]; exact e
theorem TabS.new {p Pt : Addr} {q : Str} {o : HO} (t : TabS H Pt q) (n : H p = none) : TabS (upd H p o) Pt q := t.ext fun b u e => by rw [upd_ne (ne_of_none e n)]; exact e
theorem TabS.put {L Pt : Addr} {q : Str} {o : HO} {xs : List V} (t : TabS H Pt q) (h : H L = some (.lst xs)) : TabS (upd H L o) Pt q := by
  obtain ⟨ps, h1, h2, h3⟩ := t
  refine ⟨ps, by rw [upd_ne (ne_of h1 h (fun z => by cases z))]; exact h1, h2, fun pos cv hc => ?_⟩
  obtain ⟨c, e1, e2⟩ := h3 pos cv hc
  refine ⟨c, e1, ?_⟩
  rw [upd_ne (ne_of e2 h (fun z => by unfold CodeO at z; cases z))]
  exact e2
theorem rd_extN {a : Addr} {o : HO} (e : ExtN F F') (n : ∀ ps, o ≠ .tbl ps) (h : Rd F a o) : Rd F' a o := h.elim (fun h => .inl (e _ _ h n)) fun ⟨ob, h⟩ => .inr ⟨ob, e _ _ h fun ps z => by cases z⟩
mutual
/-- data never stand on tables -/
theorem Rep.monoN (e : ExtN F F') : ∀ {d : D} {v : V}, Rep K F d v → Rep K F' d v
  | _, _, .non => .non
  | _, _, .bl b => .bl b
  | _, _, .int i => .int i
  | _, _, .str s => .str s
  | _, _, .tup h r => .tup (h.elim (fun h => .inl (rd_extN e (fun ps z => by cases z) h)) .inr) (Reps.monoN e r)
  | _, _, .lst h r => .lst (e _ _ h fun ps z => by cases z) (Reps.monoN e r)
  | _, _, .ro h r => .ro (h.elim (fun h => .inl (rd_extN e (fun ps z => by cases z) h)) .inr) (Reps.monoN e r)
  | _, _, .dK h r => .dK (e _ _ h fun ps z => by cases z) (RepK.monoN e r)
  | _, _, .dT h r => .dT (e _ _ h fun ps z => by cases z) (RepT.monoN e r)
  | _, _, .ptp h n r => .ptp (e _ _ h fun ps z => by cases z) n (Reps.monoN e r)
theorem Reps.monoN (e : ExtN F F') : ∀ {d : List D} {v : List V}, Reps K F d v → Reps K F' d v
  | _, _, .nil => .nil
  | _, _, .cons h r => .cons (Rep.monoN e h) (Reps.monoN e r)
theorem RepK.monoN (e : ExtN F F') : ∀ {d : List (Key × D)} {v : List (Key × V)}, RepK K F d v → RepK K F' d v
  | _, _, .nil => .nil
  | _, _, .cons h r => .cons (Rep.monoN e h) (RepK.monoN e r)
theorem RepT.monoN (e : ExtN F F') : ∀ {d : List (List Key × D)} {v : List (List Key × V)}, RepT K F d v → RepT K F' d v
  | _, _, .nil => .nil
  | _, _, .cons h r => .cons (Rep.monoN e h) (RepT.monoN e r)
end
/-- a row: the tuple at t, the lambda at f, the list at l -/
structure Row where
  t : Addr
  f : Addr
  l : Addr
  params : Arguments
  body : Expr
  scope : Scope
  cl : List (Str × Addr)
  ws : List V
def RowOk (L : Addr) (q : Str) (H : Hp) (r : Row) : Prop := H r.t = some (.tup [.ref r.f, .ref r.l]) ∧ IsClo H r.f q r.params r.body r.scope r.cl ∧ H r.l = some (.lst r.ws) ∧ r.l ≠ L ∧ r.t ≠ L ∧ r.f ≠ L ∧ ∃ xs, H L = some (.lst xs)
theorem IsClo.keepL {L f : Addr} {q : Str} {params : Arguments} {body : Expr} {scope : Scope} {cl : List (Str × Addr)} {xs : List V} (h : IsClo H f q params body scope cl) (hL : H L = some (.lst xs)) (k : KeepL L H H') : IsClo H' f q params body scope cl := by
  obtain ⟨c', h1, h2⟩ := h
  refine ⟨c', k _ _ h1 cloO_ne (ne_of h1 hL fun z => by unfold CloO at z; cases z), k _ _ h2 codeO_ne (ne_of h2 hL fun z => by unfold CodeO at z; cases z)⟩
theorem RowOk.keepL {L : Addr} {q : Str} {r : Row} {ys : List V} (h : RowOk L q H r) (k : KeepL L H H') (hL : H' L = some (.lst ys)) : RowOk L q H' r := by
  obtain ⟨h1, h2, h3, h4, h5, h6, xs, h7⟩ := h
  exact ⟨k _ _ h1 (fun ps z => by cases z) h5, h2.keepL h7 k, k _ _ h3 (fun ps z => by cases z) h4, h4, h5, h6, ys, hL⟩
/-- what stands while the table is made: H0 ahead of it -/
structure Looks (q : Str) (Pt : Addr) (H0 H : Hp) (L : Addr) (rows : List Row) : Prop where
  at_ : H L = some (.lst (rows.map fun r => V.ref r.t))
  tab : TabS H Pt q
  ext : ExtN H0 H
  fresh : ∀ o, H0 L = some o → ∃ ps, o = .tbl ps
  ok : ∀ r ∈ rows, RowOk L q H r
/-- one row more -/
theorem Looks.more {q : Str} {Pt L f l t : Addr} {H0 Ha Hb : Hp} {rows : List Row} {params : Arguments} {body : Expr} {scope : Scope} {cl : List (Str × Addr)} {ws : List V} (k : Looks q Pt H0 H L rows) (e1 : ExtN H Ha) (ta : TabS Ha Pt q) (ic : IsClo Ha f q params body scope cl)
    (e2 : ExtN Ha Hb) (tb : TabS Hb Pt q) (hl : Hb l = some (.lst ws)) (nl : l ≠ L) (nt : Hb t = none) : Looks q Pt H0 (upd (upd Hb t (.tup [.ref f, .ref l])) L (.lst ((rows.map fun r => V.ref r.t) ++ [.ref t]))) L (rows ++ [⟨t, f, l, params, body, scope, cl, ws⟩]) := by
  have atb : Hb L = some (.lst (rows.map fun r => V.ref r.t)) := e2 _ _ (e1 _ _ k.at_ fun ps z => by cases z) fun ps z => by cases z
  have ntL : t ≠ L := fun z => by rw [z, atb] at nt; cases nt
  have k1 : KeepL L H (upd (upd Hb t (.tup [.ref f, .ref l])) L (.lst ((rows.map fun r => V.ref r.t) ++ [.ref t]))) := ((KeepL.of e1).trans (KeepL.of e2)).trans ((KeepL.new nt).trans KeepL.put)
  refine ⟨by rw [upd_same, List.map_append]; rfl, VI.TabS.put (VI.TabS.new tb nt) (by rw [upd_ne (Ne.symm ntL)]; exact atb), fun b o e n => ?_, k.fresh, fun r hr => ?_⟩
  · have nb : b ≠ L := fun z => by
      rw [z] at e
      obtain ⟨ps, h⟩ := k.fresh o e
      exact n ps h
    exact k1 b o (k.ext b o e n) n nb
  · rcases List.mem_append.mp hr with hr | hr
    · exact (k.ok r hr).keepL k1 upd_same
    · rw [List.mem_singleton.mp hr]
      have k2 : KeepL L Ha (upd (upd Hb t (.tup [.ref f, .ref l])) L (.lst ((rows.map fun r => V.ref r.t) ++ [.ref t]))) := (KeepL.of e2).trans ((KeepL.new nt).trans KeepL.put)
      have atA : Ha L = some (.lst (rows.map fun r => V.ref r.t)) := e1 _ _ k.at_ fun ps z => by cases z
      have nfL : f ≠ L := fun z => by
        obtain ⟨c', h1, _⟩ := ic
        exact ne_of h1 atA (fun y => by unfold CloO at y; cases y) z
      have ltn : l ≠ t := fun z => by rw [z, nt] at hl; cases hl
      exact ⟨by rw [upd_ne ntL, upd_same], ic.keepL atA k2, by rw [upd_ne nl, upd_ne ltn]; exact hl, nl, ntL, nfL, _, upd_same⟩
end VI

set_option Elab.async false
set_option linter.all false
set_option autoImplicit false
set_option maxRecDepth 100000
set_option maxHeartbeats 8000000
/-! W15: what _law_right asks, look by look. -/
namespace VI.L
open PySem PySem.Spec PyProof.Rows L2 VI LamX
def Cn (n : Nat) : Ctx := ⟨G, callI G (fs.map (·.df)) n⟩
def NR : List Str := ["pot", "good", "fine", "odd", "rule", "game", "bad", "binding", "naming", "looks", "g", "r", "b", "n", "look", "due"]
def preS : List S := listS bRi
def startR (ns : List Int) : EnvD := some (.lst (ns.map .int), true) :: List.replicate 15 none
/-! ### what defs raise, in numbers -/
def sem11 (n : Nat) (ds : List D) : R (Nat × D) := (tstO (ev (Cn n) (.not (.call 10 (.cons (.var 0) .nil))) (startD t11.df ds))).bind fun t => R.ite t.1 ((R.of ds[0]?).bind fun d => .ok (0, d))
def sem12 (n : Nat) (ds : List D) : R (Nat × D) := (tstO (ev (Cn n) (.not (.call 9 (.cons (.var 0) .nil))) (startD t12.df ds))).bind fun t => R.ite t.1 ((R.of ds[0]?).bind fun d => .ok (1, d))
def semA (n : Nat) (df : Df) (sem : List D → R (Nat × D)) (ds : List D) : R (Nat × D) := (evA (Cn n) (.cons (.var 0) .nil) (startD df ds)).bind fun x => (frzO x.1).bind fun ds' => R.ite (decide (ds'.length = 1)) (sem ds')
def semB (n : Nat) (df : Df) (e0 c : E) (k : Nat) (ds : List D) : R (Nat × D) := (run (Cn n) df.keep (.alone e0) (startD df ds)).bind fun fl => match fl with
  | .nx ρ1 => (tstO (ev (Cn n) c ρ1)).bind fun t => R.ite t.1 ((R.of ds[1]?).bind fun d => .ok (k, d))
  | .rt _ _ => .no
def cPut : E := .not (.call 28 (.cons (.var 0) (.cons (.var 1) .nil)))
def cRen : E := .not (.call 36 (.cons (.var 1) .nil))
/-- how the def number g may raise, its calls run with n -/
inductive SemOf (n : Nat) : Nat → (List D → R (Nat × D)) → Prop where
  | vars : SemOf n 17 (semA (n + 1) t17.df (sem12 n))
  | put1 : SemOf n 29 (semA (n + 1) t29.df (sem12 n))
  | put2 : SemOf n 29 (semB (n + 1) t29.df (.call 12 (.cons (.var 0) .nil)) cPut 2)
  | names : SemOf n 19 (semA (n + 1) t19.df (sem11 n))
  | roles : SemOf n 21 (semA (n + 1) t21.df (sem11 n))
  | plain : SemOf n 30 (semA (n + 1) t30.df (sem11 n))
  | rels : SemOf n 35 (semA (n + 1) t35.df (sem11 n))
  | size : SemOf n 40 (semA (n + 1) t40.df (sem11 n))
  | ren1 : SemOf n 39 (semA (n + 1) t39.df (sem11 n))
  | ren2 : SemOf n 39 (semB (n + 1) t39.df (.call 11 (.cons (.var 0) .nil)) cRen 3)
/-- a look: f(..), and what is due -/
def LookD (n : Nat) (ρ : EnvD) (g : Nat) (el : E) (np : Nat) (due : D) : Prop :=
  (due = .non ∧ ∃ r, ev (Cn (n + 2)) (.call g el) (froz ρ) = .ok r) ∨
  ∃ sem os ρ2 ds z, SemOf n g sem ∧ evA (Cn (n + 2)) el (froz ρ) = .ok (os, ρ2) ∧ frzO os = .ok ds ∧ ds.length = np ∧ sem ds = .ok z ∧ due = .tup [.str (wdC z.1), z.2] ∧ z.1 < 4 ∧ ∃ t, bf1 .repr z.2 = .ok (.str t, false)
def hd1 (l : List VI.D) : VI.D := (l ++ [VI.D.non]).headD VI.D.non
/-- one lap: the pot ahead of it and behind it -/
def Lap (m n : Nat) (ns ns' : List Int) : Prop := ∃ ρ', runs (Cn m) [true] preS (startR ns) = .ok ρ' ∧ ρ'.length = 16 ∧ ρ'[0]? = some (some (.lst (ns'.map .int), true)) ∧ ρ'[9]? = some none ∧
  (∀ i ∈ [4, 5, 7, 8], ∃ d, ρ'[i]? = some (some (d, false))) ∧ ∃ gl rl bl nl : List D, ρ'[10]? = some (some (.lst gl, true)) ∧ ρ'[11]? = some (some (.lst rl, true)) ∧ ρ'[12]? = some (some (.lst bl, true)) ∧ ρ'[13]? = some (some (.lst nl, true)) ∧
  gl.length ≤ 1 ∧ rl.length ≤ 1 ∧ bl.length ≤ 1 ∧ nl.length ≤ 1 ∧
  LookD n ρ' 17 (.cons (.var 4) .nil) 1 (hd1 rl) ∧ LookD n ρ' 29 (.cons (.var 4) (.cons (.var 7) .nil)) 2 (hd1 (rl ++ bl)) ∧ LookD n ρ' 19 (.cons (.var 5) .nil) 1 (hd1 gl) ∧ LookD n ρ' 21 (.cons (.var 5) .nil) 1 (hd1 gl) ∧
  LookD n ρ' 30 (.cons (.var 5) .nil) 1 (hd1 gl) ∧ LookD n ρ' 35 (.cons (.var 5) .nil) 1 (hd1 gl) ∧ LookD n ρ' 40 (.cons (.var 5) .nil) 1 (hd1 gl) ∧ LookD n ρ' 39 (.cons (.var 5) (.cons (.var 8) .nil)) 2 (hd1 (gl ++ nl))
section
variable {P : Program} {w : World} {K : PySem.W.Frag} {mg : Str → Option Value} {base : Heap} {cs : Nat → Addr} {D fI : Addr}
structure ErrAll (P : Program) (K : PySem.W.Frag) (mg : Str → Option Value) (cs : Nat → Addr) (D fI : Addr) : Prop where
  e0 : ErrTxt P K mg "BadGame" (cs 0) D fI
  e1 : ErrTxt P K mg "BadRule" (cs 1) D fI
  e2 : ErrTxt P K mg "BadBinding" (cs 2) D fI
  e3 : ErrTxt P K mg "BadNaming" (cs 3) D fI
theorem rz11 (M : Mw K mg fs gls G) (hok : fs.all (FD.ok (tbOf fs gls)) = true) (T : ErrAll P K mg cs D fI) (n : Nat) : Raiser P w K mg base fs cs (n + 1) 11 (sem11 n) :=
  raiser0 (A := t11) (nm := "BadGame") (x := "game") (i := 0) (k := 0) M hok rfl rfl rfl T.e0 rfl (by decide) (.inl rfl) (by decide) (by decide) rfl (by decide)
theorem rz12 (M : Mw K mg fs gls G) (hok : fs.all (FD.ok (tbOf fs gls)) = true) (T : ErrAll P K mg cs D fI) (n : Nat) : Raiser P w K mg base fs cs (n + 1) 12 (sem12 n) :=
  raiser0 (A := t12) (nm := "BadRule") (x := "rule") (i := 0) (k := 1) M hok rfl rfl rfl T.e1 rfl (by decide) (.inl rfl) (by decide) (by decide) rfl (by decide)
theorem rzA (M : Mw K mg fs gls G) (hok : fs.all (FD.ok (tbOf fs gls)) = true) {A B : FD} {f g n : Nat} {sem : List VI.D → R (Nat × VI.D)} (hA : fs[f]? = some A) (hB : fs[g]? = some B) (hb : B.ps.length = 1) {rs : S} (hs : A.df.body = .cons (.alone (.call g (.cons (.var 0) .nil))) rs)
    {ce : Expr} {rest : List Stmt} {p : Pos} (ht : defBody A.st = .Expr ce p :: rest) (hsw : ∀ env : Env, swapsWith ce none p.line env = pure false) (hr : Raiser P w K mg base fs cs n g sem) : Raiser P w K mg base fs cs (n + 1) f (semA n A.df sem) := by
  have h := raiser1 (P := P) (w := w) (base := base) (cs := cs) M hok hA hs (by simp) ht hB hr hsw
  rw [hb] at h
  exact h
theorem semOf_ok (M : Mw K mg fs gls G) (hok : fs.all (FD.ok (tbOf fs gls)) = true) (T : ErrAll P K mg cs D fI) (n : Nat) : ∀ {g : Nat} {sem : List VI.D → R (Nat × VI.D)}, SemOf n g sem → Raiser P w K mg base fs cs (n + 2) g sem := by
  intro g sem h
  cases h with
  | vars => exact rzA M hok (A := t17) (B := t12) rfl rfl rfl rfl rfl (fun _ => rfl) (rz12 M hok T n)
  | put1 => exact rzA M hok (A := t29) (B := t12) rfl rfl rfl rfl rfl (fun _ => rfl) (rz12 M hok T n)
  | put2 => exact raiser2 (A := t29) (nm := "BadBinding") (x := "binding") (i := 1) (k := 2) M hok rfl rfl rfl T.e2 rfl (by decide) rfl (.inl rfl) (by decide) (by decide) rfl (by decide)
  | names => exact rzA M hok (A := t19) (B := t11) rfl rfl rfl rfl rfl (fun _ => rfl) (rz11 M hok T n)
  | roles => exact rzA M hok (A := t21) (B := t11) rfl rfl rfl rfl rfl (fun _ => rfl) (rz11 M hok T n)
  | plain => exact rzA M hok (A := t30) (B := t11) rfl rfl rfl rfl rfl (fun _ => rfl) (rz11 M hok T n)
  | rels => exact rzA M hok (A := t35) (B := t11) rfl rfl rfl rfl rfl (fun _ => rfl) (rz11 M hok T n)
  | size => exact rzA M hok (A := t40) (B := t11) rfl rfl rfl rfl rfl (fun _ => rfl) (rz11 M hok T n)
  | ren1 => exact rzA M hok (A := t39) (B := t11) rfl rfl rfl rfl rfl (fun _ => rfl) (rz11 M hok T n)
  | ren2 => exact raiser2 (A := t39) (nm := "BadNaming") (x := "naming") (i := 1) (k := 3) M hok rfl rfl rfl T.e3 rfl (by decide) rfl (.inl rfl) (by decide) (by decide) rfl (by decide)
end
end VI.L

set_option Elab.async false
set_option linter.all false
set_option autoImplicit false
set_option maxRecDepth 100000
set_option maxHeartbeats 8000000
/-! W16: the rows of _law_right, read; its comprehension. -/
namespace VI.L
open PySem PySem.Spec PyProof.Rows L2 VI LamX
theorem lst_nt {xs : List V} (ps : Array Value) : HO.lst xs ≠ .tbl ps := fun z => by cases z
def lamT (Pt : Addr) (q : Str) (params : Arguments) (body : Expr) (scope : Scope) (cl : List (Str × Addr)) : TE := fun _ H Q => TabS H Pt q ∧ ∀ f H1, ExtN H H1 → TabS H1 Pt q → IsClo H1 f q params body scope cl → H f = none → Q (.ref f) H1
section
variable {K : PySem.W.Frag} {Pt L l : Addr} {q : Str} {H0 H : Hp} {rows : List Row} {params : Arguments} {body : Expr} {scope : Scope} {cl : List (Str × Addr)} {ws : List V} {σ : L2.St} {D : Ends} {i j : Nat}
theorem row_first (tab : TabS H Pt q) (si : σ[i]? = some (some (.ref l))) (hl : H l = some (.lst ws)) (next : ∀ L H2 t f, Looks q Pt H H2 L [⟨t, f, l, params, body, scope, cl, ws⟩] → D.nx (σ.set 9 (some (.ref L))) H2) :
    tAsg (tLst (tCons (tTup (tCons (lamT Pt q params body scope cl) (tCons (tVar i) tNil))) tNil)) (gName 9) D σ H := by
  refine ⟨tab, fun f H1 e1 t1 c1 nf => ⟨.ref l, si, (by show 2 ≤ sizeLine; rw [sizeLine_eq]; decide), fun t nt => ⟨(by show 1 ≤ sizeLine; rw [sizeLine_eq]; decide), fun L nL => next L _ t f ?_⟩⟩⟩
  have nH1L : H1 L = none := by
    cases e : H1 L with
    | none => rfl
    | some o => rw [upd_ne (ne_of_none e nt), e] at nL; cases nL
  have ntL : t ≠ L := fun z => by rw [z, upd_same] at nL; cases nL
  have hl1 := e1 _ _ hl lst_nt
  have k2 : KeepL L H1 (upd (upd H1 t (.tup [.ref f, .ref l])) L (.lst [.ref t])) := (KeepL.new nt).trans KeepL.put
  have keep : ∀ b o, H b = some o → (∀ ps, o ≠ .tbl ps) → upd (upd H1 t (.tup [.ref f, .ref l])) L (.lst [.ref t]) b = some o := fun b o e n => by
    have h1 := e1 b o e n
    rw [upd_ne (ne_of_none h1 nH1L), upd_ne (ne_of_none h1 nt)]
    exact h1
  refine ⟨by rw [upd_same]; rfl, VI.TabS.new (VI.TabS.new t1 nt) nL, keep, fun o e => ?_, fun r hr => ?_⟩
  · by_cases hp : ∃ ps, o = .tbl ps
    · exact hp
    · have h1 := e1 L o e fun ps z => hp ⟨ps, z⟩
      rw [nH1L] at h1; cases h1
  · rw [List.mem_singleton.mp hr]
    refine ⟨by rw [upd_ne ntL, upd_same], ?_, keep _ _ hl lst_nt, fun z => ?_, ntL, fun z => ?_, _, upd_same⟩
    · obtain ⟨c', h1, h2⟩ := c1
      exact ⟨c', by rw [upd_ne (ne_of_none h1 nH1L), upd_ne (ne_of_none h1 nt)]; exact h1, by rw [upd_ne (ne_of_none h2 nH1L), upd_ne (ne_of_none h2 nt)]; exact h2⟩
    · have z : l = L := z
      rw [z, nH1L] at hl1; cases hl1
    · obtain ⟨c', h1, h2⟩ := c1
      have z : f = L := z
      rw [z, nH1L] at h1; cases h1
theorem row_var (k : Looks q Pt H0 H L rows) (s9 : σ[9]? = some (some (.ref L))) (si : σ[i]? = some (some (.ref l))) (hl : H0 l = some (.lst ws)) (hn : rows.length ≤ 100) (next : ∀ H2 t f, Looks q Pt H0 H2 L (rows ++ [⟨t, f, l, params, body, scope, cl, ws⟩]) → D.nx σ H2) :
    tDrop (tBM K "list" rAppend (tVar 9) (tCons (tTup (tCons (lamT Pt q params body scope cl) (tCons (tVar i) tNil))) tNil)) D σ H := by
  have lenR : (rows.map fun r => V.ref r.t).length < sizeLine := by rw [List.length_map, sizeLine_eq]; omega
  refine ⟨.ref L, s9, .inl ⟨rfl, _, SqL.of k.at_⟩, k.tab, fun f H1 e1 t1 c1 nf => ⟨.ref l, si, (by show 2 ≤ sizeLine; rw [sizeLine_eq]; decide), fun t nt => ?_⟩⟩
  have at1 := e1 _ _ k.at_ lst_nt
  have ntL : t ≠ L := fun z => by rw [z, at1] at nt; cases nt
  have hlH := k.ext _ _ hl lst_nt
  have hl1 := e1 _ _ hlH lst_nt
  have nlL : l ≠ L := fun z => by
    rw [z] at hl
    obtain ⟨ps, h⟩ := k.fresh _ hl
    cases h
  exact ⟨L, _, _, rfl, rfl, by rw [upd_ne (Ne.symm ntL)]; exact at1, lenR, next _ t f (k.more e1 t1 c1 (ExtN.refl H1) t1 hl1 nlL nt)⟩
theorem row_cat {l1 l2 : Addr} {ws1 ws2 : List V} (k : Looks q Pt H0 H L rows) (s9 : σ[9]? = some (some (.ref L))) (si : σ[i]? = some (some (.ref l1))) (sj : σ[j]? = some (some (.ref l2))) (h1 : H0 l1 = some (.lst ws1)) (h2 : H0 l2 = some (.lst ws2)) (hn : rows.length ≤ 100) (hz : ws1.length + ws2.length ≤ 100)
    (next : ∀ H2 t f l, Looks q Pt H0 H2 L (rows ++ [⟨t, f, l, params, body, scope, cl, ws1 ++ ws2⟩]) → D.nx σ H2) :
    tDrop (tBM K "list" rAppend (tVar 9) (tCons (tTup (tCons (lamT Pt q params body scope cl) (tCons (tOp rCat (tVar i) (tVar j)) tNil))) tNil)) D σ H := by
  have lenR : (rows.map fun r => V.ref r.t).length < sizeLine := by rw [List.length_map, sizeLine_eq]; omega
  refine ⟨.ref L, s9, .inl ⟨rfl, _, SqL.of k.at_⟩, k.tab, fun f H1 e1 t1 c1 nf => ⟨.ref l1, si, .ref l2, sj, l1, l2, ws1, ws2, rfl, rfl, e1 _ _ (k.ext _ _ h1 lst_nt) lst_nt, e1 _ _ (k.ext _ _ h2 lst_nt) lst_nt, by rw [sizeLine_eq]; omega, fun l nl => ?_⟩⟩
  refine ⟨(by show 2 ≤ sizeLine; rw [sizeLine_eq]; decide), fun t nt => ?_⟩
  have at1 := e1 _ _ k.at_ lst_nt
  have nlL : l ≠ L := fun z => by rw [z, at1] at nl; cases nl
  have at2 : upd H1 l (.lst (ws1 ++ ws2)) L = some (.lst (rows.map fun r => V.ref r.t)) := by rw [upd_ne (Ne.symm nlL)]; exact at1
  have ntL : t ≠ L := fun z => by rw [z, at2] at nt; cases nt
  exact ⟨L, _, _, rfl, rfl, by rw [upd_ne (Ne.symm ntL)]; exact at2, lenR, next _ t f l (k.more e1 t1 c1 (ExtN.new nl) (VI.TabS.new t1 nl) upd_same nlL nt)⟩
end
/-! ### an element of the comprehension -/
def teR (Y : Cx) (cs : Nat → Addr) (k : Nat) : L2.St → TE := fun σ0 σ' H Q => ∃ F f l ws o due vd q params body scope cl, σ'[14]? = some (some (.ref f)) ∧ σ'[15]? = some (some (.ref l)) ∧ H l = some (.lst ws) ∧ ws.length ≤ 100 ∧ (ws ++ [V.non])[0]? = some vd ∧ Same F H ∧ Rep Y.K F due vd ∧ IsClo F f q params body scope cl ∧
  (∀ pins s H3, Inv Y pins σ0 H3 s → Same F H3 → ClosRun Y.prog Y.w Y.K Y.mg Y.base k (frs Y.stack) s H3 F f o) ∧ Due cs due o ∧ ∀ F' H', Same F F' → Same F' H' → Q (.bl true) H'
section
variable {Y : Cx} {cs : Nat → Addr} {k : Nat} {CR fa fc : Addr} {fd fdc : FuncData} {sc : Scope} {elt : Expr}
theorem pe_elt (EE : ErrEnv Y.K Y.mg cs CR) (dm : DefM Y.K Y.mg "_law_is_raised" s_is_raised fa fd) (dc : DefM Y.K Y.mg "_law_caught" s_caught fc fdc) (bc : Binds Y.K fdc ["call"] []) (bi : Binds Y.K fd ["call", "due"] [])
    {σ0 : L2.St} {pins : List (Addr × Obj)} {B : Cx} (hB : B.prog = Y.prog ∧ B.w = Y.w ∧ B.K = Y.K ∧ B.mg = Y.mg ∧ B.base = Y.base ∧ B.stack = Y.stack) (hr : Room (k + 2) B.A) (gd : B.A.guards = some []) (out : ∀ (pins' : List (Addr × Obj)) (σ' : L2.St) (H' : Hp) (s' : Shared), Inv B pins' σ' H' s' → Inv Y pins σ0 H' s')
    {p1 p2 p3 : Pos} (hg : Gl B "_law_is_raised") (h14 : B.N[14]? = some ("look" : Str)) (h15 : B.N[15]? = some ("due" : Str)) (v14 : Vis B.env.scope "look") (v15 : Vis B.env.scope "due") {e2 : Expr}
    (pe2 : PE B e2 (tOp (rIxL B.K) (tOp rCat (tVar 15) (tLst (tCons (tC .non) tNil))) (tC (.int 0)))) (hst : starEach [Expr.Name "look" p2, e2] B.env = (false, eval (.Name "look" p2) B.env) :: starEach [e2] B.env) (hst2 : starEach [e2] B.env = (false, eval e2 B.env) :: starEach [] B.env) (hp : (backTo p3 (starEach [e2] B.env)).any (·.1) = false) :
    PE B (.Call (.Name "_law_is_raised" p1) [.Name "look" p2, e2] [] p3) (teR Y cs k σ0) := by
  obtain ⟨b1, b2, b3, b4, b5, b6⟩ := hB
  have R := raised_ok (P := Y.prog) (w := Y.w) (base := Y.base) (k := k) EE dm dc bc
  rw [← b1, ← b2, ← b3, ← b4, ← b5] at R
  rw [← b3, ← b4] at dm
  rw [← b3] at bi
  refine PE.imp (g_call (E := fun _ => E0) R hr gd hg dm.mgf dm.fn.kp bi (fun _ _ _ _ _ _ _ (c : False) => c.elim) (pa_cons (pe_var (i := 14) h14 v14) (pa_cons pe2 pa_nil hst2) hst) (by decide) hst hp) fun σ' H Q h => ?_
  obtain ⟨F, f, l, ws, o, due, vd, q, pr, bd, sc, cl, s14, s15, hl, hz, h0, sm, rd, ic, cr, hd, post⟩ := h
  refine ⟨.ref f, s14, .ref l, s15, (by show 1 ≤ sizeLine; rw [sizeLine_eq]; decide), fun p1 np1 => ?_⟩
  have lp1 : l ≠ p1 := ne_of_none hl np1
  refine ⟨l, p1, ws, [.non], rfl, rfl, by rw [upd_ne lp1]; exact hl, upd_same, (by rw [sizeLine_eq]; show ws.length + 1 ≤ _; omega), fun p2 np2 => ?_⟩
  refine ⟨p2, _, 0, vd, rfl, rfl, SqL.of upd_same, atI_nat (j := 0) h0, ?_⟩
  have np2' : H p2 = none := by
    cases e : H p2 with
    | none => rfl
    | some u => rw [upd_ne (ne_of_none e np1), e] at np2; cases np2
  have s2 : Same F (upd (upd H p1 (.lst [.non])) p2 (.lst (ws ++ [.non]))) := fun b u e => by
    have e' := sm b u e
    rw [upd_ne (ne_of_none e' np2'), upd_ne (ne_of_none e' np1)]
    exact e'
  intro s' pins' I'
  have IY := out _ _ _ _ I'
  refine ⟨F, f, o, q, pr, bd, sc, cl, due, vd, rfl, s2, by rw [b3]; exact rd, ic, ?_, hd, fun F' H' kp => post F' H' kp.ff kp.fh⟩
  have := cr pins s' _ IY s2
  rw [b1, b2, b3, b4, b5, b6]
  exact this
end
end VI.L

set_option Elab.async false
set_option linter.all false
set_option autoImplicit false
set_option maxRecDepth 100000
set_option maxHeartbeats 16000000
/-! W17: _law_right. -/
namespace VI.L
open PySem PySem.Spec PyProof.Rows L2 VI LamX
theorem scR : FnScope NR ["pot"] (defScope s_right) := C8.fnScope_by (by decide +kernel)
theorem preOk : ssOk (tbOf fs gls) NR (defScope s_right) preS ((defBody s_right).take 12) = true := by decide +kernel
theorem noFreeR : ((defScope s_right).names.all fun y => !decide (y.2 = .free)) = true := by decide +kernel
theorem hfr {c0 : Nat} (scope : Scope) (h : lamSB (defScope s_right) scope = true) : ∀ y ∈ scope.names, y.2 = .free → ∃ a, (cellsFrom c0 (defScope s_right).names []).lookup y.1 = some a := fun y hy e => by
  rcases (lamS_by h).free y hy e with k | k
  · exact Option.isSome_iff_exists.mp (PySem.W.cellsFrom_some _ _ _ (.inl k))
  · have z := List.all_eq_true.mp noFreeR _ (PySem.mem_of_lookup k)
    simp at z
def qR : Str := "_law_right" ++ ".<locals>." ++ "<lambda>"
def spRi (Pt : Addr) (m n : Nat) : SpS := fun _ _ xs H Q _ => ∃ a ns ns', xs = [.ref a] ∧ H a = some (.lst (ns.map V.int)) ∧ TabS H Pt qR ∧ Lap m n ns ns' ∧ ∀ H', H' a = some (.lst (ns'.map V.int)) → TabS H' Pt qR → (∀ b o, H b = some o → (∀ ps, o ≠ .tbl ps) → b ≠ a → H' b = some o) → Q (.bl true) H'
theorem wipe2 (σ : L2.St) (a b : Option V) : wipe (((wipe σ [14, 15]).set 14 a).set 15 b) [14, 15] = wipe σ [14, 15] := by
  apply List.ext_getElem?
  intro j
  rw [wipe_get, List.length_set, List.length_set, wipe_length]
  by_cases hj : j ∈ [14, 15]
  · by_cases hl : j < σ.length
    · rw [if_pos ⟨hj, hl⟩, wipe_get, if_pos ⟨hj, hl⟩]
    · rw [if_neg (fun z => hl z.2), List.getElem?_eq_none (by rw [List.length_set, List.length_set, wipe_length]; omega), List.getElem?_eq_none (by rw [wipe_length]; omega)]
  · rw [if_neg (fun z => hj z.1), List.getElem?_set_ne (fun z => hj (by rw [← z]; simp)), List.getElem?_set_ne (fun z => hj (by rw [← z]; simp))]
def rowsOf {q : Str} {Pt : Addr} {H0 H : Hp} {L : Addr} {rows : List Row} (_ : Looks q Pt H0 H L rows) : List Row := rows
theorem froz_idem (ρ : EnvD) : froz (froz ρ) = froz ρ := by
  unfold froz
  rw [List.map_map]
  congr 1
  funext x
  match x with
  | none => rfl
  | some (d, false) => rfl
  | some (d, true) => rfl
theorem hd1_rep {K : PySem.W.Frag} {F : Hp} {l : List VI.D} {ws : List V} (r : Reps K F l ws) : ∃ vd, (ws ++ [V.non])[0]? = some vd ∧ Rep K F (hd1 l) vd := by
  cases r with
  | nil => exact ⟨_, rfl, .non⟩
  | cons h r => exact ⟨_, rfl, h⟩
/-- what is needed of a row's lambda -/
theorem spec_look {Y : Cx} {cs : Nat → Addr} {D fI : Addr} (M : Mw Y.K Y.mg fs gls G) (hok : fs.all (FD.ok (tbOf fs gls)) = true) (T : ErrAll Y.prog Y.K Y.mg cs D fI) (nd : Y.N.Nodup) {n g np : Nat} {el : E} {due : VI.D} {ρ : EnvD} {σ : L2.St} {Hf : Hp} {f : Addr} {params : Arguments} {body : Expr} {scope : Scope}
    (lk : LookD n ρ g el np due) (ne : el ≠ .nil) {B : FD} (hB : fs[g]? = some B) (hnp : B.ps.length = np) (len : ρ.length = σ.length) (fz : ∀ (i : Nat) (d : VI.D), ρ[i]? = some (some (d, false)) → ∃ v, σ[i]? = some (some v) ∧ Rep Y.K Hf d v)
    (L : LamS Y.env.scope scope) (hc : IsClo Hf f (Y.env.qual ++ "<lambda>") params body scope (cloFrom Y.env.cells scope.names []))
    (hbind : ∀ (pm cv ctv : Value), bindArgs (PySem.W.kla_fn "<lambda>" (Y.env.qual ++ "<lambda>") params body scope (cloFrom Y.env.cells scope.names []) pm cv ctv) ⟨[], []⟩ = pure [])
    (m : mtE (tbOf fs gls) Y.N (.call g el) scope body = true) :
    ∃ o, Due cs due o ∧ ∀ (F' : Hp) (pins : List (Addr × Obj)) (s : Shared) (H3 : Hp), Same Hf F' → Inv Y pins σ H3 s → Same F' H3 → ClosRun Y.prog Y.w Y.K Y.mg Y.base (n + 3) (frs Y.stack) s H3 F' f o := by
  have er : ∀ {F' H3 : Hp}, Same Hf F' → ERel Y.K F' H3 (froz ρ) σ := fun {F' H3} sm => ⟨by unfold froz; rw [List.length_map]; exact len, fun i d h => let ⟨v, h1, h2⟩ := fz i d (froz_at h).2; ⟨v, h1, h2.mono sm⟩, fun i d h => (by cases (froz_at h).1), fun i j d e a h => (by cases (froz_at h).1)⟩
  rcases lk with ⟨hd, r, hr⟩ | ⟨sem, os, ρ2, ds, z, hs, h1, h2, h3, h4, h5, h6, t, h7⟩
  · refine ⟨none, hd, fun F' pins s H3 sm I s3 => ?_⟩
    exact clos_ok (n := n + 2) M hok nd I L (hc.mono sm) hbind m (er sm) ⟨r, by rw [froz_idem]; exact hr⟩
  · refine ⟨some (cs z.1, z.2), ⟨z.1, t, h6, rfl, h5, h7⟩, fun F' pins s H3 sm I s3 => ?_⟩
    exact clos_ex (n := n + 2) M hok nd I L (hc.mono sm) hbind m ne hB (semOf_ok M hok T n hs) (er sm) ⟨os, ρ2, by rw [froz_idem]; exact h1, h2, by rw [hnp]; exact h3, h4⟩
/-- the tuples that stand -/
def tupsOf (H : Hp) : Hp := fun b => match H b with | some (.tup xs) => some (.tup xs) | _ => none
theorem tupsOf_some {H : Hp} {b : Addr} {o : HO} (h : tupsOf H b = some o) : H b = some o ∧ ∃ xs, o = .tup xs := by
  unfold tupsOf at h
  split at h
  · rename_i xs e
    cases h
    exact ⟨e, _, rfl⟩
  · cases h
theorem tupsOf_none {H : Hp} {b : Addr} {o : HO} (h : H b = some o) (n : ∀ xs, o ≠ .tup xs) : tupsOf H b = none := by
  cases e : tupsOf H b with
  | none => rfl
  | some u =>
    obtain ⟨h1, xs, rfl⟩ := tupsOf_some e
    rw [h] at h1
    exact absurd (Option.some.inj h1) (n xs)
theorem reps_ints {K : PySem.W.Frag} {F : Hp} : ∀ ns : List Int, Reps K F (ns.map VI.D.int) (ns.map V.int)
  | [] => .nil
  | n :: ns => .cons (.int n) (reps_ints ns)
theorem ints_of {K : PySem.W.Frag} {F : Hp} : ∀ {ns : List Int} {vs : List V}, Reps K F (ns.map VI.D.int) vs → vs = ns.map V.int
  | [], _, .nil => rfl
  | n :: ns, _, .cons h r => by cases h; rw [ints_of r]; rfl
section
variable {P : Program} {w : World} {K : PySem.W.Frag} {mg : Str → Option Value} {base : Heap} {cs : Nat → Addr} {D fI CR c Pt fa fi fc : Addr} {fd fdi fdc : FuncData}
theorem right_ok (M : Mw K mg fs gls G) (hok : fs.all (FD.ok (tbOf fs gls)) = true) (T : ErrAll P K mg cs D fI) (EE : ErrEnv K mg cs CR) (zall : mg "all" = none) (TB : TabB base mg c Pt) (hcode : fd.code = .ref c) (dm : DefM K mg "_law_right" s_right fa fd)
    (dI : DefM K mg "_law_is_raised" s_is_raised fi fdi) (dC : DefM K mg "_law_caught" s_caught fc fdc) (bC : Binds K fdc ["call"] []) (bI : Binds K fdi ["call", "due"] []) (n : Nat) : FnS P w K mg base C8.CX0 (n + 7) fa fd ["pot"] (spRi Pt (n + 6) n) := by
  refine FnS.bodyC dm.fn scR (fun b s xs H Q E ⟨a, ns, ns', e, _⟩ => by rw [e]; rfl) (fun cdv A' below s H us xs Q E hr gd e0 vl hcd ⟨a, ns, ns', e1, hpot, tab, lap, post⟩ => ?_)
  obtain rfl : cdv = .ref c := hcd.symm.trans hcode
  subst e1
  have wd := wd_mk (CG := C8.CX0) (P := P) (w := w) (base := base) (qual := "_law_right") (sc := defScope s_right) (fa := fa) (cdv := .ref c) (outer := below) (s := s) (H := H) (E := E) M hok scR.nd hr gd
  have wb : Wb (cxOf C8.CX0 P w K mg base NR "_law_right" (defScope s_right) fa (.ref c) A' below s H E).nox (tbOf fs gls) NR (Cn (n + 6)) (defScope s_right) := ⟨wd_nox wd, rfl, rfl, rfl, scR.kind⟩
  have TBY : TabB (cxOf C8.CX0 P w K mg base NR "_law_right" (defScope s_right) fa (.ref c) A' below s H E).nox.base (cxOf C8.CX0 P w K mg base NR "_law_right" (defScope s_right) fa (.ref c) A' below s H E).nox.mg c Pt := TB
  have hcY : (cxOf C8.CX0 P w K mg base NR "_law_right" (defScope s_right) fa (.ref c) A' below s H E).nox.env.code = .ref c := rfl
  rw [show defBody s_right = (defBody s_right).take 12 ++ (defBody s_right).drop 12 from (List.take_append_drop 12 _).symm]
  refine ⟨_, PSs.nox (snd_pre (P := [true]) wb (pss_cons (ps_set (i := 9) scR.nd rfl (.inl rfl) (pe_lst (pa_cons (pe_tup (pa_cons (pe_lam (X := (cxOf C8.CX0 P w K mg base NR "_law_right" (defScope s_right) fa (.ref c) A' below s H E).nox) TBY hcY rfl (by rfl) (hfr _ (by decide +kernel))) (pa_cons (pv 11) pa_nil))) pa_nil)))
      (pss_cons (ps_expr (pe_bm PySem.F.plainAttrs_list PySem.F.slot_list_append PySem.F.type_list_append mt_append (pv 9) (pa_cons (pe_tup (pa_cons (pe_lam (X := (cxOf C8.CX0 P w K mg base NR "_law_right" (defScope s_right) fa (.ref c) A' below s H E).nox) TBY hcY rfl (by rfl) (hfr _ (by decide +kernel))) (pa_cons (pe_op op_cat (pv 11) (pv 12)) pa_nil))) pa_nil)))
      (pss_cons (ps_expr (pe_bm PySem.F.plainAttrs_list PySem.F.slot_list_append PySem.F.type_list_append mt_append (pv 9) (pa_cons (pe_tup (pa_cons (pe_lam (X := (cxOf C8.CX0 P w K mg base NR "_law_right" (defScope s_right) fa (.ref c) A' below s H E).nox) TBY hcY rfl (by rfl) (hfr _ (by decide +kernel))) (pa_cons (pv 10) pa_nil))) pa_nil)))
      (pss_cons (ps_expr (pe_bm PySem.F.plainAttrs_list PySem.F.slot_list_append PySem.F.type_list_append mt_append (pv 9) (pa_cons (pe_tup (pa_cons (pe_lam (X := (cxOf C8.CX0 P w K mg base NR "_law_right" (defScope s_right) fa (.ref c) A' below s H E).nox) TBY hcY rfl (by rfl) (hfr _ (by decide +kernel))) (pa_cons (pv 10) pa_nil))) pa_nil)))
      (pss_cons (ps_expr (pe_bm PySem.F.plainAttrs_list PySem.F.slot_list_append PySem.F.type_list_append mt_append (pv 9) (pa_cons (pe_tup (pa_cons (pe_lam (X := (cxOf C8.CX0 P w K mg base NR "_law_right" (defScope s_right) fa (.ref c) A' below s H E).nox) TBY hcY rfl (by rfl) (hfr _ (by decide +kernel))) (pa_cons (pv 10) pa_nil))) pa_nil)))
      (pss_cons (ps_expr (pe_bm PySem.F.plainAttrs_list PySem.F.slot_list_append PySem.F.type_list_append mt_append (pv 9) (pa_cons (pe_tup (pa_cons (pe_lam (X := (cxOf C8.CX0 P w K mg base NR "_law_right" (defScope s_right) fa (.ref c) A' below s H E).nox) TBY hcY rfl (by rfl) (hfr _ (by decide +kernel))) (pa_cons (pv 10) pa_nil))) pa_nil)))
      (pss_cons (ps_expr (pe_bm PySem.F.plainAttrs_list PySem.F.slot_list_append PySem.F.type_list_append mt_append (pv 9) (pa_cons (pe_tup (pa_cons (pe_lam (X := (cxOf C8.CX0 P w K mg base NR "_law_right" (defScope s_right) fa (.ref c) A' below s H E).nox) TBY hcY rfl (by rfl) (hfr _ (by decide +kernel))) (pa_cons (pv 10) pa_nil))) pa_nil)))
      (pss_cons (ps_expr (pe_bm PySem.F.plainAttrs_list PySem.F.slot_list_append PySem.F.type_list_append mt_append (pv 9) (pa_cons (pe_tup (pa_cons (pe_lam (X := (cxOf C8.CX0 P w K mg base NR "_law_right" (defScope s_right) fa (.ref c) A' below s H E).nox) TBY hcY rfl (by rfl) (hfr _ (by decide +kernel))) (pa_cons (pe_op op_cat (pv 10) (pv 13)) pa_nil))) pa_nil)))
      (pss_one (ps_ret (pe_callB (cr_all rfl) (by rfl) zall (by decide +kernel) (pa_cons (pe_lcSeen (own := [("look", 14), ("due", 15)]) (g := gTup K 2 (gCons (gName 14) (gCons (gName 15) gNil))) (te := teR (cxOf C8.CX0 P w K mg base NR "_law_right" (defScope s_right) fa (.ref c) A' below s H E).nox cs (n + 3)) rfl scR.nd (pi_list (pv 9)) (blkOk_by (N := NR) (sc := defScope s_right) (by decide +kernel)) (fun _ _ _ _ _ => pg_tup rfl (pgs_cons (pg_name (i := 14) scR.nd rfl (.inl rfl)) (pgs_cons (pg_name (i := 15) scR.nd rfl (.inl rfl)) pgs_nil)))
        (fun σ0 pins s0 H0 C cl fp out => pe_elt (Y := (cxOf C8.CX0 P w K mg base NR "_law_right" (defScope s_right) fa (.ref c) A' below s H E).nox) (k := n + 3) EE dI dC bC bI (by exact ⟨rfl, rfl, rfl, rfl, rfl, rfl⟩) (by exact hr.mono (by omega)) (by exact gd) out (by rfl) rfl rfl (.inl rfl) (.inl rfl) (pe_ix ix_list (pe_op op_cat (pv 15) (pe_lst (pa_cons pe_non pa_nil))) pe_int (fun _ _ => rfl)) (by rfl) (by rfl) (by rfl)) (fun _ => rfl)) pa_nil)))))))))))) preS _ preOk), ?_⟩
  obtain ⟨ρ', hrun, hlen, h0, hn9, hfz, gl, rl, bl, nl, h10, h11, h12, h13, lg, lr, lb, ln, k1, k2, k3, k4, k5, k6, k7, k8⟩ := lap
  have hst : L2.start NR [V.ref a] = some (V.ref a) :: List.replicate 15 none := rfl
  have er0 : ERel K (tupsOf H) H (startR ns) (L2.start NR [V.ref a]) := by
    have one : ERel K (tupsOf H) H (AsE [(VI.D.lst (ns.map .int), true)]) (VsS [V.ref a]) := by
      refine ⟨rfl, fun i d h => ?_, fun i d h => ?_, fun i j d e b h1 h2 h3 h4 => ?_⟩
      · cases i with
        | zero => cases h
        | succ i => simp [AsE] at h
      · cases i with
        | zero => cases h; exact ⟨a, rfl, _, hpot, reps_ints ns, tupsOf_none hpot fun xs z => by cases z⟩
        | succ i => simp [AsE] at h
      · cases i with
        | zero =>
          cases j with
          | zero => rfl
          | succ j => simp [AsE] at h2
        | succ i => simp [AsE] at h1
    exact erel_pad (n := 15) one
  refine pre_ok preS (F := tupsOf H) (fun b o e => (tupsOf_some e).1) er0 ?_
  rw [hrun]
  intro F' H' σ' ss
  have er := ss.st.er
  have s0 : σ'[0]? = some (some (V.ref a)) := (ss.kp 0 rfl).trans rfl
  have keepH : ∀ b o, H b = some o → b ≠ a → H' b = some o := fun b o e hb => by
    by_cases ht : ∃ xs, o = .tup xs
    · obtain ⟨xs, rfl⟩ := ht
      have f0 : tupsOf H b = some (.tup xs) := by unfold tupsOf; rw [e]
      exact ss.st.fh _ _ (ss.st.ff _ _ f0)
    · have bx : Box o := by cases o <;> first | trivial | exact absurd ⟨_, rfl⟩ ht
      refine (ss.st.fr b o e bx (tupsOf_none e fun xs z => ht ⟨xs, z⟩) fun ⟨i, d, g1, g2⟩ => ?_).1
      cases i with
      | zero => cases g2; exact hb rfl
      | succ i => have := pad_get (l := AsE [(VI.D.lst (ns.map .int), true)]) (n := 15) g1; simp [AsE] at this
  obtain ⟨a0, g1, vs0, hp0, rp0, _⟩ := er.own 0 _ h0
  rw [s0] at g1
  cases g1
  obtain rfl := ints_of rp0
  obtain ⟨ag, sg, wg, hg, rg, _⟩ := er.own 10 _ h10
  obtain ⟨ar, sr, wr, hr', rr, _⟩ := er.own 11 _ h11
  obtain ⟨ab, sb, wbl, hb', rb, _⟩ := er.own 12 _ h12
  obtain ⟨an, sn, wn, hn', rn, _⟩ := er.own 13 _ h13
  have tabH : TabS H' Pt qR := by
    obtain ⟨ps, t1, t2, t3⟩ := tab
    have na : ∀ {b : Addr} {o : HO}, H b = some o → (∀ xs, o ≠ .lst xs) → b ≠ a := fun {b o} e n z => by rw [z, hpot] at e; exact n _ (Option.some.inj e).symm
    refine ⟨ps, keepH _ _ t1 (na t1 fun xs z => by cases z), t2, fun pos cv hc => ?_⟩
    obtain ⟨c0, e1, e2⟩ := t3 pos cv hc
    exact ⟨c0, e1, keepH _ _ e2 (na e2 fun xs z => by unfold CodeO at z; cases z)⟩
  have len9 : 9 < σ'.length := by rw [← er.len, hlen]; decide
  have ne9 : ∀ {i : Nat} {L : Addr}, i ≠ 9 → (σ'.set 9 (some (V.ref L)))[i]? = σ'[i]? := fun {i L} h => List.getElem?_set_ne (Ne.symm h)
  have lenW : ∀ {l : List VI.D} {ws : List V}, Reps K F' l ws → l.length ≤ 1 → ws.length ≤ 1 := fun {l ws} r h => by rw [← r.length]; exact h
  refine row_first tabH sr hr' fun L H1 t1 f1 q1 => ?_
  have s9 : (σ'.set 9 (some (V.ref L)))[9]? = some (some (V.ref L)) := List.getElem?_set_self len9
  have s10 : (σ'.set 9 (some (V.ref L)))[10]? = some (some (V.ref ag)) := (ne9 (by decide)).trans sg
  have s11 : (σ'.set 9 (some (V.ref L)))[11]? = some (some (V.ref ar)) := (ne9 (by decide)).trans sr
  have s12 : (σ'.set 9 (some (V.ref L)))[12]? = some (some (V.ref ab)) := (ne9 (by decide)).trans sb
  have s13 : (σ'.set 9 (some (V.ref L)))[13]? = some (some (V.ref an)) := (ne9 (by decide)).trans sn
  have wr1 := lenW rr lr
  have wb1 := lenW rb lb
  have wg1 := lenW rg lg
  have wn1 := lenW rn ln
  refine row_cat q1 s9 s11 s12 hr' hb' (by simp) (by omega) fun H2 t2 f2 l2 q2 => ?_
  refine row_var q2 s9 s10 hg (by simp) fun H3 t3 f3 q3 => ?_
  refine row_var q3 s9 s10 hg (by simp) fun H4 t4 f4 q4 => ?_
  refine row_var q4 s9 s10 hg (by simp) fun H5 t5 f5 q5 => ?_
  refine row_var q5 s9 s10 hg (by simp) fun H6 t6 f6 q6 => ?_
  refine row_var q6 s9 s10 hg (by simp) fun H7 t7 f7 q7 => ?_
  refine row_cat q7 s9 s10 s13 hg hn' (by simp) (by omega) fun H8 t8 f8 l8 q8 => ?_
  refine ⟨.ref L, s9, L, rfl, ⟨_, SqL.of q8.at_⟩, fun Dl nD => ?_⟩
  have ex8 : ExtN F' H8 := fun b o e n => q8.ext b o (ss.st.fh b o e) n
  have fz8 : ∀ (i : Nat) (d : VI.D), ρ'[i]? = some (some (d, false)) → ∃ v, (σ'.set 9 (some (V.ref L)))[i]? = some (some v) ∧ Rep K H8 d v := fun i d h => by
    obtain ⟨v, e1, r⟩ := er.frz i d h
    refine ⟨v, ?_, r.monoN ex8⟩
    by_cases h9 : i = 9
    · rw [h9, hn9] at h; cases h
    · exact (ne9 h9).trans e1
  have len8 : ρ'.length = (σ'.set 9 (some (V.ref L))).length := by rw [List.length_set]; exact er.len
  have mk : ∀ {r : Row} {l : List VI.D} {g np : Nat} {el : VI.E} {B : FD}, RowOk L qR H8 r → Reps K F' l r.ws → r.ws.length ≤ 100 → LookD n ρ' g el np (hd1 l) → el ≠ .nil → fs[g]? = some B → B.ps.length = np → lamSB (defScope s_right) r.scope = true →
      r.cl = cloFrom (cxOf C8.CX0 P w K mg base NR "_law_right" (defScope s_right) fa (.ref c) A' below s H E).nox.env.cells r.scope.names [] → (∀ (pm cv ctv : Value), bindArgs (PySem.W.kla_fn "<lambda>" qR r.params r.body r.scope r.cl pm cv ctv) ⟨[], []⟩ = pure []) → mtE (tbOf fs gls) NR (.call g el) r.scope r.body = true →
      ∃ o due vd, (r.ws ++ [V.non])[0]? = some vd ∧ r.ws.length ≤ 100 ∧ Rep K H8 due vd ∧ Due cs due o ∧ ∀ (F2 : Hp) (pins : List (Addr × Obj)) (s2 : Shared) (H3 : Hp), Same H8 F2 → Inv (cxOf C8.CX0 P w K mg base NR "_law_right" (defScope s_right) fa (.ref c) A' below s H E).nox pins (σ'.set 9 (some (V.ref L))) H3 s2 → Same F2 H3 →
        ClosRun P w K mg base (n + 3) (frs (cxOf C8.CX0 P w K mg base NR "_law_right" (defScope s_right) fa (.ref c) A' below s H E).nox.stack) s2 H3 F2 r.f o := fun {r l g np el B} ok rl wl lk ne hB hnp hL hcl hbind m => by
    obtain ⟨vd, v1, v2⟩ := hd1_rep rl
    obtain ⟨_, ic, _⟩ := ok
    rw [hcl] at ic hbind
    obtain ⟨o, d1, d2⟩ := spec_look (Y := (cxOf C8.CX0 P w K mg base NR "_law_right" (defScope s_right) fa (.ref c) A' below s H E).nox) M hok T scR.nd lk ne hB hnp len8 fz8 (lamS_by hL) ic hbind m
    exact ⟨o, _, vd, v1, wl, v2.monoN ex8, d1, d2⟩
  have ok8 := q8.ok
  have rcat : Reps K F' (rl ++ bl) (wr ++ wbl) := rr.append rb
  have gcat : Reps K F' (gl ++ nl) (wg ++ wn) := rg.append rn
  have lc1 : (wr ++ wbl).length ≤ 100 := by rw [List.length_append]; omega
  have lc2 : (wg ++ wn).length ≤ 100 := by rw [List.length_append]; omega
  simp only [List.cons_append, List.nil_append, List.forall_mem_cons] at ok8
  obtain ⟨o1, o2, o3, o4, o5, o6, o7, o8, _⟩ := ok8
  have m1 := mk o1 rr (by dsimp only; omega) k1 (by simp) (B := t17) rfl rfl (by dsimp only; decide +kernel) rfl (fun _ _ _ => rfl) (by dsimp only; decide +kernel)
  have m2 := mk o2 rcat lc1 k2 (by simp) (B := t29) rfl rfl (by dsimp only; decide +kernel) rfl (fun _ _ _ => rfl) (by dsimp only; decide +kernel)
  have m3 := mk o3 rg (by dsimp only; omega) k3 (by simp) (B := t19) rfl rfl (by dsimp only; decide +kernel) rfl (fun _ _ _ => rfl) (by dsimp only; decide +kernel)
  have m4 := mk o4 rg (by dsimp only; omega) k4 (by simp) (B := t21) rfl rfl (by dsimp only; decide +kernel) rfl (fun _ _ _ => rfl) (by dsimp only; decide +kernel)
  have m5 := mk o5 rg (by dsimp only; omega) k5 (by simp) (B := t30) rfl rfl (by dsimp only; decide +kernel) rfl (fun _ _ _ => rfl) (by dsimp only; decide +kernel)
  have m6 := mk o6 rg (by dsimp only; omega) k6 (by simp) (B := t35) rfl rfl (by dsimp only; decide +kernel) rfl (fun _ _ _ => rfl) (by dsimp only; decide +kernel)
  have m7 := mk o7 rg (by dsimp only; omega) k7 (by simp) (B := t40) rfl rfl (by dsimp only; decide +kernel) rfl (fun _ _ _ => rfl) (by dsimp only; decide +kernel)
  have m8 := mk o8 gcat lc2 k8 (by simp) (B := t39) rfl rfl (by dsimp only; decide +kernel) rfl (fun _ _ _ => rfl) (by dsimp only; decide +kernel)
  obtain ⟨R8, hR8⟩ : ∃ R8, R8 = rowsOf q8 := ⟨_, rfl⟩
  have lenR : R8.length = 8 := by rw [hR8]; rfl
  have spec : ∀ r ∈ R8, ∃ o due vd, (r.ws ++ [V.non])[0]? = some vd ∧ r.ws.length ≤ 100 ∧ Rep K H8 due vd ∧ Due cs due o ∧ ∀ (F2 : Hp) (pins : List (Addr × Obj)) (s2 : Shared) (H3 : Hp), Same H8 F2 → Inv (cxOf C8.CX0 P w K mg base NR "_law_right" (defScope s_right) fa (.ref c) A' below s H E).nox pins (σ'.set 9 (some (V.ref L))) H3 s2 → Same F2 H3 →
        ClosRun P w K mg base (n + 3) (frs ((cxOf C8.CX0 P w K mg base NR "_law_right" (defScope s_right) fa (.ref c) A' below s H E).nox).stack) s2 H3 F2 r.f o := by
    rw [hR8]
    unfold rowsOf
    simp only [List.cons_append, List.nil_append, List.forall_mem_cons]
    exact ⟨m1, m2, m3, m4, m5, m6, m7, m8, fun _ h => nomatch h⟩
  have qR8 : Looks qR Pt H' H8 L R8 := by rw [hR8]; exact q8
  clear m1 m2 m3 m4 m5 m6 m7 m8 o1 o2 o3 o4 o5 o6 o7 o8 mk hR8 q8
  have nDl : ∀ {b : Addr} {o : HO}, H8 b = some o → b ≠ Dl := fun e => ne_of_none e nD
  refine lc_list (K := K) (a := L) (xs := R8.map fun r => V.ref r.t) (fun i Hc => Same H8 Hc ∧ Hc Dl = some (.lst (List.replicate i (V.bl true)))) ⟨fun b o e => by rw [upd_ne (nDl e)]; exact e, upd_same⟩ (fun i Hc _ p => SqL.of (p.1 _ _ qR8.at_)) (fun i x Hc hx p => ?_) fun Hc p => ?_
  · obtain ⟨p1, p2⟩ := p
    rw [List.getElem?_map] at hx
    obtain ⟨r, h1, rfl⟩ := Option.map_eq_some_iff.mp hx
    have hr8 := List.mem_of_getElem? h1
    have i8 : i < 8 := by rw [← lenR]; exact (List.getElem?_eq_some_iff.mp h1).1
    obtain ⟨r1, r2, r3, _⟩ := qR8.ok r hr8
    obtain ⟨o, due, vd, v1, v2, v3, v4, v5⟩ := spec r hr8
    have lenS : (wipe (σ'.set 9 (some (V.ref L))) [14, 15]).length = 16 := by rw [wipe_length, List.length_set, ← er.len, hlen]
    have F1 : Same H8 (upd H8 Dl (.lst (List.replicate i (V.bl true)))) := fun b o e => by rw [upd_ne (nDl e)]; exact e
    refine ⟨r.t, _, rfl, SqT.of (p1 _ _ r1), rfl, _, _, rfl, _, _, rfl, rfl, wipe2 _ _ _, ?_⟩
    unfold tYes
    dsimp only
    rw [if_pos rfl]
    refine ⟨upd H8 Dl (.lst (List.replicate i (V.bl true))), r.f, r.l, r.ws, o, due, vd, qR, r.params, r.body, r.scope, r.cl, ?_, ?_, p1 _ _ r3, v2, v1, fun b u e => ?_, v3.mono F1, r2.mono F1, fun pins s2 H3 I2 sm => v5 _ pins s2 H3 F1 I2 sm, v4, fun F2 H2 sa sb => ?_⟩
    · rw [List.getElem?_set_ne (by decide)]
      exact List.getElem?_set_self (by show 14 < (wipe (σ'.set 9 (some (V.ref L))) [14, 15]).length; rw [lenS]; decide)
    · exact List.getElem?_set_self (by rw [List.length_set]; show 15 < (wipe (σ'.set 9 (some (V.ref L))) [14, 15]).length; rw [lenS]; decide)
    · by_cases hb : b = Dl
      · rw [hb, upd_same] at e
        rw [hb, p2]
        exact e
      · rw [upd_ne hb] at e
        exact p1 _ _ e
    · have hD : H2 Dl = some (.lst (List.replicate i (V.bl true))) := sb _ _ (sa _ _ upd_same)
      refine ⟨_, hD, by rw [List.length_replicate, sizeLine_eq]; omega, fun b u e => ?_, ?_⟩
      · rw [upd_ne (nDl e)]
        exact sb _ _ (sa _ _ (F1 _ _ e))
      · rw [upd_same, List.replicate_succ']
  · obtain ⟨p1, p2⟩ := p
    refine ⟨Dl, List.replicate 8 true, rfl, SqL.of (by rw [p2, List.length_map, lenR]; rfl), ?_⟩
    refine post Hc (p1 _ _ (qR8.ext _ _ hp0 lst_nt)) (qR8.tab.ext p1) fun b o e n hb => p1 _ _ (qR8.ext b o (keepH b o e hb) n)
end
end VI.L

set_option Elab.async false
set_option linter.all false
set_option autoImplicit false
set_option maxRecDepth 100000
set_option maxHeartbeats 16000000
/-! W18: law(script). -/
namespace VI.L
open PySem PySem.Spec PyProof.Rows L2 VI LamX
def NL : List Str := ["script", "place", "pot", "lap"]
theorem scL : FnScope NL ["script"] (defScope slaw) := C8.fnScope_by (by decide +kernel)
def cellE : E := .call 44 (.cons (.var 0) (.cons (.int 3) .nil))
def potS : S := .asg (.nm 2) (.call 41 (.cons (.var 0) (.cons (.var 1) .nil)))
def rowL (ns : List Int) (c : Option Int) (p : Option (List Int)) : EnvD := [some (.ro (ns.map .int), false), c.map fun c => (VI.D.int c, false), p.map fun p => (VI.D.lst (p.map .int), true), none]
/-- the plain fact of a script -/
def LawD (n : Nat) (ns : List Int) : Prop := ∃ cs : List Int, ev (Cn (n + 7)) cellE (rowL ns none none) = .ok (.val (.lst (cs.map .int)) true, rowL ns none none) ∧
  ∀ c ∈ cs, ∃ pots : Nat → List Int, run (Cn (n + 7)) [true] potS (rowL ns (some c) none) = .ok (.nx (rowL ns (some c) (some (pots 0)))) ∧ ∀ j < 8, Lap (n + 6) n (pots j) (pots (j + 1))
def spLw (K : PySem.W.Frag) (Pt : Addr) (n : Nat) : SpS := fun _ _ xs H Q _ => ∃ a ns, xs = [.ref a] ∧ SqL K H a (ns.map V.int) ∧ TabS H Pt qR ∧ LawD n ns ∧ ∀ H', Q (.bl true) H'
/-- an element: _law_right(pot) -/
def teL (Pt : Addr) (m n : Nat) : TE := fun σ H Q => ∃ a ns ns', σ[2]? = some (some (.ref a)) ∧ H a = some (.lst (ns.map V.int)) ∧ TabS H Pt qR ∧ Lap m n ns ns' ∧ ∀ H', H' a = some (.lst (ns'.map V.int)) → TabS H' Pt qR → (∀ b o, H b = some o → (∀ ps, o ≠ .tbl ps) → b ≠ a → H' b = some o) → Q (.bl true) H'
section
variable {B : Cx} {Pt fa : Addr} {fd : FuncData} {k m n : Nat}
theorem pe_right (R : FnS B.prog B.w B.K B.mg B.base C8.CX0 k fa fd ["pot"] (spRi Pt m n)) (dm : DefM B.K B.mg "_law_right" s_right fa fd) (bc : Binds B.K fd ["pot"] []) (hr : Room k B.A) (gd : B.A.guards = some []) {p1 p2 p3 : Pos} (hg : Gl B "_law_right") (h2 : B.N[2]? = some ("pot" : Str)) (v2 : Vis B.env.scope "pot")
    (hst : starEach [Expr.Name "pot" p2] B.env = (false, eval (.Name "pot" p2) B.env) :: starEach [] B.env) (hp : (backTo p3 (starEach [] B.env)).any (·.1) = false) : PE B (.Call (.Name "_law_right" p1) [.Name "pot" p2] [] p3) (teL Pt m n) := by
  refine PE.imp (g_call (E := fun _ => E0) R hr gd hg dm.mgf dm.fn.kp bc (fun _ _ _ _ _ _ _ (c : False) => c.elim) (pa_cons (pe_var (i := 2) h2 v2) pa_nil hst) (by decide) hst hp) fun σ' H Q h => ?_
  obtain ⟨a, ns, ns', s2, hl, tb, lp, post⟩ := h
  exact ⟨.ref a, s2, fun s' pins' I' => ⟨a, ns, ns', rfl, hl, tb, lp, post⟩⟩
end
theorem sqL_extN {K : PySem.W.Frag} {H H' : Hp} {a : Addr} {xs : List V} (e : ExtN H H') (h : SqL K H a xs) : SqL K H' a xs := h.elim (fun h => .inl (rd_extN e (fun ps z => by cases z) h)) .inr
def StL (K : PySem.W.Frag) (Pt a L : Addr) (ns cs : List Int) (σi : L2.St) (Hi : Hp) : Prop := σi[0]? = some (some (.ref a)) ∧ σi.length = 4 ∧ SqL K Hi a (ns.map V.int) ∧ TabS Hi Pt qR ∧ Hi L = some (.lst (cs.map V.int))
section
variable {P : Program} {w : World} {K : PySem.W.Frag} {mg : Str → Option Value} {base : Heap} {c Pt fa fr : Addr} {fd fdr : FuncData}
theorem erL {H : Hp} {a : Addr} {ns : List Int} (sq : SqL K H a (ns.map V.int)) {σ : L2.St} (co : Option Int) (s0 : σ[0]? = some (some (.ref a))) (s1 : ∀ c, co = some c → σ[1]? = some (some (.int c))) (len : σ.length = 4) : ERel K H H (rowL ns co none) σ := by
  refine ⟨len.symm, fun i d h => ?_, fun i d h => ?_, fun i j d e b h1 => ?_⟩
  · match i with
    | 0 =>
      cases h
      exact ⟨_, s0, .ro sq (reps_ints ns)⟩
    | 1 =>
      cases co with
      | none => cases h
      | some c => cases h; exact ⟨_, s1 c rfl, .int c⟩
    | 2 => cases h
    | 3 => cases h
    | i + 4 => cases h
  · match i with
    | 0 => cases h
    | 1 => cases co <;> cases h
    | 2 => cases h
    | 3 => cases h
    | i + 4 => cases h
  · match i with
    | 0 => cases h1
    | 1 => cases co <;> cases h1
    | 2 => cases h1
    | 3 => cases h1
    | i + 4 => cases h1
theorem law_okS (M : Mw K mg fs gls G) (hok : fs.all (FD.ok (tbOf fs gls)) = true) (zall : mg "all" = none) (zrng : mg "range" = none) (dm : DefM K mg "law" slaw fa fd) (dR : DefM K mg "_law_right" s_right fr fdr) (bR : Binds K fdr ["pot"] []) (n : Nat)
    (R : FnS P w K mg base C8.CX0 (n + 7) fr fdr ["pot"] (spRi Pt (n + 6) n)) : FnS P w K mg base C8.CX0 (n + 8) fa fd ["script"] (spLw K Pt n) := by
  refine FnS.bodyC dm.fn scL (fun b s xs H Q E ⟨a, ns, e, _⟩ => by rw [e]; rfl) (fun cdv A' below s H us xs Q E hr gd e0 vl hcd ⟨a, ns, e1, sq, tab, ⟨cs, hcs, lw⟩, post⟩ => ?_)
  subst e1
  have wd := wd_mk (CG := C8.CX0) (P := P) (w := w) (base := base) (qual := "law") (sc := defScope slaw) (fa := fa) (cdv := cdv) (outer := below) (s := s) (H := H) (E := E) M hok scL.nd hr gd
  have wb : Wb (cxOf C8.CX0 P w K mg base NL "law" (defScope slaw) fa cdv A' below s H E).nox (tbOf fs gls) NL (Cn (n + 7)) (defScope slaw) := ⟨wd_nox wd, rfl, rfl, rfl, scL.kind⟩
  refine ⟨_, PSs.nox (pss_cons (ps_for (X := (cxOf C8.CX0 P w K mg base NL "law" (defScope slaw) fa cdv A' below s H E).nox) PassesOwn.never rfl (pi_list (snd_e cellE (sc := defScope slaw) wb.w rfl (by decide +kernel)).1) (pg_name (i := 1) scL.nd rfl (.inl rfl))
    (pss_cons (snd_s (P := [true]) potS wb (by decide +kernel)) (pss_one (ps_if (pt_not (pt_val (pe_callB (cr_all rfl) (by rfl) zall (by decide +kernel) (pa_cons (pe_lc (own := [("lap", 3)]) rfl scL.nd (pi_range1 (by rfl) zrng (pa_cons pe_int pa_nil)) (blkOk_by (N := NL) (sc := defScope slaw) (by decide +kernel))
      (fun _ _ _ _ _ => pg_name (i := 3) scL.nd rfl (.inl rfl)) (fun _ _ _ _ _ => pts_nil) (fun s0 H0 C cl fp => pe_right R dR bR (by exact hr.mono (by omega)) (by exact gd) (by rfl) rfl (.inr (.inl (by kernel_rfl))) (by rfl) (by rfl))) pa_nil)))) (pss_one (ps_ret pe_bl)) pss_nil)))) (pss_one (ps_ret pe_bl))), ?_⟩
  refine ⟨H, rowL ns none none, Same.refl H, erL sq none rfl (fun _ z => nomatch z) rfl, ?_⟩
  rw [hcs]
  intro F1 H1 v se ⟨hv, nv⟩
  obtain ⟨L, rfl, ⟨vs, hL, rl, nF⟩, _⟩ := hv
  obtain rfl := ints_of rl
  have ext1 : ∀ b o, H b = some o → H1 b = some o := fun b o e => se.st.fh _ _ (se.st.ff _ _ e)
  refine ⟨L, rfl, ⟨_, SqL.of hL⟩, fun i m σi Hi => m = cs.length - i ∧ i ≤ cs.length ∧ StL K Pt a L ns cs σi Hi, ⟨cs.length, by simp, Nat.zero_le _, rfl, rfl, sqL_extN (ExtN.of ext1) sq, tab.ext ext1, hL⟩, ?_⟩
  rintro i m σi Hi ⟨rfl, hi, st⟩
  obtain ⟨st0, st1, st2, st3, st4⟩ := st
  by_cases hlt : i < cs.length
  · refine .inr ⟨⟨_, V.int cs[i], SqL.of st4, by rw [List.getElem?_map, List.getElem?_eq_getElem hlt]; rfl⟩, StL K Pt a L ns cs, fun σ' H' w => ⟨cs.length - (i + 1), by omega, rfl, hlt, w⟩, fun x H' y => ?_⟩
    obtain ⟨rfl, y⟩ := y
    have y := y _ (SqL.of st4)
    rw [List.getElem?_map, List.getElem?_eq_getElem hlt] at y
    have y : V.int cs[i] = x := Option.some.inj y
    subst y
    obtain ⟨pots, hrun, laps⟩ := lw cs[i] (List.getElem_mem hlt)
    refine ⟨H', rowL ns (some cs[i]) none, Same.refl H', erL st2 (some cs[i]) (by rw [List.getElem?_set_ne (by decide)]; exact st0) (fun c e => by cases e; exact List.getElem?_set_self (by rw [st1]; decide)) (by rw [List.length_set]; exact st1), ?_⟩
    rw [hrun]
    intro F2 H2 σ2 ss
    have ext2 : ∀ b o, H' b = some o → H2 b = some o := fun b o e => ss.st.fh _ _ (ss.st.ff _ _ e)
    obtain ⟨a2, s2, vs, hp, rp, nF2⟩ := ss.st.er.own 2 _ rfl
    obtain rfl := ints_of rp
    have na2 : ∀ b o, H' b = some o → b ≠ a2 := fun b o e z => by
      have := ss.st.ff _ _ e
      rw [z, nF2] at this
      cases this
    have len2 : σ2.length = 4 := ss.st.er.len.symm
    have s20 : σ2[0]? = some (some (.ref a)) := by
      rw [ss.kp 0 rfl, List.getElem?_set_ne (by decide)]
      exact st0
    refine ⟨8, rfl, by decide, by decide, fun D nD => ?_⟩
    have nb : ∀ {b : Addr} {o : HO}, H2 b = some o → b ≠ D := fun e => ne_of_none e nD
    refine lc_range (lo := 0) (n := 8) (fun j Hc => ExtN H' Hc ∧ TabS Hc Pt qR ∧ Hc a2 = some (.lst ((pots j).map V.int)) ∧ Hc D = some (.lst (List.replicate j (V.bl true)))) ⟨fun b o e n => by rw [upd_ne (nb (ext2 _ _ e))]; exact ext2 _ _ e, TabS.new (st3.ext ext2) nD, by rw [upd_ne (nb hp)]; exact hp, upd_same⟩ (fun j Hc hj p => ?_) fun Hc p => ?_
    · obtain ⟨p1, p2, p3, p4⟩ := p
      refine ⟨by show (((wipe σ2 [3]).set 3 _).set 3 none) = (σ2.set 3 none); show (((σ2.set 3 none).set 3 _).set 3 none) = (σ2.set 3 none); rw [List.set_set, List.set_set], ?_⟩
      unfold tYes
      dsimp only
      rw [if_pos rfl]
      refine ⟨a2, pots j, pots (j + 1), ?_, p3, p2, laps j hj, fun H3 q1 q2 q3 => ?_⟩
      · show ((σ2.set 3 none).set 3 _)[2]? = _
        rw [List.getElem?_set_ne (by decide), List.getElem?_set_ne (by decide)]
        exact s2
      · have nD2 : D ≠ a2 := fun z => by rw [z, hp] at nD; cases nD
        have hD : H3 D = some (.lst (List.replicate j (V.bl true))) := q3 _ _ p4 lst_nt nD2
        refine ⟨_, hD, by rw [List.length_replicate, sizeLine_eq]; omega, fun b o e n => ?_, TabS.put q2 hD, ?_, ?_⟩
        · rw [upd_ne (nb (ext2 _ _ e))]
          exact q3 _ _ (p1 _ _ e n) n (na2 _ _ e)
        · rw [upd_ne (Ne.symm nD2)]
          exact q1
        · rw [upd_same, List.replicate_succ']
    · obtain ⟨p1, p2, p3, p4⟩ := p
      refine ⟨D, List.replicate 8 true, rfl, SqL.of p4, ?_⟩
      refine ⟨true, rfl, ?_⟩
      exact ⟨s20, len2, sqL_extN p1 st2, p2, p1 _ _ st4 lst_nt⟩
  · have e : i = cs.length := by omega
    subst e
    exact .inl ⟨⟨_, SqL.of st4, by rw [List.length_map]; exact Nat.le_refl _⟩, post _⟩
end
end VI.L

set_option Elab.async false
set_option linter.all false
set_option autoImplicit false
set_option maxRecDepth 100000
set_option maxHeartbeats 8000000
/-! Z1: draws. -/
namespace VI.L
open PySem PySem.Spec PyProof.Rows L2 VI

abbrev dfs : List Df := fs.map (·.df)
abbrev fn (n : Nat) : Nat → Fn := callI G dfs n
theorem fn_eq {n f : Nat} {df : Df} (h : dfs[f]? = some df) (xs : List (D × Bool)) : fn (n + 1) f xs = R.ite (decide (xs.length = df.np) && decide (df.np ≤ df.nl) && okKeep df.keep xs) (kFin df.keep xs (run ⟨G, fn n⟩ df.keep df.body (xs.map some ++ List.replicate (df.nl - df.np) none))) := call_eq h xs
theorem eqD_int {x y : Int} : eqD (.int x) (.int y) = .ok (x == y) := by
  show eqP _ _ = _
  simp [eqP, toPy, R.of, R.bind, R.ite, SeqAt.shaped, PyData.canLay0, PyData.depth, PyData.eqv]
theorem bits_le {x : Int} {k : Nat} (h1 : -(2 ^ k : Int) < x) (h2 : x < 2 ^ k) : Builtin.Int.intBits x ≤ k := by
  unfold Builtin.Int.intBits
  split
  · exact Nat.zero_le _
  · rename_i h
    have hx : x ≠ 0 := by simpa using h
    have h0 : x.natAbs ≠ 0 := by omega
    have h3 : x.natAbs < 2 ^ k := by
      have e : ((2 ^ k : Nat) : Int) = (2 : Int) ^ k := by simp
      omega
    exact (Nat.log2_lt h0).mpr h3
theorem b64 {x : Int} (h1 : -(2 ^ 64 : Int) < x) (h2 : x < 2 ^ 64) : bound64 x = true := by
  unfold bound64
  rw [decide_eq_true h1, decide_eq_true h2]
  rfl
theorem bPow {x : Int} {j : Nat} (hj : j ≤ 60) (h1 : -(2 ^ 200 : Int) < x) (h2 : x < 2 ^ 200) : binD .pow (.int x) (.int (j : Nat)) = .ok (.int (x ^ j), false) := by
  have hb := bits_le h1 h2
  have h : ((Builtin.Int.intBits x : Nat) : Int) * (j : Int) ≤ 2 ^ 27 := by
    have : (Builtin.Int.intBits x) * j ≤ 200 * 60 := Nat.mul_le_mul hb hj
    have e : (((Builtin.Int.intBits x) * j : Nat) : Int) = ((Builtin.Int.intBits x : Nat) : Int) * (j : Int) := by simp
    rw [← e]
    omega
  show R.ite (decide (0 ≤ (j : Int)) && decide ((Builtin.Int.intBits x : Int) * (j : Int) ≤ 2 ^ 27)) _ = _
  rw [decide_eq_true h, decide_eq_true (Int.natCast_nonneg j)]
  rfl
/-- the pot: at most N draws -/
def Pot (N : Int) (d : D) : Prop := ∃ a b c : Int, d = .lst [.int a, .int b, .int c] ∧ 0 ≤ a ∧ 0 ≤ b ∧ b < 2 ^ 61 ∧ 0 ≤ c ∧ c ≤ N
theorem Pot.up {N M : Int} {d : D} (h : Pot N d) (hm : N ≤ M) : Pot M d := by
  obtain ⟨a, b, c, e, h1, h2, h3, h4, h5⟩ := h
  exact ⟨a, b, c, e, h1, h2, h3, h4, by omega⟩
theorem ix0 {n : Nat} : ixN (n + 1) 0 = some 0 := by simp [ixN]
theorem p0 {a b c : D} : atI [a, b, c] 0 = some a := rfl
theorem p1 {a b c : D} : atI [a, b, c] 1 = some b := rfl
theorem p2 {a b c : D} : atI [a, b, c] 2 = some c := rfl
theorem i30 : ixN 3 0 = some 0 := rfl
theorem i32 : ixN 3 2 = some 2 := rfl
theorem pick4 {k : Int} (h1 : 0 ≤ k) (h2 : k < 4) : ∃ m : Int, atI [D.int 2147483647, .int 2147483629, .int 2147483587, .int 2147483579] k = some (.int m) ∧ 2147483579 ≤ m ∧ m ≤ 2147483647 := by
  rcases (by omega : k = 0 ∨ k = 1 ∨ k = 2 ∨ k = 3) with rfl | rfl | rfl | rfl
  · exact ⟨_, rfl, by decide, by decide⟩
  · exact ⟨_, rfl, by decide, by decide⟩
  · exact ⟨_, rfl, by decide, by decide⟩
  · exact ⟨_, rfl, by decide, by decide⟩
theorem take_ok (n : Nat) {N : Int} {p : D} (hp : Pot N p) (hN : N < 2 ^ 50) {u : Int} (h1 : 1 ≤ u) (h2 : u < 2 ^ 30) :
    ∃ r p', fn (n + 1) 42 [(p, true), (.int u, false)] = .ok ((.int r, false), [(p', true), (.int u, false)]) ∧ 0 ≤ r ∧ r < u ∧ Pot (N + 1) p' := by
  obtain ⟨a, b, c, rfl, ha, hb, hb2, hc, hcN⟩ := hp
  rw [fn_eq (df := t42.df) rfl]
  simp only [t42, b42]
  have u0 : 0 < u := by omega
  by_cases h0 : 0 < a
  · refine ⟨a % u, .lst [.int (a / u), .int b, .int c], ?_, Int.emod_nonneg _ (by omega), Int.emod_lt_of_pos _ u0, _, _, _, rfl, Int.ediv_nonneg ha (by omega), hb, hb2, hc, by omega⟩
    have h2' : u < 1073741824 := h2
    simp [bAddI, bAddS, bAddT, bAddL, bSubI, bMulI, bMulT, bModI, bDivI, idxD, cmpD, inD, eqD_int, bfD, bf1, bf2, slcD, revD, isiD, itemsD, enmD, rngD, setSlot, canSet, wipeD, backD, Tg.slots, params, okKeep, nodupB, slotsOf, putBack, setiD, appD, extD, toPy, toPys, flatD, flatDs, L2.flatV, upD, lenLine, rb1, ri1, ro1, gd0, gdS, res_slot_eq, kGet1, res_val, frz_slot_e, kFrz1, kFrz2, frz_val, tak_slot_e, kTak1, tak_val, ev_var, kVar1, kVar2, ev_non, ev_bl, ev_int, ev_neg, ev_str, ev_dnew, ev_glb, kGlb1, kDn1, kDv1, kDb1, ev_tup, kTup1, ev_lst, kLst1, evL_nil, evL_cons, kL11, kL21, kL31, ev_bin, kBin11, kBin21, kBin31, ev_cmp, kCmp11, kCmp21, kCmp31, ev_chain, kCh01, kCh11, kCh21, kCh31, kCh32, kCh41, kCh51, tst_eq, kTst1, ev_and, ev_or, evW_one, evW_two, kW11, kW2a, kW2b, kW2c, kW2d, ev_not, kNot1, ev_ite, kIte1, kIte2, ev_idx, kIdx11, kIdx21, kIdx31, kB1, optE_nil, optE_int, optE_var, optE_neg, optE_bin, optE_bc, ev_slc, kSl11, kSl21, kSl31, kSl41, ev_rev, kRev11, kRev21, evA_nil, evA_cons, kA11, kA21, callD_eq, ev_call, ev_callk, kOne1, kCl11, kCl21, kEnd1, argsD_nil, argsD_slot, argsD_val, kAr11, kAr21, ress_nil, ress_cons, kRs11, kRs21, ev_bc, kBf11, kBf21, ev_isi, kIsi11, kIsi21, ev_upper, kUp11, kUp21, ev_comp, kLc11, kLc21, turn_eq, optC_nil, optC_cmp, optC_isi, optC_not, optC_and, optC_or, optC_call, kTn11, kTn21, kTn22, kTn31, kTn41, kPr1, evI_itv, kIv11, kIv21, evI_enm, kEm11, kEm21, evI_rng1, kR11, kR21, evI_zip, kZ11, kZ21, kZ31, kZ41, run_nil, run_cons, kSq1, kSq2, kNx1, run_asg, kAs11, kAs21, run_asgT, kAt11, kAt21, run_par, kPa11, kPa21, kPa31, kPa41, kPa51, run_seti, kSi01, kSi11, kSi21, kSi31, kSi41, kSi51, kSi61, run_app, run_ext, kAp01, kAp11, kAp21, kAp31, kAp41, run_ret, kRt11, kRt21, run_ite, kIf1, kIf2, run_for, kFo11, turnS_eq, kBt1, bindT_nm, bindT_tp, setSlots_nil, setSlots_cons, kSs1, kFin1, kFin2, ev_dnewT, evL_consS, kLs11, kLs21t, kLs21l, kLs31, kDl1, ev_srts, kSt11, kSt21, ev_srtd, kSd11, kSd21, ev_isup, kIu11, kIu21, optC_isup, run_alone, kAl1, run_par3, kPt21, kPt31, kPt41, kPt51, kPt61, kPt71, kPt81, kPt91, run_updd, kUd01, kUd11, kUd21, kUd31, kUd41, pickAt_eq, kPk11, kPk21, kPk31, kPk41, kPk51, kPk61, run_pick, kPc11, kPc12, kPc21, kPc22, kPc31, kPc32, p0, p2, h0, u0, h2', i30]
  · obtain ⟨m, hm, m1, m2⟩ := pick4 (Int.emod_nonneg (c + 1) (by decide)) (Int.emod_lt_of_pos (c + 1) (by decide))
    have m0 : 0 < m := by omega
    obtain ⟨X, hX⟩ : ∃ X, X = b + 147289 * (c + 1) * (c + 1) + 4215 := ⟨_, rfl⟩
    have sq : (c + 1) * (c + 1) ≤ 2 ^ 50 * 2 ^ 50 := Int.mul_le_mul (by omega) (by omega) (by omega) (by decide)
    have sq0 : 0 ≤ (c + 1) * (c + 1) := Int.mul_nonneg (by omega) (by omega)
    have eX : 147289 * (c + 1) * (c + 1) = 147289 * ((c + 1) * (c + 1)) := Int.mul_assoc _ _ _
    have hP : binD .pow (.int X) (.int 3) = .ok (.int (X ^ 3), false) := bPow (j := 3) (by decide) (by rw [hX, eX]; omega) (by rw [hX, eX]; omega)
    have q1 : bound64 147289 = true := by decide
    have q2 : bound64 3417 = true := by decide
    have q3 : bound64 (c + 1) = true := b64 (by omega) (by omega)
    obtain ⟨B, hB⟩ : ∃ B, B = X ^ 3 % m := ⟨_, rfl⟩
    have B0 : 0 ≤ B := by rw [hB]; exact Int.emod_nonneg _ (by omega)
    have B1 : B < m := by rw [hB]; exact Int.emod_lt_of_pos _ m0
    have q4 : bound64 B = true := b64 (by omega) (by omega)
    refine ⟨B * (B % 10007 + 3417 * (c + 1)) / 307 % u, .lst [.int a, .int b, .int (c + 1)], ?_, Int.emod_nonneg _ (by omega), Int.emod_lt_of_pos _ u0, _, _, _, rfl, ha, hb, hb2, by omega, by omega⟩
    simp [bAddI, bAddS, bAddT, bAddL, bSubI, bMulI, bMulT, bModI, bDivI, idxD, cmpD, inD, eqD_int, bfD, bf1, bf2, slcD, revD, isiD, itemsD, enmD, rngD, setSlot, canSet, wipeD, backD, Tg.slots, params, okKeep, nodupB, slotsOf, putBack, setiD, appD, extD, toPy, toPys, flatD, flatDs, L2.flatV, upD, lenLine, rb1, ri1, ro1, gd0, gdS, res_slot_eq, kGet1, res_val, frz_slot_e, kFrz1, kFrz2, frz_val, tak_slot_e, kTak1, tak_val, ev_var, kVar1, kVar2, ev_non, ev_bl, ev_int, ev_neg, ev_str, ev_dnew, ev_glb, kGlb1, kDn1, kDv1, kDb1, ev_tup, kTup1, ev_lst, kLst1, evL_nil, evL_cons, kL11, kL21, kL31, ev_bin, kBin11, kBin21, kBin31, ev_cmp, kCmp11, kCmp21, kCmp31, ev_chain, kCh01, kCh11, kCh21, kCh31, kCh32, kCh41, kCh51, tst_eq, kTst1, ev_and, ev_or, evW_one, evW_two, kW11, kW2a, kW2b, kW2c, kW2d, ev_not, kNot1, ev_ite, kIte1, kIte2, ev_idx, kIdx11, kIdx21, kIdx31, kB1, optE_nil, optE_int, optE_var, optE_neg, optE_bin, optE_bc, ev_slc, kSl11, kSl21, kSl31, kSl41, ev_rev, kRev11, kRev21, evA_nil, evA_cons, kA11, kA21, callD_eq, ev_call, ev_callk, kOne1, kCl11, kCl21, kEnd1, argsD_nil, argsD_slot, argsD_val, kAr11, kAr21, ress_nil, ress_cons, kRs11, kRs21, ev_bc, kBf11, kBf21, ev_isi, kIsi11, kIsi21, ev_upper, kUp11, kUp21, ev_comp, kLc11, kLc21, turn_eq, optC_nil, optC_cmp, optC_isi, optC_not, optC_and, optC_or, optC_call, kTn11, kTn21, kTn22, kTn31, kTn41, kPr1, evI_itv, kIv11, kIv21, evI_enm, kEm11, kEm21, evI_rng1, kR11, kR21, evI_zip, kZ11, kZ21, kZ31, kZ41, run_nil, run_cons, kSq1, kSq2, kNx1, run_asg, kAs11, kAs21, run_asgT, kAt11, kAt21, run_par, kPa11, kPa21, kPa31, kPa41, kPa51, run_seti, kSi01, kSi11, kSi21, kSi31, kSi41, kSi51, kSi61, run_app, run_ext, kAp01, kAp11, kAp21, kAp31, kAp41, run_ret, kRt11, kRt21, run_ite, kIf1, kIf2, run_for, kFo11, turnS_eq, kBt1, bindT_nm, bindT_tp, setSlots_nil, setSlots_cons, kSs1, kFin1, kFin2, ev_dnewT, evL_consS, kLs11, kLs21t, kLs21l, kLs31, kDl1, ev_srts, kSt11, kSt21, ev_srtd, kSd11, kSd21, ev_isup, kIu11, kIu21, optC_isup, run_alone, kAl1, run_par3, kPt21, kPt31, kPt41, kPt51, kPt61, kPt71, kPt81, kPt91, run_updd, kUd01, kUd11, kUd21, kUd31, kUd41, pickAt_eq, kPk11, kPk21, kPk31, kPk41, kPk51, kPk61, run_pick, kPc11, kPc12, kPc21, kPc22, kPc31, kPc32, p0, p1, p2, h0, u0, i30, i32, hm, m0, q1, q2, q3, ← hX, hP, ← hB, q4]
theorem atI_mem {xs : List D} {r : Int} (h0 : 0 ≤ r) (h1 : r < xs.length) : ∃ d, d ∈ xs ∧ atI xs r = some d := by
  have hr : r.toNat < xs.length := by omega
  refine ⟨xs[r.toNat], List.getElem_mem hr, ?_⟩
  unfold atI ixN
  rw [if_pos h0, if_pos h1]
  exact List.getElem?_eq_getElem hr
theorem of_ok (n : Nat) {N : Int} {p : D} (hp : Pot N p) (hN : N < 2 ^ 50) {xs : List D} {fr : Bool} (h1 : 1 ≤ xs.length) (h2 : xs.length < 2 ^ 20) :
    ∃ d p', d ∈ xs ∧ fn (n + 2) 43 [(p, true), (.lst xs, fr)] = .ok ((d, false), [(p', true), (.lst xs, fr)]) ∧ Pot (N + 1) p' := by
  obtain ⟨r, p', e, r0, r1, hp'⟩ := take_ok n hp hN (u := xs.length) (by omega) (by omega)
  obtain ⟨d, hd, ed⟩ := atI_mem r0 r1
  refine ⟨d, p', hd, ?_, hp'⟩
  rw [fn_eq (df := t43.df) rfl]
  simp only [t43, b43]
  cases fr <;> simp [bAddI, bAddS, bAddT, bAddL, bSubI, bMulI, bMulT, bModI, bDivI, idxD, cmpD, inD, eqD_int, bfD, bf1, bf2, slcD, revD, isiD, itemsD, enmD, rngD, setSlot, canSet, wipeD, backD, Tg.slots, params, okKeep, nodupB, slotsOf, putBack, setiD, appD, extD, toPy, toPys, flatD, flatDs, L2.flatV, upD, lenLine, rb1, ri1, ro1, gd0, gdS, res_slot_eq, kGet1, res_val, frz_slot_e, kFrz1, kFrz2, frz_val, tak_slot_e, kTak1, tak_val, ev_var, kVar1, kVar2, ev_non, ev_bl, ev_int, ev_neg, ev_str, ev_dnew, ev_glb, kGlb1, kDn1, kDv1, kDb1, ev_tup, kTup1, ev_lst, kLst1, evL_nil, evL_cons, kL11, kL21, kL31, ev_bin, kBin11, kBin21, kBin31, ev_cmp, kCmp11, kCmp21, kCmp31, ev_chain, kCh01, kCh11, kCh21, kCh31, kCh32, kCh41, kCh51, tst_eq, kTst1, ev_and, ev_or, evW_one, evW_two, kW11, kW2a, kW2b, kW2c, kW2d, ev_not, kNot1, ev_ite, kIte1, kIte2, ev_idx, kIdx11, kIdx21, kIdx31, kB1, optE_nil, optE_int, optE_var, optE_neg, optE_bin, optE_bc, ev_slc, kSl11, kSl21, kSl31, kSl41, ev_rev, kRev11, kRev21, evA_nil, evA_cons, kA11, kA21, callD_eq, ev_call, ev_callk, kOne1, kCl11, kCl21, kEnd1, argsD_nil, argsD_slot, argsD_val, kAr11, kAr21, ress_nil, ress_cons, kRs11, kRs21, ev_bc, kBf11, kBf21, ev_isi, kIsi11, kIsi21, ev_upper, kUp11, kUp21, ev_comp, kLc11, kLc21, turn_eq, optC_nil, optC_cmp, optC_isi, optC_not, optC_and, optC_or, optC_call, kTn11, kTn21, kTn22, kTn31, kTn41, kPr1, evI_itv, kIv11, kIv21, evI_enm, kEm11, kEm21, evI_rng1, kR11, kR21, evI_zip, kZ11, kZ21, kZ31, kZ41, run_nil, run_cons, kSq1, kSq2, kNx1, run_asg, kAs11, kAs21, run_asgT, kAt11, kAt21, run_par, kPa11, kPa21, kPa31, kPa41, kPa51, run_seti, kSi01, kSi11, kSi21, kSi31, kSi41, kSi51, kSi61, run_app, run_ext, kAp01, kAp11, kAp21, kAp31, kAp41, run_ret, kRt11, kRt21, run_ite, kIf1, kIf2, run_for, kFo11, turnS_eq, kBt1, bindT_nm, bindT_tp, setSlots_nil, setSlots_cons, kSs1, kFin1, kFin2, ev_dnewT, evL_consS, kLs11, kLs21t, kLs21l, kLs31, kDl1, ev_srts, kSt11, kSt21, ev_srtd, kSd11, kSd21, ev_isup, kIu11, kIu21, optC_isup, run_alone, kAl1, run_par3, kPt21, kPt31, kPt41, kPt51, kPt61, kPt71, kPt81, kPt91, run_updd, kUd01, kUd11, kUd21, kUd31, kUd41, pickAt_eq, kPk11, kPk21, kPk31, kPk41, kPk51, kPk61, run_pick, kPc11, kPc12, kPc21, kPc22, kPc31, kPc32, e, ed]
theorem cells_ok (n : Nat) (xs : List D) : ∃ k : Nat, k ≤ 3 ∧ fn (n + 1) 44 [(.ro xs, false), (.int 3, false)] = .ok ((.lst ((List.range k).map fun i => .int (0 + (i : Nat))), true), [(.ro xs, false), (.int 3, false)]) := by
  obtain ⟨m, hm⟩ : ∃ m : Int, m = if ((xs.length : Int) < 3) then (xs.length : Int) else 3 := ⟨_, rfl⟩
  obtain ⟨q, hq⟩ : ∃ q : Int, q = if (m > 1) then m else 1 := ⟨_, rfl⟩
  have q1 : 1 ≤ q ∧ q ≤ 3 := by
    have : m ≤ 3 := by rw [hm]; split <;> omega
    rw [hq]; split <;> omega
  refine ⟨q.toNat, by omega, ?_⟩
  rw [fn_eq (df := t44.df) rfl]
  simp only [t44, b44]
  have a1 : -4611686018427387904 ≤ q := by omega
  have a2 : q < 4611686018427387904 := by omega
  have a3 : q ≤ 16777216 := by omega
  have hq' : (if 1 < m then m else 1) = q := by rw [hq]
  simp [bAddI, bAddS, bAddT, bAddL, bSubI, bMulI, bMulT, bModI, bDivI, idxD, cmpD, inD, eqD_int, bfD, bf1, bf2, slcD, revD, isiD, itemsD, enmD, rngD, setSlot, canSet, wipeD, backD, Tg.slots, params, okKeep, nodupB, slotsOf, putBack, setiD, appD, extD, toPy, toPys, flatD, flatDs, L2.flatV, upD, lenLine, rb1, ri1, ro1, gd0, gdS, res_slot_eq, kGet1, res_val, frz_slot_e, kFrz1, kFrz2, frz_val, tak_slot_e, kTak1, tak_val, ev_var, kVar1, kVar2, ev_non, ev_bl, ev_int, ev_neg, ev_str, ev_dnew, ev_glb, kGlb1, kDn1, kDv1, kDb1, ev_tup, kTup1, ev_lst, kLst1, evL_nil, evL_cons, kL11, kL21, kL31, ev_bin, kBin11, kBin21, kBin31, ev_cmp, kCmp11, kCmp21, kCmp31, ev_chain, kCh01, kCh11, kCh21, kCh31, kCh32, kCh41, kCh51, tst_eq, kTst1, ev_and, ev_or, evW_one, evW_two, kW11, kW2a, kW2b, kW2c, kW2d, ev_not, kNot1, ev_ite, kIte1, kIte2, ev_idx, kIdx11, kIdx21, kIdx31, kB1, optE_nil, optE_int, optE_var, optE_neg, optE_bin, optE_bc, ev_slc, kSl11, kSl21, kSl31, kSl41, ev_rev, kRev11, kRev21, evA_nil, evA_cons, kA11, kA21, callD_eq, ev_call, ev_callk, kOne1, kCl11, kCl21, kEnd1, argsD_nil, argsD_slot, argsD_val, kAr11, kAr21, ress_nil, ress_cons, kRs11, kRs21, ev_bc, kBf11, kBf21, ev_isi, kIsi11, kIsi21, ev_upper, kUp11, kUp21, ev_comp, kLc11, kLc21, turn_eq, optC_nil, optC_cmp, optC_isi, optC_not, optC_and, optC_or, optC_call, kTn11, kTn21, kTn22, kTn31, kTn41, kPr1, evI_itv, kIv11, kIv21, evI_enm, kEm11, kEm21, evI_rng1, kR11, kR21, evI_zip, kZ11, kZ21, kZ31, kZ41, run_nil, run_cons, kSq1, kSq2, kNx1, run_asg, kAs11, kAs21, run_asgT, kAt11, kAt21, run_par, kPa11, kPa21, kPa31, kPa41, kPa51, run_seti, kSi01, kSi11, kSi21, kSi31, kSi41, kSi51, kSi61, run_app, run_ext, kAp01, kAp11, kAp21, kAp31, kAp41, run_ret, kRt11, kRt21, run_ite, kIf1, kIf2, run_for, kFo11, turnS_eq, kBt1, bindT_nm, bindT_tp, setSlots_nil, setSlots_cons, kSs1, kFin1, kFin2, ev_dnewT, evL_consS, kLs11, kLs21t, kLs21l, kLs31, kDl1, ev_srts, kSt11, kSt21, ev_srtd, kSd11, kSd21, ev_isup, kIu11, kIu21, optC_isup, run_alone, kAl1, run_par3, kPt21, kPt31, kPt41, kPt51, kPt61, kPt71, kPt81, kPt91, run_updd, kUd01, kUd11, kUd21, kUd31, kUd41, pickAt_eq, kPk11, kPk21, kPk31, kPk41, kPk51, kPk61, run_pick, kPc11, kPc12, kPc21, kPc22, kPc31, kPc32, ← hm, hq', a1, a2, a3]
def hdS : S → S | .cons s _ => s | s => s
def tlS : S → S | .cons _ r => r | s => s
theorem of_at {m : Nat} (hm : 2 ≤ m) {N : Int} {p : D} (hp : Pot N p) (hN : N < 2 ^ 50) (xs : List D) (fr : Bool) (h1 : 1 ≤ xs.length) (h2 : xs.length < 2 ^ 20) :
    ∃ d p', d ∈ xs ∧ fn m 43 [(p, true), (.lst xs, fr)] = .ok ((d, false), [(p', true), (.lst xs, fr)]) ∧ Pot (N + 1) p' := by
  obtain ⟨n, rfl⟩ : ∃ n, m = n + 2 := ⟨m - 2, by omega⟩
  exact of_ok n hp hN h1 h2
theorem t60 : binD .pow (.int 10) (.int 60) = .ok (.int (10 ^ 60), false) := bPow (j := 60) (by decide) (by decide) (by decide)
theorem t49' : binD .pow (.int 10) (.int 18) = .ok (.int (10 ^ 18), false) := bPow (j := 18) (by decide) (by decide) (by decide)
theorem sIx1' {n d : Nat} : HT.sIx (n + 1) d (some 1) = 1 := by
  unfold HT.sIx
  simp
theorem t300 : binD .pow (.int 1000000000000000000000000000000000000000000000000000000000000) (.int 5) = .ok (.int ((10 ^ 60) ^ 5), false) := bPow (j := 5) (by decide) (by decide) (by decide)
theorem ints_map : ∀ ns : List Int, intsD (ns.map D.int) = some ns
  | [] => rfl
  | n :: ns => by simp [intsD, ints_map ns]
theorem pot_ok (n : Nat) (ns : List Int) (k : Nat) (h1 : k ≤ 3) : ∃ p, fn (n + 1) 41 [(.ro (ns.map D.int), false), (.int (0 + (k : Nat)), false)] = .ok ((p, true), [(.ro (ns.map D.int), false), (.int (0 + (k : Nat)), false)]) ∧ Pot 0 p := by
  have e0 : (0 + (k : Nat) : Int) = (k : Int) := by omega
  rw [e0]
  -- the cell
  obtain ⟨c, hc⟩ : ∃ c : Int, run ⟨G, fn n⟩ [true, true] (hdS b41) [some (.ro (ns.map D.int), false), some (.int k, false), none, none, none] = .ok (.nx [some (.ro (ns.map D.int), false), some (.int k, false), some (.int c, false), none, none]) := by
    by_cases hk : k < ns.length
    · have hk' : (k : Int) < (ns.length : Int) := by omega
      have ea : atI (ns.map D.int) (k : Int) = some (.int ns[k]) := by
        unfold atI ixN
        rw [if_pos (by omega), if_pos (by simpa using hk')]
        simp [hk]
      refine ⟨ns[k], ?_⟩
      simp only [hdS, b41]
      simp [bAddI, bAddS, bAddT, bAddL, bSubI, bMulI, bMulT, bModI, bDivI, idxD, cmpD, inD, eqD_int, bfD, bf1, bf2, slcD, revD, isiD, itemsD, enmD, rngD, setSlot, canSet, wipeD, backD, Tg.slots, params, okKeep, nodupB, slotsOf, putBack, setiD, appD, extD, toPy, toPys, flatD, flatDs, L2.flatV, upD, lenLine, rb1, ri1, ro1, gd0, gdS, res_slot_eq, kGet1, res_val, frz_slot_e, kFrz1, kFrz2, frz_val, tak_slot_e, kTak1, tak_val, ev_var, kVar1, kVar2, ev_non, ev_bl, ev_int, ev_neg, ev_str, ev_dnew, ev_glb, kGlb1, kDn1, kDv1, kDb1, ev_tup, kTup1, ev_lst, kLst1, evL_nil, evL_cons, kL11, kL21, kL31, ev_bin, kBin11, kBin21, kBin31, ev_cmp, kCmp11, kCmp21, kCmp31, ev_chain, kCh01, kCh11, kCh21, kCh31, kCh32, kCh41, kCh51, tst_eq, kTst1, ev_and, ev_or, evW_one, evW_two, kW11, kW2a, kW2b, kW2c, kW2d, ev_not, kNot1, ev_ite, kIte1, kIte2, ev_idx, kIdx11, kIdx21, kIdx31, kB1, optE_nil, optE_int, optE_var, optE_neg, optE_bin, optE_bc, ev_slc, kSl11, kSl21, kSl31, kSl41, ev_rev, kRev11, kRev21, evA_nil, evA_cons, kA11, kA21, callD_eq, ev_call, ev_callk, kOne1, kCl11, kCl21, kEnd1, argsD_nil, argsD_slot, argsD_val, kAr11, kAr21, ress_nil, ress_cons, kRs11, kRs21, ev_bc, kBf11, kBf21, ev_isi, kIsi11, kIsi21, ev_upper, kUp11, kUp21, ev_comp, kLc11, kLc21, turn_eq, optC_nil, optC_cmp, optC_isi, optC_not, optC_and, optC_or, optC_call, kTn11, kTn21, kTn22, kTn31, kTn41, kPr1, evI_itv, kIv11, kIv21, evI_enm, kEm11, kEm21, evI_rng1, kR11, kR21, evI_zip, kZ11, kZ21, kZ31, kZ41, run_nil, run_cons, kSq1, kSq2, kNx1, run_asg, kAs11, kAs21, run_asgT, kAt11, kAt21, run_par, kPa11, kPa21, kPa31, kPa41, kPa51, run_seti, kSi01, kSi11, kSi21, kSi31, kSi41, kSi51, kSi61, run_app, run_ext, kAp01, kAp11, kAp21, kAp31, kAp41, run_ret, kRt11, kRt21, run_ite, kIf1, kIf2, run_for, kFo11, turnS_eq, kBt1, bindT_nm, bindT_tp, setSlots_nil, setSlots_cons, kSs1, kFin1, kFin2, ev_dnewT, evL_consS, kLs11, kLs21t, kLs21l, kLs31, kDl1, ev_srts, kSt11, kSt21, ev_srtd, kSd11, kSd21, ev_isup, kIu11, kIu21, optC_isup, run_alone, kAl1, run_par3, kPt21, kPt31, kPt41, kPt51, kPt61, kPt71, kPt81, kPt91, run_updd, kUd01, kUd11, kUd21, kUd31, kUd41, pickAt_eq, kPk11, kPk21, kPk31, kPk41, kPk51, kPk61, run_pick, kPc11, kPc12, kPc21, kPc22, kPc31, kPc32, hk', ea]
    · have hk' : ¬ (k : Int) < (ns.length : Int) := by omega
      have b4 : bound64 4115 = true := by decide
      have ei : cutD (ns.map D.int) none (some 1) = (ns.take 1).map D.int := by
        cases ns with
        | nil => rfl
        | cons a r =>
          unfold cutD
          rw [List.map_cons, List.length_cons, sIx1', HT.sIx_none]
          rfl
      obtain ⟨ms, hms⟩ : ∃ ms, ms = ns.take 1 := ⟨_, rfl⟩
      rw [← hms] at ei
      refine ⟨ms.sum % 1000003 + 4115 * (k : Int) + 10151, ?_⟩
      simp only [hdS, b41]
      simp [bAddI, bAddS, bAddT, bAddL, bSubI, bMulI, bMulT, bModI, bDivI, idxD, cmpD, inD, eqD_int, bfD, bf1, bf2, slcD, revD, isiD, itemsD, enmD, rngD, setSlot, canSet, wipeD, backD, Tg.slots, params, okKeep, nodupB, slotsOf, putBack, setiD, appD, extD, toPy, toPys, flatD, flatDs, L2.flatV, upD, lenLine, rb1, ri1, ro1, gd0, gdS, res_slot_eq, kGet1, res_val, frz_slot_e, kFrz1, kFrz2, frz_val, tak_slot_e, kTak1, tak_val, ev_var, kVar1, kVar2, ev_non, ev_bl, ev_int, ev_neg, ev_str, ev_dnew, ev_glb, kGlb1, kDn1, kDv1, kDb1, ev_tup, kTup1, ev_lst, kLst1, evL_nil, evL_cons, kL11, kL21, kL31, ev_bin, kBin11, kBin21, kBin31, ev_cmp, kCmp11, kCmp21, kCmp31, ev_chain, kCh01, kCh11, kCh21, kCh31, kCh32, kCh41, kCh51, tst_eq, kTst1, ev_and, ev_or, evW_one, evW_two, kW11, kW2a, kW2b, kW2c, kW2d, ev_not, kNot1, ev_ite, kIte1, kIte2, ev_idx, kIdx11, kIdx21, kIdx31, kB1, optE_nil, optE_int, optE_var, optE_neg, optE_bin, optE_bc, ev_slc, kSl11, kSl21, kSl31, kSl41, ev_rev, kRev11, kRev21, evA_nil, evA_cons, kA11, kA21, callD_eq, ev_call, ev_callk, kOne1, kCl11, kCl21, kEnd1, argsD_nil, argsD_slot, argsD_val, kAr11, kAr21, ress_nil, ress_cons, kRs11, kRs21, ev_bc, kBf11, kBf21, ev_isi, kIsi11, kIsi21, ev_upper, kUp11, kUp21, ev_comp, kLc11, kLc21, turn_eq, optC_nil, optC_cmp, optC_isi, optC_not, optC_and, optC_or, optC_call, kTn11, kTn21, kTn22, kTn31, kTn41, kPr1, evI_itv, kIv11, kIv21, evI_enm, kEm11, kEm21, evI_rng1, kR11, kR21, evI_zip, kZ11, kZ21, kZ31, kZ41, run_nil, run_cons, kSq1, kSq2, kNx1, run_asg, kAs11, kAs21, run_asgT, kAt11, kAt21, run_par, kPa11, kPa21, kPa31, kPa41, kPa51, run_seti, kSi01, kSi11, kSi21, kSi31, kSi41, kSi51, kSi61, run_app, run_ext, kAp01, kAp11, kAp21, kAp31, kAp41, run_ret, kRt11, kRt21, run_ite, kIf1, kIf2, run_for, kFo11, turnS_eq, kBt1, bindT_nm, bindT_tp, setSlots_nil, setSlots_cons, kSs1, kFin1, kFin2, ev_dnewT, evL_consS, kLs11, kLs21t, kLs21l, kLs31, kDl1, ev_srts, kSt11, kSt21, ev_srtd, kSd11, kSd21, ev_isup, kIu11, kIu21, optC_isup, run_alone, kAl1, run_par3, kPt21, kPt31, kPt41, kPt51, kPt61, kPt71, kPt81, kPt91, run_updd, kUd01, kUd11, kUd21, kUd31, kUd41, pickAt_eq, kPk11, kPk21, kPk31, kPk41, kPk51, kPk61, run_pick, kPc11, kPc12, kPc21, kPc22, kPc31, kPc32, hk', ei, ints_map, b4]
  obtain ⟨A, hA⟩ : ∃ A : Int, A = if c < 0 then -c else c := ⟨_, rfl⟩
  have A0 : 0 ≤ A := by rw [hA]; split <;> omega
  obtain ⟨own, how⟩ : ∃ o : Int, o = A % ((10 ^ 60) ^ 5) * (if decide ((10 ^ 18 : Int) ≤ A) = true then 1 else 0) := ⟨_, rfl⟩
  have own0 : 0 ≤ own := by
    rw [how]
    refine Int.mul_nonneg (Int.emod_nonneg _ (by decide)) ?_
    split <;> omega
  obtain ⟨sm, hsm⟩ : ∃ s : Int, s = c % 2305843009213693951 := ⟨_, rfl⟩
  have s0 : 0 ≤ sm := by rw [hsm]; exact Int.emod_nonneg _ (by decide)
  have s1 : sm < 2305843009213693951 := by rw [hsm]; exact Int.emod_lt_of_pos _ (by decide)
  obtain ⟨b, hb⟩ : ∃ b : Int, b = (sm * 99429 + 14839 * (k : Int) * (k : Int) + 3515) % 2305843009213693921 := ⟨_, rfl⟩
  refine ⟨.lst [.int own, .int b, .int 0], ?_, own, b, 0, rfl, own0, by rw [hb]; exact Int.emod_nonneg _ (by decide), by have := Int.emod_lt_of_pos (sm * 99429 + 14839 * (k : Int) * (k : Int) + 3515) (b := 2305843009213693921) (by decide); rw [hb]; omega, by decide, by decide⟩
  have hA' : (if c < 0 then -c else c) = A := hA.symm
  have q1 : bound64 99429 = true := by decide
  have q2 : bound64 14839 = true := by decide
  have q3 : bound64 (k : Int) = true := b64 (by omega) (by omega)
  have q4 : bound64 1 = true := by decide
  have q5 : bound64 0 = true := by decide
  have st : run ⟨G, fn n⟩ [true, true] (tlS b41) [some (.ro (ns.map D.int), false), some (.int k, false), some (.int c, false), none, none] = .ok (.rt (.lst [.int own, .int b, .int 0], true) [some (.ro (ns.map D.int), false), some (.int k, false), some (.int c, false), some (.int own, false), some (.int sm, false)]) := by
    simp only [tlS, b41]
    by_cases h18 : (10 ^ 18 : Int) ≤ A
    · have how' : own = A % ((10 ^ 60) ^ 5) := by rw [how, decide_eq_true h18]; simp
      have h18' : (1000000000000000000 : Int) ≤ A := h18
      simp [bAddI, bAddS, bAddT, bAddL, bSubI, bMulI, bMulT, bModI, bDivI, idxD, cmpD, inD, eqD_int, bfD, bf1, bf2, slcD, revD, isiD, itemsD, enmD, rngD, setSlot, canSet, wipeD, backD, Tg.slots, params, okKeep, nodupB, slotsOf, putBack, setiD, appD, extD, toPy, toPys, flatD, flatDs, L2.flatV, upD, lenLine, rb1, ri1, ro1, gd0, gdS, res_slot_eq, kGet1, res_val, frz_slot_e, kFrz1, kFrz2, frz_val, tak_slot_e, kTak1, tak_val, ev_var, kVar1, kVar2, ev_non, ev_bl, ev_int, ev_neg, ev_str, ev_dnew, ev_glb, kGlb1, kDn1, kDv1, kDb1, ev_tup, kTup1, ev_lst, kLst1, evL_nil, evL_cons, kL11, kL21, kL31, ev_bin, kBin11, kBin21, kBin31, ev_cmp, kCmp11, kCmp21, kCmp31, ev_chain, kCh01, kCh11, kCh21, kCh31, kCh32, kCh41, kCh51, tst_eq, kTst1, ev_and, ev_or, evW_one, evW_two, kW11, kW2a, kW2b, kW2c, kW2d, ev_not, kNot1, ev_ite, kIte1, kIte2, ev_idx, kIdx11, kIdx21, kIdx31, kB1, optE_nil, optE_int, optE_var, optE_neg, optE_bin, optE_bc, ev_slc, kSl11, kSl21, kSl31, kSl41, ev_rev, kRev11, kRev21, evA_nil, evA_cons, kA11, kA21, callD_eq, ev_call, ev_callk, kOne1, kCl11, kCl21, kEnd1, argsD_nil, argsD_slot, argsD_val, kAr11, kAr21, ress_nil, ress_cons, kRs11, kRs21, ev_bc, kBf11, kBf21, ev_isi, kIsi11, kIsi21, ev_upper, kUp11, kUp21, ev_comp, kLc11, kLc21, turn_eq, optC_nil, optC_cmp, optC_isi, optC_not, optC_and, optC_or, optC_call, kTn11, kTn21, kTn22, kTn31, kTn41, kPr1, evI_itv, kIv11, kIv21, evI_enm, kEm11, kEm21, evI_rng1, kR11, kR21, evI_zip, kZ11, kZ21, kZ31, kZ41, run_nil, run_cons, kSq1, kSq2, kNx1, run_asg, kAs11, kAs21, run_asgT, kAt11, kAt21, run_par, kPa11, kPa21, kPa31, kPa41, kPa51, run_seti, kSi01, kSi11, kSi21, kSi31, kSi41, kSi51, kSi61, run_app, run_ext, kAp01, kAp11, kAp21, kAp31, kAp41, run_ret, kRt11, kRt21, run_ite, kIf1, kIf2, run_for, kFo11, turnS_eq, kBt1, bindT_nm, bindT_tp, setSlots_nil, setSlots_cons, kSs1, kFin1, kFin2, ev_dnewT, evL_consS, kLs11, kLs21t, kLs21l, kLs31, kDl1, ev_srts, kSt11, kSt21, ev_srtd, kSd11, kSd21, ev_isup, kIu11, kIu21, optC_isup, run_alone, kAl1, run_par3, kPt21, kPt31, kPt41, kPt51, kPt61, kPt71, kPt81, kPt91, run_updd, kUd01, kUd11, kUd21, kUd31, kUd41, pickAt_eq, kPk11, kPk21, kPk31, kPk41, kPk51, kPk61, run_pick, kPc11, kPc12, kPc21, kPc22, kPc31, kPc32, hA', t60, t49', t300, h18', q1, q2, q3, q4, q5, hsm, hb, how']
    · have how' : own = 0 := by rw [how, decide_eq_false h18]; simp
      have h18' : ¬ (1000000000000000000 : Int) ≤ A := h18
      simp [bAddI, bAddS, bAddT, bAddL, bSubI, bMulI, bMulT, bModI, bDivI, idxD, cmpD, inD, eqD_int, bfD, bf1, bf2, slcD, revD, isiD, itemsD, enmD, rngD, setSlot, canSet, wipeD, backD, Tg.slots, params, okKeep, nodupB, slotsOf, putBack, setiD, appD, extD, toPy, toPys, flatD, flatDs, L2.flatV, upD, lenLine, rb1, ri1, ro1, gd0, gdS, res_slot_eq, kGet1, res_val, frz_slot_e, kFrz1, kFrz2, frz_val, tak_slot_e, kTak1, tak_val, ev_var, kVar1, kVar2, ev_non, ev_bl, ev_int, ev_neg, ev_str, ev_dnew, ev_glb, kGlb1, kDn1, kDv1, kDb1, ev_tup, kTup1, ev_lst, kLst1, evL_nil, evL_cons, kL11, kL21, kL31, ev_bin, kBin11, kBin21, kBin31, ev_cmp, kCmp11, kCmp21, kCmp31, ev_chain, kCh01, kCh11, kCh21, kCh31, kCh32, kCh41, kCh51, tst_eq, kTst1, ev_and, ev_or, evW_one, evW_two, kW11, kW2a, kW2b, kW2c, kW2d, ev_not, kNot1, ev_ite, kIte1, kIte2, ev_idx, kIdx11, kIdx21, kIdx31, kB1, optE_nil, optE_int, optE_var, optE_neg, optE_bin, optE_bc, ev_slc, kSl11, kSl21, kSl31, kSl41, ev_rev, kRev11, kRev21, evA_nil, evA_cons, kA11, kA21, callD_eq, ev_call, ev_callk, kOne1, kCl11, kCl21, kEnd1, argsD_nil, argsD_slot, argsD_val, kAr11, kAr21, ress_nil, ress_cons, kRs11, kRs21, ev_bc, kBf11, kBf21, ev_isi, kIsi11, kIsi21, ev_upper, kUp11, kUp21, ev_comp, kLc11, kLc21, turn_eq, optC_nil, optC_cmp, optC_isi, optC_not, optC_and, optC_or, optC_call, kTn11, kTn21, kTn22, kTn31, kTn41, kPr1, evI_itv, kIv11, kIv21, evI_enm, kEm11, kEm21, evI_rng1, kR11, kR21, evI_zip, kZ11, kZ21, kZ31, kZ41, run_nil, run_cons, kSq1, kSq2, kNx1, run_asg, kAs11, kAs21, run_asgT, kAt11, kAt21, run_par, kPa11, kPa21, kPa31, kPa41, kPa51, run_seti, kSi01, kSi11, kSi21, kSi31, kSi41, kSi51, kSi61, run_app, run_ext, kAp01, kAp11, kAp21, kAp31, kAp41, run_ret, kRt11, kRt21, run_ite, kIf1, kIf2, run_for, kFo11, turnS_eq, kBt1, bindT_nm, bindT_tp, setSlots_nil, setSlots_cons, kSs1, kFin1, kFin2, ev_dnewT, evL_consS, kLs11, kLs21t, kLs21l, kLs31, kDl1, ev_srts, kSt11, kSt21, ev_srtd, kSd11, kSd21, ev_isup, kIu11, kIu21, optC_isup, run_alone, kAl1, run_par3, kPt21, kPt31, kPt41, kPt51, kPt61, kPt71, kPt81, kPt91, run_updd, kUd01, kUd11, kUd21, kUd31, kUd41, pickAt_eq, kPk11, kPk21, kPk31, kPk41, kPk51, kPk61, run_pick, kPc11, kPc12, kPc21, kPc22, kPc31, kPc32, hA', t60, t49', t300, h18', q1, q2, q3, q4, q5, hsm, hb, how']
  rw [fn_eq (df := t41.df) rfl]
  simp only [t41]
  rw [show b41 = .cons (hdS b41) (tlS b41) from rfl]
  simp [bAddI, bAddS, bAddT, bAddL, bSubI, bMulI, bMulT, bModI, bDivI, idxD, cmpD, inD, eqD_int, bfD, bf1, bf2, slcD, revD, isiD, itemsD, enmD, rngD, setSlot, canSet, wipeD, backD, Tg.slots, params, okKeep, nodupB, slotsOf, putBack, setiD, appD, extD, toPy, toPys, flatD, flatDs, L2.flatV, upD, lenLine, rb1, ri1, ro1, gd0, gdS, res_slot_eq, kGet1, res_val, frz_slot_e, kFrz1, kFrz2, frz_val, tak_slot_e, kTak1, tak_val, ev_var, kVar1, kVar2, ev_non, ev_bl, ev_int, ev_neg, ev_str, ev_dnew, ev_glb, kGlb1, kDn1, kDv1, kDb1, ev_tup, kTup1, ev_lst, kLst1, evL_nil, evL_cons, kL11, kL21, kL31, ev_bin, kBin11, kBin21, kBin31, ev_cmp, kCmp11, kCmp21, kCmp31, ev_chain, kCh01, kCh11, kCh21, kCh31, kCh32, kCh41, kCh51, tst_eq, kTst1, ev_and, ev_or, evW_one, evW_two, kW11, kW2a, kW2b, kW2c, kW2d, ev_not, kNot1, ev_ite, kIte1, kIte2, ev_idx, kIdx11, kIdx21, kIdx31, kB1, optE_nil, optE_int, optE_var, optE_neg, optE_bin, optE_bc, ev_slc, kSl11, kSl21, kSl31, kSl41, ev_rev, kRev11, kRev21, evA_nil, evA_cons, kA11, kA21, callD_eq, ev_call, ev_callk, kOne1, kCl11, kCl21, kEnd1, argsD_nil, argsD_slot, argsD_val, kAr11, kAr21, ress_nil, ress_cons, kRs11, kRs21, ev_bc, kBf11, kBf21, ev_isi, kIsi11, kIsi21, ev_upper, kUp11, kUp21, ev_comp, kLc11, kLc21, turn_eq, optC_nil, optC_cmp, optC_isi, optC_not, optC_and, optC_or, optC_call, kTn11, kTn21, kTn22, kTn31, kTn41, kPr1, evI_itv, kIv11, kIv21, evI_enm, kEm11, kEm21, evI_rng1, kR11, kR21, evI_zip, kZ11, kZ21, kZ31, kZ41, run_nil, run_cons, kSq1, kSq2, kNx1, run_asg, kAs11, kAs21, run_asgT, kAt11, kAt21, run_par, kPa11, kPa21, kPa31, kPa41, kPa51, run_seti, kSi01, kSi11, kSi21, kSi31, kSi41, kSi51, kSi61, run_app, run_ext, kAp01, kAp11, kAp21, kAp31, kAp41, run_ret, kRt11, kRt21, run_ite, kIf1, kIf2, run_for, kFo11, turnS_eq, kBt1, bindT_nm, bindT_tp, setSlots_nil, setSlots_cons, kSs1, kFin1, kFin2, ev_dnewT, evL_consS, kLs11, kLs21t, kLs21l, kLs31, kDl1, ev_srts, kSt11, kSt21, ev_srtd, kSd11, kSd21, ev_isup, kIu11, kIu21, optC_isup, run_alone, kAl1, run_par3, kPt21, kPt31, kPt41, kPt51, kPt61, kPt71, kPt81, kPt91, run_updd, kUd01, kUd11, kUd21, kUd31, kUd41, pickAt_eq, kPk11, kPk21, kPk31, kPk41, kPk51, kPk61, run_pick, kPc11, kPc12, kPc21, kPc22, kPc31, kPc32, hc, st]
end VI.L

set_option Elab.async false
set_option linter.all false
set_option autoImplicit false
set_option maxRecDepth 100000
set_option maxHeartbeats 8000000
/-! Z2: what _law_right draws. -/
namespace VI.L
open PySem PySem.Spec PyProof.Rows L2 VI
def sD (s : Str) : D := .str s
def mayX : D := .tup [sD "may", sD "R", .tup [sD "go", sD "X"]]
def nowX : D := .tup [sD "now", .bl true, .tup [sD "at", sD "X"]]
def rolR : D := .tup [sD "role", .bl true, sD "R"]
def good : D := .tup [mayX, .tup [nowX, rolR]]
def rolX : D := .tup [.tup [sD "role", sD "x"], .tup []]
def fine : D := .tup [rolX, good]
def oddL : List D := [.non, .tup [], .lst [mayX, .tup [nowX, rolR]], .tup [mayX], .tup [mayX, .lst [nowX, rolR]], .tup [.tup [sD "may", sD "R", .tup [sD "go", sD "if"]], .tup [nowX, rolR]], .tup [mayX, .tup [.tup [sD "now", .int 1, .tup [sD "at", sD "X"]]]],
  .tup [.tup [sD "worth", sD "x", .int 101], .tup []], .tup [.tup [sD "over", sD "x"], .tup []], .tup [mayX, .tup (List.replicate 4 [nowX, rolR]).flatten]]
def ruleL : List D := (List.replicate 4 [good]).flatten ++ oddL
def big201 : D := .tup (List.replicate 201 [rolX]).flatten
def gameB (x : D) : List D := [.non, .tup [], .lst [rolX, good], .tup [rolX, good, .non], .tup [rolX, good, x], big201, sD "role x"]
def gameL (x : D) : List D := (List.replicate 4 [fine]).flatten ++ gameB x
def bGood : D := .ptp [.tup [sD "R", sD "x"], .tup [sD "X", sD "a"]]
def bGoodT : D := .tup [.tup [sD "R", sD "x"], .tup [sD "X", sD "a"]]
def badB : List D := [.non, .tup [], .tup [.tup [sD "X", sD "a"], .tup [sD "R", sD "x"]], .tup [.tup [sD "R", sD "x"]], .tup [.tup [sD "R", sD "x"], .tup [sD "X", sD "Y"]], .lst [.tup [sD "R", sD "x"], .tup [sD "X", sD "a"]],
  .tup [.tup [sD "R", sD "x"], .tup [sD "X", sD "a"], .tup [sD "Y", sD "b"]], .tup [.lst [sD "R", sD "x"], .tup [sD "X", sD "a"]]]
def bindL : List D := (List.replicate 4 [bGood]).flatten ++ badB
def nGood : D := .ptp [.tup [sD "at", sD "here"]]
def nGoodT : D := .tup [.tup [sD "at", sD "here"]]
def badN : List D := [.non, .lst [.tup [sD "at", sD "here"]], .tup [.tup [sD "at", sD "Here"]], .tup [.tup [sD "at", sD "if"]], .tup [.tup [sD "b", sD "c"], .tup [sD "a", sD "d"]], .tup [.tup [sD "a", sD "b"], .tup [sD "a", sD "c"]], .tup [.tup [sD "at"]], .tup [.tup [sD "A", sD "b"]]]
def namL : List D := (List.replicate 4 [nGood]).flatten ++ badN
abbrev F (d : D) : Option (D × Bool) := some (d, false)
def env4 (p : D) : EnvD := [some (p, true), F good, F fine, some (.lst oddL, true), none, none, none, none, none, none, none, none, none, none, none, none]
def env5 (p R : D) : EnvD := [some (p, true), F good, F fine, some (.lst oddL, true), F R, none, none, none, none, none, none, none, none, none, none, none]
def env6 (p R GA : D) : EnvD := [some (p, true), F good, F fine, some (.lst oddL, true), F R, F GA, none, none, none, none, none, none, none, none, none, none]
def env8 (p R GA : D) : EnvD := [some (p, true), F good, F fine, some (.lst oddL, true), F R, F GA, some (.lst badB, true), none, none, none, none, none, none, none, none, none]
def env9 (p R GA B : D) : EnvD := [some (p, true), F good, F fine, some (.lst oddL, true), F R, F GA, some (.lst badB, true), F B, none, none, none, none, none, none, none, none]
def env10 (p R GA B NM : D) : EnvD := [some (p, true), F good, F fine, some (.lst oddL, true), F R, F GA, some (.lst badB, true), F B, F NM, none, none, none, none, none, none, none]
def one (w : Str) (d : D) (b : Bool) : D := .lst (if b then [.tup [.str w, d]] else [])
def env12 (p R GA B NM : D) (b1 b2 b3 b4 : Bool) : EnvD := [some (p, true), F good, F fine, some (.lst oddL, true), F R, F GA, some (.lst badB, true), F B, F NM, none, some (one "game" GA b1, true), some (one "rule" R b2, true), some (one "binding" B b3, true), some (one "naming" NM b4, true), none, none]
section
variable {C : Ctx} {p p' R GA B NM x : D}
theorem pre4 : runs C [true] (preS.take 4) (some (p, true) :: List.replicate 15 none) = .ok (env4 p) := rfl
def rS5 : S := preS.getD 4 .nil
def rS6 : S := preS.getD 5 .nil
def rS9 : S := preS.getD 8 .nil
def rS10 : S := preS.getD 9 .nil
def rS11 : S := preS.getD 10 .nil
def rS12 : S := preS.getD 11 .nil
theorem preS_eq : preS = preS.take 4 ++ [rS5, rS6] ++ (preS.drop 6).take 2 ++ [rS9, rS10, rS11, rS12] := rfl
theorem pre8 : runs C [true] ((preS.drop 6).take 2) (env6 p R GA) = .ok (env8 p R GA) := rfl
/-- the draw -/
theorem draw {ρ : EnvD} {xs : List D} (h0 : getD? ρ 0 = some (p, true)) (h : C.fn 43 [(p, true), (.lst xs, true)] = .ok ((x, false), [(p', true), (.lst xs, true)])) : callD (C.fn 43) [.slot 0, .val (.lst xs) true] ρ = .ok (.val x false, ρ.set 0 (some (p', true))) := by
  unfold callD
  have a : argsD ρ [.slot 0, .val (.lst xs) true] = .ok [(p, true), (.lst xs, true)] := by
    show (R.of (getD? ρ 0)).bind _ = _
    rw [h0]
    rfl
  rw [a]
  show R.ite true ((C.fn 43 [(p, true), (.lst xs, true)]).bind _) = _
  rw [h]
  rfl
theorem draw3 {ρ : EnvD} {xs : List D} (h0 : getD? ρ 0 = some (p, true)) (h3 : getD? ρ 3 = some (.lst xs, true)) (h : C.fn 43 [(p, true), (.lst xs, true)] = .ok ((x, false), [(p', true), (.lst xs, true)])) : callD (C.fn 43) [.slot 0, .slot 3] ρ = .ok (.val x false, (ρ.set 0 (some (p', true))).set 3 (some (.lst xs, true))) := by
  unfold callD
  have a : argsD ρ [.slot 0, .slot 3] = .ok [(p, true), (.lst xs, true)] := by
    show (R.of (getD? ρ 0)).bind _ = _
    rw [h0]
    show ((R.of (getD? ρ 3)).bind _).bind _ = _
    rw [h3]
    rfl
  rw [a]
  show R.ite true ((C.fn 43 [(p, true), (.lst xs, true)]).bind _) = _
  rw [h]
  rfl
theorem st5 (h : C.fn 43 [(p, true), (.lst ruleL, true)] = .ok ((R, false), [(p', true), (.lst ruleL, true)])) : run C [true] rS5 (env4 p) = .ok (.nx (env5 p' R)) := by
  show (callD (C.fn 43) [.slot 0, .val (.lst ruleL) true] (env4 p)).bind _ = _
  rw [draw rfl h]
  rfl
theorem st9 (h : C.fn 43 [(p, true), (.lst bindL, true)] = .ok ((B, false), [(p', true), (.lst bindL, true)])) : run C [true] rS9 (env8 p R GA) = .ok (.nx (env9 p' R GA B)) := by
  show (callD (C.fn 43) [.slot 0, .val (.lst bindL) true] (env8 p R GA)).bind _ = _
  rw [draw rfl h]
  rfl
theorem st10 (h : C.fn 43 [(p, true), (.lst namL, true)] = .ok ((NM, false), [(p', true), (.lst namL, true)])) : run C [true] rS10 (env9 p R GA B) = .ok (.nx (env10 p' R GA B NM)) := by
  show (callD (C.fn 43) [.slot 0, .val (.lst namL) true] (env9 p R GA B)).bind _ = _
  rw [draw rfl h]
  rfl
end
end VI.L

set_option Elab.async false
set_option linter.all false
set_option autoImplicit false
set_option maxRecDepth 100000
set_option maxHeartbeats 8000000
/-! Z3: the game drawn; what is marked as due. -/
namespace VI.L
open PySem PySem.Spec PyProof.Rows L2 VI
def callE : E := .call 43 (.cons (.var 0) (.cons (.var 3) .nil))
def item5 : E := .bin .add (.var 2) (.tup (.cons callE .nil))
def rr5 : E := .cons (.bin .mul (.slc (.var 2) .nil (.int 1)) (.int 201)) (.cons (.str "role x") .nil)
def rr4 : E := .cons item5 rr5
def rr0 : E := .cons .non (.cons (.tup .nil) (.cons (.bc .list (.cons (.var 2) .nil)) (.cons (.bin .add (.var 2) (.tup (.cons .non .nil))) rr4)))
def binE : E := .bin .add (.bin .mul (.lst (.cons (.var 2) .nil)) (.int 4)) (.lst rr0)
section
variable {C : Ctx} {p p' p2 R GA B NM x : D}
theorem st6 (h : C.fn 43 [(p, true), (.lst oddL, true)] = .ok ((x, false), [(p', true), (.lst oddL, true)])) (h2 : C.fn 43 [(p', true), (.lst (gameL x), true)] = .ok ((GA, false), [(p2, true), (.lst (gameL x), true)])) : run C [true] rS6 (env5 p R) = .ok (.nx (env6 p2 R GA)) := by
  have c1 : ev C callE (env5 p R) = .ok (.val x false, env5 p' R) := by
    show callD (C.fn 43) [.slot 0, .slot 3] (env5 p R) = _
    rw [draw3 rfl rfl h]
    rfl
  have c2 : evL C (.cons callE .nil) (env5 p R) = .ok ([x], env5 p' R) := by
    show (ev C callE (env5 p R)).bind _ = _
    rw [c1]
    rfl
  have c3 : ev C (.tup (.cons callE .nil)) (env5 p R) = .ok (.val (.tup [x]) false, env5 p' R) := by
    show (evL C (.cons callE .nil) (env5 p R)).bind _ = _
    rw [c2]
    rfl
  have c4 : ev C item5 (env5 p R) = .ok (.val (.tup [rolX, good, x]) false, env5 p' R) := by
    show (ev C (.tup (.cons callE .nil)) (env5 p R)).bind _ = _
    rw [c3]
    rfl
  have c5 : evL C rr4 (env5 p R) = .ok ([.tup [rolX, good, x], big201, sD "role x"], env5 p' R) := by
    show (ev C item5 (env5 p R)).bind _ = _
    rw [c4]
    rfl
  have c6 : evL C rr0 (env5 p R) = .ok (gameB x, env5 p' R) := by
    show ((((evL C rr4 (env5 p R)).bind _).bind _).bind _).bind _ = _
    rw [c5]
    rfl
  have c7 : ev C (.lst rr0) (env5 p R) = .ok (.val (.lst (gameB x)) true, env5 p' R) := by
    show (evL C rr0 (env5 p R)).bind _ = _
    rw [c6]
    rfl
  have c8 : ev C binE (env5 p R) = .ok (.val (.lst (gameL x)) true, env5 p' R) := by
    show (ev C (.lst rr0) (env5 p R)).bind _ = _
    rw [c7]
    rfl
  have c9 : evA C (.cons (.var 0) (.cons binE .nil)) (env5 p R) = .ok ([.slot 0, .val (.lst (gameL x)) true], env5 p' R) := by
    show ((ev C binE (env5 p R)).bind _).bind _ = _
    rw [c8]
    rfl
  show ((evA C (.cons (.var 0) (.cons binE .nil)) (env5 p R)).bind _).bind _ = _
  rw [c9]
  show (callD (C.fn 43) [.slot 0, .val (.lst (gameL x)) true] (env5 p' R)).bind _ = _
  rw [draw rfl h2]
  rfl
theorem bOk {α β : Type} {a : α} {f : α → VI.R β} : (VI.R.ok a).bind f = f a := rfl
/-- repr of both, unlike or not -/
def Mk (d : D) (sg : Str) (b : Bool) : Prop := ∃ sd, bf1 .repr d = .ok (.str sd, false) ∧ cmpD .ne (.str sd) (.str sg) = .ok b
theorem mark {ρ : EnvD} {i : Nat} {e2 : E} {w : String} {sg : Str} {d : D} {b : Bool} (hi : getD? ρ i = some (d, false)) (hm : Mk d sg b) (he2 : ev C e2 ρ = .ok (.val (.str sg) false, ρ)) :
    ev C (.ite (.cmp .ne (.bc .repr (.cons (.var i) .nil)) e2) (.lst (.cons (.tup (.cons (.str w) (.cons (.var i) .nil))) .nil)) (.lst .nil)) ρ = .ok (.val (one w d b) true, ρ) := by
  obtain ⟨sd, hd, hb⟩ := hm
  have v : ev C (.var i) ρ = .ok (.val d false, ρ) := by
    show (R.of (getD? ρ i)).bind _ = _
    rw [hi]
    rfl
  have v1 : evA C (.cons (.var i) .nil) ρ = .ok ([.val d false], ρ) := by
    show (ev C (.var i) ρ).bind _ = _
    rw [v]
    rfl
  have r : ev C (.bc .repr (.cons (.var i) .nil)) ρ = .ok (.val (.str sd) false, ρ) := by
    show (evA C (.cons (.var i) .nil) ρ).bind _ = _
    rw [v1]
    show (bf1 .repr d).bind _ = _
    rw [hd]
    rfl
  have c : ev C (.cmp .ne (.bc .repr (.cons (.var i) .nil)) e2) ρ = .ok (.val (.bl b) false, ρ) := by
    show (ev C (.bc .repr (.cons (.var i) .nil)) ρ).bind _ = _
    rw [r]
    show (ev C e2 ρ).bind _ = _
    rw [he2]
    simp only [bOk, res]
    rw [hb]
    rfl
  have t1 : evL C (.cons (.var i) .nil) ρ = .ok ([d], ρ) := by
    show (ev C (.var i) ρ).bind _ = _
    rw [v]
    rfl
  have t2 : evL C (.cons (.str w) (.cons (.var i) .nil)) ρ = .ok ([.str w, d], ρ) := by
    show (evL C (.cons (.var i) .nil) ρ).bind _ = _
    rw [t1]
    rfl
  have t3 : ev C (.tup (.cons (.str w) (.cons (.var i) .nil))) ρ = .ok (.val (.tup [.str w, d]) false, ρ) := by
    show (evL C (.cons (.str w) (.cons (.var i) .nil)) ρ).bind _ = _
    rw [t2]
    rfl
  have t4 : evL C (.cons (.tup (.cons (.str w) (.cons (.var i) .nil))) .nil) ρ = .ok ([.tup [.str w, d]], ρ) := by
    show (ev C (.tup (.cons (.str w) (.cons (.var i) .nil))) ρ).bind _ = _
    rw [t3]
    rfl
  show (tstO (ev C (.cmp .ne (.bc .repr (.cons (.var i) .nil)) e2) ρ)).bind _ = _
  rw [c]
  cases b with
  | true =>
    show (evL C (.cons (.tup (.cons (.str w) (.cons (.var i) .nil))) .nil) ρ).bind _ = _
    rw [t4]
    rfl
  | false => rfl
end
end VI.L

set_option Elab.async false
set_option linter.all false
set_option autoImplicit false
set_option maxRecDepth 100000
set_option maxHeartbeats 8000000
/-! Z4: each thing that may be drawn, looked at. -/
namespace VI.L
open PySem PySem.Spec PyProof.Rows L2 VI
def mkB (d g : D) (b : Bool) : Bool := match bf1 .repr d, bf1 .repr g with
  | .ok (.str s, false), .ok (.str t, false) => (match cmpD .ne (.str s) (.str t) with | .ok c => c == b | .no => false)
  | _, _ => false
def sgOf (d : D) : Str := match bf1 .repr d with | .ok (.str s, _) => s | _ => ""
theorem mk_of {d g : D} {b : Bool} (h : mkB d g b = true) : bf1 .repr g = .ok (.str (sgOf g), false) ∧ Mk d (sgOf g) b := by
  unfold mkB at h
  split at h
  · rename_i s t h1 h2
    have e : sgOf g = t := by unfold sgOf; rw [h2]
    rw [e]
    refine ⟨h2, s, h1, ?_⟩
    split at h
    · rename_i c hc
      rw [hc, eq_of_beq h]
    · cases h
  · cases h
def isOk {α : Type} : VI.R α → Bool | .ok _ => true | .no => false
theorem isOk_ex {α : Type} {r : VI.R α} (h : isOk r = true) : ∃ a, r = .ok a := by
  cases r with
  | ok a => exact ⟨a, rfl⟩
  | no => cases h
def okCall (n g : Nat) (xs : List (D × Bool)) : Bool := match fn n g xs with | .ok y => decide (y.2.length = xs.length) | .no => false
theorem ok_rule : mkB good good false = true ∧ okCall 34 17 [(good, false)] = true ∧ okCall 34 29 [(good, false), (bGood, false)] = true := by decide +kernel
theorem odd_rule : (oddL.all fun R => mkB R good true && isOk (sem12 32 [R])) = true := by decide +kernel
theorem bad_bind : mkB bGood bGoodT false = true ∧ (badB.all fun B => mkB B bGoodT true && isOk (semB 33 t29.df (.call 12 (.cons (.var 0) .nil)) cPut 2 [good, B])) = true := by decide +kernel
theorem bad_nam : mkB nGood nGoodT false = true ∧ (badN.all fun B => mkB B nGoodT true && isOk (semB 33 t39.df (.call 11 (.cons (.var 0) .nil)) cRen 3 [fine, B])) = true := by decide +kernel
theorem ok_game : mkB fine fine false = true ∧ okCall 34 19 [(fine, false)] = true ∧ okCall 34 21 [(fine, false)] = true ∧ okCall 34 30 [(fine, false)] = true := by decide +kernel
theorem ok_35 : okCall 34 35 [(fine, false)] = true := by decide +kernel
theorem ok_40 : okCall 34 40 [(fine, false)] = true := by decide +kernel
theorem ok_39 : okCall 34 39 [(fine, false), (nGood, false)] = true := by decide +kernel
theorem odd_game : (oddL.all fun x => mkB (.tup [rolX, good, x]) fine true && isOk (sem11 32 [.tup [rolX, good, x]])) = true := by decide +kernel
theorem odd_game2 : ([.non, .tup [], .lst [rolX, good], .tup [rolX, good, .non], sD "role x"].all fun x => mkB x fine true && isOk (sem11 32 [x])) = true := by decide +kernel
theorem big_ok : isOk (sem11 32 [big201]) = true := by decide +kernel
theorem fine_short : decide ((sgOf fine).length ≤ 300) = true := by decide +kernel
theorem two_piled : ∀ ts : List Str, 2 * ts.length ≤ piled ts
  | [] => Nat.zero_le _
  | t :: ts => by
    have := two_piled ts
    rw [piled_cons, List.length_cons]
    omega
def pX : PyData := match toPy rolX with | some p => p | none => .none
theorem rep_py : ∀ k : Nat, toPys (List.replicate k rolX) = some (List.replicate k pX)
  | 0 => rfl
  | k + 1 => by
    show (toPy rolX).bind (fun a => (toPys (List.replicate k rolX)).map fun r => a :: r) = _
    rw [rep_py k]
    rfl
theorem big_eq : big201 = .tup (List.replicate 201 rolX) := rfl
theorem big_mk : bf1 .repr fine = .ok (.str (sgOf fine), false) → Mk big201 (sgOf fine) true := by
  intro hf
  obtain ⟨pB, hB⟩ : ∃ pB, pB = PyData.tuple (List.replicate 201 pX) := ⟨_, rfl⟩
  have py : toPy big201 = some pB := by
    rw [big_eq, hB]
    show (toPys (List.replicate 201 rolX)).map PyData.tuple = _
    rw [rep_py 201]
    rfl
  have sh : pB.showable = true := by rw [hB]; decide +kernel
  have dp : pB.depth ≤ 64 := by rw [hB]; exact of_decide_eq_true (by decide +kernel)
  have lv : PyData.leavesShort 13 pB = true := by rw [hB]; decide +kernel
  have bk : pB.bulk ≤ 2 ^ 20 := by rw [hB]; exact of_decide_eq_true (by decide +kernel)
  have z : pB.shown.length ≤ lenLine := by
    have := PyData.shown_fits_bulk (B := 13) (by decide) (by decide) lv bk
    rw [sizeLine_eq] at this
    exact this
  have ok : okR pB = true := by
    unfold okR
    rw [sh, decide_eq_true dp, decide_eq_true z]
    rfl
  refine ⟨pB.shown, ?_, ?_⟩
  · show R.ite true ((R.of (toPy big201)).bind fun p => R.ite (okR p) (.ok (D.str p.shown, false))) = _
    rw [py]
    show R.ite (okR pB) _ = _
    rw [ok]
    rfl
  · have l1 : 402 ≤ pB.shown.length := by
      have e : pB.shown = tupleText (PyData.shownAll (List.replicate 201 pX)) := by rw [hB]; simp only [PyData.shown]
      rw [e]
      have h1 := piled_le_tupleText (PyData.shownAll (List.replicate 201 pX))
      have h2 := two_piled (PyData.shownAll (List.replicate 201 pX))
      rw [PyData.shownAll_length, List.length_replicate] at h2
      omega
    have l2 := of_decide_eq_true fine_short
    have ne : (pB.shown == sgOf fine) = false := by
      refine beq_eq_false_iff_ne.mpr fun e => ?_
      rw [e] at l1
      omega
    show VI.R.ok (!(pB.shown == sgOf fine)) = _
    rw [ne]
    rfl
end VI.L

set_option Elab.async false
set_option linter.all false
set_option autoImplicit false
set_option maxRecDepth 100000
set_option maxHeartbeats 8000000
/-! Z5: one lap. -/
namespace VI.L
open PySem PySem.Spec PyProof.Rows L2 VI
/-! ### what is due -/
def OddR (R : D) : Prop := isOk (sem12 32 [R]) = true ∧ Mk R (sgOf good) true
def OddG (GA : D) : Prop := isOk (sem11 32 [GA]) = true ∧ Mk GA (sgOf fine) true
def OddB (B : D) : Prop := isOk (semB 33 t29.df (.call 12 (.cons (.var 0) .nil)) cPut 2 [good, B]) = true ∧ Mk B (sgOf bGoodT) true
def OddN (N : D) : Prop := isOk (semB 33 t39.df (.call 11 (.cons (.var 0) .nil)) cRen 3 [fine, N]) = true ∧ Mk N (sgOf nGoodT) true
def Is (ok : D) (P : D → Prop) (d : D) (b : Bool) : Prop := (d = ok ∧ b = false) ∨ (P d ∧ b = true)
theorem rep4 {a d : D} (h : d ∈ (List.replicate 4 [a]).flatten) : d = a := by
  have h : d ∈ [a, a, a, a] := h
  simp only [List.mem_cons, List.not_mem_nil, or_false, or_self] at h
  exact h
theorem all_and {α : Type} {xs : List α} {p q : α → Bool} (h : (xs.all fun x => p x && q x) = true) : ∀ x ∈ xs, p x = true ∧ q x = true := fun x hx => by
  have := List.all_eq_true.mp h x hx
  rwa [Bool.and_eq_true] at this
theorem good_py : bf1 .repr good = .ok (.str (sgOf good), false) := (mk_of ok_rule.1).1
theorem fine_py : bf1 .repr fine = .ok (.str (sgOf fine), false) := (mk_of ok_game.1).1
theorem bind_py : bf1 .repr bGoodT = .ok (.str (sgOf bGoodT), false) := (mk_of bad_bind.1).1
theorem nam_py : bf1 .repr nGoodT = .ok (.str (sgOf nGoodT), false) := (mk_of bad_nam.1).1
theorem rule_is {R : D} (h : R ∈ ruleL) : ∃ b, Is good OddR R b ∧ Mk R (sgOf good) b := by
  rcases List.mem_append.mp h with h | h
  · obtain rfl := rep4 h
    exact ⟨false, .inl ⟨rfl, rfl⟩, (mk_of ok_rule.1).2⟩
  · obtain ⟨h1, h2⟩ := all_and odd_rule R h
    exact ⟨true, .inr ⟨⟨h2, (mk_of h1).2⟩, rfl⟩, (mk_of h1).2⟩
theorem game_is {x GA : D} (hx : x ∈ oddL) (h : GA ∈ gameL x) : ∃ b, Is fine OddG GA b ∧ Mk GA (sgOf fine) b := by
  rcases List.mem_append.mp h with h | h
  · obtain rfl := rep4 h
    exact ⟨false, .inl ⟨rfl, rfl⟩, (mk_of ok_game.1).2⟩
  · have o : OddG GA := by
      have e : GA ∈ ([.non, .tup [], .lst [rolX, good], .tup [rolX, good, .non], sD "role x"] : List D) ∨ GA = .tup [rolX, good, x] ∨ GA = big201 := by
        simp only [gameB, List.mem_cons, List.not_mem_nil, or_false] at h ⊢
        rcases h with h | h | h | h | h | h | h <;> simp [h]
      rcases e with e | rfl | rfl
      · obtain ⟨h1, h2⟩ := all_and odd_game2 GA e
        exact ⟨h2, (mk_of h1).2⟩
      · obtain ⟨h1, h2⟩ := all_and odd_game x hx
        exact ⟨h2, (mk_of h1).2⟩
      · exact ⟨big_ok, big_mk fine_py⟩
    exact ⟨true, .inr ⟨o, rfl⟩, o.2⟩
theorem bind_is {B : D} (h : B ∈ bindL) : ∃ b, Is bGood OddB B b ∧ Mk B (sgOf bGoodT) b := by
  rcases List.mem_append.mp h with h | h
  · obtain rfl := rep4 h
    exact ⟨false, .inl ⟨rfl, rfl⟩, (mk_of bad_bind.1).2⟩
  · obtain ⟨h1, h2⟩ := all_and bad_bind.2 B h
    exact ⟨true, .inr ⟨⟨h2, (mk_of h1).2⟩, rfl⟩, (mk_of h1).2⟩
theorem nam_is {N : D} (h : N ∈ namL) : ∃ b, Is nGood OddN N b ∧ Mk N (sgOf nGoodT) b := by
  rcases List.mem_append.mp h with h | h
  · obtain rfl := rep4 h
    exact ⟨false, .inl ⟨rfl, rfl⟩, (mk_of bad_nam.1).2⟩
  · obtain ⟨h1, h2⟩ := all_and bad_nam.2 N h
    exact ⟨true, .inr ⟨⟨h2, (mk_of h1).2⟩, rfl⟩, (mk_of h1).2⟩
/-! ### what is raised -/
theorem sem12_val {n : Nat} {d : D} (h : isOk (sem12 n [d]) = true) : sem12 n [d] = .ok (1, d) := by
  unfold sem12 at h ⊢
  cases e : tstO (ev (Cn n) (.not (.call 9 (.cons (.var 0) .nil))) (startD t12.df [d])) with
  | no => rw [e] at h; cases h
  | ok t =>
    rw [e] at h
    obtain ⟨b, ρ⟩ := t
    cases b with
    | true => rfl
    | false => cases h
theorem sem11_val {n : Nat} {d : D} (h : isOk (sem11 n [d]) = true) : sem11 n [d] = .ok (0, d) := by
  unfold sem11 at h ⊢
  cases e : tstO (ev (Cn n) (.not (.call 10 (.cons (.var 0) .nil))) (startD t11.df [d])) with
  | no => rw [e] at h; cases h
  | ok t =>
    rw [e] at h
    obtain ⟨b, ρ⟩ := t
    cases b with
    | true => rfl
    | false => cases h
theorem semB_val {n k : Nat} {df : Df} {e0 c : E} {x y : D} (h : isOk (semB n df e0 c k [x, y]) = true) : semB n df e0 c k [x, y] = .ok (k, y) := by
  unfold semB at h ⊢
  cases e : run (Cn n) df.keep (.alone e0) (startD df [x, y]) with
  | no => rw [e] at h; cases h
  | ok f =>
    rw [e] at h
    cases f with
    | rt x ρ => cases h
    | nx ρ1 =>
      rw [bOk] at h ⊢
      dsimp only at h ⊢
      cases e2 : tstO (ev (Cn n) c ρ1) with
      | no => rw [e2] at h; cases h
      | ok t =>
        rw [e2] at h
        obtain ⟨b, ρ⟩ := t
        cases b with
        | true => rfl
        | false => cases h
theorem call_of {n g : Nat} {os : List Opd} {xs : List (D × Bool)} {ρ : EnvD} (hn : slotsOf os = []) (ha : argsD ρ os = .ok xs) (hl : xs.length = os.length) (h : okCall n g xs = true) : ∃ r, callD (fn n g) os ρ = .ok r := by
  unfold okCall at h
  unfold callD
  rw [hn, ha]
  cases e : fn n g xs with
  | no => rw [e] at h; cases h
  | ok y =>
    rw [e] at h
    have h : y.2.length = xs.length := of_decide_eq_true h
    refine ⟨(.val y.1.1 y.1.2, putBack os y.2 ρ), ?_⟩
    rw [bOk, e, bOk, decide_eq_true (h.trans hl)]
    rfl
section
variable {p R GA B NM : D} {b1 b2 b3 b4 : Bool}
def frzE (R GA B NM : D) : EnvD := [none, F good, F fine, none, F R, F GA, none, F B, F NM, none, none, none, none, none, none, none]
theorem froz12 : froz (env12 p R GA B NM b1 b2 b3 b4) = frzE R GA B NM := rfl
def du (w : Str) (d : D) (b : Bool) : List D := if b then [.tup [.str w, d]] else []
theorem look17 {ρ : EnvD} (hρ : froz ρ = frzE R GA B NM) (h : Is good OddR R b2) : LookD 32 ρ 17 (.cons (.var 4) .nil) 1 (hd1 (du "rule" R b2)) := by
  rcases h with ⟨rfl, rfl⟩ | ⟨⟨h1, sd, h2, _⟩, rfl⟩
  · refine .inl ⟨rfl, ?_⟩
    rw [hρ]
    exact call_of (n := 34) (g := 17) (os := [.val good false]) rfl rfl rfl ok_rule.2.1
  · refine .inr ⟨_, [.val R false], frzE R GA B NM, [R], (1, R), .vars, by rw [hρ]; rfl, rfl, rfl, sem12_val h1, rfl, (by decide : 1 < 4), sd, h2⟩
theorem look29 {ρ : EnvD} (hρ : froz ρ = frzE R GA B NM) (h : Is good OddR R b2) (hb : Is bGood OddB B b3) : LookD 32 ρ 29 (.cons (.var 4) (.cons (.var 7) .nil)) 2 (hd1 (du "rule" R b2 ++ du "binding" B b3)) := by
  rcases h with ⟨rfl, rfl⟩ | ⟨⟨h1, sd, h2, _⟩, rfl⟩
  · rcases hb with ⟨rfl, rfl⟩ | ⟨⟨h1, sd, h2, _⟩, rfl⟩
    · refine .inl ⟨rfl, ?_⟩
      rw [hρ]
      exact call_of (n := 34) (g := 29) (os := [.val good false, .val bGood false]) rfl rfl rfl ok_rule.2.2
    · exact .inr ⟨_, [.val good false, .val B false], frzE good GA B NM, [good, B], (2, B), .put2, by rw [hρ]; rfl, rfl, rfl, semB_val h1, rfl, (by decide : 2 < 4), sd, h2⟩
  · exact .inr ⟨_, [.val R false, .val B false], frzE R GA B NM, [R, B], (1, R), .put1, by rw [hρ]; rfl, rfl, rfl, sem12_val h1, rfl, (by decide : 1 < 4), sd, h2⟩
theorem look1 {ρ : EnvD} {g : Nat} {sem : List D → VI.R (Nat × D)} (hρ : froz ρ = frzE R GA B NM) (h : Is fine OddG GA b1) (ok : okCall 34 g [(fine, false)] = true) (hs : SemOf 32 g sem) (he : sem [GA] = sem11 32 [GA]) : LookD 32 ρ g (.cons (.var 5) .nil) 1 (hd1 (du "game" GA b1)) := by
  rcases h with ⟨rfl, rfl⟩ | ⟨⟨h1, sd, h2, _⟩, rfl⟩
  · refine .inl ⟨rfl, ?_⟩
    rw [hρ]
    exact call_of (n := 34) (g := g) (os := [.val fine false]) rfl rfl rfl ok
  · exact .inr ⟨_, [.val GA false], frzE R GA B NM, [GA], (0, GA), hs, by rw [hρ]; rfl, rfl, rfl, he.trans (sem11_val h1), rfl, (by decide : 0 < 4), sd, h2⟩
theorem look39 {ρ : EnvD} (hρ : froz ρ = frzE R GA B NM) (h : Is fine OddG GA b1) (hb : Is nGood OddN NM b4) : LookD 32 ρ 39 (.cons (.var 5) (.cons (.var 8) .nil)) 2 (hd1 (du "game" GA b1 ++ du "naming" NM b4)) := by
  rcases h with ⟨rfl, rfl⟩ | ⟨⟨h1, sd, h2, _⟩, rfl⟩
  · rcases hb with ⟨rfl, rfl⟩ | ⟨⟨h1, sd, h2, _⟩, rfl⟩
    · refine .inl ⟨rfl, ?_⟩
      rw [hρ]
      exact call_of (n := 34) (g := 39) (os := [.val fine false, .val nGood false]) rfl rfl rfl ok_39
    · exact .inr ⟨_, [.val fine false, .val NM false], frzE R fine B NM, [fine, NM], (3, NM), .ren2, by rw [hρ]; rfl, rfl, rfl, semB_val h1, rfl, (by decide : 3 < 4), sd, h2⟩
  · exact .inr ⟨_, [.val GA false, .val NM false], frzE R GA B NM, [GA, NM], (0, GA), .ren1, by rw [hρ]; rfl, rfl, rfl, sem11_val h1, rfl, (by decide : 0 < 4), sd, h2⟩
end
end VI.L

set_option Elab.async false
set_option linter.all false
set_option autoImplicit false
set_option maxRecDepth 100000
set_option maxHeartbeats 8000000
/-! Z6: the plain law. -/
namespace VI.L
open PySem PySem.Spec PyProof.Rows L2 VI
section
variable {C : Ctx} {p p' R GA B NM : D} {b1 b2 b3 b4 : Bool}
def env11 (p R GA B NM : D) (b1 b2 : Bool) : EnvD := [some (p, true), F good, F fine, some (.lst oddL, true), F R, F GA, some (.lst badB, true), F B, F NM, none, some (one "game" GA b1, true), some (one "rule" R b2, true), none, none, none, none]
theorem rep_of {e : E} {d : D} {sg : Str} {ρ : EnvD} (he : evA C (.cons e .nil) ρ = .ok ([.val d false], ρ)) (h : bf1 .repr d = .ok (.str sg, false)) : ev C (.bc .repr (.cons e .nil)) ρ = .ok (.val (.str sg) false, ρ) := by
  show (evA C (.cons e .nil) ρ).bind _ = _
  rw [he]
  show (bf1 .repr d).bind _ = _
  rw [h]
  rfl
theorem st11 (h1 : Mk GA (sgOf fine) b1) (h2 : Mk R (sgOf good) b2) : run C [true] rS11 (env10 p R GA B NM) = .ok (.nx (env11 p R GA B NM b1 b2)) := by
  show (ev C (.ite (.cmp .ne (.bc .repr (.cons (.var 5) .nil)) (.bc .repr (.cons (.var 2) .nil))) (.lst (.cons (.tup (.cons (.str "game") (.cons (.var 5) .nil))) .nil)) (.lst .nil)) (env10 p R GA B NM)).bind _ = _
  rw [mark rfl h1 (rep_of rfl fine_py)]
  show (ev C (.ite (.cmp .ne (.bc .repr (.cons (.var 4) .nil)) (.bc .repr (.cons (.var 1) .nil))) (.lst (.cons (.tup (.cons (.str "rule") (.cons (.var 4) .nil))) .nil)) (.lst .nil)) (env10 p R GA B NM)).bind _ = _
  rw [mark rfl h2 (rep_of rfl good_py)]
  rfl
theorem st12 (h3 : Mk B (sgOf bGoodT) b3) (h4 : Mk NM (sgOf nGoodT) b4) : run C [true] rS12 (env11 p R GA B NM b1 b2) = .ok (.nx (env12 p R GA B NM b1 b2 b3 b4)) := by
  show (ev C (.ite (.cmp .ne (.bc .repr (.cons (.var 7) .nil)) (.bc .repr (.cons (.tup (.cons (.tup (.cons (.str "R") (.cons (.str "x") .nil))) (.cons (.tup (.cons (.str "X") (.cons (.str "a") .nil))) .nil))) .nil))) (.lst (.cons (.tup (.cons (.str "binding") (.cons (.var 7) .nil))) .nil)) (.lst .nil)) (env11 p R GA B NM b1 b2)).bind _ = _
  rw [mark rfl h3 (rep_of rfl bind_py)]
  show (ev C (.ite (.cmp .ne (.bc .repr (.cons (.var 8) .nil)) (.bc .repr (.cons (.tup (.cons (.tup (.cons (.str "at") (.cons (.str "here") .nil))) .nil)) .nil))) (.lst (.cons (.tup (.cons (.str "naming") (.cons (.var 8) .nil))) .nil)) (.lst .nil)) (env11 p R GA B NM b1 b2)).bind _ = _
  rw [mark rfl h4 (rep_of rfl nam_py)]
  rfl
theorem runs_app {P : Keep} : ∀ (a b : List S) (ρ : EnvD), runs C P (a ++ b) ρ = (runs C P a ρ).bind (runs C P b)
  | [], b, ρ => rfl
  | s :: a, b, ρ => by
    show (run C P s ρ).bind _ = ((run C P s ρ).bind _).bind _
    cases run C P s ρ with
    | no => rfl
    | ok f =>
      cases f with
      | nx ρ' => exact runs_app a b ρ'
      | rt x ρ' => rfl
end
theorem len_du {w : Str} {d : D} {b : Bool} : (du w d b).length ≤ 1 := by cases b <;> simp [du]
theorem lap_ok {N : Int} {ns : List Int} (hp : Pot N (.lst (ns.map D.int))) (hN : N < 2 ^ 49) : ∃ ns', Lap 38 32 ns ns' ∧ Pot (N + 5) (.lst (ns'.map D.int)) := by
  obtain ⟨R, p1, hR, e1, hp1⟩ := of_at (m := 38) (by decide) hp (by omega) ruleL true (by decide) (by decide)
  obtain ⟨x, p2, hx, e2, hp2⟩ := of_at (m := 38) (by decide) hp1 (by omega) oddL true (by decide) (by decide)
  obtain ⟨GA, p3, hG, e3, hp3⟩ := of_at (m := 38) (by decide) hp2 (by omega) (gameL x) true (by show 1 ≤ 11; decide) (by show 11 < _; decide)
  obtain ⟨B, p4, hB, e4, hp4⟩ := of_at (m := 38) (by decide) hp3 (by omega) bindL true (by decide) (by decide)
  obtain ⟨NM, p5, hM, e5, hp5⟩ := of_at (m := 38) (by decide) hp4 (by omega) namL true (by decide) (by decide)
  obtain ⟨b2, i2, k2⟩ := rule_is hR
  obtain ⟨b1, i1, k1⟩ := game_is hx hG
  obtain ⟨b3, i3, k3⟩ := bind_is hB
  obtain ⟨b4, i4, k4⟩ := nam_is hM
  have hp5 : Pot (N + 5) p5 := by
    have e : N + 1 + 1 + 1 + 1 + 1 = N + 5 := by omega
    rw [e] at hp5
    exact hp5
  have pq := hp5
  obtain ⟨a, b, c, rfl, _⟩ := hp5
  refine ⟨[a, b, c], ⟨env12 (.lst ([a, b, c].map D.int)) R GA B NM b1 b2 b3 b4, ?_, rfl, rfl, rfl, ?_, du "game" GA b1, du "rule" R b2, du "binding" B b3, du "naming" NM b4, rfl, rfl, rfl, rfl, len_du, len_du, len_du, len_du, ?_⟩, pq⟩
  · rw [preS_eq, runs_app, runs_app, runs_app]
    rw [show runs (Cn 38) [true] (preS.take 4) (startR ns) = .ok (env4 (.lst (ns.map D.int))) from pre4]
    rw [bOk]
    have r1 : runs (Cn 38) [true] [rS5, rS6] (env4 (.lst (ns.map D.int))) = .ok (env6 p3 R GA) := by
      show (run (Cn 38) [true] rS5 (env4 (.lst (ns.map D.int)))).bind _ = _
      rw [st5 e1]
      show (run (Cn 38) [true] rS6 (env5 p1 R)).bind _ = _
      rw [st6 e2 e3]
      rfl
    rw [r1, bOk, pre8, bOk]
    show (run (Cn 38) [true] rS9 (env8 p3 R GA)).bind _ = _
    rw [st9 e4]
    show (run (Cn 38) [true] rS10 (env9 p4 R GA B)).bind _ = _
    rw [st10 e5]
    show (run (Cn 38) [true] rS11 (env10 (.lst [.int a, .int b, .int c]) R GA B NM)).bind _ = _
    rw [st11 k1 k2]
    show (run (Cn 38) [true] rS12 (env11 (.lst [.int a, .int b, .int c]) R GA B NM b1 b2)).bind _ = _
    rw [st12 k3 k4]
    rfl
  · intro i hi
    simp only [List.mem_cons, List.not_mem_nil, or_false] at hi
    rcases hi with rfl | rfl | rfl | rfl <;> exact ⟨_, rfl⟩
  · exact ⟨look17 froz12 i2, look29 froz12 i2 i3, look1 froz12 i1 ok_game.2.1 .names rfl, look1 froz12 i1 ok_game.2.2.1 .roles rfl, look1 froz12 i1 ok_game.2.2.2 .plain rfl, look1 froz12 i1 ok_35 .rels rfl, look1 froz12 i1 ok_40 .size rfl, look39 froz12 i1 i4⟩
theorem laps : ∀ (k : Nat) {N : Int} {ns : List Int}, Pot N (.lst (ns.map D.int)) → N + 5 * k < 2 ^ 49 → ∃ pots : Nat → List Int, pots 0 = ns ∧ ∀ j < k, Lap 38 32 (pots j) (pots (j + 1))
  | 0, N, ns, _, _ => ⟨fun _ => ns, rfl, fun j h => absurd h (Nat.not_lt_zero j)⟩
  | k + 1, N, ns, hp, hN => by
    obtain ⟨ns', l, hp'⟩ := lap_ok hp (by omega)
    obtain ⟨pots, h0, hs⟩ := laps k hp' (by omega)
    refine ⟨fun j => match j with | 0 => ns | j + 1 => pots j, rfl, fun j hj => ?_⟩
    cases j with
    | zero =>
      show Lap 38 32 ns (pots 0)
      rw [h0]
      exact l
    | succ j => exact hs j (by omega)
theorem law (ns : List Int) (hl : ns.length ≤ 63) : LawD 32 ns := by
  obtain ⟨k, hk, e⟩ := cells_ok 38 (ns.map D.int)
  refine ⟨(List.range k).map fun (i : Nat) => 0 + (i : Int), ?_, fun c hc => ?_⟩
  · show callD (fn 39 44) [.val (.ro (ns.map D.int)) false, .val (.int 3) false] (rowL ns none none) = _
    unfold callD
    show R.ite true ((fn 39 44 [(.ro (ns.map D.int), false), (.int 3, false)]).bind _) = _
    rw [e]
    rw [List.map_map]
    rfl
  · obtain ⟨i, hi, rfl⟩ := List.mem_map.mp hc
    have hi := List.mem_range.mp hi
    obtain ⟨p, e, hp⟩ := pot_ok 38 ns i (by omega)
    have pq := hp
    obtain ⟨a, b, c, rfl, _⟩ := hp
    obtain ⟨pots, h0, hs⟩ := laps 8 (N := 0) (ns := [a, b, c]) pq (by decide)
    refine ⟨pots, ?_, hs⟩
    rw [h0]
    show (callD (fn 39 41) [.val (.ro (ns.map D.int)) false, .val (.int (0 + (i : Nat))) false] (rowL ns (some (0 + (i : Int))) none)).bind _ = _
    have z : callD (fn 39 41) [.val (.ro (ns.map D.int)) false, .val (.int (0 + (i : Nat))) false] (rowL ns (some (0 + (i : Int))) none) = .ok (.val (.lst [.int a, .int b, .int c]) true, rowL ns (some (0 + (i : Int))) none) := by
      unfold callD
      show R.ite true ((fn 39 41 [(.ro (ns.map D.int), false), (.int (0 + (i : Nat)), false)]).bind _) = _
      rw [e]
      rfl
    rw [z]
    rfl
end VI.L

set_option Elab.async false
set_option linter.all false
set_option autoImplicit false
set_option maxRecDepth 100000
set_option maxHeartbeats 8000000
/-! W19: the claim's walk from a promise under no open repr, one table of code objects tracked. -/
namespace VI
open PySem PySem.Spec PyProof.Rows L2 LamX

/-- what is tracked ahead of the law's call: the table at T, and the script where the frame holds it not -/
structure LayT (P : Program) (w : World) (K : PySem.W.Frag) (h : Heap) (a T : Addr) (o : Obj) (ns : List Int) (H : Hp) : Prop where
  sq : SqL K H a (ns.map V.int)
  ok : HOk P w H h
  tb : H T = some (.tbl #[])
  one : ∀ b u, H b = some u → (b = a ∧ u = .frz o (.lst (ns.map V.int)) ∧ K.lookup a = none) ∨ (b = T ∧ u = .tbl #[])
def tabO : Obj := { cls := .none, data := .fields #[] }
theorem layT {P : Program} {w : World} {K : PySem.W.Frag} {h : Heap} {a T : Addr} {vs : List Value} {ns : List Int} (kin : K.In h) (at_ : h.get? a = some { cls := .type "list", data := .seq vs.toArray }) (hT : h.get? T = some tabO) (i : IntsAre vs ns) (z : ns.length ≤ sizeLine) :
    ∃ H, LayT P w K h a T { cls := .type "list", data := .seq vs.toArray } ns H := by
  have vl := vals_ints i
  have aT : a ≠ T := fun e => by rw [e, hT] at at_; cases at_
  cases q : K.lookup a with
  | none =>
    refine ⟨upd (upd (fun _ => none) T (.tbl #[])) a (.frz { cls := .type "list", data := .seq vs.toArray } (.lst (ns.map V.int))), .inl (.inr ⟨_, upd_same⟩), fun b u e => ?_, by rw [upd_ne (Ne.symm aT), upd_same], fun b u e => ?_⟩
    · by_cases c : b = a
      · subst c
        rw [upd_same] at e
        cases e
        exact ⟨at_, by rw [List.length_map]; exact z, vs, _, vl, at_⟩
      · rw [upd_ne c] at e
        by_cases d : b = T
        · subst d
          rw [upd_same] at e
          cases e
          exact hT
        · rw [upd_ne d] at e; cases e
    · by_cases c : b = a
      · subst c
        rw [upd_same] at e
        cases e
        exact .inl ⟨rfl, rfl, q⟩
      · rw [upd_ne c] at e
        by_cases d : b = T
        · subst d
          rw [upd_same] at e
          cases e
          exact .inr ⟨rfl, rfl⟩
        · rw [upd_ne d] at e; cases e
  | some o =>
    have same := kin a o q
    rw [at_] at same
    cases same
    refine ⟨upd (fun _ => none) T (.tbl #[]), .inr ⟨_, vs.toArray, _, q, rfl, rfl, rfl, ?_, by simpa using vl⟩, fun b u e => ?_, upd_same, fun b u e => ?_⟩
    · rw [List.size_toArray, i.length]
      exact z
    · by_cases d : b = T
      · subst d
        rw [upd_same] at e
        cases e
        exact hT
      · rw [upd_ne d] at e; cases e
    · by_cases d : b = T
      · subst d
        rw [upd_same] at e
        cases e
        exact .inr ⟨rfl, rfl⟩
      · rw [upd_ne d] at e; cases e
/-- the law's call -/
theorem top_runT {P : Program} {w : World} {K : PySem.W.Frag} {mg mb : Str → Option Value} {k : Nat} {fa a c T : Addr} {fd : FuncData} {sp : SpS} {s₁ : Shared} {vs : List Value} {ns : List Int}
    (kin : K.In s₁.heap) (gN : s₁.heap.Ns mainGlobals mg) (bN : s₁.heap.Ns builtinsNs mb) (bB : ∀ x : Str, x ≠ "__name__" → mb x = bootBuiltins x) (nl : s₁.heap.NoLimit) (ng : s₁.gens = #[])
    (hT : s₁.heap.get? T = some tabO) (nT : K.lookup T = none) (cT : PySem.W.CodeHd s₁.heap c T)
    (hbm : ∃ (bm : Addr) (ob : Obj), mg "__builtins__" = some (.ref bm) ∧ bm ≠ builtinsNs ∧ s₁.heap.get? bm = some ob ∧ ob.cls = .type "module" ∧ ob.dict = some builtinsNs ∧ ob.data = .plain)
    (at_ : s₁.heap.get? a = some { cls := .type "list", data := .seq vs.toArray }) (i : IntsAre vs ns) (z : ns.length ≤ 63) (rm : Room k callerA)
    (G : ∀ base : Heap, K.In base → base.Ns mainGlobals mg → TabB base mg c T → FnS P w K mg base C8.CX0 k fa fd ["script"] sp) (bd : ∀ (s : Shared) (u : Value), BindsTo s fd ⟨[u], []⟩ [("script", u)])
    (hs : ∀ H : Hp, H T = some (.tbl #[]) → SqL K H a (ns.map V.int) → sp [] s₁ [.ref a] H (fun v _ => v = .bl true) fun _ _ _ => False) :
    codeAny (model P w) callerA (.call (.ref fa) ⟨[.ref a], []⟩) (fun r s' => r = .ok (.ret (.bool true)) ∧ OldK s₁.heap s'.heap ∧ s'.os = s₁.os ∧ AllBare s'.gens) s₁ := by
  have z' : ns.length ≤ sizeLine := Nat.le_trans z (by decide)
  obtain ⟨H, L⟩ := layT (P := P) (w := w) kin at_ hT i z'
  -- what is no list and no table stands in the base
  have other : ∀ {b : Addr} {o : Obj}, s₁.heap.get? b = some o → (∀ vs n, o.data ≠ .seq vs n) → o.data ≠ .fields #[] → H b = none := by
    intro b o e d1 d2
    cases q : H b with
    | none => rfl
    | some u =>
      rcases L.one b u q with ⟨rfl, _, _⟩ | ⟨rfl, _⟩
      · rw [at_] at e; cases e; exact (d1 _ _ rfl).elim
      · rw [hT] at e; cases e; exact (d2 rfl).elim
  have stays : ∀ {b : Addr} {o : Obj}, s₁.heap.get? b = some o → (∀ vs n, o.data ≠ .seq vs n) → o.data ≠ .fields #[] → (hidT s₁.heap H).get? b = some o := fun e d1 d2 => hidT_get e (other e d1 d2)
  have nsB : ∀ {b : Addr} {m : Str → Option Value}, s₁.heap.Ns b m → (hidT s₁.heap H).Ns b m := by
    rintro b m ⟨o, es, ep, e, d, r⟩
    exact ⟨o, es, ep, stays e (fun vs n y => by rw [d] at y; cases y) (fun y => by rw [d] at y; cases y), d, r⟩
  have kinB : K.In (hidT s₁.heap H) := fun b o e => hidT_get (kin b o e) (by
    cases q : H b with
    | none => rfl
    | some u =>
      rcases L.one b u q with ⟨rfl, _, no⟩ | ⟨rfl, _⟩
      · rw [e] at no; cases no
      · rw [e] at nT; cases nT)
  have md : Mod K mg (hidT s₁.heap H) := by
    obtain ⟨mc, l1, l2⟩ := nl
    exact ⟨kinB, nsB gN, ⟨mb, nsB bN, bB⟩, ⟨mc, nsB l1, l2⟩⟩
  have tb : TabB (hidT s₁.heap H) mg c T := by
    refine ⟨?_, ?_, fun y => ?_⟩
    · obtain ⟨o, us, file, tf, flags, tg, inF, text, tt, e1, r1, r2, r3, r⟩ := cT
      refine ⟨o, us, file, tf, flags, tg, inF, text, tt, stays e1 (fun vs n y => by rw [r2] at y; cases y) (fun y => ?_), r1, r2, r3, r⟩
      rw [r2] at y
      cases y
      simp at r3
    · obtain ⟨bm, ob, b1, b2, b3, b4, b5, b6⟩ := hbm
      refine ⟨bm, ob, b1, b2, fun y => ?_, fun y => ?_, stays b3 (fun vs n y => by rw [b6] at y; cases y) (fun y => by rw [b6] at y; cases y), b4, b5, b6⟩
      · obtain ⟨o, es, ep, e, d, _⟩ := gN
        rw [y, e] at b3
        cases b3
        rw [d] at b6; cases b6
      · rw [y, hT] at b3
        cases b3
        cases b6
    · obtain ⟨o, es, ep, e, d, _⟩ := gN
      rw [y, hT] at e
      cases e
      cases d
  have e0 : Env0 P w K mg (hidT s₁.heap H) callerA [] s₁ H := ⟨rfl, md, fun b o e => of_hidT e, Nat.le_of_eq (hidT_size _ _), trivial, fun b c => (nomatch c), L.ok, .of_eq ng⟩
  refine codeAny_mono ((G _ kinB (nsB gN) tb).go callerA [] s₁ H ⟨[.ref a], []⟩ [.ref a] [.ref a] _ _ rm rfl e0 (bd s₁ (.ref a)) (.cons rfl .nil) (hs H L.tb L.sq)) ?_
  intro r s' c'
  cases r with
  | error e => exact c'.elim
  | ok fl =>
    cases fl <;> first | exact False.elim c' | skip
    obtain ⟨v, H', os, bare, un, ok', rv, q⟩ := c'
    have q : v = .bl true := q
    subst q
    have rv : _ = Value.bool true := rv
    subst rv
    obtain ⟨more, hm⟩ := un.tbls T #[] L.tb
    have hm : s'.heap.get? T = some { cls := .none, data := .fields (#[] ++ more) } := ok' T _ hm
    have key : ∀ b o, b ≠ T → s₁.heap.get? b = some o → s'.heap.get? b = some o := fun b o nb e => by
      cases q : H b with
      | none => exact un.keep b o e q (fun c => nomatch c) (fun c => nomatch c)
      | some u =>
        rcases L.one b u q with ⟨rfl, rfl, _⟩ | ⟨h, _⟩
        · obtain ⟨g1, _⟩ := L.ok b _ q
          obtain ⟨g2, _⟩ := ok' b _ (un.frzs b _ _ q)
          rw [e] at g1
          cases g1
          exact g2
        · exact absurd h nb
    refine ⟨rfl, ⟨fun b o e => ?_, fun b o e => ?_⟩, os, bare⟩
    · by_cases hb : b = T
      · subst hb
        rw [hT] at e
        cases e
        exact .inr (.inl ⟨(cT.tab hT).isCodeTable, rfl, #[], more, rfl, hm⟩)
      · exact .inl (key b o hb e)
    · by_cases hb : b = T
      · exact ⟨_, hb ▸ hm⟩
      · exact ⟨o, key b o hb e⟩
theorem walkT {l : PySem.W.OpenLaw} {k : Nat} {q : Program} {loose : List Str} {XP : (Str → Option Value) → Heap → Prop} {YP : World → Heap → Prop} {d : DefRec} {K : Params → PySem.W.Frag} (hn : l.most = some 63) (hdf : d.params.defaults = []) (hr : Room k callerA)
    (hY : ∀ (w : World) (h : Heap), YP w h → (K w.params).In h)
    (F : ∀ (w : World) (mg : Str → Option Value) (fa : Addr) (h : Heap), YP w h → (K w.params).In h → h.Ns mainGlobals mg → mg d.name = some (.ref fa) →
      ∃ (fd : FuncData) (c T : Addr) (sp : SpS), h.get? T = some tabO ∧ (K w.params).lookup T = none ∧ PySem.W.CodeHd h c T ∧ (∀ (s : Shared) (u : Value), BindsTo s fd ⟨[u], []⟩ [("script", u)]) ∧
        (∀ (s : Shared) (H : Hp) (a : Addr) (ns : List Int), ns.length ≤ 63 → H T = some (.tbl #[]) → SqL (K w.params) H a (ns.map V.int) → sp [] s [.ref a] H (fun v _ => v = .bl true) fun _ _ _ => False) ∧
        ∀ base : Heap, (K w.params).In base → base.Ns mainGlobals mg → TabB base mg c T → FnS l.prog w (K w.params) mg base C8.CX0 k fa fd ["script"] sp) :
    PySem.W.WalkO q loose XP YP l.row.toRowW d [] (fun f vs => PySem.call f vs) := by
  refine Att.attach_call hn hdf fun w s₀ s₁ mg mb fa o pm cd doc a vs ns G Y _ _ _ hmg at_ i z ng => ?_
  obtain ⟨fd, c, T, sp, hT, nT, cT, bd, hs, g⟩ := F w mg fa _ Y (hY w _ Y) G.T.g hmg
  exact top_runT (hY w _ Y) G.T.g G.T.b G.T.builtins G.T.nolimit ng hT nT cT G.T.bmain at_ i z hr g bd fun H h1 h2 => hs s₁ H a ns z h1 h2
end VI

set_option Elab.async false
set_option linter.all false
set_option autoImplicit false
set_option maxRecDepth 100000
set_option maxHeartbeats 16000000

namespace VI.L
open PySem PySem.Spec PyProof.Rows L2 VI
theorem allok : fs.all (FD.ok (tbOf fs gls)) = true := by decide +kernel
theorem args0 : ArgsOk t0 := ⟨fun kV doc pm an cdv ct us hl => match us, hl with | [_], _ => rfl, (fun p hp kV doc pm an cdv ct u => by cases hp; rfl), fun p q hp => by cases hp⟩
theorem args1 : ArgsOk t1 := ⟨fun kV doc pm an cdv ct us hl => match us, hl with | [_, _, _], _ => rfl, (fun p hp => by cases hp), fun p q hp => by cases hp⟩
theorem args2 : ArgsOk t2 := ⟨fun kV doc pm an cdv ct us hl => match us, hl with | [_, _], _ => rfl, (fun p hp => by cases hp), fun p q hp kV doc pm an cdv ct u v => by cases hp; exact ⟨rfl, rfl⟩⟩
theorem args3 : ArgsOk t3 := ⟨fun kV doc pm an cdv ct us hl => match us, hl with | [_], _ => rfl, (fun p hp kV doc pm an cdv ct u => by cases hp; rfl), fun p q hp => by cases hp⟩
theorem args4 : ArgsOk t4 := ⟨fun kV doc pm an cdv ct us hl => match us, hl with | [_], _ => rfl, (fun p hp kV doc pm an cdv ct u => by cases hp; rfl), fun p q hp => by cases hp⟩
theorem args5 : ArgsOk t5 := ⟨fun kV doc pm an cdv ct us hl => match us, hl with | [_], _ => rfl, (fun p hp kV doc pm an cdv ct u => by cases hp; rfl), fun p q hp => by cases hp⟩
theorem args6 : ArgsOk t6 := ⟨fun kV doc pm an cdv ct us hl => match us, hl with | [_], _ => rfl, (fun p hp kV doc pm an cdv ct u => by cases hp; rfl), fun p q hp => by cases hp⟩
theorem args7 : ArgsOk t7 := ⟨fun kV doc pm an cdv ct us hl => match us, hl with | [_], _ => rfl, (fun p hp kV doc pm an cdv ct u => by cases hp; rfl), fun p q hp => by cases hp⟩
theorem args8 : ArgsOk t8 := ⟨fun kV doc pm an cdv ct us hl => match us, hl with | [_], _ => rfl, (fun p hp kV doc pm an cdv ct u => by cases hp; rfl), fun p q hp => by cases hp⟩
theorem args9 : ArgsOk t9 := ⟨fun kV doc pm an cdv ct us hl => match us, hl with | [_], _ => rfl, (fun p hp kV doc pm an cdv ct u => by cases hp; rfl), fun p q hp => by cases hp⟩
theorem args10 : ArgsOk t10 := ⟨fun kV doc pm an cdv ct us hl => match us, hl with | [_], _ => rfl, (fun p hp kV doc pm an cdv ct u => by cases hp; rfl), fun p q hp => by cases hp⟩
theorem args11 : ArgsOk t11 := ⟨fun kV doc pm an cdv ct us hl => match us, hl with | [_], _ => rfl, (fun p hp kV doc pm an cdv ct u => by cases hp; rfl), fun p q hp => by cases hp⟩
theorem args12 : ArgsOk t12 := ⟨fun kV doc pm an cdv ct us hl => match us, hl with | [_], _ => rfl, (fun p hp kV doc pm an cdv ct u => by cases hp; rfl), fun p q hp => by cases hp⟩
theorem args13 : ArgsOk t13 := ⟨fun kV doc pm an cdv ct us hl => match us, hl with | [_], _ => rfl, (fun p hp kV doc pm an cdv ct u => by cases hp; rfl), fun p q hp => by cases hp⟩
theorem args14 : ArgsOk t14 := ⟨fun kV doc pm an cdv ct us hl => match us, hl with | [_], _ => rfl, (fun p hp kV doc pm an cdv ct u => by cases hp; rfl), fun p q hp => by cases hp⟩
theorem args15 : ArgsOk t15 := ⟨fun kV doc pm an cdv ct us hl => match us, hl with | [_], _ => rfl, (fun p hp kV doc pm an cdv ct u => by cases hp; rfl), fun p q hp => by cases hp⟩
theorem args16 : ArgsOk t16 := ⟨fun kV doc pm an cdv ct us hl => match us, hl with | [_], _ => rfl, (fun p hp kV doc pm an cdv ct u => by cases hp; rfl), fun p q hp => by cases hp⟩
theorem args17 : ArgsOk t17 := ⟨fun kV doc pm an cdv ct us hl => match us, hl with | [_], _ => rfl, (fun p hp kV doc pm an cdv ct u => by cases hp; rfl), fun p q hp => by cases hp⟩
theorem args18 : ArgsOk t18 := ⟨fun kV doc pm an cdv ct us hl => match us, hl with | [_], _ => rfl, (fun p hp kV doc pm an cdv ct u => by cases hp; rfl), fun p q hp => by cases hp⟩
theorem args19 : ArgsOk t19 := ⟨fun kV doc pm an cdv ct us hl => match us, hl with | [_], _ => rfl, (fun p hp kV doc pm an cdv ct u => by cases hp; rfl), fun p q hp => by cases hp⟩
theorem args20 : ArgsOk t20 := ⟨fun kV doc pm an cdv ct us hl => match us, hl with | [_], _ => rfl, (fun p hp kV doc pm an cdv ct u => by cases hp; rfl), fun p q hp => by cases hp⟩
theorem args21 : ArgsOk t21 := ⟨fun kV doc pm an cdv ct us hl => match us, hl with | [_], _ => rfl, (fun p hp kV doc pm an cdv ct u => by cases hp; rfl), fun p q hp => by cases hp⟩
theorem args22 : ArgsOk t22 := ⟨fun kV doc pm an cdv ct us hl => match us, hl with | [_, _], _ => rfl, (fun p hp => by cases hp), fun p q hp kV doc pm an cdv ct u v => by cases hp; exact ⟨rfl, rfl⟩⟩
theorem args23 : ArgsOk t23 := ⟨fun kV doc pm an cdv ct us hl => match us, hl with | [_, _], _ => rfl, (fun p hp => by cases hp), fun p q hp kV doc pm an cdv ct u v => by cases hp; exact ⟨rfl, rfl⟩⟩
theorem args24 : ArgsOk t24 := ⟨fun kV doc pm an cdv ct us hl => match us, hl with | [_, _], _ => rfl, (fun p hp => by cases hp), fun p q hp kV doc pm an cdv ct u v => by cases hp; exact ⟨rfl, rfl⟩⟩
theorem args25 : ArgsOk t25 := ⟨fun kV doc pm an cdv ct us hl => match us, hl with | [_, _], _ => rfl, (fun p hp => by cases hp), fun p q hp kV doc pm an cdv ct u v => by cases hp; exact ⟨rfl, rfl⟩⟩
theorem args26 : ArgsOk t26 := ⟨fun kV doc pm an cdv ct us hl => match us, hl with | [_, _], _ => rfl, (fun p hp => by cases hp), fun p q hp kV doc pm an cdv ct u v => by cases hp; exact ⟨rfl, rfl⟩⟩
theorem args27 : ArgsOk t27 := ⟨fun kV doc pm an cdv ct us hl => match us, hl with | [_, _], _ => rfl, (fun p hp => by cases hp), fun p q hp kV doc pm an cdv ct u v => by cases hp; exact ⟨rfl, rfl⟩⟩
theorem args28 : ArgsOk t28 := ⟨fun kV doc pm an cdv ct us hl => match us, hl with | [_, _], _ => rfl, (fun p hp => by cases hp), fun p q hp kV doc pm an cdv ct u v => by cases hp; exact ⟨rfl, rfl⟩⟩
theorem args29 : ArgsOk t29 := ⟨fun kV doc pm an cdv ct us hl => match us, hl with | [_, _], _ => rfl, (fun p hp => by cases hp), fun p q hp kV doc pm an cdv ct u v => by cases hp; exact ⟨rfl, rfl⟩⟩
theorem args30 : ArgsOk t30 := ⟨fun kV doc pm an cdv ct us hl => match us, hl with | [_], _ => rfl, (fun p hp kV doc pm an cdv ct u => by cases hp; rfl), fun p q hp => by cases hp⟩
theorem args31 : ArgsOk t31 := ⟨fun kV doc pm an cdv ct us hl => match us, hl with | [_], _ => rfl, (fun p hp kV doc pm an cdv ct u => by cases hp; rfl), fun p q hp => by cases hp⟩
theorem args32 : ArgsOk t32 := ⟨fun kV doc pm an cdv ct us hl => match us, hl with | [_], _ => rfl, (fun p hp kV doc pm an cdv ct u => by cases hp; rfl), fun p q hp => by cases hp⟩
theorem args33 : ArgsOk t33 := ⟨fun kV doc pm an cdv ct us hl => match us, hl with | [_], _ => rfl, (fun p hp kV doc pm an cdv ct u => by cases hp; rfl), fun p q hp => by cases hp⟩
theorem args34 : ArgsOk t34 := ⟨fun kV doc pm an cdv ct us hl => match us, hl with | [_], _ => rfl, (fun p hp kV doc pm an cdv ct u => by cases hp; rfl), fun p q hp => by cases hp⟩
theorem args35 : ArgsOk t35 := ⟨fun kV doc pm an cdv ct us hl => match us, hl with | [_], _ => rfl, (fun p hp kV doc pm an cdv ct u => by cases hp; rfl), fun p q hp => by cases hp⟩
theorem args36 : ArgsOk t36 := ⟨fun kV doc pm an cdv ct us hl => match us, hl with | [_], _ => rfl, (fun p hp kV doc pm an cdv ct u => by cases hp; rfl), fun p q hp => by cases hp⟩
theorem args37 : ArgsOk t37 := ⟨fun kV doc pm an cdv ct us hl => match us, hl with | [_, _], _ => rfl, (fun p hp => by cases hp), fun p q hp kV doc pm an cdv ct u v => by cases hp; exact ⟨rfl, rfl⟩⟩
theorem args38 : ArgsOk t38 := ⟨fun kV doc pm an cdv ct us hl => match us, hl with | [_, _], _ => rfl, (fun p hp => by cases hp), fun p q hp kV doc pm an cdv ct u v => by cases hp; exact ⟨rfl, rfl⟩⟩
theorem args39 : ArgsOk t39 := ⟨fun kV doc pm an cdv ct us hl => match us, hl with | [_, _], _ => rfl, (fun p hp => by cases hp), fun p q hp kV doc pm an cdv ct u v => by cases hp; exact ⟨rfl, rfl⟩⟩
theorem args40 : ArgsOk t40 := ⟨fun kV doc pm an cdv ct us hl => match us, hl with | [_], _ => rfl, (fun p hp kV doc pm an cdv ct u => by cases hp; rfl), fun p q hp => by cases hp⟩
theorem args41 : ArgsOk t41 := ⟨fun kV doc pm an cdv ct us hl => match us, hl with | [_, _], _ => rfl, (fun p hp => by cases hp), fun p q hp kV doc pm an cdv ct u v => by cases hp; exact ⟨rfl, rfl⟩⟩
theorem args42 : ArgsOk t42 := ⟨fun kV doc pm an cdv ct us hl => match us, hl with | [_, _], _ => rfl, (fun p hp => by cases hp), fun p q hp kV doc pm an cdv ct u v => by cases hp; exact ⟨rfl, rfl⟩⟩
theorem args43 : ArgsOk t43 := ⟨fun kV doc pm an cdv ct us hl => match us, hl with | [_, _], _ => rfl, (fun p hp => by cases hp), fun p q hp kV doc pm an cdv ct u v => by cases hp; exact ⟨rfl, rfl⟩⟩
theorem args44 : ArgsOk t44 := ⟨fun kV doc pm an cdv ct us hl => match us, hl with | [_, _], _ => rfl, (fun p hp => by cases hp), fun p q hp kV doc pm an cdv ct u v => by cases hp; exact ⟨rfl, rfl⟩⟩
theorem locd0 {K : PySem.W.Frag} {h : Heap} {mg : Str → Option Value} {fa : Addr} {oc : Value} {od an : Option Addr} {osl : Array (Option Value)} {kV doc pm cdv ct : Value} (X : K.In h) (G : h.Ns mainGlobals mg) (a : PySem.W.nsIn K mainGlobals "is_integer" = some (some (.ref fa)))
    (l : K.lookup fa = some ⟨oc, od, .func (PySem.W.fnOf "is_integer" "is_integer" (defArgs s0) (defBody s0) (defScope s0) .none kV doc pm an cdv ct), osl⟩) (c : PySem.W.codeIn K cdv "is_integer" = true) (k : PySem.W.keepIn K (.ref fa) = true) : DefAt K mg t0 := defAt_mk args0 X G a l c k
theorem locd1 {K : PySem.W.Frag} {h : Heap} {mg : Str → Option Value} {fa : Addr} {oc : Value} {od an : Option Addr} {osl : Array (Option Value)} {kV doc pm cdv ct : Value} (X : K.In h) (G : h.Ns mainGlobals mg) (a : PySem.W.nsIn K mainGlobals "is_between" = some (some (.ref fa)))
    (l : K.lookup fa = some ⟨oc, od, .func (PySem.W.fnOf "is_between" "is_between" (defArgs s1) (defBody s1) (defScope s1) .none kV doc pm an cdv ct), osl⟩) (c : PySem.W.codeIn K cdv "is_between" = true) (k : PySem.W.keepIn K (.ref fa) = true) : DefAt K mg t1 := defAt_mk args1 X G a l c k
theorem locd2 {K : PySem.W.Frag} {h : Heap} {mg : Str → Option Value} {fa : Addr} {oc : Value} {od an : Option Addr} {osl : Array (Option Value)} {kV doc pm cdv ct : Value} (X : K.In h) (G : h.Ns mainGlobals mg) (a : PySem.W.nsIn K mainGlobals "is_word" = some (some (.ref fa)))
    (l : K.lookup fa = some ⟨oc, od, .func (PySem.W.fnOf "is_word" "is_word" (defArgs s2) (defBody s2) (defScope s2) .none kV doc pm an cdv ct), osl⟩) (c : PySem.W.codeIn K cdv "is_word" = true) (k : PySem.W.keepIn K (.ref fa) = true) : DefAt K mg t2 := defAt_mk args2 X G a l c k
theorem locd3 {K : PySem.W.Frag} {h : Heap} {mg : Str → Option Value} {fa : Addr} {oc : Value} {od an : Option Addr} {osl : Array (Option Value)} {kV doc pm cdv ct : Value} (X : K.In h) (G : h.Ns mainGlobals mg) (a : PySem.W.nsIn K mainGlobals "is_name" = some (some (.ref fa)))
    (l : K.lookup fa = some ⟨oc, od, .func (PySem.W.fnOf "is_name" "is_name" (defArgs s3) (defBody s3) (defScope s3) .none kV doc pm an cdv ct), osl⟩) (c : PySem.W.codeIn K cdv "is_name" = true) (k : PySem.W.keepIn K (.ref fa) = true) : DefAt K mg t3 := defAt_mk args3 X G a l c k
theorem locd4 {K : PySem.W.Frag} {h : Heap} {mg : Str → Option Value} {fa : Addr} {oc : Value} {od an : Option Addr} {osl : Array (Option Value)} {kV doc pm cdv ct : Value} (X : K.In h) (G : h.Ns mainGlobals mg) (a : PySem.W.nsIn K mainGlobals "is_variable" = some (some (.ref fa)))
    (l : K.lookup fa = some ⟨oc, od, .func (PySem.W.fnOf "is_variable" "is_variable" (defArgs s4) (defBody s4) (defScope s4) .none kV doc pm an cdv ct), osl⟩) (c : PySem.W.codeIn K cdv "is_variable" = true) (k : PySem.W.keepIn K (.ref fa) = true) : DefAt K mg t4 := defAt_mk args4 X G a l c k
theorem locd5 {K : PySem.W.Frag} {h : Heap} {mg : Str → Option Value} {fa : Addr} {oc : Value} {od an : Option Addr} {osl : Array (Option Value)} {kV doc pm cdv ct : Value} (X : K.In h) (G : h.Ns mainGlobals mg) (a : PySem.W.nsIn K mainGlobals "is_term" = some (some (.ref fa)))
    (l : K.lookup fa = some ⟨oc, od, .func (PySem.W.fnOf "is_term" "is_term" (defArgs s5) (defBody s5) (defScope s5) .none kV doc pm an cdv ct), osl⟩) (c : PySem.W.codeIn K cdv "is_term" = true) (k : PySem.W.keepIn K (.ref fa) = true) : DefAt K mg t5 := defAt_mk args5 X G a l c k
theorem locd6 {K : PySem.W.Frag} {h : Heap} {mg : Str → Option Value} {fa : Addr} {oc : Value} {od an : Option Addr} {osl : Array (Option Value)} {kV doc pm cdv ct : Value} (X : K.In h) (G : h.Ns mainGlobals mg) (a : PySem.W.nsIn K mainGlobals "is_atom" = some (some (.ref fa)))
    (l : K.lookup fa = some ⟨oc, od, .func (PySem.W.fnOf "is_atom" "is_atom" (defArgs s6) (defBody s6) (defScope s6) .none kV doc pm an cdv ct), osl⟩) (c : PySem.W.codeIn K cdv "is_atom" = true) (k : PySem.W.keepIn K (.ref fa) = true) : DefAt K mg t6 := defAt_mk args6 X G a l c k
theorem locd7 {K : PySem.W.Frag} {h : Heap} {mg : Str → Option Value} {fa : Addr} {oc : Value} {od an : Option Addr} {osl : Array (Option Value)} {kV doc pm cdv ct : Value} (X : K.In h) (G : h.Ns mainGlobals mg) (a : PySem.W.nsIn K mainGlobals "is_literal" = some (some (.ref fa)))
    (l : K.lookup fa = some ⟨oc, od, .func (PySem.W.fnOf "is_literal" "is_literal" (defArgs s7) (defBody s7) (defScope s7) .none kV doc pm an cdv ct), osl⟩) (c : PySem.W.codeIn K cdv "is_literal" = true) (k : PySem.W.keepIn K (.ref fa) = true) : DefAt K mg t7 := defAt_mk args7 X G a l c k
theorem locd8 {K : PySem.W.Frag} {h : Heap} {mg : Str → Option Value} {fa : Addr} {oc : Value} {od an : Option Addr} {osl : Array (Option Value)} {kV doc pm cdv ct : Value} (X : K.In h) (G : h.Ns mainGlobals mg) (a : PySem.W.nsIn K mainGlobals "is_head" = some (some (.ref fa)))
    (l : K.lookup fa = some ⟨oc, od, .func (PySem.W.fnOf "is_head" "is_head" (defArgs s8) (defBody s8) (defScope s8) .none kV doc pm an cdv ct), osl⟩) (c : PySem.W.codeIn K cdv "is_head" = true) (k : PySem.W.keepIn K (.ref fa) = true) : DefAt K mg t8 := defAt_mk args8 X G a l c k
theorem locd9 {K : PySem.W.Frag} {h : Heap} {mg : Str → Option Value} {fa : Addr} {oc : Value} {od an : Option Addr} {osl : Array (Option Value)} {kV doc pm cdv ct : Value} (X : K.In h) (G : h.Ns mainGlobals mg) (a : PySem.W.nsIn K mainGlobals "is_rule" = some (some (.ref fa)))
    (l : K.lookup fa = some ⟨oc, od, .func (PySem.W.fnOf "is_rule" "is_rule" (defArgs s9) (defBody s9) (defScope s9) .none kV doc pm an cdv ct), osl⟩) (c : PySem.W.codeIn K cdv "is_rule" = true) (k : PySem.W.keepIn K (.ref fa) = true) : DefAt K mg t9 := defAt_mk args9 X G a l c k
theorem locd10 {K : PySem.W.Frag} {h : Heap} {mg : Str → Option Value} {fa : Addr} {oc : Value} {od an : Option Addr} {osl : Array (Option Value)} {kV doc pm cdv ct : Value} (X : K.In h) (G : h.Ns mainGlobals mg) (a : PySem.W.nsIn K mainGlobals "is_game" = some (some (.ref fa)))
    (l : K.lookup fa = some ⟨oc, od, .func (PySem.W.fnOf "is_game" "is_game" (defArgs s10) (defBody s10) (defScope s10) .none kV doc pm an cdv ct), osl⟩) (c : PySem.W.codeIn K cdv "is_game" = true) (k : PySem.W.keepIn K (.ref fa) = true) : DefAt K mg t10 := defAt_mk args10 X G a l c k
theorem locd11 {K : PySem.W.Frag} {h : Heap} {mg : Str → Option Value} {fa : Addr} {oc : Value} {od an : Option Addr} {osl : Array (Option Value)} {kV doc pm cdv ct : Value} (X : K.In h) (G : h.Ns mainGlobals mg) (a : PySem.W.nsIn K mainGlobals "check_game" = some (some (.ref fa)))
    (l : K.lookup fa = some ⟨oc, od, .func (PySem.W.fnOf "check_game" "check_game" (defArgs s11) (defBody s11) (defScope s11) .none kV doc pm an cdv ct), osl⟩) (c : PySem.W.codeIn K cdv "check_game" = true) (k : PySem.W.keepIn K (.ref fa) = true) : DefAt K mg t11 := defAt_mk args11 X G a l c k
theorem locd12 {K : PySem.W.Frag} {h : Heap} {mg : Str → Option Value} {fa : Addr} {oc : Value} {od an : Option Addr} {osl : Array (Option Value)} {kV doc pm cdv ct : Value} (X : K.In h) (G : h.Ns mainGlobals mg) (a : PySem.W.nsIn K mainGlobals "check_rule" = some (some (.ref fa)))
    (l : K.lookup fa = some ⟨oc, od, .func (PySem.W.fnOf "check_rule" "check_rule" (defArgs s12) (defBody s12) (defScope s12) .none kV doc pm an cdv ct), osl⟩) (c : PySem.W.codeIn K cdv "check_rule" = true) (k : PySem.W.keepIn K (.ref fa) = true) : DefAt K mg t12 := defAt_mk args12 X G a l c k
theorem locd13 {K : PySem.W.Frag} {h : Heap} {mg : Str → Option Value} {fa : Addr} {oc : Value} {od an : Option Addr} {osl : Array (Option Value)} {kV doc pm cdv ct : Value} (X : K.In h) (G : h.Ns mainGlobals mg) (a : PySem.W.nsIn K mainGlobals "terms_of_literal" = some (some (.ref fa)))
    (l : K.lookup fa = some ⟨oc, od, .func (PySem.W.fnOf "terms_of_literal" "terms_of_literal" (defArgs s13) (defBody s13) (defScope s13) .none kV doc pm an cdv ct), osl⟩) (c : PySem.W.codeIn K cdv "terms_of_literal" = true) (k : PySem.W.keepIn K (.ref fa) = true) : DefAt K mg t13 := defAt_mk args13 X G a l c k
theorem locd14 {K : PySem.W.Frag} {h : Heap} {mg : Str → Option Value} {fa : Addr} {oc : Value} {od an : Option Addr} {osl : Array (Option Value)} {kV doc pm cdv ct : Value} (X : K.In h) (G : h.Ns mainGlobals mg) (a : PySem.W.nsIn K mainGlobals "terms_of_head" = some (some (.ref fa)))
    (l : K.lookup fa = some ⟨oc, od, .func (PySem.W.fnOf "terms_of_head" "terms_of_head" (defArgs s14) (defBody s14) (defScope s14) .none kV doc pm an cdv ct), osl⟩) (c : PySem.W.codeIn K cdv "terms_of_head" = true) (k : PySem.W.keepIn K (.ref fa) = true) : DefAt K mg t14 := defAt_mk args14 X G a l c k
theorem locd15 {K : PySem.W.Frag} {h : Heap} {mg : Str → Option Value} {fa : Addr} {oc : Value} {od an : Option Addr} {osl : Array (Option Value)} {kV doc pm cdv ct : Value} (X : K.In h) (G : h.Ns mainGlobals mg) (a : PySem.W.nsIn K mainGlobals "terms_of" = some (some (.ref fa)))
    (l : K.lookup fa = some ⟨oc, od, .func (PySem.W.fnOf "terms_of" "terms_of" (defArgs s15) (defBody s15) (defScope s15) .none kV doc pm an cdv ct), osl⟩) (c : PySem.W.codeIn K cdv "terms_of" = true) (k : PySem.W.keepIn K (.ref fa) = true) : DefAt K mg t15 := defAt_mk args15 X G a l c k
theorem locd16 {K : PySem.W.Frag} {h : Heap} {mg : Str → Option Value} {fa : Addr} {oc : Value} {od an : Option Addr} {osl : Array (Option Value)} {kV doc pm cdv ct : Value} (X : K.In h) (G : h.Ns mainGlobals mg) (a : PySem.W.nsIn K mainGlobals "variables_in" = some (some (.ref fa)))
    (l : K.lookup fa = some ⟨oc, od, .func (PySem.W.fnOf "variables_in" "variables_in" (defArgs s16) (defBody s16) (defScope s16) .none kV doc pm an cdv ct), osl⟩) (c : PySem.W.codeIn K cdv "variables_in" = true) (k : PySem.W.keepIn K (.ref fa) = true) : DefAt K mg t16 := defAt_mk args16 X G a l c k
theorem locd17 {K : PySem.W.Frag} {h : Heap} {mg : Str → Option Value} {fa : Addr} {oc : Value} {od an : Option Addr} {osl : Array (Option Value)} {kV doc pm cdv ct : Value} (X : K.In h) (G : h.Ns mainGlobals mg) (a : PySem.W.nsIn K mainGlobals "variables_of" = some (some (.ref fa)))
    (l : K.lookup fa = some ⟨oc, od, .func (PySem.W.fnOf "variables_of" "variables_of" (defArgs s17) (defBody s17) (defScope s17) .none kV doc pm an cdv ct), osl⟩) (c : PySem.W.codeIn K cdv "variables_of" = true) (k : PySem.W.keepIn K (.ref fa) = true) : DefAt K mg t17 := defAt_mk args17 X G a l c k
theorem locd18 {K : PySem.W.Frag} {h : Heap} {mg : Str → Option Value} {fa : Addr} {oc : Value} {od an : Option Addr} {osl : Array (Option Value)} {kV doc pm cdv ct : Value} (X : K.In h) (G : h.Ns mainGlobals mg) (a : PySem.W.nsIn K mainGlobals "names_in" = some (some (.ref fa)))
    (l : K.lookup fa = some ⟨oc, od, .func (PySem.W.fnOf "names_in" "names_in" (defArgs s18) (defBody s18) (defScope s18) .none kV doc pm an cdv ct), osl⟩) (c : PySem.W.codeIn K cdv "names_in" = true) (k : PySem.W.keepIn K (.ref fa) = true) : DefAt K mg t18 := defAt_mk args18 X G a l c k
theorem locd19 {K : PySem.W.Frag} {h : Heap} {mg : Str → Option Value} {fa : Addr} {oc : Value} {od an : Option Addr} {osl : Array (Option Value)} {kV doc pm cdv ct : Value} (X : K.In h) (G : h.Ns mainGlobals mg) (a : PySem.W.nsIn K mainGlobals "names_of" = some (some (.ref fa)))
    (l : K.lookup fa = some ⟨oc, od, .func (PySem.W.fnOf "names_of" "names_of" (defArgs s19) (defBody s19) (defScope s19) .none kV doc pm an cdv ct), osl⟩) (c : PySem.W.codeIn K cdv "names_of" = true) (k : PySem.W.keepIn K (.ref fa) = true) : DefAt K mg t19 := defAt_mk args19 X G a l c k
theorem locd20 {K : PySem.W.Frag} {h : Heap} {mg : Str → Option Value} {fa : Addr} {oc : Value} {od an : Option Addr} {osl : Array (Option Value)} {kV doc pm cdv ct : Value} (X : K.In h) (G : h.Ns mainGlobals mg) (a : PySem.W.nsIn K mainGlobals "roles_in" = some (some (.ref fa)))
    (l : K.lookup fa = some ⟨oc, od, .func (PySem.W.fnOf "roles_in" "roles_in" (defArgs s20) (defBody s20) (defScope s20) .none kV doc pm an cdv ct), osl⟩) (c : PySem.W.codeIn K cdv "roles_in" = true) (k : PySem.W.keepIn K (.ref fa) = true) : DefAt K mg t20 := defAt_mk args20 X G a l c k
theorem locd21 {K : PySem.W.Frag} {h : Heap} {mg : Str → Option Value} {fa : Addr} {oc : Value} {od an : Option Addr} {osl : Array (Option Value)} {kV doc pm cdv ct : Value} (X : K.In h) (G : h.Ns mainGlobals mg) (a : PySem.W.nsIn K mainGlobals "roles_of" = some (some (.ref fa)))
    (l : K.lookup fa = some ⟨oc, od, .func (PySem.W.fnOf "roles_of" "roles_of" (defArgs s21) (defBody s21) (defScope s21) .none kV doc pm an cdv ct), osl⟩) (c : PySem.W.codeIn K cdv "roles_of" = true) (k : PySem.W.keepIn K (.ref fa) = true) : DefAt K mg t21 := defAt_mk args21 X G a l c k
theorem locd22 {K : PySem.W.Frag} {h : Heap} {mg : Str → Option Value} {fa : Addr} {oc : Value} {od an : Option Addr} {osl : Array (Option Value)} {kV doc pm cdv ct : Value} (X : K.In h) (G : h.Ns mainGlobals mg) (a : PySem.W.nsIn K mainGlobals "put_term" = some (some (.ref fa)))
    (l : K.lookup fa = some ⟨oc, od, .func (PySem.W.fnOf "put_term" "put_term" (defArgs s22) (defBody s22) (defScope s22) .none kV doc pm an cdv ct), osl⟩) (c : PySem.W.codeIn K cdv "put_term" = true) (k : PySem.W.keepIn K (.ref fa) = true) : DefAt K mg t22 := defAt_mk args22 X G a l c k
theorem locd23 {K : PySem.W.Frag} {h : Heap} {mg : Str → Option Value} {fa : Addr} {oc : Value} {od an : Option Addr} {osl : Array (Option Value)} {kV doc pm cdv ct : Value} (X : K.In h) (G : h.Ns mainGlobals mg) (a : PySem.W.nsIn K mainGlobals "put_atom" = some (some (.ref fa)))
    (l : K.lookup fa = some ⟨oc, od, .func (PySem.W.fnOf "put_atom" "put_atom" (defArgs s23) (defBody s23) (defScope s23) .none kV doc pm an cdv ct), osl⟩) (c : PySem.W.codeIn K cdv "put_atom" = true) (k : PySem.W.keepIn K (.ref fa) = true) : DefAt K mg t23 := defAt_mk args23 X G a l c k
theorem locd24 {K : PySem.W.Frag} {h : Heap} {mg : Str → Option Value} {fa : Addr} {oc : Value} {od an : Option Addr} {osl : Array (Option Value)} {kV doc pm cdv ct : Value} (X : K.In h) (G : h.Ns mainGlobals mg) (a : PySem.W.nsIn K mainGlobals "put_part" = some (some (.ref fa)))
    (l : K.lookup fa = some ⟨oc, od, .func (PySem.W.fnOf "put_part" "put_part" (defArgs s24) (defBody s24) (defScope s24) .none kV doc pm an cdv ct), osl⟩) (c : PySem.W.codeIn K cdv "put_part" = true) (k : PySem.W.keepIn K (.ref fa) = true) : DefAt K mg t24 := defAt_mk args24 X G a l c k
theorem locd25 {K : PySem.W.Frag} {h : Heap} {mg : Str → Option Value} {fa : Addr} {oc : Value} {od an : Option Addr} {osl : Array (Option Value)} {kV doc pm cdv ct : Value} (X : K.In h) (G : h.Ns mainGlobals mg) (a : PySem.W.nsIn K mainGlobals "put_literal" = some (some (.ref fa)))
    (l : K.lookup fa = some ⟨oc, od, .func (PySem.W.fnOf "put_literal" "put_literal" (defArgs s25) (defBody s25) (defScope s25) .none kV doc pm an cdv ct), osl⟩) (c : PySem.W.codeIn K cdv "put_literal" = true) (k : PySem.W.keepIn K (.ref fa) = true) : DefAt K mg t25 := defAt_mk args25 X G a l c k
theorem locd26 {K : PySem.W.Frag} {h : Heap} {mg : Str → Option Value} {fa : Addr} {oc : Value} {od an : Option Addr} {osl : Array (Option Value)} {kV doc pm cdv ct : Value} (X : K.In h) (G : h.Ns mainGlobals mg) (a : PySem.W.nsIn K mainGlobals "put_head" = some (some (.ref fa)))
    (l : K.lookup fa = some ⟨oc, od, .func (PySem.W.fnOf "put_head" "put_head" (defArgs s26) (defBody s26) (defScope s26) .none kV doc pm an cdv ct), osl⟩) (c : PySem.W.codeIn K cdv "put_head" = true) (k : PySem.W.keepIn K (.ref fa) = true) : DefAt K mg t26 := defAt_mk args26 X G a l c k
theorem locd27 {K : PySem.W.Frag} {h : Heap} {mg : Str → Option Value} {fa : Addr} {oc : Value} {od an : Option Addr} {osl : Array (Option Value)} {kV doc pm cdv ct : Value} (X : K.In h) (G : h.Ns mainGlobals mg) (a : PySem.W.nsIn K mainGlobals "put_rule" = some (some (.ref fa)))
    (l : K.lookup fa = some ⟨oc, od, .func (PySem.W.fnOf "put_rule" "put_rule" (defArgs s27) (defBody s27) (defScope s27) .none kV doc pm an cdv ct), osl⟩) (c : PySem.W.codeIn K cdv "put_rule" = true) (k : PySem.W.keepIn K (.ref fa) = true) : DefAt K mg t27 := defAt_mk args27 X G a l c k
theorem locd28 {K : PySem.W.Frag} {h : Heap} {mg : Str → Option Value} {fa : Addr} {oc : Value} {od an : Option Addr} {osl : Array (Option Value)} {kV doc pm cdv ct : Value} (X : K.In h) (G : h.Ns mainGlobals mg) (a : PySem.W.nsIn K mainGlobals "is_binding" = some (some (.ref fa)))
    (l : K.lookup fa = some ⟨oc, od, .func (PySem.W.fnOf "is_binding" "is_binding" (defArgs s28) (defBody s28) (defScope s28) .none kV doc pm an cdv ct), osl⟩) (c : PySem.W.codeIn K cdv "is_binding" = true) (k : PySem.W.keepIn K (.ref fa) = true) : DefAt K mg t28 := defAt_mk args28 X G a l c k
theorem locd29 {K : PySem.W.Frag} {h : Heap} {mg : Str → Option Value} {fa : Addr} {oc : Value} {od an : Option Addr} {osl : Array (Option Value)} {kV doc pm cdv ct : Value} (X : K.In h) (G : h.Ns mainGlobals mg) (a : PySem.W.nsIn K mainGlobals "put_in" = some (some (.ref fa)))
    (l : K.lookup fa = some ⟨oc, od, .func (PySem.W.fnOf "put_in" "put_in" (defArgs s29) (defBody s29) (defScope s29) .none kV doc pm an cdv ct), osl⟩) (c : PySem.W.codeIn K cdv "put_in" = true) (k : PySem.W.keepIn K (.ref fa) = true) : DefAt K mg t29 := defAt_mk args29 X G a l c k
theorem locd30 {K : PySem.W.Frag} {h : Heap} {mg : Str → Option Value} {fa : Addr} {oc : Value} {od an : Option Addr} {osl : Array (Option Value)} {kV doc pm cdv ct : Value} (X : K.In h) (G : h.Ns mainGlobals mg) (a : PySem.W.nsIn K mainGlobals "is_plain" = some (some (.ref fa)))
    (l : K.lookup fa = some ⟨oc, od, .func (PySem.W.fnOf "is_plain" "is_plain" (defArgs s30) (defBody s30) (defScope s30) .none kV doc pm an cdv ct), osl⟩) (c : PySem.W.codeIn K cdv "is_plain" = true) (k : PySem.W.keepIn K (.ref fa) = true) : DefAt K mg t30 := defAt_mk args30 X G a l c k
theorem locd31 {K : PySem.W.Frag} {h : Heap} {mg : Str → Option Value} {fa : Addr} {oc : Value} {od an : Option Addr} {osl : Array (Option Value)} {kV doc pm cdv ct : Value} (X : K.In h) (G : h.Ns mainGlobals mg) (a : PySem.W.nsIn K mainGlobals "facts_in" = some (some (.ref fa)))
    (l : K.lookup fa = some ⟨oc, od, .func (PySem.W.fnOf "facts_in" "facts_in" (defArgs s31) (defBody s31) (defScope s31) .none kV doc pm an cdv ct), osl⟩) (c : PySem.W.codeIn K cdv "facts_in" = true) (k : PySem.W.keepIn K (.ref fa) = true) : DefAt K mg t31 := defAt_mk args31 X G a l c k
theorem locd32 {K : PySem.W.Frag} {h : Heap} {mg : Str → Option Value} {fa : Addr} {oc : Value} {od an : Option Addr} {osl : Array (Option Value)} {kV doc pm cdv ct : Value} (X : K.In h) (G : h.Ns mainGlobals mg) (a : PySem.W.nsIn K mainGlobals "moves_in" = some (some (.ref fa)))
    (l : K.lookup fa = some ⟨oc, od, .func (PySem.W.fnOf "moves_in" "moves_in" (defArgs s32) (defBody s32) (defScope s32) .none kV doc pm an cdv ct), osl⟩) (c : PySem.W.codeIn K cdv "moves_in" = true) (k : PySem.W.keepIn K (.ref fa) = true) : DefAt K mg t32 := defAt_mk args32 X G a l c k
theorem locd33 {K : PySem.W.Frag} {h : Heap} {mg : Str → Option Value} {fa : Addr} {oc : Value} {od an : Option Addr} {osl : Array (Option Value)} {kV doc pm cdv ct : Value} (X : K.In h) (G : h.Ns mainGlobals mg) (a : PySem.W.nsIn K mainGlobals "helpers_in" = some (some (.ref fa)))
    (l : K.lookup fa = some ⟨oc, od, .func (PySem.W.fnOf "helpers_in" "helpers_in" (defArgs s33) (defBody s33) (defScope s33) .none kV doc pm an cdv ct), osl⟩) (c : PySem.W.codeIn K cdv "helpers_in" = true) (k : PySem.W.keepIn K (.ref fa) = true) : DefAt K mg t33 := defAt_mk args33 X G a l c k
theorem locd34 {K : PySem.W.Frag} {h : Heap} {mg : Str → Option Value} {fa : Addr} {oc : Value} {od an : Option Addr} {osl : Array (Option Value)} {kV doc pm cdv ct : Value} (X : K.In h) (G : h.Ns mainGlobals mg) (a : PySem.W.nsIn K mainGlobals "shapes_of" = some (some (.ref fa)))
    (l : K.lookup fa = some ⟨oc, od, .func (PySem.W.fnOf "shapes_of" "shapes_of" (defArgs s34) (defBody s34) (defScope s34) .none kV doc pm an cdv ct), osl⟩) (c : PySem.W.codeIn K cdv "shapes_of" = true) (k : PySem.W.keepIn K (.ref fa) = true) : DefAt K mg t34 := defAt_mk args34 X G a l c k
theorem locd35 {K : PySem.W.Frag} {h : Heap} {mg : Str → Option Value} {fa : Addr} {oc : Value} {od an : Option Addr} {osl : Array (Option Value)} {kV doc pm cdv ct : Value} (X : K.In h) (G : h.Ns mainGlobals mg) (a : PySem.W.nsIn K mainGlobals "relations_of" = some (some (.ref fa)))
    (l : K.lookup fa = some ⟨oc, od, .func (PySem.W.fnOf "relations_of" "relations_of" (defArgs s35) (defBody s35) (defScope s35) .none kV doc pm an cdv ct), osl⟩) (c : PySem.W.codeIn K cdv "relations_of" = true) (k : PySem.W.keepIn K (.ref fa) = true) : DefAt K mg t35 := defAt_mk args35 X G a l c k
theorem locd36 {K : PySem.W.Frag} {h : Heap} {mg : Str → Option Value} {fa : Addr} {oc : Value} {od an : Option Addr} {osl : Array (Option Value)} {kV doc pm cdv ct : Value} (X : K.In h) (G : h.Ns mainGlobals mg) (a : PySem.W.nsIn K mainGlobals "is_naming" = some (some (.ref fa)))
    (l : K.lookup fa = some ⟨oc, od, .func (PySem.W.fnOf "is_naming" "is_naming" (defArgs s36) (defBody s36) (defScope s36) .none kV doc pm an cdv ct), osl⟩) (c : PySem.W.codeIn K cdv "is_naming" = true) (k : PySem.W.keepIn K (.ref fa) = true) : DefAt K mg t36 := defAt_mk args36 X G a l c k
theorem locd37 {K : PySem.W.Frag} {h : Heap} {mg : Str → Option Value} {fa : Addr} {oc : Value} {od an : Option Addr} {osl : Array (Option Value)} {kV doc pm cdv ct : Value} (X : K.In h) (G : h.Ns mainGlobals mg) (a : PySem.W.nsIn K mainGlobals "named_part" = some (some (.ref fa)))
    (l : K.lookup fa = some ⟨oc, od, .func (PySem.W.fnOf "named_part" "named_part" (defArgs s37) (defBody s37) (defScope s37) .none kV doc pm an cdv ct), osl⟩) (c : PySem.W.codeIn K cdv "named_part" = true) (k : PySem.W.keepIn K (.ref fa) = true) : DefAt K mg t37 := defAt_mk args37 X G a l c k
theorem locd38 {K : PySem.W.Frag} {h : Heap} {mg : Str → Option Value} {fa : Addr} {oc : Value} {od an : Option Addr} {osl : Array (Option Value)} {kV doc pm cdv ct : Value} (X : K.In h) (G : h.Ns mainGlobals mg) (a : PySem.W.nsIn K mainGlobals "named_game" = some (some (.ref fa)))
    (l : K.lookup fa = some ⟨oc, od, .func (PySem.W.fnOf "named_game" "named_game" (defArgs s38) (defBody s38) (defScope s38) .none kV doc pm an cdv ct), osl⟩) (c : PySem.W.codeIn K cdv "named_game" = true) (k : PySem.W.keepIn K (.ref fa) = true) : DefAt K mg t38 := defAt_mk args38 X G a l c k
theorem locd39 {K : PySem.W.Frag} {h : Heap} {mg : Str → Option Value} {fa : Addr} {oc : Value} {od an : Option Addr} {osl : Array (Option Value)} {kV doc pm cdv ct : Value} (X : K.In h) (G : h.Ns mainGlobals mg) (a : PySem.W.nsIn K mainGlobals "renamed" = some (some (.ref fa)))
    (l : K.lookup fa = some ⟨oc, od, .func (PySem.W.fnOf "renamed" "renamed" (defArgs s39) (defBody s39) (defScope s39) .none kV doc pm an cdv ct), osl⟩) (c : PySem.W.codeIn K cdv "renamed" = true) (k : PySem.W.keepIn K (.ref fa) = true) : DefAt K mg t39 := defAt_mk args39 X G a l c k
theorem locd40 {K : PySem.W.Frag} {h : Heap} {mg : Str → Option Value} {fa : Addr} {oc : Value} {od an : Option Addr} {osl : Array (Option Value)} {kV doc pm cdv ct : Value} (X : K.In h) (G : h.Ns mainGlobals mg) (a : PySem.W.nsIn K mainGlobals "size_of" = some (some (.ref fa)))
    (l : K.lookup fa = some ⟨oc, od, .func (PySem.W.fnOf "size_of" "size_of" (defArgs s40) (defBody s40) (defScope s40) .none kV doc pm an cdv ct), osl⟩) (c : PySem.W.codeIn K cdv "size_of" = true) (k : PySem.W.keepIn K (.ref fa) = true) : DefAt K mg t40 := defAt_mk args40 X G a l c k
theorem locd41 {K : PySem.W.Frag} {h : Heap} {mg : Str → Option Value} {fa : Addr} {oc : Value} {od an : Option Addr} {osl : Array (Option Value)} {kV doc pm cdv ct : Value} (X : K.In h) (G : h.Ns mainGlobals mg) (a : PySem.W.nsIn K mainGlobals "_law_pot" = some (some (.ref fa)))
    (l : K.lookup fa = some ⟨oc, od, .func (PySem.W.fnOf "_law_pot" "_law_pot" (defArgs s41) (defBody s41) (defScope s41) .none kV doc pm an cdv ct), osl⟩) (c : PySem.W.codeIn K cdv "_law_pot" = true) (k : PySem.W.keepIn K (.ref fa) = true) : DefAt K mg t41 := defAt_mk args41 X G a l c k
theorem locd42 {K : PySem.W.Frag} {h : Heap} {mg : Str → Option Value} {fa : Addr} {oc : Value} {od an : Option Addr} {osl : Array (Option Value)} {kV doc pm cdv ct : Value} (X : K.In h) (G : h.Ns mainGlobals mg) (a : PySem.W.nsIn K mainGlobals "_law_take" = some (some (.ref fa)))
    (l : K.lookup fa = some ⟨oc, od, .func (PySem.W.fnOf "_law_take" "_law_take" (defArgs s42) (defBody s42) (defScope s42) .none kV doc pm an cdv ct), osl⟩) (c : PySem.W.codeIn K cdv "_law_take" = true) (k : PySem.W.keepIn K (.ref fa) = true) : DefAt K mg t42 := defAt_mk args42 X G a l c k
theorem locd43 {K : PySem.W.Frag} {h : Heap} {mg : Str → Option Value} {fa : Addr} {oc : Value} {od an : Option Addr} {osl : Array (Option Value)} {kV doc pm cdv ct : Value} (X : K.In h) (G : h.Ns mainGlobals mg) (a : PySem.W.nsIn K mainGlobals "_law_of" = some (some (.ref fa)))
    (l : K.lookup fa = some ⟨oc, od, .func (PySem.W.fnOf "_law_of" "_law_of" (defArgs s43) (defBody s43) (defScope s43) .none kV doc pm an cdv ct), osl⟩) (c : PySem.W.codeIn K cdv "_law_of" = true) (k : PySem.W.keepIn K (.ref fa) = true) : DefAt K mg t43 := defAt_mk args43 X G a l c k
theorem locd44 {K : PySem.W.Frag} {h : Heap} {mg : Str → Option Value} {fa : Addr} {oc : Value} {od an : Option Addr} {osl : Array (Option Value)} {kV doc pm cdv ct : Value} (X : K.In h) (G : h.Ns mainGlobals mg) (a : PySem.W.nsIn K mainGlobals "_law_cells" = some (some (.ref fa)))
    (l : K.lookup fa = some ⟨oc, od, .func (PySem.W.fnOf "_law_cells" "_law_cells" (defArgs s44) (defBody s44) (defScope s44) .none kV doc pm an cdv ct), osl⟩) (c : PySem.W.codeIn K cdv "_law_cells" = true) (k : PySem.W.keepIn K (.ref fa) = true) : DefAt K mg t44 := defAt_mk args44 X G a l c k
def uCa : FD := ⟨"_law_caught", ["call"], ["call"], s_caught, ⟨1, 1, [], .nil⟩⟩
theorem argsCa : ArgsOk uCa := ⟨fun kV doc pm an cdv ct us hl => match us, hl with | [_], _ => rfl, (fun p hp kV doc pm an cdv ct u => by cases hp; rfl), fun p q hp => by cases hp⟩
def uIr : FD := ⟨"_law_is_raised", ["call", "due"], ["call", "due"], s_is_raised, ⟨2, 2, [], .nil⟩⟩
theorem argsIr : ArgsOk uIr := ⟨fun kV doc pm an cdv ct us hl => match us, hl with | [_, _], _ => rfl, (fun p hp => by cases hp), fun p q hp kV doc pm an cdv ct u v => by cases hp; exact ⟨rfl, rfl⟩⟩
def uRi : FD := ⟨"_law_right", ["pot"], ["pot"], s_right, ⟨1, 1, [], .nil⟩⟩
theorem argsRi : ArgsOk uRi := ⟨fun kV doc pm an cdv ct us hl => match us, hl with | [_], _ => rfl, (fun p hp kV doc pm an cdv ct u => by cases hp; rfl), fun p q hp => by cases hp⟩
def uLw : FD := ⟨"law", ["script"], ["script"], slaw, ⟨1, 1, [], .nil⟩⟩
theorem argsLw : ArgsOk uLw := ⟨fun kV doc pm an cdv ct us hl => match us, hl with | [_], _ => rfl, (fun p hp kV doc pm an cdv ct u => by cases hp; rfl), fun p q hp => by cases hp⟩
/-- a def that is walked by hand -/
def SpecAt (K : PySem.W.Frag) (mg : Str → Option Value) (A : FD) (fa : Addr) (cdv : Value) : Prop := ∃ fd : FuncData, DefM K mg A.id A.st fa fd ∧ Binds K fd A.ps [] ∧ fd.code = cdv ∧ (A.ps = ([("script" : Str)] : List Str) → ∀ (s : Shared) (u : Value), BindsTo s fd ⟨[u], []⟩ [("script", u)])
theorem spec_mk {K : PySem.W.Frag} {h : Heap} {mg : Str → Option Value} {A : FD} {fa : Addr} {oc : Value} {od an : Option Addr} {osl : Array (Option Value)} {kV doc pm cdv ct : Value} (hb : ArgsOk A) (X : K.In h) (G : h.Ns mainGlobals mg) (a : PySem.W.nsIn K mainGlobals A.id = some (some (.ref fa)))
    (l : K.lookup fa = some ⟨oc, od, .func (PySem.W.fnOf A.id A.id (defArgs A.st) (defBody A.st) (defScope A.st) .none kV doc pm an cdv ct), osl⟩) (c : PySem.W.codeIn K cdv A.id = true) (k : PySem.W.keepIn K (.ref fa) = true) : SpecAt K mg A fa cdv :=
  ⟨_, ⟨fun_mk l c k, PySem.W.mg_of X G a⟩, .all (hb.1 kV doc pm an cdv ct), rfl, fun hp s u => .of_eq (by rw [hb.1 kV doc pm an cdv ct [u] (by rw [hp]; rfl), hp]; rfl)⟩
theorem specCa {K : PySem.W.Frag} {h : Heap} {mg : Str → Option Value} {fa : Addr} {oc : Value} {od an : Option Addr} {osl : Array (Option Value)} {kV doc pm cdv ct : Value} (X : K.In h) (G : h.Ns mainGlobals mg) (a : PySem.W.nsIn K mainGlobals "_law_caught" = some (some (.ref fa)))
    (l : K.lookup fa = some ⟨oc, od, .func (PySem.W.fnOf "_law_caught" "_law_caught" (defArgs s_caught) (defBody s_caught) (defScope s_caught) .none kV doc pm an cdv ct), osl⟩) (c : PySem.W.codeIn K cdv "_law_caught" = true) (k : PySem.W.keepIn K (.ref fa) = true) : SpecAt K mg uCa fa cdv := spec_mk argsCa X G a l c k
theorem specIr {K : PySem.W.Frag} {h : Heap} {mg : Str → Option Value} {fa : Addr} {oc : Value} {od an : Option Addr} {osl : Array (Option Value)} {kV doc pm cdv ct : Value} (X : K.In h) (G : h.Ns mainGlobals mg) (a : PySem.W.nsIn K mainGlobals "_law_is_raised" = some (some (.ref fa)))
    (l : K.lookup fa = some ⟨oc, od, .func (PySem.W.fnOf "_law_is_raised" "_law_is_raised" (defArgs s_is_raised) (defBody s_is_raised) (defScope s_is_raised) .none kV doc pm an cdv ct), osl⟩) (c : PySem.W.codeIn K cdv "_law_is_raised" = true) (k : PySem.W.keepIn K (.ref fa) = true) : SpecAt K mg uIr fa cdv := spec_mk argsIr X G a l c k
theorem specRi {K : PySem.W.Frag} {h : Heap} {mg : Str → Option Value} {fa : Addr} {oc : Value} {od an : Option Addr} {osl : Array (Option Value)} {kV doc pm cdv ct : Value} (X : K.In h) (G : h.Ns mainGlobals mg) (a : PySem.W.nsIn K mainGlobals "_law_right" = some (some (.ref fa)))
    (l : K.lookup fa = some ⟨oc, od, .func (PySem.W.fnOf "_law_right" "_law_right" (defArgs s_right) (defBody s_right) (defScope s_right) .none kV doc pm an cdv ct), osl⟩) (c : PySem.W.codeIn K cdv "_law_right" = true) (k : PySem.W.keepIn K (.ref fa) = true) : SpecAt K mg uRi fa cdv := spec_mk argsRi X G a l c k
theorem specLw {K : PySem.W.Frag} {h : Heap} {mg : Str → Option Value} {fa : Addr} {oc : Value} {od an : Option Addr} {osl : Array (Option Value)} {kV doc pm cdv ct : Value} (X : K.In h) (G : h.Ns mainGlobals mg) (a : PySem.W.nsIn K mainGlobals "law" = some (some (.ref fa)))
    (l : K.lookup fa = some ⟨oc, od, .func (PySem.W.fnOf "law" "law" (defArgs slaw) (defBody slaw) (defScope slaw) .none kV doc pm an cdv ct), osl⟩) (c : PySem.W.codeIn K cdv "law" = true) (k : PySem.W.keepIn K (.ref fa) = true) : SpecAt K mg uLw fa cdv := spec_mk argsLw X G a l c k
theorem tab_mk {K : PySem.W.Frag} {mg : Str → Option Value} {fr c T : Addr} {oc : Value} {od : Option Addr} {vs : Array Value} {osl : Array (Option Value)} (_ : SpecAt K mg uRi fr (.ref c)) (_ : K.lookup c = some ⟨oc, od, .fields vs, osl⟩) (_ : vs[11]? = some (.ref T)) (hc : PySem.W.codeHdIn K c T = true) (n : K.lookup T = none) : PySem.W.codeHdIn K c T = true ∧ K.lookup T = none := ⟨hc, n⟩
theorem seen_mk {K : PySem.W.Frag} {P : Program} {mg : Str → Option Value} {nm : Str} {C D fI : Addr} (_ : ErrTxt P K mg nm C D fI) (cl : (PySem.W.clsIn K C).isSome = true) (ga : PySem.W.findIn K (.ref C) "__getattribute__" = some (some (.builtin "BaseException.__getattribute__"))) (gg : PySem.W.findIn K (.ref C) "__getattr__" = some none)
    (sb : PySem.W.subIn K (.ref C) (.type "BaseException") = some true) (ha : PySem.W.findIn K (.ref C) "__class__" = some (some (.builtin "object.__class__"))) (hn : PySem.W.specialIn K (.builtin "object.__class__") "__get__" = some (some (.builtin "getset_descriptor.__get__")))
    (ht : PySem.W.takesIn K (.builtin "object.__class__") = some true) (hm : PySem.W.mroIn K C (.type "object") = some true) (hd : PySem.W.hasDictIn K C = true) (no : PySem.W.findIn K (.ref C) "value" = some none) : ErrSeen K C := ⟨cl, ga, gg, sb, ha, hn, ht, hm, hd, no⟩
open PySem.W (Frag findIn subIn typeIn keepIn clsIn mroIn nsIn) in
theorem err_mk {P : Program} {K : PySem.W.Frag} {h : Heap} {mg : Str → Option Value} {nm : Str} {C D fI : Addr} {cn q : Str} {N : Addr} {bs bm : List Value} {sn : List Str} {sub ab col dd k0 k1 k2 k3 k5} {cd} {oc : Value} {od : Option Addr} {doc pm : Value} {an : Option Addr} {cda cc : Addr} {ct : Value} {osl : Array (Option Value)} {p1 p2 : Pos} {c1 c2 : Value} {d1 d2 : Option Addr} {vs : Array Value} {s1 s2 : Array (Option Value)} {file : Str} {tf : Tok}
    (X : K.In h) (G : h.Ns mainGlobals mg) (a : nsIn K mainGlobals nm = some (some (.ref C)))
    (l : K.lookup C = some (excClassObj cn q C N bs bm true sn sub ab col dd k0 k1 k2 k3 k5 "ValueError.__new__")) (r : HandSPX.refsVE bm = true) (sa : findIn K (.ref C) "__setattr__" = some (some (.builtin "object.__setattr__")))
    (ga : findIn K (.ref C) "__getattribute__" = some (some (.builtin "BaseException.__getattribute__"))) (gg : findIn K (.ref C) "__getattr__" = some none) (noN : findIn K (.ref C) "value" = some none) (iC : findIn K (.ref C) "__init__" = some (some (.ref fI)))
    (tC : typeIn K (.ref fI) = some (.type "function")) (kC : keepIn K (.ref C) = true) (exC : subIn K (.ref C) (.type "BaseException") = some true) (veC : subIn K (.ref C) (.type "ValueError") = some true) (tyC : typeIn K (.ref C) = some (.type "type")) (hdC : PySem.W.hasDictIn K C = true)
    (d : nsIn K mainGlobals "RuleError" = some (some (.ref D))) (sup : PySem.W.ks_superIn K C D "__init__" = some (some (.builtin "ValueError.__init__"))) (cdD : clsIn K D = some cd) (subD : mroIn K C (.ref D) = some true) (opq : nsIn K cStatics "thirdparty.any" = some none)
    (exi : PySem.W.excInitIn K C [.type "ValueError", .type "Exception", .type "BaseException", .type "object"] "ValueError.__new__" = true) (nsup : mg "super" = none) (top : (P.main.scope.names.lookup ("super" : Str)).isSome = false)
    (fl : K.lookup fI = some ⟨oc, od, .func (PySem.W.ksFn "__init__" "RuleError.__init__" (riA p1 p2) riB riS .none .none doc pm an (.ref cda) ct cc), osl⟩) (fc : PySem.W.codeIn K (.ref cda) "RuleError.__init__" = true) (cl : K.lookup cda = some ⟨c1, d1, .fields vs, s1⟩) (v2 : vs[2]? = some (.str file tf)) (fe : ((P.main.file : Str) == file) = true) (ce : K.lookup cc = some ⟨c2, d2, .cell (some (.ref D)), s2⟩) : ErrTxt P K mg nm C D fI :=
  ⟨PySem.W.mg_of X G a, ⟨_, _, _, _, _, _, _, _, _, _, _, _, _, _, _, l, r⟩, sa, ga, gg, noN, iC, tC, kC, exC, veC, tyC, hdC, sup, ⟨_, cdD⟩, subD, opq, exi, nsup, top, ⟨_, _, _, _, _, _, _, _, _, _, _, _, _, _, _, _, _, _, _, _, fl, fc, cl, v2, fe, ce⟩⟩
def csOf (c0 c1 c2 c3 : Addr) : Nat → Addr | 0 => c0 | 1 => c1 | 2 => c2 | _ => c3
def kitOk (K : PySem.W.Frag) (cs : Nat → Addr) : Bool := (List.range 4).all fun i => (List.range 4).all fun j => PySem.W.kitOne K (.ref (cs i)) (.ref (cs j)) == some (decide (i = j))
def exmOk (K : PySem.W.Frag) (cs : Nat → Addr) (CR : Addr) : Bool := (List.range 4).all fun i => PySem.W.exmOne K (.ref (cs i)) (.ref CR) == some true
theorem env_mk {K : PySem.W.Frag} {mg : Str → Option Value} {P : Program} {c0 c1 c2 c3 D fI : Addr} (e0 : ErrTxt P K mg "BadGame" c0 D fI) (e1 : ErrTxt P K mg "BadRule" c1 D fI) (e2 : ErrTxt P K mg "BadBinding" c2 D fI) (e3 : ErrTxt P K mg "BadNaming" c3 D fI)
    (s0 : ErrSeen K c0) (s1 : ErrSeen K c1) (s2 : ErrSeen K c2) (s3 : ErrSeen K c3) (hk : kitOk K (csOf c0 c1 c2 c3) = true) (hx : exmOk K (csOf c0 c1 c2 c3) D = true) (gR : mg "RuleError" = some (.ref D)) (mi : mg "isinstance" = none) (mr : mg "repr" = none) : ErrAll P K mg (csOf c0 c1 c2 c3) D fI ∧ ErrEnv K mg (csOf c0 c1 c2 c3) D := by
  refine ⟨⟨e0, e1, e2, e3⟩, ⟨fun j hj => ?_, fun j hj => ?_, fun i j hi hj => ?_, fun j hj => ?_, gR, mi, mr⟩⟩
  · match j, hj with
    | 0, _ => exact e0.gC
    | 1, _ => exact e1.gC
    | 2, _ => exact e2.gC
    | 3, _ => exact e3.gC
    | n + 4, h => exact absurd h (by omega)
  · match j, hj with
    | 0, _ => exact s0
    | 1, _ => exact s1
    | 2, _ => exact s2
    | 3, _ => exact s3
    | n + 4, h => exact absurd h (by omega)
  · have h1 := List.all_eq_true.mp hk i (List.mem_range.mpr hi)
    have h2 := List.all_eq_true.mp h1 j (List.mem_range.mpr hj)
    exact eq_of_beq h2
  · have h1 := List.all_eq_true.mp hx j (List.mem_range.mpr hj)
    exact eq_of_beq h1
/-- the law's promise -/
theorem last4 (law : ∀ ns : List Int, ns.length ≤ 63 → LawD 32 ns) {P : Program} {K : PySem.W.Frag} {w : World} {mg : Str → Option Value} {h : Heap} {fa fl fr fi fc c T c0 c1 c2 c3 D fI : Addr} {k1 k2 k3 : Value} (KX : K.In h) (hmg : mg "law" = some (.ref fa)) (M : Mw K mg fs gls G)
    (E : ErrAll P K mg (csOf c0 c1 c2 c3) D fI ∧ ErrEnv K mg (csOf c0 c1 c2 c3) D) (sC : SpecAt K mg uCa fc k1) (sI : SpecAt K mg uIr fi k2) (sR : SpecAt K mg uRi fr (.ref c)) (sL : SpecAt K mg uLw fl k3) (hT : h.get? T = some tabO) (tb : PySem.W.codeHdIn K c T = true ∧ K.lookup T = none) :
    ∃ (fd : FuncData) (c T : Addr) (sp : SpS), h.get? T = some tabO ∧ K.lookup T = none ∧ PySem.W.CodeHd h c T ∧ (∀ (s : Shared) (u : Value), BindsTo s fd ⟨[u], []⟩ [("script", u)]) ∧
      (∀ (s : Shared) (H : Hp) (a : Addr) (ns : List Int), ns.length ≤ 63 → H T = some (.tbl #[]) → SqL K H a (ns.map V.int) → sp [] s [.ref a] H (fun v _ => v = .bl true) fun _ _ _ => False) ∧
      ∀ base : Heap, K.In base → base.Ns mainGlobals mg → LamX.TabB base mg c T → FnS P w K mg base C8.CX0 40 fa fd ["script"] sp := by
  obtain ⟨E1, E2⟩ := E
  obtain ⟨fdc, dC, bC, _, _⟩ := sC
  obtain ⟨fdi, dI, bI, _, _⟩ := sI
  obtain ⟨fdr, dR, bR, hcode, _⟩ := sR
  obtain ⟨fdl, dL, _, _, bL⟩ := sL
  have ef := hmg.symm.trans dL.mgf
  cases ef
  refine ⟨fdl, c, T, spLw K T 32, hT, tb.2, PySem.W.codeHd_of_K KX tb.1, bL rfl, fun s H a ns hl h1 h2 => ⟨a, ns, rfl, h2, ⟨#[], h1, ?_, fun pos cv z => ?_⟩, law ns hl, fun _ => rfl⟩, fun base kin gns TB => ?_⟩
  · trivial
  · cases z
  · have R := fun n => right_ok (P := P) (w := w) (base := base) M allok E1 E2 (M.blt "all" (by decide +kernel)) TB hcode dR dI dC bC bI n
    exact law_okS M allok (M.blt "all" (by decide +kernel)) (M.blt "range" (by decide +kernel)) dL dR bR 32 (R 32)
theorem mwk {K : PySem.W.Frag} {mg : Str → Option Value}
    (d0 : DefAt K mg t0) (d1 : DefAt K mg t1) (d2 : DefAt K mg t2) (d3 : DefAt K mg t3) (d4 : DefAt K mg t4) (d5 : DefAt K mg t5) (d6 : DefAt K mg t6) (d7 : DefAt K mg t7) (d8 : DefAt K mg t8) (d9 : DefAt K mg t9) (d10 : DefAt K mg t10) (d11 : DefAt K mg t11) (d12 : DefAt K mg t12) (d13 : DefAt K mg t13) (d14 : DefAt K mg t14) (d15 : DefAt K mg t15) (d16 : DefAt K mg t16) (d17 : DefAt K mg t17) (d18 : DefAt K mg t18) (d19 : DefAt K mg t19) (d20 : DefAt K mg t20) (d21 : DefAt K mg t21) (d22 : DefAt K mg t22) (d23 : DefAt K mg t23) (d24 : DefAt K mg t24) (d25 : DefAt K mg t25) (d26 : DefAt K mg t26) (d27 : DefAt K mg t27) (d28 : DefAt K mg t28) (d29 : DefAt K mg t29) (d30 : DefAt K mg t30) (d31 : DefAt K mg t31) (d32 : DefAt K mg t32) (d33 : DefAt K mg t33) (d34 : DefAt K mg t34) (d35 : DefAt K mg t35) (d36 : DefAt K mg t36) (d37 : DefAt K mg t37) (d38 : DefAt K mg t38) (d39 : DefAt K mg t39) (d40 : DefAt K mg t40) (d41 : DefAt K mg t41) (d42 : DefAt K mg t42) (d43 : DefAt K mg t43) (d44 : DefAt K mg t44)
    (g0 : GlbAt K mg "MOST_SIGNS" (.int 8)) (g1 : GlbAt K mg "SMALL" (.str "abcdefghijklmnopqrstuvwxyz")) (g2 : GlbAt K mg "FIGURES" (.str "0123456789")) (g3 : GlbAt K mg "RESERVED" (.tup [(.str "role"), (.str "begins"), (.str "may"), (.str "next"), (.str "over"), (.str "worth"), (.str "if"), (.str "now"), (.str "does"), (.str "not"), (.str "is")])) (g4 : GlbAt K mg "GREAT" (.str "ABCDEFGHIJKLMNOPQRSTUVWXYZ")) (g5 : GlbAt K mg "MOST_TERMS" (.int 3)) (g6 : GlbAt K mg "FOUR" (.int 4)) (g7 : GlbAt K mg "THREE" (.int 3)) (g8 : GlbAt K mg "ROLE" (.str "role")) (g9 : GlbAt K mg "HOLDS" (.str "holds")) (g10 : GlbAt K mg "NOW" (.str "now")) (g11 : GlbAt K mg "DOES" (.str "does")) (g12 : GlbAt K mg "SAME" (.str "same")) (g13 : GlbAt K mg "OVER" (.str "over")) (g14 : GlbAt K mg "NEXT" (.str "next")) (g15 : GlbAt K mg "BEGINS" (.str "begins")) (g16 : GlbAt K mg "MAY" (.str "may")) (g17 : GlbAt K mg "MOST_WORTH" (.int 100)) (g18 : GlbAt K mg "WORTH" (.str "worth")) (g19 : GlbAt K mg "MOST_BODY" (.int 6)) (g20 : GlbAt K mg "MOST_RULES" (.int 200))
    (z0 : mg "len" = none) (z1 : mg "int" = none) (z2 : mg "abs" = none) (z3 : mg "max" = none) (z4 : mg "min" = none) (z5 : mg "sum" = none) (z6 : mg "list" = none) (z7 : mg "tuple" = none) (z8 : mg "all" = none) (z9 : mg "repr" = none) (z10 : mg "str" = none) (z11 : mg "isinstance" = none) (z12 : mg "bool" = none) (z13 : mg "range" = none) (z14 : mg "zip" = none) (z15 : mg "enumerate" = none) (z16 : mg "sorted" = none) (z17 : mg "set" = none) (z18 : mg "dict" = none) : Mw K mg fs gls G := mw_of (dcons d0 (dcons d1 (dcons d2 (dcons d3 (dcons d4 (dcons d5 (dcons d6 (dcons d7 (dcons d8 (dcons d9 (dcons d10 (dcons d11 (dcons d12 (dcons d13 (dcons d14 (dcons d15 (dcons d16 (dcons d17 (dcons d18 (dcons d19 (dcons d20 (dcons d21 (dcons d22 (dcons d23 (dcons d24 (dcons d25 (dcons d26 (dcons d27 (dcons d28 (dcons d29 (dcons d30 (dcons d31 (dcons d32 (dcons d33 (dcons d34 (dcons d35 (dcons d36 (dcons d37 (dcons d38 (dcons d39 (dcons d40 (dcons d41 (dcons d42 (dcons d43 (dcons d44 (dnil)))))))))))))))))))))))))))))))))))))))))))))) (gcons g0 (gcons g1 (gcons g2 (gcons g3 (gcons g4 (gcons g5 (gcons g6 (gcons g7 (gcons g8 (gcons g9 (gcons g10 (gcons g11 (gcons g12 (gcons g13 (gcons g14 (gcons g15 (gcons g16 (gcons g17 (gcons g18 (gcons g19 (gcons g20 (gnil)))))))))))))))))))))) (bcons z0 (bcons z1 (bcons z2 (bcons z3 (bcons z4 (bcons z5 (bcons z6 (bcons z7 (bcons z8 (bcons z9 (bcons z10 (bcons z11 (bcons z12 (bcons z13 (bcons z14 (bcons z15 (bcons z16 (bcons z17 (bcons z18 (bnil))))))))))))))))))))
end VI.L

set_option maxHeartbeats 8000000
open PySem PySem.W PyProof.Rows in
set_option maxRecDepth 100000 in
set_option maxHeartbeats 0 in
open_top hd for PySem.Challenge.rw_astherulessay_k04_what_trees_refuse
open PySem PySem.W PyProof.Rows in
set_option maxRecDepth 100000 in
set_option maxHeartbeats 0 in
theorem PySem.Challenge.cw_astherulessay_k04_what_trees_refuse_holds : PySem.Challenge.rw_astherulessay_k04_what_trees_refuse.Holds := by
  refine hd ?hc
  k_fill
  refine VI.walkT (l := PySem.Challenge.rw_astherulessay_k04_what_trees_refuse) (k := 40) rfl rfl ⟨rfl, by decide, by decide⟩ (fun w h Y => PySem.W.km_in_of Y) ?F
  case F =>
    intro w mg fa h Y KX G hmg
    have hT8 := PySem.W.km_tabs_of Y
    have d0 := by (refine' VI.L.locd0 KX G ?da0 ?dl0 ?dc0 ?dk0; (case da0 => k_is); (case dl0 => k_is); (case dc0 => k_is); (case dk0 => k_is))
    have d1 := by (refine' VI.L.locd1 KX G ?da1 ?dl1 ?dc1 ?dk1; (case da1 => k_is); (case dl1 => k_is); (case dc1 => k_is); (case dk1 => k_is))
    have d2 := by (refine' VI.L.locd2 KX G ?da2 ?dl2 ?dc2 ?dk2; (case da2 => k_is); (case dl2 => k_is); (case dc2 => k_is); (case dk2 => k_is))
    have d3 := by (refine' VI.L.locd3 KX G ?da3 ?dl3 ?dc3 ?dk3; (case da3 => k_is); (case dl3 => k_is); (case dc3 => k_is); (case dk3 => k_is))
    have d4 := by (refine' VI.L.locd4 KX G ?da4 ?dl4 ?dc4 ?dk4; (case da4 => k_is); (case dl4 => k_is); (case dc4 => k_is); (case dk4 => k_is))
    have d5 := by (refine' VI.L.locd5 KX G ?da5 ?dl5 ?dc5 ?dk5; (case da5 => k_is); (case dl5 => k_is); (case dc5 => k_is); (case dk5 => k_is))
    have d6 := by (refine' VI.L.locd6 KX G ?da6 ?dl6 ?dc6 ?dk6; (case da6 => k_is); (case dl6 => k_is); (case dc6 => k_is); (case dk6 => k_is))
    have d7 := by (refine' VI.L.locd7 KX G ?da7 ?dl7 ?dc7 ?dk7; (case da7 => k_is); (case dl7 => k_is); (case dc7 => k_is); (case dk7 => k_is))
    have d8 := by (refine' VI.L.locd8 KX G ?da8 ?dl8 ?dc8 ?dk8; (case da8 => k_is); (case dl8 => k_is); (case dc8 => k_is); (case dk8 => k_is))
    have d9 := by (refine' VI.L.locd9 KX G ?da9 ?dl9 ?dc9 ?dk9; (case da9 => k_is); (case dl9 => k_is); (case dc9 => k_is); (case dk9 => k_is))
    have d10 := by (refine' VI.L.locd10 KX G ?da10 ?dl10 ?dc10 ?dk10; (case da10 => k_is); (case dl10 => k_is); (case dc10 => k_is); (case dk10 => k_is))
    have d11 := by (refine' VI.L.locd11 KX G ?da11 ?dl11 ?dc11 ?dk11; (case da11 => k_is); (case dl11 => k_is); (case dc11 => k_is); (case dk11 => k_is))
    have d12 := by (refine' VI.L.locd12 KX G ?da12 ?dl12 ?dc12 ?dk12; (case da12 => k_is); (case dl12 => k_is); (case dc12 => k_is); (case dk12 => k_is))
    have d13 := by (refine' VI.L.locd13 KX G ?da13 ?dl13 ?dc13 ?dk13; (case da13 => k_is); (case dl13 => k_is); (case dc13 => k_is); (case dk13 => k_is))
    have d14 := by (refine' VI.L.locd14 KX G ?da14 ?dl14 ?dc14 ?dk14; (case da14 => k_is); (case dl14 => k_is); (case dc14 => k_is); (case dk14 => k_is))
    have d15 := by (refine' VI.L.locd15 KX G ?da15 ?dl15 ?dc15 ?dk15; (case da15 => k_is); (case dl15 => k_is); (case dc15 => k_is); (case dk15 => k_is))
    have d16 := by (refine' VI.L.locd16 KX G ?da16 ?dl16 ?dc16 ?dk16; (case da16 => k_is); (case dl16 => k_is); (case dc16 => k_is); (case dk16 => k_is))
    have d17 := by (refine' VI.L.locd17 KX G ?da17 ?dl17 ?dc17 ?dk17; (case da17 => k_is); (case dl17 => k_is); (case dc17 => k_is); (case dk17 => k_is))
    have d18 := by (refine' VI.L.locd18 KX G ?da18 ?dl18 ?dc18 ?dk18; (case da18 => k_is); (case dl18 => k_is); (case dc18 => k_is); (case dk18 => k_is))
    have d19 := by (refine' VI.L.locd19 KX G ?da19 ?dl19 ?dc19 ?dk19; (case da19 => k_is); (case dl19 => k_is); (case dc19 => k_is); (case dk19 => k_is))
    have d20 := by (refine' VI.L.locd20 KX G ?da20 ?dl20 ?dc20 ?dk20; (case da20 => k_is); (case dl20 => k_is); (case dc20 => k_is); (case dk20 => k_is))
    have d21 := by (refine' VI.L.locd21 KX G ?da21 ?dl21 ?dc21 ?dk21; (case da21 => k_is); (case dl21 => k_is); (case dc21 => k_is); (case dk21 => k_is))
    have d22 := by (refine' VI.L.locd22 KX G ?da22 ?dl22 ?dc22 ?dk22; (case da22 => k_is); (case dl22 => k_is); (case dc22 => k_is); (case dk22 => k_is))
    have d23 := by (refine' VI.L.locd23 KX G ?da23 ?dl23 ?dc23 ?dk23; (case da23 => k_is); (case dl23 => k_is); (case dc23 => k_is); (case dk23 => k_is))
    have d24 := by (refine' VI.L.locd24 KX G ?da24 ?dl24 ?dc24 ?dk24; (case da24 => k_is); (case dl24 => k_is); (case dc24 => k_is); (case dk24 => k_is))
    have d25 := by (refine' VI.L.locd25 KX G ?da25 ?dl25 ?dc25 ?dk25; (case da25 => k_is); (case dl25 => k_is); (case dc25 => k_is); (case dk25 => k_is))
    have d26 := by (refine' VI.L.locd26 KX G ?da26 ?dl26 ?dc26 ?dk26; (case da26 => k_is); (case dl26 => k_is); (case dc26 => k_is); (case dk26 => k_is))
    have d27 := by (refine' VI.L.locd27 KX G ?da27 ?dl27 ?dc27 ?dk27; (case da27 => k_is); (case dl27 => k_is); (case dc27 => k_is); (case dk27 => k_is))
    have d28 := by (refine' VI.L.locd28 KX G ?da28 ?dl28 ?dc28 ?dk28; (case da28 => k_is); (case dl28 => k_is); (case dc28 => k_is); (case dk28 => k_is))
    have d29 := by (refine' VI.L.locd29 KX G ?da29 ?dl29 ?dc29 ?dk29; (case da29 => k_is); (case dl29 => k_is); (case dc29 => k_is); (case dk29 => k_is))
    have d30 := by (refine' VI.L.locd30 KX G ?da30 ?dl30 ?dc30 ?dk30; (case da30 => k_is); (case dl30 => k_is); (case dc30 => k_is); (case dk30 => k_is))
    have d31 := by (refine' VI.L.locd31 KX G ?da31 ?dl31 ?dc31 ?dk31; (case da31 => k_is); (case dl31 => k_is); (case dc31 => k_is); (case dk31 => k_is))
    have d32 := by (refine' VI.L.locd32 KX G ?da32 ?dl32 ?dc32 ?dk32; (case da32 => k_is); (case dl32 => k_is); (case dc32 => k_is); (case dk32 => k_is))
    have d33 := by (refine' VI.L.locd33 KX G ?da33 ?dl33 ?dc33 ?dk33; (case da33 => k_is); (case dl33 => k_is); (case dc33 => k_is); (case dk33 => k_is))
    have d34 := by (refine' VI.L.locd34 KX G ?da34 ?dl34 ?dc34 ?dk34; (case da34 => k_is); (case dl34 => k_is); (case dc34 => k_is); (case dk34 => k_is))
    have d35 := by (refine' VI.L.locd35 KX G ?da35 ?dl35 ?dc35 ?dk35; (case da35 => k_is); (case dl35 => k_is); (case dc35 => k_is); (case dk35 => k_is))
    have d36 := by (refine' VI.L.locd36 KX G ?da36 ?dl36 ?dc36 ?dk36; (case da36 => k_is); (case dl36 => k_is); (case dc36 => k_is); (case dk36 => k_is))
    have d37 := by (refine' VI.L.locd37 KX G ?da37 ?dl37 ?dc37 ?dk37; (case da37 => k_is); (case dl37 => k_is); (case dc37 => k_is); (case dk37 => k_is))
    have d38 := by (refine' VI.L.locd38 KX G ?da38 ?dl38 ?dc38 ?dk38; (case da38 => k_is); (case dl38 => k_is); (case dc38 => k_is); (case dk38 => k_is))
    have d39 := by (refine' VI.L.locd39 KX G ?da39 ?dl39 ?dc39 ?dk39; (case da39 => k_is); (case dl39 => k_is); (case dc39 => k_is); (case dk39 => k_is))
    have d40 := by (refine' VI.L.locd40 KX G ?da40 ?dl40 ?dc40 ?dk40; (case da40 => k_is); (case dl40 => k_is); (case dc40 => k_is); (case dk40 => k_is))
    have d41 := by (refine' VI.L.locd41 KX G ?da41 ?dl41 ?dc41 ?dk41; (case da41 => k_is); (case dl41 => k_is); (case dc41 => k_is); (case dk41 => k_is))
    have d42 := by (refine' VI.L.locd42 KX G ?da42 ?dl42 ?dc42 ?dk42; (case da42 => k_is); (case dl42 => k_is); (case dc42 => k_is); (case dk42 => k_is))
    have d43 := by (refine' VI.L.locd43 KX G ?da43 ?dl43 ?dc43 ?dk43; (case da43 => k_is); (case dl43 => k_is); (case dc43 => k_is); (case dk43 => k_is))
    have d44 := by (refine' VI.L.locd44 KX G ?da44 ?dl44 ?dc44 ?dk44; (case da44 => k_is); (case dl44 => k_is); (case dc44 => k_is); (case dk44 => k_is))
    have g0 := by (refine' VI.glb_int (id := "MOST_SIGNS") (j := 8) KX G ?ga0 ?ge0; (case ga0 => k_is); (case ge0 => kernel_rfl))
    have g1 := by (refine' VI.glb_str (id := "SMALL") (y := "abcdefghijklmnopqrstuvwxyz") KX G ?ga1 ?ge1; (case ga1 => k_is); (case ge1 => kernel_rfl))
    have g2 := by (refine' VI.glb_str (id := "FIGURES") (y := "0123456789") KX G ?ga2 ?ge2; (case ga2 => k_is); (case ge2 => kernel_rfl))
    have g3 := by (refine' VI.glb_tup (id := "RESERVED") (ds :=  [(.str "role"), (.str "begins"), (.str "may"), (.str "next"), (.str "over"), (.str "worth"), (.str "if"), (.str "now"), (.str "does"), (.str "not"), (.str "is")]) KX G ?ga3 ?gl3 ?gc3 ?ge3; (case ga3 => k_is); (case gl3 => k_is); (case gc3 => rfl); (case ge3 => kernel_rfl))
    have g4 := by (refine' VI.glb_str (id := "GREAT") (y := "ABCDEFGHIJKLMNOPQRSTUVWXYZ") KX G ?ga4 ?ge4; (case ga4 => k_is); (case ge4 => kernel_rfl))
    have g5 := by (refine' VI.glb_int (id := "MOST_TERMS") (j := 3) KX G ?ga5 ?ge5; (case ga5 => k_is); (case ge5 => kernel_rfl))
    have g6 := by (refine' VI.glb_int (id := "FOUR") (j := 4) KX G ?ga6 ?ge6; (case ga6 => k_is); (case ge6 => kernel_rfl))
    have g7 := by (refine' VI.glb_int (id := "THREE") (j := 3) KX G ?ga7 ?ge7; (case ga7 => k_is); (case ge7 => kernel_rfl))
    have g8 := by (refine' VI.glb_str (id := "ROLE") (y := "role") KX G ?ga8 ?ge8; (case ga8 => k_is); (case ge8 => kernel_rfl))
    have g9 := by (refine' VI.glb_str (id := "HOLDS") (y := "holds") KX G ?ga9 ?ge9; (case ga9 => k_is); (case ge9 => kernel_rfl))
    have g10 := by (refine' VI.glb_str (id := "NOW") (y := "now") KX G ?ga10 ?ge10; (case ga10 => k_is); (case ge10 => kernel_rfl))
    have g11 := by (refine' VI.glb_str (id := "DOES") (y := "does") KX G ?ga11 ?ge11; (case ga11 => k_is); (case ge11 => kernel_rfl))
    have g12 := by (refine' VI.glb_str (id := "SAME") (y := "same") KX G ?ga12 ?ge12; (case ga12 => k_is); (case ge12 => kernel_rfl))
    have g13 := by (refine' VI.glb_str (id := "OVER") (y := "over") KX G ?ga13 ?ge13; (case ga13 => k_is); (case ge13 => kernel_rfl))
    have g14 := by (refine' VI.glb_str (id := "NEXT") (y := "next") KX G ?ga14 ?ge14; (case ga14 => k_is); (case ge14 => kernel_rfl))
    have g15 := by (refine' VI.glb_str (id := "BEGINS") (y := "begins") KX G ?ga15 ?ge15; (case ga15 => k_is); (case ge15 => kernel_rfl))
    have g16 := by (refine' VI.glb_str (id := "MAY") (y := "may") KX G ?ga16 ?ge16; (case ga16 => k_is); (case ge16 => kernel_rfl))
    have g17 := by (refine' VI.glb_int (id := "MOST_WORTH") (j := 100) KX G ?ga17 ?ge17; (case ga17 => k_is); (case ge17 => kernel_rfl))
    have g18 := by (refine' VI.glb_str (id := "WORTH") (y := "worth") KX G ?ga18 ?ge18; (case ga18 => k_is); (case ge18 => kernel_rfl))
    have g19 := by (refine' VI.glb_int (id := "MOST_BODY") (j := 6) KX G ?ga19 ?ge19; (case ga19 => k_is); (case ge19 => kernel_rfl))
    have g20 := by (refine' VI.glb_int (id := "MOST_RULES") (j := 200) KX G ?ga20 ?ge20; (case ga20 => k_is); (case ge20 => kernel_rfl))
    have z0 := PySem.W.mg_none_of (n := "len") KX G (by k_is)
    have z1 := PySem.W.mg_none_of (n := "int") KX G (by k_is)
    have z2 := PySem.W.mg_none_of (n := "abs") KX G (by k_is)
    have z3 := PySem.W.mg_none_of (n := "max") KX G (by k_is)
    have z4 := PySem.W.mg_none_of (n := "min") KX G (by k_is)
    have z5 := PySem.W.mg_none_of (n := "sum") KX G (by k_is)
    have z6 := PySem.W.mg_none_of (n := "list") KX G (by k_is)
    have z7 := PySem.W.mg_none_of (n := "tuple") KX G (by k_is)
    have z8 := PySem.W.mg_none_of (n := "all") KX G (by k_is)
    have z9 := PySem.W.mg_none_of (n := "repr") KX G (by k_is)
    have z10 := PySem.W.mg_none_of (n := "str") KX G (by k_is)
    have z11 := PySem.W.mg_none_of (n := "isinstance") KX G (by k_is)
    have z12 := PySem.W.mg_none_of (n := "bool") KX G (by k_is)
    have z13 := PySem.W.mg_none_of (n := "range") KX G (by k_is)
    have z14 := PySem.W.mg_none_of (n := "zip") KX G (by k_is)
    have z15 := PySem.W.mg_none_of (n := "enumerate") KX G (by k_is)
    have z16 := PySem.W.mg_none_of (n := "sorted") KX G (by k_is)
    have z17 := PySem.W.mg_none_of (n := "set") KX G (by k_is)
    have z18 := PySem.W.mg_none_of (n := "dict") KX G (by k_is)
    have sCa := by (refine' VI.L.specCa KX G ?daCa ?dlCa ?dcCa ?dkCa; (case daCa => k_is); (case dlCa => k_is); (case dcCa => k_is); (case dkCa => k_is))
    have sIr := by (refine' VI.L.specIr KX G ?daIr ?dlIr ?dcIr ?dkIr; (case daIr => k_is); (case dlIr => k_is); (case dcIr => k_is); (case dkIr => k_is))
    have sRi := by (refine' VI.L.specRi KX G ?daRi ?dlRi ?dcRi ?dkRi; (case daRi => k_is); (case dlRi => k_is); (case dcRi => k_is); (case dkRi => k_is))
    have sLw := by (refine' VI.L.specLw KX G ?daLw ?dlLw ?dcLw ?dkLw; (case daLw => k_is); (case dlLw => k_is); (case dcLw => k_is); (case dkLw => k_is))
    have e0 := by (refine' VI.L.err_mk (P := PySem.Challenge.rw_astherulessay_k04_what_trees_refuse.prog) (nm := "BadGame") KX G ?e0a ?e0l ?e0r ?e0sa ?e0ga ?e0gg ?e0noN ?e0iC ?e0tC ?e0kC ?e0exC ?e0veC ?e0tyC ?e0hdC ?e0d ?e0sup ?e0cdD ?e0subD ?e0opq ?e0exi ?e0nsup ?e0top ?e0fl ?e0fc ?e0cl ?e0v2 ?e0fe ?e0ce; (case e0a => k_is); (case e0l => k_is); (case e0r => kernel_rfl); (case e0sa => k_is); (case e0ga => k_is); (case e0gg => k_is); (case e0noN => k_is); (case e0iC => k_is); (case e0tC => k_is); (case e0kC => k_is); (case e0exC => k_is); (case e0veC => k_is); (case e0tyC => k_is); (case e0hdC => k_is); (case e0d => k_is); (case e0sup => ks_is); (case e0cdD => k_is); (case e0subD => k_is); (case e0opq => k_is); (case e0exi => kx_is); (case e0nsup => exact PySem.W.mg_none_of (n := "super") KX G (by k_is)); (case e0top => kernel_rfl); (case e0fl => k_is); (case e0fc => k_is); (case e0cl => k_is); (case e0v2 => exact rfl); (case e0fe => kernel_rfl); (case e0ce => k_is))
    have e1 := by (refine' VI.L.err_mk (P := PySem.Challenge.rw_astherulessay_k04_what_trees_refuse.prog) (nm := "BadRule") KX G ?e1a ?e1l ?e1r ?e1sa ?e1ga ?e1gg ?e1noN ?e1iC ?e1tC ?e1kC ?e1exC ?e1veC ?e1tyC ?e1hdC ?e1d ?e1sup ?e1cdD ?e1subD ?e1opq ?e1exi ?e1nsup ?e1top ?e1fl ?e1fc ?e1cl ?e1v2 ?e1fe ?e1ce; (case e1a => k_is); (case e1l => k_is); (case e1r => kernel_rfl); (case e1sa => k_is); (case e1ga => k_is); (case e1gg => k_is); (case e1noN => k_is); (case e1iC => k_is); (case e1tC => k_is); (case e1kC => k_is); (case e1exC => k_is); (case e1veC => k_is); (case e1tyC => k_is); (case e1hdC => k_is); (case e1d => k_is); (case e1sup => ks_is); (case e1cdD => k_is); (case e1subD => k_is); (case e1opq => k_is); (case e1exi => kx_is); (case e1nsup => exact PySem.W.mg_none_of (n := "super") KX G (by k_is)); (case e1top => kernel_rfl); (case e1fl => k_is); (case e1fc => k_is); (case e1cl => k_is); (case e1v2 => exact rfl); (case e1fe => kernel_rfl); (case e1ce => k_is))
    have e2 := by (refine' VI.L.err_mk (P := PySem.Challenge.rw_astherulessay_k04_what_trees_refuse.prog) (nm := "BadBinding") KX G ?e2a ?e2l ?e2r ?e2sa ?e2ga ?e2gg ?e2noN ?e2iC ?e2tC ?e2kC ?e2exC ?e2veC ?e2tyC ?e2hdC ?e2d ?e2sup ?e2cdD ?e2subD ?e2opq ?e2exi ?e2nsup ?e2top ?e2fl ?e2fc ?e2cl ?e2v2 ?e2fe ?e2ce; (case e2a => k_is); (case e2l => k_is); (case e2r => kernel_rfl); (case e2sa => k_is); (case e2ga => k_is); (case e2gg => k_is); (case e2noN => k_is); (case e2iC => k_is); (case e2tC => k_is); (case e2kC => k_is); (case e2exC => k_is); (case e2veC => k_is); (case e2tyC => k_is); (case e2hdC => k_is); (case e2d => k_is); (case e2sup => ks_is); (case e2cdD => k_is); (case e2subD => k_is); (case e2opq => k_is); (case e2exi => kx_is); (case e2nsup => exact PySem.W.mg_none_of (n := "super") KX G (by k_is)); (case e2top => kernel_rfl); (case e2fl => k_is); (case e2fc => k_is); (case e2cl => k_is); (case e2v2 => exact rfl); (case e2fe => kernel_rfl); (case e2ce => k_is))
    have e3 := by (refine' VI.L.err_mk (P := PySem.Challenge.rw_astherulessay_k04_what_trees_refuse.prog) (nm := "BadNaming") KX G ?e3a ?e3l ?e3r ?e3sa ?e3ga ?e3gg ?e3noN ?e3iC ?e3tC ?e3kC ?e3exC ?e3veC ?e3tyC ?e3hdC ?e3d ?e3sup ?e3cdD ?e3subD ?e3opq ?e3exi ?e3nsup ?e3top ?e3fl ?e3fc ?e3cl ?e3v2 ?e3fe ?e3ce; (case e3a => k_is); (case e3l => k_is); (case e3r => kernel_rfl); (case e3sa => k_is); (case e3ga => k_is); (case e3gg => k_is); (case e3noN => k_is); (case e3iC => k_is); (case e3tC => k_is); (case e3kC => k_is); (case e3exC => k_is); (case e3veC => k_is); (case e3tyC => k_is); (case e3hdC => k_is); (case e3d => k_is); (case e3sup => ks_is); (case e3cdD => k_is); (case e3subD => k_is); (case e3opq => k_is); (case e3exi => kx_is); (case e3nsup => exact PySem.W.mg_none_of (n := "super") KX G (by k_is)); (case e3top => kernel_rfl); (case e3fl => k_is); (case e3fc => k_is); (case e3cl => k_is); (case e3v2 => exact rfl); (case e3fe => kernel_rfl); (case e3ce => k_is))
    have v0 := by (refine' VI.L.seen_mk e0 ?v0cl ?v0ga ?v0gg ?v0sb ?v0ha ?v0hn ?v0ht ?v0hm ?v0hd ?v0no; (case v0cl => kernel_rfl); (case v0ga => k_is); (case v0gg => k_is); (case v0sb => k_is); (case v0ha => k_is); (case v0hn => k_is); (case v0ht => k_is); (case v0hm => k_is); (case v0hd => k_is); (case v0no => k_is))
    have v1 := by (refine' VI.L.seen_mk e1 ?v1cl ?v1ga ?v1gg ?v1sb ?v1ha ?v1hn ?v1ht ?v1hm ?v1hd ?v1no; (case v1cl => kernel_rfl); (case v1ga => k_is); (case v1gg => k_is); (case v1sb => k_is); (case v1ha => k_is); (case v1hn => k_is); (case v1ht => k_is); (case v1hm => k_is); (case v1hd => k_is); (case v1no => k_is))
    have v2 := by (refine' VI.L.seen_mk e2 ?v2cl ?v2ga ?v2gg ?v2sb ?v2ha ?v2hn ?v2ht ?v2hm ?v2hd ?v2no; (case v2cl => kernel_rfl); (case v2ga => k_is); (case v2gg => k_is); (case v2sb => k_is); (case v2ha => k_is); (case v2hn => k_is); (case v2ht => k_is); (case v2hm => k_is); (case v2hd => k_is); (case v2no => k_is))
    have v3 := by (refine' VI.L.seen_mk e3 ?v3cl ?v3ga ?v3gg ?v3sb ?v3ha ?v3hn ?v3ht ?v3hm ?v3hd ?v3no; (case v3cl => kernel_rfl); (case v3ga => k_is); (case v3gg => k_is); (case v3sb => k_is); (case v3ha => k_is); (case v3hn => k_is); (case v3ht => k_is); (case v3hm => k_is); (case v3hd => k_is); (case v3no => k_is))
    have tb := by (refine' VI.L.tab_mk sRi ?ta ?tb ?tc ?td; (case ta => k_is); (case tb => exact rfl); (case tc => kernel_rfl); (case td => kernel_rfl))
    have E := VI.L.env_mk e0 e1 e2 e3 v0 v1 v2 v3 (by kernel_rfl) (by kernel_rfl) (PySem.W.mg_of KX G (by k_is)) (PySem.W.mg_none_of (n := "isinstance") KX G (by k_is)) (PySem.W.mg_none_of (n := "repr") KX G (by k_is))
    exact VI.L.last4 VI.L.law KX hmg (VI.L.mwk d0 d1 d2 d3 d4 d5 d6 d7 d8 d9 d10 d11 d12 d13 d14 d15 d16 d17 d18 d19 d20 d21 d22 d23 d24 d25 d26 d27 d28 d29 d30 d31 d32 d33 d34 d35 d36 d37 d38 d39 d40 d41 d42 d43 d44 g0 g1 g2 g3 g4 g5 g6 g7 g8 g9 g10 g11 g12 g13 g14 g15 g16 g17 g18 g19 g20 z0 z1 z2 z3 z4 z5 z6 z7 z8 z9 z10 z11 z12 z13 z14 z15 z16 z17 z18) E sCa sIr sRi sLw (hT8 _ (by decide)) tb
