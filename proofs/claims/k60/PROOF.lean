import PyProof.Rows.All
import Wide.All
import OpenK.AllK
import Wide.FinOn
import HandS.ForMost
import HandS.ForExc
import HandS.Deep
import HandS.TupAny
import HandS.Wide
import HandS.TryMany
import HandS.Zip
import HandS.Walk
import HandS.FStr
import HandS.IsInst
import HandS.SortInts
import HandS.ExcIs
import HandS.More
import HandS.HeadHook3
import PySem.Challenge.RW_kerbwise_k60_entries_checked

set_option Elab.async false
set_option linter.all false
set_option autoImplicit false
set_option maxRecDepth 100000
set_option maxHeartbeats 4000000
/-! Lt: plain data over the hand layer: what a def's body does is told by a plain function of its slots. -/
namespace Lt
open PySem PySem.Spec PyProof.Rows L2

inductive D where
  | non | bl (b : Bool) | int (i : Int) | str (x : Str)
  | tup (xs : List D) | lst (xs : List D) | rol (xs : List D)

/-- what comes of an evaluation -/
inductive R (α : Type) where
  | ok (a : α) | exc (c : Str) | stuck
def R.bind {α β : Type} (x : R α) (f : α → R β) : R β := match x with
  | .ok a => f a
  | .exc c => .exc c
  | .stuck => .stuck
instance : Monad R where
  pure := R.ok
  bind := R.bind
inductive Val where
  | fr (d : D) | nw (xs : List D)
inductive Slot where
  | un | fr (d : D) | ow (xs : List D)
abbrev En := List Slot
def Val.d : Val → D
  | .fr d => d
  | .nw xs => .lst xs
def Val.slot : Val → Slot
  | .fr d => .fr d
  | .nw xs => .ow xs

abbrev lB : Nat := 1000000
/-- a text of the size that is carried -/
def strG (x : Str) : Bool := decide (x.length ≤ lB) && x.cps.all (· < 0x110000)

/-! ### what represents a datum -/
/-- within an except suite: where the exception's name is, the exception -/
abbrev XV := Option (Nat × Addr)
def xvOk (xv : XV) (σ : L2.St) : Prop := match xv with
  | none => True
  | some (i, a) => σ[i]? = some (some (.ref a))
def xvFree (xv : XV) (j : Nat) : Bool := match xv with
  | none => true
  | some (i, _) => i != j
theorem xvOk.set {xv : XV} {σ : L2.St} (h : xvOk xv σ) {j : Nat} (f : xvFree xv j = true) (x : Option V) : xvOk xv (σ.set j x) := by
  cases xv with
  | none => trivial
  | some p =>
    obtain ⟨i, a⟩ := p
    have n : i ≠ j := by simpa [xvFree] using f
    show (σ.set j x)[i]? = _
    rw [List.getElem?_set_ne (Ne.symm n)]; exact h
/-- a list that is read, never changed -/
def RoL (K : PySem.W.Frag) (H : Hp) (a : Addr) (vs : List V) : Prop := (∃ o, H a = some (.frz o (.lst vs))) ∨
  ∃ (o : Obj) (its : Array Value) (n : Nat), K.lookup a = some o ∧ o.cls = .type "list" ∧ o.dict = none ∧ o.data = .seq its n ∧ its.size ≤ sizeLine ∧ Vals vs its.toList
theorem RoL.sq {K : PySem.W.Frag} {H : Hp} {a : Addr} {vs : List V} (h : RoL K H a vs) : SqL K H a vs := h.elim (fun h => .inl (.inr h)) .inr
mutual
inductive Rp (K : PySem.W.Frag) (H : Hp) (O : List Addr) : D → V → Prop
  | non : Rp K H O .non .non
  | bl (b : Bool) : Rp K H O (.bl b) (.bl b)
  | int (i : Int) : Rp K H O (.int i) (.int i)
  | str (x : Str) : strG x = true → Rp K H O (.str x) (.str x)
  | tup {a : Addr} {vs : List V} {ds : List D} : SqT K H a vs → vs.length ≤ lB → RpL K H O ds vs → Rp K H O (.tup ds) (.ref a)
  | lst {a : Addr} {vs : List V} {ds : List D} : H a = some (.lst vs) → a ∉ O → vs.length ≤ lB → RpL K H O ds vs → Rp K H O (.lst ds) (.ref a)
  | rol {a : Addr} {vs : List V} {ds : List D} : RoL K H a vs → vs.length ≤ lB → RpL K H O ds vs → Rp K H O (.rol ds) (.ref a)
inductive RpL (K : PySem.W.Frag) (H : Hp) (O : List Addr) : List D → List V → Prop
  | nil : RpL K H O [] []
  | cons {d : D} {v : V} {ds : List D} {vs : List V} : Rp K H O d v → RpL K H O ds vs → RpL K H O (d :: ds) (v :: vs)
end

def isL : HO → Bool
  | .lst _ => true
  | _ => false
/-- all but the lists at O is kept -/
def Kp (O : List Addr) (H H' : Hp) : Prop := ∀ b o, H b = some o → (b ∉ O ∨ isL o = false) → H' b = some o
theorem Kp.of {O : List Addr} {H H' : Hp} (e : Same H H') : Kp O H H' := fun b o h _ => e b o h
theorem Kp.roL {K : PySem.W.Frag} {O : List Addr} {H H' : Hp} {a : Addr} {xs : List V} (e : Kp O H H') (h : RoL K H a xs) : RoL K H' a xs := h.elim (fun ⟨o, h⟩ => .inl ⟨o, e _ _ h (.inr rfl)⟩) .inr
theorem Kp.sqT {K : PySem.W.Frag} {O : List Addr} {H H' : Hp} {a : Addr} {xs : List V} (e : Kp O H H') (h : SqT K H a xs) : SqT K H' a xs := by
  rcases h with (h | ⟨o, h⟩) | h
  · exact .inl (.inl (e _ _ h (.inr rfl)))
  · exact .inl (.inr ⟨o, e _ _ h (.inr rfl)⟩)
  · exact .inr h
section
variable {K : PySem.W.Frag} {xv : XV} {H H' : Hp} {O O' : List Addr}
mutual
theorem Rp.mono (e : Kp O H H') (s : ∀ a, a ∈ O' → a ∈ O) : ∀ {d : D} {v : V}, Rp K H O d v → Rp K H' O' d v
  | _, _, .non => .non
  | _, _, .bl b => .bl b
  | _, _, .int i => .int i
  | _, _, .str x h => .str x h
  | _, _, .tup h z r => .tup (e.sqT h) z (RpL.mono e s r)
  | _, _, .lst h n z r => .lst (e _ _ h (.inl n)) (fun q => n (s _ q)) z (RpL.mono e s r)
  | _, _, .rol h z r => .rol (e.roL h) z (RpL.mono e s r)
theorem RpL.mono (e : Kp O H H') (s : ∀ a, a ∈ O' → a ∈ O) : ∀ {ds : List D} {vs : List V}, RpL K H O ds vs → RpL K H' O' ds vs
  | _, _, .nil => .nil
  | _, _, .cons h r => .cons (Rp.mono e s h) (RpL.mono e s r)
end
mutual
/-- a new address is met nowhere -/
theorem Rp.add {b : Addr} (n : H b = none) : ∀ {d : D} {v : V}, Rp K H O d v → Rp K H (b :: O) d v
  | _, _, .non => .non
  | _, _, .bl b => .bl b
  | _, _, .int i => .int i
  | _, _, .str x h => .str x h
  | _, _, .tup h z r => .tup h z (RpL.add n r)
  | _, _, .lst h m z r => .lst h (fun q => (List.mem_cons.mp q).elim (fun q => by subst q; rw [n] at h; cases h) m) z (RpL.add n r)
  | _, _, .rol h z r => .rol h z (RpL.add n r)
theorem RpL.add {b : Addr} (n : H b = none) : ∀ {ds : List D} {vs : List V}, RpL K H O ds vs → RpL K H (b :: O) ds vs
  | _, _, .nil => .nil
  | _, _, .cons h r => .cons (Rp.add n h) (RpL.add n r)
end
theorem Rp.same {d : D} {v : V} (h : Rp K H O d v) (e : Same H H') : Rp K H' O d v := h.mono (Kp.of e) fun _ q => q
theorem RpL.same {ds : List D} {vs : List V} (h : RpL K H O ds vs) (e : Same H H') : RpL K H' O ds vs := h.mono (Kp.of e) fun _ q => q
theorem RpL.len : ∀ {ds : List D} {vs : List V}, RpL K H O ds vs → ds.length = vs.length
  | _, _, .nil => rfl
  | _, _, .cons _ r => by rw [List.length_cons, List.length_cons, RpL.len r]
theorem RpL.get : ∀ {ds : List D} {vs : List V} {i : Nat} {d : D}, RpL K H O ds vs → ds[i]? = some d → ∃ v, vs[i]? = some v ∧ Rp K H O d v
  | _, _, _, _, .nil, e => by simp at e
  | _, _, 0, _, .cons h _, e => by simp at e; subst e; exact ⟨_, rfl, h⟩
  | _, _, i + 1, _, .cons _ r, e => by
    obtain ⟨v, h1, h2⟩ := RpL.get (i := i) r (by simpa using e)
    exact ⟨v, by simpa using h1, h2⟩
theorem RpL.get' : ∀ {ds : List D} {vs : List V} {i : Nat} {v : V}, RpL K H O ds vs → vs[i]? = some v → ∃ d, ds[i]? = some d ∧ Rp K H O d v
  | _, _, _, _, .nil, e => by simp at e
  | _, _, 0, _, .cons h _, e => by simp at e; subst e; exact ⟨_, rfl, h⟩
  | _, _, i + 1, _, .cons _ r, e => by
    obtain ⟨v, h1, h2⟩ := RpL.get' (i := i) r (by simpa using e)
    exact ⟨v, by simpa using h1, h2⟩
theorem RpL.append : ∀ {ds es : List D} {vs ws : List V}, RpL K H O ds vs → RpL K H O es ws → RpL K H O (ds ++ es) (vs ++ ws)
  | _, _, _, _, .nil, s => s
  | _, _, _, _, .cons h r, s => .cons h (RpL.append r s)
theorem RpL.take : ∀ {ds : List D} {vs : List V} (n : Nat), RpL K H O ds vs → RpL K H O (ds.take n) (vs.take n)
  | _, _, 0, _ => .nil
  | _, _, _ + 1, .nil => .nil
  | _, _, n + 1, .cons h r => .cons h (RpL.take n r)
theorem RpL.drop : ∀ {ds : List D} {vs : List V} (n : Nat), RpL K H O ds vs → RpL K H O (ds.drop n) (vs.drop n)
  | _, _, 0, r => r
  | _, _, _ + 1, .nil => .nil
  | _, _, n + 1, .cons _ r => RpL.drop n r
theorem RpL.set {d : D} {v : V} (h : Rp K H O d v) : ∀ {ds : List D} {vs : List V} (i : Nat), RpL K H O ds vs → RpL K H O (ds.set i d) (vs.set i v)
  | _, _, _, .nil => .nil
  | _, _, 0, .cons _ r => .cons h r
  | _, _, i + 1, .cons q r => .cons q (RpL.set h i r)
end
end Lt

set_option Elab.async false
set_option linter.all false
set_option autoImplicit false
set_option maxRecDepth 100000
set_option maxHeartbeats 4000000
namespace Lt
open PySem PySem.Spec PyProof.Rows L2

/-! ### states -/
def SlotR (K : PySem.W.Frag) (H : Hp) (O : List Addr) : Slot → Option V → Prop
  | .un, _ => True
  | .fr d, o => ∃ v, o = some v ∧ Rp K H O d v
  | .ow xs, o => ∃ a vs, o = some (.ref a) ∧ a ∈ O ∧ H a = some (.lst vs) ∧ vs.length ≤ lB ∧ RpL K H O xs vs
/-- an environment as it stands -/
structure ER (K : PySem.W.Frag) (xv : XV) (O : List Addr) (ρ : En) (σ : L2.St) (H : Hp) : Prop where
  len : ρ.length = σ.length
  tr : ∀ a ∈ O, ∃ o, H a = some o
  ex : xvOk xv σ
  sl : ∀ (i : Nat) (s : Slot) (o : Option V), ρ[i]? = some s → σ[i]? = some o → SlotR K H O s o
/-- a result as it stands; H0: ahead of it -/
def RV (K : PySem.W.Frag) (H0 H : Hp) (O : List Addr) : Val → V → Prop
  | .fr d, v => Rp K H O d v
  | .nw xs, v => ∃ a vs, v = .ref a ∧ H0 a = none ∧ H a = some (.lst vs) ∧ vs.length ≤ lB ∧ RpL K H (a :: O) xs vs
section
variable {K : PySem.W.Frag} {xv : XV} {H0 H H' : Hp} {O O' : List Addr} {ρ : En} {σ : L2.St}
theorem Rp.zero {d : D} {v : V} (h : Rp K H O d v) : Rp K H [] d v := h.mono (Kp.of (Same.refl _)) fun _ z => absurd z List.not_mem_nil
theorem RpL.zero {d : List D} {v : List V} (h : RpL K H O d v) : RpL K H [] d v := h.mono (Kp.of (Same.refl _)) fun _ z => absurd z List.not_mem_nil
theorem SlotR.same {s : Slot} {o : Option V} (h : SlotR K H O s o) (e : Same H H') : SlotR K H' O s o := by
  cases s with
  | un => trivial
  | fr d => obtain ⟨v, h1, h2⟩ := h; exact ⟨v, h1, h2.same e⟩
  | ow xs => obtain ⟨a, vs, h1, h2, h3, z, h4⟩ := h; exact ⟨a, vs, h1, h2, e _ _ h3, z, h4.same e⟩
theorem ER.same (h : ER K xv O ρ σ H) (e : Same H H') : ER K xv O ρ σ H' :=
  ⟨h.len, fun a q => let ⟨o, z⟩ := h.tr a q; ⟨o, e _ _ z⟩, h.ex, fun i s o h1 h2 => (h.sl i s o h1 h2).same e⟩
theorem ER.get (h : ER K xv O ρ σ H) {i : Nat} {d : D} (e : ρ[i]? = some (.fr d)) : ∃ v, σ[i]? = some (some v) ∧ Rp K H O d v := by
  have hl := h.len
  obtain ⟨hi, _⟩ := List.getElem?_eq_some_iff.mp e
  have hj : i < σ.length := by omega
  obtain ⟨v, q, r⟩ := h.sl i _ _ e (List.getElem?_eq_getElem hj)
  exact ⟨v, by rw [List.getElem?_eq_getElem hj, q], r⟩
theorem ER.getO (h : ER K xv O ρ σ H) {i : Nat} {xs : List D} (e : ρ[i]? = some (.ow xs)) : ∃ a vs, σ[i]? = some (some (.ref a)) ∧ a ∈ O ∧ H a = some (.lst vs) ∧ vs.length ≤ lB ∧ RpL K H O xs vs := by
  have hl := h.len
  obtain ⟨hi, _⟩ := List.getElem?_eq_some_iff.mp e
  have hj : i < σ.length := by omega
  obtain ⟨a, vs, q, r⟩ := h.sl i _ _ e (List.getElem?_eq_getElem hj)
  exact ⟨a, vs, by rw [List.getElem?_eq_getElem hj, q], r⟩
theorem RV.same {r : Val} {v : V} (h : RV K H0 H O r v) (e : Same H H') : RV K H0 H' O r v := by
  cases r with
  | fr d => exact Rp.same h e
  | nw xs => obtain ⟨a, vs, h1, h2, h3, z, h4⟩ := h; exact ⟨a, vs, h1, h2, e _ _ h3, z, h4.same e⟩
theorem RV.rp {r : Val} {v : V} (h : RV K H0 H O r v) (tr : ∀ a ∈ O, ∃ o, H0 a = some o) : Rp K H O r.d v := by
  cases r with
  | fr d => exact h
  | nw xs =>
    obtain ⟨a, vs, rfl, h2, h3, z, h4⟩ := h
    refine .lst h3 (fun q => ?_) z (h4.mono (Kp.of (Same.refl _)) fun _ q => List.mem_cons_of_mem _ q)
    obtain ⟨o, q⟩ := tr a q
    rw [h2] at q; cases q
theorem RV.back {r : Val} {v : V} {H1 : Hp} (h : RV K H1 H O r v) (e : Same H0 H1) : RV K H0 H O r v := by
  cases r with
  | fr d => exact h
  | nw xs => obtain ⟨a, vs, h1, h2, h3⟩ := h; exact ⟨a, vs, h1, e.free h2, h3⟩
end

/-! ### expressions -/
section
variable (X : Cx) (xv : XV) (W : WX)
/-- what an evaluation hands on, by kinds of results -/
def Gk {α β : Type} (rel : Hp → Hp → α → β → Prop) (σ : L2.St) (H : Hp) (r : R α) (Q : β → Hp → Prop) : Prop := match r with
  | .ok x => ∀ v H', Same H H' → rel H H' x v → Q v H'
  | .exc c => ∀ H' C, Same H H' → X.mg c = some C → W C none σ H'
  | .stuck => False
/-- a result that may escape -/
def SE (py : Expr) (t : TE) (f : En → R Val) : Prop := PE X py t ∧ ∀ σ H ρ O Q, ER X.K xv O ρ σ H → Gk X W (fun H H' => RV X.K H H' O) σ H (f ρ) Q → t σ H Q
/-- a result that is looked at only -/
def SB (py : Expr) (t : TE) (f : En → R D) : Prop := PE X py t ∧ ∀ σ H ρ O Q, ER X.K xv O ρ σ H → Gk X W (fun _ H' => Rp X.K H' []) σ H (f ρ) Q → t σ H Q
/-- a thing whose items may escape -/
def RQ (K : PySem.W.Frag) (H : Hp) (O : List Addr) : D → V → Prop
  | .lst xs, v => ∃ a vs, v = .ref a ∧ H a = some (.lst vs) ∧ vs.length ≤ lB ∧ RpL K H O xs vs
  | d, v => Rp K H O d v
def SQ (py : Expr) (t : TE) (f : En → R D) : Prop := PE X py t ∧ ∀ σ H ρ O Q, ER X.K xv O ρ σ H → Gk X W (fun _ H' => RQ X.K H' O) σ H (f ρ) Q → t σ H Q
def ST (py : Expr) (t : TT) (f : En → R Bool) : Prop := PT X py t ∧ ∀ σ H ρ O Q, ER X.K xv O ρ σ H → Gk X W (fun _ _ (b c : Bool) => c = b) σ H (f ρ) Q → t σ H Q
def SA (py : List Expr) (n : Nat) (t : TA) (f : En → R (List D)) : Prop := (∀ ρ ds, f ρ = .ok ds → ds.length = n) ∧ PA X py t ∧ ∀ σ H ρ O Q, ER X.K xv O ρ σ H → Gk X W (fun _ H' => RpL X.K H' O) σ H (f ρ) Q → t σ H Q
def SAB (py : List Expr) (n : Nat) (t : TA) (f : En → R (List D)) : Prop := (∀ ρ ds, f ρ = .ok ds → ds.length = n) ∧ PA X py t ∧ ∀ σ H ρ O Q, ER X.K xv O ρ σ H → Gk X W (fun _ H' => RpL X.K H' []) σ H (f ρ) Q → t σ H Q
end
section
variable {X : Cx} {xv : XV} {W : WX}
/-- one after the other -/
theorem Gk.bind {α β α' β' : Type} {rel : Hp → Hp → α → β → Prop} {rel' : Hp → Hp → α' → β' → Prop} {σ : L2.St} {H : Hp} {r : R α} {g : α → R α'} {Q : β' → Hp → Prop} {P : β → Hp → Prop}
    (h : Gk X W rel' σ H (r.bind g) Q)
    (k : ∀ x v H1, r = .ok x → Same H H1 → rel H H1 x v → Gk X W (fun _ H2 => rel' H H2) σ H1 (g x) Q → P v H1) : Gk X W rel σ H r P := by
  cases r with
  | ok x =>
    intro v H1 e q
    refine k x v H1 rfl e q ?_
    have h : Gk X W rel' σ H (g x) Q := h
    cases hg : g x with
    | ok y => rw [hg] at h; exact fun w H2 e2 q2 => h w H2 (e.trans e2) q2
    | exc c => rw [hg] at h; exact fun H2 C e2 m => h H2 C (e.trans e2) m
    | stuck => rw [hg] at h; exact h
  | exc c => exact h
  | stuck => exact h
theorem Gk.imp {α β : Type} {rel rel' : Hp → Hp → α → β → Prop} {σ : L2.St} {H : Hp} {r : R α} {Q Q' : β → Hp → Prop} (h : Gk X W rel σ H r Q) (hr : ∀ x v H', Same H H' → rel' H H' x v → Q v H' → Q' v H')
    (hrel : ∀ x v H', Same H H' → rel' H H' x v → rel H H' x v) : Gk X W rel' σ H r Q' := by
  cases r with
  | ok x => exact fun v H' e q => hr x v H' e q (h v H' e (hrel x v H' e q))
  | exc c => exact h
  | stuck => exact h
theorem Gk.ok {α β : Type} {rel : Hp → Hp → α → β → Prop} {σ : L2.St} {H : Hp} {x : α} {Q : β → Hp → Prop} (h : Gk X W rel σ H (.ok x) Q) {v : β} {H' : Hp} (e : Same H H') (q : rel H H' x v) : Q v H' := h v H' e q

def mapR {α β : Type} (f : α → β) : R α → R β
  | .ok a => .ok (f a)
  | .exc c => .exc c
  | .stuck => .stuck
theorem Gk.mapped {α β α' β' : Type} {rel : Hp → Hp → α → β → Prop} {rel' : Hp → Hp → α' → β' → Prop} {σ : L2.St} {H : Hp} {r : R α} {g : α → α'} {Q : β' → Hp → Prop} {P : β → Hp → Prop}
    (h : Gk X W rel' σ H (mapR g r) Q) (k : ∀ x v H1, Same H H1 → rel H H1 x v → Gk X W (fun _ H2 => rel' H H2) σ H1 (.ok (g x)) Q → P v H1) : Gk X W rel σ H r P := by
  cases r with
  | ok x => exact fun v H1 e q => k x v H1 e q fun w H2 e2 q2 => h w H2 (e.trans e2) q2
  | exc c => exact h
  | stuck => exact h

/-! ### coercions -/
def sB (f : En → R Val) : En → R D := fun ρ => mapR Val.d (f ρ)
theorem SE.b {py : Expr} {t : TE} {f : En → R Val} (h : SE X xv W py t f) : SB X xv W py t (sB f) := by
  obtain ⟨p, q⟩ := h
  refine ⟨p, fun σ H ρ O Q e g => q σ H ρ O Q e (Gk.mapped g fun x v H1 e1 r k => k v H1 (Same.refl _) ?_)⟩
  exact (r.rp e.tr).zero
theorem Rp.q {K : PySem.W.Frag} {H : Hp} {O : List Addr} {d : D} {v : V} (h : Rp K H O d v) : RQ K H O d v := by
  cases h with
  | lst h n z r => exact ⟨_, _, rfl, h, z, r⟩
  | tup h z r => exact .tup h z r
  | rol h z r => exact .rol h z r
  | non => exact .non
  | bl b => exact .bl b
  | int b => exact .int b
  | str x h => exact .str x h
theorem RQ.same {K : PySem.W.Frag} {H H' : Hp} {O : List Addr} {d : D} {v : V} (h : RQ K H O d v) (e : Same H H') : RQ K H' O d v := by
  cases d with
  | lst xs => obtain ⟨a, vs, h1, h2, z, h3⟩ := h; exact ⟨a, vs, h1, e _ _ h2, z, h3.same e⟩
  | _ => exact Rp.same h e
theorem RQ.zero {K : PySem.W.Frag} {H : Hp} {O : List Addr} {d : D} {v : V} (h : RQ K H O d v) : Rp K H [] d v := by
  cases d with
  | lst xs => obtain ⟨a, vs, h1, h2, z, h3⟩ := h; subst h1; exact .lst h2 List.not_mem_nil z h3.zero
  | _ => exact Rp.zero h
theorem SE.q {py : Expr} {t : TE} {f : En → R Val} (h : SE X xv W py t f) : SQ X xv W py t (sB f) := by
  obtain ⟨p, q⟩ := h
  refine ⟨p, fun σ H ρ O Q e g => q σ H ρ O Q e (Gk.mapped g fun x v H1 e1 r k => k v H1 (Same.refl _) ?_)⟩
  exact (r.rp e.tr).q
theorem SQ.b {py : Expr} {t : TE} {f : En → R D} (h : SQ X xv W py t f) : SB X xv W py t f := by
  obtain ⟨p, q⟩ := h
  exact ⟨p, fun σ H ρ O Q e g => q σ H ρ O Q e (Gk.imp g (fun x v H' _ _ h => h) fun x v H' _ r => r.zero)⟩

/-! ### names and constants -/
def sVar (i : Nat) : En → R Val := fun ρ => match ρ[i]? with
  | some (.fr d) => .ok (.fr d)
  | _ => .stuck
theorem E_var {i : Nat} {x : Str} {pos : Pos} (p : PE X (.Name x pos) (tVar i)) : SE X xv W (.Name x pos) (tVar i) (sVar i) := by
  refine ⟨p, fun σ H ρ O Q e g => ?_⟩
  unfold sVar at g
  cases h : ρ[i]? with
  | none => rw [h] at g; exact g.elim
  | some s =>
    rw [h] at g
    cases s with
    | un => exact g.elim
    | ow xs => exact g.elim
    | fr d =>
      obtain ⟨v, hv, r⟩ := e.get h
      exact ⟨v, hv, g v H (Same.refl _) r⟩
/-- looked at only -/
def sVarB (i : Nat) : En → R D := fun ρ => match ρ[i]? with
  | some (.fr d) => .ok d
  | some (.ow xs) => .ok (.lst xs)
  | _ => .stuck
theorem B_var {i : Nat} {x : Str} {pos : Pos} (p : PE X (.Name x pos) (tVar i)) : SB X xv W (.Name x pos) (tVar i) (sVarB i) := by
  refine ⟨p, fun σ H ρ O Q e g => ?_⟩
  unfold sVarB at g
  cases h : ρ[i]? with
  | none => rw [h] at g; exact g.elim
  | some s =>
    rw [h] at g
    cases s with
    | un => exact g.elim
    | ow xs =>
      obtain ⟨a, vs, hv, ha, hl, z, r⟩ := e.getO h
      exact ⟨_, hv, g _ H (Same.refl _) (.lst hl List.not_mem_nil z r.zero)⟩
    | fr d =>
      obtain ⟨v, hv, r⟩ := e.get h
      exact ⟨v, hv, g v H (Same.refl _) r.zero⟩
theorem Q_var {i : Nat} {x : Str} {pos : Pos} (p : PE X (.Name x pos) (tVar i)) : SQ X xv W (.Name x pos) (tVar i) (sVarB i) := by
  refine ⟨p, fun σ H ρ O Q e g => ?_⟩
  unfold sVarB at g
  cases h : ρ[i]? with
  | none => rw [h] at g; exact g.elim
  | some s =>
    rw [h] at g
    cases s with
    | un => exact g.elim
    | ow xs =>
      obtain ⟨a, vs, hv, ha, hl, z, r⟩ := e.getO h
      exact ⟨_, hv, g _ H (Same.refl _) ⟨a, vs, rfl, hl, z, r⟩⟩
    | fr d =>
      obtain ⟨v, hv, r⟩ := e.get h
      exact ⟨v, hv, g v H (Same.refl _) r.q⟩
/-- a scalar -/
def sC (d : D) : En → R Val := fun _ => .ok (.fr d)
theorem E_k {py : Expr} {d : D} {v : V} (p : PE X py (tC v)) (r : ∀ K H O, Rp K H O d v) : SE X xv W py (tC v) (sC d) :=
  ⟨p, fun σ H ρ O Q e g => g v H (Same.refl _) (r _ _ _)⟩
theorem E_int {i : Int} {j pos} : SE X xv W (.Constant (.int i) j pos) (tC (.int i)) (sC (.int i)) := E_k pe_int fun _ _ _ => .int _
theorem E_bl {b : Bool} {j pos} : SE X xv W (.Constant (.bool b) j pos) (tC (.bl b)) (sC (.bl b)) := E_k pe_bl fun _ _ _ => .bl _
theorem E_non {j pos} : SE X xv W (.Constant .none j pos) (tC .non) (sC .non) := E_k pe_non fun _ _ _ => .non
theorem E_str {x : Str} {j pos} (h : strG x = true := by decide +kernel) : SE X xv W (.Constant (.str x) j pos) (tC (.str x)) (sC (.str x)) := E_k pe_str fun _ _ _ => .str _ h
/-- a constant of the module -/
theorem E_glob {x : Str} {d : D} {v : V} {u : Value} {pos : Pos} (hg : Gl X x) (hm : X.mg x = some u) (r : RelV v u) (q : ∀ H O, Rp X.K H O d v) (hd : (x == ("__debug__" : Str)) = false := by decide) : SE X xv W (.Name x pos) (tC v) (sC d) :=
  ⟨pe_glob hg hm r hd, fun σ H ρ O Q e g => g v H (Same.refl _) (q _ _)⟩

/-! ### lists of arguments, displays -/
def aNil : En → R (List D) := fun _ => .ok []
def aCons (f : En → R Val) (g : En → R (List D)) : En → R (List D) := fun ρ => (f ρ).bind fun x => (g ρ).bind fun xs => .ok (x.d :: xs)
def aConsB (f : En → R D) (g : En → R (List D)) : En → R (List D) := fun ρ => (f ρ).bind fun x => (g ρ).bind fun xs => .ok (x :: xs)
theorem A_nil : SA X xv W [] 0 tNil aNil := ⟨fun _ ds e => by cases e; rfl, pa_nil, fun σ H ρ O Q e g => g [] H (Same.refl _) .nil⟩
theorem AB_nil : SAB X xv W [] 0 tNil aNil := ⟨fun _ ds e => by cases e; rfl, pa_nil, fun σ H ρ O Q e g => g [] H (Same.refl _) .nil⟩
theorem len_cons {α : Type} {n : Nat} {r : R α} {q : R (List D)} {k : α → D} (h : ∀ ds, q = .ok ds → ds.length = n) : ∀ ds, (r.bind fun x => q.bind fun xs => .ok (k x :: xs)) = .ok ds → ds.length = n + 1 := by
  intro ds e
  cases r with
  | ok x =>
    cases q with
    | ok xs => cases e; rw [List.length_cons, h xs rfl]
    | exc c => cases e
    | stuck => cases e
  | exc c => cases e
  | stuck => cases e
theorem A_cons {a : Expr} {es : List Expr} {n : Nat} {t : TE} {u : TA} {f : En → R Val} {g : En → R (List D)} (ha : SE X xv W a t f) (hs : SA X xv W es n u g) (hst : starEach (a :: es) X.env = (false, eval a X.env) :: starEach es X.env := by rfl) : SA X xv W (a :: es) (n + 1) (tCons t u) (aCons f g) := by
  obtain ⟨p, q⟩ := ha
  obtain ⟨l, p2, q2⟩ := hs
  refine ⟨fun ρ => len_cons (l ρ), pa_cons p p2 hst, fun σ H ρ O Q e k => ?_⟩
  refine q σ H ρ O _ e (Gk.bind k fun x v H1 _ e1 r k => ?_)
  refine q2 σ H1 ρ O _ (e.same e1) (Gk.bind k fun xs vs H2 _ e2 r2 k => ?_)
  exact k (v :: vs) H2 (Same.refl _) (.cons ((r.same e2).rp e.tr) r2)
theorem AB_cons {a : Expr} {es : List Expr} {n : Nat} {t : TE} {u : TA} {f : En → R D} {g : En → R (List D)} (ha : SB X xv W a t f) (hs : SAB X xv W es n u g) (hst : starEach (a :: es) X.env = (false, eval a X.env) :: starEach es X.env := by rfl) : SAB X xv W (a :: es) (n + 1) (tCons t u) (aConsB f g) := by
  obtain ⟨p, q⟩ := ha
  obtain ⟨l, p2, q2⟩ := hs
  refine ⟨fun ρ => len_cons (k := id) (l ρ), pa_cons p p2 hst, fun σ H ρ O Q e k => ?_⟩
  refine q σ H ρ O _ e (Gk.bind k fun x v H1 _ e1 r k => ?_)
  refine q2 σ H1 ρ O _ (e.same e1) (Gk.bind k fun xs vs H2 _ e2 r2 k => ?_)
  exact k (v :: vs) H2 (Same.refl _) (.cons (r.same e2) r2)
theorem lB_line {n : Nat} (h : n ≤ lB) : n ≤ sizeLine := Nat.le_trans h (by decide)
theorem lB_lt {n : Nat} (h : n ≤ lB) : n < sizeLine := Nat.lt_of_le_of_lt h (by decide)
def sTup (g : En → R (List D)) : En → R Val := fun ρ => (g ρ).bind fun xs => .ok (.fr (.tup xs))
def sLst (g : En → R (List D)) : En → R Val := fun ρ => (g ρ).bind fun xs => .ok (.nw xs)
theorem same_new {H : Hp} {p : Addr} {o : HO} (h : H p = none) : Same H (upd H p o) := fun b x e => by
  rw [upd_ne (ne_of_none e h)]; exact e
theorem E_tup {es : List Expr} {k : Nat} {pos : Pos} {n : Nat} {t : TA} {g : En → R (List D)} (hs : SA X xv W es n t g) (hn : n ≤ lB := by decide) : SE X xv W (.Tuple es k pos) (tTup t) (sTup g) := by
  obtain ⟨l, p, q⟩ := hs
  refine ⟨pe_tup p, fun σ H ρ O Q e k => ?_⟩
  refine q σ H ρ O _ e (Gk.bind k fun xs vs H1 hx e1 r k => ?_)
  have hl : vs.length ≤ lB := by rw [← r.len, l ρ xs hx]; exact hn
  refine ⟨lB_line hl, fun p hp => k (.ref p) _ (same_new hp) ?_⟩
  exact .tup (.inl (.inl upd_same)) hl (r.same (same_new hp))
theorem E_lst {es : List Expr} {pos : Pos} {n : Nat} {t : TA} {g : En → R (List D)} (hs : SA X xv W es n t g) (hn : n ≤ lB := by decide) : SE X xv W (.List es pos) (tLst t) (sLst g) := by
  obtain ⟨l, p, q⟩ := hs
  refine ⟨pe_lst p, fun σ H ρ O Q e k => ?_⟩
  refine q σ H ρ O _ e (Gk.bind k fun xs vs H1 hx e1 r k => ?_)
  have hl : vs.length ≤ lB := by rw [← r.len, l ρ xs hx]; exact hn
  refine ⟨lB_line hl, fun p hp => k (.ref p) _ (same_new hp) ?_⟩
  exact ⟨p, vs, rfl, e1.free hp, upd_same, hl, (r.add hp).same (same_new hp)⟩
end
end Lt

set_option Elab.async false
set_option linter.all false
set_option autoImplicit false
set_option maxRecDepth 100000
set_option maxHeartbeats 4000000
namespace Lt
open PySem PySem.Spec PyProof.Rows L2

/-! ### equality -/
mutual
def toP : D → PyData
  | .non => .none
  | .bl b => .bool b
  | .int i => .int i
  | .str x => .str x
  | .tup xs => .tuple (toPs xs)
  | .lst xs => .list (toPs xs)
  | .rol xs => .list (toPs xs)
def toPs : List D → List PyData
  | [] => []
  | x :: xs => toP x :: toPs xs
end
def dEq (x y : D) : Bool := PyData.eqv (toP x) (toP y)
def eqOk : Nat → D → Bool
  | 0, .tup _ => false
  | 0, .lst _ => false
  | 0, .rol _ => false
  | n + 1, .tup xs => xs.all (eqOk n)
  | n + 1, .lst xs => xs.all (eqOk n)
  | n + 1, .rol xs => xs.all (eqOk n)
  | _, _ => true
theorem eqOk_all {K : PySem.W.Frag} {H : Hp} {O : List Addr} {n : Nat}
    (ih : ∀ d v, eqOk n d = true → Rp K H O d v → Dp K H v (toP d) ∧ (toP d).canLay0 = true ∧ (toP d).depth ≤ n) :
    ∀ {ds : List D} {vs : List V}, ds.all (eqOk n) = true → RpL K H O ds vs → DpAll K H vs (toPs ds) ∧ PyData.canLayAll0 (toPs ds) = true ∧ PyData.depthAll (toPs ds) ≤ n
  | _, _, _, .nil => ⟨.nil, by simp [toPs, PyData.canLayAll0], by simp [toPs, PyData.depthAll]⟩
  | _, _, h, .cons r rs => by
    rw [List.all_cons, Bool.and_eq_true] at h
    obtain ⟨a1, a2, a3⟩ := ih _ _ h.1 r
    obtain ⟨b1, b2, b3⟩ := eqOk_all ih h.2 rs
    refine ⟨by rw [toPs]; exact .cons a1 b1, by rw [toPs, PyData.canLayAll0, a2, b2]; rfl, ?_⟩
    rw [toPs, PyData.depthAll]
    omega
theorem eqOk_dp {K : PySem.W.Frag} {H : Hp} {O : List Addr} : ∀ (n : Nat) (d : D) (v : V), eqOk n d = true → Rp K H O d v → Dp K H v (toP d) ∧ (toP d).canLay0 = true ∧ (toP d).depth ≤ n := by
  intro n
  induction n with
  | zero =>
    intro d v e h
    cases h with
    | non => exact ⟨.non, by simp [toP, PyData.canLay0], by simp [toP, PyData.depth]⟩
    | bl b => exact ⟨.bl b, by simp [toP, PyData.canLay0], by simp [toP, PyData.depth]⟩
    | int b => exact ⟨.int b, by simp [toP, PyData.canLay0], by simp [toP, PyData.depth]⟩
    | str x g =>
      refine ⟨.str x, ?_, by simp [toP, PyData.depth]⟩
      rw [toP, PyData.canLay0]
      exact (Bool.and_eq_true_iff.mp g).2
    | tup h z r => cases e
    | lst h n z r => cases e
    | rol h z r => cases e
  | succ n ih =>
    intro d v e h
    cases h with
    | non => exact ⟨.non, by simp [toP, PyData.canLay0], by simp [toP, PyData.depth]⟩
    | bl b => exact ⟨.bl b, by simp [toP, PyData.canLay0], by simp [toP, PyData.depth]⟩
    | int b => exact ⟨.int b, by simp [toP, PyData.canLay0], by simp [toP, PyData.depth]⟩
    | str x g =>
      refine ⟨.str x, ?_, by simp [toP, PyData.depth]⟩
      rw [toP, PyData.canLay0]
      exact (Bool.and_eq_true_iff.mp g).2
    | tup h z r =>
      obtain ⟨a1, a2, a3⟩ := eqOk_all ih e r
      refine ⟨by rw [toP]; exact .tup h a1, by rw [toP, PyData.canLay0]; exact a2, ?_⟩
      rw [toP, PyData.depth]; omega
    | lst h n z r =>
      obtain ⟨a1, a2, a3⟩ := eqOk_all ih e r
      refine ⟨by rw [toP]; exact .lst (.inl (.inl h)) a1, by rw [toP, PyData.canLay0]; exact a2, ?_⟩
      rw [toP, PyData.depth]; omega
    | rol h z r =>
      obtain ⟨a1, a2, a3⟩ := eqOk_all ih e r
      refine ⟨by rw [toP]; exact .lst h.sq a1, by rw [toP, PyData.canLay0]; exact a2, ?_⟩
      rw [toP, PyData.depth]; omega
theorem eqOk_shaped {K : PySem.W.Frag} {H : Hp} {O : List Addr} {d : D} {v : V} (e : eqOk 8 d = true) (h : Rp K H O d v) : Dp K H v (toP d) ∧ SeqAt.shaped (toP d) = true := by
  obtain ⟨a, b, c⟩ := eqOk_dp 8 d v e h
  refine ⟨a, ?_⟩
  show ((toP d).canLay0 && decide ((toP d).depth ≤ 64)) = true
  rw [b, decide_eq_true (by omega)]; rfl

/-! ### operators by values, a scalar out -/
def toV : D → Option V
  | .non => some .non
  | .bl b => some (.bl b)
  | .int i => some (.int i)
  | _ => none
section
variable {X : Cx} {xv : XV} {W : WX}
theorem toV_rp {d : D} {w : V} (e : toV d = some w) (K : PySem.W.Frag) (H : Hp) (O : List Addr) : Rp K H O d w := by
  cases d with
  | non => cases e; exact .non
  | bl b => cases e; exact .bl b
  | int b => cases e; exact .int b
  | _ => cases e
structure OpS (X : Cx) (f : Value → Value → Sem Value) (r : R2) (op : D → D → Option D) : Prop where
  ex : OpR X f r ∧ ∀ H x y v u Q d, Rp X.K H [] x v → Rp X.K H [] y u → op x y = some d → ∃ w, toV d = some w ∧ (Q w H → r v u H Q)
def lift2 (op : D → D → Option D) (f g : En → R D) : En → R Val := fun ρ => (f ρ).bind fun x => (g ρ).bind fun y => match op x y with
  | some d => .ok (.fr d)
  | none => .stuck
theorem lift2_ok {op : D → D → Option D} {fv : Value → Value → Sem Value} {ta tb : TE} {f g : En → R D} {r : R2} (hr : ∀ H x y v u Q d, Rp X.K H [] x v → Rp X.K H [] y u → op x y = some d → ∃ w, toV d = some w ∧ (Q w H → r v u H Q))
    (q : ∀ σ H ρ O Q, ER X.K xv O ρ σ H → Gk X W (fun _ H' => Rp X.K H' []) σ H (f ρ) Q → ta σ H Q) (q2 : ∀ σ H ρ O Q, ER X.K xv O ρ σ H → Gk X W (fun _ H' => Rp X.K H' []) σ H (g ρ) Q → tb σ H Q)
    {σ : L2.St} {H : Hp} {ρ : En} {O : List Addr} {Q : VK} (e : ER X.K xv O ρ σ H) (k : Gk X W (fun H H' => RV X.K H H' O) σ H (lift2 op f g ρ) Q) : tOp r ta tb σ H Q := by
  refine q σ H ρ O _ e (Gk.bind k fun x v H1 _ e1 r1 k => ?_)
  refine q2 σ H1 ρ O _ (e.same e1) (Gk.bind k fun y u H2 _ e2 r2 k => ?_)
  cases ho : op x y with
  | none => rw [ho] at k; exact k.elim
  | some d =>
    rw [ho] at k
    obtain ⟨w, hw, hq⟩ := hr H2 x y v u Q d (r1.same e2) r2 ho
    exact hq (k w H2 (Same.refl _) (toV_rp hw _ _ _))
theorem E_op {op : D → D → Option D} {o : Operator} {a b : Expr} {r : R2} {t u : TE} {f g : En → R D} {pos : Pos} (ho : OpS X (binaryOp o) r op) (ha : SB X xv W a t f) (hb : SB X xv W b u g) : SE X xv W (.BinOp a o b pos) (tOp r t u) (lift2 op f g) := by
  obtain ⟨hop, hr⟩ := ho.ex
  obtain ⟨p, q⟩ := ha
  obtain ⟨p2, q2⟩ := hb
  exact ⟨pe_op hop p p2, fun σ H ρ O Q e k => lift2_ok (fv := binaryOp o) hr q q2 e k⟩
theorem E_cmp {op : D → D → Option D} {o : CmpOp} {a b : Expr} {r : R2} {t u : TE} {f g : En → R D} {pos : Pos} (ho : OpS X (compareOp o) r op) (ha : SB X xv W a t f) (hb : SB X xv W b u g) (hm : behindInMarks o b = false) : SE X xv W (.Compare a [o] [b] pos) (tOp r t u) (lift2 op f g) := by
  obtain ⟨hop, hr⟩ := ho.ex
  obtain ⟨p, q⟩ := ha
  obtain ⟨p2, q2⟩ := hb
  exact ⟨pe_cmpR hop p p2 hm, fun σ H ρ O Q e k => lift2_ok (fv := compareOp o) hr q q2 e k⟩
def asB : D → R Bool
  | .bl b => .ok b
  | _ => .stuck
def tst (f : En → R Val) : En → R Bool := fun ρ => (f ρ).bind fun v => asB v.d
theorem T_cmp {op : D → D → Option D} {o : CmpOp} {a b : Expr} {r : R2} {t u : TE} {f g : En → R D} {pos : Pos} (ho : OpS X (compareOp o) r op) (ha : SB X xv W a t f) (hb : SB X xv W b u g) (hm : behindInMarks o b = false) : ST X xv W (.Compare a [o] [b] pos) (tTest (tOp r t u)) (tst (lift2 op f g)) := by
  obtain ⟨hop, hr⟩ := ho.ex
  obtain ⟨p, q⟩ := ha
  obtain ⟨p2, q2⟩ := hb
  refine ⟨pt_cmpR hop p p2 hm, fun σ H ρ O Q e k => lift2_ok (fv := compareOp o) hr q q2 e (Gk.bind k fun x v H1 _ e1 r k => ?_)⟩
  have r : Rp X.K H1 O x.d v := r.rp e.tr
  cases hx : x.d with
  | bl b =>
    rw [hx] at r k
    cases r
    exact ⟨b, rfl, k b H1 (Same.refl _) rfl⟩
  | _ => rw [hx] at k; exact k.elim
/-- ints -/
def ii (c : Int → Int → Bool) (g : Int → Int → D) : D → D → Option D
  | .int i, .int j => if c i j then some (g i j) else none
  | _, _ => none
theorem opS_ii {f : Value → Value → Sem Value} {C : Int → Int → Prop} {c : Int → Int → Bool} {gv : Int → Int → V} {g : Int → Int → D} (h : OpR X f (rI C gv)) (hc : ∀ i j, c i j = true → C i j) (hg : ∀ i j, toV (g i j) = some (gv i j)) : OpS X f (rI C gv) (ii c g) := by
  refine ⟨h, fun H x y v u Q d r1 r2 e => ?_⟩
  cases r1 with
  | int i =>
    cases r2 with
    | int j =>
      unfold ii at e
      by_cases hh : c i j = true
      · simp only [hh, if_true, Option.some.injEq] at e
        subst e
        exact ⟨gv i j, hg i j, fun q => ⟨i, j, rfl, rfl, hc i j hh, q⟩⟩
      · simp only [hh, if_false] at e
        cases e
    | _ => cases e
  | _ => cases e
theorem opS_ii0 {f : Value → Value → Sem Value} {gv : Int → Int → V} {g : Int → Int → D} (h : OpR X f (rI0 gv)) (hg : ∀ i j, toV (g i j) = some (gv i j)) : OpS X f (rI0 gv) (ii (fun _ _ => true) g) := by
  refine ⟨h, fun H x y v u Q d r1 r2 e => ?_⟩
  cases r1 with
  | int i =>
    cases r2 with
    | int j =>
      cases e
      exact ⟨gv i j, hg i j, fun q => ⟨i, j, rfl, rfl, q⟩⟩
    | _ => cases e
  | _ => cases e
def mulOk (i j : Int) : Bool := decide (i.natAbs < 2 ^ 64) || decide (j.natAbs < 2 ^ 64) || decide (i.natAbs.log2 + j.natAbs.log2 < 1000000)
def dSub := ii (fun _ _ => true) fun i j => .int (i - j)
def dMul := ii mulOk fun i j => .int (i * j)
def dDiv := ii (fun _ j => decide (0 < j) && decide (j.natAbs.log2 < 9000)) fun i j => .int (i / j)
def dMod := ii (fun _ j => decide (0 < j)) fun i j => .int (i % j)
def dPow := ii (fun i j => decide (0 ≤ j) && decide (j ≤ 1000000) && decide (i.natAbs < 2 ^ 64)) fun i j => .int (i ^ j.toNat)
def dLt := ii (fun _ _ => true) fun i j => .bl (decide (i < j))
def dLe := ii (fun _ _ => true) fun i j => .bl (decide (i ≤ j))
def dGt := ii (fun _ _ => true) fun i j => .bl (decide (j < i))
def dGe := ii (fun _ _ => true) fun i j => .bl (decide (j ≤ i))
theorem o_sub : OpS X (binaryOp .Sub) (rI0 fun i j => .int (i - j)) dSub := opS_ii0 op_sub fun _ _ => rfl
theorem o_mul : OpS X (binaryOp .Mult) (rI (fun i j => IntMulOk i j) fun i j => .int (i * j)) dMul := by
  have h : OpR X (binaryOp .Mult) (rI (fun i j => IntMulOk i j) fun i j => .int (i * j)) := opI fun _ _ _ _ _ _ _ hc q => mul_int q hc
  refine opS_ii h (fun i j hc => ?_) fun _ _ => rfl
  unfold mulOk at hc
  rw [Bool.or_eq_true, Bool.or_eq_true, decide_eq_true_eq, decide_eq_true_eq, decide_eq_true_eq] at hc
  rcases hc with (hc | hc) | hc
  · exact CMul.ok (.inl (by omega))
  · exact CMul.ok (.inr (by omega))
  · exact CMulW.ok hc
theorem o_div : OpS X (binaryOp .FloorDiv) (rI CDivW fun i j => .int (i / j)) dDiv := opS_ii op_fdivW (fun i j hc => by
  rw [Bool.and_eq_true, decide_eq_true_eq, decide_eq_true_eq] at hc; exact hc) fun _ _ => rfl
theorem o_mod : OpS X (binaryOp .Mod) (rI (fun _ j => 0 < j) fun i j => .int (i % j)) dMod := opS_ii op_mod (fun i j hc => of_decide_eq_true hc) fun _ _ => rfl
theorem o_pow : OpS X (binaryOp .Pow) (rI CPow fun i j => .int (i ^ j.toNat)) dPow := opS_ii op_pow (fun i j hc => by
  rw [Bool.and_eq_true, Bool.and_eq_true, decide_eq_true_eq, decide_eq_true_eq, decide_eq_true_eq] at hc; exact ⟨hc.1.1, hc.1.2, hc.2⟩) fun _ _ => rfl
theorem o_lt : OpS X (compareOp .Lt) (rI0 fun i j => .bl (decide (i < j))) dLt := opS_ii0 op_lt fun _ _ => rfl
theorem o_le : OpS X (compareOp .LtE) (rI0 fun i j => .bl (decide (i ≤ j))) dLe := opS_ii0 op_le fun _ _ => rfl
theorem o_gt : OpS X (compareOp .Gt) (rI0 fun i j => .bl (decide (j < i))) dGt := opS_ii0 op_gt fun _ _ => rfl
theorem o_ge : OpS X (compareOp .GtE) (rI0 fun i j => .bl (decide (j ≤ i))) dGe := opS_ii0 op_ge fun _ _ => rfl
def dEqO (x y : D) : Option D := if eqOk 8 x && eqOk 8 y then some (.bl (dEq x y)) else none
def dNeO (x y : D) : Option D := if eqOk 8 x && eqOk 8 y then some (.bl (!dEq x y)) else none
theorem o_eq (hu : X.A.units + 64 < cLine) : OpS X (compareOp .Eq) (rEqD X.K) dEqO := by
  refine ⟨op_eqD hu, fun H x y v u Q d r1 r2 e => ?_⟩
  unfold dEqO at e
  split at e
  · rename_i hh
    cases e
    rw [Bool.and_eq_true] at hh
    obtain ⟨a1, a2⟩ := eqOk_shaped hh.1 r1
    obtain ⟨b1, b2⟩ := eqOk_shaped hh.2 r2
    exact ⟨_, rfl, fun q => ⟨_, _, a1, b1, a2, b2, q⟩⟩
  · cases e
theorem o_ne (hu : X.A.units + 64 < cLine) : OpS X (compareOp .NotEq) (rNeD X.K) dNeO := by
  refine ⟨op_neD hu, fun H x y v u Q d r1 r2 e => ?_⟩
  unfold dNeO at e
  split at e
  · rename_i hh
    cases e
    rw [Bool.and_eq_true] at hh
    obtain ⟨a1, a2⟩ := eqOk_shaped hh.1 r1
    obtain ⟨b1, b2⟩ := eqOk_shaped hh.2 r2
    exact ⟨_, rfl, fun q => ⟨_, _, a1, b1, a2, b2, q⟩⟩
  · cases e
def isNonD : D → Bool
  | .non => true
  | _ => false
def dIs (x y : D) : Option D := if isNonD y then some (.bl (isNonD x)) else none
def dIsNot (x y : D) : Option D := if isNonD y then some (.bl (!isNonD x)) else none
theorem isNonD_v {K : PySem.W.Frag} {H : Hp} {O : List Addr} {d : D} {v : V} (h : Rp K H O d v) : decide (v = V.non) = isNonD d := by
  cases h <;> rfl
theorem non_v {K : PySem.W.Frag} {H : Hp} {O : List Addr} {d : D} {v : V} (h : Rp K H O d v) (e : isNonD d = true) : v = .non := by
  cases h with
  | non => rfl
  | _ => cases e
theorem o_is : OpS X (compareOp .Is) (fun x y H Q => y = .non ∧ Q (.bl (decide (x = .non))) H) dIs := by
  refine ⟨op_isN, fun H x y v u Q d r1 r2 e => ?_⟩
  unfold dIs at e
  split at e
  · rename_i hh
    cases e
    exact ⟨_, rfl, fun q => ⟨non_v r2 hh, by rw [isNonD_v r1]; exact q⟩⟩
  · cases e
theorem o_isnot : OpS X (compareOp .IsNot) (fun x y H Q => y = .non ∧ Q (.bl (!decide (x = .non))) H) dIsNot := by
  refine ⟨op_notN, fun H x y v u Q d r1 r2 e => ?_⟩
  unfold dIsNot at e
  split at e
  · rename_i hh
    cases e
    exact ⟨_, rfl, fun q => ⟨non_v r2 hh, by rw [isNonD_v r1]; exact q⟩⟩
  · cases e
/-- x in ys -/
def dInL (neg : Bool) (x y : D) : Option D := match y with
  | .str z => match x with
    | .str w => match w.cps.toList with
      | [c] => some (.bl (if neg then !decide (c ∈ z.cps.toList) else decide (c ∈ z.cps.toList)))
      | _ => none
    | _ => none
  | .lst xs => if eqOk 8 x && eqOk 8 (.lst xs) then some (.bl (if neg then !xs.any (fun z => dEq z x) else xs.any fun z => dEq z x)) else none
  | .tup xs => if eqOk 8 x && eqOk 8 (.tup xs) then some (.bl (if neg then !xs.any (fun z => dEq z x) else xs.any fun z => dEq z x)) else none
  | _ => none
theorem any_toPs (d : PyData) : ∀ xs : List D, ((toPs xs).any fun z => PyData.eqv z d) = xs.any fun z => PyData.eqv (toP z) d
  | [] => by rw [toPs]; rfl
  | x :: xs => by rw [toPs, List.any_cons, List.any_cons, any_toPs d xs]
def rInT (K : PySem.W.Frag) (neg : Bool) : R2 := fun x y H Q => ∃ d ds, Dp K H x d ∧ Dp K H y (.tuple ds) ∧ SeqAt.shaped d = true ∧ SeqAt.shaped (.tuple ds) = true ∧ Q (.bl (if neg then !ds.any (fun z => PyData.eqv z d) else ds.any fun z => PyData.eqv z d)) H
theorem op_inT (hu : X.A.units + 65 < cLine) : OpR X (compareOp .In) (rInT X.K false) := by
  intro pins s σ H x y v u Q I rx ry h
  obtain ⟨d, ds, hd, he, sd, se, q⟩ := h
  obtain ⟨as, r1⟩ := Dp.reads I d x v hd rx
  obtain ⟨bs, r2⟩ := Dp.reads I (.tuple ds) y u he ry
  exact SeqAt.in_tuple_reads r2 r1 (SeqAt.canLay_of_shaped se) (SeqAt.canLay_of_shaped sd) (room_in_shaped sd hu) ⟨.bl _, H, I, rfl, q⟩
theorem op_notInT (hu : X.A.units + 65 < cLine) : OpR X (compareOp .NotIn) (rInT X.K true) := by
  intro pins s σ H x y v u Q I rx ry h
  obtain ⟨d, ds, hd, he, sd, se, q⟩ := h
  obtain ⟨as, r1⟩ := Dp.reads I d x v hd rx
  obtain ⟨bs, r2⟩ := Dp.reads I (.tuple ds) y u he ry
  exact SeqAt.notIn_tuple_reads r2 r1 (SeqAt.canLay_of_shaped se) (SeqAt.canLay_of_shaped sd) (room_in_shaped sd hu) ⟨.bl _, H, I, rfl, q⟩
theorem str_one {w : Str} {c : Nat} (h : w.cps.toList = [c]) : w = ⟨#[c]⟩ := by
  obtain ⟨a⟩ := w
  have : a = #[c] := by
    apply Array.toList_inj.mp
    exact h
  rw [this]
def rInA (K : PySem.W.Frag) : R2 := fun x y H Q => (∃ (c : Nat) (z : Str), x = .str ⟨#[c]⟩ ∧ y = .str z ∧ Q (.bl (decide (c ∈ z.cps.toList))) H) ∨ rInD K x y H Q ∨ rInT K false x y H Q
def rNotInA (K : PySem.W.Frag) : R2 := fun x y H Q => (∃ (c : Nat) (z : Str), x = .str ⟨#[c]⟩ ∧ y = .str z ∧ Q (.bl (!decide (c ∈ z.cps.toList))) H) ∨ rNotInD K x y H Q ∨ rInT K true x y H Q
theorem o_in (hu : X.A.units + 65 < cLine) : OpS X (compareOp .In) (rInA X.K) (dInL false) := by
  refine ⟨OpR.or op_in_sign (OpR.or (op_inD hu) (op_inT hu)), fun H x y v u Q d r1 r2 e => ?_⟩
  unfold dInL at e
  cases y with
  | str z =>
    cases x with
    | str w =>
      simp only at e
      split at e
      · rename_i c hc
        cases e
        cases r1; cases r2
        refine ⟨_, rfl, fun q => .inl ⟨c, z, by rw [str_one hc], rfl, q⟩⟩
      · cases e
    | _ => cases e
  | lst xs =>
    simp only at e
    split at e
    · rename_i hh
      cases e
      rw [Bool.and_eq_true] at hh
      obtain ⟨a1, a2⟩ := eqOk_shaped hh.1 r1
      obtain ⟨b1, b2⟩ := eqOk_shaped hh.2 r2
      rw [toP] at b1 b2
      refine ⟨_, rfl, fun q => .inr (.inl ⟨_, _, a1, b1, a2, b2, ?_⟩)⟩
      rw [any_toPs]; exact q
    · cases e
  | tup xs =>
    simp only at e
    split at e
    · rename_i hh
      cases e
      rw [Bool.and_eq_true] at hh
      obtain ⟨a1, a2⟩ := eqOk_shaped hh.1 r1
      obtain ⟨b1, b2⟩ := eqOk_shaped hh.2 r2
      rw [toP] at b1 b2
      refine ⟨_, rfl, fun q => .inr (.inr ⟨_, _, a1, b1, a2, b2, ?_⟩)⟩
      rw [any_toPs]; exact q
    · cases e
  | _ => cases e
theorem o_notin (hu : X.A.units + 65 < cLine) : OpS X (compareOp .NotIn) (rNotInA X.K) (dInL true) := by
  refine ⟨OpR.or op_notIn_sign (OpR.or (op_notInD hu) (op_notInT hu)), fun H x y v u Q d r1 r2 e => ?_⟩
  unfold dInL at e
  cases y with
  | str z =>
    cases x with
    | str w =>
      simp only at e
      split at e
      · rename_i c hc
        cases e
        cases r1; cases r2
        refine ⟨_, rfl, fun q => .inl ⟨c, z, by rw [str_one hc], rfl, q⟩⟩
      · cases e
    | _ => cases e
  | lst xs =>
    simp only at e
    split at e
    · rename_i hh
      cases e
      rw [Bool.and_eq_true] at hh
      obtain ⟨a1, a2⟩ := eqOk_shaped hh.1 r1
      obtain ⟨b1, b2⟩ := eqOk_shaped hh.2 r2
      rw [toP] at b1 b2
      refine ⟨_, rfl, fun q => .inr (.inl ⟨_, _, a1, b1, a2, b2, ?_⟩)⟩
      rw [any_toPs]; exact q
    · cases e
  | tup xs =>
    simp only at e
    split at e
    · rename_i hh
      cases e
      rw [Bool.and_eq_true] at hh
      obtain ⟨a1, a2⟩ := eqOk_shaped hh.1 r1
      obtain ⟨b1, b2⟩ := eqOk_shaped hh.2 r2
      rw [toP] at b1 b2
      refine ⟨_, rfl, fun q => .inr (.inr ⟨_, _, a1, b1, a2, b2, ?_⟩)⟩
      rw [any_toPs]; exact q
    · cases e
  | _ => cases e
end
end Lt

set_option Elab.async false
set_option linter.all false
set_option autoImplicit false
set_option maxRecDepth 100000
set_option maxHeartbeats 4000000
namespace Lt
open PySem PySem.Spec PyProof.Rows L2
section
variable {X : Cx} {xv : XV} {W : WX}

/-- only if -/
def grd {α : Type} (b : Bool) (r : R α) : R α := match b with
  | true => r
  | false => .stuck
theorem Gk.grd {α β : Type} {rel' : Hp → Hp → α → β → Prop} {σ : L2.St} {H : Hp} {b : Bool} {r : R α} {Q : β → Hp → Prop} (h : Gk X W rel' σ H (grd b r) Q) : b = true ∧ Gk X W rel' σ H r Q := by
  cases b with
  | false => exact h.elim
  | true => exact ⟨rfl, h⟩
/-! ### a + b -/
def okS (z : Str) : R Val := grd (strG z) (.ok (.fr (.str z)))
def addV : D → D → R Val
  | .int i, .int j => .ok (.fr (.int (i + j)))
  | .str x, .str y => okS (x ++ y)
  | .lst xs, .lst ys => grd (decide (xs.length + ys.length ≤ lB)) (.ok (.nw (xs ++ ys)))
  | .tup xs, .tup ys => grd (decide (xs.length + ys.length ≤ lB)) (.ok (.fr (.tup (xs ++ ys))))
  | _, _ => .stuck
def rAddV (K : PySem.W.Frag) : R2 := fun x y H Q => rI0 (fun i j => .int (i + j)) x y H Q ∨ (∃ i j, x = .str i ∧ y = .str j ∧ i.length + j.length ≤ sizeLine ∧ Q (.str (i ++ j)) H) ∨ rCat x y H Q ∨ rCatA K x y H Q
theorem op_addV : OpR X (binaryOp .Add) (rAddV X.K) := OpR.or op_add (OpR.or op_add_str (OpR.or op_cat op_catA))
theorem strG_len {z : Str} (h : strG z = true) : z.length ≤ lB := of_decide_eq_true (Bool.and_eq_true_iff.mp h).1
theorem str_app_len (x y : Str) : (x ++ y).length = x.length + y.length := by
  show (x.cps ++ y.cps).size = x.cps.size + y.cps.size
  exact Array.size_append
def sAdd (f g : En → R D) : En → R Val := fun ρ => (f ρ).bind fun x => (g ρ).bind fun y => addV x y
theorem E_add {a b : Expr} {t u : TE} {f g : En → R D} {pos : Pos} (ha : SQ X xv W a t f) (hb : SQ X xv W b u g) : SE X xv W (.BinOp a .Add b pos) (tOp (rAddV X.K) t u) (sAdd f g) := by
  obtain ⟨p, q⟩ := ha
  obtain ⟨p2, q2⟩ := hb
  refine ⟨pe_op op_addV p p2, fun σ H ρ O Q e k => ?_⟩
  refine q σ H ρ O _ e (Gk.bind k fun x v H1 _ e1 r1 k => ?_)
  refine q2 σ H1 ρ O _ (e.same e1) (Gk.bind k fun y u H2 _ e2 r2 k => ?_)
  have r1 := r1.same e2
  cases x with
  | int i =>
    cases y with
    | int j => cases r1; cases r2; exact .inl ⟨i, j, rfl, rfl, k _ H2 (Same.refl _) (.int _)⟩
    | _ => exact k.elim
  | str x =>
    cases y with
    | str y =>
      cases r1 with
      | str _ g1 =>
        cases r2 with
        | str _ g2 =>
          obtain ⟨hg, k⟩ := Gk.grd (b := strG (x ++ y)) k
          · refine .inr (.inl ⟨x, y, rfl, rfl, ?_, k _ H2 (Same.refl _) (.str _ hg)⟩)
            have := strG_len hg
            rw [str_app_len] at this
            exact lB_line this
    | _ => exact k.elim
  | lst xs =>
    cases y with
    | lst ys =>
      obtain ⟨a1, vs, rfl, h1, z1, l1⟩ := r1
      obtain ⟨a2, ws, rfl, h2, z2, l2⟩ := r2
      obtain ⟨hg, k⟩ := Gk.grd (b := decide (xs.length + ys.length ≤ lB)) k
      have hg := of_decide_eq_true hg
      · have hl : vs.length + ws.length ≤ lB := by rw [← l1.len, ← l2.len]; exact hg
        refine .inr (.inr (.inl ⟨a1, a2, vs, ws, rfl, rfl, h1, h2, lB_line hl, fun p hp => k (.ref p) _ (same_new hp) ?_⟩))
        exact ⟨p, _, rfl, (e1.trans e2).free hp, upd_same, by rw [List.length_append]; exact hl, ((l1.append l2).add hp).same (same_new hp)⟩
    | _ => exact k.elim
  | tup xs =>
    cases y with
    | tup ys =>
      cases r1 with
      | tup h1 z1 l1 =>
        rename_i a1 vs
        cases r2 with
        | tup h2 z2 l2 =>
          rename_i a2 ws
          obtain ⟨hg, k⟩ := Gk.grd (b := decide (xs.length + ys.length ≤ lB)) k
          have hg := of_decide_eq_true hg
          · have hl : vs.length + ws.length ≤ lB := by rw [← l1.len, ← l2.len]; exact hg
            refine .inr (.inr (.inr ⟨a1, a2, vs, ws, rfl, rfl, h1, h2, lB_line hl, fun hv => ?_, fun hv hw => ?_, fun hv hw p hp => ?_⟩))
            · subst hv
              have hx : xs = [] := List.eq_nil_of_length_eq_zero (by rw [l1.len]; rfl)
              subst hx
              exact k _ H2 (Same.refl _) (.tup h2 z2 l2)
            · subst hw
              have hx : ys = [] := List.eq_nil_of_length_eq_zero (by rw [l2.len]; rfl)
              subst hx
              rw [List.append_nil] at k
              exact k _ H2 (Same.refl _) (.tup h1 z1 l1)
            · exact k (.ref p) _ (same_new hp) (.tup (.inl (.inl upd_same)) (by rw [List.length_append]; exact hl) ((l1.append l2).same (same_new hp)))
    | _ => exact k.elim
  | _ => exact k.elim
/-! ### [..] * n -/
def repV : D → D → R Val
  | .int i, .int j => grd (mulOk i j) (.ok (.fr (.int (i * j))))
  | .lst xs, .int k => grd (decide (k < 1000000) && decide (-1000000 < k) && decide (xs.length * k.toNat ≤ lB)) (.ok (.nw (List.replicate k.toNat xs).flatten))
  | _, _ => .stuck
def sMul (f g : En → R D) : En → R Val := fun ρ => (f ρ).bind fun x => (g ρ).bind fun y => repV x y
theorem RpL.rep {K : PySem.W.Frag} {H : Hp} {O : List Addr} {ds : List D} {vs : List V} (h : RpL K H O ds vs) : ∀ n : Nat, RpL K H O (List.replicate n ds).flatten (List.replicate n vs).flatten
  | 0 => .nil
  | n + 1 => by
    rw [List.replicate_succ, List.replicate_succ, List.flatten_cons, List.flatten_cons]
    exact h.append (RpL.rep h n)
theorem op_mulI : OpR X (binaryOp .Mult) (rI (fun i j => IntMulOk i j) fun i j => .int (i * j)) := opI fun _ _ _ _ _ _ _ hc q => mul_int q hc
theorem mulOk_ok {i j : Int} (hc : mulOk i j = true) : IntMulOk i j := by
  unfold mulOk at hc
  rw [Bool.or_eq_true, Bool.or_eq_true, decide_eq_true_eq, decide_eq_true_eq, decide_eq_true_eq] at hc
  rcases hc with (hc | hc) | hc
  · exact CMul.ok (.inl (by omega))
  · exact CMul.ok (.inr (by omega))
  · exact CMulW.ok hc
def rMulV : R2 := fun x y H Q => rI (fun i j => IntMulOk i j) (fun i j => .int (i * j)) x y H Q ∨ rRep x y H Q
theorem op_mulV : OpR X (binaryOp .Mult) rMulV := OpR.or op_mulI op_rep
theorem E_mul {a b : Expr} {t u : TE} {f g : En → R D} {pos : Pos} (ha : SQ X xv W a t f) (hb : SQ X xv W b u g) : SE X xv W (.BinOp a .Mult b pos) (tOp rMulV t u) (sMul f g) := by
  obtain ⟨p, q⟩ := ha
  obtain ⟨p2, q2⟩ := hb
  refine ⟨pe_op op_mulV p p2, fun σ H ρ O Q e k => ?_⟩
  refine q σ H ρ O _ e (Gk.bind k fun x v H1 _ e1 r1 k => ?_)
  refine q2 σ H1 ρ O _ (e.same e1) (Gk.bind k fun y u H2 _ e2 r2 k => ?_)
  have r1 := r1.same e2
  cases x with
  | int i =>
    cases y with
    | int j =>
      cases r1; cases r2
      obtain ⟨hg, k⟩ := Gk.grd (b := mulOk i j) k
      · exact .inl ⟨i, j, rfl, rfl, mulOk_ok hg, k _ H2 (Same.refl _) (.int _)⟩
    | _ => exact k.elim
  | lst xs =>
    cases y with
    | int j =>
      obtain ⟨a1, vs, rfl, h1, z1, l1⟩ := r1
      cases r2
      obtain ⟨hg, k⟩ := Gk.grd (b := decide (j < 1000000) && decide (-1000000 < j) && decide (xs.length * j.toNat ≤ lB)) k
      · rw [Bool.and_eq_true, Bool.and_eq_true, decide_eq_true_eq, decide_eq_true_eq, decide_eq_true_eq] at hg
        have hl : vs.length * j.toNat ≤ lB := by rw [← l1.len]; exact hg.2
        have hl2 : (List.replicate j.toNat vs).flatten.length ≤ lB := by
          rw [List.length_flatten, List.map_replicate, List.sum_replicate_nat, Nat.mul_comm]; exact hl
        refine .inr ⟨a1, j, vs, rfl, rfl, h1, by omega, by omega, lB_line hl, fun p hp => k (.ref p) _ (same_new hp) ?_⟩
        exact ⟨p, _, rfl, (e1.trans e2).free hp, upd_same, hl2, ((l1.rep _).add hp).same (same_new hp)⟩
    | _ => exact k.elim
  | _ => exact k.elim
/-! ### -x, not x, and, or, if else -/
def negD : D → R Val
  | .int i => .ok (.fr (.int (-i)))
  | _ => .stuck
def sNeg (f : En → R D) : En → R Val := fun ρ => (f ρ).bind negD
theorem E_neg {a : Expr} {t : TE} {f : En → R D} {pos : Pos} (ha : SB X xv W a t f) : SE X xv W (.UnaryOp .USub a pos) (tUn (rU fun i => .int (-i)) t) (sNeg f) := by
  obtain ⟨p, q⟩ := ha
  refine ⟨pe_un un_neg p, fun σ H ρ O Q e k => q σ H ρ O _ e (Gk.bind k fun x v H1 _ e1 r1 k => ?_)⟩
  cases x with
  | int i => cases r1; exact ⟨i, rfl, k _ H1 (Same.refl _) (.int _)⟩
  | _ => exact k.elim
/-- a value that is a truth value -/
def ofB (f : En → R Bool) : En → R Val := fun ρ => (f ρ).bind fun b => .ok (.fr (.bl b))
theorem rpb {K : PySem.W.Frag} {H : Hp} {O : List Addr} {d : D} {v : V} {b : Bool} (r : Rp K H O d v) (h : d = .bl b) : v = .bl b := by
  subst h; cases r; rfl
theorem Gk.asBo {rel' : Hp → Hp → Bool → Bool → Prop} {σ : L2.St} {H : Hp} {d : D} {Q : Bool → Hp → Prop} (h : Gk X W rel' σ H (asB d) Q) : ∃ b, d = .bl b ∧ Gk X W rel' σ H (.ok b) Q := by
  cases d with
  | bl b => exact ⟨b, rfl, h⟩
  | _ => exact h.elim
/-- an expression as a test -/
theorem T_val {py : Expr} {t : TE} {f : En → R Val} (h : SE X xv W py t f) (he : ∀ whole, isTrue py X.env whole = (do let v ← whole; standAt py.pos; holding [v] (truthy v)) := by intro _; rfl) : ST X xv W py (tB t) (tst f) := by
  obtain ⟨p, q⟩ := h
  refine ⟨pt_val p he, fun σ H ρ O Q e k => q σ H ρ O _ e (Gk.bind k fun x v H1 _ e1 r1 k => ?_)⟩
  obtain ⟨b, hb, k⟩ := Gk.asBo k
  exact ⟨b, rpb (r1.rp e.tr) hb, k b H1 (Same.refl _) rfl⟩
def tNo (f : En → R Bool) : En → R Bool := fun ρ => (f ρ).bind fun b => .ok (!b)
theorem T_not {a : Expr} {t : TT} {f : En → R Bool} {pos : Pos} (h : ST X xv W a t f) : ST X xv W (.UnaryOp .Not a pos) (tNot t) (tNo f) := by
  obtain ⟨p, q⟩ := h
  refine ⟨pt_not p, fun σ H ρ O Q e k => q σ H ρ O _ e (Gk.bind k fun x v H1 _ e1 r1 k => ?_)⟩
  subst r1
  exact k _ H1 (Same.refl _) rfl
def tAn (f g : En → R Bool) : En → R Bool := fun ρ => (f ρ).bind fun b => if b then g ρ else .ok false
def tOrr (f g : En → R Bool) : En → R Bool := fun ρ => (f ρ).bind fun b => if b then .ok true else g ρ
def SW (X : Cx) (xv : XV) (W : WX) (py : Expr) (t : TT) (f : En → R Bool) : Prop := PW X py t ∧ ∀ σ H ρ O Q, ER X.K xv O ρ σ H → Gk X W (fun _ _ (b c : Bool) => c = b) σ H (f ρ) Q → t σ H Q
theorem SW.t {py : Expr} {t : TT} {f : En → R Bool} (h : SW X xv W py t f) : ST X xv W py t f := let ⟨p, q⟩ := h; ⟨p.pt, q⟩
theorem W_and1 {a : Expr} {t : TT} {f : En → R Bool} {pos : Pos} (h : ST X xv W a t f) : SW X xv W (.BoolOp .And [a] pos) t f := let ⟨p, q⟩ := h; ⟨pw_and1 p, q⟩
theorem W_or1 {a : Expr} {t : TT} {f : En → R Bool} {pos : Pos} (h : ST X xv W a t f) : SW X xv W (.BoolOp .Or [a] pos) t f := let ⟨p, q⟩ := h; ⟨pw_or1 p, q⟩
theorem W_and {a b : Expr} {r : List Expr} {t u : TT} {f g : En → R Bool} {pos : Pos} (h : ST X xv W a t f) (h2 : SW X xv W (.BoolOp .And (b :: r) pos) u g) : SW X xv W (.BoolOp .And (a :: b :: r) pos) (tAnd t u) (tAn f g) := by
  obtain ⟨p, q⟩ := h
  obtain ⟨p2, q2⟩ := h2
  refine ⟨pw_and p p2, fun σ H ρ O Q e k => q σ H ρ O _ e (Gk.bind k fun x v H1 _ e1 r1 k => ?_)⟩
  subst r1
  cases v with
  | true => exact iteT (q2 σ H1 ρ O _ (e.same e1) k)
  | false => exact iteF (k _ H1 (Same.refl _) rfl)
theorem W_or {a b : Expr} {r : List Expr} {t u : TT} {f g : En → R Bool} {pos : Pos} (h : ST X xv W a t f) (h2 : SW X xv W (.BoolOp .Or (b :: r) pos) u g) : SW X xv W (.BoolOp .Or (a :: b :: r) pos) (tOr t u) (tOrr f g) := by
  obtain ⟨p, q⟩ := h
  obtain ⟨p2, q2⟩ := h2
  refine ⟨pw_or p p2, fun σ H ρ O Q e k => q σ H ρ O _ e (Gk.bind k fun x v H1 _ e1 r1 k => ?_)⟩
  subst r1
  cases v with
  | true => exact iteT (k _ H1 (Same.refl _) rfl)
  | false => exact iteF (q2 σ H1 ρ O _ (e.same e1) k)
/-- .. as values -/
def vAnd (f g : En → R Val) : En → R Val := fun ρ => (f ρ).bind fun x => (asB x.d).bind fun b => if b then g ρ else .ok (.fr (.bl false))
def vOr (f g : En → R Val) : En → R Val := fun ρ => (f ρ).bind fun x => (asB x.d).bind fun b => if b then .ok (.fr (.bl true)) else g ρ
def vNot (f : En → R Val) : En → R Val := fun ρ => (f ρ).bind fun x => (asB x.d).bind fun b => .ok (.fr (.bl (!b)))
theorem Gk.asBb {α β : Type} {rel' : Hp → Hp → α → β → Prop} {σ : L2.St} {H : Hp} {d : D} {g : Bool → R α} {Q : β → Hp → Prop} (h : Gk X W rel' σ H ((asB d).bind g) Q) : ∃ b, d = .bl b ∧ Gk X W rel' σ H (g b) Q := by
  cases d with
  | bl b => exact ⟨b, rfl, h⟩
  | _ => exact h.elim
theorem Gk.back {f : En → R Val} {σ : L2.St} {H H1 : Hp} {ρ : En} {O : List Addr} {Q : VK} (e : Same H H1) (h : Gk X W (fun _ H2 => RV X.K H H2 O) σ H1 (f ρ) Q) : Gk X W (fun H1 H2 => RV X.K H1 H2 O) σ H1 (f ρ) Q :=
  Gk.imp h (fun _ _ _ _ _ q => q) fun _ _ _ _ r => r.back e
theorem E_one {op} {a : Expr} {t : TE} {f : En → R Val} {pos : Pos} (h : SE X xv W a t f) : SE X xv W (.BoolOp op [a] pos) t f := let ⟨p, q⟩ := h; ⟨pe_one p, q⟩
theorem E_and {a b : Expr} {r : List Expr} {t u : TE} {f g : En → R Val} {pos : Pos} (h : SE X xv W a t f) (h2 : SE X xv W (.BoolOp .And (b :: r) pos) u g) : SE X xv W (.BoolOp .And (a :: b :: r) pos) (tAndV t u) (vAnd f g) := by
  obtain ⟨p, q⟩ := h
  obtain ⟨p2, q2⟩ := h2
  refine ⟨pe_and p p2, fun σ H ρ O Q e k => q σ H ρ O _ e (Gk.bind k fun x v H1 _ e1 r1 k => ?_)⟩
  obtain ⟨b, hb, k⟩ := Gk.asBb k
  refine ⟨b, rpb (r1.rp e.tr) hb, ?_⟩
  cases b with
  | true => exact iteT (q2 σ H1 ρ O _ (e.same e1) (Gk.back e1 k))
  | false => exact iteF (k _ H1 (Same.refl _) (.bl false))
theorem E_or {a b : Expr} {r : List Expr} {t u : TE} {f g : En → R Val} {pos : Pos} (h : SE X xv W a t f) (h2 : SE X xv W (.BoolOp .Or (b :: r) pos) u g) : SE X xv W (.BoolOp .Or (a :: b :: r) pos) (tOrV t u) (vOr f g) := by
  obtain ⟨p, q⟩ := h
  obtain ⟨p2, q2⟩ := h2
  refine ⟨pe_or p p2, fun σ H ρ O Q e k => q σ H ρ O _ e (Gk.bind k fun x v H1 _ e1 r1 k => ?_)⟩
  obtain ⟨b, hb, k⟩ := Gk.asBb k
  refine ⟨b, rpb (r1.rp e.tr) hb, ?_⟩
  cases b with
  | true => exact iteT (k _ H1 (Same.refl _) (.bl true))
  | false => exact iteF (q2 σ H1 ρ O _ (e.same e1) (Gk.back e1 k))
theorem E_not {a : Expr} {t : TE} {f : En → R Val} {pos : Pos} (h : SE X xv W a t f) : SE X xv W (.UnaryOp .Not a pos) (tNotV t) (vNot f) := by
  obtain ⟨p, q⟩ := h
  refine ⟨pe_not p, fun σ H ρ O Q e k => q σ H ρ O _ e (Gk.bind k fun x v H1 _ e1 r1 k => ?_)⟩
  obtain ⟨b, hb, k⟩ := Gk.asBb k
  exact ⟨b, rpb (r1.rp e.tr) hb, k _ H1 (Same.refl _) (.bl _)⟩
def sIf (c : En → R Bool) (f g : En → R Val) : En → R Val := fun ρ => (c ρ).bind fun b => if b then f ρ else g ρ
theorem E_if {c a b : Expr} {tc : TT} {ta tb : TE} {t : En → R Bool} {f g : En → R Val} {pos : Pos} (hc : ST X xv W c tc t) (ha : SE X xv W a ta f) (hb : SE X xv W b tb g) : SE X xv W (.IfExp c a b pos) (tIf tc ta tb) (sIf t f g) := by
  obtain ⟨p0, q0⟩ := hc
  obtain ⟨p, q⟩ := ha
  obtain ⟨p2, q2⟩ := hb
  refine ⟨pe_ifExp p0 p p2, fun σ H ρ O Q e k => q0 σ H ρ O _ e (Gk.bind k fun x v H1 _ e1 r1 k => ?_)⟩
  subst r1
  cases v with
  | true => exact iteT (q σ H1 ρ O _ (e.same e1) (Gk.back e1 k))
  | false => exact iteF (q2 σ H1 ρ O _ (e.same e1) (Gk.back e1 k))

/-! ### subscripts -/
def RVo (o : Option D) : R Val := match o with
  | some d => .ok (.fr d)
  | none => .stuck
theorem Gk.opt {rel' : Hp → Hp → Val → V → Prop} {σ : L2.St} {H : Hp} {o : Option D} {Q : VK} (h : Gk X W rel' σ H (RVo o) Q) : ∃ d, o = some d ∧ Gk X W rel' σ H (.ok (.fr d)) Q := by
  cases o with
  | none => exact h.elim
  | some d => exact ⟨d, rfl, h⟩
def ixD : D → D → R Val
  | .lst xs, .int i => RVo (atI xs i)
  | .tup xs, .int i => RVo (atI xs i)
  | .rol xs, .int i => RVo (atI xs i)
  | .str z, .int i => RVo ((atI z.cps.toList i).map fun c => .str ⟨#[c]⟩)
  | _, _ => .stuck
def sIx (f g : En → R D) : En → R Val := fun ρ => (f ρ).bind fun x => (g ρ).bind fun y => ixD x y
theorem RpL.at {K : PySem.W.Frag} {H : Hp} {O : List Addr} {ds : List D} {vs : List V} {i : Int} {d : D} (h : RpL K H O ds vs) (e : atI ds i = some d) : ∃ v, atI vs i = some v ∧ Rp K H O d v := by
  unfold atI at e ⊢
  rw [← h.len]
  cases hj : ixN ds.length i with
  | none => rw [hj] at e; cases e
  | some j => rw [hj] at e; exact h.get e
theorem strG_one {z : Str} (h : strG z = true) {i : Int} {c : Nat} (e : atI z.cps.toList i = some c) : strG ⟨#[c]⟩ = true := by
  obtain ⟨j, _, hj, _⟩ := atI_get e
  have hm : c ∈ z.cps.toList := List.mem_of_getElem? hj
  have h2 := (Bool.and_eq_true_iff.mp h).2
  rw [← Array.all_toList, List.all_eq_true] at h2
  have h3 := h2 c hm
  show (decide ((1 : Nat) ≤ lB) && (#[c] : Array Nat).all (· < 0x110000)) = true
  rw [← Array.all_toList]
  simp at h3 ⊢
  exact ⟨by decide, h3⟩
theorem E_ix {a b : Expr} {t u : TE} {f g : En → R D} {pos : Pos} (ha : SQ X xv W a t f) (hb : SB X xv W b u g) (hs : PlainIx b := by intro _ _; rfl) : SE X xv W (.Subscript a b pos) (tOp (rIx X.K) t u) (sIx f g) := by
  obtain ⟨p, q⟩ := ha
  obtain ⟨p2, q2⟩ := hb
  refine ⟨pe_ix ix_seq p p2 hs, fun σ H ρ O Q e k => ?_⟩
  refine q σ H ρ O _ e (Gk.bind k fun x v H1 _ e1 r1 k => ?_)
  refine q2 σ H1 ρ O _ (e.same e1) (Gk.bind k fun y u H2 _ e2 r2 k => ?_)
  have r1 := r1.same e2
  cases y with
  | int i =>
    cases r2
    cases x with
    | lst xs =>
      obtain ⟨a1, vs, rfl, h1, z1, l1⟩ := r1
      obtain ⟨d, hi, k⟩ := Gk.opt (o := atI xs i) k
      obtain ⟨w, hw, rw'⟩ := l1.at hi
      exact .inl ⟨a1, vs, i, w, rfl, rfl, SqL.of h1, hw, k w H2 (Same.refl _) rw'⟩
    | tup xs =>
      cases r1 with
      | tup h1 z1 l1 =>
        obtain ⟨d, hi, k⟩ := Gk.opt (o := atI xs i) k
        obtain ⟨w, hw, rw'⟩ := l1.at hi
        exact .inr (.inl ⟨_, _, i, w, rfl, rfl, h1, hw, k w H2 (Same.refl _) rw'⟩)
    | rol xs =>
      cases r1 with
      | rol h1 z1 l1 =>
        obtain ⟨d, hi, k⟩ := Gk.opt (o := atI xs i) k
        obtain ⟨w, hw, rw'⟩ := l1.at hi
        exact .inl ⟨_, _, i, w, rfl, rfl, h1.sq, hw, k w H2 (Same.refl _) rw'⟩
    | str z =>
      cases r1 with
      | str _ g1 =>
        obtain ⟨d, hd, k⟩ := Gk.opt (o := (atI z.cps.toList i).map fun c => .str ⟨#[c]⟩) k
        obtain ⟨c, hi, rfl⟩ := Option.map_eq_some_iff.mp hd
        exact .inr (.inr ⟨z, i, c, rfl, rfl, lB_line (strG_len g1), hi, k _ H2 (Same.refl _) (.str _ (strG_one g1 hi))⟩)
    | _ => exact k.elim
  | _ => cases x <;> exact k.elim
end
end Lt

set_option Elab.async false
set_option linter.all false
set_option autoImplicit false
set_option maxRecDepth 100000
set_option maxHeartbeats 4000000
namespace Lt
open PySem PySem.Spec PyProof.Rows L2

/-! ### slots set and forgotten -/
def setS : L2.St → List Nat → List V → L2.St
  | σ, i :: is, v :: vs => setS (σ.set i (some v)) is vs
  | σ, _, _ => σ
def setE : En → List Nat → List D → En
  | ρ, i :: is, d :: ds => setE (ρ.set i (.fr d)) is ds
  | ρ, _, _ => ρ
def wipeE (ρ : En) : List Nat → En
  | [] => ρ
  | v :: vs => (wipeE ρ vs).set v .un
theorem wipe_get (σ : L2.St) (j : Nat) : ∀ vs : List Nat, (wipe σ vs)[j]? = if j ∈ vs ∧ j < σ.length then some none else σ[j]?
  | [] => by simp [wipe]
  | v :: vs => by
    unfold wipe
    have ih := wipe_get σ j vs
    by_cases h : v = j
    · subst h
      by_cases hl : v < σ.length
      · rw [List.getElem?_set_self (by rw [wipe_length]; exact hl), if_pos ⟨List.mem_cons_self, hl⟩]
      · rw [List.getElem?_eq_none (by rw [List.length_set, wipe_length]; omega), if_neg (fun q => hl q.2), List.getElem?_eq_none (by omega)]
    · rw [List.getElem?_set_ne h, ih]
      have : (j ∈ v :: vs) ↔ j ∈ vs := by
        rw [List.mem_cons]
        exact ⟨fun q => q.elim (fun q => absurd q.symm h) id, .inr⟩
      simp only [this]
theorem wipe_set {σ : L2.St} {vs : List Nat} {i : Nat} (h : i ∈ vs) (x : Option V) : wipe (σ.set i x) vs = wipe σ vs := by
  apply List.ext_getElem?
  intro j
  rw [wipe_get, wipe_get, List.length_set]
  by_cases hj : i = j
  · subst hj
    by_cases hl : i < σ.length
    · rw [if_pos ⟨h, hl⟩, if_pos ⟨h, hl⟩]
    · rw [if_neg (fun q => hl q.2), if_neg (fun q => hl q.2), List.getElem?_eq_none (by rw [List.length_set]; omega), List.getElem?_eq_none (by omega)]
  · rw [List.getElem?_set_ne hj]
theorem wipe_setS {vs : List Nat} : ∀ (is : List Nat) (xs : List V) (σ : L2.St), (∀ i ∈ is, i ∈ vs) → wipe (setS σ is xs) vs = wipe σ vs
  | [], _, _, _ => by simp [setS]
  | i :: is, [], _, _ => by simp [setS]
  | i :: is, x :: xs, σ, h => by
    rw [setS, wipe_setS is xs _ fun j q => h j (List.mem_cons_of_mem _ q), wipe_set (h i List.mem_cons_self)]
theorem wipe_wipe (σ : L2.St) (vs : List Nat) : wipe (wipe σ vs) vs = wipe σ vs := by
  apply List.ext_getElem?
  intro j
  rw [wipe_get, wipe_get, wipe_length]
  split <;> simp_all
theorem setS_append : ∀ (is js : List Nat) (xs ys : List V) (σ : L2.St), xs.length = is.length → setS σ (is ++ js) (xs ++ ys) = setS (setS σ is xs) js ys
  | [], _, [], _, _, _ => by simp [setS]
  | [], _, _ :: _, _, _, h => by simp at h
  | i :: is, _, [], _, _, h => by simp at h
  | i :: is, js, x :: xs, ys, σ, h => by
    rw [List.cons_append, List.cons_append, setS, setS, setS_append is js xs ys _ (by simpa using h)]
theorem setE_append : ∀ (is js : List Nat) (xs ys : List D) (ρ : En), xs.length = is.length → setE ρ (is ++ js) (xs ++ ys) = setE (setE ρ is xs) js ys
  | [], _, [], _, _, _ => by simp [setE]
  | [], _, _ :: _, _, _, h => by simp at h
  | i :: is, _, [], _, _, h => by simp at h
  | i :: is, js, x :: xs, ys, σ, h => by
    rw [List.cons_append, List.cons_append, setE, setE, setE_append is js xs ys _ (by simpa using h)]
section
variable {K : PySem.W.Frag} {xv : XV} {H H' : Hp} {O : List Addr} {ρ : En} {σ : L2.St}
theorem ER.set (h : ER K xv O ρ σ H) (i : Nat) {s : Slot} {o : Option V} (r : SlotR K H O s o) (hf : xvFree xv i = true := by rfl) : ER K xv O (ρ.set i s) (σ.set i o) H := by
  refine ⟨by rw [List.length_set, List.length_set]; exact h.len, h.tr, h.ex.set hf _, fun j s' o' h1 h2 => ?_⟩
  by_cases e : i = j
  · subst e
    have hi : i < ρ.length := by
      have := (List.getElem?_eq_some_iff.mp h1).1
      rwa [List.length_set] at this
    rw [List.getElem?_set_self hi] at h1
    rw [List.getElem?_set_self (by rw [← h.len]; exact hi)] at h2
    cases h1; cases h2
    exact r
  · rw [List.getElem?_set_ne e] at h1 h2
    exact h.sl j s' o' h1 h2
theorem ER.wipe (h : ER K none O ρ σ H) : ∀ vs : List Nat, ER K none O (wipeE ρ vs) (L2.wipe σ vs) H
  | [] => h
  | v :: vs => (ER.wipe h vs).set v (s := .un) trivial
theorem ER.setAll : ∀ {is : List Nat} {ds : List D} {vs : List V} {ρ : En} {σ : L2.St}, ER K none O ρ σ H → RpL K H O ds vs → ER K none O (setE ρ is ds) (setS σ is vs) H
  | [], _, _, _, _, h, _ => by simpa [setE, setS] using h
  | i :: is, _, _, _, _, h, .nil => by simpa [setE, setS] using h
  | i :: is, _, _, _, _, h, .cons r rs => by
    rw [setE, setS]
    exact ER.setAll (h.set i (s := .fr _) ⟨_, rfl, r⟩) rs
/-- one more address that is not to be met -/
theorem ER.grow {b : Addr} (h : ER K xv O ρ σ H) (n : H b = none) (e : Same H H') (t : ∃ o, H' b = some o) : ER K xv (b :: O) ρ σ H' := by
  refine ⟨h.len, fun a q => ?_, h.ex, fun i s o h1 h2 => ?_⟩
  · rcases List.mem_cons.mp q with q | q
    · subst q; exact t
    · obtain ⟨o, z⟩ := h.tr a q
      exact ⟨o, e _ _ z⟩
  · have r := h.sl i s o h1 h2
    cases s with
    | un => trivial
    | fr d => obtain ⟨v, h1, h2⟩ := r; exact ⟨v, h1, (h2.add n).same e⟩
    | ow xs => obtain ⟨a, vs, h1, h2, h3, z, h4⟩ := r; exact ⟨a, vs, h1, List.mem_cons_of_mem _ h2, e _ _ h3, z, (h4.add n).same e⟩
end

/-! ### targets -/
section
variable (X : Cx)
def SG (tg : Expr) (g : TG) (is : List Nat) (b : D → R (List D)) : Prop := PG X tg g ∧ (∀ d ds, b d = .ok ds → ds.length = is.length) ∧
  ∀ d v σ H O Q ds, Rp X.K H O d v → b d = .ok ds → (∀ vs, RpL X.K H O ds vs → Q (setS σ is vs) H) → g v σ H Q
def SGs (tg : List Expr) (g : TGs) (n : Nat) (is : List Nat) (b : List D → R (List D)) : Prop := PGs X tg g ∧ (∀ d ds, b d = .ok ds → ds.length = is.length ∧ d.length = n) ∧
  ∀ d v σ H O Q ds, RpL X.K H O d v → b d = .ok ds → (∀ vs, RpL X.K H O ds vs → Q (setS σ is vs) H) → g v σ H Q
end
def bName (d : D) : R (List D) := .ok [d]
def bNil : List D → R (List D)
  | [] => .ok []
  | _ => .stuck
def bCons (b : D → R (List D)) (c : List D → R (List D)) : List D → R (List D)
  | d :: r => (b d).bind fun x => (c r).bind fun y => .ok (x ++ y)
  | _ => .stuck
def bTup (c : List D → R (List D)) : D → R (List D)
  | .tup ds => c ds
  | _ => .stuck
theorem R.bind_ok {α β : Type} {r : R α} {g : α → R β} {y : β} (h : r.bind g = .ok y) : ∃ x, r = .ok x ∧ g x = .ok y := by
  cases r with
  | ok x => exact ⟨x, rfl, h⟩
  | exc c => cases h
  | stuck => cases h
section
variable {X : Cx} {xv : XV} {W : WX}
theorem G_name {i : Nat} {x : Str} {pos : Pos} (p : PG X (.Name x pos) (gName i)) : SG X (.Name x pos) (gName i) [i] bName := by
  refine ⟨p, fun d ds e => by cases e; rfl, fun d v σ H O Q ds r e k => ?_⟩
  cases e
  exact k [v] (.cons r .nil)
theorem Gs_nil : SGs X [] gNil 0 [] bNil := by
  refine ⟨pgs_nil, fun d ds e => ?_, fun d v σ H O Q ds r e k => ?_⟩
  · cases d with
    | nil => cases e; exact ⟨rfl, rfl⟩
    | cons _ _ => cases e
  · cases r with
    | nil => cases e; exact ⟨rfl, k [] .nil⟩
    | cons _ _ => cases e
theorem Gs_cons {e : Expr} {es : List Expr} {t : TG} {u : TGs} {n : Nat} {is js : List Nat} {b : D → R (List D)} {c : List D → R (List D)} (h1 : SG X e t is b) (h2 : SGs X es u n js c)
    (hs : (assignEach (e :: es) X.env).map (·.2) = assign e X.env :: (assignEach es X.env).map (·.2) := by rfl) : SGs X (e :: es) (gCons t u) (n + 1) (is ++ js) (bCons b c) := by
  obtain ⟨p, l, q⟩ := h1
  obtain ⟨p2, l2, q2⟩ := h2
  refine ⟨pgs_cons p p2 hs, fun d ds e => ?_, fun d v σ H O Q ds r e k => ?_⟩
  · cases d with
    | nil => cases e
    | cons d ds' =>
      obtain ⟨x, hx, e⟩ := R.bind_ok e
      obtain ⟨y, hy, e⟩ := R.bind_ok e
      cases e
      rw [List.length_append, List.length_append, l _ _ hx, (l2 _ _ hy).1, List.length_cons, (l2 _ _ hy).2]
      exact ⟨rfl, rfl⟩
  · cases r with
    | nil => cases e
    | cons r rs =>
      obtain ⟨x, hx, e⟩ := R.bind_ok e
      obtain ⟨y, hy, e⟩ := R.bind_ok e
      cases e
      refine ⟨_, _, rfl, q _ _ σ H O _ x r hx fun ws rw => ?_⟩
      refine q2 _ _ _ H O _ y rs hy fun zs rz => ?_
      have := k (ws ++ zs) (rw.append rz)
      rwa [setS_append is js ws zs σ (by rw [← rw.len, l _ _ hx])] at this
theorem G_tup {es : List Expr} {kk : Nat} {pos : Pos} {t : TGs} {n : Nat} {is : List Nat} {c : List D → R (List D)} (hc : X.calm = true) (h : SGs X es t n is c)
    (hn : (assignEach es X.env).length = n := by rfl) (hst : (assignEach es X.env).findIdx? (·.1) = none := by rfl) : SG X (.Tuple es kk pos) (gTup X.K n t) is (bTup c) := by
  obtain ⟨p, l, q⟩ := h
  refine ⟨pg_tup hc p hn hst, fun d ds e => ?_, fun d v σ H O Q ds r e k => ?_⟩
  · cases d with
    | tup xs => exact (l _ _ e).1
    | _ => cases e
  · cases r with
    | tup h z r => exact ⟨_, _, rfl, h, by rw [← r.len]; exact (l _ _ e).2, q _ _ σ H O Q ds r e k⟩
    | _ => cases e

/-! ### what is walked -/
abbrev Stn := List Addr → Hp → Hp → Prop
def stS : Stn := fun _ H H' => Same H H'
def SIt (X : Cx) (xv : XV) (W : WX) (st : Stn) (tg py : Expr) (wi : TI) (f : En → R (List D)) : Prop := PI X tg py wi ∧ ∀ σ H ρ O Rr, ER X.K xv O ρ σ H →
  (match f ρ with
    | .ok xs => xs.length ≤ lB → ∀ J H1 G Y, Same H H1 → Walk J xs.length G Y → (∀ H', st O H1 H' → G H') →
      (∀ i H2 x H3, st O H1 H2 → Y i H2 x H3 → Same H2 H3 ∧ ∀ d, xs[i]? = some d → ∀ O2, (∀ a ∈ O2, a ∈ O ∨ H1 a = none) → Rp X.K H3 O2 d x) → Rr J H1
    | .exc c => ∀ H' C, Same H H' → X.mg c = some C → W C none σ H'
    | .stuck => False) → wi σ H Rr
theorem PI.or {tg e : Expr} {w1 w2 : TI} (h1 : PI X tg e w1) (h2 : PI X tg e w2) : PI X tg e (fun σ H R => w1 σ H R ∨ w2 σ H R) :=
  ⟨fun pins s σ H R I h => h.elim (h1.run pins s σ H R I) (h2.run pins s σ H R I)⟩
theorem Rp.addAll {K : PySem.W.Frag} {H1 H3 : Hp} {O O2 : List Addr} {d : D} {v : V} (r : Rp K H1 O d v) (h : ∀ a ∈ O2, a ∈ O ∨ H1 a = none) (e : Kp O H1 H3) : Rp K H3 O2 d v := by
  have go : ∀ (N : List Addr), (∀ a ∈ N, H1 a = none) → Rp K H1 (N ++ O) d v := by
    intro N
    induction N with
    | nil => intro _; exact r
    | cons a N ih => intro q; exact (ih fun b z => q b (List.mem_cons_of_mem _ z)).add (q a List.mem_cons_self)
  have r2 := go (O2.filter fun a => decide (H1 a = none)) fun a q => by simpa using (List.mem_filter.mp q).2
  refine r2.mono (fun b o hb q => e b o hb ?_) fun a q => ?_
  · rcases q with q | q
    · exact .inl fun z => q (List.mem_append_right _ z)
    · exact .inr q
  · rcases h a q with z | z
    · exact List.mem_append_right _ z
    · exact List.mem_append_left _ (List.mem_filter.mpr ⟨q, by simpa using z⟩)
def iSeq (K : PySem.W.Frag) (t : TE) : TI := fun σ H R => iList K t σ H R ∨ iTup K t σ H R ∨ iStr t σ H R
def itemsD : D → R (List D)
  | .lst xs => .ok xs
  | .tup xs => .ok xs
  | .rol xs => .ok xs
  | .str z => .ok (z.cps.toList.map fun c => .str ⟨#[c]⟩)
  | _ => .stuck
def sItems (f : En → R D) : En → R (List D) := fun ρ => (f ρ).bind itemsD
theorem strG_sign {z : Str} (h : strG z = true) {i : Nat} {c : Nat} (e : z.cps[i]? = some c) : strG ⟨#[c]⟩ = true := by
  have : z.cps.toList[i]? = some c := by rw [Array.getElem?_toList]; exact e
  exact strG_one (i := (i : Nat)) h (atI_nat this)
/-- the walk of a thing whose reading is t; M says what stays -/
theorem it_core {tg py : Expr} {t : TE} {f : En → R D} {st : Stn} {σ : L2.St} {H : Hp} {ρ : En} {O : List Addr} {Rr : It → Hp → Prop} (e : ER X.K xv O ρ σ H)
    (q : ∀ σ H ρ O Q, ER X.K xv O ρ σ H → Gk X W (fun _ H' => RQ X.K H' O) σ H (f ρ) Q → t σ H Q)
    (hl : ∀ a xs vs H1 H2, f ρ = .ok (.lst xs) → H1 a = some (.lst vs) → Same H H1 → st O H1 H2 → H2 a = some (.lst vs)) (hK : ∀ H1 H2, st O H1 H2 → Kp O H1 H2)
    (k : match sItems f ρ with
    | .ok xs => xs.length ≤ lB → ∀ J H1 G Y, Same H H1 → Walk J xs.length G Y → (∀ H', st O H1 H' → G H') →
      (∀ i H2 x H3, st O H1 H2 → Y i H2 x H3 → Same H2 H3 ∧ ∀ d, xs[i]? = some d → ∀ O2, (∀ a ∈ O2, a ∈ O ∨ H1 a = none) → Rp X.K H3 O2 d x) → Rr J H1
    | .exc c => ∀ H' C, Same H H' → X.mg c = some C → W C none σ H'
    | .stuck => False) : iSeq X.K t σ H Rr := by
  cases hf : f ρ with
  | stuck => unfold sItems at k; rw [hf] at k; exact k.elim
  | exc c =>
    unfold sItems at k; rw [hf] at k
    exact .inl (q σ H ρ O _ e (by rw [hf]; exact k))
  | ok d =>
    unfold sItems at k; rw [hf] at k
    cases d with
    | lst xs =>
      refine .inl (q σ H ρ O _ e ?_)
      rw [hf]
      intro v H1 e1 r1
      obtain ⟨a, vs, rfl, h1, z1, l1⟩ := r1
      refine ⟨a, rfl, ⟨vs, SqL.of h1⟩, ?_⟩
      have hlen : xs.length = vs.length := l1.len
      refine k (by rw [hlen]; exact z1) _ H1 _ _ e1 (by rw [hlen]; exact walk_list (a := a) (xs := vs)) (fun H' s => SqL.of (hl a xs vs H1 H' hf h1 e1 s)) fun i H2 x H3 s y => ?_
      obtain ⟨rfl, hx⟩ := y
      refine ⟨Same.refl _, fun d hd O2 ho => ?_⟩
      obtain ⟨w, hw, r⟩ := l1.get hd
      rw [hx] at hw; cases hw
      exact r.addAll ho (hK _ _ s)
    | tup xs =>
      refine .inr (.inl (q σ H ρ O _ e ?_))
      rw [hf]
      intro v H1 e1 r1
      cases r1 with
      | tup h1 z1 l1 =>
        rename_i a vs
        refine ⟨a, rfl, ⟨vs, h1⟩, ?_⟩
        have hlen : xs.length = vs.length := l1.len
        refine k (by rw [hlen]; exact z1) _ H1 _ _ e1 (by rw [hlen]; exact walk_tup (a := a) (xs := vs)) (fun H' s => (hK _ _ s).sqT h1) fun i H2 x H3 s y => ?_
        obtain ⟨rfl, hx⟩ := y
        refine ⟨Same.refl _, fun d hd O2 ho => ?_⟩
        obtain ⟨w, hw, r⟩ := l1.get hd
        rw [hx] at hw; cases hw
        exact r.addAll ho (hK _ _ s)
    | rol xs =>
      refine .inl (q σ H ρ O _ e ?_)
      rw [hf]
      intro v H1 e1 r1
      cases r1 with
      | rol h1 z1 l1 =>
        rename_i a vs
        refine ⟨a, rfl, ⟨vs, h1.sq⟩, ?_⟩
        have hlen : xs.length = vs.length := l1.len
        refine k (by rw [hlen]; exact z1) _ H1 _ _ e1 (by rw [hlen]; exact walk_list (a := a) (xs := vs)) (fun H' s => ((hK _ _ s).roL h1).sq) fun i H2 x H3 s y => ?_
        obtain ⟨rfl, hx⟩ := y
        refine ⟨Same.refl _, fun d hd O2 ho => ?_⟩
        obtain ⟨w, hw, r⟩ := l1.get hd
        rw [hx] at hw; cases hw
        exact r.addAll ho (hK _ _ s)
    | str z =>
      refine .inr (.inr (q σ H ρ O _ e ?_))
      rw [hf]
      intro v H1 e1 r1
      cases r1 with
      | str _ g1 =>
        refine ⟨z, rfl, ?_⟩
        have hlen : (z.cps.toList.map fun c => D.str ⟨#[c]⟩).length = z.cps.size := by simp
        refine k (by rw [hlen]; exact strG_len g1) _ H1 _ _ e1 (by rw [hlen]; exact walk_str (z := z)) (fun _ _ => trivial) fun i H2 x H3 s y => ?_
        obtain ⟨rfl, c, hc, rfl⟩ := y
        refine ⟨Same.refl _, fun d hd O2 ho => ?_⟩
        rw [List.getElem?_map, Array.getElem?_toList, hc] at hd
        cases hd
        exact .str _ (strG_sign g1 hc)
    | _ => exact k.elim
/-- a thing that may escape: the lists at O do not matter -/
theorem It_P {tg py : Expr} {t : TE} {f : En → R Val} (h : SE X xv W py t f) : SIt X xv W Kp tg py (iSeq X.K t) (sItems (sB f)) := by
  have hp : PE X py t := h.1
  refine ⟨PI.or (pi_list hp) (PI.or (pi_tup hp) (pi_str hp)), fun σ H ρ O Rr e k => ?_⟩
  -- by the result's own kind: its address is not one of O
  unfold sItems at k
  cases hf : f ρ with
  | stuck => unfold sB at k; rw [hf] at k; exact k.elim
  | exc c =>
    unfold sB at k; rw [hf] at k
    exact .inl (h.2 σ H ρ O _ e (by rw [hf]; exact k))
  | ok x =>
    cases hd : x.d with
    | lst xs =>
      refine .inl (h.2 σ H ρ O _ e ?_)
      rw [hf]
      intro v H1 e1 r1
      have r1 := r1.rp e.tr
      rw [hd] at r1
      cases r1 with
      | lst h1 n1 z1 l1 =>
        rename_i a vs
        refine ⟨a, rfl, ⟨vs, SqL.of h1⟩, ?_⟩
        have hlen : xs.length = vs.length := l1.len
        have k : xs.length ≤ lB → ∀ J H1 G Y, Same H H1 → Walk J xs.length G Y → (∀ H', Kp O H1 H' → G H') →
          (∀ i H2 x H3, Kp O H1 H2 → Y i H2 x H3 → Same H2 H3 ∧ ∀ d, xs[i]? = some d → ∀ O2, (∀ a ∈ O2, a ∈ O ∨ H1 a = none) → Rp X.K H3 O2 d x) → Rr J H1 := by
          have k' := k
          unfold sB at k'
          rw [hf] at k'
          simp only [mapR, hd] at k'
          exact k'
        refine k (by rw [hlen]; exact z1) _ H1 _ _ e1 (by rw [hlen]; exact walk_list (a := a) (xs := vs)) (fun H' s => SqL.of (s _ _ h1 (.inl n1))) fun i H2 x H3 s y => ?_
        obtain ⟨rfl, hx⟩ := y
        refine ⟨Same.refl _, fun d hd O2 ho => ?_⟩
        obtain ⟨w, hw, r⟩ := l1.get hd
        rw [hx] at hw; cases hw
        exact r.addAll ho s
    | _ => exact it_core (st := Kp) (f := sB f) (tg := tg) (py := py) e (SE.q h).2 (fun a xs vs H1 H2 z => by unfold sB at z; rw [hf] at z; simp only [mapR, hd] at z; cases z) (fun _ _ s => s) k
/-- a thing that is walked while nothing changes (a comprehension) -/
theorem It_Q {tg py : Expr} {t : TE} {f : En → R D} (h : SQ X xv W py t f) : SIt X xv W stS tg py (iSeq X.K t) (sItems f) := by
  have hp : PE X py t := h.1
  exact ⟨PI.or (pi_list hp) (PI.or (pi_tup hp) (pi_str hp)), fun σ H ρ O Rr e k => it_core (st := stS) (tg := tg) (py := py) e h.2 (fun a xs vs H1 H2 _ h1 _ s => s _ _ h1) (fun _ _ s => Kp.of s) k⟩
theorem SIt.s {tg py : Expr} {wi : TI} {f : En → R (List D)} (h : SIt X xv W Kp tg py wi f) : SIt X xv W stS tg py wi f := by
  refine ⟨h.1, fun σ H ρ O Rr e k => h.2 σ H ρ O Rr e ?_⟩
  cases hf : f ρ with
  | stuck => rw [hf] at k; exact k
  | exc c => rw [hf] at k; exact k
  | ok xs =>
    rw [hf] at k
    exact fun hl J H1 G Y e1 w g y => k hl J H1 G Y e1 w (fun H' s => g H' (Kp.of s)) fun i H2 x H3 s z => y i H2 x H3 (Kp.of s) z
end
end Lt

set_option Elab.async false
set_option linter.all false
set_option autoImplicit false
set_option maxRecDepth 100000
set_option maxHeartbeats 4000000
namespace Lt
open PySem PySem.Spec PyProof.Rows L2
section
variable {X : Cx} {xv : XV} {W : WX}

/-! ### [f for tg in it if c] -/
def lcLoop (is : List Nat) (b : D → R (List D)) (c : En → R Bool) (f : En → R Val) (ρ : En) : List D → R (List D)
  | [] => .ok []
  | x :: xs => match b x with
    | .ok ds => match c (setE ρ is ds) with
      | .ok true => match f (setE ρ is ds) with
        | .ok y => (lcLoop is b c f ρ xs).bind fun ys => .ok (y.d :: ys)
        | _ => .stuck
      | .ok false => lcLoop is b c f ρ xs
      | _ => .stuck
    | _ => .stuck
theorem lcLoop_noexc {is : List Nat} {b : D → R (List D)} {c : En → R Bool} {f : En → R Val} {ρ : En} {e : Str} : ∀ xs : List D, lcLoop is b c f ρ xs ≠ .exc e
  | [] => fun h => by cases h
  | x :: xs => fun h => by
    have ih := lcLoop_noexc (is := is) (b := b) (c := c) (f := f) (ρ := ρ) (e := e) xs
    unfold lcLoop at h
    split at h
    · split at h
      · split at h
        · cases hr : lcLoop is b c f ρ xs with
          | ok ys => rw [hr] at h; cases h
          | exc c => rw [hr] at h; cases h; exact ih hr
          | stuck => rw [hr] at h; cases h
        · cases h
      · exact ih h
      · cases h
    · cases h
def sLc (it : En → R (List D)) (own is : List Nat) (b : D → R (List D)) (c : En → R Bool) (f : En → R Val) : En → R Val := fun ρ => (it ρ).bind fun xs => grd (decide (xs.length ≤ lB)) ((lcLoop is b c f (wipeE ρ own) xs).bind fun ys => .ok (.nw ys))
def tYs : En → R Bool := fun _ => .ok true
def SPT (X : Cx) (xv : XV) (W : WX) (ifs : List Expr) (t : TT) (f : En → R Bool) : Prop := PTs X ifs t ∧ ∀ σ H ρ O Q, ER X.K xv O ρ σ H → Gk X W (fun _ _ (b c : Bool) => c = b) σ H (f ρ) Q → t σ H Q
theorem P_nil : SPT X xv W [] tYes tYs := ⟨pts_nil, fun σ H ρ O Q e k => k true H (Same.refl _) rfl⟩
theorem P_one {c : Expr} {t : TT} {f : En → R Bool} (h : ST X xv W c t f) : SPT X xv W [c] t f := ⟨pts_one h.1, h.2⟩
abbrev W0 : WX := fun _ _ _ _ => False
/-! ### readings that hang on what is computed alone -/
def tcE (X : Cx) (xv : XV) (W : WX) (f : En → R Val) : TE := fun σ H Q => ∃ ρ O, ER X.K xv O ρ σ H ∧ Gk X W (fun H H' => RV X.K H H' O) σ H (f ρ) Q
def tcT (X : Cx) (xv : XV) (W : WX) (f : En → R Bool) : TT := fun σ H Q => ∃ ρ O, ER X.K xv O ρ σ H ∧ Gk X W (fun _ _ (b c : Bool) => c = b) σ H (f ρ) Q
def tcG (X : Cx) (is : List Nat) (b : D → R (List D)) : TG := fun v σ H Q => ∃ d O ds, Rp X.K H O d v ∧ b d = .ok ds ∧ ∀ vs, RpL X.K H O ds vs → Q (setS σ is vs) H
theorem PE.wk {py : Expr} {t t' : TE} (p : PE X py t) (h : ∀ σ H Q, t' σ H Q → t σ H Q) : PE X py t' := ⟨fun pins s σ H Q I q => p.run pins s σ H Q I (h σ H Q q)⟩
theorem PTs.wk {py : List Expr} {t t' : TT} (p : PTs X py t) (h : ∀ σ H Q, t' σ H Q → t σ H Q) : PTs X py t' := ⟨fun pins s σ H Q I q => p.run pins s σ H Q I (h σ H Q q)⟩
theorem PG.wk {py : Expr} {t t' : TG} (p : PG X py t) (h : ∀ v σ H Q, t' v σ H Q → t v σ H Q) : PG X py t' := ⟨fun pins s σ H v u Q I r q => p.run pins s σ H v u Q I r (h v σ H Q q)⟩
theorem PSs.wk {py : List Stmt} {t t' : TS} (p : PSs X py t) (h : ∀ D σ H, t' D σ H → t D σ H) : PSs X py t' := ⟨fun pins s σ H D I q => p.run pins s σ H D I (h D σ H q)⟩
theorem SE.can {py : Expr} {f : En → R Val} (h : ∃ t, SE X xv W py t f) : SE X xv W py (tcE X xv W f) f :=
  let ⟨_, p, q⟩ := h; ⟨PE.wk p fun σ H Q ⟨ρ, O, e, g⟩ => q σ H ρ O Q e g, fun σ H ρ O Q e g => ⟨ρ, O, e, g⟩⟩
theorem SPT.can {py : List Expr} {f : En → R Bool} (h : ∃ t, SPT X xv W py t f) : SPT X xv W py (tcT X xv W f) f :=
  let ⟨_, p, q⟩ := h; ⟨PTs.wk p fun σ H Q ⟨ρ, O, e, g⟩ => q σ H ρ O Q e g, fun σ H ρ O Q e g => ⟨ρ, O, e, g⟩⟩
theorem SG.can {tg : Expr} {is : List Nat} {b : D → R (List D)} (h : ∃ g, SG X tg g is b) : SG X tg (tcG X is b) is b :=
  let ⟨_, p, l, q⟩ := h; ⟨PG.wk p fun v σ H Q ⟨d, O, ds, r, hb, k⟩ => q d v σ H O Q ds r hb k, l, fun d v σ H O Q ds r hb k => ⟨d, O, ds, r, hb, k⟩⟩
theorem E_lcU {elt tg iter : Expr} {ifs : List Expr} {scope : Scope} {own : List (Str × Nat)} {pos : Pos} {wi : TI} {g : TG} {tt : TT} {te : TE} {fi : En → R (List D)} {is : List Nat} {b : D → R (List D)} {c : En → R Bool} {f : En → R Val}
    (hc : X.calm = true) (hN : X.N.Nodup) (hi : SIt X none W stS tg iter wi fi) (ok : BlkOk X.N X.env.scope scope own)
    (hg : ∀ (s : Shared) (H : Hp) (C : Addr) (cl : List (Str × Addr)) (fp : List Addr), SG (X.blk s H scope (compEnvC scope cl C X.env) fp) tg g is b)
    (ht : ∀ (s : Shared) (H : Hp) (C : Addr) (cl : List (Str × Addr)) (fp : List Addr), SPT (X.blk s H scope (compEnvC scope cl C X.env) fp) none W0 ifs tt c)
    (he : ∀ (s : Shared) (H : Hp) (C : Addr) (cl : List (Str × Addr)) (fp : List Addr), SE (X.blk s H scope (compEnvC scope cl C X.env) fp) none W0 elt te f)
    (hin : is.all (fun i => (own.map (·.2)).contains i) = true := by decide) (hs : ∀ x, foldedSetIterable iter X.env x = pure x := by intro _; rfl) :
    SE X none W (.ListComp elt [⟨tg, iter, ifs, 0⟩] scope pos) (tLc wi g tt te (own.map (·.2))) (sLc fi (own.map (·.2)) is b c f) := by
  refine ⟨pe_lc hc hN hi.1 ok (fun s H C cl fp => (hg s H C cl fp).1) (fun s H C cl fp => (ht s H C cl fp).1) (fun s H C cl fp => (he s H C cl fp).1) hs, fun σ H ρ O Q e k => ?_⟩
  refine hi.2 σ H ρ O _ e ?_
  unfold sLc at k
  cases hf : fi ρ with
  | stuck => rw [hf] at k; exact k.elim
  | exc cc => rw [hf] at k; exact k
  | ok xs =>
    rw [hf] at k
    have k : Gk X W (fun H H' => RV X.K H H' O) σ H (grd (decide (xs.length ≤ lB)) ((lcLoop is b c f (wipeE ρ (own.map (·.2))) xs).bind fun ys => .ok (.nw ys))) Q := k
    obtain ⟨hlen, k⟩ := Gk.grd k
    have hlen : xs.length ≤ lB := of_decide_eq_true hlen
    intro _ J H1 G Y e1 w hG hY Dn hD
    cases hr : lcLoop is b c f (wipeE ρ (own.map (·.2))) xs with
    | stuck => rw [hr] at k; exact k.elim
    | exc cc => exact absurd hr (lcLoop_noexc xs)
    | ok ys =>
      rw [hr] at k
      have hin' : ∀ i ∈ is, i ∈ own.map (·.2) := fun i q => by
        have := List.all_eq_true.mp hin i q
        simpa using this
      refine lc_it (n := xs.length) w (fun i H' => Same H1 H' ∧ ∃ acc ds rest, H' Dn = some (.lst acc) ∧ RpL X.K H' (Dn :: O) ds acc ∧ acc.length ≤ i ∧ lcLoop is b c f (wipeE ρ (own.map (·.2))) (xs.drop i) = .ok rest ∧ ds ++ rest = ys)
        ⟨same_new hD, [], [], ys, upd_same, .nil, Nat.le_refl _, hr, rfl⟩ (fun i H' _ p => hG H' p.1) (fun i x H2 H3 hi p hy => ?_) (fun H' p => ?_)
      · obtain ⟨s2, acc, ds, rest, h1, h2, h3, h4, h5⟩ := p
        obtain ⟨s3, hx⟩ := hY i H2 x H3 s2 hy
        have hd : xs[i]? = some xs[i] := List.getElem?_eq_getElem hi
        have rx := hx _ hd (Dn :: O) fun a q => (List.mem_cons.mp q).elim (fun q => .inr (by rw [q]; exact hD)) .inl
        have hdrop : xs.drop i = xs[i] :: xs.drop (i + 1) := List.drop_eq_getElem_cons hi
        rw [hdrop] at h4
        unfold lcLoop at h4
        have s13 : Same H1 H3 := s2.trans s3
        have hD3 : H3 Dn = some (.lst acc) := s3 _ _ h1
        have eW : ER X.K none (Dn :: O) (wipeE ρ (own.map (·.2))) (wipe σ (own.map (·.2))) H3 := ((e.same e1).grow hD s13 ⟨_, hD3⟩).wipe _
        cases hb : b xs[i] with
        | stuck => rw [hb] at h4; cases h4
        | exc cc => rw [hb] at h4; cases h4
        | ok vs =>
          rw [hb] at h4
          have G0 := hg X.s_0 H3 0 [] []
          refine G0.2.2 _ x _ H3 (Dn :: O) _ vs rx hb fun ws rw' => ⟨by rw [wipe_setS is ws _ hin', wipe_wipe], ?_⟩
          have eT : ER X.K none (Dn :: O) (setE (wipeE ρ (own.map (·.2))) is vs) (setS (wipe σ (own.map (·.2))) is ws) H3 := eW.setAll rw'
          have T0 := ht X.s_0 H3 0 [] []
          refine T0.2 _ H3 _ (Dn :: O) _ eT ?_
          cases hc2 : c (setE (wipeE ρ (own.map (·.2))) is vs) with
          | stuck => simp only [hc2] at h4; cases h4
          | exc cc => simp only [hc2] at h4; cases h4
          | ok t =>
            simp only [hc2] at h4
            intro t' H4 s4 et
            subst et
            have s14 := s13.trans s4
            have hD4 : H4 Dn = some (.lst acc) := s4 _ _ hD3
            cases t' with
            | false =>
              refine iteF ⟨s14, acc, ds, rest, hD4, h2.same (s3.trans s4), by omega, h4, h5⟩
            | true =>
              refine iteT ?_
              have E0 := he X.s_0 H4 0 [] []
              refine E0.2 _ H4 _ (Dn :: O) _ (eT.same s4) ?_
              cases hfe : f (setE (wipeE ρ (own.map (·.2))) is vs) with
              | stuck => simp only [hfe] at h4; cases h4
              | exc cc => simp only [hfe] at h4; cases h4
              | ok y =>
                simp only [hfe] at h4
                intro v H5 s5 rv
                have hD5 : H5 Dn = some (.lst acc) := s5 _ _ hD4
                obtain ⟨rest', hr', h4⟩ := R.bind_ok h4
                cases h4
                refine ⟨acc, hD5, lB_lt (by omega), ?_, acc ++ [v], ds ++ [y.d], rest', upd_same, ?_, by rw [List.length_append]; show acc.length + 1 ≤ i + 1; omega, hr', by rw [← h5, List.append_assoc]; rfl⟩
                · intro bb o q
                  have hb2 : bb ≠ Dn := ne_of_none q hD
                  rw [upd_ne hb2]
                  exact (s14.trans s5) _ _ q
                · have kp : Kp (Dn :: O) H5 (upd H5 Dn (.lst (acc ++ [v]))) := fun bb o q z => by
                    by_cases hb2 : bb = Dn
                    · subst hb2
                      rw [hD5] at q
                      cases q
                      rcases z with z | z
                      · exact absurd List.mem_cons_self z
                      · cases z
                    · rw [upd_ne hb2]; exact q
                  refine ((h2.same ((s3.trans s4).trans s5)).append (.cons (rv.rp fun a q => ?_) .nil)).mono kp fun _ q => q
                  rcases List.mem_cons.mp q with q | q
                  · subst q; exact ⟨_, hD4⟩
                  · obtain ⟨o, z⟩ := e.tr a q
                    exact ⟨o, s14 _ _ (e1 _ _ z)⟩
      · obtain ⟨s2, acc, ds, rest, h1, h2, h3, h4, h5⟩ := p
        rw [List.drop_length] at h4
        cases h4
        rw [List.append_nil] at h5
        subst h5
        exact k (.ref Dn) H' (e1.trans s2) ⟨Dn, acc, rfl, e1.free hD, h1, by omega, h2⟩
theorem E_lc {elt tg iter : Expr} {ifs : List Expr} {scope : Scope} {own : List (Str × Nat)} {pos : Pos} {wi : TI} {fi : En → R (List D)} {is : List Nat} {b : D → R (List D)} {c : En → R Bool} {f : En → R Val}
    (hc : X.calm = true) (hN : X.N.Nodup) (hi : SIt X none W stS tg iter wi fi) (ok : BlkOk X.N X.env.scope scope own)
    (hg : ∀ (s : Shared) (H : Hp) (C : Addr) (cl : List (Str × Addr)) (fp : List Addr), ∃ g, SG (X.blk s H scope (compEnvC scope cl C X.env) fp) tg g is b)
    (ht : ∀ (s : Shared) (H : Hp) (C : Addr) (cl : List (Str × Addr)) (fp : List Addr), ∃ t, SPT (X.blk s H scope (compEnvC scope cl C X.env) fp) none W0 ifs t c)
    (he : ∀ (s : Shared) (H : Hp) (C : Addr) (cl : List (Str × Addr)) (fp : List Addr), ∃ t, SE (X.blk s H scope (compEnvC scope cl C X.env) fp) none W0 elt t f)
    (hin : is.all (fun i => (own.map (·.2)).contains i) = true := by decide) (hs : ∀ x, foldedSetIterable iter X.env x = pure x := by intro _; rfl) :
    SE X none W (.ListComp elt [⟨tg, iter, ifs, 0⟩] scope pos) (tLc wi (tcG X is b) (tcT X none W0 c) (tcE X none W0 f) (own.map (·.2))) (sLc fi (own.map (·.2)) is b c f) :=
  E_lcU (g := tcG X is b) (tt := tcT X none W0 c) (te := tcE X none W0 f) hc hN hi ok (fun s H C cl fp => SG.can (hg s H C cl fp)) (fun s H C cl fp => SPT.can (ht s H C cl fp)) (fun s H C cl fp => SE.can (he s H C cl fp)) hin hs
end
end Lt

set_option Elab.async false
set_option linter.all false
set_option autoImplicit false
set_option maxRecDepth 100000
set_option maxHeartbeats 4000000
namespace Lt
open PySem PySem.Spec PyProof.Rows L2
section
variable {X : Cx} {xv : XV} {W : WX}

/-! ### a < b <= c .. -/
/-- the rest of a chain, from its left value on -/
def SCh (X : Cx) (xv : XV) (W : WX) (ops : List CmpOp) (es : List Expr) (t : V → TE) (f : D → En → R D) : Prop :=
  (∀ (pos : Pos) (pins : List (Addr × Obj)) (s : Shared) (σ : L2.St) (H : Hp) (y : V) (u : Value) (Q : VK), Inv X pins σ H s → RelV y u → t y σ H Q → wpAny (model X.prog X.w) X.A (compareChain pos u ops (evalEach es X.env)) (EP X pins σ Q) X.xe s) ∧
  (∀ (pos : Pos) (pins : List (Addr × Obj)) (s : Shared) (σ : L2.St) (H : Hp) (y : V) (u : Value) (Q : Bool → Hp → Prop), Inv X pins σ H s → RelV y u → tB (t y) σ H Q → wpAny (model X.prog X.w) X.A (testChain pos u ops (evalEach es X.env)) (TP X pins σ Q) X.xe s) ∧
  ∀ σ H ρ O y x Q, ER X.K xv O ρ σ H → Rp X.K H [] x y → Gk X W (fun _ H' => Rp X.K H' []) σ H (f x ρ) Q → t y σ H Q
def tChL (r : R2) (tb : TE) : V → TE := fun x σ H Q => tb σ H fun y H2 => r x y H2 Q
def chL (op : D → D → Option D) (g : En → R D) : D → En → R D := fun x ρ => (g ρ).bind fun y => match op x y with
  | some d => .ok d
  | none => .stuck
def tChC (r : R2) (tb : TE) (k : V → TE) : V → TE := fun x σ H Q => tb σ H fun y H2 => r x y H2 fun z H3 => ∃ c, z = .bl c ∧ (if c = true then k y σ H3 Q else Q (.bl false) H3)
def chC (op : D → D → Option D) (g : En → R D) (k : D → En → R D) : D → En → R D := fun x ρ => (g ρ).bind fun y => match op x y with
  | some (.bl true) => k y ρ
  | some (.bl false) => .ok (.bl false)
  | _ => .stuck
theorem evalEach_cons (e : Expr) (es : List Expr) (env : Env) : evalEach (e :: es) env = eval e env :: evalEach es env := by first | rfl | simp [evalEach]
theorem evalEach_nil (env : Env) : evalEach [] env = [] := by first | rfl | simp [evalEach]
theorem C_last {o : CmpOp} {r : R2} {op : D → D → Option D} {b : Expr} {u : TE} {g : En → R D} (ho : OpS X (compareOp o) r op) (hb : SB X xv W b u g) : SCh X xv W [o] [b] (tChL r u) (chL op g) := by
  obtain ⟨hop, hr⟩ := ho.ex
  obtain ⟨p, q⟩ := hb
  refine ⟨fun pos pins s σ H y uv Q I r1 h => ?_, fun pos pins s σ H y uv Q I r1 h => ?_, fun σ H ρ O y x Q e rx k => ?_⟩
  · rw [evalEach_cons, evalEach_nil]
    exact chain_last (thn (p.run pins s σ H _ I h) fun w' s4 ⟨z', H4, I4, r4, q4⟩ => hop pins s4 σ H4 y z' uv w' Q I4 r1 r4 q4)
  · rw [evalEach_cons, evalEach_nil]
    refine test_last (thn (p.run pins s σ H _ I h) fun w' s4 ⟨z', H4, I4, r4, q4⟩ => thn (hop pins s4 σ H4 y z' uv w' _ I4 r1 r4 q4) fun d s5 ⟨z, H5, I5, r5, c, ez, q5⟩ => ?_)
    subst ez
    cases r5
    exact wpAny_truthy_bool ⟨H5, I5, q5⟩
  · refine q σ H ρ O _ e (Gk.bind k fun z v H1 _ e1 r1 k => ?_)
    cases hx : op x z with
    | none => rw [hx] at k; exact k.elim
    | some d =>
      rw [hx] at k
      obtain ⟨w, hw, hq⟩ := hr H1 x z y v Q d (rx.same e1) r1 hx
      exact hq (k w H1 (Same.refl _) (toV_rp hw _ _ _))
theorem C_cons {o o' : CmpOp} {os : List CmpOp} {r : R2} {op : D → D → Option D} {b b' : Expr} {bs : List Expr} {u : TE} {t : V → TE} {g : En → R D} {f : D → En → R D} (ho : OpS X (compareOp o) r op) (hb : SB X xv W b u g) (hr' : SCh X xv W (o' :: os) (b' :: bs) t f) :
    SCh X xv W (o :: o' :: os) (b :: b' :: bs) (tChC r u t) (chC op g f) := by
  obtain ⟨hop, hr⟩ := ho.ex
  obtain ⟨p, q⟩ := hb
  obtain ⟨c1, c2, c3⟩ := hr'
  refine ⟨fun pos pins s σ H y uv Q I r1 h => ?_, fun pos pins s σ H y uv Q I r1 h => ?_, fun σ H ρ O y x Q e rx k => ?_⟩
  · rw [evalEach_cons, evalEach_cons]
    refine chain_link (thn (p.run pins s σ H _ I h) fun w' s4 ⟨z', H4, I4, r4, q4⟩ => thn (hop pins s4 σ H4 y z' uv w' _ I4 r1 r4 q4) fun d s5 ⟨z, H5, I5, r5, c, ez, q5⟩ => ?_)
    subst ez
    cases r5
    refine wpAny_truthy_bool ?_
    cases c with
    | false => exact ite_ff ⟨.bl false, H5, I5, rfl, q5⟩
    | true => refine ite_tt ?_; rw [← evalEach_cons]; exact c1 pos pins s5 σ H5 z' w' Q I5 r4 q5
  · rw [evalEach_cons, evalEach_cons]
    refine test_link (thn (p.run pins s σ H _ I h) fun w' s4 ⟨z', H4, I4, r4, q4⟩ => thn (hop pins s4 σ H4 y z' uv w' _ I4 r1 r4 q4) fun d s5 ⟨z, H5, I5, r5, c, ez, q5⟩ => ?_)
    subst ez
    cases r5
    refine wpAny_truthy_bool ?_
    cases c with
    | false =>
      obtain ⟨c', e', q'⟩ := q5
      cases e'
      exact ite_ff ⟨H5, I5, q'⟩
    | true => refine ite_tt ?_; rw [← evalEach_cons]; exact c2 pos pins s5 σ H5 z' w' Q I5 r4 q5
  · refine q σ H ρ O _ e (Gk.bind k fun z v H1 _ e1 r1 k => ?_)
    cases hx : op x z with
    | none => rw [hx] at k; exact k.elim
    | some d =>
      rw [hx] at k
      obtain ⟨w, hw, hq⟩ := hr H1 x z y v (fun z' H3 => ∃ c, z' = V.bl c ∧ (if c = true then t v σ H3 Q else Q (.bl false) H3)) d (rx.same e1) r1 hx
      refine hq ?_
      cases d with
      | bl c =>
        cases hw
        refine ⟨c, rfl, ?_⟩
        cases c with
        | true => exact iteT (c3 σ H1 ρ O v z Q (e.same e1) r1 k)
        | false => exact iteF (k _ H1 (Same.refl _) (.bl false))
      | _ => exact k.elim
def chain (f : En → R D) (g : D → En → R D) : En → R Val := fun ρ => (f ρ).bind fun x => (g x ρ).bind fun y => match toV y with
  | some _ => .ok (.fr y)
  | none => .stuck
theorem chain_ok {t : TE} {u : V → TE} {f : En → R D} {g : D → En → R D} {σ : L2.St} {H : Hp} {ρ : En} {O : List Addr} {Q : VK} (e : ER X.K xv O ρ σ H)
    (q : ∀ σ H ρ O Q, ER X.K xv O ρ σ H → Gk X W (fun _ H' => Rp X.K H' []) σ H (f ρ) Q → t σ H Q) (c3 : ∀ σ H ρ O y x Q, ER X.K xv O ρ σ H → Rp X.K H [] x y → Gk X W (fun _ H' => Rp X.K H' []) σ H (g x ρ) Q → u y σ H Q)
    (k : Gk X W (fun H H' => RV X.K H H' O) σ H (chain f g ρ) Q) : t σ H fun y H1 => u y σ H1 Q := by
  refine q σ H ρ O _ e (Gk.bind k fun x v H1 _ e1 r1 k => ?_)
  refine c3 σ H1 ρ O v x Q (e.same e1) r1 (Gk.bind k fun y w H2 _ e2 r2 k => ?_)
  cases hy : toV y with
  | none => rw [hy] at k; exact k.elim
  | some z =>
    rw [hy] at k
    have ez : w = z := by
      cases y with
      | non => cases r2; cases hy; rfl
      | bl b => cases r2; cases hy; rfl
      | int b => cases r2; cases hy; rfl
      | _ => cases hy
    subst ez
    exact k w H2 (Same.refl _) (toV_rp hy _ _ _)
theorem E_chain {a b1 b2 : Expr} {o1 o2 : CmpOp} {os : List CmpOp} {bs : List Expr} {pos : Pos} {t : TE} {u : V → TE} {f : En → R D} {g : D → En → R D} (ha : SB X xv W a t f) (hc : SCh X xv W (o1 :: o2 :: os) (b1 :: b2 :: bs) u g)
    (hm : lastMarks (o1 :: o2 :: os) (b1 :: b2 :: bs) = false := by with_unfolding_all rfl) : SE X xv W (.Compare a (o1 :: o2 :: os) (b1 :: b2 :: bs) pos) (fun σ H Q => t σ H fun y H1 => u y σ H1 Q) (chain f g) := by
  refine ⟨⟨fun pins s σ H Q I h => ?_⟩, fun σ H ρ O Q e k => chain_ok e ha.2 hc.2.2 k⟩
  refine Compare_chain (thn (ha.1.run pins s σ H _ I h) fun v s1 ⟨x, H1, I1, r1, q1⟩ => ?_) hm
  have := hc.1 pos pins s1 σ H1 x v Q I1 r1 q1
  rwa [evalEach_cons, evalEach_cons] at this
theorem T_chain {a b1 b2 : Expr} {o1 o2 : CmpOp} {os : List CmpOp} {bs : List Expr} {pos : Pos} {t : TE} {u : V → TE} {f : En → R D} {g : D → En → R D} (ha : SB X xv W a t f) (hc : SCh X xv W (o1 :: o2 :: os) (b1 :: b2 :: bs) u g)
    (hm : lastMarks (o1 :: o2 :: os) (b1 :: b2 :: bs) = false := by with_unfolding_all rfl) : ST X xv W (.Compare a (o1 :: o2 :: os) (b1 :: b2 :: bs) pos) (fun σ H Q => t σ H fun y H1 => tB (u y) σ H1 Q) (tst (chain f g)) := by
  refine ⟨⟨fun pins s σ H Q I h => ?_⟩, fun σ H ρ O Q e k => ?_⟩
  · refine isTrue_chain (thn (ha.1.run pins s σ H _ I h) fun v s1 ⟨x, H1, I1, r1, q1⟩ => ?_) hm
    have := hc.2.1 pos pins s1 σ H1 x v Q I1 r1 q1
    rwa [evalEach_cons, evalEach_cons] at this
  · refine chain_ok (Q := fun z H1 => ∃ c, z = V.bl c ∧ Q c H1) e ha.2 hc.2.2 (Gk.bind k fun x v H1 _ e1 r k => ?_)
    obtain ⟨b, hb, k⟩ := Gk.asBo k
    exact ⟨b, rpb (r.rp e.tr) hb, k b H1 (Same.refl _) rfl⟩

/-! ### slices -/
def cutD (xs : List D) (lo hi : Option Int) : List D := (xs.drop (HT.sIx xs.length 0 lo)).take (HT.sIx xs.length xs.length hi - HT.sIx xs.length 0 lo)
theorem RpL.cut {K : PySem.W.Frag} {H : Hp} {O : List Addr} {ds : List D} {vs : List V} (h : RpL K H O ds vs) (lo hi : Option Int) : RpL K H O (cutD ds lo hi) (cutV vs lo hi) := by
  unfold cutD cutV
  rw [h.len]
  exact (h.drop _).take _
def slD (lo hi : Option Int) : D → R Val
  | .lst xs => .ok (.nw (cutD xs lo hi))
  | .rol xs => .ok (.nw (cutD xs lo hi))
  | .tup xs => .ok (.fr (.tup (cutD xs lo hi)))
  | .str z => okS (cutS z lo hi)
  | _ => .stuck
def SO (X : Cx) (xv : XV) (W : WX) (py : Option Expr) (t : TO) (f : En → R (Option Int)) : Prop := PO X py t ∧ ∀ σ H ρ O Q, ER X.K xv O ρ σ H → Gk X W (fun _ _ (b c : Option Int) => c = b) σ H (f ρ) Q → t σ H Q
def oNone : En → R (Option Int) := fun _ => .ok none
def oSome (f : En → R D) : En → R (Option Int) := fun ρ => (f ρ).bind fun x => match x with
  | .int i => .ok (some i)
  | _ => .stuck
theorem O_none : SO X xv W none tNoPart oNone := ⟨po_none, fun σ H ρ O Q e k => k none H (Same.refl _) rfl⟩
theorem O_some {e : Expr} {t : TE} {f : En → R D} (h : SB X xv W e t f) : SO X xv W (some e) (tPart t) (oSome f) := by
  refine ⟨po_some h.1, fun σ H ρ O Q e k => h.2 σ H ρ O _ e (Gk.bind k fun x v H1 _ e1 r k => ?_)⟩
  cases x with
  | int i => cases r; exact ⟨i, rfl, k _ H1 (Same.refl _) rfl⟩
  | _ => exact k.elim
def sSl (f : En → R D) (lo hi : En → R (Option Int)) : En → R Val := fun ρ => (f ρ).bind fun x => (lo ρ).bind fun a => (hi ρ).bind fun b => slD a b x
def rSlAny (K : PySem.W.Frag) : V → Option Int → Option Int → Hp → VK → Prop := fun x lo hi H Q => rSlL K x lo hi H Q ∨ rSlA K x lo hi H Q ∨ rSlS x lo hi H Q
theorem sl_any : SlR X (rSlAny X.K) := SlR.or sl_list (SlR.or sl_tupA sl_str)
theorem E_sl {e : Expr} {lo hi : Option Expr} {p2 pos : Pos} {t : TE} {tl th : TO} {f : En → R D} {g g' : En → R (Option Int)} (he : SQ X xv W e t f) (hl : SO X xv W lo tl g) (hh : SO X xv W hi th g') : SE X xv W (.Subscript e (.Slice lo hi none p2) pos) (tSl (rSlAny X.K) t tl th) (sSl f g g') := by
  refine ⟨pe_slice sl_any he.1 hl.1 hh.1, fun σ H ρ O Q e k => ?_⟩
  refine he.2 σ H ρ O _ e (Gk.bind k fun x v H1 _ e1 r1 k => ?_)
  refine hl.2 σ H1 ρ O _ (e.same e1) (Gk.bind k fun a a' H2 _ e2 r2 k => ?_)
  subst r2
  refine hh.2 σ H2 ρ O _ ((e.same e1).same e2) (Gk.bind k fun b b' H3 _ e3 r3 k => ?_)
  subst r3
  have r1 := (r1.same e2).same e3
  have e13 := (e1.trans e2).trans e3
  cases x with
  | lst xs =>
    obtain ⟨p, vs, rfl, h1, z1, l1⟩ := r1
    refine .inl ⟨p, vs, rfl, SqL.of h1, fun q hq => k (.ref q) _ (same_new hq) ?_⟩
    exact ⟨q, _, rfl, e13.free hq, upd_same, Nat.le_trans (cutV_length _ _ _) z1, ((l1.cut _ _).add hq).same (same_new hq)⟩
  | rol xs =>
    cases r1 with
    | rol h1 z1 l1 =>
      refine .inl ⟨_, _, rfl, h1.sq, fun q hq => k (.ref q) _ (same_new hq) ?_⟩
      exact ⟨q, _, rfl, e13.free hq, upd_same, Nat.le_trans (cutV_length _ _ _) z1, ((l1.cut _ _).add hq).same (same_new hq)⟩
  | tup xs =>
    cases r1 with
    | tup h1 z1 l1 =>
      rename_i p vs
      refine .inr (.inl ⟨_, _, rfl, h1, fun hw => ?_, fun hw q hq => ?_⟩)
      · have hcut : cutD xs a' b' = xs := by
          unfold cutD
          rw [l1.len, hw.1, hw.2, List.drop_zero, Nat.sub_zero, ← l1.len, List.take_length]
        refine k _ H3 (Same.refl _) ?_
        show Rp X.K H3 O (.tup (cutD xs a' b')) _
        rw [hcut]
        exact .tup h1 z1 l1
      · exact k (.ref q) _ (same_new hq) (.tup (.inl (.inl upd_same)) (Nat.le_trans (cutV_length _ _ _) z1) ((l1.cut _ _).same (same_new hq)))
  | str z =>
    cases r1 with
    | str _ g1 =>
      obtain ⟨hg, k⟩ := Gk.grd (b := strG (cutS z a' b')) k
      exact .inr (.inr ⟨z, rfl, lB_line (strG_len g1), k _ H3 (Same.refl _) (.str _ hg)⟩)
  | _ => exact k.elim

/-! ### calls of built-ins -/
/-- a scalar out of what is looked at -/
structure CalS (X : Cx) (f : Value) (r : List V → Hp → VK → Prop) (op : List D → Option D) : Prop where
  ex : CallR X f r ∧ ∀ H ds vs Q d, RpL X.K H [] ds vs → op ds = some d → ∃ w, (∀ H O, Rp X.K H O d w) ∧ (Q w H → r vs H Q)
def optV : Option D → R Val
  | some d => .ok (.fr d)
  | none => .stuck
def sCal (op : List D → Option D) (g : En → R (List D)) : En → R Val := fun ρ => (g ρ).bind fun ds => optV (op ds)
theorem Gk.optV {rel' : Hp → Hp → Val → V → Prop} {σ : L2.St} {H : Hp} {o : Option D} {Q : VK} (h : Gk X W rel' σ H (Lt.optV o) Q) : ∃ d, o = some d ∧ Gk X W rel' σ H (.ok (.fr d)) Q := by
  cases o with
  | none => exact h.elim
  | some d => exact ⟨d, rfl, h⟩
theorem E_blt {id : String} {x : Str} {p pos : Pos} {e : Expr} {es : List Expr} {n : Nat} {t : TA} {r : List V → Hp → VK → Prop} {op : List D → Option D} {g : En → R (List D)} (hc : CalS X (.builtin id) r op) (hg : Gl X x) (hm : X.mg x = none) (hv : bootBuiltins x = some (.builtin id)) (ha : SAB X xv W (e :: es) n t g)
    (hn : x ≠ "__name__" := by decide) (hdb : (x == ("__debug__" : Str)) = false := by decide) (he : starEach (e :: es) X.env = (false, eval e X.env) :: starEach es X.env := by rfl) (hpl : (backTo pos (starEach es X.env)).any (·.1) = false := by rfl) :
    SE X xv W (.Call (.Name x p) (e :: es) [] pos) (tCB r t) (sCal op g) := by
  obtain ⟨c1, c2⟩ := hc.ex
  refine ⟨pe_callB c1 hg hm hv ha.2.1 hn hdb he hpl, fun σ H ρ O Q e k => ha.2.2 σ H ρ O _ e (Gk.bind k fun ds vs H1 _ e1 r1 k => ?_)⟩
  obtain ⟨d, hd, k⟩ := Gk.optV k
  obtain ⟨w, hw, hq⟩ := c2 H1 ds vs Q d r1 hd
  exact hq (k w H1 (Same.refl _) (hw _ _))
theorem E_bty {T : String} {x : Str} {p pos : Pos} {e : Expr} {es : List Expr} {n : Nat} {t : TA} {r : List V → Hp → VK → Prop} {op : List D → Option D} {g : En → R (List D)} (hc : CalS X (.type T) r op) (hg : Gl X x) (hm : X.mg x = none) (hv : bootBuiltins x = some (.type T)) (ha : SAB X xv W (e :: es) n t g)
    (hn : x ≠ "__name__" := by decide) (hdb : (x == ("__debug__" : Str)) = false := by decide) (he : starEach (e :: es) X.env = (false, eval e X.env) :: starEach es X.env := by rfl) (hpl : (backTo pos (starEach es X.env)).any (·.1) = false := by rfl) :
    SE X xv W (.Call (.Name x p) (e :: es) [] pos) (tCB r t) (sCal op g) := by
  obtain ⟨c1, c2⟩ := hc.ex
  refine ⟨pe_callTy c1 hg hm hv ha.2.1 hn hdb he hpl, fun σ H ρ O Q e k => ha.2.2 σ H ρ O _ e (Gk.bind k fun ds vs H1 _ e1 r1 k => ?_)⟩
  obtain ⟨d, hd, k⟩ := Gk.optV k
  obtain ⟨w, hw, hq⟩ := c2 H1 ds vs Q d r1 hd
  exact hq (k w H1 (Same.refl _) (hw _ _))
/-- one thing whose items go into what is made -/
structure CalQ (X : Cx) (W : WX) (f : Value) (r : List V → Hp → VK → Prop) (op : D → R Val) : Prop where
  ex : CallR X f r ∧ ∀ σ H0 H O d v Q, (∀ a ∈ O, ∃ o, H a = some o) → Same H0 H → RQ X.K H O d v → Gk X W (fun _ H' => RV X.K H0 H' O) σ H (op d) Q → r [v] H Q
def sCal1 (op : D → R Val) (g : En → R D) : En → R Val := fun ρ => (g ρ).bind op
theorem pa1 {e : Expr} {t : TE} (p : PE X e t) (hst : starEach [e] X.env = (false, eval e X.env) :: starEach [] X.env) : PA X [e] (tCons t tNil) := pa_cons p pa_nil hst
theorem E_blt1 {id : String} {x : Str} {p pos : Pos} {e : Expr} {t : TE} {r : List V → Hp → VK → Prop} {op : D → R Val} {g : En → R D} (hc : CalQ X W (.builtin id) r op) (hg : Gl X x) (hm : X.mg x = none) (hv : bootBuiltins x = some (.builtin id)) (ha : SQ X xv W e t g)
    (hn : x ≠ "__name__" := by decide) (hdb : (x == ("__debug__" : Str)) = false := by decide) (he : starEach [e] X.env = (false, eval e X.env) :: starEach [] X.env := by rfl) (hpl : (backTo pos (starEach [] X.env)).any (·.1) = false := by rfl) :
    SE X xv W (.Call (.Name x p) [e] [] pos) (tCB r (tCons t tNil)) (sCal1 op g) := by
  obtain ⟨c1, c2⟩ := hc.ex
  refine ⟨pe_callB c1 hg hm hv (pa1 ha.1 he) hn hdb he hpl, fun σ H ρ O Q e k => ha.2 σ H ρ O _ e (Gk.bind k fun d v H1 _ e1 r1 k => ?_)⟩
  exact c2 σ H H1 O d v Q (e.same e1).tr e1 r1 k
theorem E_bty1 {T : String} {x : Str} {p pos : Pos} {e : Expr} {t : TE} {r : List V → Hp → VK → Prop} {op : D → R Val} {g : En → R D} (hc : CalQ X W (.type T) r op) (hg : Gl X x) (hm : X.mg x = none) (hv : bootBuiltins x = some (.type T)) (ha : SQ X xv W e t g)
    (hn : x ≠ "__name__" := by decide) (hdb : (x == ("__debug__" : Str)) = false := by decide) (he : starEach [e] X.env = (false, eval e X.env) :: starEach [] X.env := by rfl) (hpl : (backTo pos (starEach [] X.env)).any (·.1) = false := by rfl) :
    SE X xv W (.Call (.Name x p) [e] [] pos) (tCB r (tCons t tNil)) (sCal1 op g) := by
  obtain ⟨c1, c2⟩ := hc.ex
  refine ⟨pe_callTy c1 hg hm hv (pa1 ha.1 he) hn hdb he hpl, fun σ H ρ O Q e k => ha.2 σ H ρ O _ e (Gk.bind k fun d v H1 _ e1 r1 k => ?_)⟩
  exact c2 σ H H1 O d v Q (e.same e1).tr e1 r1 k

/-! len, abs, int, min, max, str, all, any -/
def dLen : List D → Option D
  | [.lst xs] => some (.int xs.length)
  | [.tup xs] => some (.int xs.length)
  | [.rol xs] => some (.int xs.length)
  | [.str z] => some (.int z.length)
  | _ => none
def rLenA (K : PySem.W.Frag) : List V → Hp → VK → Prop := fun xs H Q => (∃ p ys, xs = [.ref p] ∧ (SqL K H p ys ∨ SqT K H p ys) ∧ Q (.int ys.length) H) ∨ ∃ z, xs = [.str z] ∧ z.length ≤ sizeLine ∧ Q (.int z.length) H
theorem c_len : CalS X (.builtin "len") (rLenA X.K) dLen := by
  refine ⟨CallR.or call_len_seq call_len_str, fun H ds vs Q d r e => ?_⟩
  cases r with
  | nil => cases e
  | cons r rs =>
    cases rs with
    | cons _ _ => cases r <;> cases e
    | nil =>
      cases r with
      | tup h z l => cases e; exact ⟨_, fun _ _ => .int _, fun q => .inl ⟨_, _, rfl, .inr h, by rw [← l.len]; exact q⟩⟩
      | lst h n z l => cases e; exact ⟨_, fun _ _ => .int _, fun q => .inl ⟨_, _, rfl, .inl (SqL.of h), by rw [← l.len]; exact q⟩⟩
      | rol h z l => cases e; exact ⟨_, fun _ _ => .int _, fun q => .inl ⟨_, _, rfl, .inl h.sq, by rw [← l.len]; exact q⟩⟩
      | str z g => cases e; exact ⟨_, fun _ _ => .int _, fun q => .inr ⟨_, rfl, lB_line (strG_len g), q⟩⟩
      | _ => cases e
def dAbs : List D → Option D
  | [.int i] => some (.int (if i < 0 then -i else i))
  | _ => none
theorem rp1 {K : PySem.W.Frag} {H : Hp} {O : List Addr} {i : Int} {vs : List V} (r : RpL K H O [.int i] vs) : vs = [.int i] := by
  cases r with
  | cons r rs => cases rs; cases r; rfl
theorem rp2 {K : PySem.W.Frag} {H : Hp} {O : List Addr} {i j : Int} {vs : List V} (r : RpL K H O [.int i, .int j] vs) : vs = [.int i, .int j] := by
  cases r with
  | cons r rs =>
    cases r
    rw [rp1 rs]
theorem c_abs : CalS X (.builtin "abs") (fun xs H Q => ∃ i, xs = [.int i] ∧ Q (.int (if i < 0 then -i else i)) H) dAbs := by
  refine ⟨call_abs, fun H ds vs Q d r e => ?_⟩
  unfold dAbs at e
  split at e
  · cases e; have := rp1 r; subst this; exact ⟨_, fun _ _ => .int _, fun q => ⟨_, rfl, q⟩⟩
  · cases e
def dMax2 : List D → Option D
  | [.int i, .int j] => some (.int (if j > i then j else i))
  | _ => none
def dMin2 : List D → Option D
  | [.int i, .int j] => some (.int (if j < i then j else i))
  | _ => none
theorem c_max2 (hc : X.calm = true) : CalS X (.builtin "max") (fun xs H Q => ∃ i j, xs = [.int i, .int j] ∧ Q (.int (if j > i then j else i)) H) dMax2 := by
  refine ⟨call_max2 hc, fun H ds vs Q d r e => ?_⟩
  unfold dMax2 at e
  split at e
  · cases e; have := rp2 r; subst this; exact ⟨_, fun _ _ => .int _, fun q => ⟨_, _, rfl, q⟩⟩
  · cases e
theorem c_min2 (hc : X.calm = true) : CalS X (.builtin "min") (fun xs H Q => ∃ i j, xs = [.int i, .int j] ∧ Q (.int (if j < i then j else i)) H) dMin2 := by
  refine ⟨call_min2 hc, fun H ds vs Q d r e => ?_⟩
  unfold dMin2 at e
  split at e
  · cases e; have := rp2 r; subst this; exact ⟨_, fun _ _ => .int _, fun q => ⟨_, _, rfl, q⟩⟩
  · cases e
/-- int of a number, a truth value, a text of a number -/
def dInt : List D → Option D
  | [.int i] => some (.int i)
  | [.bl b] => some (.int (if b then 1 else 0))
  | [.str z] => if z.length ≤ 640 then (PySem.intText? z).map D.int else none
  | _ => none
def rIntA : List V → Hp → VK → Prop := fun xs H Q => ((∃ i, xs = [.int i] ∧ Q (.int i) H) ∨ ∃ k, xs = [.bl k] ∧ Q (.int (if k then 1 else 0)) H) ∨ ∃ a n, xs = [.str a] ∧ PySem.intText? a = some n ∧ a.length ≤ 640 ∧ Q (.int n) H
theorem c_int : CalS X (.type "int") rIntA dInt := by
  refine ⟨CallR.or call_int1 call_int_str, fun H ds vs Q d r e => ?_⟩
  cases r with
  | nil => cases e
  | cons r rs =>
    cases rs with
    | cons _ _ => cases r <;> cases e
    | nil =>
      cases r with
      | int i => cases e; exact ⟨_, fun _ _ => .int _, fun q => .inl (.inl ⟨_, rfl, q⟩)⟩
      | bl b => cases e; exact ⟨_, fun _ _ => .int _, fun q => .inl (.inr ⟨_, rfl, q⟩)⟩
      | str z g =>
        unfold dInt at e
        simp only at e
        split at e
        · rename_i hz
          obtain ⟨n, hn, rfl⟩ := Option.map_eq_some_iff.mp e
          exact ⟨_, fun _ _ => .int _, fun q => .inr ⟨_, n, rfl, hn, hz, q⟩⟩
        · cases e
      | _ => cases e
def dStr : List D → Option D
  | [.int i] => if decide (i.natAbs.log2 < 1920) && strG (toString i : String) then some (.str (toString i : String)) else none
  | _ => none
theorem c_str : CalS X (.type "str") (fun xs H Q => ∃ i, xs = [.int i] ∧ i.natAbs.log2 < 1920 ∧ Q (.str (toString i)) H) dStr := by
  refine ⟨call_str_int, fun H ds vs Q d r e => ?_⟩
  unfold dStr at e
  split at e
  · split at e
    · rename_i hg
      rw [Bool.and_eq_true, decide_eq_true_eq] at hg
      cases e; have := rp1 r; subst this; exact ⟨_, fun _ _ => .str _ hg.2, fun q => ⟨_, rfl, hg.1, q⟩⟩
    · cases e
  · cases e
def boolsD : List D → Option (List Bool)
  | [] => some []
  | .bl b :: r => (boolsD r).map (b :: ·)
  | _ => none
theorem boolsD_rp {K : PySem.W.Frag} {H : Hp} {O : List Addr} : ∀ {ds : List D} {vs : List V} {bs : List Bool}, boolsD ds = some bs → RpL K H O ds vs → vs = bs.map V.bl
  | _, _, _, e, .nil => by cases e; rfl
  | _, _, _, e, .cons r rs => by
    cases r with
    | bl b =>
      obtain ⟨bs', h, rfl⟩ := Option.map_eq_some_iff.mp (show (boolsD _).map (b :: ·) = some _ from e)
      rw [boolsD_rp h rs]; rfl
    | _ => cases e
def intsD : List D → Option (List Int)
  | [] => some []
  | .int b :: r => (intsD r).map (b :: ·)
  | _ => none
theorem intsD_rp {K : PySem.W.Frag} {H : Hp} {O : List Addr} : ∀ {ds : List D} {vs : List V} {bs : List Int}, intsD ds = some bs → RpL K H O ds vs → vs = bs.map V.int
  | _, _, _, e, .nil => by cases e; rfl
  | _, _, _, e, .cons r rs => by
    cases r with
    | int b =>
      obtain ⟨bs', h, rfl⟩ := Option.map_eq_some_iff.mp (show (intsD _).map (b :: ·) = some _ from e)
      rw [intsD_rp h rs]; rfl
    | _ => cases e
def dAll : List D → Option D
  | [.lst xs] => (boolsD xs).map fun bs => .bl (bs.all id)
  | _ => none
def dAny : List D → Option D
  | [.lst xs] => (boolsD xs).map fun bs => .bl (bs.any id)
  | _ => none
def dSum : List D → Option D
  | [.lst xs] => (intsD xs).map fun bs => .int bs.sum
  | _ => none
theorem c_all (hc : X.calm = true) : CalS X (.builtin "all") (rAll X.K) dAll := by
  refine ⟨cr_all hc, fun H ds vs Q d r e => ?_⟩
  unfold dAll at e
  split at e
  · rename_i xs
    obtain ⟨bs, hb, rfl⟩ := Option.map_eq_some_iff.mp e
    cases r with
    | cons r rs =>
      cases rs
      cases r with
      | lst h n z l =>
        have := boolsD_rp hb l
        subst this
        exact ⟨_, fun _ _ => .bl _, fun q => ⟨_, bs, rfl, SqL.of h, q⟩⟩
  · cases e
theorem c_any (hc : X.calm = true) : CalS X (.builtin "any") (rAny X.K) dAny := by
  refine ⟨cr_any hc, fun H ds vs Q d r e => ?_⟩
  unfold dAny at e
  split at e
  · rename_i xs
    obtain ⟨bs, hb, rfl⟩ := Option.map_eq_some_iff.mp e
    cases r with
    | cons r rs =>
      cases rs
      cases r with
      | lst h n z l =>
        have := boolsD_rp hb l
        subst this
        exact ⟨_, fun _ _ => .bl _, fun q => ⟨_, bs, rfl, SqL.of h, q⟩⟩
  · cases e
theorem c_sum (hc : X.calm = true) : CalS X (.builtin "sum") (rSum X.K) dSum := by
  refine ⟨cr_sum hc, fun H ds vs Q d r e => ?_⟩
  unfold dSum at e
  split at e
  · rename_i xs
    obtain ⟨bs, hb, rfl⟩ := Option.map_eq_some_iff.mp e
    cases r with
    | cons r rs =>
      cases rs
      cases r with
      | lst h n z l =>
        have := intsD_rp hb l
        subst this
        exact ⟨_, fun _ _ => .int _, fun q => ⟨_, bs, rfl, SqL.of h, q⟩⟩
  · cases e
/-! list(..), tuple(..) -/
def qList : D → R Val
  | .lst xs => .ok (.nw xs)
  | .rol xs => .ok (.nw xs)
  | .tup xs => .ok (.nw xs)
  | _ => .stuck
def qTuple : D → R Val
  | .lst xs => .ok (.fr (.tup xs))
  | .tup xs => .ok (.fr (.tup xs))
  | _ => .stuck
theorem c_list : CalQ X W (.type "list") (fun xs H Q => ∃ p ys, xs = [.ref p] ∧ (SqL X.K H p ys ∨ SqT X.K H p ys) ∧ ∀ l, H l = none → Q (.ref l) (upd H l (.lst ys))) qList := by
  refine ⟨call_list_of, fun σ H0 H O d v Q tr e0 r k => ?_⟩
  cases d with
  | lst xs =>
    obtain ⟨a, vs, rfl, h1, z, l⟩ := r
    exact ⟨a, vs, rfl, .inl (SqL.of h1), fun p hp => k (.ref p) _ (same_new hp) ⟨p, vs, rfl, e0.free hp, upd_same, z, (l.add hp).same (same_new hp)⟩⟩
  | rol xs =>
    cases r with
    | rol h z l => exact ⟨_, _, rfl, .inl h.sq, fun p hp => k (.ref p) _ (same_new hp) ⟨p, _, rfl, e0.free hp, upd_same, z, (l.add hp).same (same_new hp)⟩⟩
  | tup xs =>
    cases r with
    | tup h z l => exact ⟨_, _, rfl, .inr h, fun p hp => k (.ref p) _ (same_new hp) ⟨p, _, rfl, e0.free hp, upd_same, z, (l.add hp).same (same_new hp)⟩⟩
  | _ => exact k.elim
theorem c_tuple : CalQ X W (.type "tuple") (fun xs H Q => ∃ p ys, xs = [.ref p] ∧ ((SqL X.K H p ys ∧ ∀ l, H l = none → Q (.ref l) (upd H l (.tup ys))) ∨ (SqT X.K H p ys ∧ Q (.ref p) H))) qTuple := by
  refine ⟨call_tuple_of, fun σ H0 H O d v Q tr e0 r k => ?_⟩
  cases d with
  | lst xs =>
    obtain ⟨a, vs, rfl, h1, z, l⟩ := r
    exact ⟨a, vs, rfl, .inl ⟨SqL.of h1, fun p hp => k (.ref p) _ (same_new hp) (.tup (.inl (.inl upd_same)) z (l.same (same_new hp)))⟩⟩
  | tup xs =>
    cases r with
    | tup h z l => exact ⟨_, _, rfl, .inr ⟨h, k _ H (Same.refl _) (.tup h z l)⟩⟩
  | _ => exact k.elim
end
end Lt

set_option Elab.async false
set_option linter.all false
set_option autoImplicit false
set_option maxRecDepth 100000
set_option maxHeartbeats 4000000
namespace Lt
open PySem PySem.Spec PyProof.Rows L2

/-! ### a def's promise -/
def spM (K : PySem.W.Frag) (mg : Str → Option Value) (n : Nat) (m : List D → R Val) : Sp := fun vs H Q E => ∃ (ds : List D) (O : List Addr), ds.length = n ∧ RpL K H O ds vs ∧ (∀ a ∈ O, ∃ o, H a = some o) ∧
  (match m ds with
    | .ok r => ∀ v H', Same H H' → RV K H H' O r v → Q v H'
    | .exc c => ∀ H' C, Same H H' → mg c = some C → E C none H'
    | .stuck => False)
theorem spM_len {K : PySem.W.Frag} {mg : Str → Option Value} {n : Nat} {m : List D → R Val} {vs : List V} {H : Hp} {Q : VK} {E : XK} (h : spM K mg n m vs H Q E) : vs.length = n := by
  obtain ⟨ds, O, h1, h2, _⟩ := h
  rw [← h2.len]; exact h1
/-! no list within -/
mutual
def noL : D → Bool
  | .lst _ => false
  | .tup xs => noLs xs
  | .rol xs => noLs xs
  | _ => true
def noLs : List D → Bool
  | [] => true
  | x :: xs => noL x && noLs xs
end
section
variable {K : PySem.W.Frag} {xv : XV} {H : Hp} {O O' : List Addr}
mutual
theorem Rp.free : ∀ {d : D} {v : V}, noL d = true → Rp K H O d v → Rp K H O' d v
  | _, _, _, .non => .non
  | _, _, _, .bl b => .bl b
  | _, _, _, .int i => .int i
  | _, _, _, .str x h => .str x h
  | _, _, e, .tup h z r => .tup h z (RpL.free (by rw [noL] at e; exact e) r)
  | _, _, e, .lst _ _ _ _ => by rw [noL] at e; cases e
  | _, _, e, .rol h z r => .rol h z (RpL.free (by rw [noL] at e; exact e) r)
theorem RpL.free : ∀ {ds : List D} {vs : List V}, noLs ds = true → RpL K H O ds vs → RpL K H O' ds vs
  | _, _, _, .nil => .nil
  | _, _, e, .cons h r => by
    rw [noLs, Bool.and_eq_true] at e
    exact .cons (Rp.free e.1 h) (RpL.free e.2 r)
end
end
def leak : Val → R Val
  | .fr d => grd (noL d) (.ok (.fr d))
  | .nw xs => grd (noLs xs) (.ok (.nw xs))
def sCall (m : List D → R Val) (g : En → R (List D)) : En → R Val := fun ρ => (g ρ).bind m
def sCallB (m : List D → R Val) (g : En → R (List D)) : En → R Val := fun ρ => (g ρ).bind fun ds => (m ds).bind leak
section
variable {X : Cx} {xv : XV} {W : WX}
theorem E_call {k n : Nat} {f : Addr} {fd : FuncData} {ps : List Str} {m : List D → R Val} {x : Str} {p pos : Pos} {e : Expr} {es : List Expr} {t : TA} {g : En → R (List D)} (tk : Takes X W) (F : FnOk X.prog X.w X.K X.mg X.base (L2.CX X.prog X.w) k f fd ps (spM X.K X.mg n m)) (hr : Room k X.A) (hg : Gl X x) (hm : X.mg x = some (.ref f))
    (hk : PySem.W.keepIn X.K (.ref f) = true) (hb : Binds X.K fd ps []) (ha : SA X xv W (e :: es) n t g) (hdb : (x == ("__debug__" : Str)) = false := by decide) (he : starEach (e :: es) X.env = (false, eval e X.env) :: starEach es X.env := by rfl) (hpl : (backTo pos (starEach es X.env)).any (·.1) = false := by rfl) :
    SE X xv W (.Call (.Name x p) (e :: es) [] pos) (tCallS (spM X.K X.mg n m) (WE W) t) (sCall m g) := by
  refine ⟨pe_callS F hr hg hm hk hb (fun σ => passAt tk σ) ha.2.1 hdb he hpl, fun σ H ρ O Q e k => ha.2.2 σ H ρ O _ e (Gk.bind k fun ds vs H1 hds e1 r1 k => ?_)⟩
  refine ⟨ds, O, ha.1 ρ ds hds, r1, (e.same e1).tr, ?_⟩
  cases hm : m ds with
  | ok r => rw [hm] at k; exact fun v H' e2 rv => k v H' e2 (rv.back e1)
  | exc c => rw [hm] at k; exact k
  | stuck => rw [hm] at k; exact k
theorem E_callB {k n : Nat} {f : Addr} {fd : FuncData} {ps : List Str} {m : List D → R Val} {x : Str} {p pos : Pos} {e : Expr} {es : List Expr} {t : TA} {g : En → R (List D)} (tk : Takes X W) (F : FnOk X.prog X.w X.K X.mg X.base (L2.CX X.prog X.w) k f fd ps (spM X.K X.mg n m)) (hr : Room k X.A) (hg : Gl X x) (hm : X.mg x = some (.ref f))
    (hk : PySem.W.keepIn X.K (.ref f) = true) (hb : Binds X.K fd ps []) (ha : SAB X xv W (e :: es) n t g) (hdb : (x == ("__debug__" : Str)) = false := by decide) (he : starEach (e :: es) X.env = (false, eval e X.env) :: starEach es X.env := by rfl) (hpl : (backTo pos (starEach es X.env)).any (·.1) = false := by rfl) :
    SE X xv W (.Call (.Name x p) (e :: es) [] pos) (tCallS (spM X.K X.mg n m) (WE W) t) (sCallB m g) := by
  refine ⟨pe_callS F hr hg hm hk hb (fun σ => passAt tk σ) ha.2.1 hdb he hpl, fun σ H ρ O Q e k => ha.2.2 σ H ρ O _ e (Gk.bind k fun ds vs H1 hds e1 r1 k => ?_)⟩
  refine ⟨ds, [], ha.1 ρ ds hds, r1, fun a q => absurd q List.not_mem_nil, ?_⟩
  cases hm : m ds with
  | ok r =>
    rw [hm] at k
    intro v H' e2 rv
    cases r with
    | fr d =>
      obtain ⟨hn, k⟩ := Gk.grd (b := noL d) k
      exact k v H' e2 (Rp.free hn rv)
    | nw xs =>
      obtain ⟨hn, k⟩ := Gk.grd (b := noLs xs) k
      obtain ⟨a, vs', rfl, h1, h2, z, h3⟩ := rv
      exact k _ H' e2 ⟨a, vs', rfl, e1.free h1, h2, z, RpL.free hn h3⟩
  | exc c => rw [hm] at k; exact k
  | stuck => rw [hm] at k; exact k
end

/-! ### statements -/
abbrev Frm := List (List Addr × Hp)
structure SR (K : PySem.W.Frag) (xv : XV) (F : Frm) (Hs : Hp) (O0 O : List Addr) (ρ : En) (σ : L2.St) (H : Hp) : Prop where
  er : ER K xv O ρ σ H
  st : Same Hs H
  sub : ∀ a ∈ O0, a ∈ O
  o0 : ∀ a ∈ O0, ∃ o, Hs a = some o
  kp : ∀ p ∈ F, Kp p.1 p.2 H
  old : ∀ p ∈ F, ∀ a ∈ O, a ∈ p.1 ∨ p.2 a = none
  own : ∀ (i : Nat) (xs : List D) (a : Addr), ρ[i]? = some (.ow xs) → σ[i]? = some (some (.ref a)) → Hs a = none
  inj : ∀ (i j : Nat) (xs ys : List D) (a : Addr), ρ[i]? = some (.ow xs) → ρ[j]? = some (.ow ys) → σ[i]? = some (some (.ref a)) → σ[j]? = some (some (.ref a)) → i = j
section
variable {K : PySem.W.Frag} {xv : XV} {F F' : Frm} {Hs H H' : Hp} {O0 O : List Addr} {ρ : En} {σ : L2.St}
theorem Kp.trans {O O' : List Addr} {H H1 H2 : Hp} (a : Kp O H H1) (b : Kp O' H1 H2) (h : ∀ x ∈ O', x ∈ O ∨ H x = none) : Kp O H H2 := fun c o q z => by
  have q1 := a c o q z
  refine b c o q1 ?_
  rcases z with z | z
  · by_cases hc : c ∈ O'
    · rcases h c hc with w | w
      · exact absurd w z
      · rw [w] at q; cases q
    · exact .inl hc
  · exact .inr z
theorem SR.same (h : SR K xv F Hs O0 O ρ σ H) (e : Same H H') : SR K xv F Hs O0 O ρ σ H' :=
  ⟨h.er.same e, h.st.trans e, h.sub, h.o0, fun p q => (h.kp p q).trans (Kp.of (O := []) e) fun _ z => absurd z List.not_mem_nil, h.old, h.own, h.inj⟩
theorem SR.weak (h : SR K xv F Hs O0 O ρ σ H) (s : ∀ p ∈ F', p ∈ F) : SR K xv F' Hs O0 O ρ σ H :=
  ⟨h.er, h.st, h.sub, h.o0, fun p q => h.kp p (s p q), fun p q => h.old p (s p q), h.own, h.inj⟩
theorem SR.frame (h : SR K xv F Hs O0 O ρ σ H) : SR K xv ((O, H) :: F) Hs O0 O ρ σ H :=
  ⟨h.er, h.st, h.sub, h.o0, fun p q => (List.mem_cons.mp q).elim (fun q => by subst q; exact Kp.of (Same.refl _)) (h.kp p), fun p q a z => (List.mem_cons.mp q).elim (fun q => by subst q; exact .inl z) (fun q => h.old p q a z), h.own, h.inj⟩
theorem set_get {α : Type} {l : List α} {i j : Nat} {x y : α} (h : (l.set i x)[j]? = some y) : (i = j ∧ y = x) ∨ (i ≠ j ∧ l[j]? = some y) := by
  by_cases e : i = j
  · subst e
    have hi : i < l.length := by
      have := (List.getElem?_eq_some_iff.mp h).1
      rwa [List.length_set] at this
    rw [List.getElem?_set_self hi] at h
    exact .inl ⟨rfl, (Option.some.inj h).symm⟩
  · rw [List.getElem?_set_ne e] at h
    exact .inr ⟨e, h⟩
theorem SR.setF (h : SR K xv F Hs O0 O ρ σ H) (i : Nat) {d : D} {v : V} (r : Rp K H O d v) (hf : xvFree xv i = true := by rfl) : SR K xv F Hs O0 O (ρ.set i (.fr d)) (σ.set i (some v)) H := by
  refine ⟨h.er.set i ⟨v, rfl, r⟩ hf, h.st, h.sub, h.o0, h.kp, h.old, fun j xs a h1 h2 => ?_, fun j l xs ys a h1 h2 h3 h4 => ?_⟩
  · rcases set_get h1 with ⟨_, q⟩ | ⟨n, q⟩
    · cases q
    · rw [List.getElem?_set_ne n] at h2
      exact h.own j xs a q h2
  · rcases set_get h1 with ⟨_, q⟩ | ⟨n, q⟩
    · cases q
    rcases set_get h2 with ⟨_, q'⟩ | ⟨n', q'⟩
    · cases q'
    rw [List.getElem?_set_ne n] at h3
    rw [List.getElem?_set_ne n'] at h4
    exact h.inj j l xs ys a q q' h3 h4
theorem SR.setAll : ∀ {is : List Nat} {ds : List D} {vs : List V} {ρ : En} {σ : L2.St}, SR K none F Hs O0 O ρ σ H → RpL K H O ds vs → SR K none F Hs O0 O (setE ρ is ds) (setS σ is vs) H
  | [], _, _, _, _, h, _ => by simpa [setE, setS] using h
  | i :: is, _, _, _, _, h, .nil => by simpa [setE, setS] using h
  | i :: is, _, _, _, _, h, .cons r rs => by
    rw [setE, setS]
    exact SR.setAll (h.setF i r) rs
/-- a new list goes into a slot -/
theorem SR.setN {H1 : Hp} (h : SR K xv F Hs O0 O ρ σ H) (e : Same H H1) (i : Nat) {xs : List D} {v : V} (r : RV K H H1 O (.nw xs) v) (hf : xvFree xv i = true := by rfl) : ∃ O', SR K xv F Hs O0 O' (ρ.set i (.ow xs)) (σ.set i (some v)) H1 := by
  obtain ⟨a, vs, rfl, h1, h2, z, h3⟩ := r
  have h' := h.same e
  refine ⟨a :: O, (h.er.grow h1 e ⟨_, h2⟩).set i ⟨a, vs, rfl, List.mem_cons_self, h2, z, h3⟩ hf, h'.st, fun b q => List.mem_cons_of_mem _ (h.sub b q), h.o0, h'.kp, fun p q b w => ?_, fun j ys b q1 q2 => ?_, fun j l ys zs b q1 q2 q3 q4 => ?_⟩
  · rcases List.mem_cons.mp w with w | w
    · subst w
      cases hp : p.2 b with
      | none => exact .inr rfl
      | some o =>
        by_cases hb : b ∈ p.1
        · exact .inl hb
        · have := h.kp p q b o hp (.inl hb)
          rw [h1] at this; cases this
    · exact h.old p q b w
  · rcases set_get q1 with ⟨e1, q⟩ | ⟨n, q⟩
    · subst e1
      rcases set_get q2 with ⟨_, w⟩ | ⟨n, _⟩
      · cases w
        exact h.st.free h1
      · exact absurd rfl n
    · rw [List.getElem?_set_ne n] at q2
      exact h.own j ys b q q2
  · have nw : ∀ {l : Nat} {zs : List D}, ρ[l]? = some (.ow zs) → σ[l]? = some (some (.ref a)) → False := fun {l zs} w1 w2 => by
      obtain ⟨a', vs', w3, _, w4, _⟩ := h.er.getO w1
      rw [w2] at w3
      cases w3
      rw [h1] at w4; cases w4
    rcases set_get q1 with ⟨e1, q⟩ | ⟨n, q⟩
    · rcases set_get q2 with ⟨e2, q'⟩ | ⟨n', q'⟩
      · rw [← e1, ← e2]
      · subst e1
        rcases set_get q3 with ⟨_, w⟩ | ⟨nn, _⟩
        · cases w
          rw [List.getElem?_set_ne n'] at q4
          exact (nw q' q4).elim
        · exact absurd rfl nn
    · rcases set_get q2 with ⟨e2, q'⟩ | ⟨n', q'⟩
      · subst e2
        rcases set_get q4 with ⟨_, w⟩ | ⟨nn, _⟩
        · cases w
          rw [List.getElem?_set_ne n] at q3
          exact (nw q q3).elim
        · exact absurd rfl nn
      · rw [List.getElem?_set_ne n] at q3
        rw [List.getElem?_set_ne n'] at q4
        exact h.inj j l ys zs b q q' q3 q4
/-- an owned list changes -/
theorem SR.mut (h : SR K xv F Hs O0 O ρ σ H) {i : Nat} {xs xs' : List D} {a : Addr} {vs vs' : List V} (h1 : ρ[i]? = some (.ow xs)) (h2 : σ[i]? = some (some (.ref a))) (h3 : H a = some (.lst vs)) (ha : a ∈ O) (z : vs'.length ≤ lB) (r : RpL K H O xs' vs') :
    SR K xv F Hs O0 O (ρ.set i (.ow xs')) σ (upd H a (.lst vs')) := by
  have kp : Kp O H (upd H a (.lst vs')) := fun b o q w => by
    by_cases hb : b = a
    · subst hb
      rw [h3] at q; cases q
      rcases w with w | w
      · exact absurd ha w
      · cases w
    · rw [upd_ne hb]; exact q
  have hs : Hs a = none := h.own i xs a h1 h2
  refine ⟨⟨by rw [List.length_set]; exact h.er.len, fun b q => ?_, h.er.ex, fun j s o q1 q2 => ?_⟩, fun b o q => ?_, h.sub, h.o0, fun p q => (h.kp p q).trans kp (h.old p q), h.old, fun j ys b q1 q2 => ?_, fun j l ys zs b q1 q2 q3 q4 => ?_⟩
  · by_cases hb : b = a
    · subst hb; exact ⟨_, upd_same⟩
    · obtain ⟨o, w⟩ := h.er.tr b q
      exact ⟨o, by rw [upd_ne hb]; exact w⟩
  · rcases set_get q1 with ⟨e, w⟩ | ⟨n, w⟩
    · subst e
      subst w
      rw [h2] at q2; cases q2
      exact ⟨a, vs', rfl, ha, upd_same, z, r.mono kp fun _ q => q⟩
    · have sr := h.er.sl j s o w q2
      cases s with
      | un => trivial
      | fr d => obtain ⟨v, w1, w2⟩ := sr; exact ⟨v, w1, w2.mono kp fun _ q => q⟩
      | ow ys =>
        obtain ⟨b, ws, w1, w2, w3, w4, w5⟩ := sr
        subst w1
        have hb : b ≠ a := fun e => by
          subst e
          exact n (h.inj i j xs ys b h1 w h2 q2)
        exact ⟨b, ws, rfl, w2, by rw [upd_ne hb]; exact w3, w4, w5.mono kp fun _ q => q⟩
  · have hb : b ≠ a := ne_of_none q hs
    rw [upd_ne hb]; exact h.st b o q
  · rcases set_get q1 with ⟨e, w⟩ | ⟨n, w⟩
    · subst e; exact h.own i xs b h1 q2
    · exact h.own j ys b w q2
  · have go : ∀ {j : Nat} {ys : List D}, (ρ.set i (.ow xs'))[j]? = some (.ow ys) → ∃ ys', ρ[j]? = some (.ow ys') := fun {j ys} w => by
      rcases set_get w with ⟨e, _⟩ | ⟨_, w⟩
      · subst e; exact ⟨_, h1⟩
      · exact ⟨_, w⟩
    obtain ⟨ys', w1⟩ := go q1
    obtain ⟨zs', w2⟩ := go q2
    exact h.inj j l ys' zs' b w1 w2 q3 q4
/-- an owned list is shared from now on -/
theorem SR.frz (h : SR K xv F Hs O0 O ρ σ H) {i : Nat} {xs : List D} (h1 : ρ[i]? = some (.ow xs)) : ∃ O', SR K xv F Hs O0 O' (ρ.set i (.fr (.lst xs))) σ H := by
  obtain ⟨a, vs, w1, w2, w3, w4, w5⟩ := h.er.getO h1
  have hs : Hs a = none := h.own i xs a h1 w1
  have sb : ∀ b, b ∈ O.filter (fun b => decide (b ≠ a)) → b ∈ O := fun b q => (List.mem_filter.mp q).1
  have kp : Kp O H H := Kp.of (Same.refl _)
  have hin : ∀ b, b ∈ O → b ≠ a → b ∈ O.filter (fun b => decide (b ≠ a)) := fun b q n => List.mem_filter.mpr ⟨q, by simpa using n⟩
  have n0 : ∀ b, b ∈ O0 → b ≠ a := fun b q e => by
    subst e
    obtain ⟨o, w⟩ := h.o0 b q
    rw [hs] at w; cases w
  refine ⟨O.filter (fun b => decide (b ≠ a)), ⟨⟨by rw [List.length_set]; exact h.er.len, fun b q => h.er.tr b (sb b q), h.er.ex, fun j s o q1 q2 => ?_⟩, h.st, fun b q => hin b (h.sub b q) (n0 b q), h.o0, h.kp, fun p q b w => h.old p q b (sb b w), fun j ys b q1 q2 => ?_, fun j l ys zs b q1 q2 q3 q4 => ?_⟩⟩
  · rcases set_get q1 with ⟨e, w⟩ | ⟨n, w⟩
    · subst e
      subst w
      rw [w1] at q2; cases q2
      refine ⟨_, rfl, .lst w3 (fun q => ?_) w4 (w5.mono kp sb)⟩
      have := (List.mem_filter.mp q).2
      simp at this
    · have sr := h.er.sl j s o w q2
      cases s with
      | un => trivial
      | fr d => obtain ⟨v, w1, w2⟩ := sr; exact ⟨v, w1, w2.mono kp sb⟩
      | ow ys =>
        obtain ⟨b, ws, x1, x2, x3, x4, x5⟩ := sr
        subst x1
        have hb : b ≠ a := fun e => by
          subst e
          exact n (h.inj i j xs ys b h1 w w1 q2)
        exact ⟨b, ws, rfl, hin b x2 hb, x3, x4, x5.mono kp sb⟩
  · rcases set_get q1 with ⟨e, w⟩ | ⟨n, w⟩
    · cases w
    · exact h.own j ys b w q2
  · rcases set_get q1 with ⟨e, w⟩ | ⟨n, w⟩
    · cases w
    rcases set_get q2 with ⟨e, w'⟩ | ⟨n', w'⟩
    · cases w'
    exact h.inj j l ys zs b w w' q3 q4
end

/-! ### what a statement hands on -/
inductive Out where
  | nx (ρ : En) | rt (r : Val) | bk (ρ : En) | ct (ρ : En) | exc (c : Str) (ρ : En) | stuck
section
variable (X : Cx) (xv : XV) (W : WX)
def GS (F : Frm) (Hs : Hp) (O0 : List Addr) (o : Out) (D : Ends) : Prop := match o with
  | .nx ρ => ∀ σ H O, SR X.K xv F Hs O0 O ρ σ H → D.nx σ H
  | .bk ρ => ∀ σ H O, SR X.K xv F Hs O0 O ρ σ H → D.bk σ H
  | .ct ρ => ∀ σ H O, SR X.K xv F Hs O0 O ρ σ H → D.ct σ H
  | .rt r => ∀ v H, Same Hs H → RV X.K Hs H O0 r v → D.rt v H
  | .exc c ρ => ∀ σ H O C, SR X.K xv F Hs O0 O ρ σ H → X.mg c = some C → W C none σ H
  | .stuck => False
def SS (py : Stmt) (t : TS) (g : En → Out) : Prop := PS X py t ∧ ∀ F Hs O0 O ρ σ H D, SR X.K xv F Hs O0 O ρ σ H → GS X xv W F Hs O0 (g ρ) D → t D σ H
def SSs (py : List Stmt) (t : TS) (g : En → Out) : Prop := PSs X py t ∧ ∀ F Hs O0 O ρ σ H D, SR X.K xv F Hs O0 O ρ σ H → GS X xv W F Hs O0 (g ρ) D → t D σ H
end
/-- an evaluation ahead of what a statement does with it -/
def R.out {α : Type} (r : R α) (ρ : En) (k : α → Out) : Out := match r with
  | .ok x => k x
  | .exc c => .exc c ρ
  | .stuck => .stuck
section
variable {X : Cx} {xv : XV} {W : WX}
theorem GS.out {α β : Type} {rel : Hp → Hp → α → β → Prop} {F : Frm} {Hs : Hp} {O0 O : List Addr} {r : R α} {ρ : En} {k : α → Out} {D : Ends} {σ : L2.St} {H : Hp} {P : β → Hp → Prop} (s : SR X.K xv F Hs O0 O ρ σ H)
    (h : GS X xv W F Hs O0 (r.out ρ k) D) (hk : ∀ x v H1, r = .ok x → Same H H1 → rel H H1 x v → GS X xv W F Hs O0 (k x) D → P v H1) : Gk X W rel σ H r P := by
  cases r with
  | ok x => exact fun v H1 e q => hk x v H1 rfl e q h
  | exc c => exact fun H' C e m => h σ H' O C (s.same e) m
  | stuck => exact h
def oNx : En → Out := fun ρ => .nx ρ
def oSeq (f g : En → Out) : En → Out := fun ρ => match f ρ with
  | .nx ρ' => g ρ'
  | o => o
theorem Ss_nil : SSs X xv W [] tNext oNx := ⟨pss_nil, fun F Hs O0 O ρ σ H D s h => h σ H O s⟩
theorem Ss_cons {st : Stmt} {rest : List Stmt} {t u : TS} {f g : En → Out} (h1 : SS X xv W st t f) (h2 : SSs X xv W rest u g) : SSs X xv W (st :: rest) (tSeq t u) (oSeq f g) := by
  refine ⟨pss_cons h1.1 h2.1, fun F Hs O0 O ρ σ H D s h => h1.2 F Hs O0 O ρ σ H _ s ?_⟩
  unfold oSeq at h
  cases hf : f ρ with
  | nx ρ' => rw [hf] at h; exact fun σ' H' O' s' => h2.2 F Hs O0 O' ρ' σ' H' D s' h
  | bk ρ' => rw [hf] at h; exact h
  | ct ρ' => rw [hf] at h; exact h
  | rt r => rw [hf] at h; exact h
  | exc c ρ' => rw [hf] at h; exact h
  | stuck => rw [hf] at h; exact h
theorem Ss_one {st : Stmt} {t : TS} {f : En → Out} (h1 : SS X xv W st t f) : SSs X xv W [st] t f := ⟨pss_one h1.1, h1.2⟩
/-- ahead of a block: lists of these slots are shared from now on -/
def frz1 (ρ : En) (i : Nat) : En := match ρ[i]? with
  | some (.ow xs) => ρ.set i (.fr (.lst xs))
  | _ => ρ
def frzE (is : List Nat) (ρ : En) : En := is.foldl frz1 ρ
def oFrz (is : List Nat) (g : En → Out) : En → Out := fun ρ => g (frzE is ρ)
theorem SR.frzs {F : Frm} {Hs : Hp} {O0 : List Addr} {σ : L2.St} {H : Hp} : ∀ (is : List Nat) {O : List Addr} {ρ : En}, SR X.K xv F Hs O0 O ρ σ H → ∃ O', SR X.K xv F Hs O0 O' (frzE is ρ) σ H
  | [], O, ρ, s => ⟨O, s⟩
  | i :: is, O, ρ, s => by
    have : ∃ O', SR X.K xv F Hs O0 O' (frz1 ρ i) σ H := by
      unfold frz1
      cases h : ρ[i]? with
      | none => exact ⟨O, s⟩
      | some sl =>
        cases sl with
        | ow xs => exact s.frz h
        | un => exact ⟨O, s⟩
        | fr d => exact ⟨O, s⟩
    obtain ⟨O', s'⟩ := this
    exact SR.frzs is s'
theorem Ss_frz (is : List Nat) {rest : List Stmt} {t : TS} {g : En → Out} (h : SSs X xv W rest t g) : SSs X xv W rest t (oFrz is g) := by
  refine ⟨h.1, fun F Hs O0 O ρ σ H D s k => ?_⟩
  obtain ⟨O', s'⟩ := s.frzs is
  exact h.2 F Hs O0 O' _ σ H D s' k
theorem S_pass {pos : Pos} : SS X xv W (.Pass pos) tNext oNx := ⟨ps_pass, fun F Hs O0 O ρ σ H D s h => h σ H O s⟩
def oBk : En → Out := fun ρ => .bk ρ
def oCt : En → Out := fun ρ => .ct ρ
theorem S_break {pos : Pos} : SS X xv W (.Break pos) tBreak oBk := ⟨ps_break, fun F Hs O0 O ρ σ H D s h => h σ H O s⟩
theorem S_continue {pos : Pos} : SS X xv W (.Continue pos) tCont oCt := ⟨ps_continue, fun F Hs O0 O ρ σ H D s h => h σ H O s⟩
def oSet (i : Nat) (f : En → R Val) : En → Out := fun ρ => (f ρ).out ρ fun x => .nx (ρ.set i x.slot)
theorem S_set {i : Nat} {x : Str} {e : Expr} {te : TE} {pos pos' : Pos} {f : En → R Val} (he : SE X xv W e te f) (p : PS X (.Assign [.Name x pos'] e pos) (tAsg te (gName i))) (hxf : xvFree xv i = true := by rfl) : SS X xv W (.Assign [.Name x pos'] e pos) (tAsg te (gName i)) (oSet i f) := by
  refine ⟨p, fun F Hs O0 O ρ σ H D s h => he.2 σ H ρ O _ s.er (GS.out s h fun v w H1 _ e1 r k => ?_)⟩
  cases v with
  | fr d => exact k _ H1 O ((s.same e1).setF i r hxf)
  | nw xs =>
    obtain ⟨O', s'⟩ := s.setN e1 i r hxf
    exact k _ H1 O' s'
def oAsg (is : List Nat) (b : D → R (List D)) (f : En → R Val) : En → Out := fun ρ => (f ρ).out ρ fun x => match b x.d with
  | .ok ds => .nx (setE ρ is ds)
  | _ => .stuck
theorem S_asg {tg e : Expr} {te : TE} {g : TG} {pos : Pos} {is : List Nat} {b : D → R (List D)} {f : En → R Val} (he : SE X none W e te f) (hg : SG X tg g is b)
    (hs : swapsWithSole [tg] e pos.line X.env = pure false := by rfl) (hw : swappedStores [tg] e X.env = pure none := by rfl) (h1 : (assignEach [tg] X.env).map (·.2) = [assign tg X.env] := by rfl) : SS X none W (.Assign [tg] e pos) (tAsg te g) (oAsg is b f) := by
  refine ⟨ps_asg he.1 hg.1 hs hw h1, fun F Hs O0 O ρ σ H D s h => he.2 σ H ρ O _ s.er (GS.out s h fun x v H1 _ e1 r k => ?_)⟩
  cases hb : b x.d with
  | stuck => rw [hb] at k; exact k.elim
  | exc c => rw [hb] at k; exact k.elim
  | ok ds =>
    rw [hb] at k
    exact hg.2.2 x.d v σ H1 O _ ds (r.rp s.er.tr) hb fun vs rs => k _ H1 O ((s.same e1).setAll rs)
/-- a, b = e, e' with two plain local names -/
def oPar (i j : Nat) (g : En → R (List D)) : En → Out := fun ρ => (g ρ).out ρ fun ds => match ds with
  | [x, y] => .nx ((ρ.set i (.fr x)).set j (.fr y))
  | _ => .stuck
theorem S_par {i j : Nat} {x y : Str} {a b : Expr} {ta : TA} {px py pt : Pos} {kt k2 : Nat} {pt2 pos : Pos} {g : En → R (List D)} (hc : X.calm = true) (hN : X.N.Nodup) (hi : X.N[i]? = some x) (hj : X.N[j]? = some y) (hij : i ≠ j)
    (hx : X.env.scope.names.lookup x = some .local) (hy : X.env.scope.names.lookup y = some .local) (ha : SA X none W [a, b] 2 ta g)
    (hw : swappedStores [.Tuple [.Name x px, .Name y py] kt pt] (.Tuple [a, b] k2 pt2) X.env = pure (some [x, y]) := by rfl)
    (hs : swapsWithSole [.Tuple [.Name x px, .Name y py] kt pt] (.Tuple [a, b] k2 pt2) pos.line X.env = pure false := by rfl) : SS X none W (.Assign [.Tuple [.Name x px, .Name y py] kt pt] (.Tuple [a, b] k2 pt2) pos) (tPar i j ta) (oPar i j g) := by
  refine ⟨ps_par hc hN hi hj hij hx hy ha.2.1 hw hs, fun F Hs O0 O ρ σ H D s h => ha.2.2 σ H ρ O _ s.er (GS.out s h fun ds vs H1 _ e1 r k => ?_)⟩
  cases r with
  | nil => exact k.elim
  | cons r1 r =>
    cases r with
    | nil => exact k.elim
    | cons r2 r =>
      cases r with
      | nil => exact ⟨_, _, rfl, k _ H1 O (((s.same e1).setF i r1).setF j r2)⟩
      | cons _ _ => exact k.elim
def oRet (f : En → R Val) : En → Out := fun ρ => (f ρ).out ρ fun x => .rt x
theorem S_ret {e : Expr} {te : TE} {pos : Pos} {f : En → R Val} (he : SE X xv W e te f) : SS X xv W (.Return (some e) pos) (tRet te) (oRet f) := by
  refine ⟨ps_ret he.1, fun F Hs O0 O ρ σ H D s h => he.2 σ H ρ O _ s.er (GS.out s h fun v w H1 _ e1 r k => ?_)⟩
  refine k w H1 (s.st.trans e1) ?_
  have r := r.back s.st
  cases v with
  | fr d => exact Rp.mono (Kp.of (Same.refl _)) s.sub r
  | nw xs =>
    obtain ⟨a, vs, h1, h2, h3, z, h4⟩ := r
    exact ⟨a, vs, h1, h2, h3, z, h4.mono (Kp.of (Same.refl _)) fun b q => (List.mem_cons.mp q).elim (fun q => by rw [q]; exact List.mem_cons_self) fun q => List.mem_cons_of_mem _ (s.sub b q)⟩
def oRetN : En → Out := fun _ => .rt (.fr .non)
theorem S_retN {pos : Pos} : SS X xv W (.Return none pos) tRetN oRetN := ⟨ps_retN, fun F Hs O0 O ρ σ H D s h => h .non H s.st .non⟩
/-- return xs, a list of the def's own: it goes out as it is -/
def oRetO (i : Nat) : En → Out := fun ρ => match ρ[i]? with
  | some (.ow xs) => .rt (.nw xs)
  | some (.fr d) => .rt (.fr d)
  | _ => .stuck
theorem S_retO {i : Nat} {x : Str} {pos pos' : Pos} (p : PE X (.Name x pos') (tVar i)) : SS X xv W (.Return (some (.Name x pos')) pos) (tRet (tVar i)) (oRetO i) := by
  refine ⟨ps_ret p, fun F Hs O0 O ρ σ H D s h => ?_⟩
  unfold oRetO at h
  cases hi : ρ[i]? with
  | none => rw [hi] at h; exact h.elim
  | some sl =>
    rw [hi] at h
    cases sl with
    | un => exact h.elim
    | fr d =>
      obtain ⟨v, hv, r⟩ := s.er.get hi
      exact ⟨v, hv, h v H s.st (Rp.mono (Kp.of (Same.refl _)) s.sub r)⟩
    | ow xs =>
      obtain ⟨a, vs, hv, ha, hl, z, r⟩ := s.er.getO hi
      exact ⟨_, hv, h _ H s.st ⟨a, vs, rfl, s.own i xs a hi hv, hl, z, r.mono (Kp.of (Same.refl _)) fun b q => (List.mem_cons.mp q).elim (fun q => by rw [q]; exact ha) (s.sub b)⟩⟩
def oDrop (f : En → R Val) : En → Out := fun ρ => (f ρ).out ρ fun _ => .nx ρ
theorem S_expr {e : Expr} {te : TE} {pos : Pos} {f : En → R Val} (he : SE X xv W e te f) (hs : swapsWith e none pos.line X.env = pure false := by rfl) : SS X xv W (.Expr e pos) (tDrop te) (oDrop f) :=
  ⟨ps_expr he.1 hs, fun F Hs O0 O ρ σ H D s h => he.2 σ H ρ O _ s.er (GS.out s h fun v w H1 _ e1 r k => k _ H1 O (s.same e1))⟩
def oIf (c : En → R Bool) (f g : En → Out) : En → Out := fun ρ => (c ρ).out ρ fun b => if b then f ρ else g ρ
theorem S_if {c : Expr} {a b : List Stmt} {tc : TT} {t u : TS} {pos : Pos} {cf : En → R Bool} {f g : En → Out} (hc : ST X xv W c tc cf) (ha : SSs X xv W a t f) (hb : SSs X xv W b u g) : SS X xv W (.If c a b pos) (tIfS tc t u) (oIf cf f g) := by
  refine ⟨ps_if hc.1 ha.1 hb.1, fun F Hs O0 O ρ σ H D s h => hc.2 σ H ρ O _ s.er (GS.out s h fun v w H1 _ e1 r k => ?_)⟩
  subst r
  cases w with
  | true => exact iteT (ha.2 F Hs O0 O ρ σ H1 D (s.same e1) k)
  | false => exact iteF (hb.2 F Hs O0 O ρ σ H1 D (s.same e1) k)
def oRaise (c : Str) : En → Out := fun ρ => .exc c ρ
theorem S_raise {x : Str} {e : Expr} {C : Addr} {pos : Pos} (hc : X.calm = true) (tk : Takes X W) (he : PMk X e (fun _ H Q => Q (.ref C) none H)) (gC : X.mg x = some (.ref C)) : SS X xv W (.Raise (some e) none pos) (fun _ σ H => W (.ref C) none σ H) (oRaise x) :=
  ⟨ps_raise hc tk he, fun F Hs O0 O ρ σ H D s h => h σ H O (.ref C) s gC⟩
/-- x += e -/
def oAug (i : Nat) (op : D → D → Option D) (f : En → R D) : En → Out := fun ρ => match ρ[i]? with
  | some (.fr d) => (f ρ).out ρ fun y => match op d y with
    | some z => .nx (ρ.set i (.fr z))
    | none => .stuck
  | _ => .stuck
theorem S_aug {i : Nat} {x : Str} {e : Expr} {te : TE} {op : Operator} {r : R2} {dop : D → D → Option D} {pos' pos : Pos} {f : En → R D} (hN : X.N.Nodup) (hi : X.N[i]? = some x) (hx : Loc X.env.scope x) (he : SB X xv W e te f) (ho : OpS X (inplaceOp op) r dop) (hxf : xvFree xv i = true := by rfl)
    (hf : X.fn x = true ∨ X.env.scope.names.lookup x = some .local := by first | exact .inl rfl | exact .inr rfl | assumption) : SS X xv W (.AugAssign (.Name x pos') op e pos) (tAug i te r) (oAug i dop f) := by
  obtain ⟨h1, h2⟩ := ho.ex
  refine ⟨ps_aug hN hi hx he.1 h1 hf, fun F Hs O0 O ρ σ H D s h => ?_⟩
  unfold oAug at h
  cases hi : ρ[i]? with
  | none => rw [hi] at h; exact h.elim
  | some sl =>
    rw [hi] at h
    cases sl with
    | un => exact h.elim
    | ow xs => exact h.elim
    | fr d =>
      obtain ⟨v, hv, rv⟩ := s.er.get hi
      refine ⟨v, hv, he.2 σ H ρ O _ s.er (GS.out s h fun y w H1 _ e1 r1 k => ?_)⟩
      cases hd : dop d y with
      | none => rw [hd] at k; exact k.elim
      | some z =>
        rw [hd] at k
        obtain ⟨u, hu, hq⟩ := h2 H1 d y v w (fun z H2 => D.nx (σ.set i (some z)) H2) z (rv.zero.same e1) r1 hd
        exact hq (k _ H1 O ((s.same e1).setF i (toV_rp hu _ _ _) hxf))
def dAddI := ii (fun _ _ => true) fun i j => .int (i + j)
theorem a_add : OpS X (inplaceOp .Add) (rI0 fun i j => .int (i + j)) dAddI := opS_ii0 iop_add fun _ _ => rfl
theorem a_sub : OpS X (inplaceOp .Sub) (rI0 fun i j => .int (i - j)) dSub := opS_ii0 iop_sub fun _ _ => rfl
theorem a_mul : OpS X (inplaceOp .Mult) (rI (fun i j => IntMulOk i j) fun i j => .int (i * j)) dMul := by
  have h : OpR X (inplaceOp .Mult) (rI (fun i j => IntMulOk i j) fun i j => .int (i * j)) := opI fun _ _ _ _ _ _ _ hc q => imul_int q hc
  exact opS_ii h (fun i j hc => mulOk_ok hc) fun _ _ => rfl

/-! ### lists of one's own -/
theorem MtR_of {id : String} {r : V → List V → Hp → VK → Prop} (h : MtM X id r) : MtR X id r := h
/-- a list of one's own in a slot, changed by what is reckoned -/
def ownOut (i : Nat) (k : List D → Out) : En → Out := fun ρ => match ρ[i]? with
  | some (.ow xs) => k xs
  | _ => .stuck
def grdO (b : Bool) (o : Out) : Out := match b with
  | true => o
  | false => .stuck
theorem GS.own {F : Frm} {Hs : Hp} {O0 : List Addr} {i : Nat} {k : List D → Out} {ρ : En} {Z : Ends} (h : GS X xv W F Hs O0 (ownOut i k ρ) Z) : ∃ xs, ρ[i]? = some (.ow xs) ∧ GS X xv W F Hs O0 (k xs) Z := by
  unfold ownOut at h
  cases hi : ρ[i]? with
  | none => rw [hi] at h; exact h.elim
  | some sl =>
    rw [hi] at h
    cases sl with
    | un => exact h.elim
    | fr d => exact h.elim
    | ow xs => exact ⟨xs, rfl, h⟩
theorem GS.grd {F : Frm} {Hs : Hp} {O0 : List Addr} {b : Bool} {o : Out} {Z : Ends} (h : GS X xv W F Hs O0 (grdO b o) Z) : b = true ∧ GS X xv W F Hs O0 o Z := by
  cases b with
  | false => exact h.elim
  | true => exact ⟨rfl, h⟩
def oApp (i : Nat) (f : En → R Val) : En → Out := fun ρ => ownOut i (fun xs => (f ρ).out ρ fun x => grdO (decide (xs.length < lB)) (.nx (ρ.set i (.ow (xs ++ [x.d]))))) ρ
theorem S_app {i : Nat} {x : Str} {e : Expr} {te : TE} {p1 apos cpos pos : Pos} {f : En → R Val} (p : PE X (.Name x p1) (tVar i)) (he : SE X xv W e te f)
    (hbase : attributeBase (.Name x p1) "append" X.env (eval (.Name x p1) X.env) = eval (.Name x p1) X.env := by rfl)
    (hfew : ((backTo cpos (starEach [e] X.env)).all (fun x => !x.1) && (backToKw cpos (keywordEach [] X.env)).all (fun x => x.1.isSome) && decide ([e].length + ([] : List Keyword).length + (if ([] : List Keyword).isEmpty then 0 else 1) < 30)) = true := by rfl)
    (hline : (apos.endLine == cpos.line) = true := by rfl) (hst : starEach [e] X.env = (false, eval e X.env) :: starEach [] X.env := by rfl) (hplain : (backTo cpos (starEach [] X.env)).any (·.1) = false := by rfl)
    (hs : swapsWith (.Call (.Attribute (.Name x p1) "append" apos) [e] [] cpos) none pos.line X.env = pure false := by rfl) :
    SS X xv W (.Expr (.Call (.Attribute (.Name x p1) "append" apos) [e] [] cpos) pos) (tDrop (tBM X.K "list" rAppend (tVar i) (tCons te tNil))) (oApp i f) := by
  refine ⟨ps_expr (pe_bm PySem.F.plainAttrs_list PySem.F.slot_list_append PySem.F.type_list_append mt_append p (pa1 he.1 hst) hbase hfew hline hst hplain) hs, fun F Hs O0 O ρ σ H Z s h => ?_⟩
  obtain ⟨xs, h1, h⟩ := GS.own h
  obtain ⟨a, vs, h2, h4, h3, z, h5⟩ := s.er.getO h1
  refine ⟨_, h2, .inl ⟨rfl, _, SqL.of h3⟩, he.2 σ H ρ O _ s.er (GS.out s h fun y w H1 _ e1 r k => ?_)⟩
  obtain ⟨hl, k⟩ := GS.grd k
  have hl : xs.length < lB := of_decide_eq_true hl
  have hl2 : vs.length < lB := by rw [← h5.len]; exact hl
  have s1 := s.same e1
  exact ⟨a, vs, w, rfl, rfl, e1 _ _ h3, lB_lt (Nat.le_of_lt hl2), k _ _ O (s1.mut h1 h2 (e1 _ _ h3) h4 (by rw [List.length_append]; exact hl2) ((h5.same e1).append (.cons (r.rp s.er.tr) .nil)))⟩
/-- xs.extend(ys) -/
def oExt (i : Nat) (f : En → R D) : En → Out := fun ρ => ownOut i (fun xs => (f ρ).out ρ fun x => match x with
  | .lst ys => grdO (decide (xs.length + ys.length ≤ lB)) (.nx (ρ.set i (.ow (xs ++ ys))))
  | _ => .stuck) ρ
theorem S_ext {i : Nat} {x : Str} {e : Expr} {te : TE} {p1 apos cpos pos : Pos} {f : En → R D} (p : PE X (.Name x p1) (tVar i)) (he : SQ X xv W e te f)
    (hbase : attributeBase (.Name x p1) "extend" X.env (eval (.Name x p1) X.env) = eval (.Name x p1) X.env := by rfl)
    (hfew : ((backTo cpos (starEach [e] X.env)).all (fun x => !x.1) && (backToKw cpos (keywordEach [] X.env)).all (fun x => x.1.isSome) && decide ([e].length + ([] : List Keyword).length + (if ([] : List Keyword).isEmpty then 0 else 1) < 30)) = true := by rfl)
    (hline : (apos.endLine == cpos.line) = true := by rfl) (hst : starEach [e] X.env = (false, eval e X.env) :: starEach [] X.env := by rfl) (hplain : (backTo cpos (starEach [] X.env)).any (·.1) = false := by rfl)
    (hs : swapsWith (.Call (.Attribute (.Name x p1) "extend" apos) [e] [] cpos) none pos.line X.env = pure false := by rfl) :
    SS X xv W (.Expr (.Call (.Attribute (.Name x p1) "extend" apos) [e] [] cpos) pos) (tDrop (tBM X.K "list" rExtend (tVar i) (tCons te tNil))) (oExt i f) := by
  refine ⟨ps_expr (pe_bm PySem.F.plainAttrs_list PySem.F.slot_list_extend PySem.F.type_list_extend mt_extend p (pa1 he.1 hst) hbase hfew hline hst hplain) hs, fun F Hs O0 O ρ σ H Z s h => ?_⟩
  obtain ⟨xs, h1, h⟩ := GS.own h
  obtain ⟨a, vs, h2, h4, h3, z, h5⟩ := s.er.getO h1
  refine ⟨_, h2, .inl ⟨rfl, _, SqL.of h3⟩, he.2 σ H ρ O _ s.er (GS.out s h fun y w H1 _ e1 r k => ?_)⟩
  cases y with
  | lst ys =>
    obtain ⟨b, ws, rfl, hb, z2, l2⟩ := r
    obtain ⟨hl, k⟩ := GS.grd k
    have hl : xs.length + ys.length ≤ lB := of_decide_eq_true hl
    have hl2 : vs.length + ws.length ≤ lB := by rw [← h5.len, ← l2.len]; exact hl
    have s1 := s.same e1
    exact ⟨a, b, vs, ws, rfl, rfl, e1 _ _ h3, hb, lB_line hl2, k _ _ O (s1.mut h1 h2 (e1 _ _ h3) h4 (by rw [List.length_append]; exact hl2) ((h5.same e1).append l2))⟩
  | _ => exact k.elim
/-- y = xs.pop() -/
def oPop (j i : Nat) : En → Out := fun ρ => ownOut i (fun xs => match xs[xs.length - 1]? with
  | some d => .nx ((ρ.set i (.ow xs.dropLast)).set j (.fr d))
  | none => .stuck) ρ
theorem RpL.dropLast {K : PySem.W.Frag} {H : Hp} {O : List Addr} {ds : List D} {vs : List V} (h : RpL K H O ds vs) : RpL K H O ds.dropLast vs.dropLast := by
  rw [List.dropLast_eq_take, List.dropLast_eq_take, h.len]
  exact h.take _
theorem S_pop {i j : Nat} {x y : Str} {p1 py apos cpos pos : Pos} (p : PE X (.Name x p1) (tVar i)) (hN : X.N.Nodup) (hj : X.N[j]? = some y) (hx : Loc X.env.scope y)
    (hbase : attributeBase (.Name x p1) "pop" X.env (eval (.Name x p1) X.env) = eval (.Name x p1) X.env := by rfl) (hline : (apos.endLine == cpos.line) = true := by rfl)
    (hxf : xvFree xv j = true := by rfl) (hs : swapsWith (.Call (.Attribute (.Name x p1) "pop" apos) [] [] cpos) (some (.Name y py)) pos.line X.env = pure false := by rfl) (hf : X.fn y = true ∨ X.env.scope.names.lookup y = some .local := by first | exact .inl rfl | exact .inr rfl | assumption) :
    SS X xv W (.Assign [.Name y py] (.Call (.Attribute (.Name x p1) "pop" apos) [] [] cpos) pos) (tAsg (tBM0 X.K "list" rPop (tVar i)) (gName j)) (oPop j i) := by
  refine ⟨ps_set hN hj hx (pe_bm0 PySem.F.plainAttrs_list PySem.F.slot_list_pop PySem.F.type_list_pop mt_pop p hbase hline) hs hf, fun F Hs O0 O ρ σ H Z s h => ?_⟩
  obtain ⟨xs, h1, h⟩ := GS.own h
  obtain ⟨a, vs, h2, h4, h3, z, h5⟩ := s.er.getO h1
  refine ⟨_, h2, .inl ⟨rfl, _, SqL.of h3⟩, ?_⟩
  cases hd : xs[xs.length - 1]? with
  | none => rw [hd] at h; exact h.elim
  | some d =>
    rw [hd] at h
    obtain ⟨v, hv, r⟩ := h5.get hd
    rw [h5.len] at hv
    have s1 := s.mut h1 h2 h3 h4 (xs' := xs.dropLast) (vs' := vs.dropLast) (by rw [List.length_dropLast]; omega) h5.dropLast
    refine ⟨a, vs, v, rfl, rfl, h3, hv, h _ _ O (s1.setF j (r.mono (fun b o q w => ?_) fun _ q => q) hxf)⟩
    by_cases hb : b = a
    · subst hb
      rw [h3] at q; cases q
      rcases w with w | w
      · exact absurd h4 w
      · cases w
    · rw [upd_ne hb]; exact q
/-- xs[k] = e -/
def oPut (i : Nat) (g : En → R D) (f : En → R Val) : En → Out := fun ρ => (f ρ).out ρ fun x => ownOut i (fun xs => (g ρ).out ρ fun k => match k with
  | .int k => match ixN xs.length k with
    | some j => .nx (ρ.set i (.ow (xs.set j x.d)))
    | none => .stuck
  | _ => .stuck) ρ
theorem S_put {i : Nat} {x : Str} {e k : Expr} {te tk : TE} {p1 ps pos : Pos} {f : En → R Val} {g : En → R D} (p : PE X (.Name x p1) (tVar i)) (he : SE X xv W e te f) (hk : SB X xv W k tk g)
    (ha : ∀ v, assign (.Subscript (.Name x p1) k ps) X.env v = (do
      let ov ← holding [v] (eval (.Name x p1) X.env)
      let iv ← holding [v, ov] (eval k X.env)
      standAt ps
      holding [v, ov, iv] (setItem ov iv v)
      release [v, ov, iv] []) := by intro _; rfl)
    (hs : swapsWithSole [.Subscript (.Name x p1) k ps] e pos.line X.env = pure false := by rfl) (hw : swappedStores [.Subscript (.Name x p1) k ps] e X.env = pure none := by rfl) (h1 : (assignEach [.Subscript (.Name x p1) k ps] X.env).map (·.2) = [assign (.Subscript (.Name x p1) k ps) X.env] := by rfl) :
    SS X xv W (.Assign [.Subscript (.Name x p1) k ps] e pos) (tAsg te (gSub (tVar i) tk rSetL)) (oPut i g f) := by
  refine ⟨ps_asg he.1 (pg_sub p hk.1 set_list ha) hs hw h1, fun F Hs O0 O ρ σ H Z s h => he.2 σ H ρ O _ s.er (GS.out s h fun y w H1 _ e1 r h => ?_)⟩
  have tr0 := s.er.tr
  have s := s.same e1
  obtain ⟨xs, h1, h⟩ := GS.own h
  obtain ⟨a, vs, h2, h4, h3, z, h5⟩ := s.er.getO h1
  refine ⟨_, h2, hk.2 σ H1 ρ O _ s.er (GS.out s h fun kk u H2 _ e2 r2 h => ?_)⟩
  have s := s.same e2
  cases kk with
  | int n =>
    cases r2
    cases hj : ixN xs.length n with
    | none => simp only [hj] at h; exact h.elim
    | some j =>
      simp only [hj] at h
      have h3 := e2 _ _ h3
      refine ⟨a, vs, n, j, rfl, rfl, h3, by rw [← h5.len]; exact hj, h _ _ O (s.mut h1 h2 h3 h4 (by rw [List.length_set]; exact z) (RpL.set ?_ j (h5.same e2)))⟩
      exact (r.same e2).rp tr0
  | _ => exact h.elim
end
end Lt

set_option Elab.async false
set_option linter.all false
set_option autoImplicit false
set_option maxRecDepth 100000
set_option maxHeartbeats 4000000
namespace Lt
open PySem PySem.Spec PyProof.Rows L2
section
variable {X : Cx} {xv : XV} {W : WX}
/-- y = [..] on one line -/
theorem S_setLc {i : Nat} {y : Str} {py : Pos} {elt tg iter : Expr} {ifs : List Expr} {scope : Scope} {own : List (Str × Nat)} {pos spos : Pos} {wi : TI} {fi : En → R (List D)} {is : List Nat} {b : D → R (List D)} {c : En → R Bool} {f : En → R Val}
    (hc : X.calm = true) (hN : X.N.Nodup) (hy : X.N[i]? = some y) (hyl : X.env.scope.names.lookup y = some .local) (hsw : swapsWith (.ListComp elt [⟨tg, iter, ifs, 0⟩] scope pos) (some (.Name y py)) spos.line X.env = pure true)
    (hi : SIt X none W stS tg iter wi fi) (ok : BlkOk X.N X.env.scope scope own)
    (hg : ∀ (s : Shared) (H : Hp) (C : Addr) (cl : List (Str × Addr)) (fp : List Addr), ∃ g, SG (X.blk s H scope (compEnvC scope cl C X.env) fp) tg g is b)
    (ht : ∀ (s : Shared) (H : Hp) (C : Addr) (cl : List (Str × Addr)) (fp : List Addr), ∃ t, SPT (X.blk s H scope (compEnvC scope cl C X.env) fp) none W0 ifs t c)
    (he : ∀ (s : Shared) (H : Hp) (C : Addr) (cl : List (Str × Addr)) (fp : List Addr), ∃ t, SE (X.blk s H scope (compEnvC scope cl C X.env) fp) none W0 elt t f)
    (hin : is.all (fun i => (own.map (·.2)).contains i) = true := by decide) (hs : ∀ x, foldedSetIterable iter X.env x = pure x := by intro _; rfl) :
    SS X none W (.Assign [.Name y py] (.ListComp elt [⟨tg, iter, ifs, 0⟩] scope pos) spos) (tAsg (tLc wi (tcG X is b) (tcT X none W0 c) (tcE X none W0 f) (own.map (·.2))) (gName i)) (oSet i (sLc fi (own.map (·.2)) is b c f)) := by
  refine ⟨ps_setLc (g := tcG X is b) (tt := tcT X none W0 c) (te := tcE X none W0 f) hc hN hy hyl hsw hi.1 ok (fun s H C cl fp => (SG.can (hg s H C cl fp)).1) (fun s H C cl fp => (SPT.can (ht s H C cl fp)).1) (fun s H C cl fp => (SE.can (he s H C cl fp)).1) hs, fun F Hs O0 O ρ σ H D s h => ?_⟩
  refine (E_lc (pos := pos) hc hN hi ok hg ht he hin hs).2 σ H ρ O _ s.er (GS.out s h fun v w H1 _ e1 r k => ?_)
  cases v with
  | fr d => exact k _ H1 O ((s.same e1).setF i r)
  | nw xs =>
    obtain ⟨O', s'⟩ := s.setN e1 i r
    exact k _ H1 O' s'

/-! ### for -/
def forL (is : List Nat) (b : D → R (List D)) (body : En → Out) : List D → En → Out
  | [], ρ => .nx ρ
  | x :: xs, ρ => match b x with
    | .ok ds => match body (setE ρ is ds) with
      | .nx ρ' => forL is b body xs ρ'
      | .ct ρ' => forL is b body xs ρ'
      | .bk ρ' => .nx ρ'
      | o => o
    | _ => .stuck
def oFor (fi : En → R (List D)) (is : List Nat) (b : D → R (List D)) (body : En → Out) : En → Out := fun ρ => (fi ρ).out ρ fun xs => grdO (decide (xs.length ≤ lB)) (forL is b body xs ρ)
theorem GS.weak {F F' : Frm} {Hs : Hp} {O0 : List Addr} {o : Out} {D : Ends} (h : GS X xv W F Hs O0 o D) (s : ∀ p ∈ F, p ∈ F') : GS X xv W F' Hs O0 o D := by
  cases o with
  | nx ρ => exact fun σ H O q => h σ H O (q.weak s)
  | bk ρ => exact fun σ H O q => h σ H O (q.weak s)
  | ct ρ => exact fun σ H O q => h σ H O (q.weak s)
  | rt r => exact h
  | exc c ρ => exact fun σ H O C q => h σ H O C (q.weak s)
  | stuck => exact h
theorem S_for {tg iter : Expr} {body : List Stmt} {wi : TI} {g : TG} {tb : TS} {pos : Pos} {fi : En → R (List D)} {is : List Nat} {b : D → R (List D)} {f : En → Out} (hp : PassesOwn (model X.prog X.w) X.A X.env X.xe) (hc : X.calm = true)
    (hi : SIt X none W Kp tg iter wi fi) (hg : SG X tg g is b) (hb : SSs X none W body tb f) (hs : ∀ x, foldedSetIterable iter X.env x = pure x := by intro _; rfl) : SS X none W (.For tg iter body [] pos) (tFor wi g tb) (oFor fi is b f) := by
  refine ⟨ps_for hp hc hi.1 hg.1 hb.1 hs, fun F Hs O0 O ρ σ H D s h => hi.2 σ H ρ O _ s.er ?_⟩
  unfold oFor at h
  cases hf : fi ρ with
  | stuck => rw [hf] at h; exact h.elim
  | exc c => rw [hf] at h; exact fun H' C e m => h σ H' O C (s.same e) m
  | ok xs =>
    rw [hf] at h
    have h : GS X none W F Hs O0 (grdO (decide (xs.length ≤ lB)) (forL is b f xs ρ)) D := h
    obtain ⟨hl, h⟩ := GS.grd h
    intro _ J H1 G Y e1 w hG hY
    have s1 := (s.same e1).frame
    refine for_it (n := xs.length) w (fun i σ' H' => ∃ ρ' O', SR X.K none ((O, H1) :: F) Hs O0 O' ρ' σ' H' ∧ GS X none W F Hs O0 (forL is b f (xs.drop i) ρ') D) ⟨ρ, O, s1, h⟩ (fun i σ' H' _ p => ?_) (fun i x σ' H2 H3 hi' p hy => ?_) (fun σ' H' p => ?_)
    · obtain ⟨ρ', O', s', _⟩ := p
      exact hG H' (s'.kp _ List.mem_cons_self)
    · obtain ⟨ρ', O', s', h'⟩ := p
      have k12 := s'.kp _ List.mem_cons_self
      obtain ⟨e23, hx⟩ := hY i H2 x H3 k12 hy
      have hd : xs[i]? = some xs[i] := List.getElem?_eq_getElem hi'
      have rx := hx _ hd O' fun a q => s'.old _ List.mem_cons_self a q
      rw [List.drop_eq_getElem_cons hi'] at h'
      unfold forL at h'
      cases hbx : b xs[i] with
      | stuck => rw [hbx] at h'; exact h'.elim
      | exc c => rw [hbx] at h'; exact h'.elim
      | ok ds =>
        rw [hbx] at h'
        refine hg.2.2 _ x σ' H3 O' _ ds rx hbx fun vs rs => ?_
        have s3 := (s'.same e23).setAll (is := is) rs
        refine hb.2 ((O, H1) :: F) Hs O0 O' _ _ H3 _ s3 ?_
        cases hbody : f (setE ρ' is ds) with
        | nx ρ2 => simp only [hbody] at h'; exact fun σ4 H4 O4 s4 => ⟨ρ2, O4, s4, h'⟩
        | ct ρ2 => simp only [hbody] at h'; exact fun σ4 H4 O4 s4 => ⟨ρ2, O4, s4, h'⟩
        | bk ρ2 => simp only [hbody] at h'; exact fun σ4 H4 O4 s4 => h' σ4 H4 O4 (s4.weak fun p q => List.mem_cons_of_mem _ q)
        | rt r => simp only [hbody] at h'; exact h'
        | exc c ρ2 => simp only [hbody] at h'; exact fun σ4 H4 O4 C s4 => h' σ4 H4 O4 C (s4.weak fun p q => List.mem_cons_of_mem _ q)
        | stuck => simp only [hbody] at h'; exact h'
    · obtain ⟨ρ', O', s', h'⟩ := p
      rw [List.drop_length] at h'
      exact h' σ' H' O' (s'.weak fun p q => List.mem_cons_of_mem _ q)

/-! ### while -/
def whL (c : En → R Bool) (body : En → Out) : Nat → En → Out
  | 0, _ => .stuck
  | n + 1, ρ => match c ρ with
    | .ok true => match body ρ with
      | .nx ρ' => whL c body n ρ'
      | .ct ρ' => whL c body n ρ'
      | .bk ρ' => .nx ρ'
      | o => o
    | .ok false => .nx ρ
    | .exc e => .exc e ρ
    | .stuck => .stuck
theorem S_while (n : Nat) {c : Expr} {body : List Stmt} {tc : TT} {tb : TS} {pos : Pos} {cf : En → R Bool} {f : En → Out} (hp : PassesOwn (model X.prog X.w) X.A X.env X.xe) (hc : ST X xv W c tc cf) (hb : SSs X xv W body tb f) : SS X xv W (.While c body [] pos) (tWhile tc tb) (whL cf f n) := by
  refine ⟨ps_while hp hc.1 hb.1, fun F Hs O0 O ρ σ H D s h => ?_⟩
  refine ⟨fun m σ H => ∃ ρ O, SR X.K xv F Hs O0 O ρ σ H ∧ GS X xv W F Hs O0 (whL cf f m ρ) D, ⟨n, ρ, O, s, h⟩, ?_⟩
  rintro m σ H ⟨ρ, O, s, h⟩
  cases m with
  | zero => exact h.elim
  | succ m =>
    unfold whL at h
    refine hc.2 σ H ρ O _ s.er ?_
    cases hcc : cf ρ with
    | stuck => rw [hcc] at h; exact h.elim
    | exc e => rw [hcc] at h; exact fun H' C e m => h σ H' O C (s.same e) m
    | ok t =>
      intro v H1 e1 et
      subst et
      cases v with
      | false => rw [hcc] at h; exact iteF (h σ H1 O (s.same e1))
      | true =>
        rw [hcc] at h
        refine iteT ⟨fun σ' H' => ∃ ρ' O', SR X.K xv F Hs O0 O' ρ' σ' H' ∧ GS X xv W F Hs O0 (whL cf f m ρ') D, fun σ' H' q => ⟨m, Nat.lt_succ_self _, q⟩, hb.2 F Hs O0 O ρ σ H1 _ (s.same e1) ?_⟩
        cases hbody : f ρ with
        | nx ρ2 => simp only [hbody] at h; exact fun σ4 H4 O4 s4 => ⟨ρ2, O4, s4, h⟩
        | ct ρ2 => simp only [hbody] at h; exact fun σ4 H4 O4 s4 => ⟨ρ2, O4, s4, h⟩
        | bk ρ2 => simp only [hbody] at h; exact h
        | rt r => simp only [hbody] at h; exact h
        | exc c ρ2 => simp only [hbody] at h; exact h
        | stuck => simp only [hbody] at h; exact h
end

/-! ### a def -/
def startE (n l : Nat) (ds : List D) : En := ds.map Slot.fr ++ List.replicate (n - l) Slot.un
/-- what a def with n names and l parameters hands back -/
def runF (n l : Nat) (g : En → Out) (ds : List D) : R Val := match g (startE n l ds) with
  | .nx _ => .ok (.fr .non)
  | .rt r => .ok r
  | .exc c _ => .exc c
  | _ => .stuck
section
variable {P : Program} {w : World} {K : PySem.W.Frag} {mg : Str → Option Value} {base : Heap}
theorem er_start {H : Hp} {O : List Addr} {n l : Nat} {ds : List D} {vs : List V} (N : List Str) (hn : N.length = n) (hl : ds.length = l) (r : RpL K H O ds vs) (tr : ∀ a ∈ O, ∃ o, H a = some o) (hle : l ≤ n) : ER K none O (startE n l ds) (L2.start N vs) H := by
  have hv := r.len
  refine ⟨?_, tr, trivial, fun i s o h1 h2 => ?_⟩
  · unfold startE L2.start
    rw [List.length_append, List.length_append, List.length_map, List.length_map, List.length_replicate, List.length_replicate]
    omega
  · unfold startE at h1
    unfold L2.start at h2
    by_cases hi : i < ds.length
    · rw [List.getElem?_append_left (by simpa using hi), List.getElem?_map] at h1
      rw [List.getElem?_append_left (by simpa using (by omega : i < vs.length)), List.getElem?_map] at h2
      rw [List.getElem?_eq_getElem hi] at h1
      obtain ⟨v, q1, q2⟩ := r.get (List.getElem?_eq_getElem hi)
      rw [q1] at h2
      cases h1; cases h2
      exact ⟨v, rfl, q2⟩
    · rw [List.getElem?_append_right (by simpa using (by omega : ds.length ≤ i)), List.getElem?_replicate] at h1
      split at h1
      · cases h1; trivial
      · cases h1
abbrev cxF (P : Program) (w : World) (K : PySem.W.Frag) (mg : Str → Option Value) (base : Heap) (N : List Str) (qual : Str) (st : Stmt) (f : Addr) (cdv : Value) (A : Around) (outer : List Env) (s : Shared) (H : Hp) (E : XK) : Cx :=
  cxOf (L2.CX P w) P w K mg base N qual (defScope st) f cdv A outer s H E
abbrev WF (E : XK) : WX := fun cls d _ H => E cls d H
theorem fnL {x qual : Str} {st : Stmt} {f : Addr} {fd : FuncData} {N ps : List Str} {k n l : Nat} {m : List D → R Val} {g : En → Out} (F : Fun K x qual st f fd) (S : FnScope N ps (defScope st)) (hn : N.length = n) (hl : ps.length = l)
    (hbody : ∀ (cdv : Value) (A : Around) (outer : List Env) (s : Shared) (H : Hp) (E : XK), Room k (cxF P w K mg base N qual st f cdv A outer s H E).A → Takes (cxF P w K mg base N qual st f cdv A outer s H E) (WF E) →
      PassesOwn (model P w) (cxF P w K mg base N qual st f cdv A outer s H E).A (cxF P w K mg base N qual st f cdv A outer s H E).env (cxF P w K mg base N qual st f cdv A outer s H E).xe →
      ∃ t, SSs (cxF P w K mg base N qual st f cdv A outer s H E) none (WF E) (defBody st) t g)
    (hm : ∀ ds, ds.length = l → m ds ≠ .stuck → runF n l g ds = m ds) : FnOk P w K mg base (L2.CX P w) (k + 1) f fd ps (spM K mg l m) := by
  refine F.okX S (fun vs H Q E h => by rw [hl]; exact spM_len h) (fun cdv A outer s H vs Q E hr h => ?_)
  obtain ⟨t, B⟩ := hbody cdv A outer s H E hr (takes_of rfl rfl rfl rfl) (passes_of rfl)
  refine ⟨_, B.1, ?_⟩
  obtain ⟨ds, O, h1, h2, h3, h4⟩ := h
  have hle : l ≤ n := by
    have := congrArg List.length S.pre
    rw [List.length_take] at this
    omega
  have er := er_start (K := K) N hn h1 h2 h3 hle
  refine B.2 [] H O O _ _ H _ ⟨er, Same.refl _, fun _ q => q, h3, fun _ q => absurd q List.not_mem_nil, fun _ q => absurd q List.not_mem_nil, fun i xs a q1 _ => ?_, fun i j xs ys a q1 _ _ _ => ?_⟩ ?_
  · exfalso
    unfold startE at q1
    by_cases hi : i < ds.length
    · rw [List.getElem?_append_left (by simpa using hi), List.getElem?_map, List.getElem?_eq_getElem hi] at q1; cases q1
    · rw [List.getElem?_append_right (by simpa using (by omega : ds.length ≤ i)), List.getElem?_replicate] at q1
      split at q1 <;> cases q1
  · exfalso
    unfold startE at q1
    by_cases hi : i < ds.length
    · rw [List.getElem?_append_left (by simpa using hi), List.getElem?_map, List.getElem?_eq_getElem hi] at q1; cases q1
    · rw [List.getElem?_append_right (by simpa using (by omega : ds.length ≤ i)), List.getElem?_replicate] at q1
      split at q1 <;> cases q1
  · have hmd : m ds ≠ .stuck := fun e => by rw [e] at h4; exact h4
    have hr := hm ds h1 hmd
    rw [← hr] at h4
    unfold runF at h4
    cases hg : g (startE n l ds) with
    | nx ρ => rw [hg] at h4; exact fun σ' H' O' s' => h4 .non H' s'.st .non
    | rt r => rw [hg] at h4; exact fun v H' e rv => h4 v H' e rv
    | exc c ρ => rw [hg] at h4; exact fun σ' H' O' C s' mC => h4 H' C s'.st mC
    | bk ρ => rw [hg] at h4; exact h4.elim
    | ct ρ => rw [hg] at h4; exact h4.elim
    | stuck => rw [hg] at h4; exact h4.elim
end
end Lt

set_option Elab.async false
set_option linter.all false
set_option autoImplicit false
set_option maxRecDepth 100000
set_option maxHeartbeats 4000000
namespace Lt
open PySem PySem.Spec PyProof.Rows L2
section
variable {X : Cx} {xv : XV} {W : WX}
/-- a wish that takes everything and is passed on -/
abbrev xeL (X : Cx) : Value → Shared → Prop := fun e s₁ => wpAny (model X.prog X.w) X.A (noteFrame e X.env) (fun _ s₂ => wpAny (model X.prog X.w) X.A (setFlight e none) (fun _ _ => True) (fun _ _ => True) s₂) (fun _ _ => True) s₁
theorem takes_look (hs : X.stack = X.env :: X.outer) (hf : X.env.frame = some X.env.locals) (W : WX) (pn : List (Addr × Obj)) : Takes (X.tr pn (xeL X)) W := by
  intro u s' xx
  obtain ⟨a, B, sI, pins', σ', H', cls, d, rfl, J, nb, up, sky, na, os, ag, w⟩ := xx
  have hfr : X.A.frames = some (X.env :: X.outer) := by rw [← hs]; exact J.ok.frames
  have sky' : Sky B (X.env :: X.outer) a (Zc cls d) X.env.locals s'.heap := by rw [← hs]; exact sky
  exact Sky.land (Q := fun _ _ => True) (E₁ := fun _ _ => True) Zc.steady hfr hf sky' fun _ _ _ => trivial
theorem passes_look : PassesOwn (model X.prog X.w) X.A X.env (xeL X) := PassesOwn.looking (K := fun e s₂ => wpAny (model X.prog X.w) X.A (setFlight e none) (fun _ _ => True) (fun _ _ => True) s₂)

/-! ### what the classes of errors tell -/
/-- cn's class, as it stands -/
structure ExF (X : Cx) (cn : Str) (C : Addr) : Prop where
  mg : X.mg cn = some (.ref C)
  ec : ExcC X.K C
def hitOk (X : Cx) (cs : List Str) (h : Str → Bool) (Dv : Value) : Prop := ∀ cn ∈ cs, ∃ C, ExF X cn C ∧ PySem.W.exmOne X.K (.ref C) Dv = some (h cn)
def clrO (i : Nat) : Out → Out
  | .nx ρ => .nx (ρ.set i .un)
  | .bk ρ => .bk (ρ.set i .un)
  | .ct ρ => .ct (ρ.set i .un)
  | .rt r => .rt r
  | .exc _ _ => .stuck
  | .stuck => .stuck
/-- try: f / except D as e: g -/
def oTryAs (cs : List Str) (hit : Str → Bool) (i : Nat) (f : En → Out) (g : Str → En → Out) : En → Out := fun ρ => match f ρ with
  | .exc c ρ' => grdO (cs.contains c && decide (i < ρ'.length)) (if hit c then clrO i (g c (ρ'.set i .un)) else .exc c ρ')
  | o => o
theorem SR.un {K : PySem.W.Frag} {xv : XV} {F : Frm} {Hs H : Hp} {O0 O : List Addr} {ρ : En} {σ : L2.St} (h : SR K none F Hs O0 O ρ σ H) (i : Nat) (o : Option V) (hx : xvOk xv (σ.set i o)) : SR K xv F Hs O0 O (ρ.set i .un) (σ.set i o) H := by
  have e := h.er.set i (s := .un) (o := o) trivial
  refine ⟨⟨e.len, e.tr, hx, e.sl⟩, h.st, h.sub, h.o0, h.kp, h.old, fun j xs a h1 h2 => ?_, fun j l xs ys a h1 h2 h3 h4 => ?_⟩
  · rcases set_get h1 with ⟨_, q⟩ | ⟨n, q⟩
    · cases q
    · rw [List.getElem?_set_ne n] at h2
      exact h.own j xs a q h2
  · rcases set_get h1 with ⟨_, q⟩ | ⟨n, q⟩
    · cases q
    rcases set_get h2 with ⟨_, q'⟩ | ⟨n', q'⟩
    · cases q'
    rw [List.getElem?_set_ne n] at h3
    rw [List.getElem?_set_ne n'] at h4
    exact h.inj j l xs ys a q q' h3 h4
theorem SR.noxv {K : PySem.W.Frag} {F : Frm} {Hs H : Hp} {O0 O : List Addr} {ρ : En} {σ : L2.St} (h : SR K xv F Hs O0 O ρ σ H) : SR K none F Hs O0 O ρ σ H :=
  ⟨⟨h.er.len, h.er.tr, trivial, h.er.sl⟩, h.st, h.sub, h.o0, h.kp, h.old, h.own, h.inj⟩
def tcS (X : Cx) (xv : XV) (W : WX) (f : En → Out) : TS := fun D σ H => ∃ F Hs O0 O ρ, SR X.K xv F Hs O0 O ρ σ H ∧ GS X xv W F Hs O0 (f ρ) D
theorem SSs.can {py : List Stmt} {f : En → Out} (h : ∃ t, SSs X xv W py t f) : SSs X xv W py (tcS X xv W f) f :=
  let ⟨_, p, q⟩ := h; ⟨PSs.wk p fun D σ H ⟨F, Hs, O0, O, ρ, s, g⟩ => q F Hs O0 O ρ σ H D s g, fun F Hs O0 O ρ σ H D s g => ⟨F, Hs, O0, O, ρ, s, g⟩⟩
open Classical in
noncomputable def tsOf (X : Cx) (cs : List Str) (ts : Addr → Addr → TS) : Addr → Value → Option Addr → TS := fun a cls d =>
  if h : ∃ C, cls = .ref C ∧ d = none ∧ ∃ cn ∈ cs, ExF X cn C then ts a h.choose else tNever
theorem tsOf_at {cs : List Str} {ts : Addr → Addr → TS} {a C : Addr} {cn : Str} (h : cn ∈ cs) (e : ExF X cn C) : tsOf X cs ts a (.ref C) none = ts a C := by
  unfold tsOf
  have hh : ∃ C', Value.ref C = .ref C' ∧ (none : Option Addr) = none ∧ ∃ cn ∈ cs, ExF X cn C' := ⟨C, rfl, rfl, cn, h, e⟩
  rw [dif_pos hh]
  have e2 := Value.ref.inj hh.choose_spec.1
  rw [← e2]
theorem tsOf_ps {cs : List Str} {ts : Addr → Addr → TS} {a : Addr} {oe : Obj} {cls : Value} {d : Option Addr} {pn : List (Addr × Obj)} {b : List Stmt}
    (h : ∀ C cn, cn ∈ cs → ExF X cn C → Zc (.ref C) none oe → PSs (X.suite a ((a, oe) :: pn)) b (ts a C)) (hz : Zc cls d oe) : PSs (X.suite a ((a, oe) :: pn)) b (tsOf X cs ts a cls d) := by
  unfold tsOf
  by_cases hh : ∃ C, cls = .ref C ∧ d = none ∧ ∃ cn ∈ cs, ExF X cn C
  · rw [dif_pos hh]
    obtain ⟨h1, h2, cn, h3, h4⟩ := hh.choose_spec
    exact h _ cn h3 h4 (by rw [← h1, ← h2]; exact hz)
  · rw [dif_neg hh]; exact pss_never
theorem S_tryAsU {x n : Str} {c : Value} {i : Nat} {body suite : List Stmt} {b₀ : Stmt} {np pos pos' : Pos} {tb : WX → TS} {ts : Addr → Addr → TS} {cs : List Str} {hit : Str → Bool} {f : En → Out} {g : Str → En → Out}
    (hs : X.stack = X.env :: X.outer) (hf : X.env.frame = some X.env.locals) (hN : X.N.Nodup) (hi : X.N[i]? = some n) (hln : X.env.kindOf n = some .local) (hc : Names X x c) (tk : Takes X W)
    (hb : ∀ (W : WX) (pn : List (Addr × Obj)) (xe : Value → Shared → Prop), Takes (X.tr pn xe) W → PassesOwn (model X.prog X.w) X.A X.env xe → SSs (X.tr pn xe) none W body (tb W) f)
    (hh : hitOk X cs hit c)
    (hsu : ∀ (a : Addr) (oe : Obj) (C : Addr) (cn : Str) (pn : List (Addr × Obj)), cn ∈ cs → ExF X cn C → Zc (.ref C) none oe → (∃ vs, oe.data = .fields vs) → SSs (X.suite a ((a, oe) :: pn)) (some (i, a)) W0 (b₀ :: suite) (ts a C) (g cn)) :
    SS X none W (.Try body [.ExceptHandler (some (.Name x np)) (some n) (b₀ :: suite) pos'] [] [] pos) (fun D σ H => tb (wAs X.K c i (tsOf X cs ts) W D) D σ H) (oTryAs cs hit i f g) := by
  refine ⟨ps_try_as hs hf hN hi hln hc tk (fun W pn xe t p => (hb W pn xe t p).1) (fun a oe cls d pn hz hd => tsOf_ps (fun C cn h1 h2 h3 => (hsu a oe C cn pn h1 h2 h3 hd).1) hz), fun F Hs O0 O ρ σ H D s h => ?_⟩
  refine (hb (wAs X.K c i (tsOf X cs ts) W D) [] (xeL X) (takes_look hs hf _ _) passes_look).2 F Hs O0 O ρ σ H D s ?_
  unfold oTryAs at h
  cases hfo : f ρ with
  | nx ρ' => rw [hfo] at h; exact h
  | bk ρ' => rw [hfo] at h; exact h
  | ct ρ' => rw [hfo] at h; exact h
  | rt r => rw [hfo] at h; exact h
  | stuck => rw [hfo] at h; exact h
  | exc cn ρ' =>
    rw [hfo] at h
    obtain ⟨hcs, h⟩ := GS.grd h
    rw [Bool.and_eq_true, decide_eq_true_eq] at hcs
    obtain ⟨hcs, hil⟩ := hcs
    have hcs : cn ∈ cs := by simpa using hcs
    intro σ' H' O' Cv s' mC
    obtain ⟨C, ef, hex⟩ := hh cn hcs
    have eC : Cv = .ref C := Option.some.inj (mC.symm.trans ef.mg)
    subst eC
    refine ⟨hit cn, hex, fun hy a ha => ?_, fun hn => ?_⟩
    · rw [hy] at h
      rw [tsOf_at hcs ef]
      have S0 : SR X.K (some (i, a)) F Hs O0 O' (ρ'.set i .un) (σ'.set i (some (.ref a))) H' := s'.un i _ (by
        show (σ'.set i (some (V.ref a)))[i]? = _
        exact List.getElem?_set_self (by rw [← s'.er.len]; exact hil))
      refine (hsu a { cls := .ref C, dict := none, data := .fields #[], slots := #[] } C cn [] hcs ef ⟨rfl, rfl⟩ ⟨_, rfl⟩).2 F Hs O0 O' _ _ H' _ S0 ?_
      have h : GS X none W F Hs O0 (clrO i (g cn (ρ'.set i .un))) D := h
      cases hg : g cn (ρ'.set i .un) with
      | nx ρ2 => rw [hg] at h; exact fun σ2 H2 O2 s2 => h _ H2 O2 (s2.noxv.un i none trivial)
      | bk ρ2 => rw [hg] at h; exact fun σ2 H2 O2 s2 => h _ H2 O2 (s2.noxv.un i none trivial)
      | ct ρ2 => rw [hg] at h; exact fun σ2 H2 O2 s2 => h _ H2 O2 (s2.noxv.un i none trivial)
      | rt r => rw [hg] at h; exact h
      | exc c ρ2 => rw [hg] at h; exact h.elim
      | stuck => rw [hg] at h; exact h.elim
    · rw [hn] at h
      exact h σ' H' O' (.ref C) s' ef.mg
/-- try: f / except D: g -/
def clr0 : Out → Out
  | .exc _ _ => .stuck
  | o => o
def oTry (cs : List Str) (hit : Str → Bool) (f : En → Out) (g : Str → En → Out) : En → Out := fun ρ => match f ρ with
  | .exc c ρ' => grdO (cs.contains c) (if hit c then clr0 (g c ρ') else .exc c ρ')
  | o => o
theorem S_tryU {x : Str} {c : Value} {body suite : List Stmt} {b₀ : Stmt} {np pos pos' : Pos} {tb : WX → TS} {ts : Addr → Addr → TS} {cs : List Str} {hit : Str → Bool} {f : En → Out} {g : Str → En → Out}
    (hs : X.stack = X.env :: X.outer) (hf : X.env.frame = some X.env.locals) (hc : Names X x c) (tk : Takes X W)
    (hb : ∀ (W : WX) (pn : List (Addr × Obj)) (xe : Value → Shared → Prop), Takes (X.tr pn xe) W → PassesOwn (model X.prog X.w) X.A X.env xe → SSs (X.tr pn xe) none W body (tb W) f)
    (hh : hitOk X cs hit c)
    (hsu : ∀ (a : Addr) (oe : Obj) (C : Addr) (cn : Str) (pn : List (Addr × Obj)), cn ∈ cs → ExF X cn C → Zc (.ref C) none oe → (∃ vs, oe.data = .fields vs) → SSs (X.suite a ((a, oe) :: pn)) none W0 (b₀ :: suite) (ts a C) (g cn)) :
    SS X none W (.Try body [.ExceptHandler (some (.Name x np)) none (b₀ :: suite) pos'] [] [] pos) (fun D σ H => tb (wOnly X.K c (tsOf X cs ts) W D) D σ H) (oTry cs hit f g) := by
  refine ⟨ps_try_only hs hf hc tk (fun W pn xe t p => (hb W pn xe t p).1) (fun a oe cls d pn hz hd => tsOf_ps (fun C cn h1 h2 h3 => (hsu a oe C cn pn h1 h2 h3 hd).1) hz), fun F Hs O0 O ρ σ H D s h => ?_⟩
  refine (hb (wOnly X.K c (tsOf X cs ts) W D) [] (xeL X) (takes_look hs hf _ _) passes_look).2 F Hs O0 O ρ σ H D s ?_
  unfold oTry at h
  cases hfo : f ρ with
  | nx ρ' => rw [hfo] at h; exact h
  | bk ρ' => rw [hfo] at h; exact h
  | ct ρ' => rw [hfo] at h; exact h
  | rt r => rw [hfo] at h; exact h
  | stuck => rw [hfo] at h; exact h
  | exc cn ρ' =>
    rw [hfo] at h
    obtain ⟨hcs, h⟩ := GS.grd h
    have hcs : cn ∈ cs := by simpa using hcs
    intro σ' H' O' Cv s' mC
    obtain ⟨C, ef, hex⟩ := hh cn hcs
    have eC : Cv = .ref C := Option.some.inj (mC.symm.trans ef.mg)
    subst eC
    refine ⟨hit cn, hex, fun hy a ha => ?_, fun hn => ?_⟩
    · rw [hy] at h
      rw [tsOf_at hcs ef]
      refine (hsu a { cls := .ref C, dict := none, data := .fields #[], slots := #[] } C cn [] hcs ef ⟨rfl, rfl⟩ ⟨_, rfl⟩).2 F Hs O0 O' _ _ H' _ s' ?_
      have h : GS X none W F Hs O0 (clr0 (g cn ρ')) D := h
      cases hg : g cn ρ' with
      | nx ρ2 => rw [hg] at h; exact h
      | bk ρ2 => rw [hg] at h; exact h
      | ct ρ2 => rw [hg] at h; exact h
      | rt r => rw [hg] at h; exact h
      | exc c ρ2 => rw [hg] at h; exact h.elim
      | stuck => rw [hg] at h; exact h.elim
    · rw [hn] at h
      exact h σ' H' O' (.ref C) s' ef.mg
theorem S_tryAs {x n : Str} {c : Value} {i : Nat} {body suite : List Stmt} {b₀ : Stmt} {np pos pos' : Pos} {cs : List Str} {hit : Str → Bool} {f : En → Out} {g : Str → En → Out}
    (hs : X.stack = X.env :: X.outer) (hf : X.env.frame = some X.env.locals) (hN : X.N.Nodup) (hi : X.N[i]? = some n) (hln : X.env.kindOf n = some .local) (hc : Names X x c) (tk : Takes X W)
    (hb : ∀ (W : WX) (pn : List (Addr × Obj)) (xe : Value → Shared → Prop), Takes (X.tr pn xe) W → PassesOwn (model X.prog X.w) X.A X.env xe → ∃ t, SSs (X.tr pn xe) none W body t f)
    (hh : hitOk X cs hit c)
    (hsu : ∀ (a : Addr) (oe : Obj) (C : Addr) (cn : Str) (pn : List (Addr × Obj)), cn ∈ cs → ExF X cn C → Zc (.ref C) none oe → (∃ vs, oe.data = .fields vs) → ∃ t, SSs (X.suite a ((a, oe) :: pn)) (some (i, a)) W0 (b₀ :: suite) t (g cn)) :
    SS X none W (.Try body [.ExceptHandler (some (.Name x np)) (some n) (b₀ :: suite) pos'] [] [] pos)
      (fun D σ H => tcS X none (wAs X.K c i (tsOf X cs (fun a C D σ H => ∃ cn, cn ∈ cs ∧ ExF X cn C ∧ tcS X (some (i, a)) W0 (g cn) D σ H)) W D) f D σ H) (oTryAs cs hit i f g) :=
  S_tryAsU (tb := fun W => tcS X none W f) (ts := fun a C D σ H => ∃ cn, cn ∈ cs ∧ ExF X cn C ∧ tcS X (some (i, a)) W0 (g cn) D σ H) hs hf hN hi hln hc tk
    (fun W pn xe h1 h2 => SSs.can (hb W pn xe h1 h2)) hh
    (fun a oe C cn pn hcn ef hz hd => ⟨⟨fun pins s σ H D I ⟨cn', h1, h2, q⟩ => (SSs.can (hsu a oe C cn' pn h1 h2 hz hd)).1.run pins s σ H D I q⟩,
      fun F Hs O0 O ρ σ H D s k => ⟨cn, hcn, ef, F, Hs, O0, O, ρ, s, k⟩⟩)
theorem S_try {x : Str} {c : Value} {body suite : List Stmt} {b₀ : Stmt} {np pos pos' : Pos} {cs : List Str} {hit : Str → Bool} {f : En → Out} {g : Str → En → Out}
    (hs : X.stack = X.env :: X.outer) (hf : X.env.frame = some X.env.locals) (hc : Names X x c) (tk : Takes X W)
    (hb : ∀ (W : WX) (pn : List (Addr × Obj)) (xe : Value → Shared → Prop), Takes (X.tr pn xe) W → PassesOwn (model X.prog X.w) X.A X.env xe → ∃ t, SSs (X.tr pn xe) none W body t f)
    (hh : hitOk X cs hit c)
    (hsu : ∀ (a : Addr) (oe : Obj) (C : Addr) (cn : Str) (pn : List (Addr × Obj)), cn ∈ cs → ExF X cn C → Zc (.ref C) none oe → (∃ vs, oe.data = .fields vs) → ∃ t, SSs (X.suite a ((a, oe) :: pn)) none W0 (b₀ :: suite) t (g cn)) :
    SS X none W (.Try body [.ExceptHandler (some (.Name x np)) none (b₀ :: suite) pos'] [] [] pos)
      (fun D σ H => tcS X none (wOnly X.K c (tsOf X cs (fun a C D σ H => ∃ cn, cn ∈ cs ∧ ExF X cn C ∧ tcS X none W0 (g cn) D σ H)) W D) f D σ H) (oTry cs hit f g) :=
  S_tryU (tb := fun W => tcS X none W f) (ts := fun a C D σ H => ∃ cn, cn ∈ cs ∧ ExF X cn C ∧ tcS X none W0 (g cn) D σ H) hs hf hc tk
    (fun W pn xe h1 h2 => SSs.can (hb W pn xe h1 h2)) hh
    (fun a oe C cn pn hcn ef hz hd => ⟨⟨fun pins s σ H D I ⟨cn', h1, h2, q⟩ => (SSs.can (hsu a oe C cn' pn h1 h2 hz hd)).1.run pins s σ H D I q⟩,
      fun F Hs O0 O ρ σ H D s k => ⟨cn, hcn, ef, F, Hs, O0, O, ρ, s, k⟩⟩)
/-! ### isinstance(e, D) within the suite -/
def sIsE (b : Bool) : En → R Val := fun _ => .ok (.fr (.bl b))
theorem E_isE {a C Dd : Addr} {oe : Obj} {cn d : Str} {i : Nat} {pn : List (Addr × Obj)} {e : Str} {p pe pd pos : Pos} {b : Bool} (ef : ExF X cn C) (hz : Zc (.ref C) none oe) (hf : ∃ vs, oe.data = .fields vs)
    (hk : PySem.W.kitOne X.K (.ref C) (.ref Dd) = some b) (gd : X.mg d = some (.ref Dd))
    (pE : PE (X.suite a ((a, oe) :: pn)) (.Name e pe) (tVar i)) (hgd : Gl (X.suite a ((a, oe) :: pn)) d) (hg : Gl (X.suite a ((a, oe) :: pn)) "isinstance") (hm : X.mg "isinstance" = none) (hv : bootBuiltins "isinstance" = some (.builtin "isinstance") := by decide +kernel)
    (hdb : (d == ("__debug__" : Str)) = false := by decide)
    (he : starEach [.Name e pe, .Name d pd] (X.suite a ((a, oe) :: pn)).env = (false, eval (.Name e pe) (X.suite a ((a, oe) :: pn)).env) :: starEach [.Name d pd] (X.suite a ((a, oe) :: pn)).env := by rfl)
    (he2 : starEach [.Name d pd] (X.suite a ((a, oe) :: pn)).env = (false, eval (.Name d pd) (X.suite a ((a, oe) :: pn)).env) :: starEach [] (X.suite a ((a, oe) :: pn)).env := by rfl)
    (hpl : (backTo pos (starEach [.Name d pd] (X.suite a ((a, oe) :: pn)).env)).any (·.1) = false := by rfl) :
    SE (X.suite a ((a, oe) :: pn)) (some (i, a)) W0 (.Call (.Name "isinstance" p) [.Name e pe, .Name d pd] [] pos) (tCB (rIsE X.K C a) (tCons (tVar i) (tCons (tC (.ref Dd)) tNil))) (sIsE b) := by
  refine ⟨pe_callB (call_isE ef.ec hz hf) hg hm hv (pa_cons pE (pa_cons (pe_glob hgd gd rfl hdb) pa_nil he2) he) (by decide) (by decide) he hpl, fun σ H ρ O Q e k => ?_⟩
  exact ⟨_, e.ex, .ref Dd, .ref Dd, b, rfl, fun u r => r, hk, k _ H (Same.refl _) (.bl _)⟩
end
end Lt

set_option Elab.async false
set_option linter.all false
set_option autoImplicit false
set_option maxRecDepth 100000
set_option maxHeartbeats 4000000
namespace Lt
open PySem PySem.Spec PyProof.Rows L2
section
variable {X : Cx} {xv : XV} {W : WX}
/-! ### f-strings -/
def fmtD : D → R Val
  | .str y => .ok (.fr (.str y))
  | .int i => grd (decide (i.natAbs.log2 < 1920) && strG (toString i : String)) (.ok (.fr (.str (toString i : String))))
  | _ => .stuck
def sFmt (f : En → R D) : En → R Val := fun ρ => (f ρ).bind fmtD
theorem E_fmt {e : Expr} {t : TE} {pos : Pos} {f : En → R D} (h : SB X xv W e t f) : SE X xv W (.FormattedValue e (-1) none pos) (tFmt t) (sFmt f) := by
  refine ⟨pe_fmt h.1, fun σ H ρ O Q e k => h.2 σ H ρ O _ e (Gk.bind k fun x v H1 _ e1 r k => ?_)⟩
  cases x with
  | str y =>
    cases r with
    | str _ g => exact .inl ⟨y, rfl, lB_line (strG_len g), k _ H1 (Same.refl _) (.str _ g)⟩
  | int i =>
    cases r
    obtain ⟨hg, k⟩ := Gk.grd k
    rw [Bool.and_eq_true, decide_eq_true_eq] at hg
    exact .inr ⟨i, rfl, hg.1, k _ H1 (Same.refl _) (.str _ hg.2)⟩
  | _ => exact k.elim
def SJ (X : Cx) (xv : XV) (W : WX) (py : List Expr) (ts : List TE) (f : En → Str → R Str) : Prop := PJ X py ts ∧ ∀ σ H ρ O acc (Q : Str → Hp → Prop), ER X.K xv O ρ σ H → Gk X W (fun _ _ (b c : Str) => c = b) σ H (f ρ acc) Q → tJs ts acc σ H Q
def jNil : En → Str → R Str := fun _ acc => .ok acc
def jCons (f : En → R Val) (g : En → Str → R Str) : En → Str → R Str := fun ρ acc => (f ρ).bind fun x => match x.d with
  | .str y => grd (decide ((acc ++ y).length ≤ lB)) (g ρ (acc ++ y))
  | _ => .stuck
theorem J_nil : SJ X xv W [] [] jNil := ⟨.nil, fun σ H ρ O acc Q e k => k acc H (Same.refl _) rfl⟩
theorem J_cons {e : Expr} {es : List Expr} {t : TE} {ts : List TE} {f : En → R Val} {g : En → Str → R Str} (h : SE X xv W e t f) (hs : SJ X xv W es ts g) : SJ X xv W (e :: es) (t :: ts) (jCons f g) := by
  refine ⟨.cons h.1 hs.1, fun σ H ρ O acc Q e k => h.2 σ H ρ O _ e (Gk.bind k fun x v H1 _ e1 r k => ?_)⟩
  have r := r.rp e.tr
  cases hx : x.d with
  | str y =>
    rw [hx] at r k
    cases r
    obtain ⟨hg, k⟩ := Gk.grd k
    exact ⟨y, rfl, lB_line (of_decide_eq_true hg), hs.2 σ H1 ρ O _ Q (e.same e1) k⟩
  | _ => rw [hx] at k; exact k.elim
def sJoin (g : En → Str → R Str) : En → R Val := fun ρ => (g ρ Str.empty).bind okS
theorem E_join {v1 v2 : Expr} {rest : List Expr} {ts : List TE} {pos : Pos} {g : En → Str → R Str} (h : SJ X xv W (v1 :: v2 :: rest) ts g) : SE X xv W (.JoinedStr (v1 :: v2 :: rest) pos) (fun σ H Q => tJs ts Str.empty σ H fun out H1 => Q (.str out) H1) (sJoin g) := by
  refine ⟨pe_joined h.1, fun σ H ρ O Q e k => h.2 σ H ρ O _ _ e (Gk.bind k fun x v H1 _ e1 r k => ?_)⟩
  subst r
  obtain ⟨hg, k⟩ := Gk.grd k
  exact k _ H1 (Same.refl _) (.str _ hg)
/-! ### D[k], D a dict of the module with texts as keys -/
def lookD (kvs : List (Str × D)) (z : Str) : Option D := (kvs.find? fun p => p.1 == z).map (·.2)
def sKd (kvs : List (Str × D)) (g : En → R D) : En → R Val := fun ρ => (g ρ).bind fun x => match x with
  | .str z => optV (lookD kvs z)
  | _ => .stuck
def KdOk (K : PySem.W.Frag) (w : World) (p : Addr) (kvs : List (Str × D)) : Prop := ∀ z d, lookD kvs z = some d → ∃ v, (∀ H O, Rp K H O d v) ∧ KDct K w p z v
theorem E_kd {x : Str} {p : Addr} {px pos : Pos} {b : Expr} {kvs : List (Str × D)} {u : TE} {g : En → R D} (hg : Gl X x) (hm : X.mg x = some (.ref p)) (hk : KdOk X.K X.w p kvs) (hb : SB X xv W b u g)
    (hs : PlainIx b := by intro _ _; rfl) (hd : (x == ("__debug__" : Str)) = false := by decide) : SE X xv W (.Subscript (.Name x px) b pos) (tOp (rIxD X.K X.w) (tC (.ref p)) u) (sKd kvs g) := by
  refine ⟨pe_ix ix_kdict (pe_glob hg hm rfl hd) hb.1 hs, fun σ H ρ O Q e k => ?_⟩
  refine hb.2 σ H ρ O _ e (Gk.bind k fun x v H1 _ e1 r k => ?_)
  cases x with
  | str z =>
    cases r
    obtain ⟨d, hd, k⟩ := Gk.optV k
    obtain ⟨w, h1, h2⟩ := hk z d hd
    exact ⟨p, z, w, rfl, rfl, h2, k w H1 (Same.refl _) (h1 _ _)⟩
  | _ => exact k.elim
end
end Lt

set_option Elab.async false
set_option linter.all false
set_option autoImplicit false
set_option maxRecDepth 100000
set_option maxHeartbeats 4000000
namespace Lt
open PySem PySem.Spec PyProof.Rows L2
theorem units65 {k : Nat} {A : Around} (r : Room k A) : A.units + 65 < cLine := by have := r.un; omega
section
variable {X : Cx} {xv : XV} {W : WX}
theorem vL (i : Nat) {x : Str} {pos : Pos} (hN : X.N[i]? = some x := by rfl) (hv : X.env.scope.names.lookup x = some .local := by rfl) (hd : (x == ("__debug__" : Str)) = false := by decide) (hcd : (x == ("__classdict__" : Str)) = false := by decide) : PE X (.Name x pos) (tVar i) := pe_var hN (.inl hv) hd hcd
theorem vC (i : Nat) {x : Str} {pos : Pos} (hN : X.N[i]? = some x := by rfl) (hv : X.env.scope.names.lookup x = some .cell := by rfl) (hd : (x == ("__debug__" : Str)) = false := by decide) (hcd : (x == ("__classdict__" : Str)) = false := by decide) : PE X (.Name x pos) (tVar i) := pe_var hN (.inr (.inl hv)) hd hcd
theorem vF (i : Nat) {x : Str} {pos : Pos} (hN : X.N[i]? = some x := by rfl) (hv : X.env.scope.names.lookup x = some .free := by rfl) (hd : (x == ("__debug__" : Str)) = false := by decide) (hcd : (x == ("__classdict__" : Str)) = false := by decide) : PE X (.Name x pos) (tVar i) := pe_var hN (.inr (.inr hv)) hd hcd
theorem S_setp {i : Nat} {x : Str} {e : Expr} {te : TE} {pos pos' : Pos} {f : En → R Val} (hN : X.N.Nodup) (hi : X.N[i]? = some x) (hx : Loc X.env.scope x) (he : SE X xv W e te f) (hs : swapsWith e (some (.Name x pos')) pos.line X.env = pure false := by rfl) (hf : X.fn x = true ∨ X.env.scope.names.lookup x = some .local := by first | exact .inl rfl | exact .inr rfl | assumption)
    (hxf : xvFree xv i = true := by rfl) : SS X xv W (.Assign [.Name x pos'] e pos) (tAsg te (gName i)) (oSet i f) := S_set he (ps_set hN hi hx he.1 hs hf) hxf
theorem pe_callS0 {CX : CXT} {k : Nat} {f : Addr} {fd : FuncData} {ps : List Str} {sp : Sp} {E : L2.St → XK} {x : Str} {p pos : Pos} (F : FnOk X.prog X.w X.K X.mg X.base CX k f fd ps sp) (hr : Room k X.A) (hg : Gl X x) (hm : X.mg x = some (.ref f)) (hk : PySem.W.keepIn X.K (.ref f) = true) (hb : Binds X.K fd ps []) (hx : ∀ σ, PassesAt CX X σ (E σ))
    (hdb : (x == ("__debug__" : Str)) = false := by decide) : PE X (.Call (.Name x p) [] [] pos) (fun σ H Q => sp [] H Q (E σ)) := by
  refine ⟨fun pins s σ H Q I h => ?_⟩
  refine wpAny_Call_Name_kw (ld_glob I hg hm ?_ hdb)
  exact PySem.W.callWith_K0 I.kIn hk (run_fnS (us := []) F hr hb (hx σ) I .nil h)
theorem E_call0 {k : Nat} {f : Addr} {fd : FuncData} {ps : List Str} {m : List D → R Val} {x : Str} {p pos : Pos} (tk : Takes X W) (F : FnOk X.prog X.w X.K X.mg X.base (L2.CX X.prog X.w) k f fd ps (spM X.K X.mg 0 m)) (hr : Room k X.A) (hg : Gl X x) (hm : X.mg x = some (.ref f))
    (hk : PySem.W.keepIn X.K (.ref f) = true) (hb : Binds X.K fd ps []) (hdb : (x == ("__debug__" : Str)) = false := by decide) :
    SE X xv W (.Call (.Name x p) [] [] pos) (fun σ H Q => spM X.K X.mg 0 m [] H Q (WE W σ)) (sCall m aNil) := by
  refine ⟨pe_callS0 F hr hg hm hk hb (fun σ => passAt tk σ) hdb, fun σ H ρ O Q e k => ?_⟩
  refine ⟨[], O, rfl, .nil, e.tr, ?_⟩
  have k : Gk X W (fun H H' => RV X.K H H' O) σ H (m []) Q := k
  cases hm : m [] with
  | ok r => rw [hm] at k; exact k
  | exc c => rw [hm] at k; exact k
  | stuck => rw [hm] at k; exact k
/-! ### range, enumerate, zip -/
def rng (lo : Int) (n : Nat) : List D := (List.range n).map fun i => .int (lo + (i : Nat))
def sR1 (f : En → R D) : En → R (List D) := fun ρ => (f ρ).bind fun x => match x with
  | .int j => grd (decide (j ≤ lB) && decide (-lB ≤ j)) (.ok (rng 0 j.toNat))
  | _ => .stuck
def sR2 (f g : En → R D) : En → R (List D) := fun ρ => (f ρ).bind fun x => (g ρ).bind fun y => match x, y with
  | .int i, .int j => grd (decide (j ≤ lB) && decide (-lB ≤ j) && decide (i ≤ lB) && decide (-lB ≤ i) && decide (j - i ≤ lB)) (.ok (rng i (j - i).toNat))
  | _, _ => .stuck
theorem rng_get {lo : Int} {n i : Nat} {d : D} (h : (rng lo n)[i]? = some d) : d = .int (lo + (i : Nat)) := by
  unfold rng at h
  rw [List.getElem?_map] at h
  cases hr : (List.range n)[i]? with
  | none => rw [hr] at h; cases h
  | some j =>
    rw [hr] at h
    have : j = i := by
      rw [List.getElem?_range] at hr
      · exact (Option.some.inj hr).symm
      · have := (List.getElem?_eq_some_iff.mp hr).1
        rwa [List.length_range] at this
    subst this
    exact (Option.some.inj h).symm
theorem rng_len (lo : Int) (n : Nat) : (rng lo n).length = n := by unfold rng; rw [List.length_map, List.length_range]
theorem It_r1 {tg a : Expr} {t : TE} {f : En → R D} {p pos : Pos} (hg : Gl X "range") (hm : X.mg "range" = none) (ha : SB X xv W a t f) (hs : starEach [a] X.env = [(false, eval a X.env)] := by rfl) (hst : starEach [a] X.env = (false, eval a X.env) :: starEach [] X.env := by rfl) : SIt X xv W Kp tg (.Call (.Name "range" p) [a] [] pos) (iRng1 (tCons t tNil)) (sR1 f) := by
  refine ⟨pi_range1 hg hm (pa1 ha.1 hst) hs, fun σ H ρ O Rr e k => ha.2 σ H ρ O _ e ?_⟩
  unfold sR1 at k
  cases hf : f ρ with
  | stuck => rw [hf] at k; exact k.elim
  | exc c => rw [hf] at k; exact k
  | ok x =>
    rw [hf] at k
    intro v H1 e1 r
    cases x with
    | int j =>
      cases r
      have k2 : (match grd (decide (j ≤ lB) && decide (-lB ≤ j)) (R.ok (rng 0 j.toNat)) with
        | .ok xs => xs.length ≤ lB → ∀ J H1 G Y, Same H H1 → Walk J xs.length G Y → (∀ H', Kp O H1 H' → G H') → (∀ i H2 x H3, Kp O H1 H2 → Y i H2 x H3 → Same H2 H3 ∧ ∀ d, xs[i]? = some d → ∀ O2, (∀ a ∈ O2, a ∈ O ∨ H1 a = none) → Rp X.K H3 O2 d x) → Rr J H1
        | .exc c => ∀ H' C, Same H H' → X.mg c = some C → W C none σ H'
        | .stuck => False) := k
      cases hb : (decide (j ≤ lB) && decide (-lB ≤ j)) with
      | false => rw [hb] at k2; exact k2.elim
      | true =>
        rw [hb] at k2
        rw [Bool.and_eq_true, decide_eq_true_eq, decide_eq_true_eq] at hb
        have hB : (lB : Int) = 1000000 := rfl
        refine ⟨j, rfl, by omega, by omega, k2 (by rw [rng_len]; omega) _ H1 _ _ e1 (by rw [rng_len]; exact walk_range) (fun _ _ => trivial) fun i H2 x H3 s y => ?_⟩
        obtain ⟨rfl, rfl⟩ := y
        exact ⟨Same.refl _, fun d hd O2 _ => by rw [rng_get hd]; exact .int _⟩
    | _ => exact k.elim
theorem It_r2 {tg a b : Expr} {t u : TE} {f g : En → R D} {p pos : Pos} (hg : Gl X "range") (hm : X.mg "range" = none) (ha : SB X xv W a t f) (hb : SB X xv W b u g) (hs : starEach [a, b] X.env = [(false, eval a X.env), (false, eval b X.env)] := by rfl) (hs2 : starEach [b] X.env = [(false, eval b X.env)] := by rfl)
    (h1 : starEach [a, b] X.env = (false, eval a X.env) :: starEach [b] X.env := by rfl) (h2 : starEach [b] X.env = (false, eval b X.env) :: starEach [] X.env := by rfl) : SIt X xv W Kp tg (.Call (.Name "range" p) [a, b] [] pos) (iRng2 (tCons t (tCons u tNil))) (sR2 f g) := by
  refine ⟨pi_range2 hg hm (pa_cons ha.1 (pa1 hb.1 h2) h1) hs hs2, fun σ H ρ O Rr e k => ha.2 σ H ρ O _ e ?_⟩
  unfold sR2 at k
  cases hf : f ρ with
  | stuck => rw [hf] at k; exact k.elim
  | exc c => rw [hf] at k; exact k
  | ok x =>
    rw [hf] at k
    intro v H1 e1 r
    refine hb.2 σ H1 ρ O _ (e.same e1) ?_
    have k : (match (g ρ).bind fun y => (match x, y with
      | .int i, .int j => grd (decide (j ≤ lB) && decide (-lB ≤ j) && decide (i ≤ lB) && decide (-lB ≤ i) && decide (j - i ≤ lB)) (R.ok (rng i (j - i).toNat))
      | _, _ => R.stuck) with
      | .ok xs => xs.length ≤ lB → ∀ J H1 G Y, Same H H1 → Walk J xs.length G Y → (∀ H', Kp O H1 H' → G H') → (∀ i H2 x H3, Kp O H1 H2 → Y i H2 x H3 → Same H2 H3 ∧ ∀ d, xs[i]? = some d → ∀ O2, (∀ a ∈ O2, a ∈ O ∨ H1 a = none) → Rp X.K H3 O2 d x) → Rr J H1
      | .exc c => ∀ H' C, Same H H' → X.mg c = some C → W C none σ H'
      | .stuck => False) := k
    cases hgf : g ρ with
    | stuck => rw [hgf] at k; exact k.elim
    | exc c => rw [hgf] at k; exact fun H' C e2 m => k H' C (e1.trans e2) m
    | ok y =>
      rw [hgf] at k
      intro w H2 e2 r2
      cases x with
      | int i =>
        cases y with
        | int j =>
          cases r; cases r2
          have k : (match grd (decide (j ≤ lB) && decide (-lB ≤ j) && decide (i ≤ lB) && decide (-lB ≤ i) && decide (j - i ≤ lB)) (R.ok (rng i (j - i).toNat)) with
            | .ok xs => xs.length ≤ lB → ∀ J H1 G Y, Same H H1 → Walk J xs.length G Y → (∀ H', Kp O H1 H' → G H') → (∀ i H2 x H3, Kp O H1 H2 → Y i H2 x H3 → Same H2 H3 ∧ ∀ d, xs[i]? = some d → ∀ O2, (∀ a ∈ O2, a ∈ O ∨ H1 a = none) → Rp X.K H3 O2 d x) → Rr J H1
            | .exc c => ∀ H' C, Same H H' → X.mg c = some C → W C none σ H'
            | .stuck => False) := k
          cases hb : (decide (j ≤ lB) && decide (-lB ≤ j) && decide (i ≤ lB) && decide (-lB ≤ i) && decide (j - i ≤ lB)) with
          | false => rw [hb] at k; exact k.elim
          | true =>
            rw [hb] at k
            simp only [Bool.and_eq_true, decide_eq_true_eq] at hb
            have hB : (lB : Int) = 1000000 := rfl
            have hl : (j - i).toNat ≤ lB := by omega
            · refine ⟨i, j, rfl, ⟨by omega, by omega, by omega, by omega⟩, k (by rw [rng_len]; exact hl) _ H2 _ _ (e1.trans e2) (by rw [rng_len]; exact walk_range) (fun _ _ => trivial) fun n H3 x H4 s y => ?_⟩
              obtain ⟨rfl, rfl⟩ := y
              exact ⟨Same.refl _, fun d hd O2 _ => by rw [rng_get hd]; exact .int _⟩
        | _ => exact k.elim
      | _ => cases y <;> exact k.elim
end
/-! ### the errors of a program: which is under which -/
def subOf (tab : List (Str × List Str)) (c d : Str) : Bool := match tab.lookup c with
  | some l => l.contains d
  | none => false
end Lt
namespace Lt
open PySem PySem.Spec PyProof.Rows L2
/-! ### the facts of the errors' classes, handed on to a context -/
def hitK (K : PySem.W.Frag) (mg : Str → Option Value) (cs : List Str) (h : Str → Bool) (Dv : Value) : Prop := ∀ cn ∈ cs, ∃ C, mg cn = some (.ref C) ∧ ExcC K C ∧ PySem.W.exmOne K (.ref C) Dv = some (h cn)
theorem hit_of {X : Cx} {cs : List Str} {h : Str → Bool} {Dv : Value} (q : hitK X.K X.mg cs h Dv) : hitOk X cs h Dv := fun cn hc => let ⟨C, a, b, c⟩ := q cn hc; ⟨C, ⟨a, b⟩, c⟩
def kitK (K : PySem.W.Frag) (mg : Str → Option Value) (cs : List Str) (h : Str → Bool) (Dv : Value) : Prop := ∀ cn ∈ cs, ∀ C, mg cn = some (.ref C) → PySem.W.kitOne K (.ref C) Dv = some (h cn)
/-! ### the law's end -/
theorem script_rp {K : PySem.W.Frag} {H : Hp} {a : Addr} {ns : List Int} (hl : ns.length ≤ lB) (hO : Only H) (hS : SqL K H a (ns.map V.int)) : Rp K H [] (.rol (ns.map D.int)) (.ref a) := by
  have r : ∀ ns : List Int, RpL K H [] (ns.map D.int) (ns.map V.int) := by
    intro ns
    induction ns with
    | nil => exact .nil
    | cons n ns ih => exact .cons (.int n) ih
  have h : RoL K H a (ns.map V.int) := by
    rcases hS with (h | h) | h
    · rcases hO a with z | ⟨o, xs, z⟩
      · rw [z] at h; cases h
      · rw [z] at h; cases h
    · exact .inl h
    · exact .inr h
  exact .rol h (by rw [List.length_map]; exact hl) (r ns)
theorem sp_law {K : PySem.W.Frag} {mg : Str → Option Value} {m : List D → R Val} {H : Hp} {a : Addr} {ns : List Int} (hl : ns.length ≤ 63) (hO : Only H) (hS : SqL K H a (ns.map V.int)) (hm : m [.rol (ns.map D.int)] = .ok (.fr (.bl true))) :
    spM K mg 1 m [.ref a] H (fun v _ => v = .bl true) fun _ _ _ => False := by
  refine ⟨[.rol (ns.map D.int)], [], rfl, .cons (script_rp (Nat.le_trans hl (by decide)) hO hS) .nil, fun _ q => absurd q List.not_mem_nil, ?_⟩
  rw [hm]
  intro v H' _ r
  cases r
  rfl
theorem cx_none {P : Program} {w : World} {H : Hp} {s : Shared} {e : Value} {s' : Shared} (z : L2.CX P w [] H s (fun _ _ _ => False) e s') : False := by
  obtain ⟨_, _, _, _, _, _, _, _, _, _, _, _, z⟩ := z
  exact z
end Lt

set_option Elab.async false
set_option linter.all false
set_option autoImplicit false
set_option maxRecDepth 100000
set_option maxHeartbeats 4000000
namespace Lt
open PySem PySem.Spec PyProof.Rows L2 He
/-! ### what the top has written: a datum, told by one word -/
def isV : D → Value → Bool
  | .non, .none => true
  | .bl b, .bool c => b == c
  | .int i, .int j _ => decide (i = j)
  | .str x, .str y _ => decide (x = y) && strG x
  | _, _ => false
def flatV (ds : List D) (us : List Value) : Bool := match ds, us with
  | [], [] => true
  | d :: ds, u :: us => isV d u && flatV ds us
  | _, _ => false
def atW (K : PySem.W.Frag) (d : D) (u : Value) : Bool := match d, u with
  | .tup ds, .ref a => (match K.lookup a with
    | some ⟨.type c, _, .seq its _, _⟩ => decide (c = "tuple") && (decide (its.size ≤ 1000) && flatV ds its.toList)
    | _ => false)
  | d, u => isV d u
theorem isV_ok {K : PySem.W.Frag} {d : D} {u : Value} (h : isV d u = true) : ∃ v, RelV v u ∧ ∀ H O, Rp K H O d v := by
  unfold isV at h
  split at h
  · exact ⟨.non, rfl, fun _ _ => .non⟩
  · have := eq_of_beq h
    subst this
    exact ⟨.bl _, rfl, fun _ _ => .bl _⟩
  · have := of_decide_eq_true h
    subst this
    exact ⟨.int _, ⟨_, rfl⟩, fun _ _ => .int _⟩
  · rw [Bool.and_eq_true, decide_eq_true_eq] at h
    obtain ⟨h1, h2⟩ := h
    subst h1
    exact ⟨.str _, ⟨_, rfl⟩, fun _ _ => .str _ h2⟩
  · cases h
theorem flatV_ok {K : PySem.W.Frag} : ∀ {ds : List D} {us : List Value}, flatV ds us = true → ∃ vs, Vals vs us ∧ (∀ H O, RpL K H O ds vs)
  | [], [], _ => ⟨[], .nil, fun _ _ => .nil⟩
  | d :: ds, u :: us, h => by
    have h : (isV d u && flatV ds us) = true := h
    rw [Bool.and_eq_true] at h
    obtain ⟨v, r, q⟩ := isV_ok (K := K) h.1
    obtain ⟨vs, rs, qs⟩ := flatV_ok (K := K) h.2
    exact ⟨v :: vs, .cons r rs, fun H O => .cons (q H O) (qs H O)⟩
  | [], _ :: _, h => by cases h
  | _ :: _, [], h => by cases h
theorem atW_ok {K : PySem.W.Frag} {d : D} {u : Value} (h : atW K d u = true) : ∃ v, RelV v u ∧ ∀ H O, Rp K H O d v := by
  unfold atW at h
  split at h
  · rename_i ds a
    split at h
    · rename_i c od its n sl q
      rw [Bool.and_eq_true, Bool.and_eq_true, decide_eq_true_eq, decide_eq_true_eq] at h
      obtain ⟨hc, hs, hf⟩ := h
      subst hc
      obtain ⟨vs, r, qs⟩ := flatV_ok (K := K) hf
      have hl : vs.length = its.size := by rw [r.length]; exact Array.length_toList
      refine ⟨.ref a, rfl, fun H O => .tup (.inr ⟨_, its, n, q, rfl, rfl, Nat.le_trans hs (by decide), r⟩) ?_ (qs H O)⟩
      rw [hl]
      exact Nat.le_trans hs (by decide)
    · cases h
  · exact isV_ok h
/-- a dict of the top: its values -/
def kdW (K : PySem.W.Frag) (p : Addr) : List (Str × D) → Bool
  | [] => true
  | (k, d) :: r => (match PySem.W.nsIn K p k with
    | some (some u) => atW K d u
    | _ => false) && kdW K p r
theorem kd_ok {K : PySem.W.Frag} {w : World} {p : Addr} {kvs : List (Str × D)} {ks : List Str} (h1 : dicW K p = some (keysIn w.params ks)) (h2 : kdW K p kvs = true) : KdOk K w p kvs := by
  obtain ⟨es, n, hD⟩ := dicW_ok h1
  intro z d hl
  induction kvs with
  | nil => cases hl
  | cons q r ih =>
    obtain ⟨k, d'⟩ := q
    have h2 : ((match PySem.W.nsIn K p k with
      | some (some u) => atW K d' u
      | _ => false) && kdW K p r) = true := h2
    rw [Bool.and_eq_true] at h2
    by_cases e : z = k
    · subst e
      have : d' = d := by
        have hl : lookD ((z, d') :: r) z = some d := hl
        unfold lookD at hl
        simpa using hl
      subst this
      have h3 := h2.1
      split at h3
      · rename_i u hu
        obtain ⟨v, rv, q⟩ := atW_ok h3
        exact ⟨v, q, es, n, u, hD.at_, hD.lit, hu, rv⟩
      · cases h3
    · refine ih h2.2 ?_
      have hl : lookD ((k, d') :: r) z = some d := hl
      unfold lookD at hl ⊢
      simpa [e, Ne.symm e] using hl
/-! ### the law's promise, over the written part alone -/
def spLawK (K : PySem.W.Frag) : Sp := fun vs H Q _ => ∃ (a : Addr) (ns : List Int), vs = [.ref a] ∧ Only H ∧ SqL K H a (ns.map V.int) ∧ ns.length ≤ 63 ∧ ∀ H', Q (.bl true) H'
theorem law_imp {P : Program} {w : World} {K : PySem.W.Frag} {mg : Str → Option Value} {base : Heap} {CX : CXT} {k : Nat} {f : Addr} {fd : FuncData} {m : List D → R Val} {x : Str} (F : FnOk P w K mg base CX k f fd [x] (spM K mg 1 m))
    (hm : ∀ ns : List Int, ns.length ≤ 63 → m [.rol (ns.map D.int)] = .ok (.fr (.bl true))) : FnOk P w K mg base CX k f fd [x] (spLawK K) :=
  F.imp fun vs H Q E h => by
    obtain ⟨a, ns, rfl, hO, hS, hl, q⟩ := h
    refine ⟨[.rol (ns.map D.int)], [], rfl, .cons (script_rp (Nat.le_trans hl (by decide)) hO hS) .nil, fun _ q => absurd q List.not_mem_nil, ?_⟩
    rw [hm ns hl]
    intro v H' _ r
    cases r
    exact q H'
end Lt

set_option Elab.async false
set_option linter.all false
set_option autoImplicit false
set_option maxRecDepth 100000
namespace Lt
open PySem PySem.Spec L2
/-! ### the plain functions, step by step: rows for simp -/
section
variable {α β γ : Type}
@[simp] theorem bind_ok (a : α) (f : α → R β) : (R.ok a).bind f = f a := rfl
@[simp] theorem bind_exc (c : Str) (f : α → R β) : (R.exc c).bind f = .exc c := rfl
@[simp] theorem bind_stuck (f : α → R β) : (R.stuck : R α).bind f = .stuck := rfl
@[simp] theorem bind_ite {p : Prop} [Decidable p] (a b : R α) (f : α → R β) : (if p then a else b).bind f = if p then a.bind f else b.bind f := by split <;> rfl
@[simp] theorem mapR_ok (f : α → β) (a : α) : mapR f (.ok a) = .ok (f a) := rfl
@[simp] theorem mapR_exc (f : α → β) (c : Str) : mapR f (.exc c) = .exc c := rfl
@[simp] theorem mapR_stuck (f : α → β) : mapR f .stuck = .stuck := rfl
@[simp] theorem mapR_ite {p : Prop} [Decidable p] (f : α → β) (a b : R α) : mapR f (if p then a else b) = if p then mapR f a else mapR f b := by split <;> rfl
@[simp] theorem out_ok (a : α) (ρ : En) (k : α → Out) : (R.ok a).out ρ k = k a := rfl
@[simp] theorem out_exc (c : Str) (ρ : En) (k : α → Out) : (R.exc c : R α).out ρ k = .exc c ρ := rfl
@[simp] theorem out_stuck (ρ : En) (k : α → Out) : (R.stuck : R α).out ρ k = .stuck := rfl
@[simp] theorem out_ite {p : Prop} [Decidable p] (a b : R α) (ρ : En) (k : α → Out) : (if p then a else b).out ρ k = if p then a.out ρ k else b.out ρ k := by split <;> rfl
end
@[simp] theorem d_fr (d : D) : Val.d (.fr d) = d := rfl
@[simp] theorem d_nw (xs : List D) : Val.d (.nw xs) = .lst xs := rfl
@[simp] theorem slot_fr (d : D) : Val.slot (.fr d) = .fr d := rfl
@[simp] theorem slot_nw (xs : List D) : Val.slot (.nw xs) = .ow xs := rfl
@[simp] theorem grd_true {α : Type} (r : R α) : grd true r = r := rfl
theorem grd_of {α : Type} {b : Bool} (r : R α) (h : b = true) : grd b r = r := by rw [h]; rfl
@[simp] theorem grdO_true (r : Out) : grdO true r = r := rfl
theorem chr_inj : ∀ {a b : List Char}, a.map Char.toNat = b.map Char.toNat → a = b
  | [], [], _ => rfl
  | [], _ :: _, h => by cases h
  | _ :: _, [], h => by cases h
  | x :: xs, y :: ys, h => by
    rw [List.map_cons, List.map_cons] at h
    injection h with h1 h2
    rw [chr_inj h2, Char.ext (UInt32.toNat_inj.mp h1)]
@[simp] theorem str_inj (a b : String) : (Str.ofString a = Str.ofString b) ↔ a = b := by
  constructor
  · intro h
    rw [Str.ofString_eq_toList, Str.ofString_eq_toList] at h
    injection h with h
    have h := congrArg Array.toList h
    rw [List.toList_toArray, List.toList_toArray] at h
    exact String.toList_injective (chr_inj h)
  · intro h; rw [h]
@[simp] theorem lB_eq : lB = 1000000 := rfl
theorem dite_bl {p : Prop} [Decidable p] (a b : D) : (if p then (R.ok (Val.fr a)) else R.ok (.fr b)) = .ok (.fr (if p then a else b)) := by split <;> rfl
theorem boolsD_map (p : D → Bool) : ∀ xs : List D, boolsD (xs.map fun x => .bl (p x)) = some (xs.map p)
  | [] => rfl
  | x :: xs => by
    show (boolsD (xs.map fun x => .bl (p x))).map (p x :: ·) = _
    rw [boolsD_map p xs]
    rfl
@[simp] theorem boolsD_ints {α : Type} (p : α → Bool) : ∀ xs : List α, boolsD (xs.map fun x => .bl (p x)) = some (xs.map p)
  | [] => rfl
  | x :: xs => by
    show (boolsD (xs.map fun x => .bl (p x))).map (p x :: ·) = _
    rw [boolsD_ints p xs]
    rfl
/-! slots -/
def slV : Option Slot → R Val
  | some (.fr d) => .ok (.fr d)
  | _ => .stuck
def slB : Option Slot → R D
  | some (.fr d) => .ok d
  | some (.ow xs) => .ok (.lst xs)
  | _ => .stuck
@[simp] theorem slV_fr (d : D) : slV (some (.fr d)) = .ok (.fr d) := rfl
@[simp] theorem slB_fr (d : D) : slB (some (.fr d)) = .ok d := rfl
@[simp] theorem slB_ow (d : List D) : slB (some (.ow d)) = .ok (.lst d) := rfl
@[simp] theorem sVar_eq (i : Nat) (ρ : En) : sVar i ρ = slV ρ[i]? := by
  unfold sVar slV
  split <;> simp_all
@[simp] theorem sVarB_eq (i : Nat) (ρ : En) : sVarB i ρ = slB ρ[i]? := by
  unfold sVarB slB
  split <;> simp_all
@[simp] theorem sC_eq (d : D) (ρ : En) : sC d ρ = .ok (.fr d) := rfl
@[simp] theorem sB_eq (f : En → R Val) (ρ : En) : sB f ρ = mapR Val.d (f ρ) := rfl
@[simp] theorem aNil_eq (ρ : En) : aNil ρ = .ok [] := rfl
@[simp] theorem aCons_eq (f : En → R Val) (g : En → R (List D)) (ρ : En) : aCons f g ρ = (f ρ).bind fun x => (g ρ).bind fun xs => .ok (x.d :: xs) := rfl
@[simp] theorem aConsB_eq (f : En → R D) (g : En → R (List D)) (ρ : En) : aConsB f g ρ = (f ρ).bind fun x => (g ρ).bind fun xs => .ok (x :: xs) := rfl
@[simp] theorem sTup_eq (g : En → R (List D)) (ρ : En) : sTup g ρ = (g ρ).bind fun xs => .ok (.fr (.tup xs)) := rfl
@[simp] theorem sLst_eq (g : En → R (List D)) (ρ : En) : sLst g ρ = (g ρ).bind fun xs => .ok (.nw xs) := rfl
/-! operators -/
def oR : Option D → R D
  | some d => .ok d
  | none => .stuck
@[simp] theorem oR_some (d : D) : oR (some d) = .ok d := rfl
@[simp] theorem optV_some (d : D) : optV (some d) = .ok (.fr d) := rfl
@[simp] theorem optV_ite {p : Prop} [Decidable p] (a b : Option D) : optV (if p then a else b) = if p then optV a else optV b := by split <;> rfl
@[simp] theorem lift2_eq (op : D → D → Option D) (f g : En → R D) (ρ : En) : lift2 op f g ρ = (f ρ).bind fun x => (g ρ).bind fun y => optV (op x y) := rfl
@[simp] theorem asB_bl (b : Bool) : asB (.bl b) = .ok b := rfl
@[simp] theorem tst_eq (f : En → R Val) (ρ : En) : tst f ρ = (f ρ).bind fun v => asB v.d := rfl
@[simp] theorem dSub_i (i j : Int) : dSub (.int i) (.int j) = some (.int (i - j)) := rfl
@[simp] theorem dAddI_i (i j : Int) : dAddI (.int i) (.int j) = some (.int (i + j)) := rfl
@[simp] theorem dLt_i (i j : Int) : dLt (.int i) (.int j) = some (.bl (decide (i < j))) := rfl
@[simp] theorem dLe_i (i j : Int) : dLe (.int i) (.int j) = some (.bl (decide (i ≤ j))) := rfl
@[simp] theorem dGt_i (i j : Int) : dGt (.int i) (.int j) = some (.bl (decide (j < i))) := rfl
@[simp] theorem dGe_i (i j : Int) : dGe (.int i) (.int j) = some (.bl (decide (j ≤ i))) := rfl
@[simp] theorem dMod_i (i j : Int) : dMod (.int i) (.int j) = if 0 < j then some (.int (i % j)) else none := by
  show (if decide (0 < j) = true then _ else _) = _
  simp
theorem dDiv_i (i j : Int) : dDiv (.int i) (.int j) = if 0 < j ∧ j.natAbs.log2 < 9000 then some (.int (i / j)) else none := by
  show (if (decide (0 < j) && decide (j.natAbs.log2 < 9000)) = true then _ else _) = _
  simp
@[simp] theorem dDiv_s (i j : Int) (h1 : 0 < j) (h2 : j < 9223372036854775808) : dDiv (.int i) (.int j) = some (.int (i / j)) := by
  have h3 : j.natAbs < 2 ^ 63 := by omega
  have h4 : j.natAbs.log2 < 63 := (Nat.log2_lt (by omega)).mpr h3
  rw [dDiv_i, if_pos ⟨h1, Nat.lt_trans h4 (by decide)⟩]
@[simp] theorem dPow_i (i j : Int) : dPow (.int i) (.int j) = if (0 ≤ j ∧ j ≤ 1000000) ∧ i.natAbs < 2 ^ 64 then some (.int (i ^ j.toNat)) else none := by
  show (if (decide (0 ≤ j) && decide (j ≤ 1000000) && decide (i.natAbs < 2 ^ 64)) = true then _ else _) = _
  simp
@[simp] theorem dMul_i (i j : Int) : dMul (.int i) (.int j) = if mulOk i j = true then some (.int (i * j)) else none := rfl
theorem mulOk_r {i j : Int} (h : j.natAbs < 18446744073709551616) : mulOk i j = true := by
  unfold mulOk
  simp [h]
theorem mulOk_l {i j : Int} (h : i.natAbs < 18446744073709551616) : mulOk i j = true := by
  unfold mulOk
  simp [h]
@[simp] theorem eqv_int (i j : Int) : PyData.eqv (.int i) (.int j) = (i == j) := by first | rfl | simp [PyData.eqv]
@[simp] theorem eqv_str (i j : Str) : PyData.eqv (.str i) (.str j) = (i == j) := by first | rfl | simp [PyData.eqv]
@[simp] theorem dEqO_i (i j : Int) : dEqO (.int i) (.int j) = some (.bl (decide (i = j))) := by
  simp [dEqO, eqOk, dEq, toP]
  rfl
@[simp] theorem dNeO_i (i j : Int) : dNeO (.int i) (.int j) = some (.bl (decide (i ≠ j))) := by
  simp [dNeO, eqOk, dEq, toP]
  rfl
theorem str_beq (x y : Str) : (x == y) = decide (x = y) := by
  by_cases h : x = y
  · subst h; simp
  · simp [h]
@[simp] theorem dEqO_s (x y : Str) : dEqO (.str x) (.str y) = some (.bl (decide (x = y))) := by
  simp [dEqO, eqOk, dEq, toP, str_beq]
@[simp] theorem dNeO_s (x y : Str) : dNeO (.str x) (.str y) = some (.bl (decide (x ≠ y))) := by
  simp [dNeO, eqOk, dEq, toP, str_beq]
@[simp] theorem dIs_eq (x : D) : dIs x .non = some (.bl (isNonD x)) := rfl
@[simp] theorem dIsNot_eq (x : D) : dIsNot x .non = some (.bl (!isNonD x)) := rfl
@[simp] theorem isNonD_non : isNonD .non = true := rfl
@[simp] theorem addV_i (i j : Int) : addV (.int i) (.int j) = .ok (.fr (.int (i + j))) := rfl
@[simp] theorem addV_t (i j : List D) : addV (.tup i) (.tup j) = grd (decide (i.length + j.length ≤ lB)) (.ok (.fr (.tup (i ++ j)))) := rfl
@[simp] theorem addV_l (i j : List D) : addV (.lst i) (.lst j) = grd (decide (i.length + j.length ≤ lB)) (.ok (.nw (i ++ j))) := rfl
@[simp] theorem sAdd_eq (f g : En → R D) (ρ : En) : sAdd f g ρ = (f ρ).bind fun x => (g ρ).bind fun y => addV x y := rfl
@[simp] theorem sMul_eq (f g : En → R D) (ρ : En) : sMul f g ρ = (f ρ).bind fun x => (g ρ).bind fun y => repV x y := rfl
@[simp] theorem repV_i (i j : Int) : repV (.int i) (.int j) = grd (mulOk i j) (.ok (.fr (.int (i * j)))) := rfl
@[simp] theorem sNeg_eq (f : En → R D) (ρ : En) : sNeg f ρ = (f ρ).bind negD := rfl
@[simp] theorem negD_i (i : Int) : negD (.int i) = .ok (.fr (.int (-i))) := rfl
/-! tests -/
@[simp] theorem tNo_eq (f : En → R Bool) (ρ : En) : tNo f ρ = (f ρ).bind fun b => .ok (!b) := rfl
@[simp] theorem tAn_eq (f g : En → R Bool) (ρ : En) : tAn f g ρ = (f ρ).bind fun b => if b = true then g ρ else .ok false := rfl
@[simp] theorem tOrr_eq (f g : En → R Bool) (ρ : En) : tOrr f g ρ = (f ρ).bind fun b => if b = true then .ok true else g ρ := rfl
@[simp] theorem vAnd_eq (f g : En → R Val) (ρ : En) : vAnd f g ρ = (f ρ).bind fun x => (asB x.d).bind fun b => if b = true then g ρ else .ok (.fr (.bl false)) := rfl
@[simp] theorem vOr_eq (f g : En → R Val) (ρ : En) : vOr f g ρ = (f ρ).bind fun x => (asB x.d).bind fun b => if b = true then .ok (.fr (.bl true)) else g ρ := rfl
@[simp] theorem vNot_eq (f : En → R Val) (ρ : En) : vNot f ρ = (f ρ).bind fun x => (asB x.d).bind fun b => .ok (.fr (.bl (!b))) := rfl
@[simp] theorem sIf_eq (c : En → R Bool) (f g : En → R Val) (ρ : En) : sIf c f g ρ = (c ρ).bind fun b => if b = true then f ρ else g ρ := rfl
def chK (o : Option D) (r : R D) : R D := match o with
  | some (.bl true) => r
  | some (.bl false) => .ok (.bl false)
  | _ => .stuck
@[simp] theorem chK_bl (p : Prop) [Decidable p] (r : R D) : chK (some (.bl (decide p))) r = if p then r else .ok (.bl false) := by
  by_cases h : p <;> simp [chK, h]
@[simp] theorem chK_t (r : R D) : chK (some (.bl true)) r = r := rfl
@[simp] theorem chK_f (r : R D) : chK (some (.bl false)) r = .ok (.bl false) := rfl
def chV (y : D) : R Val := match toV y with
  | some _ => .ok (.fr y)
  | none => .stuck
@[simp] theorem chV_bl (b : Bool) : chV (.bl b) = .ok (.fr (.bl b)) := rfl
@[simp] theorem chL_eq (op : D → D → Option D) (g : En → R D) (x : D) (ρ : En) : chL op g x ρ = (g ρ).bind fun y => oR (op x y) := rfl
@[simp] theorem chC_eq (op : D → D → Option D) (g : En → R D) (k : D → En → R D) (x : D) (ρ : En) : chC op g k x ρ = (g ρ).bind fun y => chK (op x y) (k y ρ) := by
  unfold chC chK
  congr
@[simp] theorem chain_eq (f : En → R D) (g : D → En → R D) (ρ : En) : chain f g ρ = (f ρ).bind fun x => (g x ρ).bind chV := rfl
/-! subscripts, slices -/
@[simp] theorem RVo_some (d : D) : RVo (some d) = .ok (.fr d) := rfl
@[simp] theorem sIx_eq (f g : En → R D) (ρ : En) : sIx f g ρ = (f ρ).bind fun x => (g ρ).bind fun y => ixD x y := rfl
@[simp] theorem ixD_t (xs : List D) (i : Int) : ixD (.tup xs) (.int i) = RVo (atI xs i) := rfl
@[simp] theorem ixD_l (xs : List D) (i : Int) : ixD (.lst xs) (.int i) = RVo (atI xs i) := rfl
@[simp] theorem ixD_r (xs : List D) (i : Int) : ixD (.rol xs) (.int i) = RVo (atI xs i) := rfl
theorem atI_lit {xs : List D} {i : Int} (h : 0 ≤ i) : atI xs i = xs[i.toNat]? := by
  unfold atI ixN
  rw [if_pos h]
  by_cases h1 : i < (xs.length : Int)
  · rw [if_pos h1]; rfl
  · rw [if_neg h1, List.getElem?_eq_none (by omega)]; rfl
theorem atI_last {xs : List D} : atI xs (-1) = xs.getLast? := by
  unfold atI ixN
  rw [if_neg (by decide)]
  rw [List.getLast?_eq_getElem?]
  by_cases h1 : -(xs.length : Int) ≤ -1
  · rw [if_pos h1]
    have : (-1 + (xs.length : Int)).toNat = xs.length - 1 := by omega
    rw [this]; rfl
  · rw [if_neg h1, List.getElem?_eq_none (by omega)]; rfl
@[simp] theorem sSl_eq (f : En → R D) (lo hi : En → R (Option Int)) (ρ : En) : sSl f lo hi ρ = (f ρ).bind fun x => (lo ρ).bind fun a => (hi ρ).bind fun b => slD a b x := rfl
@[simp] theorem oNone_eq (ρ : En) : oNone ρ = .ok none := rfl
def oI : D → R (Option Int)
  | .int i => .ok (some i)
  | _ => .stuck
@[simp] theorem oI_i (i : Int) : oI (.int i) = .ok (some i) := rfl
@[simp] theorem oSome_eq (f : En → R D) (ρ : En) : oSome f ρ = (f ρ).bind oI := rfl
@[simp] theorem slD_l (lo hi : Option Int) (xs : List D) : slD lo hi (.lst xs) = .ok (.nw (cutD xs lo hi)) := rfl
@[simp] theorem slD_r (lo hi : Option Int) (xs : List D) : slD lo hi (.rol xs) = .ok (.nw (cutD xs lo hi)) := rfl
@[simp] theorem slD_t (lo hi : Option Int) (xs : List D) : slD lo hi (.tup xs) = .ok (.fr (.tup (cutD xs lo hi))) := rfl
theorem six_pos {n d : Nat} {v : Int} (h : 0 ≤ v) : HT.sIx n d (some v) = min v.toNat n := by
  show (if v < 0 then _ else _) = _
  rw [if_neg (by omega)]
theorem cutD_lo {xs : List D} {i : Int} (h : 0 ≤ i) : cutD xs (some i) none = xs.drop i.toNat := by
  unfold cutD
  rw [six_pos h, HT.sIx_none]
  by_cases q : i.toNat ≤ xs.length
  · rw [Nat.min_eq_left q, List.take_of_length_le (by rw [List.length_drop]; exact Nat.le_refl _)]
  · rw [Nat.min_eq_right (by omega), List.drop_eq_nil_of_le (Nat.le_refl _), List.drop_eq_nil_of_le (as := xs) (by omega)]
    simp
theorem cutD_hi {xs : List D} {i : Int} (h : 0 ≤ i) : cutD xs none (some i) = xs.take i.toNat := by
  unfold cutD
  rw [six_pos h, HT.sIx_none, List.drop_zero, Nat.sub_zero]
  by_cases q : i.toNat ≤ xs.length
  · rw [Nat.min_eq_left q]
  · rw [Nat.min_eq_right (by omega), List.take_of_length_le (l := xs) (Nat.le_refl _), List.take_of_length_le (l := xs) (by omega)]
theorem cutD_lh {xs : List D} {i j : Int} (h : 0 ≤ i) (h2 : 0 ≤ j) (h3 : i.toNat ≤ xs.length) (h4 : j.toNat ≤ xs.length) : cutD xs (some i) (some j) = (xs.drop i.toNat).take (j.toNat - i.toNat) := by
  unfold cutD
  rw [six_pos h, six_pos h2, Nat.min_eq_left h3, Nat.min_eq_left h4]
theorem six_m1 (n d : Nat) : HT.sIx n d (some (-1)) = n - 1 := by
  have e : HT.sIx n d (some (-1)) = (-1 + (n : Int)).toNat := rfl
  rw [e]
  omega
theorem cutD_m1 {xs : List D} : cutD xs none (some (-1)) = xs.dropLast := by
  unfold cutD
  rw [HT.sIx_none, List.drop_zero, Nat.sub_zero, List.dropLast_eq_take, six_m1]
theorem cutD_lm1 {xs : List D} : cutD xs (some (-1)) none = xs.drop (xs.length - 1) := by
  unfold cutD
  rw [HT.sIx_none, six_m1]
  exact List.take_of_length_le (by rw [List.length_drop]; exact Nat.le_refl _)
/-! calls -/
@[simp] theorem sCal_eq (op : List D → Option D) (g : En → R (List D)) (ρ : En) : sCal op g ρ = (g ρ).bind fun ds => optV (op ds) := rfl
@[simp] theorem sCal1_eq (op : D → R Val) (g : En → R D) (ρ : En) : sCal1 op g ρ = (g ρ).bind op := rfl
@[simp] theorem sCall_eq (m : List D → R Val) (g : En → R (List D)) (ρ : En) : sCall m g ρ = (g ρ).bind m := rfl
@[simp] theorem dLen_l (xs : List D) : dLen [.lst xs] = some (.int xs.length) := rfl
@[simp] theorem dLen_t (xs : List D) : dLen [.tup xs] = some (.int xs.length) := rfl
@[simp] theorem dLen_r (xs : List D) : dLen [.rol xs] = some (.int xs.length) := rfl
@[simp] theorem dLen_s (z : Str) : dLen [.str z] = some (.int z.length) := rfl
@[simp] theorem dAbs_i (i : Int) : dAbs [.int i] = some (.int (if i < 0 then -i else i)) := rfl
@[simp] theorem dInt_i (i : Int) : dInt [.int i] = some (.int i) := rfl
@[simp] theorem dInt_b (b : Bool) : dInt [.bl b] = some (.int (if b = true then 1 else 0)) := rfl
@[simp] theorem dMax2_i (i j : Int) : dMax2 [.int i, .int j] = some (.int (if j > i then j else i)) := rfl
@[simp] theorem dMin2_i (i j : Int) : dMin2 [.int i, .int j] = some (.int (if j < i then j else i)) := rfl
@[simp] theorem qTuple_l (xs : List D) : qTuple (.lst xs) = .ok (.fr (.tup xs)) := rfl
@[simp] theorem qTuple_t (xs : List D) : qTuple (.tup xs) = .ok (.fr (.tup xs)) := rfl
@[simp] theorem qList_l (xs : List D) : qList (.lst xs) = .ok (.nw xs) := rfl
@[simp] theorem qList_t (xs : List D) : qList (.tup xs) = .ok (.nw xs) := rfl
@[simp] theorem dAll_l (xs : List D) : dAll [.lst xs] = (boolsD xs).map fun bs => .bl (bs.all id) := rfl
@[simp] theorem boolsD_nil : boolsD [] = some [] := rfl
@[simp] theorem boolsD_cons (b : Bool) (xs : List D) : boolsD (.bl b :: xs) = (boolsD xs).map (b :: ·) := rfl
/-! statements -/
def seqO (o : Out) (g : En → Out) : Out := match o with
  | .nx ρ => g ρ
  | o => o
@[simp] theorem seqO_nx (ρ : En) (g : En → Out) : seqO (.nx ρ) g = g ρ := rfl
@[simp] theorem seqO_rt (v : Val) (g : En → Out) : seqO (.rt v) g = .rt v := rfl
@[simp] theorem seqO_bk (ρ : En) (g : En → Out) : seqO (.bk ρ) g = .bk ρ := rfl
@[simp] theorem seqO_ct (ρ : En) (g : En → Out) : seqO (.ct ρ) g = .ct ρ := rfl
@[simp] theorem seqO_exc (c : Str) (ρ : En) (g : En → Out) : seqO (.exc c ρ) g = .exc c ρ := rfl
@[simp] theorem seqO_stuck (g : En → Out) : seqO .stuck g = .stuck := rfl
@[simp] theorem seqO_ite {p : Prop} [Decidable p] (a b : Out) (g : En → Out) : seqO (if p then a else b) g = if p then seqO a g else seqO b g := by split <;> rfl
@[simp] theorem oSeq_eq (f g : En → Out) (ρ : En) : oSeq f g ρ = seqO (f ρ) g := by
  unfold oSeq seqO
  cases f ρ <;> rfl
@[simp] theorem oNx_eq (ρ : En) : oNx ρ = .nx ρ := rfl
@[simp] theorem oBk_eq (ρ : En) : oBk ρ = .bk ρ := rfl
@[simp] theorem oCt_eq (ρ : En) : oCt ρ = .ct ρ := rfl
@[simp] theorem oRetN_eq (ρ : En) : oRetN ρ = .rt (.fr .non) := rfl
@[simp] theorem oRaise_eq (c : Str) (ρ : En) : oRaise c ρ = .exc c ρ := rfl
@[simp] theorem oSet_eq (i : Nat) (f : En → R Val) (ρ : En) : oSet i f ρ = (f ρ).out ρ fun x => .nx (ρ.set i x.slot) := rfl
def asgK (ρ : En) (is : List Nat) : R (List D) → Out
  | .ok ds => .nx (setE ρ is ds)
  | _ => .stuck
@[simp] theorem asgK_ok (ρ : En) (is : List Nat) (ds : List D) : asgK ρ is (.ok ds) = .nx (setE ρ is ds) := rfl
@[simp] theorem oAsg_eq (is : List Nat) (b : D → R (List D)) (f : En → R Val) (ρ : En) : oAsg is b f ρ = (f ρ).out ρ fun x => asgK ρ is (b x.d) := by
  unfold oAsg asgK
  rfl
def parK (ρ : En) (i j : Nat) : List D → Out
  | [x, y] => .nx ((ρ.set i (.fr x)).set j (.fr y))
  | _ => .stuck
@[simp] theorem parK_eq (ρ : En) (i j : Nat) (x y : D) : parK ρ i j [x, y] = .nx ((ρ.set i (.fr x)).set j (.fr y)) := rfl
@[simp] theorem oPar_eq (i j : Nat) (g : En → R (List D)) (ρ : En) : oPar i j g ρ = (g ρ).out ρ (parK ρ i j) := rfl
@[simp] theorem oRet_eq (f : En → R Val) (ρ : En) : oRet f ρ = (f ρ).out ρ fun x => .rt x := rfl
@[simp] theorem oDrop_eq (f : En → R Val) (ρ : En) : oDrop f ρ = (f ρ).out ρ fun _ => .nx ρ := rfl
@[simp] theorem oIf_eq (c : En → R Bool) (f g : En → Out) (ρ : En) : oIf c f g ρ = (c ρ).out ρ fun b => if b = true then f ρ else g ρ := rfl
def retO : Option Slot → Out
  | some (.ow xs) => .rt (.nw xs)
  | some (.fr d) => .rt (.fr d)
  | _ => .stuck
@[simp] theorem retO_ow (xs : List D) : retO (some (.ow xs)) = .rt (.nw xs) := rfl
@[simp] theorem retO_fr (d : D) : retO (some (.fr d)) = .rt (.fr d) := rfl
@[simp] theorem oRetO_eq (i : Nat) (ρ : En) : oRetO i ρ = retO ρ[i]? := by
  unfold oRetO retO
  split <;> simp_all
def ownK : Option Slot → (List D → Out) → Out
  | some (.ow xs), k => k xs
  | _, _ => .stuck
@[simp] theorem ownK_ow (xs : List D) (k : List D → Out) : ownK (some (.ow xs)) k = k xs := rfl
@[simp] theorem ownOut_eq (i : Nat) (k : List D → Out) (ρ : En) : Lt.ownOut i k ρ = ownK ρ[i]? k := by
  unfold Lt.ownOut ownK
  split <;> simp_all
@[simp] theorem oApp_eq (i : Nat) (f : En → R Val) (ρ : En) : oApp i f ρ = ownK ρ[i]? fun xs => (f ρ).out ρ fun x => grdO (decide (xs.length < lB)) (.nx (ρ.set i (.ow (xs ++ [x.d])))) := by
  unfold oApp
  rw [ownOut_eq]
@[simp] theorem bName_eq (d : D) : bName d = .ok [d] := rfl
@[simp] theorem bNil_eq : bNil [] = .ok [] := rfl
@[simp] theorem bCons_eq (b : D → R (List D)) (c : List D → R (List D)) (d : D) (r : List D) : bCons b c (d :: r) = (b d).bind fun x => (c r).bind fun y => .ok (x ++ y) := rfl
@[simp] theorem bTup_eq (c : List D → R (List D)) (ds : List D) : bTup c (.tup ds) = c ds := rfl
@[simp] theorem setE_cons (ρ : En) (i : Nat) (is : List Nat) (d : D) (ds : List D) : setE ρ (i :: is) (d :: ds) = setE (ρ.set i (.fr d)) is ds := rfl
@[simp] theorem setE_nil (ρ : En) : setE ρ [] [] = ρ := by first | rfl | simp [setE]
@[simp] theorem wipeE_nil (ρ : En) : wipeE ρ [] = ρ := by first | rfl | simp [wipeE]
@[simp] theorem wipeE_cons (ρ : En) (i : Nat) (is : List Nat) : wipeE ρ (i :: is) = (wipeE ρ is).set i .un := by first | rfl | simp [wipeE]
/-! comprehensions, loops -/
@[simp] theorem sItems_eq (f : En → R D) (ρ : En) : sItems f ρ = (f ρ).bind itemsD := rfl
@[simp] theorem itemsD_l (xs : List D) : itemsD (.lst xs) = .ok xs := rfl
@[simp] theorem itemsD_t (xs : List D) : itemsD (.tup xs) = .ok xs := rfl
@[simp] theorem itemsD_r (xs : List D) : itemsD (.rol xs) = .ok xs := rfl
@[simp] theorem tYs_eq (ρ : En) : tYs ρ = .ok true := rfl
@[simp] theorem sLc_eq (it : En → R (List D)) (own is : List Nat) (b : D → R (List D)) (c : En → R Bool) (f : En → R Val) (ρ : En) :
    sLc it own is b c f ρ = (it ρ).bind fun xs => grd (decide (xs.length ≤ lB)) ((lcLoop is b c f (wipeE ρ own) xs).bind fun ys => .ok (.nw ys)) := rfl
@[simp] theorem lc_nil (is : List Nat) (b : D → R (List D)) (c : En → R Bool) (f : En → R Val) (ρ : En) : lcLoop is b c f ρ [] = .ok [] := by first | rfl | simp [lcLoop]
def lcK (r : R Val) (k : R (List D)) : R (List D) := match r with
  | .ok y => k.bind fun ys => .ok (y.d :: ys)
  | _ => .stuck
@[simp] theorem lcK_ok (y : Val) (k : R (List D)) : lcK (.ok y) k = k.bind fun ys => .ok (y.d :: ys) := rfl
@[simp] theorem lcK_ite {p : Prop} [Decidable p] (a b : R Val) (k : R (List D)) : lcK (if p then a else b) k = if p then lcK a k else lcK b k := by split <;> rfl
@[simp] theorem lc_cons (is : List Nat) (f : En → R Val) (ρ : En) (x : D) (xs : List D) : lcLoop is bName tYs f ρ (x :: xs) = lcK (f (setE ρ is [x])) (lcLoop is bName tYs f ρ xs) := by
  show (match f (setE ρ is [x]) with
    | .ok y => (lcLoop is bName tYs f ρ xs).bind fun ys => .ok (y.d :: ys)
    | _ => .stuck) = _
  cases f (setE ρ is [x]) <;> rfl
/-- an element whose target is a name, without a condition -/
theorem lc_one {is : List Nat} {f : En → R Val} {ρ : En} {x : D} {xs : List D} {y : Val} (h : f (setE ρ is [x]) = .ok y) : lcLoop is bName tYs f ρ (x :: xs) = (lcLoop is bName tYs f ρ xs).bind fun ys => .ok (y.d :: ys) := by
  show (match f (setE ρ is [x]) with
    | .ok y => (lcLoop is bName tYs f ρ xs).bind fun ys => .ok (y.d :: ys)
    | _ => .stuck) = _
  rw [h]
theorem lc_map {is : List Nat} {f : En → R Val} {ρ : En} {g : D → D} : ∀ {xs : List D}, (∀ x ∈ xs, ∃ y, f (setE ρ is [x]) = .ok y ∧ y.d = g x) → lcLoop is bName tYs f ρ xs = .ok (xs.map g)
  | [], _ => lc_nil _ _ _ _ _
  | x :: xs, h => by
    obtain ⟨y, h1, h2⟩ := h x List.mem_cons_self
    rw [lc_one h1, lc_map fun z hz => h z (List.mem_cons_of_mem _ hz), h2]
    rfl
theorem all_lc {it : En → R (List D)} {own is : List Nat} {f : En → R Val} {ρ : En} {xs : List D} {p : D → Bool} (h1 : it ρ = .ok xs) (hl : xs.length ≤ 1000000) (h2 : ∀ x ∈ xs, f (setE (wipeE ρ own) is [x]) = .ok (.fr (.bl (p x)))) :
    sCal dAll (aConsB (sB (sLc it own is bName tYs f)) aNil) ρ = .ok (.fr (.bl (xs.all p))) := by
  have h3 : lcLoop is bName tYs f (wipeE ρ own) xs = .ok (xs.map fun x => .bl (p x)) := lc_map fun x hx => ⟨_, h2 x hx, rfl⟩
  rw [sCal_eq, aConsB_eq, sB_eq, sLc_eq, h1, bind_ok, grd_of _ (by simpa using hl), h3]
  simp only [bind_ok, mapR_ok, d_nw, aNil_eq, dAll_l, boolsD_map, Option.map_some, optV_some]
  rw [List.all_map]
  rfl
theorem lc_ints {it : En → R (List D)} {own is : List Nat} {f : En → R Val} {ρ : En} {xs : List Int} {g : Int → D} (h1 : it ρ = .ok (xs.map D.int)) (hl : xs.length ≤ 1000000) (h2 : ∀ x ∈ xs, f (setE (wipeE ρ own) is [.int x]) = .ok (.fr (g x))) :
    sLc it own is bName tYs f ρ = .ok (.nw (xs.map g)) := by
  have h3 : lcLoop is bName tYs f (wipeE ρ own) (xs.map D.int) = .ok ((xs.map D.int).map fun d => match d with
    | .int i => g i
    | _ => .non) := lc_map fun x hx => by
      obtain ⟨i, hi, rfl⟩ := List.mem_map.mp hx
      exact ⟨_, h2 i hi, rfl⟩
  rw [sLc_eq, h1, bind_ok, grd_of _ (by simpa using hl), h3, bind_ok, List.map_map]
  rfl
theorem rng_ints (lo : Int) (n : Nat) : rng lo n = ((List.range n).map fun i => lo + (i : Nat)).map D.int := by unfold rng; rw [List.map_map]; rfl
/-- a list of truth values, all of which: b -/
def Alls (f : En → R Val) (ρ : En) (b : Bool) : Prop := ∃ L Lb, f ρ = .ok (.nw L) ∧ boolsD L = some Lb ∧ Lb.all id = b
theorem Alls.of {f : En → R Val} {ρ : En} {xs : List Int} {p : Int → Bool} {b : Bool} (h : f ρ = .ok (.nw (xs.map fun x => .bl (p x)))) (hb : xs.all p = b) : Alls f ρ b :=
  ⟨_, _, h, boolsD_ints _ _, by rw [List.all_map]; exact hb⟩
@[simp] theorem forL_nil (is : List Nat) (b : D → R (List D)) (body : En → Out) (ρ : En) : forL is b body [] ρ = .nx ρ := by first | rfl | simp [forL]
def forK (o : Out) (k : En → Out) : Out := match o with
  | .nx ρ => k ρ
  | .ct ρ => k ρ
  | .bk ρ => .nx ρ
  | o => o
@[simp] theorem forK_nx (ρ : En) (k : En → Out) : forK (.nx ρ) k = k ρ := rfl
@[simp] theorem forK_ct (ρ : En) (k : En → Out) : forK (.ct ρ) k = k ρ := rfl
@[simp] theorem forK_bk (ρ : En) (k : En → Out) : forK (.bk ρ) k = .nx ρ := rfl
@[simp] theorem forK_rt (v : Val) (k : En → Out) : forK (.rt v) k = .rt v := rfl
@[simp] theorem forK_exc (c : Str) (ρ : En) (k : En → Out) : forK (.exc c ρ) k = .exc c ρ := rfl
@[simp] theorem forK_ite {p : Prop} [Decidable p] (a b : Out) (k : En → Out) : forK (if p then a else b) k = if p then forK a k else forK b k := by split <;> rfl
@[simp] theorem forL_cons (is : List Nat) (body : En → Out) (x : D) (xs : List D) (ρ : En) : forL is bName body (x :: xs) ρ = forK (body (setE ρ is [x])) (forL is bName body xs) := by
  show (match body (setE ρ is [x]) with
    | .nx ρ' => forL is bName body xs ρ'
    | .ct ρ' => forL is bName body xs ρ'
    | .bk ρ' => .nx ρ'
    | o => o) = _
  cases body (setE ρ is [x]) <;> rfl
@[simp] theorem oFor_eq (fi : En → R (List D)) (is : List Nat) (b : D → R (List D)) (body : En → Out) (ρ : En) : oFor fi is b body ρ = (fi ρ).out ρ fun xs => grdO (decide (xs.length ≤ lB)) (forL is b body xs ρ) := rfl
/-- a loop that keeps J -/
theorem for_inv {is : List Nat} {body : En → Out} (J : Nat → En → Prop) : ∀ {xs : List D} {i : Nat} {ρ : En}, J i ρ → (∀ k x ρ, xs[k]? = some x → J (i + k) ρ → ∃ ρ', (body (setE ρ is [x]) = .nx ρ' ∨ body (setE ρ is [x]) = .ct ρ') ∧ J (i + k + 1) ρ') →
    ∃ ρ', forL is bName body xs ρ = .nx ρ' ∧ J (i + xs.length) ρ'
  | [], i, ρ, h, _ => ⟨ρ, forL_nil _ _ _ _, h⟩
  | x :: xs, i, ρ, h, st => by
    obtain ⟨ρ1, h1, j1⟩ := st 0 x ρ rfl h
    have j1 : J (i + 1) ρ1 := j1
    obtain ⟨ρ2, h2, j2⟩ := for_inv (is := is) (body := body) J (xs := xs) j1 fun k y ρ' q j => by
      have := st (k + 1) y ρ' (by rw [List.getElem?_cons_succ]; exact q) (by rw [show i + (k + 1) = i + 1 + k by omega]; exact j)
      rw [show i + 1 + k + 1 = i + (k + 1) + 1 by omega]
      exact this
    refine ⟨ρ2, ?_, by rw [List.length_cons, show i + (xs.length + 1) = i + 1 + xs.length by omega]; exact j2⟩
    rw [forL_cons]
    rcases h1 with h1 | h1 <;> rw [h1] <;> exact h2
def endO : Out → R Val
  | .nx _ => .ok (.fr .non)
  | .rt r => .ok r
  | .exc c _ => .exc c
  | _ => .stuck
@[simp] theorem endO_nx (ρ : En) : endO (.nx ρ) = .ok (.fr .non) := rfl
@[simp] theorem endO_rt (v : Val) : endO (.rt v) = .ok v := rfl
@[simp] theorem endO_exc (c : Str) (ρ : En) : endO (.exc c ρ) = .exc c := rfl
@[simp] theorem endO_ite {p : Prop} [Decidable p] (a b : Out) : endO (if p then a else b) = if p then endO a else endO b := by split <;> rfl
@[simp] theorem runF_eq (n l : Nat) (g : En → Out) (ds : List D) : runF n l g ds = endO (g (startE n l ds)) := by
  unfold runF endO
  cases g (startE n l ds) <;> rfl
@[simp] theorem startE_eq (n l : Nat) (ds : List D) : startE n l ds = ds.map Slot.fr ++ List.replicate (n - l) Slot.un := rfl
theorem sR1_eq (f : En → R D) (ρ : En) (j : Int) (h : f ρ = .ok (.int j)) (h2 : j ≤ 1000000) (h3 : -1000000 ≤ j) : sR1 f ρ = .ok (rng 0 j.toNat) := by
  unfold sR1
  rw [h]
  show grd (decide (j ≤ 1000000) && decide (-1000000 ≤ j)) _ = _
  rw [decide_eq_true h2, decide_eq_true h3]
  rfl
def rngK : D → R (List D)
  | .int j => grd (decide (j ≤ 1000000) && decide (-1000000 ≤ j)) (.ok (rng 0 j.toNat))
  | _ => .stuck
@[simp] theorem rngK_i (j : Int) : rngK (.int j) = grd (decide (j ≤ 1000000) && decide (-1000000 ≤ j)) (.ok (rng 0 j.toNat)) := rfl
@[simp] theorem sR1_b (f : En → R D) (ρ : En) : sR1 f ρ = (f ρ).bind rngK := by
  unfold sR1 rngK
  rfl
def kdK (kvs : List (Str × D)) : D → R Val
  | .str z => optV (lookD kvs z)
  | _ => .stuck
@[simp] theorem kdK_s (kvs : List (Str × D)) (z : Str) : kdK kvs (.str z) = optV (lookD kvs z) := rfl
@[simp] theorem sKd_eq (kvs : List (Str × D)) (g : En → R D) (ρ : En) : sKd kvs g ρ = (g ρ).bind (kdK kvs) := by
  unfold sKd kdK
  rfl
@[simp] theorem sIsE_eq (b : Bool) (ρ : En) : sIsE b ρ = .ok (.fr (.bl b)) := rfl
end Lt

set_option Elab.async false
set_option linter.all false
set_option autoImplicit false
set_option maxRecDepth 100000
set_option maxHeartbeats 4000000
namespace K60
open PySem PySem.Spec PyProof.Rows L2 Lt
/-! ### the text by places -/
def topS (i : Nat) : Stmt := PySem.Challenge.pw_kerbwise_k60_entries_checked.main.body.getD i (.Pass ⟨0, 0, 0, 0⟩)
abbrev s_common : Stmt := topS 6
theorem sc_common : FnScope ["first", "second"] ["first", "second"] (defScope s_common) := ⟨rfl, rfl, rfl, by decide +kernel, rfl, by decide +kernel, by decide +kernel⟩
abbrev s_is_ratio : Stmt := topS 7
theorem sc_is_ratio : FnScope ["pair"] ["pair"] (defScope s_is_ratio) := ⟨rfl, rfl, rfl, by decide +kernel, rfl, by decide +kernel, by decide +kernel⟩
abbrev s_sign_of : Stmt := topS 8
theorem sc_sign_of : FnScope ["first"] ["first"] (defScope s_sign_of) := ⟨rfl, rfl, rfl, by decide +kernel, rfl, by decide +kernel, by decide +kernel⟩
abbrev s_compare : Stmt := topS 9
theorem sc_compare : FnScope ["first", "second"] ["first", "second"] (defScope s_compare) := ⟨rfl, rfl, rfl, by decide +kernel, rfl, by decide +kernel, by decide +kernel⟩
abbrev s_ratio_text : Stmt := topS 10
theorem sc_ratio_text : FnScope ["first"] ["first"] (defScope s_ratio_text) := ⟨rfl, rfl, rfl, by decide +kernel, rfl, by decide +kernel, by decide +kernel⟩
abbrev s_is_scale : Stmt := topS 16
theorem sc_is_scale : FnScope ["text", "sign"] ["text"] (defScope s_is_scale) := ⟨rfl, rfl, rfl, by decide +kernel, rfl, by decide +kernel, by decide +kernel⟩
abbrev s_is_day : Stmt := topS 17
theorem sc_is_day : FnScope ["day"] ["day"] (defScope s_is_day) := ⟨rfl, rfl, rfl, by decide +kernel, rfl, by decide +kernel, by decide +kernel⟩
abbrev s_is_weight : Stmt := topS 18
theorem sc_is_weight : FnScope ["weight"] ["weight"] (defScope s_is_weight) := ⟨rfl, rfl, rfl, by decide +kernel, rfl, by decide +kernel, by decide +kernel⟩
abbrev s_check_paper : Stmt := topS 19
theorem sc_check_paper : FnScope ["paper", "first", "last", "zero", "share", "drift", "checked", "one"] ["paper"] (defScope s_check_paper) := ⟨rfl, rfl, rfl, by decide +kernel, rfl, by decide +kernel, by decide +kernel⟩
abbrev s_check_scale : Stmt := topS 20
theorem sc_check_scale : FnScope ["text"] ["text"] (defScope s_check_scale) := ⟨rfl, rfl, rfl, by decide +kernel, rfl, by decide +kernel, by decide +kernel⟩
abbrev s_check_day : Stmt := topS 21
theorem sc_check_day : FnScope ["day"] ["day"] (defScope s_check_day) := ⟨rfl, rfl, rfl, by decide +kernel, rfl, by decide +kernel, by decide +kernel⟩
abbrev s_check_weighing : Stmt := topS 25
theorem sc_check_weighing : FnScope ["weighing", "scale", "day", "lots", "reading", "lot", "at"] ["weighing"] (defScope s_check_weighing) := ⟨rfl, rfl, rfl, by decide +kernel, rfl, by decide +kernel, by decide +kernel⟩
abbrev s_check_lots : Stmt := topS 32
theorem sc_check_lots : FnScope ["lots", "lot", "at"] ["lots"] (defScope s_check_lots) := ⟨rfl, rfl, rfl, by decide +kernel, rfl, by decide +kernel, by decide +kernel⟩
abbrev s_check_known : Stmt := topS 33
theorem sc_check_known : FnScope ["entry"] ["entry"] (defScope s_check_known) := ⟨rfl, rfl, rfl, by decide +kernel, rfl, by decide +kernel, by decide +kernel⟩
abbrev s_ratios_of : Stmt := topS 34
theorem sc_ratios_of : FnScope ["entry"] ["entry"] (defScope s_ratios_of) := ⟨rfl, rfl, rfl, by decide +kernel, rfl, by decide +kernel, by decide +kernel⟩
abbrev s_is_short : Stmt := topS 35
theorem sc_is_short : FnScope ["pair"] ["pair"] (defScope s_is_short) := ⟨rfl, rfl, rfl, by decide +kernel, rfl, by decide +kernel, by decide +kernel⟩
abbrev s_check_entry : Stmt := topS 36
theorem sc_check_entry : FnScope ["entry", "kind", "part"] ["entry"] (defScope s_check_entry) := ⟨rfl, rfl, rfl, by decide +kernel, rfl, by decide +kernel, by decide +kernel⟩
abbrev s_law_numbers : Stmt := topS 38
theorem sc_law_numbers : FnScope ["script", "many", "numbers", "k", "cell", "j", "mixed", "base", "last"] ["script", "many"] (defScope s_law_numbers) := ⟨rfl, rfl, rfl, by decide +kernel, rfl, by decide +kernel, by decide +kernel⟩
abbrev s_law_ratio : Stmt := topS 39
theorem sc_law_ratio : FnScope ["n", "d", "one", "other", "turn", "rest"] ["n", "d"] (defScope s_law_ratio) := ⟨rfl, rfl, rfl, by decide +kernel, rfl, by decide +kernel, by decide +kernel⟩
abbrev s_law_paper : Stmt := topS 40
theorem sc_law_paper : FnScope ["numbers", "first", "last", "zero", "share", "drift"] ["numbers"] (defScope s_law_paper) := ⟨rfl, rfl, rfl, by decide +kernel, rfl, by decide +kernel, by decide +kernel⟩
abbrev s_law_lots : Stmt := topS 41
theorem sc_law_lots : FnScope ["number", "lots", "k"] ["number"] (defScope s_law_lots) := ⟨rfl, rfl, rfl, by decide +kernel, rfl, by decide +kernel, by decide +kernel⟩
abbrev s_law_entry : Stmt := topS 42
theorem sc_law_entry : FnScope ["numbers", "scale", "kind"] ["numbers"] (defScope s_law_entry) := ⟨rfl, rfl, rfl, by decide +kernel, rfl, by decide +kernel, by decide +kernel⟩
abbrev s_law_refused : Stmt := topS 43
theorem sc_law_refused : FnScope ["entry", "e"] ["entry"] (defScope s_law_refused) := ⟨rfl, rfl, rfl, by decide +kernel, rfl, by decide +kernel, by decide +kernel⟩
abbrev s_law_great : Stmt := topS 44
theorem sc_law_great : FnScope ["great", "k"] [] (defScope s_law_great) := ⟨rfl, rfl, rfl, by decide +kernel, rfl, by decide +kernel, by decide +kernel⟩
abbrev s_law_bad_paper : Stmt := topS 45
theorem sc_law_bad_paper : FnScope ["paper", "number", "first", "last", "zero", "share", "drift", "checked", "rows"] ["paper", "number"] (defScope s_law_bad_paper) := ⟨rfl, rfl, rfl, by decide +kernel, rfl, by decide +kernel, by decide +kernel⟩
abbrev s_law_bad_lots : Stmt := topS 46
theorem sc_law_bad_lots : FnScope ["lots", "number", "rows"] ["lots", "number"] (defScope s_law_bad_lots) := ⟨rfl, rfl, rfl, by decide +kernel, rfl, by decide +kernel, by decide +kernel⟩
abbrev s_law_bad : Stmt := topS 47
theorem sc_law_bad : FnScope ["entry", "numbers", "kind", "rows"] ["entry", "numbers"] (defScope s_law_bad) := ⟨rfl, rfl, rfl, by decide +kernel, rfl, by decide +kernel, by decide +kernel⟩
abbrev s_law : Stmt := topS 48
theorem sc_law : FnScope ["script", "numbers", "k", "entry", "bad", "good", "wide"] ["script"] (defScope s_law) := ⟨rfl, rfl, rfl, by decide +kernel, rfl, by decide +kernel, by decide +kernel⟩
def excs : List Str := ["KerbError", "NotAllowed", "BadForm"]
def isub : Str → Str → Bool := subOf [("KerbError", ["KerbError"]), ("NotAllowed", ["NotAllowed", "KerbError"]), ("BadForm", ["BadForm", "KerbError"])]
abbrev wN : Nat := 1000000000
def kd_LENGTHS : List (Str × D) := [("find", .int 3), ("known", .int 3), ("paper", .int 3), ("recall", .int 4), ("weighing", .int 5)]
/-! ### what the top has left -/
structure T (w : World) (K : PySem.W.Frag) (mg : Str → Option Value) where
  a_common : Addr
  d_common : FuncData
  F_common : Fun K "common" "common" s_common a_common d_common
  g_common : mg "common" = some (.ref a_common)
  a_is_ratio : Addr
  d_is_ratio : FuncData
  F_is_ratio : Fun K "is_ratio" "is_ratio" s_is_ratio a_is_ratio d_is_ratio
  g_is_ratio : mg "is_ratio" = some (.ref a_is_ratio)
  a_sign_of : Addr
  d_sign_of : FuncData
  F_sign_of : Fun K "sign_of" "sign_of" s_sign_of a_sign_of d_sign_of
  g_sign_of : mg "sign_of" = some (.ref a_sign_of)
  a_compare : Addr
  d_compare : FuncData
  F_compare : Fun K "compare" "compare" s_compare a_compare d_compare
  g_compare : mg "compare" = some (.ref a_compare)
  a_ratio_text : Addr
  d_ratio_text : FuncData
  F_ratio_text : Fun K "ratio_text" "ratio_text" s_ratio_text a_ratio_text d_ratio_text
  g_ratio_text : mg "ratio_text" = some (.ref a_ratio_text)
  a_is_scale : Addr
  d_is_scale : FuncData
  F_is_scale : Fun K "is_scale" "is_scale" s_is_scale a_is_scale d_is_scale
  g_is_scale : mg "is_scale" = some (.ref a_is_scale)
  a_is_day : Addr
  d_is_day : FuncData
  F_is_day : Fun K "is_day" "is_day" s_is_day a_is_day d_is_day
  g_is_day : mg "is_day" = some (.ref a_is_day)
  a_is_weight : Addr
  d_is_weight : FuncData
  F_is_weight : Fun K "is_weight" "is_weight" s_is_weight a_is_weight d_is_weight
  g_is_weight : mg "is_weight" = some (.ref a_is_weight)
  a_check_paper : Addr
  d_check_paper : FuncData
  F_check_paper : Fun K "check_paper" "check_paper" s_check_paper a_check_paper d_check_paper
  g_check_paper : mg "check_paper" = some (.ref a_check_paper)
  a_check_scale : Addr
  d_check_scale : FuncData
  F_check_scale : Fun K "check_scale" "check_scale" s_check_scale a_check_scale d_check_scale
  g_check_scale : mg "check_scale" = some (.ref a_check_scale)
  a_check_day : Addr
  d_check_day : FuncData
  F_check_day : Fun K "check_day" "check_day" s_check_day a_check_day d_check_day
  g_check_day : mg "check_day" = some (.ref a_check_day)
  a_check_weighing : Addr
  d_check_weighing : FuncData
  F_check_weighing : Fun K "check_weighing" "check_weighing" s_check_weighing a_check_weighing d_check_weighing
  g_check_weighing : mg "check_weighing" = some (.ref a_check_weighing)
  a_check_lots : Addr
  d_check_lots : FuncData
  F_check_lots : Fun K "check_lots" "check_lots" s_check_lots a_check_lots d_check_lots
  g_check_lots : mg "check_lots" = some (.ref a_check_lots)
  a_check_known : Addr
  d_check_known : FuncData
  F_check_known : Fun K "check_known" "check_known" s_check_known a_check_known d_check_known
  g_check_known : mg "check_known" = some (.ref a_check_known)
  a_ratios_of : Addr
  d_ratios_of : FuncData
  F_ratios_of : Fun K "ratios_of" "ratios_of" s_ratios_of a_ratios_of d_ratios_of
  g_ratios_of : mg "ratios_of" = some (.ref a_ratios_of)
  a_is_short : Addr
  d_is_short : FuncData
  F_is_short : Fun K "is_short" "is_short" s_is_short a_is_short d_is_short
  g_is_short : mg "is_short" = some (.ref a_is_short)
  a_check_entry : Addr
  d_check_entry : FuncData
  F_check_entry : Fun K "check_entry" "check_entry" s_check_entry a_check_entry d_check_entry
  g_check_entry : mg "check_entry" = some (.ref a_check_entry)
  a_law_numbers : Addr
  d_law_numbers : FuncData
  F_law_numbers : Fun K "_law_numbers" "_law_numbers" s_law_numbers a_law_numbers d_law_numbers
  g_law_numbers : mg "_law_numbers" = some (.ref a_law_numbers)
  a_law_ratio : Addr
  d_law_ratio : FuncData
  F_law_ratio : Fun K "_law_ratio" "_law_ratio" s_law_ratio a_law_ratio d_law_ratio
  g_law_ratio : mg "_law_ratio" = some (.ref a_law_ratio)
  a_law_paper : Addr
  d_law_paper : FuncData
  F_law_paper : Fun K "_law_paper" "_law_paper" s_law_paper a_law_paper d_law_paper
  g_law_paper : mg "_law_paper" = some (.ref a_law_paper)
  a_law_lots : Addr
  d_law_lots : FuncData
  F_law_lots : Fun K "_law_lots" "_law_lots" s_law_lots a_law_lots d_law_lots
  g_law_lots : mg "_law_lots" = some (.ref a_law_lots)
  a_law_entry : Addr
  d_law_entry : FuncData
  F_law_entry : Fun K "_law_entry" "_law_entry" s_law_entry a_law_entry d_law_entry
  g_law_entry : mg "_law_entry" = some (.ref a_law_entry)
  a_law_refused : Addr
  d_law_refused : FuncData
  F_law_refused : Fun K "_law_refused" "_law_refused" s_law_refused a_law_refused d_law_refused
  g_law_refused : mg "_law_refused" = some (.ref a_law_refused)
  a_law_great : Addr
  d_law_great : FuncData
  F_law_great : Fun K "_law_great" "_law_great" s_law_great a_law_great d_law_great
  g_law_great : mg "_law_great" = some (.ref a_law_great)
  a_law_bad_paper : Addr
  d_law_bad_paper : FuncData
  F_law_bad_paper : Fun K "_law_bad_paper" "_law_bad_paper" s_law_bad_paper a_law_bad_paper d_law_bad_paper
  g_law_bad_paper : mg "_law_bad_paper" = some (.ref a_law_bad_paper)
  a_law_bad_lots : Addr
  d_law_bad_lots : FuncData
  F_law_bad_lots : Fun K "_law_bad_lots" "_law_bad_lots" s_law_bad_lots a_law_bad_lots d_law_bad_lots
  g_law_bad_lots : mg "_law_bad_lots" = some (.ref a_law_bad_lots)
  a_law_bad : Addr
  d_law_bad : FuncData
  F_law_bad : Fun K "_law_bad" "_law_bad" s_law_bad a_law_bad d_law_bad
  g_law_bad : mg "_law_bad" = some (.ref a_law_bad)
  a_law : Addr
  d_law : FuncData
  F_law : Fun K "law" "law" s_law a_law d_law
  g_law : mg "law" = some (.ref a_law)
  z_abs : mg "abs" = none
  z_all : mg "all" = none
  z_int : mg "int" = none
  z_isinstance : mg "isinstance" = none
  z_len : mg "len" = none
  z_list : mg "list" = none
  z_max : mg "max" = none
  z_min : mg "min" = none
  z_range : mg "range" = none
  z_str : mg "str" = none
  z_tuple : mg "tuple" = none
  v_MAX_TEXT : V
  u_MAX_TEXT : Value
  g_MAX_TEXT : mg "MAX_TEXT" = some u_MAX_TEXT
  q_MAX_TEXT : RelV v_MAX_TEXT u_MAX_TEXT
  r_MAX_TEXT : ∀ H O, Rp K H O (.int 60) v_MAX_TEXT
  v_MAX_DAY : V
  u_MAX_DAY : Value
  g_MAX_DAY : mg "MAX_DAY" = some u_MAX_DAY
  q_MAX_DAY : RelV v_MAX_DAY u_MAX_DAY
  r_MAX_DAY : ∀ H O, Rp K H O (.int 999) v_MAX_DAY
  v_MAX_NAME : V
  u_MAX_NAME : Value
  g_MAX_NAME : mg "MAX_NAME" = some u_MAX_NAME
  q_MAX_NAME : RelV v_MAX_NAME u_MAX_NAME
  r_MAX_NAME : ∀ H O, Rp K H O (.int 4) v_MAX_NAME
  v_LETTERS : V
  u_LETTERS : Value
  g_LETTERS : mg "LETTERS" = some u_LETTERS
  q_LETTERS : RelV v_LETTERS u_LETTERS
  r_LETTERS : ∀ H O, Rp K H O (.str "abcdefghijklmnopqrstuvwxyz") v_LETTERS
  v_ONE : V
  u_ONE : Value
  g_ONE : mg "ONE" = some u_ONE
  q_ONE : RelV v_ONE u_ONE
  r_ONE : ∀ H O, Rp K H O (.tup [(.int 1), (.int 1)]) v_ONE
  v_MAX_WEIGHED_weighings : V
  u_MAX_WEIGHED_weighings : Value
  g_MAX_WEIGHED_weighings : mg "MAX_WEIGHED_weighings" = some u_MAX_WEIGHED_weighings
  q_MAX_WEIGHED_weighings : RelV v_MAX_WEIGHED_weighings u_MAX_WEIGHED_weighings
  r_MAX_WEIGHED_weighings : ∀ H O, Rp K H O (.int 8) v_MAX_WEIGHED_weighings
  v_MAX_NUMBER : V
  u_MAX_NUMBER : Value
  g_MAX_NUMBER : mg "MAX_NUMBER" = some u_MAX_NUMBER
  q_MAX_NUMBER : RelV v_MAX_NUMBER u_MAX_NUMBER
  r_MAX_NUMBER : ∀ H O, Rp K H O (.int 99) v_MAX_NUMBER
  v_KINDS : V
  u_KINDS : Value
  g_KINDS : mg "KINDS" = some u_KINDS
  q_KINDS : RelV v_KINDS u_KINDS
  r_KINDS : ∀ H O, Rp K H O (.tup [(.str "find"), (.str "known"), (.str "paper"), (.str "recall"), (.str "weighing")]) v_KINDS
  p_LENGTHS : Addr
  g_LENGTHS : mg "LENGTHS" = some (.ref p_LENGTHS)
  k_LENGTHS : KdOk K w p_LENGTHS kd_LENGTHS
  v_MAX_LOT : V
  u_MAX_LOT : Value
  g_MAX_LOT : mg "MAX_LOT" = some u_MAX_LOT
  q_MAX_LOT : RelV v_MAX_LOT u_MAX_LOT
  r_MAX_LOT : ∀ H O, Rp K H O (.int 99) v_MAX_LOT
  v_MAX_WEIGHED_entries : V
  u_MAX_WEIGHED_entries : Value
  g_MAX_WEIGHED_entries : mg "MAX_WEIGHED_entries" = some u_MAX_WEIGHED_entries
  q_MAX_WEIGHED_entries : RelV v_MAX_WEIGHED_entries u_MAX_WEIGHED_entries
  r_MAX_WEIGHED_entries : ∀ H O, Rp K H O (.int 8) v_MAX_WEIGHED_entries
  v_GREAT : V
  u_GREAT : Value
  g_GREAT : mg "GREAT" = some u_GREAT
  q_GREAT : RelV v_GREAT u_GREAT
  r_GREAT : ∀ H O, Rp K H O (.int 1000000000000000000000000000000000000000000000000000000000000) v_GREAT
  C_KerbError : Addr
  g_KerbError : mg "KerbError" = some (.ref C_KerbError)
  x_KerbError : PySem.W.excIn K C_KerbError [.type "ValueError", .type "Exception", .type "BaseException", .type "object"] "ValueError.__new__" = true
  kk_KerbError : PySem.W.keepIn K (.ref C_KerbError) = true
  b_KerbError : PySem.W.subIn K (.ref C_KerbError) (.type "BaseException") = some true
  t_KerbError : PySem.W.typeIn K (.ref C_KerbError) = some (.type "type")
  C_NotAllowed : Addr
  g_NotAllowed : mg "NotAllowed" = some (.ref C_NotAllowed)
  x_NotAllowed : PySem.W.excIn K C_NotAllowed [.type "ValueError", .type "Exception", .type "BaseException", .type "object"] "ValueError.__new__" = true
  kk_NotAllowed : PySem.W.keepIn K (.ref C_NotAllowed) = true
  b_NotAllowed : PySem.W.subIn K (.ref C_NotAllowed) (.type "BaseException") = some true
  t_NotAllowed : PySem.W.typeIn K (.ref C_NotAllowed) = some (.type "type")
  C_BadForm : Addr
  g_BadForm : mg "BadForm" = some (.ref C_BadForm)
  x_BadForm : PySem.W.excIn K C_BadForm [.type "ValueError", .type "Exception", .type "BaseException", .type "object"] "ValueError.__new__" = true
  kk_BadForm : PySem.W.keepIn K (.ref C_BadForm) = true
  b_BadForm : PySem.W.subIn K (.ref C_BadForm) (.type "BaseException") = some true
  t_BadForm : PySem.W.typeIn K (.ref C_BadForm) = some (.type "type")
  hit_KerbError : hitK K mg excs (fun cn => isub cn "KerbError") (.ref C_KerbError)
  kit_BadForm : kitK K mg excs (fun cn => isub cn "BadForm") (.ref C_BadForm)
  kit_NotAllowed : kitK K mg excs (fun cn => isub cn "NotAllowed") (.ref C_NotAllowed)
section
variable {w : World} {K : PySem.W.Frag} {mg : Str → Option Value}
theorem bd_common (t : T w K mg) : Binds K t.d_common ["first", "second"] [] := t.F_common.binds (ps := ["first", "second"]) fun _ _ _ _ _ _ us hl => match us, hl with | [_, _], _ => rfl
theorem bd_is_ratio (t : T w K mg) : Binds K t.d_is_ratio ["pair"] [] := t.F_is_ratio.binds (ps := ["pair"]) fun _ _ _ _ _ _ us hl => match us, hl with | [_], _ => rfl
theorem bd_sign_of (t : T w K mg) : Binds K t.d_sign_of ["first"] [] := t.F_sign_of.binds (ps := ["first"]) fun _ _ _ _ _ _ us hl => match us, hl with | [_], _ => rfl
theorem bd_compare (t : T w K mg) : Binds K t.d_compare ["first", "second"] [] := t.F_compare.binds (ps := ["first", "second"]) fun _ _ _ _ _ _ us hl => match us, hl with | [_, _], _ => rfl
theorem bd_ratio_text (t : T w K mg) : Binds K t.d_ratio_text ["first"] [] := t.F_ratio_text.binds (ps := ["first"]) fun _ _ _ _ _ _ us hl => match us, hl with | [_], _ => rfl
theorem bd_is_scale (t : T w K mg) : Binds K t.d_is_scale ["text"] [] := t.F_is_scale.binds (ps := ["text"]) fun _ _ _ _ _ _ us hl => match us, hl with | [_], _ => rfl
theorem bd_is_day (t : T w K mg) : Binds K t.d_is_day ["day"] [] := t.F_is_day.binds (ps := ["day"]) fun _ _ _ _ _ _ us hl => match us, hl with | [_], _ => rfl
theorem bd_is_weight (t : T w K mg) : Binds K t.d_is_weight ["weight"] [] := t.F_is_weight.binds (ps := ["weight"]) fun _ _ _ _ _ _ us hl => match us, hl with | [_], _ => rfl
theorem bd_check_paper (t : T w K mg) : Binds K t.d_check_paper ["paper"] [] := t.F_check_paper.binds (ps := ["paper"]) fun _ _ _ _ _ _ us hl => match us, hl with | [_], _ => rfl
theorem bd_check_scale (t : T w K mg) : Binds K t.d_check_scale ["text"] [] := t.F_check_scale.binds (ps := ["text"]) fun _ _ _ _ _ _ us hl => match us, hl with | [_], _ => rfl
theorem bd_check_day (t : T w K mg) : Binds K t.d_check_day ["day"] [] := t.F_check_day.binds (ps := ["day"]) fun _ _ _ _ _ _ us hl => match us, hl with | [_], _ => rfl
theorem bd_check_weighing (t : T w K mg) : Binds K t.d_check_weighing ["weighing"] [] := t.F_check_weighing.binds (ps := ["weighing"]) fun _ _ _ _ _ _ us hl => match us, hl with | [_], _ => rfl
theorem bd_check_lots (t : T w K mg) : Binds K t.d_check_lots ["lots"] [] := t.F_check_lots.binds (ps := ["lots"]) fun _ _ _ _ _ _ us hl => match us, hl with | [_], _ => rfl
theorem bd_check_known (t : T w K mg) : Binds K t.d_check_known ["entry"] [] := t.F_check_known.binds (ps := ["entry"]) fun _ _ _ _ _ _ us hl => match us, hl with | [_], _ => rfl
theorem bd_ratios_of (t : T w K mg) : Binds K t.d_ratios_of ["entry"] [] := t.F_ratios_of.binds (ps := ["entry"]) fun _ _ _ _ _ _ us hl => match us, hl with | [_], _ => rfl
theorem bd_is_short (t : T w K mg) : Binds K t.d_is_short ["pair"] [] := t.F_is_short.binds (ps := ["pair"]) fun _ _ _ _ _ _ us hl => match us, hl with | [_], _ => rfl
theorem bd_check_entry (t : T w K mg) : Binds K t.d_check_entry ["entry"] [] := t.F_check_entry.binds (ps := ["entry"]) fun _ _ _ _ _ _ us hl => match us, hl with | [_], _ => rfl
theorem bd_law_numbers (t : T w K mg) : Binds K t.d_law_numbers ["script", "many"] [] := t.F_law_numbers.binds (ps := ["script", "many"]) fun _ _ _ _ _ _ us hl => match us, hl with | [_, _], _ => rfl
theorem bd_law_ratio (t : T w K mg) : Binds K t.d_law_ratio ["n", "d"] [] := t.F_law_ratio.binds (ps := ["n", "d"]) fun _ _ _ _ _ _ us hl => match us, hl with | [_, _], _ => rfl
theorem bd_law_paper (t : T w K mg) : Binds K t.d_law_paper ["numbers"] [] := t.F_law_paper.binds (ps := ["numbers"]) fun _ _ _ _ _ _ us hl => match us, hl with | [_], _ => rfl
theorem bd_law_lots (t : T w K mg) : Binds K t.d_law_lots ["number"] [] := t.F_law_lots.binds (ps := ["number"]) fun _ _ _ _ _ _ us hl => match us, hl with | [_], _ => rfl
theorem bd_law_entry (t : T w K mg) : Binds K t.d_law_entry ["numbers"] [] := t.F_law_entry.binds (ps := ["numbers"]) fun _ _ _ _ _ _ us hl => match us, hl with | [_], _ => rfl
theorem bd_law_refused (t : T w K mg) : Binds K t.d_law_refused ["entry"] [] := t.F_law_refused.binds (ps := ["entry"]) fun _ _ _ _ _ _ us hl => match us, hl with | [_], _ => rfl
theorem bd_law_great (t : T w K mg) : Binds K t.d_law_great [] [] := t.F_law_great.binds (ps := []) fun _ _ _ _ _ _ us hl => match us, hl with | [], _ => rfl
theorem bd_law_bad_paper (t : T w K mg) : Binds K t.d_law_bad_paper ["paper", "number"] [] := t.F_law_bad_paper.binds (ps := ["paper", "number"]) fun _ _ _ _ _ _ us hl => match us, hl with | [_, _], _ => rfl
theorem bd_law_bad_lots (t : T w K mg) : Binds K t.d_law_bad_lots ["lots", "number"] [] := t.F_law_bad_lots.binds (ps := ["lots", "number"]) fun _ _ _ _ _ _ us hl => match us, hl with | [_, _], _ => rfl
theorem bd_law_bad (t : T w K mg) : Binds K t.d_law_bad ["entry", "numbers"] [] := t.F_law_bad.binds (ps := ["entry", "numbers"]) fun _ _ _ _ _ _ us hl => match us, hl with | [_, _], _ => rfl
theorem bd_law (t : T w K mg) : Binds K t.d_law ["script"] [] := t.F_law.binds (ps := ["script"]) fun _ _ _ _ _ _ us hl => match us, hl with | [_], _ => rfl
end
end K60

set_option linter.all false
set_option autoImplicit false
set_option maxRecDepth 100000
namespace K60
open PySem PySem.Spec L2 Lt
def w_common_1 : En → Out := (whL (tst (lift2 dNeO (sVarB 1) (sB (sC (.int 0)))))
  (oPar 0 1 (aCons (sVar 1) (aCons (lift2 dMod (sVarB 0) (sVarB 1)) aNil))) wN)
def b_common : En → Out := (oSeq (oSet 0 (sCal dAbs (aConsB (sVarB 0) aNil)))
  (oSeq (oSet 1 (sCal dAbs (aConsB (sVarB 1) aNil)))
  (oSeq w_common_1
  (oRet (sVar 0)))))
def m_common : List D → R Val := runF 2 2 b_common
def b_is_ratio : En → Out := (oRet (vAnd (lift2 dEqO (sB (sCal dLen (aConsB (sVarB 0) aNil))) (sB (sC (.int 2)))) (vAnd (lift2 dGe (sB (sIx (sVarB 0) (sB (sC (.int 1))))) (sB (sC (.int 1)))) (lift2 dEqO (sB (sCall m_common (aCons (sIx (sVarB 0) (sB (sC (.int 0)))) (aCons (sIx (sVarB 0) (sB (sC (.int 1)))) aNil)))) (sB (sC (.int 1)))))))
def m_is_ratio : List D → R Val := runF 1 1 b_is_ratio
def b_sign_of : En → Out := (oSeq (oIf (tst (lift2 dEqO (sB (sIx (sVarB 0) (sB (sC (.int 0))))) (sB (sC (.int 0)))))
  (oRet (sC (.int 0)))
  oNx)
  (oRet (sIf (tst (lift2 dGt (sB (sIx (sVarB 0) (sB (sC (.int 0))))) (sB (sC (.int 0))))) (sC (.int 1)) (sNeg (sB (sC (.int 1)))))))
def m_sign_of : List D → R Val := runF 1 1 b_sign_of
def b_compare : En → Out := (oRet (sCall m_sign_of (aCons (sTup (aCons (lift2 dSub (sB (sMul (sB (sIx (sVarB 0) (sB (sC (.int 0))))) (sB (sIx (sVarB 1) (sB (sC (.int 1))))))) (sB (sMul (sB (sIx (sVarB 1) (sB (sC (.int 0))))) (sB (sIx (sVarB 0) (sB (sC (.int 1)))))))) (aCons (sC (.int 1)) aNil))) aNil)))
def m_compare : List D → R Val := runF 2 2 b_compare
def b_ratio_text : En → Out := (oSeq (oIf (tst (lift2 dEqO (sB (sIx (sVarB 0) (sB (sC (.int 1))))) (sB (sC (.int 1)))))
  (oRet (sCal dStr (aConsB (sB (sIx (sVarB 0) (sB (sC (.int 0))))) aNil)))
  oNx)
  (oRet (sJoin (jCons (sFmt (sB (sIx (sVarB 0) (sB (sC (.int 0)))))) (jCons (sC (.str "/")) (jCons (sFmt (sB (sIx (sVarB 0) (sB (sC (.int 1)))))) jNil))))))
def m_ratio_text : List D → R Val := runF 1 1 b_ratio_text
def c_is_scale_1 : En → R Val := (sLc (sItems (sVarB 0)) [1] [1] bName tYs (lift2 (dInL false) (sVarB 1) (sB (sC (.str "abcdefghijklmnopqrstuvwxyz")))))
def b_is_scale : En → Out := (oRet (vAnd (chain (sB (sC (.int 1))) (chC dLe (sB (sCal dLen (aConsB (sVarB 0) aNil))) (chL dLe (sB (sC (.int 4)))))) (sCal dAll (aConsB (sB c_is_scale_1) aNil))))
def m_is_scale : List D → R Val := runF 2 1 b_is_scale
def b_is_day : En → Out := (oRet (chain (sB (sC (.int 0))) (chC dLe (sVarB 0) (chL dLe (sB (sC (.int 999)))))))
def m_is_day : List D → R Val := runF 1 1 b_is_day
def b_is_weight : En → Out := (oRet (vAnd (sCall m_is_ratio (aCons (sVar 0) aNil)) (lift2 dGe (sB (sCall m_sign_of (aCons (sVar 0) aNil))) (sB (sC (.int 0))))))
def m_is_weight : List D → R Val := runF 1 1 b_is_weight
def c_check_paper_1 : En → R Val := (sLc (sItems (sB (sTup (aCons (sVar 3) (aCons (sVar 4) (aCons (sVar 5) aNil)))))) [7] [7] bName tYs (sCall m_is_weight (aCons (sVar 7) aNil)))
def b_check_paper : En → Out := (oSeq (oAsg [1, 2, 3, 4, 5, 6] (bTup (bCons bName (bCons bName (bCons bName (bCons bName (bCons bName (bCons bName bNil))))))) (sVar 0))
  (oSeq (oIf (tNo (tst (chain (sB (sC (.int 0))) (chC dLe (sVarB 6) (chC dLe (sVarB 1) (chC dLe (sVarB 2) (chL dLe (sB (sC (.int 999))))))))))
  (oRaise "NotAllowed")
  oNx)
  (oIf (tOrr (tNo (tst (sCal dAll (aConsB (sB c_check_paper_1) aNil)))) (tst (lift2 dGe (sB (sCall m_compare (aCons (sVar 4) (aCons (sC (.tup [(.int 1), (.int 1)])) aNil)))) (sB (sC (.int 0))))))
  (oRaise "NotAllowed")
  oNx)))
def m_check_paper : List D → R Val := runF 8 1 b_check_paper
def b_check_scale : En → Out := (oIf (tNo (tst (sCall m_is_scale (aCons (sVar 0) aNil))))
  (oRaise "NotAllowed")
  oNx)
def m_check_scale : List D → R Val := runF 1 1 b_check_scale
def b_check_day : En → Out := (oIf (tNo (tst (sCall m_is_day (aCons (sVar 0) aNil))))
  (oRaise "NotAllowed")
  oNx)
def m_check_day : List D → R Val := runF 1 1 b_check_day
def c_check_weighing_1 : En → R Val := (sLc (sR1 (sB (lift2 dSub (sB (sCal dLen (aConsB (sVarB 3) aNil))) (sB (sC (.int 1)))))) [6] [6] bName tYs (lift2 dLt (sB (sIx (sVarB 3) (sVarB 6))) (sB (sIx (sVarB 3) (sB (sAdd (sVarB 6) (sB (sC (.int 1)))))))))
def c_check_weighing_2 : En → R Val := (sLc (sItems (sVarB 3)) [5] [5] bName tYs (chain (sB (sC (.int 0))) (chC dLe (sVarB 5) (chL dLe (sB (sC (.int 99)))))))
def b_check_weighing : En → Out := (oSeq (oAsg [1, 2, 3, 4] (bTup (bCons bName (bCons bName (bCons bName (bCons bName bNil))))) (sVar 0))
  (oSeq (oDrop (sCall m_check_scale (aCons (sVar 1) aNil)))
  (oSeq (oDrop (sCall m_check_day (aCons (sVar 2) aNil)))
  (oSeq (oIf (tOrr (tNo (tst (chain (sB (sC (.int 1))) (chC dLe (sB (sCal dLen (aConsB (sVarB 3) aNil))) (chL dLe (sB (sC (.int 8)))))))) (tNo (tst (sCal dAll (aConsB (sB c_check_weighing_2) aNil)))))
  (oRaise "NotAllowed")
  oNx)
  (oIf (tOrr (tNo (tst (sCal dAll (aConsB (sB c_check_weighing_1) aNil)))) (tNo (tst (sCall m_is_weight (aCons (sVar 4) aNil)))))
  (oRaise "NotAllowed")
  oNx)))))
def m_check_weighing : List D → R Val := runF 7 1 b_check_weighing
def c_check_lots_1 : En → R Val := (sLc (sR1 (sB (lift2 dSub (sB (sCal dLen (aConsB (sVarB 0) aNil))) (sB (sC (.int 1)))))) [2] [2] bName tYs (lift2 dLt (sB (sIx (sVarB 0) (sVarB 2))) (sB (sIx (sVarB 0) (sB (sAdd (sVarB 2) (sB (sC (.int 1)))))))))
def c_check_lots_2 : En → R Val := (sLc (sItems (sVarB 0)) [1] [1] bName tYs (chain (sB (sC (.int 0))) (chC dLe (sVarB 1) (chL dLe (sB (sC (.int 99)))))))
def b_check_lots : En → Out := (oSeq (oIf (tOrr (tst (lift2 dLt (sB (sCal dLen (aConsB (sVarB 0) aNil))) (sB (sC (.int 1))))) (tOrr (tst (lift2 dGt (sB (sCal dLen (aConsB (sVarB 0) aNil))) (sB (sC (.int 8))))) (tNo (tst (sCal dAll (aConsB (sB c_check_lots_2) aNil))))))
  (oRaise "NotAllowed")
  oNx)
  (oIf (tNo (tst (sCal dAll (aConsB (sB c_check_lots_1) aNil))))
  (oRaise "NotAllowed")
  oNx))
def m_check_lots : List D → R Val := runF 3 1 b_check_lots
def b_check_known : En → Out := (oSeq (oDrop (sCall m_check_lots (aCons (sIx (sVarB 0) (sB (sC (.int 1)))) aNil)))
  (oIf (tst (lift2 dLt (sB (sCall m_sign_of (aCons (sIx (sVarB 0) (sB (sC (.int 2)))) aNil))) (sB (sC (.int 0)))))
  (oRaise "NotAllowed")
  oNx))
def m_check_known : List D → R Val := runF 1 1 b_check_known
def b_ratios_of : En → Out := (oSeq (oIf (tOrr (tst (lift2 dEqO (sB (sIx (sVarB 0) (sB (sC (.int 0))))) (sB (sC (.str "known"))))) (tst (lift2 dEqO (sB (sIx (sVarB 0) (sB (sC (.int 0))))) (sB (sC (.str "weighing"))))))
  (oRet (sLst (aCons (sIx (sVarB 0) (sB (sNeg (sB (sC (.int 1)))))) aNil)))
  oNx)
  (oSeq (oIf (tst (lift2 dEqO (sB (sIx (sVarB 0) (sB (sC (.int 0))))) (sB (sC (.str "find")))))
  (oRet (sLst aNil))
  oNx)
  (oRet (sCal1 qList (sB (sSl (sB (sIx (sVarB 0) (sB (sC (.int 2))))) (oSome (sB (sC (.int 2)))) (oSome (sB (sC (.int 5))))))))))
def m_ratios_of : List D → R Val := runF 1 1 b_ratios_of
def b_is_short : En → Out := (oRet (vAnd (lift2 dLt (sB (sCal dAbs (aConsB (sB (sIx (sVarB 0) (sB (sC (.int 0))))) aNil))) (sB (sC (.int 1000000000000000000000000000000000000000000000000000000000000)))) (vAnd (lift2 dLt (sB (sIx (sVarB 0) (sB (sC (.int 1))))) (sB (sC (.int 1000000000000000000000000000000000000000000000000000000000000)))) (lift2 dLe (sB (sCal dLen (aConsB (sB (sCall m_ratio_text (aCons (sVar 0) aNil))) aNil))) (sB (sC (.int 60)))))))
def m_is_short : List D → R Val := runF 1 1 b_is_short
def c_check_entry_1 : En → R Val := (sLc (sItems (sB (sCall m_ratios_of (aCons (sVar 0) aNil)))) [2] [2] bName tYs (sCall m_is_short (aCons (sVar 2) aNil)))
def b_check_entry : En → Out := (oSeq (oSet 1 (sIx (sVarB 0) (sB (sC (.int 0)))))
  (oSeq (oIf (tOrr (tst (lift2 (dInL true) (sVarB 1) (sB (sC (.tup [(.str "find"), (.str "known"), (.str "paper"), (.str "recall"), (.str "weighing")]))))) (tst (lift2 dNeO (sB (sCal dLen (aConsB (sVarB 0) aNil))) (sB (sKd kd_LENGTHS (sVarB 1))))))
  (oRaise "NotAllowed")
  oNx)
  (oSeq (oIf (tst (lift2 dEqO (sVarB 1) (sB (sC (.str "weighing")))))
  (oDrop (sCall m_check_weighing (aCons (sSl (sVarB 0) (oSome (sB (sC (.int 1)))) oNone) aNil)))
  (oIf (tst (lift2 dEqO (sVarB 1) (sB (sC (.str "known")))))
  (oDrop (sCall m_check_known (aCons (sVar 0) aNil)))
  (oIf (tst (lift2 dEqO (sVarB 1) (sB (sC (.str "find")))))
  (oIf (tOrr (tst (lift2 dLt (sB (sIx (sVarB 0) (sB (sC (.int 1))))) (sB (sC (.int 0))))) (tst (lift2 dGt (sB (sIx (sVarB 0) (sB (sC (.int 1))))) (sB (sC (.int 99))))))
  (oRaise "NotAllowed")
  oNx)
  (oSeq (oIf (tNo (tst (sCall m_is_scale (aCons (sIx (sVarB 0) (sB (sC (.int 1)))) aNil))))
  (oRaise "NotAllowed")
  oNx)
  (oSeq (oDrop (sCall m_check_paper (aCons (sIx (sVarB 0) (sB (sC (.int 2)))) aNil)))
  (oIf (tAn (tst (lift2 dEqO (sVarB 1) (sB (sC (.str "recall"))))) (tNo (tst (chain (sB (sC (.int 0))) (chC dLe (sB (sIx (sVarB 0) (sB (sC (.int 3))))) (chL dLe (sB (sC (.int 999)))))))))
  (oRaise "NotAllowed")
  oNx))))))
  (oIf (tNo (tst (sCal dAll (aConsB (sB c_check_entry_1) aNil))))
  (oRaise "NotAllowed")
  oNx))))
def m_check_entry : List D → R Val := runF 3 1 b_check_entry
def lb_law_numbers_1 : En → Out := (oSeq (oIf (tst (lift2 dGt (sVarB 7) (sB (sC (.int 0)))))
  (oSet 8 (sAdd (sVarB 8) (sB (sIx (sVarB 2) (sB (lift2 dMod (sVarB 3) (sVarB 7)))))))
  oNx)
  (oSeq (oSet 8 (lift2 dMod (sB (sCal dInt (aConsB (sB (sAdd (sB (sMul (sVarB 8) (sB (sC (.int 48271))))) (sVarB 3))) aNil))) (sB (sC (.int 2147483647)))))
  (oApp 2 (lift2 dDiv (sVarB 8) (sB (sC (.int 7)))))))
def l_law_numbers_1 : En → Out := (oFor (sR1 (sB (sCal dMax2 (aConsB (sB (sC (.int 0))) (aConsB (sB (lift2 dSub (sVarB 1) (sVarB 7))) aNil))))) [3] bName
  lb_law_numbers_1)
def lb_law_numbers_2 : En → Out := (oIf (tAn (tst (lift2 dGt (sVarB 4) (sB (sC (.int 0))))) (tst (lift2 dLt (sB (sCal dLen (aConsB (sVarB 2) aNil))) (sVarB 1))))
  (oSeq (oApp 2 (lift2 dMod (sVarB 4) (sB (sC (.int 10007)))))
  (oSet 4 (lift2 dDiv (sVarB 4) (sB (sC (.int 10007))))))
  oNx)
def l_law_numbers_2 : En → Out := (oFor (sR1 (sB (sC (.int 60)))) [5] bName
  lb_law_numbers_2)
def lb_law_numbers_3 : En → Out := (oSeq (oSet 4 (sCal dAbs (aConsB (sB (sCal dInt (aConsB (sB (sIx (sVarB 0) (sVarB 3))) aNil))) aNil)))
  (oIf (tst (lift2 dGe (sVarB 4) (sB (lift2 dPow (sB (sC (.int 10))) (sB (sC (.int 18)))))))
  l_law_numbers_2
  (oIf (tst (lift2 dLt (sB (sCal dLen (aConsB (sVarB 2) aNil))) (sVarB 1)))
  (oSeq (oSet 6 (lift2 dMod (sB (sCal dInt (aConsB (sB (sAdd (sB (sAdd (sB (sMul (sVarB 4) (sB (sC (.int 48271))))) (sB (sMul (sVarB 3) (sB (sC (.int 69621))))))) (sB (sC (.int 11))))) aNil))) (sB (sC (.int 2147483647)))))
  (oApp 2 (lift2 dDiv (sB (lift2 dMod (sB (sCal dInt (aConsB (sB (sAdd (sB (sAdd (sB (sMul (sVarB 6) (sB (sC (.int 16807))))) (sB (sMul (sB (sC (.int 7))) (sVarB 3))))) (sB (sC (.int 3))))) aNil))) (sB (sC (.int 2147483647))))) (sB (sC (.int 3))))))
  oNx)))
def l_law_numbers_3 : En → Out := (oFor (sR1 (sB (sCal dLen (aConsB (sVarB 0) aNil)))) [3] bName
  lb_law_numbers_3)
def b_law_numbers : En → Out := (oSeq (oSet 2 (sLst aNil))
  (oSeq l_law_numbers_3
  (oSeq (oSet 7 (sCal dLen (aConsB (sVarB 2) aNil)))
  (oSeq (oSet 8 (sAdd (sB (sC (.int 5381))) (sB (sCal dLen (aConsB (sVarB 0) aNil)))))
  (oSeq l_law_numbers_1
  (oRet (sSl (sVarB 2) oNone (oSome (sVarB 1)))))))))
def m_law_numbers : List D → R Val := runF 9 2 b_law_numbers
def lb_law_ratio_1 : En → Out := (oSeq (oIf (tst (lift2 dEqO (sVarB 3) (sB (sC (.int 0)))))
  oBk
  oNx)
  (oSeq (oSet 5 (lift2 dMod (sB (sCal dInt (aConsB (sVarB 2) aNil))) (sVarB 3)))
  (oSeq (oSet 2 (sVar 3))
  (oSet 3 (sVar 5)))))
def l_law_ratio_1 : En → Out := (oFor (sR1 (sB (sC (.int 400)))) [4] bName
  lb_law_ratio_1)
def b_law_ratio : En → Out := (oSeq (oSet 2 (sCal dAbs (aConsB (sVarB 0) aNil)))
  (oSeq (oSet 3 (sCal dAbs (aConsB (sVarB 1) aNil)))
  (oSeq l_law_ratio_1
  (oRet (sTup (aCons (lift2 dDiv (sVarB 0) (sVarB 2)) (aCons (lift2 dDiv (sVarB 1) (sVarB 2)) aNil)))))))
def m_law_ratio : List D → R Val := runF 6 2 b_law_ratio
def b_law_paper : En → Out := (oSeq (oSet 1 (lift2 dMod (sB (sIx (sVarB 0) (sB (sC (.int 0))))) (sB (sC (.int 300)))))
  (oSeq (oSet 2 (sAdd (sVarB 1) (sB (lift2 dMod (sB (sIx (sVarB 0) (sB (sC (.int 1))))) (sB (sIx (sB (sLst (aCons (sC (.int 40)) (aCons (sC (.int 700)) aNil)))) (sB (sCal dInt (aConsB (sB (lift2 dEqO (sB (lift2 dMod (sB (lift2 dDiv (sB (sIx (sVarB 0) (sB (sC (.int 1))))) (sB (sC (.int 40))))) (sB (sC (.int 5))))) (sB (sC (.int 0))))) aNil)))))))))
  (oSeq (oSet 3 (sCall m_law_ratio (aCons (lift2 dMod (sB (sIx (sVarB 0) (sB (sC (.int 2))))) (sB (sC (.int 5)))) (aCons (sAdd (sB (sC (.int 1))) (sB (lift2 dMod (sB (lift2 dDiv (sB (sIx (sVarB 0) (sB (sC (.int 2))))) (sB (sC (.int 5))))) (sB (sC (.int 4)))))) aNil))))
  (oSeq (oSet 4 (sCall m_law_ratio (aCons (lift2 dMod (sB (sIx (sVarB 0) (sB (sC (.int 3))))) (sB (sC (.int 4)))) (aCons (sAdd (sB (sC (.int 4))) (sB (lift2 dMod (sB (lift2 dDiv (sB (sIx (sVarB 0) (sB (sC (.int 3))))) (sB (sC (.int 4))))) (sB (sC (.int 30)))))) aNil))))
  (oSeq (oSet 5 (sCall m_law_ratio (aCons (lift2 dMod (sB (sIx (sVarB 0) (sB (sC (.int 4))))) (sB (sC (.int 3)))) (aCons (sAdd (sB (sC (.int 1))) (sB (lift2 dMod (sB (lift2 dDiv (sB (sIx (sVarB 0) (sB (sC (.int 4))))) (sB (sC (.int 3))))) (sB (sC (.int 50)))))) aNil))))
  (oRet (sTup (aCons (sVar 1) (aCons (sCal dMin2 (aConsB (sB (sC (.int 999))) (aConsB (sVarB 2) aNil))) (aCons (sVar 3) (aCons (sVar 4) (aCons (sVar 5) (aCons (lift2 dMod (sB (sIx (sVarB 0) (sB (sC (.int 5))))) (sB (sAdd (sVarB 1) (sB (sC (.int 1)))))) aNil)))))))))))))
def m_law_paper : List D → R Val := runF 6 1 b_law_paper
def lb_law_lots_1 : En → Out := (oApp 1 (sAdd (sB (sAdd (sB (lift2 dMod (sB (lift2 dDiv (sB (lift2 dDiv (sVarB 0) (sB (sC (.int 4))))) (sB (sAdd (sB (sC (.int 1))) (sB (sMul (sB (sC (.int 7))) (sVarB 2))))))) (sB (sC (.int 12))))) (sB (sMul (sB (sC (.int 12))) (sVarB 2))))) (sB (sMul (sB (sC (.int 40))) (sB (sCal dInt (aConsB (sB (lift2 dEqO (sVarB 2) (sB (sC (.int 3))))) aNil)))))))
def l_law_lots_1 : En → Out := (oFor (sR1 (sB (sAdd (sB (sC (.int 1))) (sB (lift2 dMod (sVarB 0) (sB (sC (.int 4)))))))) [2] bName
  lb_law_lots_1)
def b_law_lots : En → Out := (oSeq (oSet 1 (sLst aNil))
  (oSeq l_law_lots_1
  (oRet (sCal1 qTuple (sVarB 1)))))
def m_law_lots : List D → R Val := runF 3 1 b_law_lots
def b_law_entry : En → Out := (oSeq (oSet 1 (sIx (sB (sLst (aCons (sC (.str "ab")) (aCons (sC (.str "c")) (aCons (sC (.str "zzzz")) (aCons (sC (.str "a")) aNil)))))) (sB (lift2 dMod (sB (lift2 dDiv (sB (sIx (sVarB 0) (sB (sC (.int 0))))) (sB (sC (.int 5))))) (sB (sC (.int 4)))))))
  (oSeq (oSet 2 (lift2 dMod (sB (sIx (sVarB 0) (sB (sC (.int 0))))) (sB (sC (.int 5)))))
  (oSeq (oIf (tst (lift2 dEqO (sVarB 2) (sB (sC (.int 0)))))
  (oRet (sTup (aCons (sC (.str "paper")) (aCons (sVar 1) (aCons (sCall m_law_paper (aCons (sSl (sVarB 0) (oSome (sB (sC (.int 1)))) oNone) aNil)) aNil)))))
  oNx)
  (oSeq (oIf (tst (lift2 dEqO (sVarB 2) (sB (sC (.int 1)))))
  (oRet (sTup (aCons (sC (.str "recall")) (aCons (sVar 1) (aCons (sCall m_law_paper (aCons (sSl (sVarB 0) (oSome (sB (sC (.int 1)))) oNone) aNil)) (aCons (lift2 dMod (sB (sIx (sVarB 0) (sB (sC (.int 7))))) (sB (sC (.int 1000)))) aNil))))))
  oNx)
  (oSeq (oIf (tst (lift2 dEqO (sVarB 2) (sB (sC (.int 2)))))
  (oRet (sTup (aCons (sC (.str "weighing")) (aCons (sVar 1) (aCons (lift2 dMod (sB (sIx (sVarB 0) (sB (sC (.int 1))))) (sB (sC (.int 1000)))) (aCons (sCall m_law_lots (aCons (sIx (sVarB 0) (sB (sC (.int 2)))) aNil)) (aCons (sCall m_law_ratio (aCons (lift2 dMod (sB (sIx (sVarB 0) (sB (sC (.int 3))))) (sB (sC (.int 40)))) (aCons (sAdd (sB (sC (.int 1))) (sB (lift2 dMod (sB (lift2 dDiv (sB (sIx (sVarB 0) (sB (sC (.int 3))))) (sB (sC (.int 40))))) (sB (sC (.int 6)))))) aNil))) aNil)))))))
  oNx)
  (oSeq (oIf (tst (lift2 dEqO (sVarB 2) (sB (sC (.int 3)))))
  (oRet (sTup (aCons (sC (.str "known")) (aCons (sCall m_law_lots (aCons (sIx (sVarB 0) (sB (sC (.int 1)))) aNil)) (aCons (sCall m_law_ratio (aCons (lift2 dMod (sB (sIx (sVarB 0) (sB (sC (.int 2))))) (sB (sC (.int 40)))) (aCons (sAdd (sB (sC (.int 1))) (sB (lift2 dMod (sB (lift2 dDiv (sB (sIx (sVarB 0) (sB (sC (.int 2))))) (sB (sC (.int 40))))) (sB (sC (.int 6)))))) aNil))) aNil)))))
  oNx)
  (oRet (sTup (aCons (sC (.str "find")) (aCons (lift2 dMod (sB (sIx (sVarB 0) (sB (sC (.int 1))))) (sB (sC (.int 100)))) (aCons (lift2 dEqO (sB (lift2 dMod (sB (sIx (sVarB 0) (sB (sC (.int 2))))) (sB (sC (.int 2))))) (sB (sC (.int 0)))) aNil)))))))))))
def m_law_entry : List D → R Val := runF 3 1 b_law_entry
def b_law_refused : En → Out := (oSeq (oTryAs excs (fun cn => isub cn "KerbError") 1 (oDrop (sCall m_check_entry (aCons (sVar 0) aNil))) (fun cn => (oRet (vAnd (sIsE (isub cn "NotAllowed")) (vNot (sIsE (isub cn "BadForm")))))))
  (oRet (sC (.bl false))))
def m_law_refused : List D → R Val := runF 2 1 b_law_refused
def lb_law_great_1 : En → Out := (oSet 0 (sMul (sVarB 0) (sB (lift2 dPow (sB (sC (.int 10))) (sB (sC (.int 50)))))))
def l_law_great_1 : En → Out := (oFor (sR1 (sB (sC (.int 100)))) [1] bName
  lb_law_great_1)
def b_law_great : En → Out := (oSeq (oSet 0 (sC (.int 1)))
  (oSeq l_law_great_1
  (oRet (sVar 0))))
def m_law_great : List D → R Val := runF 2 0 b_law_great
def b_law_bad_paper : En → Out := (oSeq (oAsg [2, 3, 4, 5, 6, 7] (bTup (bCons bName (bCons bName (bCons bName (bCons bName (bCons bName (bCons bName bNil))))))) (sVar 0))
  (oSeq (oSet 8 (sLst (aCons (sTup (aCons (sAdd (sVarB 3) (sB (sC (.int 1)))) (aCons (sVar 3) (aCons (sVar 4) (aCons (sVar 5) (aCons (sVar 6) (aCons (sVar 7) aNil))))))) (aCons (sTup (aCons (sVar 2) (aCons (sC (.int 1000)) (aCons (sVar 4) (aCons (sVar 5) (aCons (sVar 6) (aCons (sVar 7) aNil))))))) (aCons (sTup (aCons (sNeg (sB (sC (.int 1)))) (aCons (sVar 3) (aCons (sVar 4) (aCons (sVar 5) (aCons (sVar 6) (aCons (sC (.int 0)) aNil))))))) aNil)))))
  (oSeq (oSet 8 (sAdd (sVarB 8) (sB (sLst (aCons (sTup (aCons (sVar 2) (aCons (sVar 3) (aCons (sVar 4) (aCons (sVar 5) (aCons (sVar 6) (aCons (sAdd (sVarB 2) (sB (sC (.int 1)))) aNil))))))) (aCons (sTup (aCons (sVar 2) (aCons (sVar 3) (aCons (sVar 4) (aCons (sVar 5) (aCons (sVar 6) (aCons (sNeg (sB (sC (.int 1)))) aNil))))))) aNil))))))
  (oSeq (oSet 8 (sAdd (sVarB 8) (sB (sLst (aCons (sTup (aCons (sVar 2) (aCons (sVar 3) (aCons (sTup (aCons (sNeg (sB (sC (.int 1)))) (aCons (sC (.int 2)) aNil))) (aCons (sVar 5) (aCons (sVar 6) (aCons (sVar 7) aNil))))))) (aCons (sTup (aCons (sVar 2) (aCons (sVar 3) (aCons (sVar 4) (aCons (sTup (aCons (sNeg (sB (sC (.int 1)))) (aCons (sC (.int 9)) aNil))) (aCons (sVar 6) (aCons (sVar 7) aNil))))))) aNil))))))
  (oSeq (oSet 8 (sAdd (sVarB 8) (sB (sLst (aCons (sTup (aCons (sVar 2) (aCons (sVar 3) (aCons (sVar 4) (aCons (sTup (aCons (sC (.int 1)) (aCons (sC (.int 1)) aNil))) (aCons (sVar 6) (aCons (sVar 7) aNil))))))) (aCons (sTup (aCons (sVar 2) (aCons (sVar 3) (aCons (sVar 4) (aCons (sTup (aCons (sC (.int 7)) (aCons (sC (.int 5)) aNil))) (aCons (sVar 6) (aCons (sVar 7) aNil))))))) aNil))))))
  (oSeq (oSet 8 (sAdd (sVarB 8) (sB (sLst (aCons (sTup (aCons (sVar 2) (aCons (sVar 3) (aCons (sVar 4) (aCons (sVar 5) (aCons (sTup (aCons (sNeg (sB (sC (.int 1)))) (aCons (sC (.int 1)) aNil))) (aCons (sVar 7) aNil))))))) (aCons (sTup (aCons (sVar 2) (aCons (sVar 3) (aCons (sTup (aCons (sCall m_law_great aNil) (aCons (sC (.int 1)) aNil))) (aCons (sVar 5) (aCons (sVar 6) (aCons (sVar 7) aNil))))))) aNil))))))
  (oRet (sIx (sVarB 8) (sB (lift2 dMod (sVarB 1) (sB (sCal dLen (aConsB (sVarB 8) aNil)))))))))))))
def m_law_bad_paper : List D → R Val := runF 9 2 b_law_bad_paper
def b_law_bad_lots : En → Out := (oSeq (oSet 2 (sLst (aCons (sTup aNil) (aCons (sAdd (sVarB 0) (sB (sSl (sVarB 0) (oSome (sB (sNeg (sB (sC (.int 1)))))) oNone))) (aCons (sAdd (sVarB 0) (sB (sTup (aCons (lift2 dSub (sB (sIx (sVarB 0) (sB (sNeg (sB (sC (.int 1))))))) (sB (sC (.int 1)))) aNil)))) (aCons (sAdd (sB (sTup (aCons (sNeg (sB (sC (.int 1)))) aNil))) (sVarB 0)) (aCons (sAdd (sB (sSl (sVarB 0) oNone (oSome (sB (sC (.int 1)))))) (sB (sTup (aCons (sC (.int 100)) aNil)))) (aCons (sTup (aCons (sC (.int 0)) (aCons (sC (.int 1)) (aCons (sC (.int 2)) (aCons (sC (.int 3)) (aCons (sC (.int 4)) (aCons (sC (.int 5)) (aCons (sC (.int 6)) (aCons (sC (.int 7)) (aCons (sC (.int 8)) aNil)))))))))) aNil))))))))
  (oRet (sIx (sVarB 2) (sB (lift2 dMod (sVarB 1) (sB (sCal dLen (aConsB (sVarB 2) aNil))))))))
def m_law_bad_lots : List D → R Val := runF 3 2 b_law_bad_lots
def b_law_bad : En → Out := (oSeq (oSet 2 (sIx (sVarB 0) (sB (sC (.int 0)))))
  (oSeq (oSet 3 (sLst (aCons (sAdd (sVarB 0) (sB (sTup (aCons (sC (.int 0)) aNil)))) (aCons (sSl (sVarB 0) oNone (oSome (sB (sNeg (sB (sC (.int 1))))))) (aCons (sAdd (sB (sTup (aCons (sIx (sB (sLst (aCons (sC (.str "Paper")) (aCons (sC (.str "")) (aCons (sC (.str "weight")) (aCons (sC (.str "finds")) aNil)))))) (sB (lift2 dMod (sB (sIx (sVarB 1) (sB (sC (.int 0))))) (sB (sC (.int 4)))))) aNil))) (sB (sSl (sVarB 0) (oSome (sB (sC (.int 1)))) oNone))) aNil)))))
  (oSeq (oIf (tst (lift2 (dInL false) (sVarB 2) (sB (sLst (aCons (sC (.str "paper")) (aCons (sC (.str "recall")) aNil))))))
  (oSeq (oApp 3 (sAdd (sB (sTup (aCons (sVar 2) (aCons (sIx (sVarB 0) (sB (sC (.int 1)))) (aCons (sCall m_law_bad_paper (aCons (sIx (sVarB 0) (sB (sC (.int 2)))) (aCons (sIx (sVarB 1) (sB (sC (.int 1)))) aNil))) aNil))))) (sB (sSl (sVarB 0) (oSome (sB (sC (.int 3)))) oNone))))
  (oApp 3 (sAdd (sB (sTup (aCons (sVar 2) (aCons (sIx (sB (sLst (aCons (sC (.str "")) (aCons (sC (.str "abcde")) (aCons (sC (.str "A")) (aCons (sC (.str "a1")) (aCons (sC (.str "a b")) aNil))))))) (sB (lift2 dMod (sB (sIx (sVarB 1) (sB (sC (.int 2))))) (sB (sC (.int 5)))))) aNil)))) (sB (sSl (sVarB 0) (oSome (sB (sC (.int 2)))) oNone)))))
  oNx)
  (oSeq (oIf (tst (lift2 dEqO (sVarB 2) (sB (sC (.str "recall")))))
  (oApp 3 (sAdd (sB (sSl (sVarB 0) oNone (oSome (sB (sC (.int 3)))))) (sB (sTup (aCons (sIx (sB (sLst (aCons (sNeg (sB (sC (.int 1)))) (aCons (sC (.int 1000)) aNil)))) (sB (lift2 dMod (sB (sIx (sVarB 1) (sB (sC (.int 3))))) (sB (sC (.int 2)))))) aNil)))))
  oNx)
  (oSeq (oIf (tst (lift2 dEqO (sVarB 2) (sB (sC (.str "weighing")))))
  (oSeq (oSet 3 (sAdd (sVarB 3) (sB (sLst (aCons (sAdd (sB (sTup (aCons (sVar 2) (aCons (sIx (sB (sLst (aCons (sC (.str "")) (aCons (sC (.str "abcde")) (aCons (sC (.str "A")) aNil))))) (sB (lift2 dMod (sB (sIx (sVarB 1) (sB (sC (.int 2))))) (sB (sC (.int 3)))))) aNil)))) (sB (sSl (sVarB 0) (oSome (sB (sC (.int 2)))) oNone))) (aCons (sAdd (sB (sAdd (sB (sSl (sVarB 0) oNone (oSome (sB (sC (.int 2)))))) (sB (sTup (aCons (sIx (sB (sLst (aCons (sNeg (sB (sC (.int 1)))) (aCons (sC (.int 1000)) aNil)))) (sB (lift2 dMod (sB (sIx (sVarB 1) (sB (sC (.int 3))))) (sB (sC (.int 2)))))) aNil))))) (sB (sSl (sVarB 0) (oSome (sB (sC (.int 3)))) oNone))) aNil))))))
  (oSet 3 (sAdd (sVarB 3) (sB (sLst (aCons (sAdd (sB (sAdd (sB (sSl (sVarB 0) oNone (oSome (sB (sC (.int 3)))))) (sB (sTup (aCons (sCall m_law_bad_lots (aCons (sIx (sVarB 0) (sB (sC (.int 3)))) (aCons (sIx (sVarB 1) (sB (sC (.int 4)))) aNil))) aNil))))) (sB (sSl (sVarB 0) (oSome (sB (sC (.int 4)))) oNone))) (aCons (sAdd (sB (sSl (sVarB 0) oNone (oSome (sB (sC (.int 4)))))) (sB (sTup (aCons (sTup (aCons (sNeg (sB (sC (.int 1)))) (aCons (sC (.int 3)) aNil))) aNil)))) aNil)))))))
  oNx)
  (oSeq (oIf (tst (lift2 dEqO (sVarB 2) (sB (sC (.str "known")))))
  (oSeq (oSet 3 (sAdd (sVarB 3) (sB (sLst (aCons (sTup (aCons (sVar 2) (aCons (sIx (sVarB 0) (sB (sC (.int 1)))) (aCons (sTup (aCons (sCall m_law_great aNil) (aCons (sC (.int 1)) aNil))) aNil)))) (aCons (sTup (aCons (sVar 2) (aCons (sIx (sVarB 0) (sB (sC (.int 1)))) (aCons (sTup (aCons (sC (.int 1)) (aCons (sCall m_law_great aNil) aNil))) aNil)))) (aCons (sTup (aCons (sVar 2) (aCons (sIx (sVarB 0) (sB (sC (.int 1)))) (aCons (sTup (aCons (lift2 dPow (sB (sC (.int 10))) (sB (sC (.int 60)))) (aCons (sC (.int 1)) aNil))) aNil)))) aNil)))))))
  (oSet 3 (sAdd (sVarB 3) (sB (sLst (aCons (sTup (aCons (sVar 2) (aCons (sCall m_law_bad_lots (aCons (sIx (sVarB 0) (sB (sC (.int 1)))) (aCons (sIx (sVarB 1) (sB (sC (.int 4)))) aNil))) (aCons (sIx (sVarB 0) (sB (sC (.int 2)))) aNil)))) (aCons (sTup (aCons (sVar 2) (aCons (sIx (sVarB 0) (sB (sC (.int 1)))) (aCons (sTup (aCons (sNeg (sB (sC (.int 1)))) (aCons (sC (.int 3)) aNil))) aNil)))) aNil)))))))
  oNx)
  (oSeq (oIf (tst (lift2 dEqO (sVarB 2) (sB (sC (.str "find")))))
  (oSet 3 (sAdd (sVarB 3) (sB (sLst (aCons (sTup (aCons (sVar 2) (aCons (sNeg (sB (sC (.int 1)))) (aCons (sIx (sVarB 0) (sB (sC (.int 2)))) aNil)))) (aCons (sTup (aCons (sVar 2) (aCons (sC (.int 100)) (aCons (sIx (sVarB 0) (sB (sC (.int 2)))) aNil)))) aNil))))))
  oNx)
  (oRetO 3))))))))
def m_law_bad : List D → R Val := runF 4 2 b_law_bad
def lb_law_1 : En → Out := (oIf (tNo (tst (sCall m_law_refused (aCons (sVar 4) aNil))))
  (oRet (sC (.bl false)))
  oNx)
def l_law_1 : En → Out := (oFor (sItems (sB (sCall m_law_bad (aCons (sVar 3) (aCons (sSl (sVarB 1) (oSome (sB (sAdd (sB (sC (.int 60))) (sB (sMul (sB (sC (.int 2))) (sVarB 2)))))) oNone) aNil))))) [4] bName
  lb_law_1)
def lb_law_2 : En → Out := (oSeq (oSet 3 (sCall m_law_entry (aCons (sSl (sVarB 1) (oSome (sB (sMul (sB (sC (.int 12))) (sVarB 2)))) (oSome (sB (sAdd (sB (sMul (sB (sC (.int 12))) (sVarB 2))) (sB (sC (.int 10))))))) aNil)))
  (oSeq (oIf (tst (lift2 dIsNot (sB (sCall m_check_entry (aCons (sVar 3) aNil))) (sB (sC .non))))
  (oRet (sC (.bl false)))
  oNx)
  l_law_1))
def l_law_2 : En → Out := (oFor (sR1 (sB (sC (.int 5)))) [2] bName
  lb_law_2)
def b_law : En → Out := (oSeq (oSet 1 (sCall m_law_numbers (aCons (sVar 0) (aCons (sC (.int 80)) aNil))))
  (oSeq l_law_2
  (oSeq (oSet 5 (sTup (aCons (sC (.str "known")) (aCons (sTup (aCons (sC (.int 0)) (aCons (sC (.int 1)) (aCons (sC (.int 2)) (aCons (sC (.int 3)) (aCons (sC (.int 4)) (aCons (sC (.int 5)) (aCons (sC (.int 6)) (aCons (sC (.int 99)) aNil))))))))) (aCons (sTup (aCons (sC (.int 0)) (aCons (sC (.int 1)) aNil))) aNil)))))
  (oSeq (oSet 6 (sTup (aCons (sC (.str "weighing")) (aCons (sC (.str "a")) (aCons (sC (.int 0)) (aCons (sTup (aCons (sC (.int 0)) aNil)) (aCons (sTup (aCons (lift2 dPow (sB (sC (.int 10))) (sB (sC (.int 57)))) (aCons (sC (.int 7)) aNil))) aNil)))))))
  (oSeq (oIf (tOrr (tst (lift2 dIsNot (sB (sCall m_check_entry (aCons (sVar 6) aNil))) (sB (sC .non)))) (tNo (tst (sCall m_law_refused (aCons (sAdd (sB (sSl (sVarB 6) oNone (oSome (sB (sC (.int 4)))))) (sB (sTup (aCons (sTup (aCons (lift2 dPow (sB (sC (.int 10))) (sB (sC (.int 58)))) (aCons (sC (.int 7)) aNil))) aNil)))) aNil)))))
  (oRet (sC (.bl false)))
  oNx)
  (oRet (vAnd (lift2 dIs (sB (sCall m_check_entry (aCons (sVar 5) aNil))) (sB (sC .non))) (lift2 dEqO (sB (sC (.tup [(.str "find"), (.str "known"), (.str "paper"), (.str "recall"), (.str "weighing")]))) (sB (sTup (aCons (sC (.str "find")) (aCons (sC (.str "known")) (aCons (sC (.str "paper")) (aCons (sC (.str "recall")) (aCons (sC (.str "weighing")) aNil)))))))))))))))
def m_law : List D → R Val := runF 7 1 b_law
end K60

set_option Elab.async false
set_option linter.all false
set_option autoImplicit false
set_option maxRecDepth 100000
set_option maxHeartbeats 4000000
namespace K60
open PySem PySem.Spec PyProof.Rows L2 Lt
section
variable {P : Program} {w : World} {K : PySem.W.Frag} {mg : Str → Option Value} {base : Heap}
theorem ok_common (T : T w K mg) : FnOk P w K mg base (L2.CX P w) 1 T.a_common T.d_common ["first", "second"] (spM K mg 2 m_common) := by
  have nd := sc_common.nd
  exact fnL T.F_common sc_common (n := 2) rfl rfl (fun cdv A outer s H E hr tk hp => ⟨_, (Ss_cons (S_setp (i := 0) nd rfl (.inl rfl) (E_blt c_abs rfl T.z_abs (by decide +kernel) (AB_cons (B_var (vL 0)) AB_nil))) (Ss_cons (S_setp (i := 1) nd rfl (.inl rfl) (E_blt c_abs rfl T.z_abs (by decide +kernel) (AB_cons (B_var (vL 1)) AB_nil))) (Ss_cons (S_while wN hp (T_cmp (o_ne (by exact Room.units hr)) (B_var (vL 1)) (SE.b E_int) (nomark _)) (Ss_one (S_par (i := 0) (j := 1) rfl nd rfl rfl (by decide) rfl rfl (A_cons (E_var (vL 1)) (A_cons (E_op o_mod (B_var (vL 0)) (B_var (vL 1))) A_nil))))) (Ss_one (S_ret (E_var (vL 0)))))))⟩) fun _ _ _ => rfl
theorem ok_is_ratio (T : T w K mg) : FnOk P w K mg base (L2.CX P w) 2 T.a_is_ratio T.d_is_ratio ["pair"] (spM K mg 1 m_is_ratio) := by
  have nd := sc_is_ratio.nd
  exact fnL T.F_is_ratio sc_is_ratio (n := 1) rfl rfl (fun cdv A outer s H E hr tk hp => ⟨_, (Ss_one (S_ret (E_and (E_cmp (o_eq (by exact Room.units hr)) (SE.b (E_blt c_len rfl T.z_len (by decide +kernel) (AB_cons (B_var (vL 0)) AB_nil))) (SE.b E_int) (nomark _)) (E_and (E_cmp o_ge (SE.b (E_ix (Q_var (vL 0)) (SE.b E_int))) (SE.b E_int) (nomark _)) (E_one (E_cmp (o_eq (by exact Room.units hr)) (SE.b (E_call tk (by exact ok_common T) (by exact hr.mono (by decide)) rfl T.g_common T.F_common.kp (bd_common T) (A_cons (E_ix (Q_var (vL 0)) (SE.b E_int)) (A_cons (E_ix (Q_var (vL 0)) (SE.b E_int)) A_nil)))) (SE.b E_int) (nomark _)))))))⟩) fun _ _ _ => rfl
theorem ok_sign_of (T : T w K mg) : FnOk P w K mg base (L2.CX P w) 1 T.a_sign_of T.d_sign_of ["first"] (spM K mg 1 m_sign_of) := by
  have nd := sc_sign_of.nd
  exact fnL T.F_sign_of sc_sign_of (n := 1) rfl rfl (fun cdv A outer s H E hr tk hp => ⟨_, (Ss_cons (S_if (T_cmp (o_eq (by exact Room.units hr)) (SE.b (E_ix (Q_var (vL 0)) (SE.b E_int))) (SE.b E_int) (nomark _)) (Ss_one (S_ret E_int)) Ss_nil) (Ss_one (S_ret (E_if (T_cmp o_gt (SE.b (E_ix (Q_var (vL 0)) (SE.b E_int))) (SE.b E_int) (nomark _)) E_int (E_neg (SE.b E_int))))))⟩) fun _ _ _ => rfl
theorem ok_compare (T : T w K mg) : FnOk P w K mg base (L2.CX P w) 2 T.a_compare T.d_compare ["first", "second"] (spM K mg 2 m_compare) := by
  have nd := sc_compare.nd
  exact fnL T.F_compare sc_compare (n := 2) rfl rfl (fun cdv A outer s H E hr tk hp => ⟨_, (Ss_one (S_ret (E_call tk (by exact ok_sign_of T) (by exact hr.mono (by decide)) rfl T.g_sign_of T.F_sign_of.kp (bd_sign_of T) (A_cons (E_tup (A_cons (E_op o_sub (SE.b (E_mul (SE.q (E_ix (Q_var (vL 0)) (SE.b E_int))) (SE.q (E_ix (Q_var (vL 1)) (SE.b E_int))))) (SE.b (E_mul (SE.q (E_ix (Q_var (vL 1)) (SE.b E_int))) (SE.q (E_ix (Q_var (vL 0)) (SE.b E_int)))))) (A_cons E_int A_nil))) A_nil))))⟩) fun _ _ _ => rfl
theorem ok_ratio_text (T : T w K mg) : FnOk P w K mg base (L2.CX P w) 1 T.a_ratio_text T.d_ratio_text ["first"] (spM K mg 1 m_ratio_text) := by
  have nd := sc_ratio_text.nd
  exact fnL T.F_ratio_text sc_ratio_text (n := 1) rfl rfl (fun cdv A outer s H E hr tk hp => ⟨_, (Ss_cons (S_if (T_cmp (o_eq (by exact Room.units hr)) (SE.b (E_ix (Q_var (vL 0)) (SE.b E_int))) (SE.b E_int) (nomark _)) (Ss_one (S_ret (E_bty c_str rfl T.z_str (by decide +kernel) (AB_cons (SE.b (E_ix (Q_var (vL 0)) (SE.b E_int))) AB_nil)))) Ss_nil) (Ss_one (S_ret (E_join (J_cons (E_fmt (SE.b (E_ix (Q_var (vL 0)) (SE.b E_int)))) (J_cons E_str (J_cons (E_fmt (SE.b (E_ix (Q_var (vL 0)) (SE.b E_int)))) J_nil)))))))⟩) fun _ _ _ => rfl
theorem ok_is_scale (T : T w K mg) : FnOk P w K mg base (L2.CX P w) 1 T.a_is_scale T.d_is_scale ["text"] (spM K mg 1 m_is_scale) := by
  have nd := sc_is_scale.nd
  exact fnL T.F_is_scale sc_is_scale (n := 2) rfl rfl (fun cdv A outer s H E hr tk hp => ⟨_, (Ss_one (S_ret (E_and (E_chain (SE.b E_int) (C_cons o_le (SE.b (E_blt c_len rfl T.z_len (by decide +kernel) (AB_cons (B_var (vL 0)) AB_nil))) (C_last o_le (SE.b (E_glob rfl T.g_MAX_NAME T.q_MAX_NAME T.r_MAX_NAME))))) (E_one (E_blt (c_all rfl) rfl T.z_all (by decide +kernel) (AB_cons (SE.b (E_lc (own := [("sign", 1)]) rfl nd (It_Q (Q_var (vL 0))) (blkOk_by (N := ["text", "sign"]) (sc := defScope s_is_scale) (by decide +kernel)) (fun _ _ _ _ _ => ⟨_, (G_name (pg_name (i := 1) nd rfl (.inl rfl)))⟩) (fun _ _ _ _ _ => ⟨_, P_nil⟩) (fun _ _ _ _ _ => ⟨_, (E_cmp (o_in (by exact units65 hr)) (B_var (vL 1)) (SE.b (E_glob rfl T.g_LETTERS T.q_LETTERS T.r_LETTERS)) (by with_unfolding_all rfl))⟩))) AB_nil))))))⟩) fun _ _ _ => rfl
theorem ok_is_day (T : T w K mg) : FnOk P w K mg base (L2.CX P w) 1 T.a_is_day T.d_is_day ["day"] (spM K mg 1 m_is_day) := by
  have nd := sc_is_day.nd
  exact fnL T.F_is_day sc_is_day (n := 1) rfl rfl (fun cdv A outer s H E hr tk hp => ⟨_, (Ss_one (S_ret (E_chain (SE.b E_int) (C_cons o_le (B_var (vL 0)) (C_last o_le (SE.b (E_glob rfl T.g_MAX_DAY T.q_MAX_DAY T.r_MAX_DAY)))))))⟩) fun _ _ _ => rfl
theorem ok_is_weight (T : T w K mg) : FnOk P w K mg base (L2.CX P w) 3 T.a_is_weight T.d_is_weight ["weight"] (spM K mg 1 m_is_weight) := by
  have nd := sc_is_weight.nd
  exact fnL T.F_is_weight sc_is_weight (n := 1) rfl rfl (fun cdv A outer s H E hr tk hp => ⟨_, (Ss_one (S_ret (E_and (E_call tk (by exact ok_is_ratio T) (by exact hr.mono (by decide)) rfl T.g_is_ratio T.F_is_ratio.kp (bd_is_ratio T) (A_cons (E_var (vL 0)) A_nil)) (E_one (E_cmp o_ge (SE.b (E_call tk (by exact ok_sign_of T) (by exact hr.mono (by decide)) rfl T.g_sign_of T.F_sign_of.kp (bd_sign_of T) (A_cons (E_var (vL 0)) A_nil))) (SE.b E_int) (nomark _))))))⟩) fun _ _ _ => rfl
theorem ok_check_paper (T : T w K mg) : FnOk P w K mg base (L2.CX P w) 4 T.a_check_paper T.d_check_paper ["paper"] (spM K mg 1 m_check_paper) := by
  have nd := sc_check_paper.nd
  exact fnL T.F_check_paper sc_check_paper (n := 8) rfl rfl (fun cdv A outer s H E hr tk hp => ⟨_, (Ss_cons (S_asg (E_var (vL 0)) (G_tup rfl (Gs_cons (G_name (pg_name (i := 1) nd rfl (.inl rfl))) (Gs_cons (G_name (pg_name (i := 2) nd rfl (.inl rfl))) (Gs_cons (G_name (pg_name (i := 3) nd rfl (.inl rfl))) (Gs_cons (G_name (pg_name (i := 4) nd rfl (.inl rfl))) (Gs_cons (G_name (pg_name (i := 5) nd rfl (.inl rfl))) (Gs_cons (G_name (pg_name (i := 6) nd rfl (.inl rfl))) Gs_nil)))))))) (Ss_cons (S_if (T_not (T_chain (SE.b E_int) (C_cons o_le (B_var (vL 6)) (C_cons o_le (B_var (vL 1)) (C_cons o_le (B_var (vL 2)) (C_last o_le (SE.b (E_glob rfl T.g_MAX_DAY T.q_MAX_DAY T.r_MAX_DAY)))))))) (Ss_one (S_raise rfl tk (pmk_own PySem.F.excBase_ValueError T.x_NotAllowed T.g_NotAllowed T.kk_NotAllowed (raises_own T.b_NotAllowed T.t_NotAllowed) rfl) T.g_NotAllowed)) Ss_nil) (Ss_one (S_if (SW.t (W_or (T_not (T_val (E_blt (c_all rfl) rfl T.z_all (by decide +kernel) (AB_cons (SE.b (E_lc (own := [("one", 7)]) rfl nd (It_Q (SE.q (E_tup (A_cons (E_var (vL 3)) (A_cons (E_var (vL 4)) (A_cons (E_var (vL 5)) A_nil)))))) (blkOk_by (N := ["paper", "first", "last", "zero", "share", "drift", "checked", "one"]) (sc := defScope s_check_paper) (by decide +kernel)) (fun _ _ _ _ _ => ⟨_, (G_name (pg_name (i := 7) nd rfl (.inl rfl)))⟩) (fun _ _ _ _ _ => ⟨_, P_nil⟩) (fun _ _ _ _ _ => ⟨_, (E_call takes0 (by exact ok_is_weight T) (by exact hr.mono (by decide)) rfl T.g_is_weight T.F_is_weight.kp (bd_is_weight T) (A_cons (E_var (vL 7)) A_nil))⟩))) AB_nil)))) (W_or1 (T_cmp o_ge (SE.b (E_call tk (by exact ok_compare T) (by exact hr.mono (by decide)) rfl T.g_compare T.F_compare.kp (bd_compare T) (A_cons (E_var (vL 4)) (A_cons (E_glob rfl T.g_ONE T.q_ONE T.r_ONE) A_nil)))) (SE.b E_int) (nomark _))))) (Ss_one (S_raise rfl tk (pmk_own PySem.F.excBase_ValueError T.x_NotAllowed T.g_NotAllowed T.kk_NotAllowed (raises_own T.b_NotAllowed T.t_NotAllowed) rfl) T.g_NotAllowed)) Ss_nil))))⟩) fun _ _ _ => rfl
theorem ok_check_scale (T : T w K mg) : FnOk P w K mg base (L2.CX P w) 2 T.a_check_scale T.d_check_scale ["text"] (spM K mg 1 m_check_scale) := by
  have nd := sc_check_scale.nd
  exact fnL T.F_check_scale sc_check_scale (n := 1) rfl rfl (fun cdv A outer s H E hr tk hp => ⟨_, (Ss_one (S_if (T_not (T_val (E_call tk (by exact ok_is_scale T) (by exact hr.mono (by decide)) rfl T.g_is_scale T.F_is_scale.kp (bd_is_scale T) (A_cons (E_var (vL 0)) A_nil)))) (Ss_one (S_raise rfl tk (pmk_own PySem.F.excBase_ValueError T.x_NotAllowed T.g_NotAllowed T.kk_NotAllowed (raises_own T.b_NotAllowed T.t_NotAllowed) rfl) T.g_NotAllowed)) Ss_nil))⟩) fun _ _ _ => rfl
theorem ok_check_day (T : T w K mg) : FnOk P w K mg base (L2.CX P w) 2 T.a_check_day T.d_check_day ["day"] (spM K mg 1 m_check_day) := by
  have nd := sc_check_day.nd
  exact fnL T.F_check_day sc_check_day (n := 1) rfl rfl (fun cdv A outer s H E hr tk hp => ⟨_, (Ss_one (S_if (T_not (T_val (E_call tk (by exact ok_is_day T) (by exact hr.mono (by decide)) rfl T.g_is_day T.F_is_day.kp (bd_is_day T) (A_cons (E_var (vL 0)) A_nil)))) (Ss_one (S_raise rfl tk (pmk_own PySem.F.excBase_ValueError T.x_NotAllowed T.g_NotAllowed T.kk_NotAllowed (raises_own T.b_NotAllowed T.t_NotAllowed) rfl) T.g_NotAllowed)) Ss_nil))⟩) fun _ _ _ => rfl
theorem ok_check_weighing (T : T w K mg) : FnOk P w K mg base (L2.CX P w) 4 T.a_check_weighing T.d_check_weighing ["weighing"] (spM K mg 1 m_check_weighing) := by
  have nd := sc_check_weighing.nd
  exact fnL T.F_check_weighing sc_check_weighing (n := 7) rfl rfl (fun cdv A outer s H E hr tk hp => ⟨_, (Ss_cons (S_asg (E_var (vL 0)) (G_tup rfl (Gs_cons (G_name (pg_name (i := 1) nd rfl (.inl rfl))) (Gs_cons (G_name (pg_name (i := 2) nd rfl (.inl rfl))) (Gs_cons (G_name (pg_name (i := 3) nd rfl (.inr rfl))) (Gs_cons (G_name (pg_name (i := 4) nd rfl (.inl rfl))) Gs_nil)))))) (Ss_cons (S_expr (E_call tk (by exact ok_check_scale T) (by exact hr.mono (by decide)) rfl T.g_check_scale T.F_check_scale.kp (bd_check_scale T) (A_cons (E_var (vL 1)) A_nil))) (Ss_cons (S_expr (E_call tk (by exact ok_check_day T) (by exact hr.mono (by decide)) rfl T.g_check_day T.F_check_day.kp (bd_check_day T) (A_cons (E_var (vL 2)) A_nil))) (Ss_cons (S_if (SW.t (W_or (T_not (T_chain (SE.b E_int) (C_cons o_le (SE.b (E_blt c_len rfl T.z_len (by decide +kernel) (AB_cons (B_var (vC 3)) AB_nil))) (C_last o_le (SE.b (E_glob rfl T.g_MAX_WEIGHED_weighings T.q_MAX_WEIGHED_weighings T.r_MAX_WEIGHED_weighings)))))) (W_or1 (T_not (T_val (E_blt (c_all rfl) rfl T.z_all (by decide +kernel) (AB_cons (SE.b (E_lc (own := [("lot", 5)]) rfl nd (It_Q (Q_var (vC 3))) (blkOk_by (N := ["weighing", "scale", "day", "lots", "reading", "lot", "at"]) (sc := defScope s_check_weighing) (by decide +kernel)) (fun _ _ _ _ _ => ⟨_, (G_name (pg_name (i := 5) nd rfl (.inl rfl)))⟩) (fun _ _ _ _ _ => ⟨_, P_nil⟩) (fun _ _ _ _ _ => ⟨_, (E_chain (SE.b E_int) (C_cons o_le (B_var (vL 5)) (C_last o_le (SE.b (E_glob rfl T.g_MAX_NUMBER T.q_MAX_NUMBER T.r_MAX_NUMBER)))))⟩))) AB_nil))))))) (Ss_one (S_raise rfl tk (pmk_own PySem.F.excBase_ValueError T.x_NotAllowed T.g_NotAllowed T.kk_NotAllowed (raises_own T.b_NotAllowed T.t_NotAllowed) rfl) T.g_NotAllowed)) Ss_nil) (Ss_one (S_if (SW.t (W_or (T_not (T_val (E_blt (c_all rfl) rfl T.z_all (by decide +kernel) (AB_cons (SE.b (E_lc (own := [("at", 6)]) rfl nd (SIt.s (It_r1 rfl T.z_range (SE.b (E_op o_sub (SE.b (E_blt c_len rfl T.z_len (by decide +kernel) (AB_cons (B_var (vC 3)) AB_nil))) (SE.b E_int))))) (blkOk_by (N := ["weighing", "scale", "day", "lots", "reading", "lot", "at"]) (sc := defScope s_check_weighing) (by decide +kernel)) (fun _ _ _ _ _ => ⟨_, (G_name (pg_name (i := 6) nd rfl (.inl rfl)))⟩) (fun _ _ _ _ _ => ⟨_, P_nil⟩) (fun _ _ _ _ _ => ⟨_, (E_cmp o_lt (SE.b (E_ix (Q_var (vC 3)) (B_var (vL 6)))) (SE.b (E_ix (Q_var (vC 3)) (SE.b (E_add (Q_var (vL 6)) (SE.q E_int))))) (nomark _))⟩))) AB_nil)))) (W_or1 (T_not (T_val (E_call tk (by exact ok_is_weight T) (by exact hr.mono (by decide)) rfl T.g_is_weight T.F_is_weight.kp (bd_is_weight T) (A_cons (E_var (vL 4)) A_nil))))))) (Ss_one (S_raise rfl tk (pmk_own PySem.F.excBase_ValueError T.x_NotAllowed T.g_NotAllowed T.kk_NotAllowed (raises_own T.b_NotAllowed T.t_NotAllowed) rfl) T.g_NotAllowed)) Ss_nil))))))⟩) fun _ _ _ => rfl
theorem ok_check_lots (T : T w K mg) : FnOk P w K mg base (L2.CX P w) 1 T.a_check_lots T.d_check_lots ["lots"] (spM K mg 1 m_check_lots) := by
  have nd := sc_check_lots.nd
  exact fnL T.F_check_lots sc_check_lots (n := 3) rfl rfl (fun cdv A outer s H E hr tk hp => ⟨_, (Ss_cons (S_if (SW.t (W_or (T_cmp o_lt (SE.b (E_blt c_len rfl T.z_len (by decide +kernel) (AB_cons (B_var (vC 0)) AB_nil))) (SE.b E_int) (nomark _)) (W_or (T_cmp o_gt (SE.b (E_blt c_len rfl T.z_len (by decide +kernel) (AB_cons (B_var (vC 0)) AB_nil))) (SE.b (E_glob rfl T.g_MAX_WEIGHED_entries T.q_MAX_WEIGHED_entries T.r_MAX_WEIGHED_entries)) (nomark _)) (W_or1 (T_not (T_val (E_blt (c_all rfl) rfl T.z_all (by decide +kernel) (AB_cons (SE.b (E_lc (own := [("lot", 1)]) rfl nd (It_Q (Q_var (vC 0))) (blkOk_by (N := ["lots", "lot", "at"]) (sc := defScope s_check_lots) (by decide +kernel)) (fun _ _ _ _ _ => ⟨_, (G_name (pg_name (i := 1) nd rfl (.inl rfl)))⟩) (fun _ _ _ _ _ => ⟨_, P_nil⟩) (fun _ _ _ _ _ => ⟨_, (E_chain (SE.b E_int) (C_cons o_le (B_var (vL 1)) (C_last o_le (SE.b (E_glob rfl T.g_MAX_LOT T.q_MAX_LOT T.r_MAX_LOT)))))⟩))) AB_nil)))))))) (Ss_one (S_raise rfl tk (pmk_own PySem.F.excBase_ValueError T.x_NotAllowed T.g_NotAllowed T.kk_NotAllowed (raises_own T.b_NotAllowed T.t_NotAllowed) rfl) T.g_NotAllowed)) Ss_nil) (Ss_one (S_if (T_not (T_val (E_blt (c_all rfl) rfl T.z_all (by decide +kernel) (AB_cons (SE.b (E_lc (own := [("at", 2)]) rfl nd (SIt.s (It_r1 rfl T.z_range (SE.b (E_op o_sub (SE.b (E_blt c_len rfl T.z_len (by decide +kernel) (AB_cons (B_var (vC 0)) AB_nil))) (SE.b E_int))))) (blkOk_by (N := ["lots", "lot", "at"]) (sc := defScope s_check_lots) (by decide +kernel)) (fun _ _ _ _ _ => ⟨_, (G_name (pg_name (i := 2) nd rfl (.inl rfl)))⟩) (fun _ _ _ _ _ => ⟨_, P_nil⟩) (fun _ _ _ _ _ => ⟨_, (E_cmp o_lt (SE.b (E_ix (Q_var (vC 0)) (B_var (vL 2)))) (SE.b (E_ix (Q_var (vC 0)) (SE.b (E_add (Q_var (vL 2)) (SE.q E_int))))) (nomark _))⟩))) AB_nil)))) (Ss_one (S_raise rfl tk (pmk_own PySem.F.excBase_ValueError T.x_NotAllowed T.g_NotAllowed T.kk_NotAllowed (raises_own T.b_NotAllowed T.t_NotAllowed) rfl) T.g_NotAllowed)) Ss_nil)))⟩) fun _ _ _ => rfl
theorem ok_check_known (T : T w K mg) : FnOk P w K mg base (L2.CX P w) 2 T.a_check_known T.d_check_known ["entry"] (spM K mg 1 m_check_known) := by
  have nd := sc_check_known.nd
  exact fnL T.F_check_known sc_check_known (n := 1) rfl rfl (fun cdv A outer s H E hr tk hp => ⟨_, (Ss_cons (S_expr (E_call tk (by exact ok_check_lots T) (by exact hr.mono (by decide)) rfl T.g_check_lots T.F_check_lots.kp (bd_check_lots T) (A_cons (E_ix (Q_var (vL 0)) (SE.b E_int)) A_nil))) (Ss_one (S_if (T_cmp o_lt (SE.b (E_call tk (by exact ok_sign_of T) (by exact hr.mono (by decide)) rfl T.g_sign_of T.F_sign_of.kp (bd_sign_of T) (A_cons (E_ix (Q_var (vL 0)) (SE.b E_int)) A_nil))) (SE.b E_int) (nomark _)) (Ss_one (S_raise rfl tk (pmk_own PySem.F.excBase_ValueError T.x_NotAllowed T.g_NotAllowed T.kk_NotAllowed (raises_own T.b_NotAllowed T.t_NotAllowed) rfl) T.g_NotAllowed)) Ss_nil)))⟩) fun _ _ _ => rfl
theorem ok_ratios_of (T : T w K mg) : FnOk P w K mg base (L2.CX P w) 1 T.a_ratios_of T.d_ratios_of ["entry"] (spM K mg 1 m_ratios_of) := by
  have nd := sc_ratios_of.nd
  exact fnL T.F_ratios_of sc_ratios_of (n := 1) rfl rfl (fun cdv A outer s H E hr tk hp => ⟨_, (Ss_cons (S_if (SW.t (W_or (T_cmp (o_eq (by exact Room.units hr)) (SE.b (E_ix (Q_var (vL 0)) (SE.b E_int))) (SE.b E_str) (nomark _)) (W_or1 (T_cmp (o_eq (by exact Room.units hr)) (SE.b (E_ix (Q_var (vL 0)) (SE.b E_int))) (SE.b E_str) (nomark _))))) (Ss_one (S_ret (E_lst (A_cons (E_ix (Q_var (vL 0)) (SE.b (E_neg (SE.b E_int)))) A_nil)))) Ss_nil) (Ss_cons (S_if (T_cmp (o_eq (by exact Room.units hr)) (SE.b (E_ix (Q_var (vL 0)) (SE.b E_int))) (SE.b E_str) (nomark _)) (Ss_one (S_ret (E_lst A_nil))) Ss_nil) (Ss_one (S_ret (E_bty1 c_list rfl T.z_list (by decide +kernel) (SE.q (E_sl (SE.q (E_ix (Q_var (vL 0)) (SE.b E_int))) (O_some (SE.b E_int)) (O_some (SE.b E_int)))))))))⟩) fun _ _ _ => rfl
theorem ok_is_short (T : T w K mg) : FnOk P w K mg base (L2.CX P w) 2 T.a_is_short T.d_is_short ["pair"] (spM K mg 1 m_is_short) := by
  have nd := sc_is_short.nd
  exact fnL T.F_is_short sc_is_short (n := 1) rfl rfl (fun cdv A outer s H E hr tk hp => ⟨_, (Ss_one (S_ret (E_and (E_cmp o_lt (SE.b (E_blt c_abs rfl T.z_abs (by decide +kernel) (AB_cons (SE.b (E_ix (Q_var (vL 0)) (SE.b E_int))) AB_nil))) (SE.b (E_glob rfl T.g_GREAT T.q_GREAT T.r_GREAT)) (nomark _)) (E_and (E_cmp o_lt (SE.b (E_ix (Q_var (vL 0)) (SE.b E_int))) (SE.b (E_glob rfl T.g_GREAT T.q_GREAT T.r_GREAT)) (nomark _)) (E_one (E_cmp o_le (SE.b (E_blt c_len rfl T.z_len (by decide +kernel) (AB_cons (SE.b (E_call tk (by exact ok_ratio_text T) (by exact hr.mono (by decide)) rfl T.g_ratio_text T.F_ratio_text.kp (bd_ratio_text T) (A_cons (E_var (vL 0)) A_nil))) AB_nil))) (SE.b (E_glob rfl T.g_MAX_TEXT T.q_MAX_TEXT T.r_MAX_TEXT)) (nomark _)))))))⟩) fun _ _ _ => rfl
theorem ok_check_entry (T : T w K mg) : FnOk P w K mg base (L2.CX P w) 5 T.a_check_entry T.d_check_entry ["entry"] (spM K mg 1 m_check_entry) := by
  have nd := sc_check_entry.nd
  exact fnL T.F_check_entry sc_check_entry (n := 3) rfl rfl (fun cdv A outer s H E hr tk hp => ⟨_, (Ss_cons (S_setp (i := 1) nd rfl (.inl rfl) (E_ix (Q_var (vL 0)) (SE.b E_int))) (Ss_cons (S_if (SW.t (W_or (T_cmp (o_notin (by exact units65 hr)) (B_var (vL 1)) (SE.b (E_glob rfl T.g_KINDS T.q_KINDS T.r_KINDS)) (by with_unfolding_all rfl)) (W_or1 (T_cmp (o_ne (by exact Room.units hr)) (SE.b (E_blt c_len rfl T.z_len (by decide +kernel) (AB_cons (B_var (vL 0)) AB_nil))) (SE.b (E_kd rfl T.g_LENGTHS T.k_LENGTHS (B_var (vL 1)))) (nomark _))))) (Ss_one (S_raise rfl tk (pmk_own PySem.F.excBase_ValueError T.x_NotAllowed T.g_NotAllowed T.kk_NotAllowed (raises_own T.b_NotAllowed T.t_NotAllowed) rfl) T.g_NotAllowed)) Ss_nil) (Ss_cons (S_if (T_cmp (o_eq (by exact Room.units hr)) (B_var (vL 1)) (SE.b E_str) (nomark _)) (Ss_one (S_expr (E_call tk (by exact ok_check_weighing T) (by exact hr.mono (by decide)) rfl T.g_check_weighing T.F_check_weighing.kp (bd_check_weighing T) (A_cons (E_sl (Q_var (vL 0)) (O_some (SE.b E_int)) O_none) A_nil)))) (Ss_one (S_if (T_cmp (o_eq (by exact Room.units hr)) (B_var (vL 1)) (SE.b E_str) (nomark _)) (Ss_one (S_expr (E_call tk (by exact ok_check_known T) (by exact hr.mono (by decide)) rfl T.g_check_known T.F_check_known.kp (bd_check_known T) (A_cons (E_var (vL 0)) A_nil)))) (Ss_one (S_if (T_cmp (o_eq (by exact Room.units hr)) (B_var (vL 1)) (SE.b E_str) (nomark _)) (Ss_one (S_if (SW.t (W_or (T_cmp o_lt (SE.b (E_ix (Q_var (vL 0)) (SE.b E_int))) (SE.b E_int) (nomark _)) (W_or1 (T_cmp o_gt (SE.b (E_ix (Q_var (vL 0)) (SE.b E_int))) (SE.b (E_glob rfl T.g_MAX_LOT T.q_MAX_LOT T.r_MAX_LOT)) (nomark _))))) (Ss_one (S_raise rfl tk (pmk_own PySem.F.excBase_ValueError T.x_NotAllowed T.g_NotAllowed T.kk_NotAllowed (raises_own T.b_NotAllowed T.t_NotAllowed) rfl) T.g_NotAllowed)) Ss_nil)) (Ss_cons (S_if (T_not (T_val (E_call tk (by exact ok_is_scale T) (by exact hr.mono (by decide)) rfl T.g_is_scale T.F_is_scale.kp (bd_is_scale T) (A_cons (E_ix (Q_var (vL 0)) (SE.b E_int)) A_nil)))) (Ss_one (S_raise rfl tk (pmk_own PySem.F.excBase_ValueError T.x_NotAllowed T.g_NotAllowed T.kk_NotAllowed (raises_own T.b_NotAllowed T.t_NotAllowed) rfl) T.g_NotAllowed)) Ss_nil) (Ss_cons (S_expr (E_call tk (by exact ok_check_paper T) (by exact hr.mono (by decide)) rfl T.g_check_paper T.F_check_paper.kp (bd_check_paper T) (A_cons (E_ix (Q_var (vL 0)) (SE.b E_int)) A_nil))) (Ss_one (S_if (SW.t (W_and (T_cmp (o_eq (by exact Room.units hr)) (B_var (vL 1)) (SE.b E_str) (nomark _)) (W_and1 (T_not (T_chain (SE.b E_int) (C_cons o_le (SE.b (E_ix (Q_var (vL 0)) (SE.b E_int))) (C_last o_le (SE.b (E_glob rfl T.g_MAX_DAY T.q_MAX_DAY T.r_MAX_DAY))))))))) (Ss_one (S_raise rfl tk (pmk_own PySem.F.excBase_ValueError T.x_NotAllowed T.g_NotAllowed T.kk_NotAllowed (raises_own T.b_NotAllowed T.t_NotAllowed) rfl) T.g_NotAllowed)) Ss_nil))))))))) (Ss_one (S_if (T_not (T_val (E_blt (c_all rfl) rfl T.z_all (by decide +kernel) (AB_cons (SE.b (E_lc (own := [("part", 2)]) rfl nd (It_Q (SE.q (E_call tk (by exact ok_ratios_of T) (by exact hr.mono (by decide)) rfl T.g_ratios_of T.F_ratios_of.kp (bd_ratios_of T) (A_cons (E_var (vL 0)) A_nil)))) (blkOk_by (N := ["entry", "kind", "part"]) (sc := defScope s_check_entry) (by decide +kernel)) (fun _ _ _ _ _ => ⟨_, (G_name (pg_name (i := 2) nd rfl (.inl rfl)))⟩) (fun _ _ _ _ _ => ⟨_, P_nil⟩) (fun _ _ _ _ _ => ⟨_, (E_call takes0 (by exact ok_is_short T) (by exact hr.mono (by decide)) rfl T.g_is_short T.F_is_short.kp (bd_is_short T) (A_cons (E_var (vL 2)) A_nil))⟩))) AB_nil)))) (Ss_one (S_raise rfl tk (pmk_own PySem.F.excBase_ValueError T.x_NotAllowed T.g_NotAllowed T.kk_NotAllowed (raises_own T.b_NotAllowed T.t_NotAllowed) rfl) T.g_NotAllowed)) Ss_nil)))))⟩) fun _ _ _ => rfl
theorem ok_law_numbers (T : T w K mg) : FnOk P w K mg base (L2.CX P w) 1 T.a_law_numbers T.d_law_numbers ["script", "many"] (spM K mg 2 m_law_numbers) := by
  have nd := sc_law_numbers.nd
  exact fnL T.F_law_numbers sc_law_numbers (n := 9) rfl rfl (fun cdv A outer s H E hr tk hp => ⟨_, (Ss_cons (S_setp (i := 2) nd rfl (.inl rfl) (E_lst A_nil)) (Ss_cons (S_for hp rfl (It_r1 rfl T.z_range (SE.b (E_blt c_len rfl T.z_len (by decide +kernel) (AB_cons (B_var (vL 0)) AB_nil)))) (G_name (pg_name (i := 3) nd rfl (.inl rfl))) (Ss_cons (S_setp (i := 4) nd rfl (.inl rfl) (E_blt c_abs rfl T.z_abs (by decide +kernel) (AB_cons (SE.b (E_bty c_int rfl T.z_int (by decide +kernel) (AB_cons (SE.b (E_ix (Q_var (vL 0)) (B_var (vL 3)))) AB_nil))) AB_nil))) (Ss_one (S_if (T_cmp o_ge (B_var (vL 4)) (SE.b (E_op o_pow (SE.b E_int) (SE.b E_int))) (nomark _)) (Ss_one (S_for hp rfl (It_r1 rfl T.z_range (SE.b E_int)) (G_name (pg_name (i := 5) nd rfl (.inl rfl))) (Ss_one (S_if (SW.t (W_and (T_cmp o_gt (B_var (vL 4)) (SE.b E_int) (nomark _)) (W_and1 (T_cmp o_lt (SE.b (E_blt c_len rfl T.z_len (by decide +kernel) (AB_cons (B_var (vL 2)) AB_nil))) (B_var (vL 1)) (nomark _))))) (Ss_cons (S_app (vL 2) (E_op o_mod (B_var (vL 4)) (SE.b E_int))) (Ss_one (S_setp (i := 4) nd rfl (.inl rfl) (E_op o_div (B_var (vL 4)) (SE.b E_int))))) Ss_nil)))) (Ss_one (S_if (T_cmp o_lt (SE.b (E_blt c_len rfl T.z_len (by decide +kernel) (AB_cons (B_var (vL 2)) AB_nil))) (B_var (vL 1)) (nomark _)) (Ss_cons (S_setp (i := 6) nd rfl (.inl rfl) (E_op o_mod (SE.b (E_bty c_int rfl T.z_int (by decide +kernel) (AB_cons (SE.b (E_add (SE.q (E_add (SE.q (E_mul (Q_var (vL 4)) (SE.q E_int))) (SE.q (E_mul (Q_var (vL 3)) (SE.q E_int))))) (SE.q E_int))) AB_nil))) (SE.b E_int))) (Ss_one (S_app (vL 2) (E_op o_div (SE.b (E_op o_mod (SE.b (E_bty c_int rfl T.z_int (by decide +kernel) (AB_cons (SE.b (E_add (SE.q (E_add (SE.q (E_mul (Q_var (vL 6)) (SE.q E_int))) (SE.q (E_mul (SE.q E_int) (Q_var (vL 3)))))) (SE.q E_int))) AB_nil))) (SE.b E_int))) (SE.b E_int))))) Ss_nil)))))) (Ss_cons (S_setp (i := 7) nd rfl (.inl rfl) (E_blt c_len rfl T.z_len (by decide +kernel) (AB_cons (B_var (vL 2)) AB_nil))) (Ss_cons (S_setp (i := 8) nd rfl (.inl rfl) (E_add (SE.q E_int) (SE.q (E_blt c_len rfl T.z_len (by decide +kernel) (AB_cons (B_var (vL 0)) AB_nil))))) (Ss_cons (S_for hp rfl (It_r1 rfl T.z_range (SE.b (E_blt (c_max2 rfl) rfl T.z_max (by decide +kernel) (AB_cons (SE.b E_int) (AB_cons (SE.b (E_op o_sub (B_var (vL 1)) (B_var (vL 7)))) AB_nil))))) (G_name (pg_name (i := 3) nd rfl (.inl rfl))) (Ss_cons (S_if (T_cmp o_gt (B_var (vL 7)) (SE.b E_int) (nomark _)) (Ss_one (S_setp (i := 8) nd rfl (.inl rfl) (E_add (Q_var (vL 8)) (SE.q (E_ix (Q_var (vL 2)) (SE.b (E_op o_mod (B_var (vL 3)) (B_var (vL 7))))))))) Ss_nil) (Ss_cons (S_setp (i := 8) nd rfl (.inl rfl) (E_op o_mod (SE.b (E_bty c_int rfl T.z_int (by decide +kernel) (AB_cons (SE.b (E_add (SE.q (E_mul (Q_var (vL 8)) (SE.q E_int))) (Q_var (vL 3)))) AB_nil))) (SE.b E_int))) (Ss_one (S_app (vL 2) (E_op o_div (B_var (vL 8)) (SE.b E_int))))))) (Ss_one (S_ret (E_sl (Q_var (vL 2)) O_none (O_some (B_var (vL 1)))))))))))⟩) fun _ _ _ => rfl
theorem ok_law_ratio (T : T w K mg) : FnOk P w K mg base (L2.CX P w) 1 T.a_law_ratio T.d_law_ratio ["n", "d"] (spM K mg 2 m_law_ratio) := by
  have nd := sc_law_ratio.nd
  exact fnL T.F_law_ratio sc_law_ratio (n := 6) rfl rfl (fun cdv A outer s H E hr tk hp => ⟨_, (Ss_cons (S_setp (i := 2) nd rfl (.inl rfl) (E_blt c_abs rfl T.z_abs (by decide +kernel) (AB_cons (B_var (vL 0)) AB_nil))) (Ss_cons (S_setp (i := 3) nd rfl (.inl rfl) (E_blt c_abs rfl T.z_abs (by decide +kernel) (AB_cons (B_var (vL 1)) AB_nil))) (Ss_cons (S_for hp rfl (It_r1 rfl T.z_range (SE.b E_int)) (G_name (pg_name (i := 4) nd rfl (.inl rfl))) (Ss_cons (S_if (T_cmp (o_eq (by exact Room.units hr)) (B_var (vL 3)) (SE.b E_int) (nomark _)) (Ss_one S_break) Ss_nil) (Ss_cons (S_setp (i := 5) nd rfl (.inl rfl) (E_op o_mod (SE.b (E_bty c_int rfl T.z_int (by decide +kernel) (AB_cons (B_var (vL 2)) AB_nil))) (B_var (vL 3)))) (Ss_cons (S_setp (i := 2) nd rfl (.inl rfl) (E_var (vL 3))) (Ss_one (S_setp (i := 3) nd rfl (.inl rfl) (E_var (vL 5)))))))) (Ss_one (S_ret (E_tup (A_cons (E_op o_div (B_var (vL 0)) (B_var (vL 2))) (A_cons (E_op o_div (B_var (vL 1)) (B_var (vL 2))) A_nil))))))))⟩) fun _ _ _ => rfl
theorem ok_law_paper (T : T w K mg) : FnOk P w K mg base (L2.CX P w) 2 T.a_law_paper T.d_law_paper ["numbers"] (spM K mg 1 m_law_paper) := by
  have nd := sc_law_paper.nd
  exact fnL T.F_law_paper sc_law_paper (n := 6) rfl rfl (fun cdv A outer s H E hr tk hp => ⟨_, (Ss_cons (S_setp (i := 1) nd rfl (.inl rfl) (E_op o_mod (SE.b (E_ix (Q_var (vL 0)) (SE.b E_int))) (SE.b E_int))) (Ss_cons (S_setp (i := 2) nd rfl (.inl rfl) (E_add (Q_var (vL 1)) (SE.q (E_op o_mod (SE.b (E_ix (Q_var (vL 0)) (SE.b E_int))) (SE.b (E_ix (SE.q (E_lst (A_cons E_int (A_cons E_int A_nil)))) (SE.b (E_bty c_int rfl T.z_int (by decide +kernel) (AB_cons (SE.b (E_cmp (o_eq (by exact Room.units hr)) (SE.b (E_op o_mod (SE.b (E_op o_div (SE.b (E_ix (Q_var (vL 0)) (SE.b E_int))) (SE.b E_int))) (SE.b E_int))) (SE.b E_int) (nomark _))) AB_nil))))))))) (Ss_cons (S_setp (i := 3) nd rfl (.inl rfl) (E_call tk (by exact ok_law_ratio T) (by exact hr.mono (by decide)) rfl T.g_law_ratio T.F_law_ratio.kp (bd_law_ratio T) (A_cons (E_op o_mod (SE.b (E_ix (Q_var (vL 0)) (SE.b E_int))) (SE.b E_int)) (A_cons (E_add (SE.q E_int) (SE.q (E_op o_mod (SE.b (E_op o_div (SE.b (E_ix (Q_var (vL 0)) (SE.b E_int))) (SE.b E_int))) (SE.b E_int)))) A_nil)))) (Ss_cons (S_setp (i := 4) nd rfl (.inl rfl) (E_call tk (by exact ok_law_ratio T) (by exact hr.mono (by decide)) rfl T.g_law_ratio T.F_law_ratio.kp (bd_law_ratio T) (A_cons (E_op o_mod (SE.b (E_ix (Q_var (vL 0)) (SE.b E_int))) (SE.b E_int)) (A_cons (E_add (SE.q E_int) (SE.q (E_op o_mod (SE.b (E_op o_div (SE.b (E_ix (Q_var (vL 0)) (SE.b E_int))) (SE.b E_int))) (SE.b E_int)))) A_nil)))) (Ss_cons (S_setp (i := 5) nd rfl (.inl rfl) (E_call tk (by exact ok_law_ratio T) (by exact hr.mono (by decide)) rfl T.g_law_ratio T.F_law_ratio.kp (bd_law_ratio T) (A_cons (E_op o_mod (SE.b (E_ix (Q_var (vL 0)) (SE.b E_int))) (SE.b E_int)) (A_cons (E_add (SE.q E_int) (SE.q (E_op o_mod (SE.b (E_op o_div (SE.b (E_ix (Q_var (vL 0)) (SE.b E_int))) (SE.b E_int))) (SE.b E_int)))) A_nil)))) (Ss_one (S_ret (E_tup (A_cons (E_var (vL 1)) (A_cons (E_blt (c_min2 rfl) rfl T.z_min (by decide +kernel) (AB_cons (SE.b E_int) (AB_cons (B_var (vL 2)) AB_nil))) (A_cons (E_var (vL 3)) (A_cons (E_var (vL 4)) (A_cons (E_var (vL 5)) (A_cons (E_op o_mod (SE.b (E_ix (Q_var (vL 0)) (SE.b E_int))) (SE.b (E_add (Q_var (vL 1)) (SE.q E_int)))) A_nil))))))))))))))⟩) fun _ _ _ => rfl
theorem ok_law_lots (T : T w K mg) : FnOk P w K mg base (L2.CX P w) 1 T.a_law_lots T.d_law_lots ["number"] (spM K mg 1 m_law_lots) := by
  have nd := sc_law_lots.nd
  exact fnL T.F_law_lots sc_law_lots (n := 3) rfl rfl (fun cdv A outer s H E hr tk hp => ⟨_, (Ss_cons (S_setp (i := 1) nd rfl (.inl rfl) (E_lst A_nil)) (Ss_cons (S_for hp rfl (It_r1 rfl T.z_range (SE.b (E_add (SE.q E_int) (SE.q (E_op o_mod (B_var (vL 0)) (SE.b E_int)))))) (G_name (pg_name (i := 2) nd rfl (.inl rfl))) (Ss_one (S_app (vL 1) (E_add (SE.q (E_add (SE.q (E_op o_mod (SE.b (E_op o_div (SE.b (E_op o_div (B_var (vL 0)) (SE.b E_int))) (SE.b (E_add (SE.q E_int) (SE.q (E_mul (SE.q E_int) (Q_var (vL 2)))))))) (SE.b E_int))) (SE.q (E_mul (SE.q E_int) (Q_var (vL 2)))))) (SE.q (E_mul (SE.q E_int) (SE.q (E_bty c_int rfl T.z_int (by decide +kernel) (AB_cons (SE.b (E_cmp (o_eq (by exact Room.units hr)) (B_var (vL 2)) (SE.b E_int) (nomark _))) AB_nil))))))))) (Ss_one (S_ret (E_bty1 c_tuple rfl T.z_tuple (by decide +kernel) (Q_var (vL 1)))))))⟩) fun _ _ _ => rfl
theorem ok_law_entry (T : T w K mg) : FnOk P w K mg base (L2.CX P w) 3 T.a_law_entry T.d_law_entry ["numbers"] (spM K mg 1 m_law_entry) := by
  have nd := sc_law_entry.nd
  exact fnL T.F_law_entry sc_law_entry (n := 3) rfl rfl (fun cdv A outer s H E hr tk hp => ⟨_, (Ss_cons (S_setp (i := 1) nd rfl (.inl rfl) (E_ix (SE.q (E_lst (A_cons E_str (A_cons E_str (A_cons E_str (A_cons E_str A_nil)))))) (SE.b (E_op o_mod (SE.b (E_op o_div (SE.b (E_ix (Q_var (vL 0)) (SE.b E_int))) (SE.b E_int))) (SE.b E_int))))) (Ss_cons (S_setp (i := 2) nd rfl (.inl rfl) (E_op o_mod (SE.b (E_ix (Q_var (vL 0)) (SE.b E_int))) (SE.b E_int))) (Ss_cons (S_if (T_cmp (o_eq (by exact Room.units hr)) (B_var (vL 2)) (SE.b E_int) (nomark _)) (Ss_one (S_ret (E_tup (A_cons E_str (A_cons (E_var (vL 1)) (A_cons (E_call tk (by exact ok_law_paper T) (by exact hr.mono (by decide)) rfl T.g_law_paper T.F_law_paper.kp (bd_law_paper T) (A_cons (E_sl (Q_var (vL 0)) (O_some (SE.b E_int)) O_none) A_nil)) A_nil)))))) Ss_nil) (Ss_cons (S_if (T_cmp (o_eq (by exact Room.units hr)) (B_var (vL 2)) (SE.b E_int) (nomark _)) (Ss_one (S_ret (E_tup (A_cons E_str (A_cons (E_var (vL 1)) (A_cons (E_call tk (by exact ok_law_paper T) (by exact hr.mono (by decide)) rfl T.g_law_paper T.F_law_paper.kp (bd_law_paper T) (A_cons (E_sl (Q_var (vL 0)) (O_some (SE.b E_int)) O_none) A_nil)) (A_cons (E_op o_mod (SE.b (E_ix (Q_var (vL 0)) (SE.b E_int))) (SE.b E_int)) A_nil))))))) Ss_nil) (Ss_cons (S_if (T_cmp (o_eq (by exact Room.units hr)) (B_var (vL 2)) (SE.b E_int) (nomark _)) (Ss_one (S_ret (E_tup (A_cons E_str (A_cons (E_var (vL 1)) (A_cons (E_op o_mod (SE.b (E_ix (Q_var (vL 0)) (SE.b E_int))) (SE.b E_int)) (A_cons (E_call tk (by exact ok_law_lots T) (by exact hr.mono (by decide)) rfl T.g_law_lots T.F_law_lots.kp (bd_law_lots T) (A_cons (E_ix (Q_var (vL 0)) (SE.b E_int)) A_nil)) (A_cons (E_call tk (by exact ok_law_ratio T) (by exact hr.mono (by decide)) rfl T.g_law_ratio T.F_law_ratio.kp (bd_law_ratio T) (A_cons (E_op o_mod (SE.b (E_ix (Q_var (vL 0)) (SE.b E_int))) (SE.b E_int)) (A_cons (E_add (SE.q E_int) (SE.q (E_op o_mod (SE.b (E_op o_div (SE.b (E_ix (Q_var (vL 0)) (SE.b E_int))) (SE.b E_int))) (SE.b E_int)))) A_nil))) A_nil)))))))) Ss_nil) (Ss_cons (S_if (T_cmp (o_eq (by exact Room.units hr)) (B_var (vL 2)) (SE.b E_int) (nomark _)) (Ss_one (S_ret (E_tup (A_cons E_str (A_cons (E_call tk (by exact ok_law_lots T) (by exact hr.mono (by decide)) rfl T.g_law_lots T.F_law_lots.kp (bd_law_lots T) (A_cons (E_ix (Q_var (vL 0)) (SE.b E_int)) A_nil)) (A_cons (E_call tk (by exact ok_law_ratio T) (by exact hr.mono (by decide)) rfl T.g_law_ratio T.F_law_ratio.kp (bd_law_ratio T) (A_cons (E_op o_mod (SE.b (E_ix (Q_var (vL 0)) (SE.b E_int))) (SE.b E_int)) (A_cons (E_add (SE.q E_int) (SE.q (E_op o_mod (SE.b (E_op o_div (SE.b (E_ix (Q_var (vL 0)) (SE.b E_int))) (SE.b E_int))) (SE.b E_int)))) A_nil))) A_nil)))))) Ss_nil) (Ss_one (S_ret (E_tup (A_cons E_str (A_cons (E_op o_mod (SE.b (E_ix (Q_var (vL 0)) (SE.b E_int))) (SE.b E_int)) (A_cons (E_cmp (o_eq (by exact Room.units hr)) (SE.b (E_op o_mod (SE.b (E_ix (Q_var (vL 0)) (SE.b E_int))) (SE.b E_int))) (SE.b E_int) (nomark _)) A_nil))))))))))))⟩) fun _ _ _ => rfl
theorem ok_law_refused (T : T w K mg) : FnOk P w K mg base (L2.CX P w) 6 T.a_law_refused T.d_law_refused ["entry"] (spM K mg 1 m_law_refused) := by
  have nd := sc_law_refused.nd
  exact fnL T.F_law_refused sc_law_refused (n := 2) rfl rfl (fun cdv A outer s H E hr tk hp => ⟨_, (Ss_cons (S_tryAs (i := 1) (cs := excs) (hit := fun cn => isub cn "KerbError") rfl rfl nd rfl rfl ⟨rfl, by decide, .inl T.g_KerbError⟩ tk (fun W pn xe tk hp => ⟨_, (Ss_one (S_expr (E_call tk (by exact ok_check_entry T) (by exact hr.mono (by decide)) rfl T.g_check_entry T.F_check_entry.kp (bd_check_entry T) (A_cons (E_var (vL 0)) A_nil))))⟩) (hit_of T.hit_KerbError) (fun a oe C cn pn hcn ef hz hd => ⟨_, (Ss_one (S_ret (E_and (E_isE ef hz hd (T.kit_NotAllowed cn hcn C ef.mg) T.g_NotAllowed (vL 1) rfl rfl T.z_isinstance) (E_one (E_not (E_isE ef hz hd (T.kit_BadForm cn hcn C ef.mg) T.g_BadForm (vL 1) rfl rfl T.z_isinstance))))))⟩)) (Ss_one (S_ret E_bl)))⟩) fun _ _ _ => rfl
theorem ok_law_great (T : T w K mg) : FnOk P w K mg base (L2.CX P w) 1 T.a_law_great T.d_law_great [] (spM K mg 0 m_law_great) := by
  have nd := sc_law_great.nd
  exact fnL T.F_law_great sc_law_great (n := 2) rfl rfl (fun cdv A outer s H E hr tk hp => ⟨_, (Ss_cons (S_setp (i := 0) nd rfl (.inl rfl) E_int) (Ss_cons (S_for hp rfl (It_r1 rfl T.z_range (SE.b E_int)) (G_name (pg_name (i := 1) nd rfl (.inl rfl))) (Ss_one (S_setp (i := 0) nd rfl (.inl rfl) (E_mul (Q_var (vL 0)) (SE.q (E_op o_pow (SE.b E_int) (SE.b E_int))))))) (Ss_one (S_ret (E_var (vL 0))))))⟩) fun _ _ _ => rfl
theorem ok_law_bad_paper (T : T w K mg) : FnOk P w K mg base (L2.CX P w) 2 T.a_law_bad_paper T.d_law_bad_paper ["paper", "number"] (spM K mg 2 m_law_bad_paper) := by
  have nd := sc_law_bad_paper.nd
  exact fnL T.F_law_bad_paper sc_law_bad_paper (n := 9) rfl rfl (fun cdv A outer s H E hr tk hp => ⟨_, (Ss_cons (S_asg (E_var (vL 0)) (G_tup rfl (Gs_cons (G_name (pg_name (i := 2) nd rfl (.inl rfl))) (Gs_cons (G_name (pg_name (i := 3) nd rfl (.inl rfl))) (Gs_cons (G_name (pg_name (i := 4) nd rfl (.inl rfl))) (Gs_cons (G_name (pg_name (i := 5) nd rfl (.inl rfl))) (Gs_cons (G_name (pg_name (i := 6) nd rfl (.inl rfl))) (Gs_cons (G_name (pg_name (i := 7) nd rfl (.inl rfl))) Gs_nil)))))))) (Ss_cons (S_setp (i := 8) nd rfl (.inl rfl) (E_lst (A_cons (E_tup (A_cons (E_add (Q_var (vL 3)) (SE.q E_int)) (A_cons (E_var (vL 3)) (A_cons (E_var (vL 4)) (A_cons (E_var (vL 5)) (A_cons (E_var (vL 6)) (A_cons (E_var (vL 7)) A_nil))))))) (A_cons (E_tup (A_cons (E_var (vL 2)) (A_cons E_int (A_cons (E_var (vL 4)) (A_cons (E_var (vL 5)) (A_cons (E_var (vL 6)) (A_cons (E_var (vL 7)) A_nil))))))) (A_cons (E_tup (A_cons (E_neg (SE.b E_int)) (A_cons (E_var (vL 3)) (A_cons (E_var (vL 4)) (A_cons (E_var (vL 5)) (A_cons (E_var (vL 6)) (A_cons E_int A_nil))))))) A_nil))))) (Ss_cons (S_setp (i := 8) nd rfl (.inl rfl) (E_add (Q_var (vL 8)) (SE.q (E_lst (A_cons (E_tup (A_cons (E_var (vL 2)) (A_cons (E_var (vL 3)) (A_cons (E_var (vL 4)) (A_cons (E_var (vL 5)) (A_cons (E_var (vL 6)) (A_cons (E_add (Q_var (vL 2)) (SE.q E_int)) A_nil))))))) (A_cons (E_tup (A_cons (E_var (vL 2)) (A_cons (E_var (vL 3)) (A_cons (E_var (vL 4)) (A_cons (E_var (vL 5)) (A_cons (E_var (vL 6)) (A_cons (E_neg (SE.b E_int)) A_nil))))))) A_nil)))))) (Ss_cons (S_setp (i := 8) nd rfl (.inl rfl) (E_add (Q_var (vL 8)) (SE.q (E_lst (A_cons (E_tup (A_cons (E_var (vL 2)) (A_cons (E_var (vL 3)) (A_cons (E_tup (A_cons (E_neg (SE.b E_int)) (A_cons E_int A_nil))) (A_cons (E_var (vL 5)) (A_cons (E_var (vL 6)) (A_cons (E_var (vL 7)) A_nil))))))) (A_cons (E_tup (A_cons (E_var (vL 2)) (A_cons (E_var (vL 3)) (A_cons (E_var (vL 4)) (A_cons (E_tup (A_cons (E_neg (SE.b E_int)) (A_cons E_int A_nil))) (A_cons (E_var (vL 6)) (A_cons (E_var (vL 7)) A_nil))))))) A_nil)))))) (Ss_cons (S_setp (i := 8) nd rfl (.inl rfl) (E_add (Q_var (vL 8)) (SE.q (E_lst (A_cons (E_tup (A_cons (E_var (vL 2)) (A_cons (E_var (vL 3)) (A_cons (E_var (vL 4)) (A_cons (E_tup (A_cons E_int (A_cons E_int A_nil))) (A_cons (E_var (vL 6)) (A_cons (E_var (vL 7)) A_nil))))))) (A_cons (E_tup (A_cons (E_var (vL 2)) (A_cons (E_var (vL 3)) (A_cons (E_var (vL 4)) (A_cons (E_tup (A_cons E_int (A_cons E_int A_nil))) (A_cons (E_var (vL 6)) (A_cons (E_var (vL 7)) A_nil))))))) A_nil)))))) (Ss_cons (S_setp (i := 8) nd rfl (.inl rfl) (E_add (Q_var (vL 8)) (SE.q (E_lst (A_cons (E_tup (A_cons (E_var (vL 2)) (A_cons (E_var (vL 3)) (A_cons (E_var (vL 4)) (A_cons (E_var (vL 5)) (A_cons (E_tup (A_cons (E_neg (SE.b E_int)) (A_cons E_int A_nil))) (A_cons (E_var (vL 7)) A_nil))))))) (A_cons (E_tup (A_cons (E_var (vL 2)) (A_cons (E_var (vL 3)) (A_cons (E_tup (A_cons (E_call0 tk (by exact ok_law_great T) (by exact hr.mono (by decide)) rfl T.g_law_great T.F_law_great.kp (bd_law_great T)) (A_cons E_int A_nil))) (A_cons (E_var (vL 5)) (A_cons (E_var (vL 6)) (A_cons (E_var (vL 7)) A_nil))))))) A_nil)))))) (Ss_one (S_ret (E_ix (Q_var (vL 8)) (SE.b (E_op o_mod (B_var (vL 1)) (SE.b (E_blt c_len rfl T.z_len (by decide +kernel) (AB_cons (B_var (vL 8)) AB_nil))))))))))))))⟩) fun _ _ _ => rfl
theorem ok_law_bad_lots (T : T w K mg) : FnOk P w K mg base (L2.CX P w) 1 T.a_law_bad_lots T.d_law_bad_lots ["lots", "number"] (spM K mg 2 m_law_bad_lots) := by
  have nd := sc_law_bad_lots.nd
  exact fnL T.F_law_bad_lots sc_law_bad_lots (n := 3) rfl rfl (fun cdv A outer s H E hr tk hp => ⟨_, (Ss_cons (S_setp (i := 2) nd rfl (.inl rfl) (E_lst (A_cons (E_tup A_nil) (A_cons (E_add (Q_var (vL 0)) (SE.q (E_sl (Q_var (vL 0)) (O_some (SE.b (E_neg (SE.b E_int)))) O_none))) (A_cons (E_add (Q_var (vL 0)) (SE.q (E_tup (A_cons (E_op o_sub (SE.b (E_ix (Q_var (vL 0)) (SE.b (E_neg (SE.b E_int))))) (SE.b E_int)) A_nil)))) (A_cons (E_add (SE.q (E_tup (A_cons (E_neg (SE.b E_int)) A_nil))) (Q_var (vL 0))) (A_cons (E_add (SE.q (E_sl (Q_var (vL 0)) O_none (O_some (SE.b E_int)))) (SE.q (E_tup (A_cons E_int A_nil)))) (A_cons (E_tup (A_cons E_int (A_cons E_int (A_cons E_int (A_cons E_int (A_cons E_int (A_cons E_int (A_cons E_int (A_cons E_int (A_cons E_int A_nil)))))))))) A_nil)))))))) (Ss_one (S_ret (E_ix (Q_var (vL 2)) (SE.b (E_op o_mod (B_var (vL 1)) (SE.b (E_blt c_len rfl T.z_len (by decide +kernel) (AB_cons (B_var (vL 2)) AB_nil)))))))))⟩) fun _ _ _ => rfl
theorem ok_law_bad (T : T w K mg) : FnOk P w K mg base (L2.CX P w) 3 T.a_law_bad T.d_law_bad ["entry", "numbers"] (spM K mg 2 m_law_bad) := by
  have nd := sc_law_bad.nd
  exact fnL T.F_law_bad sc_law_bad (n := 4) rfl rfl (fun cdv A outer s H E hr tk hp => ⟨_, (Ss_cons (S_setp (i := 2) nd rfl (.inl rfl) (E_ix (Q_var (vL 0)) (SE.b E_int))) (Ss_cons (S_setp (i := 3) nd rfl (.inl rfl) (E_lst (A_cons (E_add (Q_var (vL 0)) (SE.q (E_tup (A_cons E_int A_nil)))) (A_cons (E_sl (Q_var (vL 0)) O_none (O_some (SE.b (E_neg (SE.b E_int))))) (A_cons (E_add (SE.q (E_tup (A_cons (E_ix (SE.q (E_lst (A_cons E_str (A_cons E_str (A_cons E_str (A_cons E_str A_nil)))))) (SE.b (E_op o_mod (SE.b (E_ix (Q_var (vL 1)) (SE.b E_int))) (SE.b E_int)))) A_nil))) (SE.q (E_sl (Q_var (vL 0)) (O_some (SE.b E_int)) O_none))) A_nil))))) (Ss_cons (S_if (T_cmp (o_in (by exact units65 hr)) (B_var (vL 2)) (SE.b (E_lst (A_cons E_str (A_cons E_str A_nil)))) (by with_unfolding_all rfl)) (Ss_cons (S_app (vL 3) (E_add (SE.q (E_tup (A_cons (E_var (vL 2)) (A_cons (E_ix (Q_var (vL 0)) (SE.b E_int)) (A_cons (E_call tk (by exact ok_law_bad_paper T) (by exact hr.mono (by decide)) rfl T.g_law_bad_paper T.F_law_bad_paper.kp (bd_law_bad_paper T) (A_cons (E_ix (Q_var (vL 0)) (SE.b E_int)) (A_cons (E_ix (Q_var (vL 1)) (SE.b E_int)) A_nil))) A_nil))))) (SE.q (E_sl (Q_var (vL 0)) (O_some (SE.b E_int)) O_none)))) (Ss_one (S_app (vL 3) (E_add (SE.q (E_tup (A_cons (E_var (vL 2)) (A_cons (E_ix (SE.q (E_lst (A_cons E_str (A_cons E_str (A_cons E_str (A_cons E_str (A_cons E_str A_nil))))))) (SE.b (E_op o_mod (SE.b (E_ix (Q_var (vL 1)) (SE.b E_int))) (SE.b E_int)))) A_nil)))) (SE.q (E_sl (Q_var (vL 0)) (O_some (SE.b E_int)) O_none)))))) Ss_nil) (Ss_cons (S_if (T_cmp (o_eq (by exact Room.units hr)) (B_var (vL 2)) (SE.b E_str) (nomark _)) (Ss_one (S_app (vL 3) (E_add (SE.q (E_sl (Q_var (vL 0)) O_none (O_some (SE.b E_int)))) (SE.q (E_tup (A_cons (E_ix (SE.q (E_lst (A_cons (E_neg (SE.b E_int)) (A_cons E_int A_nil)))) (SE.b (E_op o_mod (SE.b (E_ix (Q_var (vL 1)) (SE.b E_int))) (SE.b E_int)))) A_nil)))))) Ss_nil) (Ss_cons (S_if (T_cmp (o_eq (by exact Room.units hr)) (B_var (vL 2)) (SE.b E_str) (nomark _)) (Ss_cons (S_setp (i := 3) nd rfl (.inl rfl) (E_add (Q_var (vL 3)) (SE.q (E_lst (A_cons (E_add (SE.q (E_tup (A_cons (E_var (vL 2)) (A_cons (E_ix (SE.q (E_lst (A_cons E_str (A_cons E_str (A_cons E_str A_nil))))) (SE.b (E_op o_mod (SE.b (E_ix (Q_var (vL 1)) (SE.b E_int))) (SE.b E_int)))) A_nil)))) (SE.q (E_sl (Q_var (vL 0)) (O_some (SE.b E_int)) O_none))) (A_cons (E_add (SE.q (E_add (SE.q (E_sl (Q_var (vL 0)) O_none (O_some (SE.b E_int)))) (SE.q (E_tup (A_cons (E_ix (SE.q (E_lst (A_cons (E_neg (SE.b E_int)) (A_cons E_int A_nil)))) (SE.b (E_op o_mod (SE.b (E_ix (Q_var (vL 1)) (SE.b E_int))) (SE.b E_int)))) A_nil))))) (SE.q (E_sl (Q_var (vL 0)) (O_some (SE.b E_int)) O_none))) A_nil)))))) (Ss_one (S_setp (i := 3) nd rfl (.inl rfl) (E_add (Q_var (vL 3)) (SE.q (E_lst (A_cons (E_add (SE.q (E_add (SE.q (E_sl (Q_var (vL 0)) O_none (O_some (SE.b E_int)))) (SE.q (E_tup (A_cons (E_call tk (by exact ok_law_bad_lots T) (by exact hr.mono (by decide)) rfl T.g_law_bad_lots T.F_law_bad_lots.kp (bd_law_bad_lots T) (A_cons (E_ix (Q_var (vL 0)) (SE.b E_int)) (A_cons (E_ix (Q_var (vL 1)) (SE.b E_int)) A_nil))) A_nil))))) (SE.q (E_sl (Q_var (vL 0)) (O_some (SE.b E_int)) O_none))) (A_cons (E_add (SE.q (E_sl (Q_var (vL 0)) O_none (O_some (SE.b E_int)))) (SE.q (E_tup (A_cons (E_tup (A_cons (E_neg (SE.b E_int)) (A_cons E_int A_nil))) A_nil)))) A_nil)))))))) Ss_nil) (Ss_cons (S_if (T_cmp (o_eq (by exact Room.units hr)) (B_var (vL 2)) (SE.b E_str) (nomark _)) (Ss_cons (S_setp (i := 3) nd rfl (.inl rfl) (E_add (Q_var (vL 3)) (SE.q (E_lst (A_cons (E_tup (A_cons (E_var (vL 2)) (A_cons (E_ix (Q_var (vL 0)) (SE.b E_int)) (A_cons (E_tup (A_cons (E_call0 tk (by exact ok_law_great T) (by exact hr.mono (by decide)) rfl T.g_law_great T.F_law_great.kp (bd_law_great T)) (A_cons E_int A_nil))) A_nil)))) (A_cons (E_tup (A_cons (E_var (vL 2)) (A_cons (E_ix (Q_var (vL 0)) (SE.b E_int)) (A_cons (E_tup (A_cons E_int (A_cons (E_call0 tk (by exact ok_law_great T) (by exact hr.mono (by decide)) rfl T.g_law_great T.F_law_great.kp (bd_law_great T)) A_nil))) A_nil)))) (A_cons (E_tup (A_cons (E_var (vL 2)) (A_cons (E_ix (Q_var (vL 0)) (SE.b E_int)) (A_cons (E_tup (A_cons (E_op o_pow (SE.b E_int) (SE.b E_int)) (A_cons E_int A_nil))) A_nil)))) A_nil))))))) (Ss_one (S_setp (i := 3) nd rfl (.inl rfl) (E_add (Q_var (vL 3)) (SE.q (E_lst (A_cons (E_tup (A_cons (E_var (vL 2)) (A_cons (E_call tk (by exact ok_law_bad_lots T) (by exact hr.mono (by decide)) rfl T.g_law_bad_lots T.F_law_bad_lots.kp (bd_law_bad_lots T) (A_cons (E_ix (Q_var (vL 0)) (SE.b E_int)) (A_cons (E_ix (Q_var (vL 1)) (SE.b E_int)) A_nil))) (A_cons (E_ix (Q_var (vL 0)) (SE.b E_int)) A_nil)))) (A_cons (E_tup (A_cons (E_var (vL 2)) (A_cons (E_ix (Q_var (vL 0)) (SE.b E_int)) (A_cons (E_tup (A_cons (E_neg (SE.b E_int)) (A_cons E_int A_nil))) A_nil)))) A_nil)))))))) Ss_nil) (Ss_cons (S_if (T_cmp (o_eq (by exact Room.units hr)) (B_var (vL 2)) (SE.b E_str) (nomark _)) (Ss_one (S_setp (i := 3) nd rfl (.inl rfl) (E_add (Q_var (vL 3)) (SE.q (E_lst (A_cons (E_tup (A_cons (E_var (vL 2)) (A_cons (E_neg (SE.b E_int)) (A_cons (E_ix (Q_var (vL 0)) (SE.b E_int)) A_nil)))) (A_cons (E_tup (A_cons (E_var (vL 2)) (A_cons E_int (A_cons (E_ix (Q_var (vL 0)) (SE.b E_int)) A_nil)))) A_nil))))))) Ss_nil) (Ss_one (S_retO (vL 3))))))))))⟩) fun _ _ _ => rfl
theorem ok_law (T : T w K mg) : FnOk P w K mg base (L2.CX P w) 7 T.a_law T.d_law ["script"] (spM K mg 1 m_law) := by
  have nd := sc_law.nd
  exact fnL T.F_law sc_law (n := 7) rfl rfl (fun cdv A outer s H E hr tk hp => ⟨_, (Ss_cons (S_setp (i := 1) nd rfl (.inl rfl) (E_call tk (by exact ok_law_numbers T) (by exact hr.mono (by decide)) rfl T.g_law_numbers T.F_law_numbers.kp (bd_law_numbers T) (A_cons (E_var (vL 0)) (A_cons E_int A_nil)))) (Ss_cons (S_for hp rfl (It_r1 rfl T.z_range (SE.b E_int)) (G_name (pg_name (i := 2) nd rfl (.inl rfl))) (Ss_cons (S_setp (i := 3) nd rfl (.inl rfl) (E_call tk (by exact ok_law_entry T) (by exact hr.mono (by decide)) rfl T.g_law_entry T.F_law_entry.kp (bd_law_entry T) (A_cons (E_sl (Q_var (vL 1)) (O_some (SE.b (E_mul (SE.q E_int) (Q_var (vL 2))))) (O_some (SE.b (E_add (SE.q (E_mul (SE.q E_int) (Q_var (vL 2)))) (SE.q E_int))))) A_nil))) (Ss_cons (S_if (T_cmp o_isnot (SE.b (E_call tk (by exact ok_check_entry T) (by exact hr.mono (by decide)) rfl T.g_check_entry T.F_check_entry.kp (bd_check_entry T) (A_cons (E_var (vL 3)) A_nil))) (SE.b E_non) (nomark _)) (Ss_one (S_ret E_bl)) Ss_nil) (Ss_one (S_for hp rfl (It_P (E_call tk (by exact ok_law_bad T) (by exact hr.mono (by decide)) rfl T.g_law_bad T.F_law_bad.kp (bd_law_bad T) (A_cons (E_var (vL 3)) (A_cons (E_sl (Q_var (vL 1)) (O_some (SE.b (E_add (SE.q E_int) (SE.q (E_mul (SE.q E_int) (Q_var (vL 2))))))) O_none) A_nil)))) (G_name (pg_name (i := 4) nd rfl (.inl rfl))) (Ss_one (S_if (T_not (T_val (E_call tk (by exact ok_law_refused T) (by exact hr.mono (by decide)) rfl T.g_law_refused T.F_law_refused.kp (bd_law_refused T) (A_cons (E_var (vL 4)) A_nil)))) (Ss_one (S_ret E_bl)) Ss_nil))))))) (Ss_cons (S_setp (i := 5) nd rfl (.inl rfl) (E_tup (A_cons E_str (A_cons (E_tup (A_cons E_int (A_cons E_int (A_cons E_int (A_cons E_int (A_cons E_int (A_cons E_int (A_cons E_int (A_cons E_int A_nil))))))))) (A_cons (E_tup (A_cons E_int (A_cons E_int A_nil))) A_nil))))) (Ss_cons (S_setp (i := 6) nd rfl (.inl rfl) (E_tup (A_cons E_str (A_cons E_str (A_cons E_int (A_cons (E_tup (A_cons E_int A_nil)) (A_cons (E_tup (A_cons (E_op o_pow (SE.b E_int) (SE.b E_int)) (A_cons E_int A_nil))) A_nil))))))) (Ss_cons (S_if (SW.t (W_or (T_cmp o_isnot (SE.b (E_call tk (by exact ok_check_entry T) (by exact hr.mono (by decide)) rfl T.g_check_entry T.F_check_entry.kp (bd_check_entry T) (A_cons (E_var (vL 6)) A_nil))) (SE.b E_non) (nomark _)) (W_or1 (T_not (T_val (E_call tk (by exact ok_law_refused T) (by exact hr.mono (by decide)) rfl T.g_law_refused T.F_law_refused.kp (bd_law_refused T) (A_cons (E_add (SE.q (E_sl (Q_var (vL 6)) O_none (O_some (SE.b E_int)))) (SE.q (E_tup (A_cons (E_tup (A_cons (E_op o_pow (SE.b E_int) (SE.b E_int)) (A_cons E_int A_nil))) A_nil)))) A_nil))))))) (Ss_one (S_ret E_bl)) Ss_nil) (Ss_one (S_ret (E_and (E_cmp o_is (SE.b (E_call tk (by exact ok_check_entry T) (by exact hr.mono (by decide)) rfl T.g_check_entry T.F_check_entry.kp (bd_check_entry T) (A_cons (E_var (vL 5)) A_nil))) (SE.b E_non) (nomark _)) (E_one (E_cmp (o_eq (by exact Room.units hr)) (SE.b (E_glob rfl T.g_KINDS T.q_KINDS T.r_KINDS)) (SE.b (E_tup (A_cons E_str (A_cons E_str (A_cons E_str (A_cons E_str (A_cons E_str A_nil))))))) (nomark _)))))))))))⟩) fun _ _ _ => rfl
end
end K60

set_option Elab.async false
set_option linter.all false
set_option autoImplicit false
set_option maxRecDepth 100000
set_option maxHeartbeats 4000000
namespace K60
open PySem PySem.Spec PyProof.Rows L2 Lt He
theorem all_mk {P : Program} {w : World} {K : PySem.W.Frag} {h : Heap} {mg : Str → Option Value} {fa : Addr} (X : K.In h) (G : h.Ns mainGlobals mg) (hfa : mg "law" = some (.ref fa))
    {f0 : Addr} {od0 an0 : Option Addr} {sl0 : Array (Option Value)} {oc0 kV0 dc0 pm0 cd0 ct0 : Value}
    {f1 : Addr} {od1 an1 : Option Addr} {sl1 : Array (Option Value)} {oc1 kV1 dc1 pm1 cd1 ct1 : Value}
    {f2 : Addr} {od2 an2 : Option Addr} {sl2 : Array (Option Value)} {oc2 kV2 dc2 pm2 cd2 ct2 : Value}
    {f3 : Addr} {od3 an3 : Option Addr} {sl3 : Array (Option Value)} {oc3 kV3 dc3 pm3 cd3 ct3 : Value}
    {f4 : Addr} {od4 an4 : Option Addr} {sl4 : Array (Option Value)} {oc4 kV4 dc4 pm4 cd4 ct4 : Value}
    {f5 : Addr} {od5 an5 : Option Addr} {sl5 : Array (Option Value)} {oc5 kV5 dc5 pm5 cd5 ct5 : Value}
    {f6 : Addr} {od6 an6 : Option Addr} {sl6 : Array (Option Value)} {oc6 kV6 dc6 pm6 cd6 ct6 : Value}
    {f7 : Addr} {od7 an7 : Option Addr} {sl7 : Array (Option Value)} {oc7 kV7 dc7 pm7 cd7 ct7 : Value}
    {f8 : Addr} {od8 an8 : Option Addr} {sl8 : Array (Option Value)} {oc8 kV8 dc8 pm8 cd8 ct8 : Value}
    {f9 : Addr} {od9 an9 : Option Addr} {sl9 : Array (Option Value)} {oc9 kV9 dc9 pm9 cd9 ct9 : Value}
    {f10 : Addr} {od10 an10 : Option Addr} {sl10 : Array (Option Value)} {oc10 kV10 dc10 pm10 cd10 ct10 : Value}
    {f11 : Addr} {od11 an11 : Option Addr} {sl11 : Array (Option Value)} {oc11 kV11 dc11 pm11 cd11 ct11 : Value}
    {f12 : Addr} {od12 an12 : Option Addr} {sl12 : Array (Option Value)} {oc12 kV12 dc12 pm12 cd12 ct12 : Value}
    {f13 : Addr} {od13 an13 : Option Addr} {sl13 : Array (Option Value)} {oc13 kV13 dc13 pm13 cd13 ct13 : Value}
    {f14 : Addr} {od14 an14 : Option Addr} {sl14 : Array (Option Value)} {oc14 kV14 dc14 pm14 cd14 ct14 : Value}
    {f15 : Addr} {od15 an15 : Option Addr} {sl15 : Array (Option Value)} {oc15 kV15 dc15 pm15 cd15 ct15 : Value}
    {f16 : Addr} {od16 an16 : Option Addr} {sl16 : Array (Option Value)} {oc16 kV16 dc16 pm16 cd16 ct16 : Value}
    {f17 : Addr} {od17 an17 : Option Addr} {sl17 : Array (Option Value)} {oc17 kV17 dc17 pm17 cd17 ct17 : Value}
    {f18 : Addr} {od18 an18 : Option Addr} {sl18 : Array (Option Value)} {oc18 kV18 dc18 pm18 cd18 ct18 : Value}
    {f19 : Addr} {od19 an19 : Option Addr} {sl19 : Array (Option Value)} {oc19 kV19 dc19 pm19 cd19 ct19 : Value}
    {f20 : Addr} {od20 an20 : Option Addr} {sl20 : Array (Option Value)} {oc20 kV20 dc20 pm20 cd20 ct20 : Value}
    {f21 : Addr} {od21 an21 : Option Addr} {sl21 : Array (Option Value)} {oc21 kV21 dc21 pm21 cd21 ct21 : Value}
    {f22 : Addr} {od22 an22 : Option Addr} {sl22 : Array (Option Value)} {oc22 kV22 dc22 pm22 cd22 ct22 : Value}
    {f23 : Addr} {od23 an23 : Option Addr} {sl23 : Array (Option Value)} {oc23 kV23 dc23 pm23 cd23 ct23 : Value}
    {f24 : Addr} {od24 an24 : Option Addr} {sl24 : Array (Option Value)} {oc24 kV24 dc24 pm24 cd24 ct24 : Value}
    {f25 : Addr} {od25 an25 : Option Addr} {sl25 : Array (Option Value)} {oc25 kV25 dc25 pm25 cd25 ct25 : Value}
    {f26 : Addr} {od26 an26 : Option Addr} {sl26 : Array (Option Value)} {oc26 kV26 dc26 pm26 cd26 ct26 : Value}
    {f27 : Addr} {od27 an27 : Option Addr} {sl27 : Array (Option Value)} {oc27 kV27 dc27 pm27 cd27 ct27 : Value}
    {u0 : Value}
    {u1 : Value}
    {u2 : Value}
    {u3 : Value}
    {u4 : Value}
    {u5 : Value}
    {u6 : Value}
    {u7 : Value}
    {p8 : Addr}
    {u9 : Value}
    {u10 : Value}
    {u11 : Value}
    {C0 : Addr}
    {C1 : Addr}
    {C2 : Addr}
    (main : ∀ ns : List Int, ns.length ≤ 63 → m_law [.rol (ns.map D.int)] = .ok (.fr (.bl true)))
    (a0 : PySem.W.nsIn K mainGlobals "common" = some (some (.ref f0)))
    (l0 : K.lookup f0 = some ⟨oc0, od0, .func (PySem.W.fnOf "common" "common" (defArgs s_common) (defBody s_common) (defScope s_common) .none kV0 dc0 pm0 an0 cd0 ct0), sl0⟩)
    (c0 : PySem.W.codeIn K cd0 "common" = true)
    (k0 : PySem.W.keepIn K (.ref f0) = true)
    (a1 : PySem.W.nsIn K mainGlobals "is_ratio" = some (some (.ref f1)))
    (l1 : K.lookup f1 = some ⟨oc1, od1, .func (PySem.W.fnOf "is_ratio" "is_ratio" (defArgs s_is_ratio) (defBody s_is_ratio) (defScope s_is_ratio) .none kV1 dc1 pm1 an1 cd1 ct1), sl1⟩)
    (c1 : PySem.W.codeIn K cd1 "is_ratio" = true)
    (k1 : PySem.W.keepIn K (.ref f1) = true)
    (a2 : PySem.W.nsIn K mainGlobals "sign_of" = some (some (.ref f2)))
    (l2 : K.lookup f2 = some ⟨oc2, od2, .func (PySem.W.fnOf "sign_of" "sign_of" (defArgs s_sign_of) (defBody s_sign_of) (defScope s_sign_of) .none kV2 dc2 pm2 an2 cd2 ct2), sl2⟩)
    (c2 : PySem.W.codeIn K cd2 "sign_of" = true)
    (k2 : PySem.W.keepIn K (.ref f2) = true)
    (a3 : PySem.W.nsIn K mainGlobals "compare" = some (some (.ref f3)))
    (l3 : K.lookup f3 = some ⟨oc3, od3, .func (PySem.W.fnOf "compare" "compare" (defArgs s_compare) (defBody s_compare) (defScope s_compare) .none kV3 dc3 pm3 an3 cd3 ct3), sl3⟩)
    (c3 : PySem.W.codeIn K cd3 "compare" = true)
    (k3 : PySem.W.keepIn K (.ref f3) = true)
    (a4 : PySem.W.nsIn K mainGlobals "ratio_text" = some (some (.ref f4)))
    (l4 : K.lookup f4 = some ⟨oc4, od4, .func (PySem.W.fnOf "ratio_text" "ratio_text" (defArgs s_ratio_text) (defBody s_ratio_text) (defScope s_ratio_text) .none kV4 dc4 pm4 an4 cd4 ct4), sl4⟩)
    (c4 : PySem.W.codeIn K cd4 "ratio_text" = true)
    (k4 : PySem.W.keepIn K (.ref f4) = true)
    (a5 : PySem.W.nsIn K mainGlobals "is_scale" = some (some (.ref f5)))
    (l5 : K.lookup f5 = some ⟨oc5, od5, .func (PySem.W.fnOf "is_scale" "is_scale" (defArgs s_is_scale) (defBody s_is_scale) (defScope s_is_scale) .none kV5 dc5 pm5 an5 cd5 ct5), sl5⟩)
    (c5 : PySem.W.codeIn K cd5 "is_scale" = true)
    (k5 : PySem.W.keepIn K (.ref f5) = true)
    (a6 : PySem.W.nsIn K mainGlobals "is_day" = some (some (.ref f6)))
    (l6 : K.lookup f6 = some ⟨oc6, od6, .func (PySem.W.fnOf "is_day" "is_day" (defArgs s_is_day) (defBody s_is_day) (defScope s_is_day) .none kV6 dc6 pm6 an6 cd6 ct6), sl6⟩)
    (c6 : PySem.W.codeIn K cd6 "is_day" = true)
    (k6 : PySem.W.keepIn K (.ref f6) = true)
    (a7 : PySem.W.nsIn K mainGlobals "is_weight" = some (some (.ref f7)))
    (l7 : K.lookup f7 = some ⟨oc7, od7, .func (PySem.W.fnOf "is_weight" "is_weight" (defArgs s_is_weight) (defBody s_is_weight) (defScope s_is_weight) .none kV7 dc7 pm7 an7 cd7 ct7), sl7⟩)
    (c7 : PySem.W.codeIn K cd7 "is_weight" = true)
    (k7 : PySem.W.keepIn K (.ref f7) = true)
    (a8 : PySem.W.nsIn K mainGlobals "check_paper" = some (some (.ref f8)))
    (l8 : K.lookup f8 = some ⟨oc8, od8, .func (PySem.W.fnOf "check_paper" "check_paper" (defArgs s_check_paper) (defBody s_check_paper) (defScope s_check_paper) .none kV8 dc8 pm8 an8 cd8 ct8), sl8⟩)
    (c8 : PySem.W.codeIn K cd8 "check_paper" = true)
    (k8 : PySem.W.keepIn K (.ref f8) = true)
    (a9 : PySem.W.nsIn K mainGlobals "check_scale" = some (some (.ref f9)))
    (l9 : K.lookup f9 = some ⟨oc9, od9, .func (PySem.W.fnOf "check_scale" "check_scale" (defArgs s_check_scale) (defBody s_check_scale) (defScope s_check_scale) .none kV9 dc9 pm9 an9 cd9 ct9), sl9⟩)
    (c9 : PySem.W.codeIn K cd9 "check_scale" = true)
    (k9 : PySem.W.keepIn K (.ref f9) = true)
    (a10 : PySem.W.nsIn K mainGlobals "check_day" = some (some (.ref f10)))
    (l10 : K.lookup f10 = some ⟨oc10, od10, .func (PySem.W.fnOf "check_day" "check_day" (defArgs s_check_day) (defBody s_check_day) (defScope s_check_day) .none kV10 dc10 pm10 an10 cd10 ct10), sl10⟩)
    (c10 : PySem.W.codeIn K cd10 "check_day" = true)
    (k10 : PySem.W.keepIn K (.ref f10) = true)
    (a11 : PySem.W.nsIn K mainGlobals "check_weighing" = some (some (.ref f11)))
    (l11 : K.lookup f11 = some ⟨oc11, od11, .func (PySem.W.fnOf "check_weighing" "check_weighing" (defArgs s_check_weighing) (defBody s_check_weighing) (defScope s_check_weighing) .none kV11 dc11 pm11 an11 cd11 ct11), sl11⟩)
    (c11 : PySem.W.codeIn K cd11 "check_weighing" = true)
    (k11 : PySem.W.keepIn K (.ref f11) = true)
    (a12 : PySem.W.nsIn K mainGlobals "check_lots" = some (some (.ref f12)))
    (l12 : K.lookup f12 = some ⟨oc12, od12, .func (PySem.W.fnOf "check_lots" "check_lots" (defArgs s_check_lots) (defBody s_check_lots) (defScope s_check_lots) .none kV12 dc12 pm12 an12 cd12 ct12), sl12⟩)
    (c12 : PySem.W.codeIn K cd12 "check_lots" = true)
    (k12 : PySem.W.keepIn K (.ref f12) = true)
    (a13 : PySem.W.nsIn K mainGlobals "check_known" = some (some (.ref f13)))
    (l13 : K.lookup f13 = some ⟨oc13, od13, .func (PySem.W.fnOf "check_known" "check_known" (defArgs s_check_known) (defBody s_check_known) (defScope s_check_known) .none kV13 dc13 pm13 an13 cd13 ct13), sl13⟩)
    (c13 : PySem.W.codeIn K cd13 "check_known" = true)
    (k13 : PySem.W.keepIn K (.ref f13) = true)
    (a14 : PySem.W.nsIn K mainGlobals "ratios_of" = some (some (.ref f14)))
    (l14 : K.lookup f14 = some ⟨oc14, od14, .func (PySem.W.fnOf "ratios_of" "ratios_of" (defArgs s_ratios_of) (defBody s_ratios_of) (defScope s_ratios_of) .none kV14 dc14 pm14 an14 cd14 ct14), sl14⟩)
    (c14 : PySem.W.codeIn K cd14 "ratios_of" = true)
    (k14 : PySem.W.keepIn K (.ref f14) = true)
    (a15 : PySem.W.nsIn K mainGlobals "is_short" = some (some (.ref f15)))
    (l15 : K.lookup f15 = some ⟨oc15, od15, .func (PySem.W.fnOf "is_short" "is_short" (defArgs s_is_short) (defBody s_is_short) (defScope s_is_short) .none kV15 dc15 pm15 an15 cd15 ct15), sl15⟩)
    (c15 : PySem.W.codeIn K cd15 "is_short" = true)
    (k15 : PySem.W.keepIn K (.ref f15) = true)
    (a16 : PySem.W.nsIn K mainGlobals "check_entry" = some (some (.ref f16)))
    (l16 : K.lookup f16 = some ⟨oc16, od16, .func (PySem.W.fnOf "check_entry" "check_entry" (defArgs s_check_entry) (defBody s_check_entry) (defScope s_check_entry) .none kV16 dc16 pm16 an16 cd16 ct16), sl16⟩)
    (c16 : PySem.W.codeIn K cd16 "check_entry" = true)
    (k16 : PySem.W.keepIn K (.ref f16) = true)
    (a17 : PySem.W.nsIn K mainGlobals "_law_numbers" = some (some (.ref f17)))
    (l17 : K.lookup f17 = some ⟨oc17, od17, .func (PySem.W.fnOf "_law_numbers" "_law_numbers" (defArgs s_law_numbers) (defBody s_law_numbers) (defScope s_law_numbers) .none kV17 dc17 pm17 an17 cd17 ct17), sl17⟩)
    (c17 : PySem.W.codeIn K cd17 "_law_numbers" = true)
    (k17 : PySem.W.keepIn K (.ref f17) = true)
    (a18 : PySem.W.nsIn K mainGlobals "_law_ratio" = some (some (.ref f18)))
    (l18 : K.lookup f18 = some ⟨oc18, od18, .func (PySem.W.fnOf "_law_ratio" "_law_ratio" (defArgs s_law_ratio) (defBody s_law_ratio) (defScope s_law_ratio) .none kV18 dc18 pm18 an18 cd18 ct18), sl18⟩)
    (c18 : PySem.W.codeIn K cd18 "_law_ratio" = true)
    (k18 : PySem.W.keepIn K (.ref f18) = true)
    (a19 : PySem.W.nsIn K mainGlobals "_law_paper" = some (some (.ref f19)))
    (l19 : K.lookup f19 = some ⟨oc19, od19, .func (PySem.W.fnOf "_law_paper" "_law_paper" (defArgs s_law_paper) (defBody s_law_paper) (defScope s_law_paper) .none kV19 dc19 pm19 an19 cd19 ct19), sl19⟩)
    (c19 : PySem.W.codeIn K cd19 "_law_paper" = true)
    (k19 : PySem.W.keepIn K (.ref f19) = true)
    (a20 : PySem.W.nsIn K mainGlobals "_law_lots" = some (some (.ref f20)))
    (l20 : K.lookup f20 = some ⟨oc20, od20, .func (PySem.W.fnOf "_law_lots" "_law_lots" (defArgs s_law_lots) (defBody s_law_lots) (defScope s_law_lots) .none kV20 dc20 pm20 an20 cd20 ct20), sl20⟩)
    (c20 : PySem.W.codeIn K cd20 "_law_lots" = true)
    (k20 : PySem.W.keepIn K (.ref f20) = true)
    (a21 : PySem.W.nsIn K mainGlobals "_law_entry" = some (some (.ref f21)))
    (l21 : K.lookup f21 = some ⟨oc21, od21, .func (PySem.W.fnOf "_law_entry" "_law_entry" (defArgs s_law_entry) (defBody s_law_entry) (defScope s_law_entry) .none kV21 dc21 pm21 an21 cd21 ct21), sl21⟩)
    (c21 : PySem.W.codeIn K cd21 "_law_entry" = true)
    (k21 : PySem.W.keepIn K (.ref f21) = true)
    (a22 : PySem.W.nsIn K mainGlobals "_law_refused" = some (some (.ref f22)))
    (l22 : K.lookup f22 = some ⟨oc22, od22, .func (PySem.W.fnOf "_law_refused" "_law_refused" (defArgs s_law_refused) (defBody s_law_refused) (defScope s_law_refused) .none kV22 dc22 pm22 an22 cd22 ct22), sl22⟩)
    (c22 : PySem.W.codeIn K cd22 "_law_refused" = true)
    (k22 : PySem.W.keepIn K (.ref f22) = true)
    (a23 : PySem.W.nsIn K mainGlobals "_law_great" = some (some (.ref f23)))
    (l23 : K.lookup f23 = some ⟨oc23, od23, .func (PySem.W.fnOf "_law_great" "_law_great" (defArgs s_law_great) (defBody s_law_great) (defScope s_law_great) .none kV23 dc23 pm23 an23 cd23 ct23), sl23⟩)
    (c23 : PySem.W.codeIn K cd23 "_law_great" = true)
    (k23 : PySem.W.keepIn K (.ref f23) = true)
    (a24 : PySem.W.nsIn K mainGlobals "_law_bad_paper" = some (some (.ref f24)))
    (l24 : K.lookup f24 = some ⟨oc24, od24, .func (PySem.W.fnOf "_law_bad_paper" "_law_bad_paper" (defArgs s_law_bad_paper) (defBody s_law_bad_paper) (defScope s_law_bad_paper) .none kV24 dc24 pm24 an24 cd24 ct24), sl24⟩)
    (c24 : PySem.W.codeIn K cd24 "_law_bad_paper" = true)
    (k24 : PySem.W.keepIn K (.ref f24) = true)
    (a25 : PySem.W.nsIn K mainGlobals "_law_bad_lots" = some (some (.ref f25)))
    (l25 : K.lookup f25 = some ⟨oc25, od25, .func (PySem.W.fnOf "_law_bad_lots" "_law_bad_lots" (defArgs s_law_bad_lots) (defBody s_law_bad_lots) (defScope s_law_bad_lots) .none kV25 dc25 pm25 an25 cd25 ct25), sl25⟩)
    (c25 : PySem.W.codeIn K cd25 "_law_bad_lots" = true)
    (k25 : PySem.W.keepIn K (.ref f25) = true)
    (a26 : PySem.W.nsIn K mainGlobals "_law_bad" = some (some (.ref f26)))
    (l26 : K.lookup f26 = some ⟨oc26, od26, .func (PySem.W.fnOf "_law_bad" "_law_bad" (defArgs s_law_bad) (defBody s_law_bad) (defScope s_law_bad) .none kV26 dc26 pm26 an26 cd26 ct26), sl26⟩)
    (c26 : PySem.W.codeIn K cd26 "_law_bad" = true)
    (k26 : PySem.W.keepIn K (.ref f26) = true)
    (a27 : PySem.W.nsIn K mainGlobals "law" = some (some (.ref f27)))
    (l27 : K.lookup f27 = some ⟨oc27, od27, .func (PySem.W.fnOf "law" "law" (defArgs s_law) (defBody s_law) (defScope s_law) .none kV27 dc27 pm27 an27 cd27 ct27), sl27⟩)
    (c27 : PySem.W.codeIn K cd27 "law" = true)
    (k27 : PySem.W.keepIn K (.ref f27) = true)
    (z_abs : PySem.W.nsIn K mainGlobals "abs" = some none)
    (z_all : PySem.W.nsIn K mainGlobals "all" = some none)
    (z_int : PySem.W.nsIn K mainGlobals "int" = some none)
    (z_isinstance : PySem.W.nsIn K mainGlobals "isinstance" = some none)
    (z_len : PySem.W.nsIn K mainGlobals "len" = some none)
    (z_list : PySem.W.nsIn K mainGlobals "list" = some none)
    (z_max : PySem.W.nsIn K mainGlobals "max" = some none)
    (z_min : PySem.W.nsIn K mainGlobals "min" = some none)
    (z_range : PySem.W.nsIn K mainGlobals "range" = some none)
    (z_str : PySem.W.nsIn K mainGlobals "str" = some none)
    (z_tuple : PySem.W.nsIn K mainGlobals "tuple" = some none)
    (b0 : PySem.W.nsIn K mainGlobals "MAX_TEXT" = some (some u0))
    (e0 : atW K (.int 60) u0 = true)
    (b1 : PySem.W.nsIn K mainGlobals "MAX_DAY" = some (some u1))
    (e1 : atW K (.int 999) u1 = true)
    (b2 : PySem.W.nsIn K mainGlobals "MAX_NAME" = some (some u2))
    (e2 : atW K (.int 4) u2 = true)
    (b3 : PySem.W.nsIn K mainGlobals "LETTERS" = some (some u3))
    (e3 : atW K (.str "abcdefghijklmnopqrstuvwxyz") u3 = true)
    (b4 : PySem.W.nsIn K mainGlobals "ONE" = some (some u4))
    (e4 : atW K (.tup [(.int 1), (.int 1)]) u4 = true)
    (b5 : PySem.W.nsIn K mainGlobals "MAX_WEIGHED_weighings" = some (some u5))
    (e5 : atW K (.int 8) u5 = true)
    (b6 : PySem.W.nsIn K mainGlobals "MAX_NUMBER" = some (some u6))
    (e6 : atW K (.int 99) u6 = true)
    (b7 : PySem.W.nsIn K mainGlobals "KINDS" = some (some u7))
    (e7 : atW K (.tup [(.str "find"), (.str "known"), (.str "paper"), (.str "recall"), (.str "weighing")]) u7 = true)
    (b8 : PySem.W.nsIn K mainGlobals "LENGTHS" = some (some (.ref p8)))
    (d8 : dicW K p8 = some (keysIn w.params ["find", "known", "paper", "recall", "weighing"]))
    (e8 : kdW K p8 kd_LENGTHS = true)
    (b9 : PySem.W.nsIn K mainGlobals "MAX_LOT" = some (some u9))
    (e9 : atW K (.int 99) u9 = true)
    (b10 : PySem.W.nsIn K mainGlobals "MAX_WEIGHED_entries" = some (some u10))
    (e10 : atW K (.int 8) u10 = true)
    (b11 : PySem.W.nsIn K mainGlobals "GREAT" = some (some u11))
    (e11 : atW K (.int 1000000000000000000000000000000000000000000000000000000000000) u11 = true)
    (ac0 : PySem.W.nsIn K mainGlobals "KerbError" = some (some (.ref C0)))
    (xc0 : PySem.W.excIn K C0 [.type "ValueError", .type "Exception", .type "BaseException", .type "object"] "ValueError.__new__" = true)
    (kc0 : PySem.W.keepIn K (.ref C0) = true)
    (bc0 : PySem.W.subIn K (.ref C0) (.type "BaseException") = some true)
    (tc0 : PySem.W.typeIn K (.ref C0) = some (.type "type"))
    (ga0 : PySem.W.findIn K (.ref C0) "__getattribute__" = some (some (.builtin "BaseException.__getattribute__")))
    (gb0 : PySem.W.findIn K (.ref C0) "__getattr__" = some none)
    (gc0 : PySem.W.hasDictIn K C0 = true)
    (gd0 : PySem.W.findIn K (.ref C0) "__class__" = some (some (.builtin "object.__class__")))
    (ge0 : PySem.W.mroIn K C0 (.type "object") = some true)
    (ac1 : PySem.W.nsIn K mainGlobals "NotAllowed" = some (some (.ref C1)))
    (xc1 : PySem.W.excIn K C1 [.type "ValueError", .type "Exception", .type "BaseException", .type "object"] "ValueError.__new__" = true)
    (kc1 : PySem.W.keepIn K (.ref C1) = true)
    (bc1 : PySem.W.subIn K (.ref C1) (.type "BaseException") = some true)
    (tc1 : PySem.W.typeIn K (.ref C1) = some (.type "type"))
    (ga1 : PySem.W.findIn K (.ref C1) "__getattribute__" = some (some (.builtin "BaseException.__getattribute__")))
    (gb1 : PySem.W.findIn K (.ref C1) "__getattr__" = some none)
    (gc1 : PySem.W.hasDictIn K C1 = true)
    (gd1 : PySem.W.findIn K (.ref C1) "__class__" = some (some (.builtin "object.__class__")))
    (ge1 : PySem.W.mroIn K C1 (.type "object") = some true)
    (ac2 : PySem.W.nsIn K mainGlobals "BadForm" = some (some (.ref C2)))
    (xc2 : PySem.W.excIn K C2 [.type "ValueError", .type "Exception", .type "BaseException", .type "object"] "ValueError.__new__" = true)
    (kc2 : PySem.W.keepIn K (.ref C2) = true)
    (bc2 : PySem.W.subIn K (.ref C2) (.type "BaseException") = some true)
    (tc2 : PySem.W.typeIn K (.ref C2) = some (.type "type"))
    (ga2 : PySem.W.findIn K (.ref C2) "__getattribute__" = some (some (.builtin "BaseException.__getattribute__")))
    (gb2 : PySem.W.findIn K (.ref C2) "__getattr__" = some none)
    (gc2 : PySem.W.hasDictIn K C2 = true)
    (gd2 : PySem.W.findIn K (.ref C2) "__class__" = some (some (.builtin "object.__class__")))
    (ge2 : PySem.W.mroIn K C2 (.type "object") = some true)
    (hn : PySem.W.specialIn K (.builtin "object.__class__") "__get__" = some (some (.builtin "getset_descriptor.__get__")))
    (ht : PySem.W.takesIn K (.builtin "object.__class__") = some true)
    (h0_0 : PySem.W.exmOne K (.ref C0) (.ref C0) = some (isub "KerbError" "KerbError"))
    (h0_1 : PySem.W.exmOne K (.ref C1) (.ref C0) = some (isub "NotAllowed" "KerbError"))
    (h0_2 : PySem.W.exmOne K (.ref C2) (.ref C0) = some (isub "BadForm" "KerbError"))
    (i2_0 : PySem.W.kitOne K (.ref C0) (.ref C2) = some (isub "KerbError" "BadForm"))
    (i2_1 : PySem.W.kitOne K (.ref C1) (.ref C2) = some (isub "NotAllowed" "BadForm"))
    (i2_2 : PySem.W.kitOne K (.ref C2) (.ref C2) = some (isub "BadForm" "BadForm"))
    (i1_0 : PySem.W.kitOne K (.ref C0) (.ref C1) = some (isub "KerbError" "NotAllowed"))
    (i1_1 : PySem.W.kitOne K (.ref C1) (.ref C1) = some (isub "NotAllowed" "NotAllowed"))
    (i1_2 : PySem.W.kitOne K (.ref C2) (.ref C1) = some (isub "BadForm" "NotAllowed")) :
    ∃ fd : FuncData, (∀ (s : Shared) (v : Value), BindsTo s fd ⟨[v], []⟩ [("script", v)]) ∧ ∀ base : Heap, K.In base → base.Ns mainGlobals mg → FnOk P w K mg base (L2.CX P w) 7 fa fd ["script"] (spLawK K) := by
  have e := hfa.symm.trans (PySem.W.mg_of X G a27)
  cases e
  have F0 := fun_mk (st := s_common) l0 c0 k0
  have F1 := fun_mk (st := s_is_ratio) l1 c1 k1
  have F2 := fun_mk (st := s_sign_of) l2 c2 k2
  have F3 := fun_mk (st := s_compare) l3 c3 k3
  have F4 := fun_mk (st := s_ratio_text) l4 c4 k4
  have F5 := fun_mk (st := s_is_scale) l5 c5 k5
  have F6 := fun_mk (st := s_is_day) l6 c6 k6
  have F7 := fun_mk (st := s_is_weight) l7 c7 k7
  have F8 := fun_mk (st := s_check_paper) l8 c8 k8
  have F9 := fun_mk (st := s_check_scale) l9 c9 k9
  have F10 := fun_mk (st := s_check_day) l10 c10 k10
  have F11 := fun_mk (st := s_check_weighing) l11 c11 k11
  have F12 := fun_mk (st := s_check_lots) l12 c12 k12
  have F13 := fun_mk (st := s_check_known) l13 c13 k13
  have F14 := fun_mk (st := s_ratios_of) l14 c14 k14
  have F15 := fun_mk (st := s_is_short) l15 c15 k15
  have F16 := fun_mk (st := s_check_entry) l16 c16 k16
  have F17 := fun_mk (st := s_law_numbers) l17 c17 k17
  have F18 := fun_mk (st := s_law_ratio) l18 c18 k18
  have F19 := fun_mk (st := s_law_paper) l19 c19 k19
  have F20 := fun_mk (st := s_law_lots) l20 c20 k20
  have F21 := fun_mk (st := s_law_entry) l21 c21 k21
  have F22 := fun_mk (st := s_law_refused) l22 c22 k22
  have F23 := fun_mk (st := s_law_great) l23 c23 k23
  have F24 := fun_mk (st := s_law_bad_paper) l24 c24 k24
  have F25 := fun_mk (st := s_law_bad_lots) l25 c25 k25
  have F26 := fun_mk (st := s_law_bad) l26 c26 k26
  have F27 := fun_mk (st := s_law) l27 c27 k27
  obtain ⟨v0, q0, r0⟩ := atW_ok e0
  obtain ⟨v1, q1, r1⟩ := atW_ok e1
  obtain ⟨v2, q2, r2⟩ := atW_ok e2
  obtain ⟨v3, q3, r3⟩ := atW_ok e3
  obtain ⟨v4, q4, r4⟩ := atW_ok e4
  obtain ⟨v5, q5, r5⟩ := atW_ok e5
  obtain ⟨v6, q6, r6⟩ := atW_ok e6
  obtain ⟨v7, q7, r7⟩ := atW_ok e7
  obtain ⟨v9, q9, r9⟩ := atW_ok e9
  obtain ⟨v10, q10, r10⟩ := atW_ok e10
  obtain ⟨v11, q11, r11⟩ := atW_ok e11
  have E0 : ExcC K C0 := ⟨ga0, gb0, bc0, gc0, gd0, hn, ht, ge0⟩
  have E1 : ExcC K C1 := ⟨ga1, gb1, bc1, gc1, gd1, hn, ht, ge1⟩
  have E2 : ExcC K C2 := ⟨ga2, gb2, bc2, gc2, gd2, hn, ht, ge2⟩
  have hit0 : hitK K mg excs (fun cn => isub cn "KerbError") (.ref C0) := fun cn hc => by
    have hc : cn ∈ (["KerbError", "NotAllowed", "BadForm"] : List Str) := hc
    simp only [List.mem_cons, List.not_mem_nil, or_false] at hc
    rcases hc with rfl | rfl | rfl
    · exact ⟨C0, PySem.W.mg_of X G ac0, E0, h0_0⟩
    · exact ⟨C1, PySem.W.mg_of X G ac1, E1, h0_1⟩
    · exact ⟨C2, PySem.W.mg_of X G ac2, E2, h0_2⟩
  have kit2 : kitK K mg excs (fun cn => isub cn "BadForm") (.ref C2) := fun cn hc => by
    have hc : cn ∈ (["KerbError", "NotAllowed", "BadForm"] : List Str) := hc
    simp only [List.mem_cons, List.not_mem_nil, or_false] at hc
    rcases hc with rfl | rfl | rfl
    · exact fun C hC => by
        have e := Value.ref.inj (Option.some.inj (hC.symm.trans (PySem.W.mg_of X G ac0)))
        subst e
        exact i2_0
    · exact fun C hC => by
        have e := Value.ref.inj (Option.some.inj (hC.symm.trans (PySem.W.mg_of X G ac1)))
        subst e
        exact i2_1
    · exact fun C hC => by
        have e := Value.ref.inj (Option.some.inj (hC.symm.trans (PySem.W.mg_of X G ac2)))
        subst e
        exact i2_2
  have kit1 : kitK K mg excs (fun cn => isub cn "NotAllowed") (.ref C1) := fun cn hc => by
    have hc : cn ∈ (["KerbError", "NotAllowed", "BadForm"] : List Str) := hc
    simp only [List.mem_cons, List.not_mem_nil, or_false] at hc
    rcases hc with rfl | rfl | rfl
    · exact fun C hC => by
        have e := Value.ref.inj (Option.some.inj (hC.symm.trans (PySem.W.mg_of X G ac0)))
        subst e
        exact i1_0
    · exact fun C hC => by
        have e := Value.ref.inj (Option.some.inj (hC.symm.trans (PySem.W.mg_of X G ac1)))
        subst e
        exact i1_1
    · exact fun C hC => by
        have e := Value.ref.inj (Option.some.inj (hC.symm.trans (PySem.W.mg_of X G ac2)))
        subst e
        exact i1_2
  let t : T w K mg := ⟨_, _, F0, PySem.W.mg_of X G a0, _, _, F1, PySem.W.mg_of X G a1, _, _, F2, PySem.W.mg_of X G a2, _, _, F3, PySem.W.mg_of X G a3, _, _, F4, PySem.W.mg_of X G a4, _, _, F5, PySem.W.mg_of X G a5, _, _, F6, PySem.W.mg_of X G a6, _, _, F7, PySem.W.mg_of X G a7, _, _, F8, PySem.W.mg_of X G a8, _, _, F9, PySem.W.mg_of X G a9, _, _, F10, PySem.W.mg_of X G a10, _, _, F11, PySem.W.mg_of X G a11, _, _, F12, PySem.W.mg_of X G a12, _, _, F13, PySem.W.mg_of X G a13, _, _, F14, PySem.W.mg_of X G a14, _, _, F15, PySem.W.mg_of X G a15, _, _, F16, PySem.W.mg_of X G a16, _, _, F17, PySem.W.mg_of X G a17, _, _, F18, PySem.W.mg_of X G a18, _, _, F19, PySem.W.mg_of X G a19, _, _, F20, PySem.W.mg_of X G a20, _, _, F21, PySem.W.mg_of X G a21, _, _, F22, PySem.W.mg_of X G a22, _, _, F23, PySem.W.mg_of X G a23, _, _, F24, PySem.W.mg_of X G a24, _, _, F25, PySem.W.mg_of X G a25, _, _, F26, PySem.W.mg_of X G a26, _, _, F27, PySem.W.mg_of X G a27, PySem.W.mg_none_of X G z_abs, PySem.W.mg_none_of X G z_all, PySem.W.mg_none_of X G z_int, PySem.W.mg_none_of X G z_isinstance, PySem.W.mg_none_of X G z_len, PySem.W.mg_none_of X G z_list, PySem.W.mg_none_of X G z_max, PySem.W.mg_none_of X G z_min, PySem.W.mg_none_of X G z_range, PySem.W.mg_none_of X G z_str, PySem.W.mg_none_of X G z_tuple, v0, _, PySem.W.mg_of X G b0, q0, r0, v1, _, PySem.W.mg_of X G b1, q1, r1, v2, _, PySem.W.mg_of X G b2, q2, r2, v3, _, PySem.W.mg_of X G b3, q3, r3, v4, _, PySem.W.mg_of X G b4, q4, r4, v5, _, PySem.W.mg_of X G b5, q5, r5, v6, _, PySem.W.mg_of X G b6, q6, r6, v7, _, PySem.W.mg_of X G b7, q7, r7, _, PySem.W.mg_of X G b8, kd_ok d8 e8, v9, _, PySem.W.mg_of X G b9, q9, r9, v10, _, PySem.W.mg_of X G b10, q10, r10, v11, _, PySem.W.mg_of X G b11, q11, r11, _, PySem.W.mg_of X G ac0, xc0, kc0, bc0, tc0, _, PySem.W.mg_of X G ac1, xc1, kc1, bc1, tc1, _, PySem.W.mg_of X G ac2, xc2, kc2, bc2, tc2, hit0, kit2, kit1⟩
  exact ⟨PySem.W.fnOf "law" "law" (defArgs s_law) (defBody s_law) (defScope s_law) .none kV27 dc27 pm27 an27 cd27 ct27, fun s v => .of_eq rfl, fun base _ _ => law_imp (P := P) (base := base) (ok_law t) main⟩
end K60

set_option linter.all false
set_option autoImplicit false
set_option maxRecDepth 100000
namespace K60
open PySem PySem.Spec L2 Lt
theorem sign_of (n d : Int) : m_sign_of [.tup [.int n, .int d]] = .ok (.fr (.int (if n = 0 then 0 else if 0 < n then 1 else -1))) := by
  simp [m_sign_of, b_sign_of, atI_lit]
  split <;> (try split) <;> rfl
theorem check_paper (f l c : Int) (z s d : D) (bz bs bd : Bool) (q : Int) (hz : m_is_weight [z] = .ok (.fr (.bl bz))) (hs : m_is_weight [s] = .ok (.fr (.bl bs))) (hd : m_is_weight [d] = .ok (.fr (.bl bd))) (hq : m_compare [s, .tup [.int 1, .int 1]] = .ok (.fr (.int q))) :
    m_check_paper [.tup [.int f, .int l, z, s, d, .int c]] = if (0 ≤ c ∧ c ≤ f ∧ f ≤ l ∧ l ≤ 999) ∧ (bz && bs && bd) = true ∧ q < 0 then .ok (.fr .non) else .exc "NotAllowed" := by
  simp [m_check_paper, b_check_paper, c_check_paper_1, atI_lit, hq, hz, hs, hd]
  by_cases h1 : 0 ≤ c <;> by_cases h2 : c ≤ f <;> by_cases h3 : f ≤ l <;> by_cases h4 : l ≤ 999 <;> simp [h1, h2, h3, h4]
  · rw [if_neg (by omega)]
    cases bz <;> cases bs <;> cases bd <;> simp
    by_cases h5 : q < 0
    · rw [if_neg (by omega), if_pos h5]
    · rw [if_pos (by omega), if_neg h5]
/-! ### lots -/
def ascB : List Int → Bool
  | x :: y :: r => decide (x < y) && ascB (y :: r)
  | _ => true
def inB (ls : List Int) : Bool := ls.all fun x => decide (0 ≤ x) && decide (x ≤ 99)
def lotsB (ls : List Int) : Bool := decide (1 ≤ ls.length) && decide (ls.length ≤ 8) && inB ls && ascB ls
def ascP (ls : List Int) (i : Int) : Bool := match ls[i.toNat]?, ls[i.toNat + 1]? with
    | some a, some b => decide (a < b)
    | _, _ => true
theorem asc_range : ∀ ls : List Int, ((List.range ((ls.length : Int) - 1).toNat).all fun i => ascP ls (0 + (i : Nat))) = ascB ls := by
  intro ls
  have e : ((ls.length : Int) - 1).toNat = ls.length - 1 := by omega
  rw [e]
  clear e
  induction ls with
  | nil => rfl
  | cons x r ih =>
    cases r with
    | nil => rfl
    | cons y r =>
      rw [show (x :: y :: r).length - 1 = ((y :: r).length - 1) + 1 by simp, List.range_succ_eq_map, List.all_cons, List.all_map]
      show _ = (decide (x < y) && ascB (y :: r))
      rw [← ih]
      congr 1
theorem items_in (i j : Nat) (ls : List Int) (hl : ls.length ≤ 1000) (it : En → R (List D)) (ρ : En) (h1 : it ρ = .ok (ls.map D.int)) (hj : j < ρ.length) :
    sLc it [j] [j] bName tYs (chain (sB (sC (.int 0))) (chC dLe (sVarB j) (chL dLe (sB (sC (.int 99)))))) ρ = .ok (.nw (ls.map fun x => .bl (decide (0 ≤ x) && decide (x ≤ 99)))) := by
  rw [lc_ints (g := fun x => .bl (decide (0 ≤ x) && decide (x ≤ 99))) h1 (by omega)]
  intro x hx
  by_cases q : 0 ≤ x <;> simp [q, hj]
theorem items_asc (i j : Nat) (ls : List Int) (hl : ls.length ≤ 1000) (ρ : En) (hi : ρ[i]? = some (.fr (.tup (ls.map D.int)))) (hj : j < ρ.length) (hij : j ≠ i) :
    sLc (sR1 (sB (lift2 dSub (sB (sCal dLen (aConsB (sVarB i) aNil))) (sB (sC (.int 1)))))) [j] [j] bName tYs (lift2 dLt (sB (sIx (sVarB i) (sVarB j))) (sB (sIx (sVarB i) (sB (sAdd (sVarB j) (sB (sC (.int 1)))))))) ρ =
      .ok (.nw (((List.range ((ls.length : Int) - 1).toNat).map fun i => (0 : Int) + (i : Nat)).map fun x => .bl (ascP ls x))) := by
  rw [lc_ints (xs := (List.range ((ls.length : Int) - 1).toNat).map fun i => (0 : Int) + (i : Nat)) (g := fun x => .bl (ascP ls x)) (by
    rw [sR1_eq _ _ ((ls.length : Int) - 1) (by simp [hi]) (by omega) (by omega), rng_ints]) (by rw [List.length_map, List.length_range]; omega)]
  intro x hx
  obtain ⟨k, hk, rfl⟩ := List.mem_map.mp hx
  rw [List.mem_range] at hk
  have q1 : k < ls.length := by omega
  have q2 : k + 1 < ls.length := by omega
  have e1 : (0 + (k : Int)).toNat = k := by omega
  have e2 : (0 + (k : Int) + 1).toNat = k + 1 := by omega
  have g1 : (ls.map D.int)[k]? = some (.int ls[k]) := by rw [List.getElem?_map, List.getElem?_eq_getElem q1]; rfl
  have g2 : (ls.map D.int)[k + 1]? = some (.int ls[k + 1]) := by rw [List.getElem?_map, List.getElem?_eq_getElem q2]; rfl
  have a1 : atI (ls.map D.int) (0 + (k : Int)) = some (.int ls[k]) := by rw [atI_lit (by omega), e1, g1]
  have a2 : atI (ls.map D.int) (0 + (k : Int) + 1) = some (.int ls[k + 1]) := by rw [atI_lit (by omega), e2, g2]
  have e3 : ascP ls (0 + (k : Int)) = decide (ls[k] < ls[k + 1]) := by
    unfold ascP
    rw [e1, List.getElem?_eq_getElem q1, List.getElem?_eq_getElem q2]
  have hi2 : (ρ.set j (Slot.fr (D.int (0 + (k : Int)))))[i]? = some (.fr (.tup (ls.map D.int))) := by rw [List.getElem?_set_ne hij]; exact hi
  have hj2 : (ρ.set j (Slot.fr (D.int (0 + (k : Int)))))[j]? = some (.fr (.int (0 + (k : Int)))) := List.getElem?_set_self hj
  rw [e3]
  simp only [wipeE_cons, wipeE_nil, setE_cons, setE_nil, List.set_set, lift2_eq, sB_eq, sIx_eq, sVarB_eq, hi2, hj2, slB_fr, bind_ok, ixD_t, a1, RVo_some, mapR_ok, d_fr, sAdd_eq, sC_eq, addV_i, a2, dLt_i, optV_some]
theorem alls_in (i j : Nat) (ls : List Int) (hl : ls.length ≤ 1000) (ρ : En) (hi : ρ[i]? = some (.fr (.tup (ls.map D.int)))) (hj : j < ρ.length) :
    Alls (sLc (sItems (sVarB i)) [j] [j] bName tYs (chain (sB (sC (.int 0))) (chC dLe (sVarB j) (chL dLe (sB (sC (.int 99))))))) ρ (inB ls) :=
  .of (items_in i j ls hl _ ρ (by simp [hi]) hj) rfl
theorem alls_asc (i j : Nat) (ls : List Int) (hl : ls.length ≤ 1000) (ρ : En) (hi : ρ[i]? = some (.fr (.tup (ls.map D.int)))) (hj : j < ρ.length) (hij : j ≠ i) :
    Alls (sLc (sR1 (sB (lift2 dSub (sB (sCal dLen (aConsB (sVarB i) aNil))) (sB (sC (.int 1)))))) [j] [j] bName tYs (lift2 dLt (sB (sIx (sVarB i) (sVarB j))) (sB (sIx (sVarB i) (sB (sAdd (sVarB j) (sB (sC (.int 1))))))))) ρ (ascB ls) :=
  .of (items_asc i j ls hl ρ hi hj hij) (by rw [List.all_map]; exact asc_range ls)
theorem lotsB_cases (ls : List Int) : lotsB ls = true ↔ 1 ≤ ls.length ∧ ls.length ≤ 8 ∧ inB ls = true ∧ ascB ls = true := by
  unfold lotsB
  simp [and_assoc]
theorem check_lots (ls : List Int) (hl : ls.length ≤ 1000) : m_check_lots [.tup (ls.map D.int)] = if lotsB ls = true then .ok (.fr .non) else .exc "NotAllowed" := by
  have a_h1 : Alls c_check_lots_2 _ _ := alls_in 0 1 ls hl [.fr (.tup (ls.map D.int)), .un, .un] rfl (by simp)
  obtain ⟨L, Lb, h1, h2, h3⟩ := a_h1
  have a_g1 : Alls c_check_lots_1 _ _ := alls_asc 0 2 ls hl [.fr (.tup (ls.map D.int)), .un, .un] rfl (by simp) (by simp)
  obtain ⟨M, Mb, g1, g2, g3⟩ := a_g1
  simp only [lotsB_cases]
  simp [m_check_lots, b_check_lots, h1, h2, h3, g1, g2, g3]
  by_cases q1 : 1 ≤ ls.length
  · rw [if_neg (by omega)]
    by_cases q2 : ls.length ≤ 8
    · rw [if_neg (by omega)]
      cases inB ls <;> cases ascB ls <;> simp [q1, q2]
    · rw [if_pos (by omega)]
      simp [q2]
  · rw [if_pos (by omega)]
    simp [q1]
theorem check_known (x : D) (ls : List Int) (n d : Int) (hl : ls.length ≤ 1000) : m_check_known [.tup [x, .tup (ls.map D.int), .tup [.int n, .int d]]] = if lotsB ls = true ∧ 0 ≤ n then .ok (.fr .non) else .exc "NotAllowed" := by
  simp [m_check_known, b_check_known, atI_lit, check_lots ls hl, sign_of]
  by_cases h : lotsB ls = true
  · simp [h]
    by_cases h2 : 0 ≤ n
    · simp [h2]
      by_cases h3 : n = 0
      · simp [h3]
      · have : 0 < n := by omega
        simp [h3, this]
    · have h3 : n ≠ 0 := by omega
      have h4 : ¬ 0 < n := by omega
      simp [h2, h3, h4]
  · simp [h]
theorem check_weighing (sc : D) (day : Int) (ls : List Int) (w : D) (bs bw : Bool) (hl : ls.length ≤ 1000) (hs : m_is_scale [sc] = .ok (.fr (.bl bs))) (hw : m_is_weight [w] = .ok (.fr (.bl bw))) :
    m_check_weighing [.tup [sc, .int day, .tup (ls.map D.int), w]] = if bs = true ∧ (0 ≤ day ∧ day ≤ 999) ∧ lotsB ls = true ∧ bw = true then .ok (.fr .non) else .exc "NotAllowed" := by
  have hd : m_check_day [.int day] = if 0 ≤ day ∧ day ≤ 999 then .ok (.fr .non) else .exc "NotAllowed" := by
    simp [m_check_day, b_check_day, m_is_day, b_is_day]
    by_cases h1 : 0 ≤ day <;> by_cases h2 : day ≤ 999 <;> simp [h1, h2] <;> omega
  have hsc : m_check_scale [sc] = if bs = true then .ok (.fr .non) else .exc "NotAllowed" := by
    simp [m_check_scale, b_check_scale, hs]
    cases bs <;> simp
  have a_h1 : Alls c_check_weighing_2 _ _ := alls_in 3 5 ls hl [.fr (.tup [sc, .int day, .tup (ls.map D.int), w]), .fr sc, .fr (.int day), .fr (.tup (ls.map D.int)), .fr w, .un, .un] rfl (by simp)
  obtain ⟨L, Lb, h1, h2, h3⟩ := a_h1
  have a_g1 : Alls c_check_weighing_1 _ _ := alls_asc 3 6 ls hl [.fr (.tup [sc, .int day, .tup (ls.map D.int), w]), .fr sc, .fr (.int day), .fr (.tup (ls.map D.int)), .fr w, .un, .un] rfl (by simp) (by simp)
  obtain ⟨M, Mb, g1, g2, g3⟩ := a_g1
  simp only [lotsB_cases]
  simp [m_check_weighing, b_check_weighing, hsc, hd]
  cases bs
  · simp
  · simp
    by_cases q : 0 ≤ day ∧ day ≤ 999
    · simp [q, h1, h2, h3, g1, g2, g3, hw]
      by_cases q1 : 1 ≤ ls.length
      · rw [if_pos (by omega)]
        by_cases q2 : ls.length ≤ 8
        · rw [if_neg (by omega)]
          cases inB ls <;> cases ascB ls <;> cases bw <;> simp [q1, q2]
        · rw [if_pos (by omega)]
          simp [q2]
      · rw [if_neg (by omega)]
        simp [q1]
    · simp [q]
end K60

set_option linter.all false
set_option autoImplicit false
set_option maxRecDepth 100000
namespace K60
open PySem PySem.Spec L2 Lt
theorem refused {e : D} (h : m_check_entry [e] = .exc "NotAllowed") : m_law_refused [e] = .ok (.fr (.bl true)) := by
  have i1 : isub "NotAllowed" "KerbError" = true := by decide +kernel
  have i2 : isub "NotAllowed" "NotAllowed" = true := by decide +kernel
  have i3 : isub "NotAllowed" "BadForm" = false := by decide +kernel
  have i4 : ("NotAllowed" : Str) ∈ excs := by decide +kernel
  simp only [m_law_refused, b_law_refused, runF_eq, startE_eq, oSeq_eq]
  simp [oTryAs, h, i4, i1, i2, i3, clrO]
/-! ### the entries -/
theorem ce_find (a : Int) (x : D) : m_check_entry [.tup [.str "find", .int a, x]] = if 0 ≤ a ∧ a ≤ 99 then .ok (.fr .non) else .exc "NotAllowed" := by
  simp [m_check_entry, b_check_entry, c_check_entry_1, m_ratios_of, b_ratios_of, atI_lit, dInL, eqOk, dEq, toP, str_beq, lookD, kd_LENGTHS]
  (repeat' split) <;> first | rfl | (exfalso; omega)
theorem ce_known (ls : List Int) (n d : Int) (hl : ls.length ≤ 1000) (b : Bool) (hb : m_is_short [.tup [.int n, .int d]] = .ok (.fr (.bl b))) :
    m_check_entry [.tup [.str "known", .tup (ls.map D.int), .tup [.int n, .int d]]] = if (lotsB ls = true ∧ 0 ≤ n) ∧ b = true then .ok (.fr .non) else .exc "NotAllowed" := by
  simp [m_check_entry, b_check_entry, c_check_entry_1, m_ratios_of, b_ratios_of, atI_lit, Lt.atI_last, dInL, eqOk, dEq, toP, str_beq, lookD, kd_LENGTHS, hb, check_known _ ls n d hl]
  by_cases h1 : lotsB ls = true ∧ 0 ≤ n
  · simp [h1]
    cases b <;> simp
  · simp [h1]
theorem ce_weighing (sc : D) (day : Int) (ls : List Int) (w : D) (bs bw b : Bool) (hl : ls.length ≤ 1000) (hs : m_is_scale [sc] = .ok (.fr (.bl bs))) (hw : m_is_weight [w] = .ok (.fr (.bl bw))) (hb : m_is_short [w] = .ok (.fr (.bl b))) :
    m_check_entry [.tup [.str "weighing", sc, .int day, .tup (ls.map D.int), w]] = if (bs = true ∧ (0 ≤ day ∧ day ≤ 999) ∧ lotsB ls = true ∧ bw = true) ∧ b = true then .ok (.fr .non) else .exc "NotAllowed" := by
  simp [m_check_entry, b_check_entry, c_check_entry_1, m_ratios_of, b_ratios_of, atI_lit, Lt.atI_last, dInL, eqOk, dEq, toP, str_beq, lookD, kd_LENGTHS, hb, cutD_lo, check_weighing sc day ls w bs bw hl hs hw]
  by_cases h1 : bs = true ∧ (0 ≤ day ∧ day ≤ 999) ∧ lotsB ls = true ∧ bw = true
  · simp [h1]
    cases b <;> simp
  · simp [h1]
theorem ce_paper (sc : D) (f l c : Int) (z s d : D) (bs bz bt bd sz ss sd : Bool) (q : Int) (hs : m_is_scale [sc] = .ok (.fr (.bl bs))) (hz : m_is_weight [z] = .ok (.fr (.bl bz))) (ht : m_is_weight [s] = .ok (.fr (.bl bt))) (hd : m_is_weight [d] = .ok (.fr (.bl bd))) (hq : m_compare [s, .tup [.int 1, .int 1]] = .ok (.fr (.int q)))
    (kz : m_is_short [z] = .ok (.fr (.bl sz))) (ks : m_is_short [s] = .ok (.fr (.bl ss))) (kd : m_is_short [d] = .ok (.fr (.bl sd))) :
    m_check_entry [.tup [.str "paper", sc, .tup [.int f, .int l, z, s, d, .int c]]] = if bs = true ∧ ((0 ≤ c ∧ c ≤ f ∧ f ≤ l ∧ l ≤ 999) ∧ (bz && bt && bd) = true ∧ q < 0) ∧ (sz && ss && sd) = true then .ok (.fr .non) else .exc "NotAllowed" := by
  simp [m_check_entry, b_check_entry, c_check_entry_1, m_ratios_of, b_ratios_of, atI_lit, Lt.atI_last, dInL, eqOk, dEq, toP, str_beq, lookD, kd_LENGTHS, hs, kz, ks, kd, cutD_lh, check_paper f l c z s d bz bt bd q hz ht hd hq]
  cases bs
  · simp
  · by_cases h1 : (0 ≤ c ∧ c ≤ f ∧ f ≤ l ∧ l ≤ 999) ∧ ((bz = true ∧ bt = true) ∧ bd = true) ∧ q < 0
    · simp [h1]
      cases sz <;> cases ss <;> cases sd <;> simp
    · simp [h1]
theorem ce_recall (sc : D) (f l c : Int) (z s d : D) (day : Int) (bs bz bt bd sz ss sd : Bool) (q : Int) (hs : m_is_scale [sc] = .ok (.fr (.bl bs))) (hz : m_is_weight [z] = .ok (.fr (.bl bz))) (ht : m_is_weight [s] = .ok (.fr (.bl bt))) (hd : m_is_weight [d] = .ok (.fr (.bl bd))) (hq : m_compare [s, .tup [.int 1, .int 1]] = .ok (.fr (.int q)))
    (kz : m_is_short [z] = .ok (.fr (.bl sz))) (ks : m_is_short [s] = .ok (.fr (.bl ss))) (kd : m_is_short [d] = .ok (.fr (.bl sd))) :
    m_check_entry [.tup [.str "recall", sc, .tup [.int f, .int l, z, s, d, .int c], .int day]] = if bs = true ∧ ((0 ≤ c ∧ c ≤ f ∧ f ≤ l ∧ l ≤ 999) ∧ (bz && bt && bd) = true ∧ q < 0) ∧ (0 ≤ day ∧ day ≤ 999) ∧ (sz && ss && sd) = true then .ok (.fr .non) else .exc "NotAllowed" := by
  simp [m_check_entry, b_check_entry, c_check_entry_1, m_ratios_of, b_ratios_of, atI_lit, Lt.atI_last, dInL, eqOk, dEq, toP, str_beq, lookD, kd_LENGTHS, hs, kz, ks, kd, cutD_lh, check_paper f l c z s d bz bt bd q hz ht hd hq]
  cases bs
  · simp
  · by_cases h1 : (0 ≤ c ∧ c ≤ f ∧ f ≤ l ∧ l ≤ 999) ∧ ((bz = true ∧ bt = true) ∧ bd = true) ∧ q < 0
    · simp [h1]
      by_cases h2 : 0 ≤ day
      · by_cases h3 : day ≤ 999
        · have : ¬ 999 < day := by omega
          simp [h2, h3, this]
          cases sz <;> cases ss <;> cases sd <;> simp
        · have : 999 < day := by omega
          simp [h2, h3, this]
      · simp [h2]
    · simp [h1]
theorem len_find (r : List D) (h : r.length ≠ 2) : m_check_entry [.tup (.str "find" :: r)] = .exc "NotAllowed" := by
  simp [m_check_entry, b_check_entry, atI_lit, dInL, eqOk, dEq, toP, str_beq, lookD, kd_LENGTHS]
  intro q; omega
theorem len_known (r : List D) (h : r.length ≠ 2) : m_check_entry [.tup (.str "known" :: r)] = .exc "NotAllowed" := by
  simp [m_check_entry, b_check_entry, atI_lit, dInL, eqOk, dEq, toP, str_beq, lookD, kd_LENGTHS]
  intro q; omega
theorem len_paper (r : List D) (h : r.length ≠ 2) : m_check_entry [.tup (.str "paper" :: r)] = .exc "NotAllowed" := by
  simp [m_check_entry, b_check_entry, atI_lit, dInL, eqOk, dEq, toP, str_beq, lookD, kd_LENGTHS]
  intro q; omega
theorem len_recall (r : List D) (h : r.length ≠ 3) : m_check_entry [.tup (.str "recall" :: r)] = .exc "NotAllowed" := by
  simp [m_check_entry, b_check_entry, atI_lit, dInL, eqOk, dEq, toP, str_beq, lookD, kd_LENGTHS]
  intro q; omega
theorem len_weighing (r : List D) (h : r.length ≠ 4) : m_check_entry [.tup (.str "weighing" :: r)] = .exc "NotAllowed" := by
  simp [m_check_entry, b_check_entry, atI_lit, dInL, eqOk, dEq, toP, str_beq, lookD, kd_LENGTHS]
  intro q; omega
theorem bad_kind (k : Str) (r : List D) (h : k = "Paper" ∨ k = "" ∨ k = "weight" ∨ k = "finds") : m_check_entry [.tup (.str k :: r)] = .exc "NotAllowed" := by
  rcases h with rfl | rfl | rfl | rfl <;> simp [m_check_entry, b_check_entry, atI_lit, dInL, eqOk, dEq, toP, str_beq, lookD, kd_LENGTHS]
end K60

set_option linter.all false
set_option autoImplicit false
set_option maxRecDepth 100000
namespace K60
open PySem PySem.Spec L2 Lt
/-! ### ratios: by trying -/
def isT : R Val → Bool
  | .ok (.fr (.bl b)) => b
  | _ => false
theorem isT_ok {r : R Val} (h : isT r = true) : r = .ok (.fr (.bl true)) := by
  unfold isT at h
  split at h
  · subst h; rfl
  · cases h
def rW (n d : Nat) : Bool := match m_law_ratio [.int n, .int d] with
  | .ok (.fr (.tup [.int a, .int b])) => isT (m_is_weight [.tup [.int a, .int b]]) && isT (m_is_short [.tup [.int a, .int b]]) && decide (0 ≤ a)
  | _ => false
theorem rW_ok {n d : Nat} (h : rW n d = true) : ∃ a b : Int, m_law_ratio [.int n, .int d] = .ok (.fr (.tup [.int a, .int b])) ∧ m_is_weight [.tup [.int a, .int b]] = .ok (.fr (.bl true)) ∧ m_is_short [.tup [.int a, .int b]] = .ok (.fr (.bl true)) ∧ 0 ≤ a := by
  unfold rW at h
  split at h
  · rename_i a b e
    rw [Bool.and_eq_true, Bool.and_eq_true, decide_eq_true_eq] at h
    exact ⟨a, b, e, isT_ok h.1.1, isT_ok h.1.2, h.2⟩
  · cases h
def lessOne (w : D) : Bool := match m_compare [w, .tup [.int 1, .int 1]] with
  | .ok (.fr (.int q)) => decide (q < 0)
  | _ => false
def rL (n d : Nat) : Bool := match m_law_ratio [.int n, .int d] with
  | .ok (.fr w) => lessOne w
  | _ => false
theorem lessOne_ok {w : D} (h : lessOne w = true) : ∃ q : Int, m_compare [w, .tup [.int 1, .int 1]] = .ok (.fr (.int q)) ∧ q < 0 := by
  unfold lessOne at h
  split at h
  · rename_i q e
    exact ⟨q, e, of_decide_eq_true h⟩
  · cases h
theorem all2 {f : Nat → Nat → Bool} {a b : Nat} (h : ((List.range a).all fun i => (List.range b).all fun j => f i j) = true) {i j : Nat} (hi : i < a) (hj : j < b) : f i j = true :=
  List.all_eq_true.mp (List.all_eq_true.mp h i (List.mem_range.mpr hi)) j (List.mem_range.mpr hj)
theorem t40 : ((List.range 40).all fun i => (List.range 6).all fun j => rW i (1 + j)) = true := by decide +kernel
theorem t5 : ((List.range 5).all fun i => (List.range 4).all fun j => rW i (1 + j)) = true := by decide +kernel
theorem t4 : ((List.range 4).all fun i => (List.range 30).all fun j => rW i (4 + j) && rL i (4 + j)) = true := by decide +kernel
theorem t3 : ((List.range 3).all fun i => (List.range 50).all fun j => rW i (1 + j)) = true := by decide +kernel
theorem nat_of {x : Int} {m : Nat} (h : 0 ≤ x) (h2 : x < m) : ∃ k : Nat, x = k ∧ k < m := ⟨x.toNat, by omega, by omega⟩
theorem ratio_w {f : Nat → Nat → Bool} {a b c : Nat} (n m : Int) (ha : 0 < a) (hb : 0 < b) (h : ((List.range a).all fun i => (List.range b).all fun j => f i (c + j)) = true) : ∃ i j : Nat, f i j = true ∧ n % (a : Int) = i ∧ (c : Int) + m % (b : Int) = j := by
  obtain ⟨i, e, hi⟩ := nat_of (m := a) (Int.emod_nonneg n (by omega)) (Int.emod_lt_of_pos n (by omega))
  obtain ⟨j, e2, hj⟩ := nat_of (m := b) (Int.emod_nonneg m (by omega)) (Int.emod_lt_of_pos m (by omega))
  exact ⟨i, c + j, all2 (f := fun i j => f i (c + j)) h hi hj, e, by rw [e2]; push_cast; rfl⟩
end K60

set_option linter.all false
set_option autoImplicit false
set_option maxRecDepth 100000
namespace K60
open PySem PySem.Spec L2 Lt
def Ratio (r : R Val) : Prop := ∃ a b : Int, r = .ok (.fr (.tup [.int a, .int b])) ∧ m_is_weight [.tup [.int a, .int b]] = .ok (.fr (.bl true)) ∧ m_is_short [.tup [.int a, .int b]] = .ok (.fr (.bl true)) ∧ 0 ≤ a
theorem ratio40 (n m : Int) : Ratio (m_law_ratio [.int (n % 40), .int (1 + m % 6)]) := by
  obtain ⟨i, j, h, e1, e2⟩ := ratio_w (f := rW) (a := 40) (b := 6) (c := 1) n m (by decide) (by decide) t40
  obtain ⟨a, b, h1, h2⟩ := rW_ok h
  exact ⟨a, b, by rw [show n % 40 = (i : Int) from e1, show 1 + m % 6 = (j : Int) from e2]; exact h1, h2⟩
theorem ratio5 (n m : Int) : Ratio (m_law_ratio [.int (n % 5), .int (1 + m % 4)]) := by
  obtain ⟨i, j, h, e1, e2⟩ := ratio_w (f := rW) (a := 5) (b := 4) (c := 1) n m (by decide) (by decide) t5
  obtain ⟨a, b, h1, h2⟩ := rW_ok h
  exact ⟨a, b, by rw [show n % 5 = (i : Int) from e1, show 1 + m % 4 = (j : Int) from e2]; exact h1, h2⟩
theorem ratio3 (n m : Int) : Ratio (m_law_ratio [.int (n % 3), .int (1 + m % 50)]) := by
  obtain ⟨i, j, h, e1, e2⟩ := ratio_w (f := rW) (a := 3) (b := 50) (c := 1) n m (by decide) (by decide) t3
  obtain ⟨a, b, h1, h2⟩ := rW_ok h
  exact ⟨a, b, by rw [show n % 3 = (i : Int) from e1, show 1 + m % 50 = (j : Int) from e2]; exact h1, h2⟩
theorem ratio4 (n m : Int) : ∃ a b q : Int, m_law_ratio [.int (n % 4), .int (4 + m % 30)] = .ok (.fr (.tup [.int a, .int b])) ∧ m_is_weight [.tup [.int a, .int b]] = .ok (.fr (.bl true)) ∧ m_is_short [.tup [.int a, .int b]] = .ok (.fr (.bl true)) ∧ 0 ≤ a ∧ m_compare [.tup [.int a, .int b], .tup [.int 1, .int 1]] = .ok (.fr (.int q)) ∧ q < 0 := by
  obtain ⟨i, j, h, e1, e2⟩ := ratio_w (f := fun i j => rW i j && rL i j) (a := 4) (b := 30) (c := 4) n m (by decide) (by decide) t4
  rw [Bool.and_eq_true] at h
  obtain ⟨a, b, h1, h2, h3, h4⟩ := rW_ok h.1
  have h5 := h.2
  unfold rL at h5
  rw [h1] at h5
  obtain ⟨q, h6, h7⟩ := lessOne_ok h5
  exact ⟨a, b, q, by rw [show n % 4 = (i : Int) from e1, show 4 + m % 30 = (j : Int) from e2]; exact h1, h2, h3, h4, h6, h7⟩
/-! ### papers -/
structure Paper (p : D) (f l c : Int) (z s d : D) (q : Int) : Prop where
  eq : p = .tup [.int f, .int l, z, s, d, .int c]
  ok : 0 ≤ c ∧ c ≤ f ∧ f ≤ l ∧ l ≤ 999
  wz : m_is_weight [z] = .ok (.fr (.bl true))
  ws : m_is_weight [s] = .ok (.fr (.bl true))
  wd : m_is_weight [d] = .ok (.fr (.bl true))
  kz : m_is_short [z] = .ok (.fr (.bl true))
  ks : m_is_short [s] = .ok (.fr (.bl true))
  kd : m_is_short [d] = .ok (.fr (.bl true))
  cq : m_compare [s, .tup [.int 1, .int 1]] = .ok (.fr (.int q))
  lq : q < 0
theorem law_paper (a0 a1 a2 a3 a4 a5 : Int) (r : List D) : ∃ p f l c z s d q, m_law_paper [.lst (.int a0 :: .int a1 :: .int a2 :: .int a3 :: .int a4 :: .int a5 :: r)] = .ok (.fr p) ∧ Paper p f l c z s d q := by
  obtain ⟨za, zb, e1, w1, k1, _⟩ := ratio5 a2 (a2 / 5)
  obtain ⟨sa, sb, q, e2, w2, k2, _, c2, q2⟩ := ratio4 a3 (a3 / 4)
  obtain ⟨da, db, e3, w3, k3, _⟩ := ratio3 a4 (a4 / 3)
  have hp : 0 < a0 % 300 + 1 := by omega
  by_cases h : a1 / 40 % 5 = 0
  · refine ⟨_, a0 % 300, if a0 % 300 + a1 % 700 < 999 then a0 % 300 + a1 % 700 else 999, a5 % (a0 % 300 + 1), _, _, _, q, ?_, ⟨rfl, ?_, w1, w2, w3, k1, k2, k3, c2, q2⟩⟩
    · simp [m_law_paper, b_law_paper, atI_lit, h, e1, e2, e3, hp]
    · have := Int.emod_nonneg a5 (b := a0 % 300 + 1) (by omega)
      have := Int.emod_lt_of_pos a5 hp
      split <;> omega
  · refine ⟨_, a0 % 300, if a0 % 300 + a1 % 40 < 999 then a0 % 300 + a1 % 40 else 999, a5 % (a0 % 300 + 1), _, _, _, q, ?_, ⟨rfl, ?_, w1, w2, w3, k1, k2, k3, c2, q2⟩⟩
    · simp [m_law_paper, b_law_paper, atI_lit, h, e1, e2, e3, hp]
    · have := Int.emod_nonneg a5 (b := a0 % 300 + 1) (by omega)
      have := Int.emod_lt_of_pos a5 hp
      split <;> omega
/-! ### lots -/
inductive Lots : List Int → Prop
  | one (a : Int) : 0 ≤ a → a ≤ 11 → Lots [a]
  | two (a b : Int) : 0 ≤ a → a ≤ 11 → 12 ≤ b → b ≤ 23 → Lots [a, b]
  | three (a b c : Int) : 0 ≤ a → a ≤ 11 → 12 ≤ b → b ≤ 23 → 24 ≤ c → c ≤ 35 → Lots [a, b, c]
  | four (a b c d : Int) : 0 ≤ a → a ≤ 11 → 12 ≤ b → b ≤ 23 → 24 ≤ c → c ≤ 35 → 76 ≤ d → d ≤ 87 → Lots [a, b, c, d]
theorem law_lots (x : Int) : ∃ ls, m_law_lots [.int x] = .ok (.fr (.tup (ls.map D.int))) ∧ Lots ls := by
  have h : x % 4 = 0 ∨ x % 4 = 1 ∨ x % 4 = 2 ∨ x % 4 = 3 := by omega
  rcases h with h | h | h | h
  · refine ⟨[x / 4 % 12], ?_, .one _ (by omega) (by omega)⟩
    simp [m_law_lots, b_law_lots, l_law_lots_1, lb_law_lots_1, h, rng, List.range, List.range.loop, mulOk_l]
  · refine ⟨[x / 4 % 12, x / 4 / 8 % 12 + 12], ?_, .two _ _ (by omega) (by omega) (by omega) (by omega)⟩
    simp [m_law_lots, b_law_lots, l_law_lots_1, lb_law_lots_1, h, rng, List.range, List.range.loop, mulOk_l]
  · refine ⟨[x / 4 % 12, x / 4 / 8 % 12 + 12, x / 4 / 15 % 12 + 24], ?_, .three _ _ _ (by omega) (by omega) (by omega) (by omega) (by omega) (by omega)⟩
    simp [m_law_lots, b_law_lots, l_law_lots_1, lb_law_lots_1, h, rng, List.range, List.range.loop, mulOk_l]
  · refine ⟨[x / 4 % 12, x / 4 / 8 % 12 + 12, x / 4 / 15 % 12 + 24, x / 4 / 22 % 12 + 36 + 40], ?_, .four _ _ _ _ (by omega) (by omega) (by omega) (by omega) (by omega) (by omega) (by omega) (by omega)⟩
    simp [m_law_lots, b_law_lots, l_law_lots_1, lb_law_lots_1, h, rng, List.range, List.range.loop, mulOk_l]
theorem Lots.good {ls : List Int} (h : Lots ls) : lotsB ls = true := by
  cases h <;> simp [lotsB, inB, ascB] <;> omega
theorem Lots.len {ls : List Int} (h : Lots ls) : ls.length ≤ 4 := by
  cases h <;> simp
end K60

set_option linter.all false
set_option autoImplicit false
set_option maxRecDepth 100000
set_option maxHeartbeats 4000000
namespace K60
open PySem PySem.Spec L2 Lt
def isF : R Val → Bool
  | .ok (.fr (.bl b)) => !b
  | _ => false
theorem isF_ok {r : R Val} (h : isF r = true) : r = .ok (.fr (.bl false)) := by
  unfold isF at h
  split at h
  · rename_i b
    cases b
    · rfl
    · cases h
  · cases h
def isI (r : R Val) (i : Int) : Bool := match r with
  | .ok (.fr (.int j)) => decide (j = i)
  | _ => false
theorem isI_ok {r : R Val} {i : Int} (h : isI r i = true) : r = .ok (.fr (.int i)) := by
  unfold isI at h
  split at h
  · rw [of_decide_eq_true h]
  · cases h
abbrev Sc (sc : Str) : Prop := m_is_scale [.str sc] = .ok (.fr (.bl true))
inductive Ent : D → Prop
  | paper (sc : Str) (p : D) (f l c : Int) (z s d : D) (q : Int) : Sc sc → Paper p f l c z s d q → Ent (.tup [.str "paper", .str sc, p])
  | recall (sc : Str) (p : D) (f l c : Int) (z s d : D) (q day : Int) : Sc sc → Paper p f l c z s d q → 0 ≤ day → day ≤ 999 → Ent (.tup [.str "recall", .str sc, p, .int day])
  | weighing (sc : Str) (day : Int) (ls : List Int) (a b : Int) : Sc sc → 0 ≤ day → day ≤ 999 → Lots ls → m_is_weight [.tup [.int a, .int b]] = .ok (.fr (.bl true)) → m_is_short [.tup [.int a, .int b]] = .ok (.fr (.bl true)) → Ent (.tup [.str "weighing", .str sc, .int day, .tup (ls.map D.int), .tup [.int a, .int b]])
  | known (ls : List Int) (a b : Int) : Lots ls → m_is_short [.tup [.int a, .int b]] = .ok (.fr (.bl true)) → 0 ≤ a → Ent (.tup [.str "known", .tup (ls.map D.int), .tup [.int a, .int b]])
  | find (a : Int) (x : Bool) : 0 ≤ a → a ≤ 99 → Ent (.tup [.str "find", .int a, .bl x])
theorem ent_ok {e : D} (h : Ent e) : m_check_entry [e] = .ok (.fr .non) := by
  cases h with
  | paper sc p f l c z s d q hs P =>
    rw [P.eq, ce_paper _ f l c z s d _ _ _ _ _ _ _ q hs P.wz P.ws P.wd P.cq P.kz P.ks P.kd, if_pos ⟨rfl, ⟨P.ok, rfl, P.lq⟩, rfl⟩]
  | recall sc p f l c z s d q day hs P h1 h2 =>
    rw [P.eq, ce_recall _ f l c z s d day _ _ _ _ _ _ _ q hs P.wz P.ws P.wd P.cq P.kz P.ks P.kd, if_pos ⟨rfl, ⟨P.ok, rfl, P.lq⟩, ⟨h1, h2⟩, rfl⟩]
  | weighing sc day ls a b hs h1 h2 L w k =>
    rw [ce_weighing _ day ls _ _ _ _ (by have := L.len; omega) hs w k, if_pos ⟨⟨rfl, ⟨h1, h2⟩, L.good, rfl⟩, rfl⟩]
  | known ls a b L k ha =>
    rw [ce_known ls a b (by have := L.len; omega) _ k, if_pos ⟨⟨L.good, ha⟩, rfl⟩]
  | find a x h1 h2 =>
    rw [ce_find, if_pos ⟨h1, h2⟩]
theorem scale_of (i : Int) : ∃ sc : Str, atI [D.str "ab", D.str "c", D.str "zzzz", D.str "a"] (i % 4) = some (.str sc) ∧ Sc sc := by
  have h : i % 4 = 0 ∨ i % 4 = 1 ∨ i % 4 = 2 ∨ i % 4 = 3 := by omega
  rcases h with h | h | h | h <;> rw [h]
  · exact ⟨"ab", rfl, isT_ok (by decide +kernel)⟩
  · exact ⟨"c", rfl, isT_ok (by decide +kernel)⟩
  · exact ⟨"zzzz", rfl, isT_ok (by decide +kernel)⟩
  · exact ⟨"a", rfl, isT_ok (by decide +kernel)⟩
theorem law_entry (n0 n1 n2 n3 n4 n5 n6 n7 n8 n9 : Int) : ∃ e, m_law_entry [.lst [.int n0, .int n1, .int n2, .int n3, .int n4, .int n5, .int n6, .int n7, .int n8, .int n9]] = .ok (.fr e) ∧ Ent e := by
  obtain ⟨sc, hsc, hs⟩ := scale_of (n0 / 5)
  obtain ⟨p, f, l, c, z, s, d, q, hp, P⟩ := law_paper n1 n2 n3 n4 n5 n6 [.int n7, .int n8, .int n9]
  have h : n0 % 5 = 0 ∨ n0 % 5 = 1 ∨ n0 % 5 = 2 ∨ n0 % 5 = 3 ∨ n0 % 5 = 4 := by omega
  rcases h with h | h | h | h | h
  · refine ⟨_, ?_, .paper sc p f l c z s d q hs P⟩
    simp [m_law_entry, b_law_entry, atI_lit, hsc, h, hp, cutD_lo]
  · refine ⟨_, ?_, .recall sc p f l c z s d q (n7 % 1000) hs P (by omega) (by omega)⟩
    simp [m_law_entry, b_law_entry, atI_lit, hsc, h, hp, cutD_lo]
  · obtain ⟨a, b, e1, w, k, ha⟩ := ratio40 n3 (n3 / 40)
    obtain ⟨ls, e2, L⟩ := law_lots n2
    refine ⟨_, ?_, .weighing sc (n1 % 1000) ls a b hs (by omega) (by omega) L w k⟩
    simp [m_law_entry, b_law_entry, atI_lit, hsc, h, e1, e2]
  · obtain ⟨a, b, e1, w, k, ha⟩ := ratio40 n2 (n2 / 40)
    obtain ⟨ls, e2, L⟩ := law_lots n1
    refine ⟨_, ?_, .known ls a b L k ha⟩
    simp [m_law_entry, b_law_entry, atI_lit, hsc, h, e1, e2]
  · refine ⟨_, ?_, .find (n1 % 100) (decide (n2 % 2 = 0)) (by omega) (by omega)⟩
    simp [m_law_entry, b_law_entry, atI_lit, hsc, h]
end K60

set_option linter.all false
set_option autoImplicit false
set_option maxRecDepth 100000
set_option maxHeartbeats 4000000
namespace K60
open PySem PySem.Spec L2 Lt
theorem pow_small {i : Nat} (h : i ≤ 100) : ((10 : Nat) ^ (50 * i)).log2 < 17000 := by
  have h1 : (10 : Nat) ^ (50 * i) ≤ 10 ^ 5000 := Nat.pow_le_pow_right (by decide) (by omega)
  have h2 : (10 : Nat) ^ 5000 < 2 ^ 17000 := by decide +kernel
  have h3 : (10 : Nat) ^ (50 * i) ≠ 0 := Nat.pos_iff_ne_zero.mp (Nat.pow_pos (by decide))
  exact (Nat.log2_lt h3).mpr (Nat.lt_of_le_of_lt h1 h2)
theorem great_run : ∃ n : Nat, n = 50 * (0 + 100) ∧ m_law_great [] = .ok (.fr (.int ((10 ^ n : Nat) : Int))) := by
  have st := for_inv (is := [1]) (body := lb_law_great_1) (fun i ρ => ∃ s, ρ = [.fr (.int ((10 ^ (50 * i) : Nat) : Int)), s]) (xs := rng 0 100) (i := 0) (ρ := [.fr (.int 1), .un]) ⟨_, rfl⟩ (fun k x ρ hk ⟨s, e⟩ => by
    subst e
    have hk' : k < 100 := by
      have := (List.getElem?_eq_some_iff.mp hk).1
      rwa [rng_len] at this
    have e1 : 0 + k = k := Nat.zero_add k
    have hm : mulOk ((10 ^ (50 * k) : Nat) : Int) 100000000000000000000000000000000000000000000000000 = true := by
      unfold mulOk
      have h1 := pow_small (i := k) (by omega)
      have h2 : (100000000000000000000000000000000000000000000000000 : Int).natAbs.log2 = 166 := by decide +kernel
      have h3 : ((10 ^ (50 * k) : Nat) : Int).natAbs = 10 ^ (50 * k) := Int.natAbs_natCast _
      rw [h2, h3]
      have : decide ((10 ^ (50 * k) : Nat).log2 + 166 < 1000000) = true := decide_eq_true (by omega)
      rw [this, Bool.or_true]
    refine ⟨[.fr (.int ((10 ^ (50 * (k + 1)) : Nat) : Int)), .fr x], .inl ?_, ⟨_, by rw [e1]⟩⟩
    have e2 : ((10 ^ (50 * k) : Nat) : Int) * 100000000000000000000000000000000000000000000000000 = ((10 ^ (50 * (k + 1)) : Nat) : Int) := by
      rw [show 50 * (k + 1) = 50 * k + 50 by omega, Nat.pow_add, Int.natCast_mul]
      rfl
    rw [e1]
    generalize ((10 ^ (50 * k) : Nat) : Int) = u at *
    generalize ((10 ^ (50 * (k + 1)) : Nat) : Int) = v at *
    simp [lb_law_great_1, hm, e2])
  obtain ⟨ρ', h1, s, h2⟩ := st
  rw [rng_len] at h2
  refine ⟨_, rfl, ?_⟩
  generalize hn : 50 * (0 + 100) = n at h2 ⊢
  subst h2
  simp -implicitDefEqProofs [m_law_great, b_law_great, l_law_great_1, rng_len, h1]
theorem w_great : m_is_weight [.tup [.int ((10 ^ 5000 : Nat) : Int), .int 1]] = .ok (.fr (.bl true)) := isT_ok (by decide +kernel)
theorem s_great : m_is_short [.tup [.int ((10 ^ 5000 : Nat) : Int), .int 1]] = .ok (.fr (.bl false)) := isF_ok (by decide +kernel)
theorem s_great2 : m_is_short [.tup [.int 1, .int ((10 ^ 5000 : Nat) : Int)]] = .ok (.fr (.bl false)) := isF_ok (by decide +kernel)
theorem great : ∃ g : Int, m_law_great [] = .ok (.fr (.int g)) ∧ m_is_weight [.tup [.int g, .int 1]] = .ok (.fr (.bl true)) ∧ m_is_short [.tup [.int g, .int 1]] = .ok (.fr (.bl false)) ∧ m_is_short [.tup [.int 1, .int g]] = .ok (.fr (.bl false)) := by
  obtain ⟨n, hn, h⟩ := great_run
  have : n = 5000 := by omega
  subst this
  exact ⟨_, h, w_great, s_great, s_great2⟩
end K60

set_option linter.all false
set_option autoImplicit false
set_option maxRecDepth 100000
set_option maxHeartbeats 4000000
namespace K60
open PySem PySem.Spec L2 Lt
def BadP (p : D) : Prop := ∀ (sc : Str) (day : Int), Sc sc → m_check_entry [.tup [.str "paper", .str sc, p]] = .exc "NotAllowed" ∧ m_check_entry [.tup [.str "recall", .str sc, p, .int day]] = .exc "NotAllowed"
theorem badP {f l c : Int} {z s d : D} {bz bt bd sz ss sd : Bool} {q : Int} (hz : m_is_weight [z] = .ok (.fr (.bl bz))) (ht : m_is_weight [s] = .ok (.fr (.bl bt))) (hd : m_is_weight [d] = .ok (.fr (.bl bd))) (hq : m_compare [s, .tup [.int 1, .int 1]] = .ok (.fr (.int q)))
    (kz : m_is_short [z] = .ok (.fr (.bl sz))) (ks : m_is_short [s] = .ok (.fr (.bl ss))) (kd : m_is_short [d] = .ok (.fr (.bl sd)))
    (bad : ¬ (((0 ≤ c ∧ c ≤ f ∧ f ≤ l ∧ l ≤ 999) ∧ (bz && bt && bd) = true ∧ q < 0) ∧ (sz && ss && sd) = true)) : BadP (.tup [.int f, .int l, z, s, d, .int c]) := fun sc day hs => by
  constructor
  · rw [ce_paper _ f l c z s d _ _ _ _ _ _ _ q hs hz ht hd hq kz ks kd, if_neg fun h => bad ⟨h.2.1, h.2.2⟩]
  · rw [ce_recall _ f l c z s d day _ _ _ _ _ _ _ q hs hz ht hd hq kz ks kd, if_neg fun h => bad ⟨h.2.1, h.2.2.2⟩]
theorem law_bad_paper (p : D) (f l c : Int) (z s d : D) (q n : Int) (P : Paper p f l c z s d q) : ∃ p', m_law_bad_paper [p, .int n] = .ok (.fr p') ∧ BadP p' := by
  obtain ⟨g, hg, gw, gs, _⟩ := great
  obtain ⟨rfl, ok, wz, ws, wd, kz, ks, kd, cq, lq⟩ := P
  have h : n % 11 = 0 ∨ n % 11 = 1 ∨ n % 11 = 2 ∨ n % 11 = 3 ∨ n % 11 = 4 ∨ n % 11 = 5 ∨ n % 11 = 6 ∨ n % 11 = 7 ∨ n % 11 = 8 ∨ n % 11 = 9 ∨ n % 11 = 10 := by omega
  rcases h with h | h | h | h | h | h | h | h | h | h | h
  · refine ⟨.tup [.int (l + 1), .int l, z, s, d, .int c], ?_, badP wz ws wd cq kz ks kd (by omega)⟩
    simp -implicitDefEqProofs [m_law_bad_paper, b_law_bad_paper, atI_lit, hg, h]
  · refine ⟨.tup [.int f, .int 1000, z, s, d, .int c], ?_, badP wz ws wd cq kz ks kd (by omega)⟩
    simp -implicitDefEqProofs [m_law_bad_paper, b_law_bad_paper, atI_lit, hg, h]
  · refine ⟨.tup [.int (-1), .int l, z, s, d, .int 0], ?_, badP wz ws wd cq kz ks kd (by omega)⟩
    simp -implicitDefEqProofs [m_law_bad_paper, b_law_bad_paper, atI_lit, hg, h]
  · refine ⟨.tup [.int f, .int l, z, s, d, .int (f + 1)], ?_, badP wz ws wd cq kz ks kd (by omega)⟩
    simp -implicitDefEqProofs [m_law_bad_paper, b_law_bad_paper, atI_lit, hg, h]
  · refine ⟨.tup [.int f, .int l, z, s, d, .int (-1)], ?_, badP wz ws wd cq kz ks kd (by omega)⟩
    simp -implicitDefEqProofs [m_law_bad_paper, b_law_bad_paper, atI_lit, hg, h]
  · refine ⟨.tup [.int f, .int l, .tup [.int (-1), .int 2], s, d, .int c], ?_, badP (bz := false) (sz := true) (isF_ok (by decide +kernel)) ws wd cq (isT_ok (by decide +kernel)) ks kd (by simp)⟩
    simp -implicitDefEqProofs [m_law_bad_paper, b_law_bad_paper, atI_lit, hg, h]
  · refine ⟨.tup [.int f, .int l, z, .tup [.int (-1), .int 9], d, .int c], ?_, badP (bt := false) (ss := true) (q := -1) wz (isF_ok (by decide +kernel)) wd (isI_ok (by decide +kernel)) kz (isT_ok (by decide +kernel)) kd (by simp)⟩
    simp -implicitDefEqProofs [m_law_bad_paper, b_law_bad_paper, atI_lit, hg, h]
  · refine ⟨.tup [.int f, .int l, z, .tup [.int 1, .int 1], d, .int c], ?_, badP (bt := true) (ss := true) (q := 0) wz (isT_ok (by decide +kernel)) wd (isI_ok (by decide +kernel)) kz (isT_ok (by decide +kernel)) kd (by simp)⟩
    simp -implicitDefEqProofs [m_law_bad_paper, b_law_bad_paper, atI_lit, hg, h]
  · refine ⟨.tup [.int f, .int l, z, .tup [.int 7, .int 5], d, .int c], ?_, badP (bt := true) (ss := true) (q := 1) wz (isT_ok (by decide +kernel)) wd (isI_ok (by decide +kernel)) kz (isT_ok (by decide +kernel)) kd (by simp)⟩
    simp -implicitDefEqProofs [m_law_bad_paper, b_law_bad_paper, atI_lit, hg, h]
  · refine ⟨.tup [.int f, .int l, z, s, .tup [.int (-1), .int 1], .int c], ?_, badP (bd := false) (sd := true) wz ws (isF_ok (by decide +kernel)) cq kz ks (isT_ok (by decide +kernel)) (by simp)⟩
    simp -implicitDefEqProofs [m_law_bad_paper, b_law_bad_paper, atI_lit, hg, h]
  · refine ⟨.tup [.int f, .int l, .tup [.int g, .int 1], s, d, .int c], ?_, badP gw ws wd cq gs ks kd (by simp)⟩
    simp -implicitDefEqProofs [m_law_bad_paper, b_law_bad_paper, atI_lit, hg, h]
/-! ### bad lots -/
theorem law_bad_lots {ls : List Int} (L : Lots ls) (n : Int) : ∃ ms : List Int, m_law_bad_lots [.tup (ls.map D.int), .int n] = .ok (.fr (.tup (ms.map D.int))) ∧ lotsB ms = false ∧ ms.length ≤ 9 := by
  have h : n % 6 = 0 ∨ n % 6 = 1 ∨ n % 6 = 2 ∨ n % 6 = 3 ∨ n % 6 = 4 ∨ n % 6 = 5 := by omega
  cases L with
  | one a h0 h1 =>
    rcases h with h | h | h | h | h | h
    · refine ⟨[], ?_, ?_, by simp⟩
      · simp -implicitDefEqProofs [m_law_bad_lots, b_law_bad_lots, atI_lit, Lt.atI_last, cutD_lm1, cutD_hi, h]
      · simp [lotsB, inB, ascB] <;> omega
    · refine ⟨[a, a], ?_, ?_, by simp⟩
      · simp -implicitDefEqProofs [m_law_bad_lots, b_law_bad_lots, atI_lit, Lt.atI_last, cutD_lm1, cutD_hi, h]
      · simp [lotsB, inB, ascB] <;> omega
    · refine ⟨[a, a - 1], ?_, ?_, by simp⟩
      · simp -implicitDefEqProofs [m_law_bad_lots, b_law_bad_lots, atI_lit, Lt.atI_last, cutD_lm1, cutD_hi, h]
      · simp [lotsB, inB, ascB] <;> omega
    · refine ⟨[-1, a], ?_, ?_, by simp⟩
      · simp -implicitDefEqProofs [m_law_bad_lots, b_law_bad_lots, atI_lit, Lt.atI_last, cutD_lm1, cutD_hi, h]
      · simp [lotsB, inB, ascB] <;> omega
    · refine ⟨[a, 100], ?_, ?_, by simp⟩
      · simp -implicitDefEqProofs [m_law_bad_lots, b_law_bad_lots, atI_lit, Lt.atI_last, cutD_lm1, cutD_hi, h]
      · simp [lotsB, inB, ascB] <;> omega
    · refine ⟨[0, 1, 2, 3, 4, 5, 6, 7, 8], ?_, ?_, by simp⟩
      · simp -implicitDefEqProofs [m_law_bad_lots, b_law_bad_lots, atI_lit, Lt.atI_last, cutD_lm1, cutD_hi, h]
      · simp [lotsB, inB, ascB] <;> omega
  | two a b h0 h1 h2 h3 =>
    rcases h with h | h | h | h | h | h
    · refine ⟨[], ?_, ?_, by simp⟩
      · simp -implicitDefEqProofs [m_law_bad_lots, b_law_bad_lots, atI_lit, Lt.atI_last, cutD_lm1, cutD_hi, h]
      · simp [lotsB, inB, ascB] <;> omega
    · refine ⟨[a, b, b], ?_, ?_, by simp⟩
      · simp -implicitDefEqProofs [m_law_bad_lots, b_law_bad_lots, atI_lit, Lt.atI_last, cutD_lm1, cutD_hi, h]
      · simp [lotsB, inB, ascB] <;> omega
    · refine ⟨[a, b, b - 1], ?_, ?_, by simp⟩
      · simp -implicitDefEqProofs [m_law_bad_lots, b_law_bad_lots, atI_lit, Lt.atI_last, cutD_lm1, cutD_hi, h]
      · simp [lotsB, inB, ascB] <;> omega
    · refine ⟨[-1, a, b], ?_, ?_, by simp⟩
      · simp -implicitDefEqProofs [m_law_bad_lots, b_law_bad_lots, atI_lit, Lt.atI_last, cutD_lm1, cutD_hi, h]
      · simp [lotsB, inB, ascB] <;> omega
    · refine ⟨[a, 100], ?_, ?_, by simp⟩
      · simp -implicitDefEqProofs [m_law_bad_lots, b_law_bad_lots, atI_lit, Lt.atI_last, cutD_lm1, cutD_hi, h]
      · simp [lotsB, inB, ascB] <;> omega
    · refine ⟨[0, 1, 2, 3, 4, 5, 6, 7, 8], ?_, ?_, by simp⟩
      · simp -implicitDefEqProofs [m_law_bad_lots, b_law_bad_lots, atI_lit, Lt.atI_last, cutD_lm1, cutD_hi, h]
      · simp [lotsB, inB, ascB] <;> omega
  | three a b c h0 h1 h2 h3 h4 h5 =>
    rcases h with h | h | h | h | h | h
    · refine ⟨[], ?_, ?_, by simp⟩
      · simp -implicitDefEqProofs [m_law_bad_lots, b_law_bad_lots, atI_lit, Lt.atI_last, cutD_lm1, cutD_hi, h]
      · simp [lotsB, inB, ascB] <;> omega
    · refine ⟨[a, b, c, c], ?_, ?_, by simp⟩
      · simp -implicitDefEqProofs [m_law_bad_lots, b_law_bad_lots, atI_lit, Lt.atI_last, cutD_lm1, cutD_hi, h]
      · simp [lotsB, inB, ascB] <;> omega
    · refine ⟨[a, b, c, c - 1], ?_, ?_, by simp⟩
      · simp -implicitDefEqProofs [m_law_bad_lots, b_law_bad_lots, atI_lit, Lt.atI_last, cutD_lm1, cutD_hi, h]
      · simp [lotsB, inB, ascB] <;> omega
    · refine ⟨[-1, a, b, c], ?_, ?_, by simp⟩
      · simp -implicitDefEqProofs [m_law_bad_lots, b_law_bad_lots, atI_lit, Lt.atI_last, cutD_lm1, cutD_hi, h]
      · simp [lotsB, inB, ascB] <;> omega
    · refine ⟨[a, 100], ?_, ?_, by simp⟩
      · simp -implicitDefEqProofs [m_law_bad_lots, b_law_bad_lots, atI_lit, Lt.atI_last, cutD_lm1, cutD_hi, h]
      · simp [lotsB, inB, ascB] <;> omega
    · refine ⟨[0, 1, 2, 3, 4, 5, 6, 7, 8], ?_, ?_, by simp⟩
      · simp -implicitDefEqProofs [m_law_bad_lots, b_law_bad_lots, atI_lit, Lt.atI_last, cutD_lm1, cutD_hi, h]
      · simp [lotsB, inB, ascB] <;> omega
  | four a b c d h0 h1 h2 h3 h4 h5 h6 h7 =>
    rcases h with h | h | h | h | h | h
    · refine ⟨[], ?_, ?_, by simp⟩
      · simp -implicitDefEqProofs [m_law_bad_lots, b_law_bad_lots, atI_lit, Lt.atI_last, cutD_lm1, cutD_hi, h]
      · simp [lotsB, inB, ascB] <;> omega
    · refine ⟨[a, b, c, d, d], ?_, ?_, by simp⟩
      · simp -implicitDefEqProofs [m_law_bad_lots, b_law_bad_lots, atI_lit, Lt.atI_last, cutD_lm1, cutD_hi, h]
      · simp [lotsB, inB, ascB] <;> omega
    · refine ⟨[a, b, c, d, d - 1], ?_, ?_, by simp⟩
      · simp -implicitDefEqProofs [m_law_bad_lots, b_law_bad_lots, atI_lit, Lt.atI_last, cutD_lm1, cutD_hi, h]
      · simp [lotsB, inB, ascB] <;> omega
    · refine ⟨[-1, a, b, c, d], ?_, ?_, by simp⟩
      · simp -implicitDefEqProofs [m_law_bad_lots, b_law_bad_lots, atI_lit, Lt.atI_last, cutD_lm1, cutD_hi, h]
      · simp [lotsB, inB, ascB] <;> omega
    · refine ⟨[a, 100], ?_, ?_, by simp⟩
      · simp -implicitDefEqProofs [m_law_bad_lots, b_law_bad_lots, atI_lit, Lt.atI_last, cutD_lm1, cutD_hi, h]
      · simp [lotsB, inB, ascB] <;> omega
    · refine ⟨[0, 1, 2, 3, 4, 5, 6, 7, 8], ?_, ?_, by simp⟩
      · simp -implicitDefEqProofs [m_law_bad_lots, b_law_bad_lots, atI_lit, Lt.atI_last, cutD_lm1, cutD_hi, h]
      · simp [lotsB, inB, ascB] <;> omega
end K60

set_option linter.all false
set_option autoImplicit false
set_option maxRecDepth 100000
set_option maxHeartbeats 4000000
namespace K60
open PySem PySem.Spec L2 Lt
theorem kind_of (i : Int) : ∃ k : Str, atI [D.str "Paper", D.str "", D.str "weight", D.str "finds"] (i % 4) = some (.str k) ∧ (k = "Paper" ∨ k = "" ∨ k = "weight" ∨ k = "finds") := by
  have h : i % 4 = 0 ∨ i % 4 = 1 ∨ i % 4 = 2 ∨ i % 4 = 3 := by omega
  rcases h with h | h | h | h <;> rw [h]
  · exact ⟨"Paper", rfl, .inl rfl⟩
  · exact ⟨"", rfl, .inr (.inl rfl)⟩
  · exact ⟨"weight", rfl, .inr (.inr (.inl rfl))⟩
  · exact ⟨"finds", rfl, .inr (.inr (.inr rfl))⟩
abbrev NoSc (sc : Str) : Prop := m_is_scale [.str sc] = .ok (.fr (.bl false))
theorem bad_scale5 (i : Int) : ∃ k : Str, atI [D.str "", D.str "abcde", D.str "A", D.str "a1", D.str "a b"] (i % 5) = some (.str k) ∧ NoSc k := by
  have h : i % 5 = 0 ∨ i % 5 = 1 ∨ i % 5 = 2 ∨ i % 5 = 3 ∨ i % 5 = 4 := by omega
  rcases h with h | h | h | h | h <;> rw [h]
  · exact ⟨"", rfl, isF_ok (by decide +kernel)⟩
  · exact ⟨"abcde", rfl, isF_ok (by decide +kernel)⟩
  · exact ⟨"A", rfl, isF_ok (by decide +kernel)⟩
  · exact ⟨"a1", rfl, isF_ok (by decide +kernel)⟩
  · exact ⟨"a b", rfl, isF_ok (by decide +kernel)⟩
theorem bad_scale3 (i : Int) : ∃ k : Str, atI [D.str "", D.str "abcde", D.str "A"] (i % 3) = some (.str k) ∧ NoSc k := by
  have h : i % 3 = 0 ∨ i % 3 = 1 ∨ i % 3 = 2 := by omega
  rcases h with h | h | h <;> rw [h]
  · exact ⟨"", rfl, isF_ok (by decide +kernel)⟩
  · exact ⟨"abcde", rfl, isF_ok (by decide +kernel)⟩
  · exact ⟨"A", rfl, isF_ok (by decide +kernel)⟩
theorem bad_day (i : Int) : ∃ v : Int, atI [D.int (-1), D.int 1000] (i % 2) = some (.int v) ∧ (v < 0 ∨ 999 < v) := by
  have h : i % 2 = 0 ∨ i % 2 = 1 := by omega
  rcases h with h | h <;> rw [h]
  · exact ⟨-1, rfl, .inl (by decide)⟩
  · exact ⟨1000, rfl, .inr (by decide)⟩
theorem p60 : m_is_short [.tup [.int 1000000000000000000000000000000000000000000000000000000000000, .int 1]] = .ok (.fr (.bl false)) := isF_ok (by decide +kernel)
theorem n13 : m_is_short [.tup [.int (-1), .int 3]] = .ok (.fr (.bl true)) := isT_ok (by decide +kernel)
theorem w13 : m_is_weight [.tup [.int (-1), .int 3]] = .ok (.fr (.bl false)) := isF_ok (by decide +kernel)
theorem law_bad {e : D} (h : Ent e) (b0 b1 b2 b3 b4 : Int) (r : List D) : ∃ rows, m_law_bad [e, .lst (.int b0 :: .int b1 :: .int b2 :: .int b3 :: .int b4 :: r)] = .ok (.nw rows) ∧ (∀ x ∈ rows, m_check_entry [x] = .exc "NotAllowed") ∧ rows.length ≤ 100 := by
  obtain ⟨k, hk, hkk⟩ := kind_of b0
  cases h with
  | paper sc p f l c z s d q hs P =>
    obtain ⟨p', hp', B⟩ := law_bad_paper p f l c z s d q b1 P
    obtain ⟨s5, hs5, n5⟩ := bad_scale5 b2
    refine ⟨[.tup [.str "paper", .str sc, p, .int 0], .tup [.str "paper", .str sc], .tup [.str k, .str sc, p], .tup [.str "paper", .str sc, p'], .tup [.str "paper", .str s5, p]], ?_, ?_, by simp⟩
    · simp -implicitDefEqProofs [m_law_bad, b_law_bad, atI_lit, cutD_m1, cutD_lo, cutD_hi, hk, hp', hs5, dInL, eqOk, dEq, toP, str_beq]
    · intro x hx
      simp only [List.mem_cons, List.not_mem_nil, or_false] at hx
      rcases hx with rfl | rfl | rfl | rfl | rfl
      · exact len_paper _ (by simp)
      · exact len_paper _ (by simp)
      · exact bad_kind k _ hkk
      · exact (B sc 0 hs).1
      · rw [P.eq, ce_paper _ f l c z s d _ _ _ _ _ _ _ q n5 P.wz P.ws P.wd P.cq P.kz P.ks P.kd, if_neg (by simp)]
  | recall sc p f l c z s d q day hs P h1 h2 =>
    obtain ⟨p', hp', B⟩ := law_bad_paper p f l c z s d q b1 P
    obtain ⟨s5, hs5, n5⟩ := bad_scale5 b2
    obtain ⟨v, hv, hv2⟩ := bad_day b3
    refine ⟨[.tup [.str "recall", .str sc, p, .int day, .int 0], .tup [.str "recall", .str sc, p], .tup [.str k, .str sc, p, .int day], .tup [.str "recall", .str sc, p', .int day], .tup [.str "recall", .str s5, p, .int day], .tup [.str "recall", .str sc, p, .int v]], ?_, ?_, by simp⟩
    · simp -implicitDefEqProofs [m_law_bad, b_law_bad, atI_lit, cutD_m1, cutD_lo, cutD_hi, hk, hp', hs5, hv, dInL, eqOk, dEq, toP, str_beq]
    · intro x hx
      simp only [List.mem_cons, List.not_mem_nil, or_false] at hx
      rcases hx with rfl | rfl | rfl | rfl | rfl | rfl
      · exact len_recall _ (by simp)
      · exact len_recall _ (by simp)
      · exact bad_kind k _ hkk
      · exact (B sc day hs).2
      · rw [P.eq, ce_recall _ f l c z s d day _ _ _ _ _ _ _ q n5 P.wz P.ws P.wd P.cq P.kz P.ks P.kd, if_neg (by simp)]
      · rw [P.eq, ce_recall _ f l c z s d v _ _ _ _ _ _ _ q hs P.wz P.ws P.wd P.cq P.kz P.ks P.kd, if_neg (by omega)]
  | weighing sc day ls a b hs h1 h2 L w ks =>
    obtain ⟨s3, hs3, n3⟩ := bad_scale3 b2
    obtain ⟨v, hv, hv2⟩ := bad_day b3
    obtain ⟨ms, hms, hb, hl⟩ := law_bad_lots L b4
    have hls := L.len
    refine ⟨[.tup [.str "weighing", .str sc, .int day, .tup (ls.map D.int), .tup [.int a, .int b], .int 0], .tup [.str "weighing", .str sc, .int day, .tup (ls.map D.int)], .tup [.str k, .str sc, .int day, .tup (ls.map D.int), .tup [.int a, .int b]],
      .tup [.str "weighing", .str s3, .int day, .tup (ls.map D.int), .tup [.int a, .int b]], .tup [.str "weighing", .str sc, .int v, .tup (ls.map D.int), .tup [.int a, .int b]], .tup [.str "weighing", .str sc, .int day, .tup (ms.map D.int), .tup [.int a, .int b]], .tup [.str "weighing", .str sc, .int day, .tup (ls.map D.int), .tup [.int (-1), .int 3]]], ?_, ?_, by simp⟩
    · simp -implicitDefEqProofs [m_law_bad, b_law_bad, atI_lit, cutD_m1, cutD_lo, cutD_hi, hk, hs3, hv, hms, dInL, eqOk, dEq, toP, str_beq]
    · intro x hx
      simp only [List.mem_cons, List.not_mem_nil, or_false] at hx
      rcases hx with rfl | rfl | rfl | rfl | rfl | rfl | rfl
      · exact len_weighing _ (by simp)
      · exact len_weighing _ (by simp)
      · exact bad_kind k _ hkk
      · rw [ce_weighing _ day ls _ _ _ _ (by omega) n3 w ks, if_neg (by simp)]
      · rw [ce_weighing _ v ls _ _ _ _ (by omega) hs w ks, if_neg (by omega)]
      · rw [ce_weighing _ day ms _ _ _ _ (by omega) hs w ks, if_neg (by simp [hb])]
      · rw [ce_weighing _ day ls _ _ _ _ (by omega) hs w13 n13, if_neg (by simp)]
  | known ls a b L ks ha =>
    obtain ⟨g, hg, gw, gs, gs2⟩ := great
    obtain ⟨ms, hms, hb, hl⟩ := law_bad_lots L b4
    have hls := L.len
    refine ⟨[.tup [.str "known", .tup (ls.map D.int), .tup [.int a, .int b], .int 0], .tup [.str "known", .tup (ls.map D.int)], .tup [.str k, .tup (ls.map D.int), .tup [.int a, .int b]],
      .tup [.str "known", .tup (ls.map D.int), .tup [.int g, .int 1]], .tup [.str "known", .tup (ls.map D.int), .tup [.int 1, .int g]], .tup [.str "known", .tup (ls.map D.int), .tup [.int 1000000000000000000000000000000000000000000000000000000000000, .int 1]], .tup [.str "known", .tup (ms.map D.int), .tup [.int a, .int b]], .tup [.str "known", .tup (ls.map D.int), .tup [.int (-1), .int 3]]], ?_, ?_, by simp⟩
    · simp -implicitDefEqProofs [m_law_bad, b_law_bad, atI_lit, cutD_m1, cutD_lo, cutD_hi, hk, hg, hms, dInL, eqOk, dEq, toP, str_beq]
    · intro x hx
      simp only [List.mem_cons, List.not_mem_nil, or_false] at hx
      rcases hx with rfl | rfl | rfl | rfl | rfl | rfl | rfl | rfl
      · exact len_known _ (by simp)
      · exact len_known _ (by simp)
      · exact bad_kind k _ hkk
      · rw [ce_known ls _ _ (by omega) _ gs, if_neg (by simp)]
      · rw [ce_known ls _ _ (by omega) _ gs2, if_neg (by simp)]
      · rw [ce_known ls _ _ (by omega) _ p60, if_neg (by simp)]
      · rw [ce_known ms _ _ (by omega) _ ks, if_neg (by simp [hb])]
      · rw [ce_known ls _ _ (by omega) _ n13, if_neg (by simp)]
  | find a x h1 h2 =>
    refine ⟨[.tup [.str "find", .int a, .bl x, .int 0], .tup [.str "find", .int a], .tup [.str k, .int a, .bl x], .tup [.str "find", .int (-1), .bl x], .tup [.str "find", .int 100, .bl x]], ?_, ?_, by simp⟩
    · simp -implicitDefEqProofs [m_law_bad, b_law_bad, atI_lit, cutD_m1, cutD_lo, cutD_hi, hk, dInL, eqOk, dEq, toP, str_beq]
    · intro y hy
      simp only [List.mem_cons, List.not_mem_nil, or_false] at hy
      rcases hy with rfl | rfl | rfl | rfl | rfl
      · exact len_find _ (by simp)
      · exact len_find _ (by simp)
      · exact bad_kind k _ hkk
      · rw [ce_find, if_neg (by omega)]
      · rw [ce_find, if_neg (by omega)]
end K60

set_option linter.all false
set_option autoImplicit false
set_option maxRecDepth 100000
set_option maxHeartbeats 4000000
namespace K60
open PySem PySem.Spec L2 Lt
section
variable {sc : List Int} {m : Nat}
/-! ### the numbers of a law -/
abbrev en1 (sc : List Int) (m : Nat) (ns : List Int) (s3 s4 s5 s6 s7 s8 : Slot) : En := [.fr (.rol (sc.map D.int)), .fr (.int m), .ow (ns.map D.int), s3, s4, s5, s6, s7, s8]
theorem num2 (hm : m ≤ 1000) (ns : List Int) (s3 s5 s6 s7 s8 : Slot) (c : Int) (hn : ns.length ≤ m) : ∃ ρ', forL [5] bName lb_law_numbers_2 (rng 0 60) (en1 sc m ns s3 (.fr (.int c)) s5 s6 s7 s8) = .nx ρ' ∧ ∃ ms s4 s5, ρ' = en1 sc m ms s3 s4 s5 s6 s7 s8 ∧ ms.length ≤ m := by
  have st := for_inv (is := [5]) (body := lb_law_numbers_2) (fun _ ρ => ∃ ms c s5, ρ = en1 sc m ms s3 (.fr (.int c)) s5 s6 s7 s8 ∧ ms.length ≤ m) (xs := rng 0 60) (i := 0) (ρ := en1 sc m ns s3 (.fr (.int c)) s5 s6 s7 s8) ⟨_, _, _, rfl, hn⟩ (fun k x ρ hk ⟨ms, c, t5, e, hl⟩ => by
    subst e
    by_cases h1 : 0 < c
    · by_cases h2 : ms.length < m
      · refine ⟨en1 sc m (ms ++ [c % 10007]) s3 (.fr (.int (c / 10007))) (.fr x) s6 s7 s8, .inl ?_, ⟨_, _, _, rfl, by simp; omega⟩⟩
        have h3 : ms.length < 1000000 := by omega
        simp -implicitDefEqProofs [lb_law_numbers_2, h1, h2, h3]
      · refine ⟨en1 sc m ms s3 (.fr (.int c)) (.fr x) s6 s7 s8, .inl ?_, ⟨_, _, _, rfl, hl⟩⟩
        simp -implicitDefEqProofs [lb_law_numbers_2, h1, h2]
    · refine ⟨en1 sc m ms s3 (.fr (.int c)) (.fr x) s6 s7 s8, .inl ?_, ⟨_, _, _, rfl, hl⟩⟩
      simp -implicitDefEqProofs [lb_law_numbers_2, h1])
  obtain ⟨ρ', h1, ms, c', t5, h2, h3⟩ := st
  exact ⟨ρ', h1, ms, _, _, h2, h3⟩
theorem num3 (hm : m ≤ 1000) (hs : sc.length ≤ 63) : ∃ ρ', forL [3] bName lb_law_numbers_3 (rng 0 sc.length) (en1 sc m [] .un .un .un .un .un .un) = .nx ρ' ∧ ∃ ms s3 s4 s5 s6, ρ' = en1 sc m ms s3 s4 s5 s6 .un .un ∧ ms.length ≤ m := by
  have st := for_inv (is := [3]) (body := lb_law_numbers_3) (fun _ ρ => ∃ ms s3 s4 s5 s6, ρ = en1 sc m ms s3 s4 s5 s6 .un .un ∧ ms.length ≤ m) (xs := rng 0 sc.length) (i := 0) (ρ := en1 sc m [] .un .un .un .un .un .un) ⟨_, _, _, _, _, rfl, Nat.zero_le _⟩ (fun k x ρ hk ⟨ms, t3, t4, t5, t6, e, hl⟩ => by
    subst e
    have hk' : k < sc.length := by
      have := (List.getElem?_eq_some_iff.mp hk).1
      rwa [rng_len] at this
    have hx := rng_get hk
    subst hx
    have hv : atI (sc.map D.int) (0 + (k : Int)) = some (.int sc[k]) := by
      rw [atI_lit (by omega), show (0 + (k : Int)).toNat = k by omega, List.getElem?_map, List.getElem?_eq_getElem hk']
      rfl
    generalize sc[k] = v at hv
    generalize (0 + (k : Int)) = kk at hv
    generalize hc : (if v < 0 then -v else v) = c
    by_cases h1 : 1000000000000000000 ≤ c
    · obtain ⟨ρ2, g1, ms2, u4, u5, g2, g3⟩ := num2 (sc := sc) hm ms (.fr (.int kk)) t5 t6 .un .un c hl
      subst g2
      refine ⟨_, .inl ?_, ⟨ms2, .fr (.int kk), u4, u5, t6, rfl, g3⟩⟩
      simp -implicitDefEqProofs [lb_law_numbers_3, l_law_numbers_2, hv, hc, h1, rng_len, g1]
    · by_cases h2 : ms.length < m
      · refine ⟨en1 sc m (ms ++ [(((c * 48271 + kk * 69621 + 11) % 2147483647) * 16807 + 7 * kk + 3) % 2147483647 / 3]) (.fr (.int kk)) (.fr (.int c)) t5 (.fr (.int ((c * 48271 + kk * 69621 + 11) % 2147483647))) .un .un, .inl ?_, ⟨_, _, _, _, _, rfl, by simp; omega⟩⟩
        have h3 : ms.length < 1000000 := by omega
        simp -implicitDefEqProofs [lb_law_numbers_3, hv, hc, h1, h2, h3, mulOk_r, mulOk_l]
      · refine ⟨en1 sc m ms (.fr (.int kk)) (.fr (.int c)) t5 t6 .un .un, .inl ?_, ⟨_, _, _, _, _, rfl, hl⟩⟩
        simp -implicitDefEqProofs [lb_law_numbers_3, hv, hc, h1, h2])
  obtain ⟨ρ', h1, h2⟩ := st
  exact ⟨ρ', h1, h2⟩
theorem num1 (hm : m ≤ 1000) (ns : List Int) (s3 s4 s5 s6 : Slot) (last : Int) (n : Nat) (hn : ns.length + n = m) : ∃ ρ', forL [3] bName lb_law_numbers_1 (rng 0 n) (en1 sc m ns s3 s4 s5 s6 (.fr (.int ns.length)) (.fr (.int last))) = .nx ρ' ∧ ∃ ms s3 s8, ρ' = en1 sc m ms s3 s4 s5 s6 (.fr (.int ns.length)) s8 ∧ ms.length = m := by
  have st := for_inv (is := [3]) (body := lb_law_numbers_1) (fun i ρ => ∃ ms s3 last, ρ = en1 sc m ms s3 s4 s5 s6 (.fr (.int ns.length)) (.fr (.int last)) ∧ ms.length = ns.length + i) (xs := rng 0 n) (i := 0) (ρ := en1 sc m ns s3 s4 s5 s6 (.fr (.int ns.length)) (.fr (.int last))) ⟨_, _, _, rfl, rfl⟩ (fun k x ρ hk ⟨ms, t3, la, e, hl⟩ => by
    subst e
    have hk' : k < n := by
      have := (List.getElem?_eq_some_iff.mp hk).1
      rwa [rng_len] at this
    have hx := rng_get hk
    subst hx
    generalize (0 + (k : Int)) = kk
    have h3 : ms.length < 1000000 := by omega
    by_cases h1 : 0 < ns.length
    · have hb := Int.emod_nonneg kk (b := (ns.length : Int)) (by omega)
      have hb2 := Int.emod_lt_of_pos kk (b := (ns.length : Int)) (by omega)
      have q : (kk % (ns.length : Int)).toNat < ms.length := by omega
      have hv : atI (ms.map D.int) (kk % (ns.length : Int)) = some (.int ms[(kk % (ns.length : Int)).toNat]) := by
        rw [atI_lit hb, List.getElem?_map, List.getElem?_eq_getElem q]
        rfl
      generalize ms[(kk % (ns.length : Int)).toNat] = v at hv
      have h1' : (0 : Int) < (ns.length : Int) := by omega
      generalize (ns.length : Int) = b at *
      refine ⟨en1 sc m (ms ++ [(((la + v) * 48271 + kk) % 2147483647) / 7]) (.fr (.int kk)) s4 s5 s6 (.fr (.int b)) (.fr (.int (((la + v) * 48271 + kk) % 2147483647))), .inl ?_, ⟨_, _, _, rfl, by simp; omega⟩⟩
      · simp -implicitDefEqProofs [lb_law_numbers_1, h1', hv, h3, mulOk_r, mulOk_l]
    · have h1' : ¬ (0 : Int) < (ns.length : Int) := by omega
      generalize (ns.length : Int) = b at *
      refine ⟨en1 sc m (ms ++ [((la * 48271 + kk) % 2147483647) / 7]) (.fr (.int kk)) s4 s5 s6 (.fr (.int b)) (.fr (.int ((la * 48271 + kk) % 2147483647))), .inl ?_, ⟨_, _, _, rfl, by simp; omega⟩⟩
      · simp -implicitDefEqProofs [lb_law_numbers_1, h1', h3, mulOk_r, mulOk_l])
  obtain ⟨ρ', h1, ms, t3, la, h2, h3⟩ := st
  rw [rng_len] at h3
  exact ⟨ρ', h1, ms, _, _, h2, by omega⟩
end
theorem law_numbers (sc : List Int) (m : Nat) (hm : m ≤ 1000) (hs : sc.length ≤ 63) : ∃ ns : List Int, m_law_numbers [.rol (sc.map D.int), .int m] = .ok (.nw (ns.map D.int)) ∧ ns.length = m := by
  obtain ⟨_, h1, ns, t3, t4, t5, t6, rfl, hn⟩ := num3 (sc := sc) hm hs
  obtain ⟨_, g1, ms, u3, u8, rfl, hl⟩ := num1 (sc := sc) hm ns t3 t4 t5 t6 (5381 + (sc.length : Int)) (m - ns.length) (by omega)
  have a1 : l_law_numbers_3 (en1 sc m [] .un .un .un .un .un .un) = .nx (en1 sc m ns t3 t4 t5 t6 .un .un) := by
    unfold l_law_numbers_3
    rw [oFor_eq, sR1_eq _ _ (sc.length : Int) (by simp) (by omega) (by omega)]
    simp only [out_ok, Int.toNat_natCast, rng_len, h1]
    rw [decide_eq_true (by simp; omega)]
    rfl
  have a2 : l_law_numbers_1 (en1 sc m ns t3 t4 t5 t6 (.fr (.int ns.length)) (.fr (.int (5381 + (sc.length : Int))))) = .nx (en1 sc m ms u3 t4 t5 t6 (.fr (.int ns.length)) u8) := by
    unfold l_law_numbers_1
    rw [oFor_eq, sR1_eq _ _ ((m - ns.length : Nat) : Int) (by
      simp -implicitDefEqProofs
      split <;> omega) (by omega) (by omega)]
    simp only [out_ok, Int.toNat_natCast, rng_len, g1]
    rw [decide_eq_true (by simp; omega)]
    rfl
  refine ⟨ms, ?_, hl⟩
  have e : (ms.map D.int).take m = ms.map D.int := List.take_of_length_le (by rw [List.length_map]; omega)
  have hm0 : (0 : Int) ≤ (m : Int) := by omega
  simp only [en1, List.map_nil] at a1 a2
  simp -implicitDefEqProofs [m_law_numbers, b_law_numbers, a1, a2, cutD_hi, e]
end K60

set_option linter.all false
set_option autoImplicit false
set_option maxRecDepth 100000
set_option maxHeartbeats 4000000
namespace K60
open PySem PySem.Spec L2 Lt
theorem ten {xs : List Int} (h : xs.length = 10) : ∃ a0 a1 a2 a3 a4 a5 a6 a7 a8 a9, xs = [a0, a1, a2, a3, a4, a5, a6, a7, a8, a9] := by
  match xs, h with
  | [a0, a1, a2, a3, a4, a5, a6, a7, a8, a9], _ => exact ⟨a0, a1, a2, a3, a4, a5, a6, a7, a8, a9, rfl⟩
theorem five {xs : List Int} (h : 5 ≤ xs.length) : ∃ a0 a1 a2 a3 a4 r, xs = a0 :: a1 :: a2 :: a3 :: a4 :: r := by
  match xs, h with
  | a0 :: a1 :: a2 :: a3 :: a4 :: r, _ => exact ⟨a0, a1, a2, a3, a4, r, rfl⟩
abbrev en7 (S : D) (ns : List Int) (s2 s3 s4 : Slot) : En := [.fr S, .ow (ns.map D.int), s2, s3, s4, .un, .un]
/-- the loop over what is refused -/
theorem refs {S : D} {ns : List Int} {s2 s3 s4 : Slot} (rows : List D) (h : ∀ x ∈ rows, m_check_entry [x] = .exc "NotAllowed") : ∃ s4', forL [4] bName lb_law_1 rows (en7 S ns s2 s3 s4) = .nx (en7 S ns s2 s3 s4') := by
  have st := for_inv (is := [4]) (body := lb_law_1) (fun _ ρ => ∃ s4, ρ = en7 S ns s2 s3 s4) (xs := rows) (i := 0) (ρ := en7 S ns s2 s3 s4) ⟨_, rfl⟩ (fun k x ρ hk ⟨t4, e⟩ => by
    subst e
    have hx := refused (h x (List.mem_of_getElem? hk))
    refine ⟨en7 S ns s2 s3 (.fr x), .inl ?_, ⟨_, rfl⟩⟩
    simp -implicitDefEqProofs [lb_law_1, hx])
  obtain ⟨ρ', h1, t4, rfl⟩ := st
  exact ⟨t4, h1⟩
theorem body2 {S : D} {ns : List Int} (hl : ns.length = 80) (k : Nat) (hk : k < 5) (s2 s3 s4 : Slot) : ∃ s3' s4', lb_law_2 (setE (en7 S ns s2 s3 s4) [2] [.int (0 + (k : Int))]) = .nx (en7 S ns (.fr (.int (0 + (k : Int)))) s3' s4') := by
  have l1 : ((ns.drop (12 * k)).take 10).length = 10 := by rw [List.length_take, List.length_drop]; omega
  obtain ⟨a0, a1, a2, a3, a4, a5, a6, a7, a8, a9, e1⟩ := ten l1
  have l2 : 5 ≤ (ns.drop (60 + 2 * k)).length := by rw [List.length_drop]; omega
  obtain ⟨b0, b1, b2, b3, b4, r, e2⟩ := five l2
  obtain ⟨e, he, E⟩ := law_entry a0 a1 a2 a3 a4 a5 a6 a7 a8 a9
  obtain ⟨rows, hr, hb, hl2⟩ := law_bad E b0 b1 b2 b3 b4 (r.map D.int)
  have hok := ent_ok E
  have c1 : cutD (ns.map D.int) (some (12 * (0 + (k : Int)))) (some (12 * (0 + (k : Int)) + 10)) = [.int a0, .int a1, .int a2, .int a3, .int a4, .int a5, .int a6, .int a7, .int a8, .int a9] := by
    rw [cutD_lh (by omega) (by omega) (by rw [List.length_map]; omega) (by rw [List.length_map]; omega), show (12 * (0 + (k : Int))).toNat = 12 * k by omega, show (12 * (0 + (k : Int)) + 10).toNat - 12 * k = 10 by omega, ← List.map_drop, ← List.map_take, e1]
    rfl
  have c2 : cutD (ns.map D.int) (some (60 + 2 * (0 + (k : Int)))) none = .int b0 :: .int b1 :: .int b2 :: .int b3 :: .int b4 :: r.map D.int := by
    rw [cutD_lo (by omega), show (60 + 2 * (0 + (k : Int))).toNat = 60 + 2 * k by omega, ← List.map_drop, e2]
    rfl
  generalize (0 + (k : Int)) = kk at *
  obtain ⟨t4, hf⟩ := refs (S := S) (ns := ns) (s2 := .fr (.int kk)) (s3 := .fr e) (s4 := s4) rows hb
  refine ⟨.fr e, t4, ?_⟩
  have hl3 : rows.length ≤ 1000000 := by omega
  simp -implicitDefEqProofs [lb_law_2, l_law_1, c1, c2, he, hok, hr, hf, hl3, mulOk_l]
theorem loop2 {S : D} {ns : List Int} (hl : ns.length = 80) : ∃ s2 s3 s4, forL [2] bName lb_law_2 (rng 0 5) (en7 S ns .un .un .un) = .nx (en7 S ns s2 s3 s4) := by
  have st := for_inv (is := [2]) (body := lb_law_2) (fun _ ρ => ∃ s2 s3 s4, ρ = en7 S ns s2 s3 s4) (xs := rng 0 5) (i := 0) (ρ := en7 S ns .un .un .un) ⟨_, _, _, rfl⟩ (fun k x ρ hk ⟨t2, t3, t4, e⟩ => by
    subst e
    have hk' : k < 5 := by
      have := (List.getElem?_eq_some_iff.mp hk).1
      rwa [rng_len] at this
    have hx := rng_get hk
    subst hx
    obtain ⟨u3, u4, h⟩ := body2 (S := S) hl k hk' t2 t3 t4
    exact ⟨_, .inl h, ⟨_, _, _, rfl⟩⟩)
  obtain ⟨ρ', h1, t2, t3, t4, rfl⟩ := st
  exact ⟨_, _, _, h1⟩
def isN : R Val → Bool
  | .ok (.fr .non) => true
  | _ => false
theorem isN_ok {r : R Val} (h : isN r = true) : r = .ok (.fr .non) := by
  unfold isN at h
  split at h
  · rfl
  · cases h
def isX : R Val → Bool
  | .exc c => decide (c = "NotAllowed")
  | _ => false
theorem isX_ok {r : R Val} (h : isX r = true) : r = .exc "NotAllowed" := by
  unfold isX at h
  split at h
  · rw [of_decide_eq_true h]
  · cases h
theorem wide_ok : m_check_entry [.tup [.str "weighing", .str "a", .int 0, .tup [.int 0], .tup [.int 1000000000000000000000000000000000000000000000000000000000, .int 7]]] = .ok (.fr .non) := isN_ok (by decide +kernel)
theorem wide_no : m_law_refused [.tup [.str "weighing", .str "a", .int 0, .tup [.int 0], .tup [.int 10000000000000000000000000000000000000000000000000000000000, .int 7]]] = .ok (.fr (.bl true)) := refused (isX_ok (by decide +kernel))
theorem good_ok : m_check_entry [.tup [.str "known", .tup [.int 0, .int 1, .int 2, .int 3, .int 4, .int 5, .int 6, .int 99], .tup [.int 0, .int 1]]] = .ok (.fr .non) := isN_ok (by decide +kernel)
theorem kinds_eq : dEqO (.tup [.str "find", .str "known", .str "paper", .str "recall", .str "weighing"]) (.tup [.str "find", .str "known", .str "paper", .str "recall", .str "weighing"]) = some (.bl true) := by
  have h : dEq (.tup [.str "find", .str "known", .str "paper", .str "recall", .str "weighing"]) (.tup [.str "find", .str "known", .str "paper", .str "recall", .str "weighing"]) = true := by decide +kernel
  have h2 : (eqOk 8 (.tup [.str "find", .str "known", .str "paper", .str "recall", .str "weighing"]) && eqOk 8 (.tup [.str "find", .str "known", .str "paper", .str "recall", .str "weighing"])) = true := by decide +kernel
  unfold dEqO
  rw [if_pos h2, h]
theorem main (sc : List Int) (h : sc.length ≤ 63) : m_law [.rol (sc.map D.int)] = .ok (.fr (.bl true)) := by
  obtain ⟨ns, h1, h2⟩ := law_numbers sc 80 (by decide) h
  obtain ⟨t2, t3, t4, h3⟩ := loop2 (S := .rol (sc.map D.int)) h2
  have h1 : m_law_numbers [.rol (sc.map D.int), .int 80] = .ok (.nw (ns.map D.int)) := h1
  have c1 : cutD [D.str "weighing", D.str "a", D.int 0, D.tup [D.int 0], D.tup [D.int 1000000000000000000000000000000000000000000000000000000000, D.int 7]] none (some 4) = [D.str "weighing", D.str "a", D.int 0, D.tup [D.int 0]] := by rw [cutD_hi (by decide)]; rfl
  simp -implicitDefEqProofs [m_law, b_law, l_law_2, h1, h3, rng_len, wide_ok, wide_no, good_ok, kinds_eq, c1]
end K60

set_option Elab.async false
set_option linter.all false
set_option maxRecDepth 100000
open PySem PySem.W PyProof.Rows
set_option maxHeartbeats 0 in
theorem PySem.Challenge.cw_kerbwise_k60_entries_checked_holds : PySem.Challenge.rw_kerbwise_k60_entries_checked.Holds := by
  w_on; o_law; k_head; (case hw => w_witness2)
  k_fill
  refine L2.walk_of (l := PySem.Challenge.rw_kerbwise_k60_entries_checked) (n := 63) (k := 7) (x := "script") (CX := fun w => L2.CX PySem.Challenge.rw_kerbwise_k60_entries_checked.prog w) (sp := fun w => Lt.spLawK _) rfl (by decide) rfl ⟨rfl, by decide, by decide⟩ (fun w h Y => PySem.W.kIn_of Y) ?F (fun _ _ a ns hl hO hS => ⟨a, ns, rfl, hO, hS, hl, fun _ => rfl⟩) (fun _ _ _ _ _ h => Lt.cx_none h)
  case F =>
    intro w mg fa h KX G hmg
    refine' K60.all_mk KX G hmg K60.main ?a0 ?l0 ?c0 ?k0 ?a1 ?l1 ?c1 ?k1 ?a2 ?l2 ?c2 ?k2 ?a3 ?l3 ?c3 ?k3 ?a4 ?l4 ?c4 ?k4 ?a5 ?l5 ?c5 ?k5 ?a6 ?l6 ?c6 ?k6 ?a7 ?l7 ?c7 ?k7 ?a8 ?l8 ?c8 ?k8 ?a9 ?l9 ?c9 ?k9 ?a10 ?l10 ?c10 ?k10 ?a11 ?l11 ?c11 ?k11 ?a12 ?l12 ?c12 ?k12 ?a13 ?l13 ?c13 ?k13 ?a14 ?l14 ?c14 ?k14 ?a15 ?l15 ?c15 ?k15 ?a16 ?l16 ?c16 ?k16 ?a17 ?l17 ?c17 ?k17 ?a18 ?l18 ?c18 ?k18 ?a19 ?l19 ?c19 ?k19 ?a20 ?l20 ?c20 ?k20 ?a21 ?l21 ?c21 ?k21 ?a22 ?l22 ?c22 ?k22 ?a23 ?l23 ?c23 ?k23 ?a24 ?l24 ?c24 ?k24 ?a25 ?l25 ?c25 ?k25 ?a26 ?l26 ?c26 ?k26 ?a27 ?l27 ?c27 ?k27 ?z_abs ?z_all ?z_int ?z_isinstance ?z_len ?z_list ?z_max ?z_min ?z_range ?z_str ?z_tuple ?b0 ?e0 ?b1 ?e1 ?b2 ?e2 ?b3 ?e3 ?b4 ?e4 ?b5 ?e5 ?b6 ?e6 ?b7 ?e7 ?b8 ?d8 ?e8 ?b9 ?e9 ?b10 ?e10 ?b11 ?e11 ?ac0 ?xc0 ?kc0 ?bc0 ?tc0 ?ga0 ?gb0 ?gc0 ?gd0 ?ge0 ?ac1 ?xc1 ?kc1 ?bc1 ?tc1 ?ga1 ?gb1 ?gc1 ?gd1 ?ge1 ?ac2 ?xc2 ?kc2 ?bc2 ?tc2 ?ga2 ?gb2 ?gc2 ?gd2 ?ge2 ?hn ?ht ?h0_0 ?h0_1 ?h0_2 ?i2_0 ?i2_1 ?i2_2 ?i1_0 ?i1_1 ?i1_2
    (case a0 => k_is)
    (case l0 => k_is)
    (case c0 => k_is)
    (case k0 => k_is)
    (case a1 => k_is)
    (case l1 => k_is)
    (case c1 => k_is)
    (case k1 => k_is)
    (case a2 => k_is)
    (case l2 => k_is)
    (case c2 => k_is)
    (case k2 => k_is)
    (case a3 => k_is)
    (case l3 => k_is)
    (case c3 => k_is)
    (case k3 => k_is)
    (case a4 => k_is)
    (case l4 => k_is)
    (case c4 => k_is)
    (case k4 => k_is)
    (case a5 => k_is)
    (case l5 => k_is)
    (case c5 => k_is)
    (case k5 => k_is)
    (case a6 => k_is)
    (case l6 => k_is)
    (case c6 => k_is)
    (case k6 => k_is)
    (case a7 => k_is)
    (case l7 => k_is)
    (case c7 => k_is)
    (case k7 => k_is)
    (case a8 => k_is)
    (case l8 => k_is)
    (case c8 => k_is)
    (case k8 => k_is)
    (case a9 => k_is)
    (case l9 => k_is)
    (case c9 => k_is)
    (case k9 => k_is)
    (case a10 => k_is)
    (case l10 => k_is)
    (case c10 => k_is)
    (case k10 => k_is)
    (case a11 => k_is)
    (case l11 => k_is)
    (case c11 => k_is)
    (case k11 => k_is)
    (case a12 => k_is)
    (case l12 => k_is)
    (case c12 => k_is)
    (case k12 => k_is)
    (case a13 => k_is)
    (case l13 => k_is)
    (case c13 => k_is)
    (case k13 => k_is)
    (case a14 => k_is)
    (case l14 => k_is)
    (case c14 => k_is)
    (case k14 => k_is)
    (case a15 => k_is)
    (case l15 => k_is)
    (case c15 => k_is)
    (case k15 => k_is)
    (case a16 => k_is)
    (case l16 => k_is)
    (case c16 => k_is)
    (case k16 => k_is)
    (case a17 => k_is)
    (case l17 => k_is)
    (case c17 => k_is)
    (case k17 => k_is)
    (case a18 => k_is)
    (case l18 => k_is)
    (case c18 => k_is)
    (case k18 => k_is)
    (case a19 => k_is)
    (case l19 => k_is)
    (case c19 => k_is)
    (case k19 => k_is)
    (case a20 => k_is)
    (case l20 => k_is)
    (case c20 => k_is)
    (case k20 => k_is)
    (case a21 => k_is)
    (case l21 => k_is)
    (case c21 => k_is)
    (case k21 => k_is)
    (case a22 => k_is)
    (case l22 => k_is)
    (case c22 => k_is)
    (case k22 => k_is)
    (case a23 => k_is)
    (case l23 => k_is)
    (case c23 => k_is)
    (case k23 => k_is)
    (case a24 => k_is)
    (case l24 => k_is)
    (case c24 => k_is)
    (case k24 => k_is)
    (case a25 => k_is)
    (case l25 => k_is)
    (case c25 => k_is)
    (case k25 => k_is)
    (case a26 => k_is)
    (case l26 => k_is)
    (case c26 => k_is)
    (case k26 => k_is)
    (case a27 => k_is)
    (case l27 => k_is)
    (case c27 => k_is)
    (case k27 => k_is)
    (case z_abs => k_is)
    (case z_all => k_is)
    (case z_int => k_is)
    (case z_isinstance => k_is)
    (case z_len => k_is)
    (case z_list => k_is)
    (case z_max => k_is)
    (case z_min => k_is)
    (case z_range => k_is)
    (case z_str => k_is)
    (case z_tuple => k_is)
    (case b0 => k_is)
    (case e0 => kernel_rfl)
    (case b1 => k_is)
    (case e1 => kernel_rfl)
    (case b2 => k_is)
    (case e2 => kernel_rfl)
    (case b3 => k_is)
    (case e3 => kernel_rfl)
    (case b4 => k_is)
    (case e4 => kernel_rfl)
    (case b5 => k_is)
    (case e5 => kernel_rfl)
    (case b6 => k_is)
    (case e6 => kernel_rfl)
    (case b7 => k_is)
    (case e7 => kernel_rfl)
    (case b8 => k_is)
    (case d8 => kernel_rfl)
    (case e8 => kernel_rfl)
    (case b9 => k_is)
    (case e9 => kernel_rfl)
    (case b10 => k_is)
    (case e10 => kernel_rfl)
    (case b11 => k_is)
    (case e11 => kernel_rfl)
    (case ac0 => k_is)
    (case xc0 => k_exc)
    (case kc0 => k_is)
    (case bc0 => k_is)
    (case tc0 => k_is)
    (case ga0 => k_is)
    (case gb0 => k_is)
    (case gc0 => k_is)
    (case gd0 => k_is)
    (case ge0 => k_is)
    (case ac1 => k_is)
    (case xc1 => k_exc)
    (case kc1 => k_is)
    (case bc1 => k_is)
    (case tc1 => k_is)
    (case ga1 => k_is)
    (case gb1 => k_is)
    (case gc1 => k_is)
    (case gd1 => k_is)
    (case ge1 => k_is)
    (case ac2 => k_is)
    (case xc2 => k_exc)
    (case kc2 => k_is)
    (case bc2 => k_is)
    (case tc2 => k_is)
    (case ga2 => k_is)
    (case gb2 => k_is)
    (case gc2 => k_is)
    (case gd2 => k_is)
    (case ge2 => k_is)
    (case hn => k_is)
    (case ht => k_is)
    (case h0_0 => kernel_rfl)
    (case h0_1 => kernel_rfl)
    (case h0_2 => kernel_rfl)
    (case i2_0 => kernel_rfl)
    (case i2_1 => kernel_rfl)
    (case i2_2 => kernel_rfl)
    (case i1_0 => kernel_rfl)
    (case i1_1 => kernel_rfl)
    (case i1_2 => kernel_rfl)
