import PyProof.Rows.All
import Wide.All
import OpenK.AllK
import Wide.FinOn
import KE.KStateDown
import HandS.ForMost
import HandS.Exc
import HandS.Defaults
import HandS.HeadHook2
import HandS.Property
import HandS.TupAny
import HandS.Deep
import HandS.RaiseMore
import HandS.IsInst
import HandS.FStr
import KE.GoesEnum
import HandS.Zip
import HandS.Remove
import HandS.More
import PyProof.ReprRoads
import HandS.Head0
import HandS.Head1
import HandS.Head2
import HandS.HeadEnd
import HandS.EndBits
import HandS.HeadHook4
import KE.KEqNest
import HandS.TupSets
import HandS.Style
import KE.DataMinMax
import HandS.HeadNt
import HandS.NoneIn
import HandS.SlotsOwn
import HandS.Codes
import PySem.Challenge.RW_partsjoined_k75_whole_texts_led
set_option Elab.async false
set_option linter.all false
set_option maxRecDepth 100000
set_option maxHeartbeats 0
section
namespace J
open PySem PySem.Spec PyProof.Rows L2

/-- plain data; ins: an instance that no longer changes; obj: an object of the store -/
inductive D where
  | non | bl (b : Bool) | int (i : Int) | str (x : Str)
  | tup (xs : List D) | lst (xs : List D)
  /-- a list of the module, or one that is locked -/
  | rls (xs : List D)
  | ins (c : Str) (fs : List (Str × D))
  | exc (c : Str) (fs : List (Str × D))
  | obj (n : Nat)
  deriving Inhabited

abbrev Fps := List (List Addr)

mutual
inductive Rep (K : PySem.W.Frag) (A : Fps) (F : Hp) : V → D → Prop
  | non : Rep K A F .non .non
  | bl (b : Bool) : Rep K A F (.bl b) (.bl b)
  | int (i : Int) : Rep K A F (.int i) (.int i)
  | str {x : Str} (h : PyData.strOk x = true) : Rep K A F (.str x) (.str x)
  | tup {a : Addr} {vs : List V} {ds : List D} : SqT K F a vs → Reps K A F vs ds → Rep K A F (.ref a) (.tup ds)
  | lst {a : Addr} {vs : List V} {ds : List D} : F a = some (.lst vs) → Reps K A F vs ds → Rep K A F (.ref a) (.lst ds)
  | rls {a : Addr} {vs : List V} {ds : List D} : SqL K F a vs → Reps K A F vs ds → Rep K A F (.ref a) (.rls ds)
  | ins {a dx : Addr} {c : Str} {fs : List (Str × V)} {ds : List (Str × D)} : F a = some (.ins (He.ga K c) dx fs) → RepF K A F fs ds → Rep K A F (.ref a) (.ins c ds)
  | obj {n : Nat} {a : Addr} {r : List Addr} : A[n]? = some (a :: r) → Rep K A F (.ref a) (.obj n)
inductive Reps (K : PySem.W.Frag) (A : Fps) (F : Hp) : List V → List D → Prop
  | nil : Reps K A F [] []
  | cons {v : V} {vs : List V} {d : D} {ds : List D} : Rep K A F v d → Reps K A F vs ds → Reps K A F (v :: vs) (d :: ds)
inductive RepF (K : PySem.W.Frag) (A : Fps) (F : Hp) : List (Str × V) → List (Str × D) → Prop
  | nil : RepF K A F [] []
  | cons {f : Str} {v : V} {vs : List (Str × V)} {d : D} {ds : List (Str × D)} : Rep K A F v d → RepF K A F vs ds → RepF K A F ((f, v) :: vs) ((f, d) :: ds)
end

/-- the frozen part and the store's places grow -/
structure Mono (F : Hp) (A : Fps) (F' : Hp) (A' : Fps) : Prop where
  f : ∀ a o, F a = some o → F' a = some o
  a : ∀ (n : Nat) x, A[n]? = some x → A'[n]? = some x
theorem Mono.refl {F : Hp} {A : Fps} : Mono F A F A := ⟨fun _ _ h => h, fun _ _ h => h⟩
theorem Mono.trans {F F1 F2 : Hp} {A A1 A2 : Fps} (x : Mono F A F1 A1) (y : Mono F1 A1 F2 A2) : Mono F A F2 A2 :=
  ⟨fun a o h => y.f a o (x.f a o h), fun n z h => y.a n z (x.a n z h)⟩
theorem Mono.rd {F F' : Hp} {A A' : Fps} (m : Mono F A F' A') {a : Addr} {u : HO} (h : Rd F a u) : Rd F' a u := by
  rcases h with h | ⟨o, h⟩
  · exact .inl (m.f _ _ h)
  · exact .inr ⟨o, m.f _ _ h⟩
theorem Mono.sqT {K : PySem.W.Frag} {F F' : Hp} {A A' : Fps} (m : Mono F A F' A') {a : Addr} {xs : List V} (h : SqT K F a xs) : SqT K F' a xs := by
  rcases h with h | h
  · exact .inl (m.rd h)
  · exact .inr h
theorem Mono.sqL {K : PySem.W.Frag} {F F' : Hp} {A A' : Fps} (m : Mono F A F' A') {a : Addr} {xs : List V} (h : SqL K F a xs) : SqL K F' a xs := by
  rcases h with h | h
  · exact .inl (m.rd h)
  · exact .inr h

section
variable {K : PySem.W.Frag} {A A' : Fps} {F F' : Hp}
mutual
theorem Rep.mono (m : Mono F A F' A') : ∀ {v : V} {d : D}, Rep K A F v d → Rep K A' F' v d
  | _, _, .non => .non
  | _, _, .bl b => .bl b
  | _, _, .int i => .int i
  | _, _, .str h => .str h
  | _, _, .tup h r => .tup (m.sqT h) (Reps.mono m r)
  | _, _, .lst h r => .lst (m.f _ _ h) (Reps.mono m r)
  | _, _, .rls h r => .rls (m.sqL h) (Reps.mono m r)
  | _, _, .ins h r => .ins (m.f _ _ h) (RepF.mono m r)
  | _, _, .obj h => .obj (m.a _ _ h)
theorem Reps.mono (m : Mono F A F' A') : ∀ {vs : List V} {ds : List D}, Reps K A F vs ds → Reps K A' F' vs ds
  | _, _, .nil => .nil
  | _, _, .cons h r => .cons (Rep.mono m h) (Reps.mono m r)
theorem RepF.mono (m : Mono F A F' A') : ∀ {vs : List (Str × V)} {ds : List (Str × D)}, RepF K A F vs ds → RepF K A' F' vs ds
  | _, _, .nil => .nil
  | _, _, .cons h r => .cons (Rep.mono m h) (RepF.mono m r)
end
theorem Reps.length : ∀ {vs : List V} {ds : List D}, Reps K A F vs ds → vs.length = ds.length
  | _, _, .nil => rfl
  | _, _, .cons _ r => congrArg (· + 1) (Reps.length r)
theorem Reps.get : ∀ {vs : List V} {ds : List D} {i : Nat} {d : D}, Reps K A F vs ds → ds[i]? = some d → ∃ v, vs[i]? = some v ∧ Rep K A F v d
  | _, _, _, _, .nil, e => by simp at e
  | _, _, 0, d, .cons h _, e => by
    obtain rfl := Option.some.inj e
    exact ⟨_, rfl, h⟩
  | _, _, i + 1, d, .cons _ r, e => Reps.get (i := i) r e
theorem Reps.getV : ∀ {vs : List V} {ds : List D} {i : Nat} {v : V}, Reps K A F vs ds → vs[i]? = some v → ∃ d, ds[i]? = some d ∧ Rep K A F v d
  | _, _, _, _, .nil, e => by simp at e
  | _, _, 0, d, .cons h _, e => by
    obtain rfl := Option.some.inj e
    exact ⟨_, rfl, h⟩
  | _, _, i + 1, d, .cons _ r, e => Reps.getV (i := i) r e
theorem Reps.append : ∀ {vs ws : List V} {ds es : List D}, Reps K A F vs ds → Reps K A F ws es → Reps K A F (vs ++ ws) (ds ++ es)
  | _, _, _, _, .nil, s => s
  | _, _, _, _, .cons h r, s => .cons h (Reps.append r s)
theorem Reps.take : ∀ {vs : List V} {ds : List D} (n : Nat), Reps K A F vs ds → Reps K A F (vs.take n) (ds.take n)
  | _, _, 0, _ => by simpa using Reps.nil
  | _, _, _ + 1, .nil => by simpa using Reps.nil
  | _, _, n + 1, .cons h r => .cons h (Reps.take n r)
theorem Reps.drop : ∀ {vs : List V} {ds : List D} (n : Nat), Reps K A F vs ds → Reps K A F (vs.drop n) (ds.drop n)
  | _, _, 0, r => r
  | _, _, _ + 1, .nil => by simpa using Reps.nil
  | _, _, n + 1, .cons _ r => Reps.drop n r
theorem Reps.set {v : V} {d : D} (h : Rep K A F v d) : ∀ {vs : List V} {ds : List D} (i : Nat), Reps K A F vs ds → Reps K A F (vs.set i v) (ds.set i d)
  | _, _, _, .nil => .nil
  | _, _, 0, .cons _ r => .cons h r
  | _, _, i + 1, .cons q r => .cons q (Reps.set h i r)
theorem RepF.lookup {f : Str} : ∀ {vs : List (Str × V)} {ds : List (Str × D)} {d : D}, RepF K A F vs ds → ds.lookup f = some d → ∃ v, vs.lookup f = some v ∧ Rep K A F v d
  | _, _, _, .nil, e => by simp at e
  | _, _, d, .cons (f := g) h r, e => by
    by_cases q : f = g
    · subst q
      simp only [List.lookup_cons_self] at e ⊢
      obtain rfl := Option.some.inj e
      exact ⟨_, rfl, h⟩
    · have b : (f == g) = false := beq_eq_false_iff_ne.mpr q
      simp only [List.lookup_cons, b] at e ⊢
      exact RepF.lookup r e
theorem RepF.none {f : Str} : ∀ {vs : List (Str × V)} {ds : List (Str × D)}, RepF K A F vs ds → ds.lookup f = none → vs.lookup f = none
  | _, _, .nil, _ => rfl
  | _, _, .cons (f := g) h r, e => by
    by_cases q : f = g
    · subst q
      simp only [List.lookup_cons_self] at e
      cases e
    · have b : (f == g) = false := beq_eq_false_iff_ne.mpr q
      simp only [List.lookup_cons, b] at e ⊢
      exact RepF.none r e
theorem RepF.length : ∀ {vs : List (Str × V)} {ds : List (Str × D)}, RepF K A F vs ds → vs.length = ds.length
  | _, _, .nil => rfl
  | _, _, .cons _ r => congrArg (· + 1) (RepF.length r)
end

/-- fields: stored as putF stores -/
def putD (f : Str) (d : D) : List (Str × D) → List (Str × D)
  | [] => [(f, d)]
  | (g, x) :: r => if g = f then (g, d) :: r else (g, x) :: putD f d r
theorem RepF.put {K : PySem.W.Frag} {A : Fps} {F : Hp} {f : Str} {v : V} {d : D} (h : Rep K A F v d) : ∀ {vs : List (Str × V)} {ds : List (Str × D)}, RepF K A F vs ds → RepF K A F (putF f v vs) (putD f d ds)
  | _, _, .nil => .cons h .nil
  | _, _, .cons (f := g) (vs := vs) (ds := ds) (v := v') (d := d') q r => by
    by_cases e : g = f
    · have e1 : putF f v ((g, v') :: vs) = (g, v) :: vs := by unfold putF; rw [if_pos e]
      have e2 : putD f d ((g, d') :: ds) = (g, d) :: ds := by unfold putD; rw [if_pos e]
      rw [e1, e2]
      exact .cons h r
    · have e1 : putF f v ((g, v') :: vs) = (g, v') :: putF f v vs := by
        conv => lhs; unfold putF
        rw [if_neg e]
      have e2 : putD f d ((g, d') :: ds) = (g, d') :: putD f d ds := by
        conv => lhs; unfold putD
        rw [if_neg e]
      rw [e1, e2]
      exact .cons q (RepF.put h r)
inductive MO where
  | deck (cells all : List Int) (t : Int)
  | ins (c : Str) (fs : List (Str × D))
  | lst (xs : List D)
  | gone
def MOk (K : PySem.W.Frag) (A : Fps) (F H : Hp) (fp : List Addr) : MO → Prop
  | .deck cells all t => ∃ a b c, fp = [a, b, c] ∧ H a = some (.lst [.ref b, .ref c, .int t]) ∧ H b = some (.lst (cells.map V.int)) ∧ H c = some (.lst (all.map V.int))
  | .ins c fs => ∃ a dx vs, fp = [a] ∧ H a = some (.ins (He.ga K c) dx vs) ∧ RepF K A F vs fs
  | .lst xs => ∃ a vs, fp = [a] ∧ H a = some (.lst vs) ∧ Reps K A F vs xs
  | .gone => ∀ a ∈ fp, H a ≠ none
theorem MOk.there {K : PySem.W.Frag} {A : Fps} {F H : Hp} {fp : List Addr} {m : MO} (h : MOk K A F H fp m) : ∀ a ∈ fp, H a ≠ none := by
  cases m with
  | deck cells all t =>
    obtain ⟨a, b, c, rfl, h1, h2, h3⟩ := h
    intro x hx
    simp only [List.mem_cons, List.not_mem_nil, or_false] at hx
    rcases hx with rfl | rfl | rfl
    · rw [h1]; simp
    · rw [h2]; simp
    · rw [h3]; simp
  | ins c fs =>
    obtain ⟨a, dx, vs, rfl, h1, _⟩ := h
    intro x hx
    simp only [List.mem_cons, List.not_mem_nil, or_false] at hx
    subst hx
    rw [h1]; simp
  | lst xs =>
    obtain ⟨a, vs, rfl, h1, _⟩ := h
    intro x hx
    simp only [List.mem_cons, List.not_mem_nil, or_false] at hx
    subst hx
    rw [h1]; simp
  | gone => exact h
theorem MOk.keep {K : PySem.W.Frag} {A A' : Fps} {F F' H H' : Hp} {fp : List Addr} {m : MO} (h : MOk K A F H fp m) (mo : Mono F A F' A') (k : ∀ a ∈ fp, H' a = H a) : MOk K A' F' H' fp m := by
  cases m with
  | deck cells all t =>
    obtain ⟨a, b, c, rfl, h1, h2, h3⟩ := h
    exact ⟨a, b, c, rfl, (k a (by simp)).trans h1, (k b (by simp)).trans h2, (k c (by simp)).trans h3⟩
  | ins c fs =>
    obtain ⟨a, dx, vs, rfl, h1, r⟩ := h
    exact ⟨a, dx, vs, rfl, (k a (by simp)).trans h1, r.mono mo⟩
  | lst xs =>
    obtain ⟨a, vs, rfl, h1, r⟩ := h
    exact ⟨a, vs, rfl, (k a (by simp)).trans h1, r.mono mo⟩
  | gone => exact fun a ha => by rw [k a ha]; exact h a ha

structure Wd (K : PySem.W.Frag) (F H : Hp) (A : Fps) (S : List MO) : Prop where
  le : ∀ a o, F a = some o → H a = some o
  len : S.length = A.length
  ok : ∀ (n : Nat) m fp, S[n]? = some m → A[n]? = some fp → MOk K A F H fp m
  nd : A.flatten.Nodup
  nF : ∀ a ∈ A.flatten, F a = none

/-- what a call may do, seen from outside -/
structure Ext (F H : Hp) (A : Fps) (F' H' : Hp) (A' : Fps) : Prop where
  mono : Mono F A F' A'
  nw : ∀ a o, F' a = some o → F a = some o ∨ H a = none
  nA : ∀ a ∈ A'.flatten, a ∈ A.flatten ∨ H a = none
  kp : ∀ a o, H a = some o → a ∉ A.flatten → H' a = some o
  th : ∀ a, H a ≠ none → H' a ≠ none
theorem Ext.refl {F H : Hp} {A : Fps} : Ext F H A F H A := ⟨.refl, fun _ _ h => .inl h, fun _ h => .inl h, fun _ _ h _ => h, fun _ h => h⟩
theorem Ext.trans {F H F1 H1 F2 H2 : Hp} {A A1 A2 : Fps} (x : Ext F H A F1 H1 A1) (y : Ext F1 H1 A1 F2 H2 A2) : Ext F H A F2 H2 A2 := by
  have back : ∀ a, H1 a = none → H a = none := fun a h => by
    cases q : H a with
    | none => rfl
    | some o => exact absurd h (x.th a (by rw [q]; simp))
  refine ⟨x.mono.trans y.mono, fun a o h => ?_, fun a h => ?_, fun a o h n => ?_, fun a h => y.th a (x.th a h)⟩
  · rcases y.nw a o h with q | q
    · exact x.nw a o q
    · exact .inr (back a q)
  · rcases y.nA a h with q | q
    · exact x.nA a q
    · exact .inr (back a q)
  · refine y.kp a o (x.kp a o h n) fun z => ?_
    rcases x.nA a z with q | q
    · exact n q
    · rw [h] at q; cases q
inductive Sl where
  | val (d : D)
  | own (l : List D)
structure Sta where
  r : List (Option Sl)
  S : List MO
/-- the entry of the def -/
structure Ent where
  F : Hp
  H : Hp
  A : Fps
def SlOk (K : PySem.W.Frag) (Z : Ent) (F H : Hp) (A : Fps) (v : Option (Option V)) : Sl → Prop
  | .val d => ∃ x, v = some (some x) ∧ Rep K A F x d
  | .own l => ∃ p vs, v = some (some (.ref p)) ∧ H p = some (.lst vs) ∧ Reps K A F vs l ∧ F p = none ∧ p ∉ A.flatten ∧ Z.H p = none
structure Rel (K : PySem.W.Frag) (Z : Ent) (F H : Hp) (A : Fps) (σ : L2.St) (st : Sta) : Prop where
  w : Wd K F H A st.S
  e : Ext Z.F Z.H Z.A F H A
  len : st.r.length = σ.length
  loc : ∀ (i : Nat) sl, st.r[i]? = some (some sl) → SlOk K Z F H A σ[i]? sl
  sep : ∀ (i j : Nat) l m, i ≠ j → st.r[i]? = some (some (.own l)) → st.r[j]? = some (some (.own m)) → σ[i]? ≠ σ[j]?

inductive Ro (α : Type) where
  | ok (a : α) (st : Sta)
  | err (x : D) (st : Sta)
  | stk
def M (α : Type) := Sta → Ro α
def M.ret {α : Type} (a : α) : M α := fun st => .ok a st
def Ro.bind {α β : Type} (r : Ro α) (f : α → M β) : Ro β := match r with
  | .ok a st => f a st
  | .err x st => .err x st
  | .stk => .stk
def M.bnd {α β : Type} (m : M α) (f : α → M β) : M β := fun st => (m st).bind f
instance : Monad M where
  pure := M.ret
  bind := M.bnd
def M.stuck {α : Type} : M α := fun _ => .stk
def M.of {α : Type} : Option α → M α
  | some a => M.ret a
  | none => M.stuck
theorem bind_eq {α β : Type} (m : M α) (f : α → M β) (st : Sta) : (m >>= f) st = (m st).bind f := rfl
theorem pure_eq {α : Type} (a : α) (st : Sta) : (pure a : M α) st = .ok a st := rfl

/-- how an exception lies -/
def ExcOk (K : PySem.W.Frag) (A : Fps) (F H : Hp) (cls : Value) (dd : Option Addr) : D → Prop
  | .exc c fs => cls = .ref (He.ga K c) ∧ ((fs = [] ∧ dd = none) ∨ ∃ d vs, dd = some d ∧ H d = some (.xd vs) ∧ RepF K A F vs fs)
  | _ => False

def After {α : Type} (K : PySem.W.Frag) (Z : Ent) (W : WX) (σ : L2.St) (F : Hp) (A : Fps) (r : Ro α) (C : α → Sta → Hp → Hp → Fps → Prop) : Prop := match r with
  | .ok a st => ∀ F' H' A', Rel K Z F' H' A' σ st → Mono F A F' A' → C a st F' H' A'
  | .err x st => ∀ cls dd F' H' A', Rel K Z F' H' A' σ st → Mono F A F' A' → ExcOk K A' F' H' cls dd x → W cls dd σ H'
  | .stk => False
section
variable {α β : Type} {K : PySem.W.Frag} {Z : Ent} {W : WX} {σ : L2.St} {F F1 : Hp} {A A1 : Fps} {r : Ro α}
theorem After.mono {C : α → Sta → Hp → Hp → Fps → Prop} (m : Mono F A F1 A1) (h : After K Z W σ F A r C) : After K Z W σ F1 A1 r C := by
  cases r with
  | ok a st => exact fun F' H' A' R m' => h F' H' A' R (m.trans m')
  | err x st => exact fun cls dd F' H' A' R m' => h cls dd F' H' A' R (m.trans m')
  | stk => exact h
theorem After.imp {C C' : α → Sta → Hp → Hp → Fps → Prop} (h : After K Z W σ F A r C) (f : ∀ a st F' H' A', Rel K Z F' H' A' σ st → Mono F A F' A' → C a st F' H' A' → C' a st F' H' A') : After K Z W σ F A r C' := by
  cases r with
  | ok a st => exact fun F' H' A' R m' => f a st F' H' A' R m' (h F' H' A' R m')
  | err x st => exact h
  | stk => exact h
theorem After.bind {m : M α} {f : α → M β} {st : Sta} {C : β → Sta → Hp → Hp → Fps → Prop} (h : After K Z W σ F A ((m >>= f) st) C) :
    After K Z W σ F A (m st) (fun a st1 F1 H1 A1 => After K Z W σ F1 A1 (f a st1) C) := by
  rw [bind_eq] at h
  cases q : m st with
  | ok a st1 =>
    rw [q] at h
    exact fun F' H' A' _ m' => After.mono m' h
  | err x st1 =>
    rw [q] at h
    exact h
  | stk =>
    rw [q] at h
    exact h
end
def tM (K : PySem.W.Frag) (Z : Ent) (W : WX) (m : M D) : TE := fun σ H Q => ∃ F A st, Rel K Z F H A σ st ∧ After K Z W σ F A (m st) fun d _ F' H' A' => ∀ v, Rep K A' F' v d → Q v H'
def tB (K : PySem.W.Frag) (Z : Ent) (W : WX) (m : M Bool) : TT := fun σ H Q => ∃ F A st, Rel K Z F H A σ st ∧ After K Z W σ F A (m st) fun b _ _ H' _ => Q b H'
def tL (K : PySem.W.Frag) (Z : Ent) (W : WX) (m : M (List D)) : TA := fun σ H Q => ∃ F A st, Rel K Z F H A σ st ∧ After K Z W σ F A (m st) fun ds _ F' H' A' => ∀ vs, Reps K A' F' vs ds → Q vs H'
inductive Fl where
  | next | brk | cont
  | ret (d : D)
def AfterS (K : PySem.W.Frag) (Z : Ent) (W : WX) (E : Ends) (F : Hp) (A : Fps) (r : Ro Fl) : Prop := match r with
  | .ok f st => ∀ σ F' H' A', Rel K Z F' H' A' σ st → Mono F A F' A' → (match f with
    | .next => E.nx σ H'
    | .brk => E.bk σ H'
    | .cont => E.ct σ H'
    | .ret d => ∀ v, Rep K A' F' v d → E.rt v H')
  | .err x st => ∀ cls dd σ F' H' A', Rel K Z F' H' A' σ st → Mono F A F' A' → ExcOk K A' F' H' cls dd x → W cls dd σ H'
  | .stk => False
def tS (K : PySem.W.Frag) (Z : Ent) (W : WX) (m : M Fl) : TS := fun E σ H => ∃ F A st, Rel K Z F H A σ st ∧ AfterS K Z W E F A (m st)
theorem AfterS.mono {K : PySem.W.Frag} {Z : Ent} {W : WX} {E : Ends} {F F1 : Hp} {A A1 : Fps} {r : Ro Fl} (m : Mono F A F1 A1) (h : AfterS K Z W E F A r) : AfterS K Z W E F1 A1 r := by
  cases r with
  | ok a st => exact fun σ F' H' A' R m' => h σ F' H' A' R (m.trans m')
  | err x st => exact fun cls dd σ F' H' A' R m' => h cls dd σ F' H' A' R (m.trans m')
  | stk => exact h
/-- an expression, then a statement's rest -/
theorem AfterS.bind {α : Type} {K : PySem.W.Frag} {Z : Ent} {W : WX} {E : Ends} {σ : L2.St} {F : Hp} {A : Fps} {m : M α} {f : α → M Fl} {st : Sta} (h : AfterS K Z W E F A ((m >>= f) st)) :
    After K Z W σ F A (m st) (fun a st1 F1 H1 A1 => AfterS K Z W E F1 A1 (f a st1)) := by
  rw [bind_eq] at h
  cases q : m st with
  | ok a st1 =>
    rw [q] at h
    exact fun F' H' A' _ m' => AfterS.mono m' h
  | err x st1 =>
    rw [q] at h
    exact fun cls dd F' H' A' R m' => h cls dd σ F' H' A' R m'
  | stk =>
    rw [q] at h
    exact h

theorem PE.wk {X : Cx} {e : Expr} {t t' : TE} (h : PE X e t) (f : ∀ σ H Q, t' σ H Q → t σ H Q) : PE X e t' := ⟨fun pins s σ H Q I q => h.run pins s σ H Q I (f σ H Q q)⟩
theorem PT.wk {X : Cx} {e : Expr} {t t' : TT} (h : PT X e t) (f : ∀ σ H Q, t' σ H Q → t σ H Q) : PT X e t' := ⟨fun pins s σ H Q I q => h.run pins s σ H Q I (f σ H Q q)⟩
theorem PA.wk {X : Cx} {e : List Expr} {t t' : TA} (h : PA X e t) (f : ∀ σ H Q, t' σ H Q → t σ H Q) : PA X e t' := ⟨fun pos pins s σ H Q I q => h.run pos pins s σ H Q I (f σ H Q q)⟩
theorem PS.wk {X : Cx} {e : Stmt} {t t' : TS} (h : PS X e t) (f : ∀ E σ H, t' E σ H → t E σ H) : PS X e t' := ⟨fun pins s σ H E I q => h.run pins s σ H E I (f E σ H q)⟩
theorem PSs.wk {X : Cx} {e : List Stmt} {t t' : TS} (h : PSs X e t) (f : ∀ E σ H, t' E σ H → t E σ H) : PSs X e t' := ⟨fun pins s σ H E I q => h.run pins s σ H E I (f E σ H q)⟩
end J
end
section
namespace J
open PySem PySem.Spec L2

theorem in_flat {A : Fps} {n : Nat} {fp : List Addr} {a : Addr} (h : A[n]? = some fp) (ha : a ∈ fp) : a ∈ A.flatten :=
  List.mem_flatten.mpr ⟨fp, List.mem_of_getElem? h, ha⟩
section
variable {K : PySem.W.Frag} {Z : Ent} {F H F' H' : Hp} {A A' : Fps} {σ : L2.St} {st : Sta} {S : List MO} {p : Addr} {o : HO}
theorem Wd.at_ (w : Wd K F H A S) {a : Addr} (ha : a ∈ A.flatten) : ∃ (n : Nat) (fp : List Addr) (m : MO), A[n]? = some fp ∧ S[n]? = some m ∧ a ∈ fp ∧ MOk K A F H fp m := by
  obtain ⟨fp, h1, h2⟩ := List.mem_flatten.mp ha
  obtain ⟨n, hn, e⟩ := List.mem_iff_getElem.mp h1
  have hs : n < S.length := by rw [w.len]; exact hn
  have e1 : A[n]? = some fp := by rw [List.getElem?_eq_getElem hn, e]
  have e2 : S[n]? = some S[n] := List.getElem?_eq_getElem hs
  exact ⟨n, fp, S[n], e1, e2, h2, w.ok n _ _ e2 e1⟩
theorem Wd.there (w : Wd K F H A S) {a : Addr} (ha : a ∈ A.flatten) : H a ≠ none := by
  obtain ⟨n, fp, m, _, _, h, ok⟩ := w.at_ ha
  exact ok.there a h
theorem Wd.new (w : Wd K F H A S) (hp : H p = none) : Wd K (upd F p o) (upd H p o) A S := by
  have ne : ∀ a ∈ A.flatten, a ≠ p := fun a ha q => w.there ha (by rw [q]; exact hp)
  have mo : Mono F A (upd F p o) A := ⟨fun a u h => by
    by_cases q : a = p
    · subst q
      have := w.le _ _ h
      rw [hp] at this
      cases this
    · rw [upd_ne q]; exact h, fun _ _ h => h⟩
  refine ⟨fun a u h => ?_, w.len, fun n m fp h1 h2 => ?_, w.nd, fun a ha => ?_⟩
  · by_cases q : a = p
    · subst q
      rw [upd_same] at h ⊢
      exact h
    · rw [upd_ne q] at h ⊢
      exact w.le _ _ h
  · exact (w.ok n m fp h1 h2).keep mo fun a ha => upd_ne (ne a (in_flat h2 ha))
  · rw [upd_ne (ne a ha)]
    exact w.nF a ha
theorem Mono.new (w : Wd K F H A S) (hp : H p = none) : Mono F A (upd F p o) A := ⟨fun a u h => by
  by_cases q : a = p
  · subst q
    have := w.le _ _ h
    rw [hp] at this
    cases this
  · rw [upd_ne q]; exact h, fun _ _ h => h⟩
theorem Ext.new (w : Wd K F H A S) (hp : H p = none) : Ext F H A (upd F p o) (upd H p o) A := by
  refine ⟨.new w hp, fun a u h => ?_, fun a h => .inl h, fun a u h _ => ?_, fun a h => ?_⟩
  · by_cases q : a = p
    · subst q; exact .inr hp
    · rw [upd_ne q] at h; exact .inl h
  · rw [upd_ne fun q => by rw [q, hp] at h; cases h]
    exact h
  · by_cases q : a = p
    · subst q; rw [upd_same]; simp
    · rw [upd_ne q]; exact h
/-- a slot's word is kept -/
theorem SlOk.keep {v : Option (Option V)} {sl : Sl} (h : SlOk K Z F H A v sl) (m : Mono F A F' A') (k : ∀ a u, H a = some u → a ∉ A.flatten → H' a = some u) (n : ∀ a u, F' a = some u → F a = some u ∨ H a = none)
    (nA : ∀ a ∈ A'.flatten, a ∈ A.flatten ∨ H a = none) : SlOk K Z F' H' A' v sl := by
  cases sl with
  | val d =>
    obtain ⟨x, e, r⟩ := h
    exact ⟨x, e, r.mono m⟩
  | own l =>
    obtain ⟨p, vs, e, hp, r, f, na, z⟩ := h
    refine ⟨p, vs, e, k p _ hp na, r.mono m, ?_, fun q => ?_, z⟩
    · cases q : F' p with
      | none => rfl
      | some u =>
        rcases n p u q with q | q
        · rw [f] at q; cases q
        · rw [hp] at q; cases q
    · rcases nA p q with q | q
      · exact na q
      · rw [hp] at q; cases q
/-- behind what a call may do -/
theorem Rel.ext (R : Rel K Z F H A σ st) (w : Wd K F' H' A' S) (x : Ext F H A F' H' A') : Rel K Z F' H' A' σ { st with S := S } :=
  ⟨w, R.e.trans x, R.len, fun i sl h => (R.loc i sl h).keep x.mono x.kp x.nw x.nA, R.sep⟩
/-- a new frozen object -/
theorem Rel.new (R : Rel K Z F H A σ st) (hp : H p = none) : Rel K Z (upd F p o) (upd H p o) A σ st :=
  Rel.ext (S := st.S) R (R.w.new hp) (.new R.w hp)
theorem Rel.le (R : Rel K Z F H A σ st) : ∀ a u, F a = some u → H a = some u := R.w.le
theorem Rel.zfree (R : Rel K Z F H A σ st) (hp : H p = none) : Z.H p = none := by
  cases q : Z.H p with
  | none => rfl
  | some u => exact absurd hp (R.e.th p (by rw [q]; simp))

/-- an object stands that nothing else knows: a new list, not yet held -/
structure Loose (K : PySem.W.Frag) (Z : Ent) (F H : Hp) (A : Fps) (σ : L2.St) (st : Sta) (p : Addr) (vs : List V) (ds : List D) : Prop where
  at_ : H p = some (.lst vs)
  rs : Reps K A F vs ds
  nF : F p = none
  nA : p ∉ A.flatten
  nZ : Z.H p = none
  ap : ∀ (i : Nat) l, st.r[i]? = some (some (.own l)) → σ[i]? ≠ some (some (.ref p))
/-- a loose or held list is frozen -/
theorem Wd.freeze (w : Wd K F H A S) {vs : List V} (at_ : H p = some (.lst vs)) (nF : F p = none) (nA : p ∉ A.flatten) : Wd K (upd F p (.lst vs)) H A S := by
  have mo : Mono F A (upd F p (.lst vs)) A := ⟨fun a u h => by rw [upd_ne fun q => by rw [q, nF] at h; cases h]; exact h, fun _ _ h => h⟩
  refine ⟨fun a u h => ?_, w.len, fun n m fp h1 h2 => (w.ok n m fp h1 h2).keep mo fun _ _ => rfl, w.nd, fun a ha => ?_⟩
  · by_cases q : a = p
    · subst q
      rw [upd_same] at h
      rw [at_]; exact h
    · rw [upd_ne q] at h
      exact w.le _ _ h
  · rw [upd_ne fun q => nA (by rw [q] at ha; exact ha)]
    exact w.nF a ha
theorem Mono.freeze {u : HO} (nF : F p = none) : Mono F A (upd F p u) A := ⟨fun a u h => by rw [upd_ne fun q => by rw [q, nF] at h; cases h]; exact h, fun _ _ h => h⟩
theorem Ext.freeze {G : Hp} {B : Fps} (x : Ext G H' B F H A) {u : HO} (z : H' p = none) (nF : F p = none) : Ext G H' B (upd F p u) H A := by
  refine ⟨x.mono.trans (.freeze nF), fun a v h => ?_, x.nA, x.kp, x.th⟩
  by_cases q : a = p
  · subst q; exact .inr z
  · rw [upd_ne q] at h; exact x.nw a v h
theorem Loose.freeze {vs : List V} {ds : List D} (R : Rel K Z F H A σ st) (l : Loose K Z F H A σ st p vs ds) : Rel K Z (upd F p (.lst vs)) H A σ st ∧ Mono F A (upd F p (.lst vs)) A ∧ Rep K A (upd F p (.lst vs)) (.ref p) (.lst ds) := by
  have mo : Mono F A (upd F p (.lst vs)) A := .freeze l.nF
  refine ⟨⟨R.w.freeze l.at_ l.nF l.nA, R.e.freeze l.nZ l.nF, R.len, fun i sl h => ?_, R.sep⟩, mo, .lst upd_same (l.rs.mono mo)⟩
  have z := R.loc i sl h
  cases sl with
  | val d =>
    obtain ⟨x, e, r⟩ := z
    exact ⟨x, e, r.mono mo⟩
  | own m =>
    obtain ⟨q, ws, e, h1, r, f, n, zz⟩ := z
    have ne : q ≠ p := fun c => l.ap i m h (by rw [e, c])
    exact ⟨q, ws, e, h1, r.mono mo, by rw [upd_ne ne]; exact f, n, zz⟩

def Sta.set (st : Sta) (i : Nat) (s : Option Sl) : Sta := { st with r := st.r.set i s }
theorem set_get {α : Type} {l : List (Option α)} {i j : Nat} {x y : Option α} (h : (l.set i x)[j]? = some y) : (j = i ∧ y = x) ∨ (j ≠ i ∧ l[j]? = some y) := by
  by_cases q : j = i
  · subst q
    by_cases hl : j < l.length
    · rw [List.getElem?_set_self hl] at h
      exact .inl ⟨rfl, (Option.some.inj h).symm⟩
    · rw [List.getElem?_eq_none (by simpa using hl)] at h
      cases h
  · rw [List.getElem?_set_ne (Ne.symm q)] at h
    exact .inr ⟨q, h⟩
/-- a slot of the frame is set to a value -/
theorem Rel.setVal (R : Rel K Z F H A σ st) {i : Nat} (hi : i < σ.length) {v : V} {d : D} (r : Rep K A F v d) : Rel K Z F H A (σ.set i (some v)) (st.set i (some (.val d))) := by
  refine ⟨R.w, R.e, ?_, fun j sl h => ?_, fun j k l m hne h1 h2 => ?_⟩
  · show (st.r.set i _).length = _
    rw [List.length_set, List.length_set]; exact R.len
  · rcases set_get h with ⟨rfl, e⟩ | ⟨n, e⟩
    · cases e
      exact ⟨v, by rw [List.getElem?_set_self hi], r⟩
    · rw [List.getElem?_set_ne (Ne.symm n)]
      exact R.loc j sl e
  · rcases set_get h1 with ⟨rfl, e⟩ | ⟨n, e⟩
    · cases e
    · rcases set_get h2 with ⟨rfl, e'⟩ | ⟨n', e'⟩
      · cases e'
      · rw [List.getElem?_set_ne (Ne.symm n), List.getElem?_set_ne (Ne.symm n')]
        exact R.sep j k l m hne e e'
/-- a slot is set to a new list -/
theorem Rel.setOwn (R : Rel K Z F H A σ st) {i : Nat} (hi : i < σ.length) {vs : List V} {ds : List D} (l : Loose K Z F H A σ st p vs ds) : Rel K Z F H A (σ.set i (some (.ref p))) (st.set i (some (.own ds))) := by
  refine ⟨R.w, R.e, ?_, fun j sl h => ?_, fun j k x y hne h1 h2 => ?_⟩
  · show (st.r.set i _).length = _
    rw [List.length_set, List.length_set]; exact R.len
  · rcases set_get h with ⟨rfl, e⟩ | ⟨n, e⟩
    · cases e
      exact ⟨p, vs, by rw [List.getElem?_set_self hi], l.at_, l.rs, l.nF, l.nA, l.nZ⟩
    · rw [List.getElem?_set_ne (Ne.symm n)]
      exact R.loc j sl e
  · rcases set_get h1 with ⟨rfl, e⟩ | ⟨n, e⟩
    · rcases set_get h2 with ⟨rfl, e'⟩ | ⟨n', e'⟩
      · exact absurd rfl hne
      · rw [List.getElem?_set_self hi, List.getElem?_set_ne (Ne.symm n')]
        exact fun q => l.ap k y e' q.symm
    · rcases set_get h2 with ⟨rfl, e'⟩ | ⟨n', e'⟩
      · rw [List.getElem?_set_self hi, List.getElem?_set_ne (Ne.symm n)]
        exact fun q => l.ap j x e q
      · rw [List.getElem?_set_ne (Ne.symm n), List.getElem?_set_ne (Ne.symm n')]
        exact R.sep j k x y hne e e'
/-- a held list is frozen -/
theorem Rel.freeze (R : Rel K Z F H A σ st) {i : Nat} {l : List D} (h : st.r[i]? = some (some (.own l))) : ∃ p vs, σ[i]? = some (some (.ref p)) ∧ Rel K Z (upd F p (.lst vs)) H A σ (st.set i (some (.val (.lst l)))) ∧ Mono F A (upd F p (.lst vs)) A ∧
    Rep K A (upd F p (.lst vs)) (.ref p) (.lst l) := by
  obtain ⟨p, vs, e, h1, r, f, n, z⟩ := R.loc i _ h
  have mo : Mono F A (upd F p (.lst vs)) A := .freeze f
  have rp : Rep K A (upd F p (.lst vs)) (.ref p) (.lst l) := .lst upd_same (r.mono mo)
  refine ⟨p, vs, e, ⟨R.w.freeze h1 f n, R.e.freeze z f, ?_, fun j sl hj => ?_, fun j k x y hne h1 h2 => ?_⟩, mo, rp⟩
  · show (st.r.set i _).length = _
    rw [List.length_set]; exact R.len
  · rcases set_get hj with ⟨rfl, q⟩ | ⟨n, q⟩
    · cases q
      exact ⟨.ref p, e, rp⟩
    · have zz := R.loc j sl q
      cases sl with
      | val d =>
        obtain ⟨x, e, r⟩ := zz
        exact ⟨x, e, r.mono mo⟩
      | own m =>
        have ap := R.sep j i m l n q h
        obtain ⟨q', ws, e', h1', r', f', n', z'⟩ := zz
        have ne : q' ≠ p := fun c => ap (by rw [e, e', c])
        exact ⟨q', ws, e', h1', r'.mono mo, by rw [upd_ne ne]; exact f', n', z'⟩
  · rcases set_get h1 with ⟨rfl, e8⟩ | ⟨n, e8⟩
    · cases e8
    · rcases set_get h2 with ⟨rfl, e9⟩ | ⟨n', e9⟩
      · cases e9
      · exact R.sep j k x y hne e8 e9
/-- a held list is changed -/
theorem Rel.write (R : Rel K Z F H A σ st) {i : Nat} {l l' : List D} {p : Addr} {vs vs' : List V} (h : st.r[i]? = some (some (.own l))) (e : σ[i]? = some (some (.ref p))) (h1 : H p = some (.lst vs)) (r : Reps K A F vs' l') :
    Rel K Z F (upd H p (.lst vs')) A σ (st.set i (some (.own l'))) := by
  obtain ⟨p', _, e', _, _, f, n, z⟩ := R.loc i _ h
  rw [e] at e'
  have hpp : p = p' := by injection Option.some.inj (Option.some.inj e')
  subst hpp
  have k : ∀ a u, a ≠ p → H a = some u → upd H p (.lst vs') a = some u := fun a u q x => by rw [upd_ne q]; exact x
  refine ⟨⟨fun a u x => ?_, R.w.len, fun n' m fp a b => ?_, R.w.nd, R.w.nF⟩, ⟨R.e.mono, R.e.nw, R.e.nA, fun a u x y => ?_, fun a x => ?_⟩, ?_, fun j sl hj => ?_, fun j k x y hne h1 h2 => ?_⟩
  · exact k a u (fun q => by rw [q, f] at x; cases x) (R.w.le a u x)
  · refine (R.w.ok n' m fp a b).keep .refl fun c hc => upd_ne fun q => n (by rw [← q]; exact in_flat b hc)
  · exact k a u (fun q => by rw [q, z] at x; cases x) (R.e.kp a u x y)
  · by_cases q : a = p
    · subst q; rw [upd_same]; simp
    · rw [upd_ne q]; exact R.e.th a x
  · show (st.r.set i _).length = _
    rw [List.length_set]; exact R.len
  · rcases set_get hj with ⟨rfl, q⟩ | ⟨nj, q⟩
    · cases q
      exact ⟨p, vs', e, upd_same, r, f, n, z⟩
    · have zz := R.loc j sl q
      cases sl with
      | val d => exact zz
      | own m =>
        have ap := R.sep j i m l nj q h
        obtain ⟨q', ws, e', h1', r', f', n', z'⟩ := zz
        have ne : q' ≠ p := fun c => ap (by rw [e, e', c])
        exact ⟨q', ws, e', by rw [upd_ne ne]; exact h1', r', f', n', z'⟩
  · rcases set_get h1 with ⟨rfl, e1⟩ | ⟨n1, e1⟩
    · cases e1
      rcases set_get h2 with ⟨rfl, e2⟩ | ⟨n2, e2⟩
      · exact absurd rfl hne
      · exact R.sep j k l y hne h e2
    · rcases set_get h2 with ⟨rfl, e2⟩ | ⟨n2, e2⟩
      · cases e2
        exact R.sep j k x l hne e1 h
      · exact R.sep j k x y hne e1 e2
/-- a slot is forgotten -/
theorem Rel.drop (R : Rel K Z F H A σ st) (i : Nat) : Rel K Z F H A σ (st.set i none) := by
  refine ⟨R.w, R.e, ?_, fun j sl h => ?_, fun j k x y hne h1 h2 => ?_⟩
  · show (st.r.set i _).length = _
    rw [List.length_set]; exact R.len
  · rcases set_get h with ⟨rfl, e⟩ | ⟨n, e⟩
    · cases e
    · exact R.loc j sl e
  · rcases set_get h1 with ⟨rfl, e⟩ | ⟨n, e⟩
    · cases e
    · rcases set_get h2 with ⟨rfl, e'⟩ | ⟨n', e'⟩
      · cases e'
      · exact R.sep j k x y hne e e'
end
end J
end
section
namespace J
open PySem PySem.Spec PyProof.Rows L2

/-- a def's promise, with no object shown at work around it -/
structure FnG (P : Program) (w : World) (K : PySem.W.Frag) (mg : Str → Option Value) (base : Heap) (k : Nat) (f : Addr) (fd : FuncData) (ps : List Str) (sp : Sp) : Prop where
  len : ∀ vs H Q E, sp vs H Q E → vs.length = ps.length
  run : ∀ (A : Around) (outer : List Env) (s : Shared) (H : Hp) (args : Args) (us : List Value) (vs : List V) (Q : VK) (E : XK),
    Room k A → A.guards = some [] → Env0 P w K mg base A outer s H → BindsTo s fd args (ps.zip us) → Vals vs us → sp vs H Q E →
    codeAny (model P w) A (.call (.ref f) args) (CR (L2.CX P w) outer P w H s Q E) s
theorem FnG.lift {P : Program} {w : World} {K : PySem.W.Frag} {mg : Str → Option Value} {base : Heap} {j k : Nat} {f : Addr} {fd : FuncData} {ps : List Str} {sp : Sp}
    (G : FnG P w K mg base j f fd ps sp) (h : j ≤ k) : FnG P w K mg base k f fd ps sp :=
  ⟨G.len, fun A outer s H args us vs Q E hr => G.run A outer s H args us vs Q E (hr.mono h)⟩
theorem FnG.imp {P : Program} {w : World} {K : PySem.W.Frag} {mg : Str → Option Value} {base : Heap} {k : Nat} {f : Addr} {fd : FuncData} {ps : List Str} {sp sp' : Sp}
    (G : FnG P w K mg base k f fd ps sp) (h : ∀ vs H Q E, sp' vs H Q E → sp vs H Q E) : FnG P w K mg base k f fd ps sp' :=
  ⟨fun vs H Q E q => G.len vs H Q E (h _ _ _ _ q), fun A outer s H args us vs Q E hr hg he hb hv hs => G.run A outer s H args us vs Q E hr hg he hb hv (h _ _ _ _ hs)⟩

/-- a def by its body -/
theorem fnG_of {P : Program} {w : World} {K : PySem.W.Frag} {mg : Str → Option Value} {base : Heap} {k : Nat} {f : Addr} {name qual : Str} {params : Arguments} {body : List Stmt} {scope : Scope} {dvs : List V} {kws : List (Str × V)} {fd : FuncData}
    {N ps : List Str} {sp : Sp} (Fd : FunD K name qual params body scope dvs kws f fd) (sc : FnScope N ps scope) (len : ∀ vs H Q E, sp vs H Q E → vs.length = ps.length)
    (hbody : ∀ (cdv : Value) (A : Around) (outer : List Env) (s : Shared) (H : Hp) (vs : List V) (Q : VK) (E : XK), Room k (A.deeper (envOfC qual scope s.heap.objs.size f cdv)) → A.guards = some [] → sp vs H Q E →
      ∃ t, PSs (cxOf (L2.CX P w) P w K mg base N qual scope f cdv A outer s H E) body t ∧ t { nx := fun _ H' => Q .non H', rt := Q } (L2.start N vs) H) :
    FnG P w K mg base (k + 1) f fd ps sp := by
  obtain ⟨oc, od, dV, kV, doc, pm, an, cdv, ct, osl, hfd, lk, hcd, _, _⟩ := Fd.ex
  subst hfd
  constructor
  · exact len
  intro A outer s H args us vs Q E room hgs env0 binds rv hsp
  have hlen := len vs H Q E hsp
  have kin := env0.mod.kin.keeps fun b o q => (env0.bs b o q).1
  have nolim := env0.mod.nolimit.keeps fun b o q => (env0.bs b o q).1
  refine codeAny_call_function room.depth (kin _ _ lk) rfl sc.co sc.gen rfl (PySem.W.codeRec_of kin hcd) (binds _ _ _ _ ?_)
  have places : ∀ y ∈ ps.zip us, scope.names.lookup y.1 = some .local ∨
      (scope.names.lookup y.1 = some .cell ∧ ((cellsFrom (s.heap.objs.size + 1) scope.names []).lookup y.1).isSome = true) := by
    intro y hy
    have hy1 := (List.of_mem_zip (show (y.1, y.2) ∈ ps.zip us from hy)).1
    cases sc.par y.1 hy1 with
    | inl q => exact .inl q
    | inr q => exact .inr ⟨q, PySem.W.cellsFrom_some _ _ _ (.inl q)⟩
  refine wpAny_newFunctionEnv_cells sc.kind places fun env henv s1 inCall => ?_
  cases henv
  obtain ⟨t, ht, hq⟩ := hbody cdv A outer s H vs Q E (room.deeper _) hgs hsp
  refine ⟨nolim.keeps inCall.toInCall.keep, codeAny_func (wpAny_mono
    (ht.run [] s1 (L2.start N vs) H _ (inv_start sc room.hd env0 hlen rv inCall) hq) (fun flow s' post => ?_) fun e s' post => post)⟩
  have done : ∀ {σ' : L2.St} {H' : Hp} {v : V} {u : Value}, Inv (cxOf (L2.CX P w) P w K mg base N qual scope f cdv A outer s H E) [] σ' H' s' → RelV v u → Q v H' → CE outer P w H s Q u s' := by
    intro σ' H' v u I rvu q
    exact ⟨v, H', I.os, I.bare, I.base, I.hok, rvu, q⟩
  match flow, post with
  | .ret u, ⟨v, σ', H', I, rvu, q⟩ => exact done I rvu q
  | .next, ⟨σ', H', I, q⟩ => exact done (v := V.non) (u := Value.none) I rfl q
  | .brk, ⟨_, _, _, q⟩ => exact q.elim
  | .cont, ⟨_, _, _, q⟩ => exact q.elim

/-- what a body's place offers -/
structure JC (X : Cx) (k : Nat) (W : WX) : Prop where
  g : X.A.guards = some []
  room : Room k X.A
  calm : X.calm = true
  nd : X.N.Nodup
  tk : Takes X W
  po : PassesOwn (model X.prog X.w) X.A X.env X.xe

section
variable {X : Cx} {k : Nat} {f C : Addr} {fd : FuncData} {ps : List Str} {sp : Sp} {dvs : List V} {ds : List Value} {W : WX} {pins : List (Addr × Obj)} {σ : L2.St} {H : Hp} {s : Shared}
/-- the callee runs -/
theorem runG {us : List Value} {vs : List V} {Q : VK} (G : FnG X.prog X.w X.K X.mg X.base k f fd ps sp) (room : Room k X.A) (hgs : X.A.guards = some []) (binds : Binds X.K fd ps ds) (hd : Vals dvs ds) (tk : Takes X W)
    (I : Inv X pins σ H s) (r : Vals vs us) (h : sp (vs ++ dvs) H Q (fun cls d H' => W cls d σ H')) : wpAny (model X.prog X.w) X.A (call (.ref f) us) (EP X pins σ Q) X.xe s := by
  have rr : Vals (vs ++ dvs) (us ++ ds) := r.append hd
  have hl : (us ++ ds).length = ps.length := rr.length.symm.trans (G.len _ _ _ _ h)
  apply wpAny_call
  refine codeAny_mono (G.run X.A X.stack s H ⟨us, []⟩ (us ++ ds) (vs ++ dvs) Q _ room hgs I.env0 (binds s us I.kIn hl) rr h) fun res s' post => ?_
  match res, post with
  | .ok (.ret u), post => exact I.after post
  | .ok .next, post => exact False.elim post
  | .ok .brk, post => exact False.elim post
  | .ok .cont, post => exact False.elim post
  | .error e, post => exact tk e s' (XE.of_call I (fun cls d H' q => q) post)
theorem guards_make {A : Around} {us : List Value} {kw : List (Str × Value)} (h : A.guards = some []) : (A.under (.builtin "type.__call__" ⟨.ref C :: us, kw⟩)).guards = some [] := by
  have e : (Code.builtin "type.__call__" ⟨.ref C :: us, kw⟩).guards = [] := by
    first
      | rfl
      | simp [Code.guards, Code.isGuard, guardIds]
  simp only [Around.under, e, h, pushGuards]
/-- a new instance: its __init__ runs -/
theorem makeG {us : List Value} {vs : List V} {Q : VK} (mk : Mk X.K C f) (G : FnG X.prog X.w X.K X.mg X.base k f fd ps sp) (room : Room (k + 1) X.A) (hgs : X.A.guards = some []) (binds : Binds X.K fd ps ds) (hd : Vals dvs ds) (tk : Takes X W)
    (I : Inv X pins σ H s) (r : Vals vs us)
    (h : ∀ x dx, H x = none → H dx = none → dx ≠ x → sp (.ref x :: (vs ++ dvs)) (upd (upd H dx (.own x)) x (.ins C dx [])) (fun v H2 => v = .non ∧ Q (.ref x) H2) (fun cls d H' => W cls d σ H')) :
    wpAny (model X.prog X.w) X.A (call (.ref C) us) (EP X pins σ Q) X.xe s := by
  have big : H s.heap.objs.size = none := I.hok.fresh (Nat.le_refl _)
  have big' : H (s.heap.objs.size + 1) = none := I.hok.fresh (Nat.le_succ _)
  have hq := h (s.heap.objs.size + 1) s.heap.objs.size big' big (Nat.ne_of_lt (Nat.lt_succ_self _))
  have I2 := Inv.made (C := C) I
  have rr : Vals (V.ref (s.heap.objs.size + 1) :: (vs ++ dvs)) (Value.ref (s.heap.objs.size + 1) :: (us ++ ds)) := .cons rfl (r.append hd)
  have hl : (Value.ref (s.heap.objs.size + 1) :: us ++ ds).length = ps.length := rr.length.symm.trans (G.len _ _ _ _ hq)
  apply wpAny_call
  refine make_map (f := f) I.kIn mk.makes mk.init (beq_iff_eq.mp mk.fn) ?_
  refine codeAny_mono (G.run _ X.stack _ _ ⟨Value.ref (s.heap.objs.size + 1) :: us, []⟩ (Value.ref (s.heap.objs.size + 1) :: (us ++ ds)) _ _ _ (room.make C us []) (guards_make hgs)
    (I2.env0.make C us []) (binds _ (Value.ref (s.heap.objs.size + 1) :: us) I2.kIn hl) rr hq) fun res s' post => ?_
  match res, post with
  | .ok (.ret u), post =>
    obtain ⟨v, H', I3, rv, hv, q3⟩ := I2.after post
    cases hv
    exact ⟨rv, ⟨V.ref (s.heap.objs.size + 1), H', I3, rfl, q3⟩⟩
  | .ok .next, post => exact False.elim post
  | .ok .brk, post => exact False.elim post
  | .ok .cont, post => exact False.elim post
  | .error e, post => exact tk e s' (XE.of_call I2 (fun cls d H' q => q) post)
end
inductive Rf where
  | ok (d : D) (S : List MO)
  | err (x : D) (S : List MO)
  | stk
abbrev Mf := List D → List MO → Rf
def spM (K : PySem.W.Frag) (n : Nat) (mf : Mf) : Sp := fun vs H Q E => vs.length = n ∧ ∃ F A S ds, Wd K F H A S ∧ Reps K A F vs ds ∧ (match mf ds S with
  | .ok d S' => ∀ v F' H' A', Wd K F' H' A' S' → Ext F H A F' H' A' → Rep K A' F' v d → Q v H'
  | .err x S' => ∀ cls dd F' H' A', Wd K F' H' A' S' → Ext F H A F' H' A' → ExcOk K A' F' H' cls dd x → E cls dd H'
  | .stk => False)
/-- the slots at the entry -/
def slots (n : Nat) (ds : List D) : List (Option Sl) := ds.map (fun d => some (.val d)) ++ List.replicate (n - ds.length) none
def runB (n : Nat) (m : M Fl) : Mf := fun ds S => match m ⟨slots n ds, S⟩ with
  | .ok (.ret d) st => .ok d st.S
  | .ok .next st => .ok .non st.S
  | .err x st => .err x st.S
  | _ => .stk
theorem slots_get {n : Nat} {ds : List D} {i : Nat} {sl : Sl} (h : (slots n ds)[i]? = some (some sl)) : ∃ d, sl = .val d ∧ ds[i]? = some d := by
  unfold slots at h
  by_cases hi : i < ds.length
  · rw [List.getElem?_append_left (by simpa using hi), List.getElem?_map] at h
    cases e : ds[i]? with
    | none => rw [e] at h; cases h
    | some d =>
      rw [e] at h
      cases h
      exact ⟨d, rfl, rfl⟩
  · rw [List.getElem?_append_right (by simpa using hi), List.getElem?_replicate] at h
    split at h <;> cases h
theorem rel_start {K : PySem.W.Frag} {F H : Hp} {A : Fps} {S : List MO} {vs : List V} {ds : List D} {N : List Str} (w : Wd K F H A S) (r : Reps K A F vs ds) : Rel K ⟨F, H, A⟩ F H A (L2.start N vs) ⟨slots N.length ds, S⟩ := by
  have hl := r.length
  refine ⟨w, .refl, ?_, fun i sl h => ?_, fun i j l m _ h1 _ => ?_⟩
  · show (slots N.length ds).length = (L2.start N vs).length
    simp [slots, L2.start, hl]
  · obtain ⟨d, rfl, e⟩ := slots_get h
    obtain ⟨v, e2, rv⟩ := r.get e
    refine ⟨v, ?_, rv⟩
    have hi : i < vs.length := (List.getElem?_eq_some_iff.mp e2).1
    unfold L2.start
    rw [List.getElem?_append_left (by simpa using hi), List.getElem?_map, e2]
    rfl
  · obtain ⟨d, q, _⟩ := slots_get h1
    cases q
theorem spM_len {K : PySem.W.Frag} {n : Nat} {mf : Mf} : ∀ vs H Q E, spM K n mf vs H Q E → vs.length = n := fun _ _ _ _ h => h.1

/-- a def's body as a program of the monad -/
theorem fnJ {P : Program} {w : World} {K : PySem.W.Frag} {mg : Str → Option Value} {base : Heap} {k : Nat} {f : Addr} {name qual : Str} {params : Arguments} {body : List Stmt} {scope : Scope} {dvs : List V} {kws : List (Str × V)} {fd : FuncData}
    {N ps : List Str} {m : M Fl} (Fd : FunD K name qual params body scope dvs kws f fd) (sc : FnScope N ps scope)
    (hbody : ∀ (cdv : Value) (A : Around) (outer : List Env) (s : Shared) (H : Hp) (E : XK) (Z : Ent) (W : WX), JC (cxOf (L2.CX P w) P w K mg base N qual scope f cdv A outer s H E) k W →
      PSs (cxOf (L2.CX P w) P w K mg base N qual scope f cdv A outer s H E) body (tS K Z W m)) :
    FnG P w K mg base (k + 1) f fd ps (spM K ps.length (runB N.length m)) := by
  refine fnG_of Fd sc spM_len fun cdv A outer s H vs Q E room hgs hsp => ?_
  obtain ⟨hl, F, AA, S, ds, wd, rs, post⟩ := hsp
  refine ⟨_, hbody cdv A outer s H E ⟨F, H, AA⟩ (fun cls d _ H' => E cls d H') ⟨hgs, room, rfl, sc.nd, takes_of rfl rfl rfl rfl, passes_of rfl⟩, F, AA, _, rel_start wd rs, ?_⟩
  unfold runB at post
  cases q : m ⟨slots N.length ds, S⟩ with
  | stk =>
    rw [q] at post
    exact post
  | err x st =>
    rw [q] at post
    exact fun cls dd σ F' H' A' R _ xo => post cls dd F' H' A' R.w R.e xo
  | ok fl st =>
    rw [q] at post
    cases fl with
    | ret d => exact fun σ F' H' A' R _ v rv => post v F' H' A' R.w R.e rv
    | next => exact fun σ F' H' A' R _ => post .non F' H' A' R.w R.e .non
    | brk => exact post.elim
    | cont => exact post.elim

/-- what a call does in the monad -/
def callM (mf : Mf) (ds : List D) : M D := fun st => match mf ds st.S with
  | .ok d S => .ok d { st with S := S }
  | .err x S => .err x { st with S := S }
  | .stk => .stk
section
variable {X : Cx} {Z : Ent} {W : WX} {σ : L2.St} {H F : Hp} {A : Fps} {st : Sta} {n : Nat} {mf : Mf}
/-- the promise at a call -/
theorem spM_call {ds : List D} {vs : List V} {C : D → Sta → Hp → Hp → Fps → Prop} (R : Rel X.K Z F H A σ st) (r : Reps X.K A F vs ds) (hn : vs.length = n) (h : After X.K Z W σ F A (callM mf ds st) C) :
    spM X.K n mf vs H (fun v H' => ∃ d st' F' A', Rel X.K Z F' H' A' σ st' ∧ Mono F A F' A' ∧ Rep X.K A' F' v d ∧ C d st' F' H' A') (fun cls d H' => W cls d σ H') := by
  refine ⟨hn, F, A, st.S, ds, R.w, r, ?_⟩
  unfold callM at h
  cases q : mf ds st.S with
  | ok d S =>
    rw [q] at h
    exact fun v F' H' A' w x rv => ⟨d, _, F', A', R.ext w x, x.mono, rv, h F' H' A' (R.ext w x) x.mono⟩
  | err x S =>
    rw [q] at h
    exact fun cls dd F' H' A' w y xo => h cls dd F' H' A' (R.ext w y) y.mono xo
  | stk =>
    rw [q] at h
    exact h
end
end J
end
section
namespace J
open PySem PySem.Spec PyProof.Rows L2

mutual
def D.py : D → Option PyData
  | .non => some .none
  | .bl b => some (.bool b)
  | .int i => some (.int i)
  | .str x => some (.str x)
  | .tup xs => (D.pys xs).map .tuple
  | .lst xs => (D.pys xs).map .list
  | .rls xs => (D.pys xs).map .list
  | .ins _ _ => none
  | .exc _ _ => none
  | .obj _ => none
def D.pys : List D → Option (List PyData)
  | [] => some []
  | x :: xs => (D.py x).bind fun p => (D.pys xs).map fun ps => p :: ps
end

section
variable {X : Cx} {K : PySem.W.Frag} {Z : Ent} {W : WX} {F H : Hp} {A : Fps} {σ : L2.St} {st : Sta} {pos : Pos} {a b c : Expr} {ma mb mc : M D}

/-- a value at once -/
theorem pe_of {e : Expr} {v : V} {d : D} (h : PE X e (tC v)) (hr : ∀ A F, Rep K A F v d) : PE X e (tM K Z W (pure d)) :=
  PE.wk h fun σ H Q ⟨F, A, st, R, q⟩ => q F H A R .refl v (hr A F)
theorem je_int {i : Int} {j : Nat} : PE X (.Constant (.int i) j pos) (tM K Z W (pure (.int i))) := pe_of pe_int fun _ _ => .int i
theorem je_bl {b : Bool} {j : Nat} : PE X (.Constant (.bool b) j pos) (tM K Z W (pure (.bl b))) := pe_of pe_bl fun _ _ => .bl b
theorem je_non {j : Nat} : PE X (.Constant .none j pos) (tM K Z W (pure .non)) := pe_of pe_non fun _ _ => .non
theorem je_str {x : Str} {j : Nat} (h : PyData.strOk x = true := by decide +kernel) : PE X (.Constant (.str x) j pos) (tM K Z W (pure (.str x))) := pe_of pe_str fun _ _ => .str h
theorem je_glob {x : Str} {v : V} {u : Value} {d : D} (hg : Gl X x) (hm : X.mg x = some u) (r : RelV v u) (hr : ∀ A F, Rep K A F v d) (hd : (x == ("__debug__" : Str)) = false := by decide) : PE X (.Name x pos) (tM K Z W (pure d)) :=
  pe_of (pe_glob hg hm r hd) hr

/-- a name of the def: a held list is frozen by it -/
def getV (i : Nat) : M D := fun st => match st.r[i]? with
  | some (some (.val d)) => .ok d st
  | some (some (.own l)) => .ok (.lst l) (st.set i (some (.val (.lst l))))
  | _ => .stk
theorem je_var {i : Nat} {x : Str} (hN : X.N[i]? = some x := by rfl) (hv : Vis X.env.scope x := by first | exact Or.inl rfl | exact Or.inr (Or.inl rfl) | exact Or.inr (Or.inr rfl)) (hd : (x == ("__debug__" : Str)) = false := by decide)
    (hcd : (x == ("__classdict__" : Str)) = false := by decide) : PE X (.Name x pos) (tM K Z W (getV i)) := by
  refine PE.wk (pe_var hN hv hd hcd) fun σ H Q ⟨F, A, st, R, q⟩ => ?_
  unfold getV at q
  cases e : st.r[i]? with
  | none => rw [e] at q; exact q.elim
  | some o =>
    cases o with
    | none => rw [e] at q; exact q.elim
    | some sl =>
      rw [e] at q
      cases sl with
      | val d =>
        obtain ⟨v, e2, r⟩ := R.loc i _ e
        exact ⟨v, e2, q F H A R .refl v r⟩
      | own l =>
        obtain ⟨p, vs, e2, R2, m, r⟩ := R.freeze e
        exact ⟨.ref p, e2, q _ H A R2 m _ r⟩
/-- a held list looked at, not handed on -/
def lookV (i : Nat) : M D := fun st => match st.r[i]? with
  | some (some (.val d)) => .ok d st
  | some (some (.own l)) => .ok (.lst l) st
  | _ => .stk
theorem one_ {α : Type} {g : D → M α} {C : α → Sta → Hp → Hp → Fps → Prop} (R : Rel K Z F H A σ st) (h : After K Z W σ F A ((ma >>= g) st) C) :
    tM K Z W ma σ H fun x H1 => ∃ d F1 A1 st1, Rel K Z F1 H1 A1 σ st1 ∧ Mono F A F1 A1 ∧ Rep K A1 F1 x d ∧ After K Z W σ F1 A1 (g d st1) C :=
  ⟨F, A, st, R, h.bind.imp fun d st1 F1 H1 A1 R1 m q v r => ⟨d, F1, A1, st1, R1, m, r, q⟩⟩
theorem two_ {α : Type} {g : D → D → M α} {C : α → Sta → Hp → Hp → Fps → Prop} (R : Rel K Z F H A σ st) (h : After K Z W σ F A ((ma >>= fun x => mb >>= fun y => g x y) st) C) :
    tM K Z W ma σ H fun x H1 => tM K Z W mb σ H1 fun y H2 => ∃ d e F2 A2 st2, Rel K Z F2 H2 A2 σ st2 ∧ Rep K A2 F2 x d ∧ Rep K A2 F2 y e ∧ Mono F A F2 A2 ∧ After K Z W σ F2 A2 (g d e st2) C := by
  refine ⟨F, A, st, R, h.bind.imp fun d st1 F1 H1 A1 R1 m1 q v r => ?_⟩
  obtain ⟨F', A', st', R', z⟩ := one_ R1 q
  refine ⟨F', A', st', R', z.imp fun e st2 F2 H2 A2 R2 m2 q2 u ru => ?_⟩
  obtain ⟨e', F3, A3, st3, R3, m3, r3, q3⟩ := q2 u ru
  exact ⟨d, e', F3, A3, st3, R3, r.mono m3, r3, m1.trans m3, q3⟩

/-- a pure operation of two values -/
def OpJ (X : Cx) (f : Value → Value → Sem Value) (g : D → D → Option D) : Prop :=
  ∀ (Z : Ent) (pins : List (Addr × Obj)) (s : Shared) (σ : L2.St) (H F : Hp) (A : Fps) (st : Sta) (x y : V) (v u : Value) (d e res : D) (Q : VK), Inv X pins σ H s → Rel X.K Z F H A σ st → RelV x v → RelV y u → Rep X.K A F x d → Rep X.K A F y e →
    g d e = some res → (∀ v' F' H', Rel X.K Z F' H' A σ st → Mono F A F' A → Rep X.K A F' v' res → Q v' H') → wpAny (model X.prog X.w) X.A (f v u) (EP X pins σ Q) X.xe s
/-- .. of one -/
def UnJ (X : Cx) (f : Value → Sem Value) (g : D → Option D) : Prop :=
  ∀ (Z : Ent) (pins : List (Addr × Obj)) (s : Shared) (σ : L2.St) (H F : Hp) (A : Fps) (st : Sta) (x : V) (v : Value) (d res : D) (Q : VK), Inv X pins σ H s → Rel X.K Z F H A σ st → RelV x v → Rep X.K A F x d →
    g d = some res → (∀ v' F' H', Rel X.K Z F' H' A σ st → Mono F A F' A → Rep X.K A F' v' res → Q v' H') → wpAny (model X.prog X.w) X.A (f v) (EP X pins σ Q) X.xe s
theorem of_after {α : Type} {o : Option α} {C : α → Sta → Hp → Hp → Fps → Prop} (h : After K Z W σ F A (M.of o st) C) : ∃ a, o = some a ∧ After K Z W σ F A (.ok a st) C := by
  cases o with
  | none => exact h.elim
  | some a => exact ⟨a, rfl, h⟩
theorem je_op {op : Operator} {g : D → D → Option D} (ho : OpJ X (binaryOp op) g) (ha : PE X a (tM X.K Z W ma)) (hb : PE X b (tM X.K Z W mb)) : PE X (.BinOp a op b pos) (tM X.K Z W (ma >>= fun x => mb >>= fun y => M.of (g x y))) := by
  refine ⟨fun pins s σ H Q I ⟨F, A, st, R, h⟩ => ?_⟩
  refine wpAny_BinOp (binT ha hb I (two_ R h) fun v u s2 x y H2 I2 rx ry ⟨d, e, F2, A2, st2, R2, r1, r2, m, q⟩ => ?_)
  obtain ⟨res, e1, q⟩ := of_after q
  exact ho Z pins s2 σ H2 F2 A2 st2 x y v u d e res Q I2 R2 rx ry r1 r2 e1 fun v' F' H' R' m' r' => q F' H' A2 R' m' v' r'
/-- a comparison -/
theorem je_cmp {op : CmpOp} {g : D → D → Option D} (ho : OpJ X (compareOp op) g) (ha : PE X a (tM X.K Z W ma)) (hb : PE X b (tM X.K Z W mb)) (hm : behindInMarks op b = false := by first | exact nomark _ | rfl) :
    PE X (.Compare a [op] [b] pos) (tM X.K Z W (ma >>= fun x => mb >>= fun y => M.of (g x y))) := by
  refine ⟨fun pins s σ H Q I ⟨F, A, st, R, h⟩ => ?_⟩
  refine wpAny_Compare1 (binT ha hb I (two_ R h) fun v u s2 x y H2 I2 rx ry ⟨d, e, F2, A2, st2, R2, r1, r2, m, q⟩ => ?_) hm
  obtain ⟨res, e1, q⟩ := of_after q
  exact ho Z pins s2 σ H2 F2 A2 st2 x y v u d e res Q I2 R2 rx ry r1 r2 e1 fun v' F' H' R' m' r' => q F' H' A2 R' m' v' r'
def D.isB : D → Option Bool
  | .bl b => some b
  | _ => none
/-- a bool's expression as a test -/
theorem jt_val {e : Expr} (h : PE X e (tM X.K Z W ma)) (he : ∀ whole, isTrue e X.env whole = (do let v ← whole; standAt e.pos; holding [v] (truthy v)) := by intro _; rfl) : PT X e (J.tB X.K Z W (ma >>= fun d => M.of d.isB)) := by
  refine PT.wk (pt_val h he) fun σ H Q ⟨F, A, st, R, q⟩ => ?_
  refine ⟨F, A, st, R, q.bind.imp fun d st1 F1 H1 A1 R1 m q1 v r => ?_⟩
  obtain ⟨b, e1, q2⟩ := of_after q1
  cases d with
  | bl b' =>
    cases r
    cases e1
    exact ⟨b, rfl, q2 F1 H1 A1 R1 .refl⟩
  | _ => cases e1
/-- a comparison as a test -/
theorem jt_cmp {op : CmpOp} {g : D → D → Option D} (ho : OpJ X (compareOp op) g) (ha : PE X a (tM X.K Z W ma)) (hb : PE X b (tM X.K Z W mb)) (hm : behindInMarks op b = false := by first | exact nomark _ | rfl) :
    PT X (.Compare a [op] [b] pos) (J.tB X.K Z W (ma >>= fun x => mb >>= fun y => M.of ((g x y).bind D.isB))) := by
  refine ⟨fun pins s σ H Q I ⟨F, A, st, R, h⟩ => ?_⟩
  refine wpAny_isTrue_Compare1 (binT ha hb I (two_ R h) fun v u s2 x y H2 I2 rx ry ⟨d, e, F2, A2, st2, R2, r1, r2, m, q⟩ => ?_) hm
  obtain ⟨bb, e1, q⟩ := of_after q
  obtain ⟨res, e2, e3⟩ := Option.bind_eq_some_iff.mp e1
  refine thn (ho Z pins s2 σ H2 F2 A2 st2 x y v u d e res (fun v' H' => ∃ F', v' = .bl bb ∧ Rel X.K Z F' H' A2 σ st2 ∧ Mono F2 A2 F' A2) I2 R2 rx ry r1 r2 e2 fun v' F' H' R' m' r' => ?_) fun w s3 ⟨z, H3, I3, r3, F', e4, R3, m3⟩ => ?_
  · cases res with
    | bl b' =>
      cases r'
      cases e3
      exact ⟨F', rfl, R', m'⟩
    | _ => cases e3
  · subst e4
    cases r3
    exact wpAny_truthy_bool ⟨H3, I3, q F' H3 A2 R3 m3⟩
variable {rest : List Expr} {mA mB : M Bool}
def andM (m n : M Bool) : M Bool := m >>= fun x => if x = true then n else pure false
def orM (m n : M Bool) : M Bool := m >>= fun x => if x = true then pure true else n
def notM (m : M Bool) : M Bool := m >>= fun x => pure (!x)
theorem tB_bind {α : Type} {m : M Bool} {g : Bool → M α} {C : α → Sta → Hp → Hp → Fps → Prop} (R : Rel K Z F H A σ st) (h : After K Z W σ F A ((m >>= g) st) C) :
    J.tB K Z W m σ H fun x H1 => ∃ F1 A1 st1, Rel K Z F1 H1 A1 σ st1 ∧ Mono F A F1 A1 ∧ After K Z W σ F1 A1 (g x st1) C :=
  ⟨F, A, st, R, h.bind.imp fun d st1 F1 H1 A1 R1 m q => ⟨F1, A1, st1, R1, m, q⟩⟩
theorem jw_one_and (ha : PT X a (J.tB X.K Z W mA)) : PW X (.BoolOp .And [a] pos) (J.tB X.K Z W mA) := pw_and1 ha
theorem jw_one_or (ha : PT X a (J.tB X.K Z W mA)) : PW X (.BoolOp .Or [a] pos) (J.tB X.K Z W mA) := pw_or1 ha
theorem jw_and (ha : PT X a (J.tB X.K Z W mA)) (hb : PW X (.BoolOp .And (b :: rest) pos) (J.tB X.K Z W mB)) : PW X (.BoolOp .And (a :: b :: rest) pos) (J.tB X.K Z W (andM mA mB)) := by
  refine ⟨fun wh pins s σ H Q I ⟨F, A, st, R, h⟩ => (pw_and ha hb).run wh pins s σ H Q I ?_⟩
  obtain ⟨F', A', st', R', q⟩ := tB_bind R h
  refine ⟨F', A', st', R', q.imp fun x st1 F1 H1 A1 R1 m z => ?_⟩
  obtain ⟨F2, A2, st2, R2, m2, z⟩ := z
  cases x with
  | true =>
    rw [if_pos rfl] at z ⊢
    exact ⟨F2, A2, st2, R2, z⟩
  | false =>
    rw [if_neg Bool.false_ne_true] at z ⊢
    exact z F2 H1 A2 R2 .refl
theorem jw_or (ha : PT X a (J.tB X.K Z W mA)) (hb : PW X (.BoolOp .Or (b :: rest) pos) (J.tB X.K Z W mB)) : PW X (.BoolOp .Or (a :: b :: rest) pos) (J.tB X.K Z W (orM mA mB)) := by
  refine ⟨fun wh pins s σ H Q I ⟨F, A, st, R, h⟩ => (pw_or ha hb).run wh pins s σ H Q I ?_⟩
  obtain ⟨F', A', st', R', q⟩ := tB_bind R h
  refine ⟨F', A', st', R', q.imp fun x st1 F1 H1 A1 R1 m z => ?_⟩
  obtain ⟨F2, A2, st2, R2, m2, z⟩ := z
  cases x with
  | true =>
    rw [if_pos rfl] at z ⊢
    exact z F2 H1 A2 R2 .refl
  | false =>
    rw [if_neg Bool.false_ne_true] at z ⊢
    exact ⟨F2, A2, st2, R2, z⟩
theorem jt_not (ha : PT X a (J.tB X.K Z W mA)) : PT X (.UnaryOp .Not a pos) (J.tB X.K Z W (notM mA)) := by
  refine PT.wk (pt_not ha) fun σ H Q ⟨F, A, st, R, h⟩ => ?_
  obtain ⟨F', A', st', R', q⟩ := tB_bind R h
  refine ⟨F', A', st', R', q.imp fun x st1 F1 H1 A1 R1 m z => ?_⟩
  obtain ⟨F2, A2, st2, R2, m2, z⟩ := z
  exact z F2 H1 A2 R2 .refl
theorem je_ifExp (hc : PT X c (J.tB X.K Z W mA)) (ha : PE X a (tM X.K Z W ma)) (hb : PE X b (tM X.K Z W mb)) : PE X (.IfExp c a b pos) (tM X.K Z W (mA >>= fun x => if x = true then ma else mb)) := by
  refine PE.wk (pe_ifExp hc ha hb) fun σ H Q ⟨F, A, st, R, h⟩ => ?_
  obtain ⟨F', A', st', R', q⟩ := tB_bind R h
  refine ⟨F', A', st', R', q.imp fun x st1 F1 H1 A1 R1 m z => ?_⟩
  obtain ⟨F2, A2, st2, R2, m2, z⟩ := z
  cases x with
  | true =>
    rw [if_pos rfl] at z ⊢
    exact ⟨F2, A2, st2, R2, z⟩
  | false =>
    rw [if_neg Bool.false_ne_true] at z ⊢
    exact ⟨F2, A2, st2, R2, z⟩
/-- values that are bools, by and, or, not -/
theorem je_one {op : BoolOp} (h : PE X a (tM X.K Z W ma)) : PE X (.BoolOp op [a] pos) (tM X.K Z W ma) := pe_one h
def andV (m n : M D) : M D := m >>= fun d => M.of d.isB >>= fun x => if x = true then n else pure (.bl false)
def orV (m n : M D) : M D := m >>= fun d => M.of d.isB >>= fun x => if x = true then pure (.bl true) else n
def notV (m : M D) : M D := m >>= fun d => M.of d.isB >>= fun x => pure (.bl (!x))
theorem isB_rep {d : D} {v : V} {x : Bool} (r : Rep K A F v d) (e : d.isB = some x) : v = .bl x := by
  cases d with
  | bl b =>
    cases r
    cases e
    rfl
  | _ => cases e
theorem je_and (ha : PE X a (tM X.K Z W ma)) (hb : PE X (.BoolOp .And (b :: rest) pos) (tM X.K Z W mb)) : PE X (.BoolOp .And (a :: b :: rest) pos) (tM X.K Z W (andV ma mb)) := by
  refine PE.wk (pe_and ha hb) fun σ H Q ⟨F, A, st, R, h⟩ => ?_
  refine ⟨F, A, st, R, h.bind.imp fun d st1 F1 H1 A1 R1 m z v r => ?_⟩
  obtain ⟨x, e, z⟩ := of_after z.bind
  refine ⟨x, isB_rep r e, ?_⟩
  have z := z F1 H1 A1 R1 .refl
  cases x with
  | true =>
    rw [if_pos rfl] at z ⊢
    exact ⟨F1, A1, st1, R1, z⟩
  | false =>
    rw [if_neg Bool.false_ne_true] at z ⊢
    exact z F1 H1 A1 R1 .refl _ (.bl false)
theorem je_or (ha : PE X a (tM X.K Z W ma)) (hb : PE X (.BoolOp .Or (b :: rest) pos) (tM X.K Z W mb)) : PE X (.BoolOp .Or (a :: b :: rest) pos) (tM X.K Z W (orV ma mb)) := by
  refine PE.wk (pe_or ha hb) fun σ H Q ⟨F, A, st, R, h⟩ => ?_
  refine ⟨F, A, st, R, h.bind.imp fun d st1 F1 H1 A1 R1 m z v r => ?_⟩
  obtain ⟨x, e, z⟩ := of_after z.bind
  refine ⟨x, isB_rep r e, ?_⟩
  have z := z F1 H1 A1 R1 .refl
  cases x with
  | true =>
    rw [if_pos rfl] at z ⊢
    exact z F1 H1 A1 R1 .refl _ (.bl true)
  | false =>
    rw [if_neg Bool.false_ne_true] at z ⊢
    exact ⟨F1, A1, st1, R1, z⟩
theorem je_not (ha : PE X a (tM X.K Z W ma)) : PE X (.UnaryOp .Not a pos) (tM X.K Z W (notV ma)) := by
  refine PE.wk (pe_not ha) fun σ H Q ⟨F, A, st, R, h⟩ => ?_
  refine ⟨F, A, st, R, h.bind.imp fun d st1 F1 H1 A1 R1 m z v r => ?_⟩
  obtain ⟨x, e, z⟩ := of_after z.bind
  exact ⟨x, isB_rep r e, z F1 H1 A1 R1 .refl F1 H1 A1 R1 .refl _ (.bl _)⟩
/-- arguments: n of them -/
structure PAJ (X : Cx) (Z : Ent) (W : WX) (es : List Expr) (n : Nat) (m : M (List D)) : Prop where
  pa : PA X es (tL X.K Z W m)
  len : ∀ st ds st', m st = .ok ds st' → ds.length = n
def consM (m : M D) (r : M (List D)) : M (List D) := m >>= fun x => r >>= fun xs => pure (x :: xs)
theorem ja_nil : PAJ X Z W [] 0 (pure []) :=
  ⟨PA.wk pa_nil fun σ H Q ⟨F, A, st, R, h⟩ => h F H A R .refl [] .nil, fun st ds st' h => by cases h; rfl⟩
theorem bind_ok {α β : Type} {m : M α} {f : α → M β} {st st' : Sta} {y : β} (h : (m >>= f) st = .ok y st') : ∃ x st1, m st = .ok x st1 ∧ f x st1 = .ok y st' := by
  rw [bind_eq] at h
  cases q : m st with
  | ok x st1 => rw [q] at h; exact ⟨x, st1, rfl, h⟩
  | err _ _ => rw [q] at h; cases h
  | stk => rw [q] at h; cases h
theorem ja_cons {n : Nat} {es : List Expr} {m : M (List D)} (ha : PE X a (tM X.K Z W ma)) (hr : PAJ X Z W es n m) (hs : starEach (a :: es) X.env = (false, eval a X.env) :: starEach es X.env := by rfl) : PAJ X Z W (a :: es) (n + 1) (consM ma m) := by
  refine ⟨PA.wk (pa_cons ha hr.pa hs) fun σ H Q ⟨F, A, st, R, h⟩ => ?_, fun st ds st' h => ?_⟩
  · refine ⟨F, A, st, R, h.bind.imp fun d st1 F1 H1 A1 R1 m1 z v r => ?_⟩
    refine ⟨F1, A1, st1, R1, z.bind.imp fun ds st2 F2 H2 A2 R2 m2 z vs rs => ?_⟩
    exact z F2 H2 A2 R2 .refl (v :: vs) (.cons (r.mono m2) rs)
  · obtain ⟨x, st1, h1, h2⟩ := bind_ok h
    obtain ⟨xs, st2, h3, h4⟩ := bind_ok h2
    cases h4
    exact congrArg (· + 1) (hr.len _ _ _ h3)
theorem rel_len {n : Nat} {m : M (List D)} {vs : List V} {ds : List D} {st st' : Sta} (hl : ∀ st ds st', m st = .ok ds st' → ds.length = n) (h : m st = .ok ds st') (r : Reps K A F vs ds) : vs.length = n := r.length.trans (hl _ _ _ h)
theorem After.withEq {α : Type} {r : Ro α} {C : α → Sta → Hp → Hp → Fps → Prop} (h : After K Z W σ F A r C) : After K Z W σ F A r (fun a st' F' H' A' => r = .ok a st' ∧ C a st' F' H' A') := by
  cases r with
  | ok a st => exact fun F' H' A' R m => ⟨rfl, h F' H' A' R m⟩
  | err _ _ => exact h
  | stk => exact h
/-- the wish holds of every state behind -/
theorem After.again {α : Type} {r : Ro α} {C : α → Sta → Hp → Hp → Fps → Prop} (h : After K Z W σ F A r C) : After K Z W σ F A r (fun a st' F1 H1 A1 => r = .ok a st' ∧ ∀ F2 H2 A2, Rel K Z F2 H2 A2 σ st' → Mono F1 A1 F2 A2 → C a st' F2 H2 A2) := by
  cases r with
  | ok a st => exact fun F' H' A' R m => ⟨rfl, fun F2 H2 A2 R2 m2 => h F2 H2 A2 R2 (m.trans m2)⟩
  | err _ _ => exact h
  | stk => exact h
theorem je_tup {n : Nat} {es : List Expr} {m : M (List D)} {k : Nat} (h : PAJ X Z W es n m) (hn : n ≤ 1000 := by decide) : PE X (.Tuple es k pos) (tM X.K Z W (m >>= fun ds => pure (.tup ds))) := by
  refine PE.wk (pe_tup h.pa) fun σ H Q ⟨F, A, st, R, q⟩ => ?_
  refine ⟨F, A, st, R, q.bind.withEq.imp fun ds st1 F1 H1 A1 R1 m1 ⟨e, z⟩ vs rs => ?_⟩
  have hl : vs.length = n := rs.length.trans (h.len _ _ _ e)
  refine ⟨by rw [hl, sizeLine_eq]; omega, fun p hp => ?_⟩
  exact z _ _ A1 (R1.new hp) (.new R1.w hp) _ (.tup (.inl (.inl upd_same)) (rs.mono (.new R1.w hp)))
/-- a list that was just made, and nothing holds -/
def tN (K : PySem.W.Frag) (Z : Ent) (W : WX) (m : M (List D)) : TE := fun σ H Q => ∃ F A st, Rel K Z F H A σ st ∧ After K Z W σ F A (m st) fun ds st' F' H' A' => ∀ p vs, Loose K Z F' H' A' σ st' p vs ds → Q (.ref p) H'
theorem own_ne {p : Addr} (R : Rel K Z F H A σ st) (hp : H p = none) : ∀ (i : Nat) l, st.r[i]? = some (some (.own l)) → σ[i]? ≠ some (some (.ref p)) := fun i l h q => by
  obtain ⟨p', vs, e, h1, _⟩ := R.loc i _ h
  rw [q] at e
  injection e with e
  injection e with e
  injection e with e
  subst e
  rw [hp] at h1
  cases h1
/-- a new list is laid -/
theorem Rel.loose {p : Addr} {vs : List V} {ds : List D} (R : Rel K Z F H A σ st) (hp : H p = none) (r : Reps K A F vs ds) : Rel K Z F (upd H p (.lst vs)) A σ st ∧ Loose K Z F (upd H p (.lst vs)) A σ st p vs ds := by
  have nF : F p = none := by
    cases q : F p with
    | none => rfl
    | some u =>
      have := R.le p u q
      rw [hp] at this
      cases this
  have nA : p ∉ A.flatten := fun q => R.w.there q hp
  have k : ∀ a u, H a = some u → upd H p (.lst vs) a = some u := fun a u h => by rw [upd_ne fun q => by rw [q, hp] at h; cases h]; exact h
  refine ⟨⟨⟨fun a u h => k a u (R.le a u h), R.w.len, fun n m fp h1 h2 => (R.w.ok n m fp h1 h2).keep .refl fun c hc => upd_ne fun q => nA (by rw [← q]; exact in_flat h2 hc), R.w.nd, R.w.nF⟩,
    ⟨R.e.mono, R.e.nw, R.e.nA, fun a u h n => k a u (R.e.kp a u h n), fun a h => ?_⟩, R.len, fun i sl h => (R.loc i sl h).keep .refl (fun a u h _ => k a u h) (fun _ _ h => .inl h) fun _ h => .inl h, R.sep⟩,
    upd_same, r, nF, nA, R.zfree hp, own_ne R hp⟩
  by_cases q : a = p
  · subst q; rw [upd_same]; simp
  · rw [upd_ne q]; exact R.e.th a h
/-- it is handed on: frozen -/
theorem jn_frz {e : Expr} {m : M (List D)} (h : PE X e (tN X.K Z W m)) : PE X e (tM X.K Z W (m >>= fun l => pure (.lst l))) := by
  refine PE.wk h fun σ H Q ⟨F, A, st, R, q⟩ => ?_
  refine ⟨F, A, st, R, q.bind.imp fun ds st1 F1 H1 A1 R1 m1 z p vs lo => ?_⟩
  obtain ⟨R2, m2, r2⟩ := lo.freeze R1
  exact z _ H1 A1 R2 m2 _ r2
theorem jn_lst {n : Nat} {es : List Expr} {m : M (List D)} (h : PAJ X Z W es n m) (hn : n ≤ 1000 := by decide) : PE X (.List es pos) (tN X.K Z W m) := by
  refine PE.wk (pe_lst h.pa) fun σ H Q ⟨F, A, st, R, q⟩ => ?_
  refine ⟨F, A, st, R, q.again.imp fun ds st1 F1 H1 A1 R1 m1 ⟨e, z⟩ vs rs => ?_⟩
  have hl : vs.length = n := rs.length.trans (h.len _ _ _ e)
  refine ⟨by rw [hl, sizeLine_eq]; omega, fun p hp => ?_⟩
  obtain ⟨R2, lo⟩ := R1.loose hp rs
  exact z F1 _ A1 R2 .refl p vs lo
end
end J
end
section
namespace J
open PySem PySem.Spec PyProof.Rows L2

theorem strOk_append {x y : Str} (hx : PyData.strOk x = true) (hy : PyData.strOk y = true) : PyData.strOk (x ++ y) = true := by
  unfold PyData.strOk at *
  show ((x.cps ++ y.cps).all _) = true
  rw [Array.all_append, hx, hy] <;> rfl

section
variable {X : Cx} {K : PySem.W.Frag} {Z : Ent} {W : WX} {F H : Hp} {A : Fps} {σ : L2.St} {st : Sta}
theorem sqT_le {K : PySem.W.Frag} {F H : Hp} (le : ∀ a o, F a = some o → H a = some o) {a : Addr} {vs : List V} (h : SqT K F a vs) : SqT K H a vs := by
  rcases h with (h | ⟨o, h⟩) | h
  · exact .inl (.inl (le _ _ h))
  · exact .inl (.inr ⟨o, le _ _ h⟩)
  · exact .inr h
theorem sqL_le {K : PySem.W.Frag} {F H : Hp} (le : ∀ a o, F a = some o → H a = some o) {a : Addr} {vs : List V} (h : SqL K F a vs) : SqL K H a vs := by
  rcases h with (h | ⟨o, h⟩) | h
  · exact .inl (.inl (le _ _ h))
  · exact .inl (.inr ⟨o, le _ _ h⟩)
  · exact .inr h
mutual
theorem Rep.dp (le : ∀ a o, F a = some o → H a = some o) : ∀ {v : V} {d : D} {p : PyData}, Rep K A F v d → d.py = some p → Dp K H v p ∧ PyData.canLay0 p = true
  | _, _, _, .non, e => by cases e; exact ⟨.non, by simp [PyData.canLay0]⟩
  | _, _, _, .bl b, e => by cases e; exact ⟨.bl b, by simp [PyData.canLay0]⟩
  | _, _, _, .int i, e => by cases e; exact ⟨.int i, by simp [PyData.canLay0]⟩
  | _, _, _, .str h, e => by cases e; exact ⟨.str _, by simpa [PyData.canLay0] using h⟩
  | _, _, p, .tup h r, e => by
    simp only [D.py] at e
    obtain ⟨ps, e1, e2⟩ := Option.map_eq_some_iff.mp e
    obtain ⟨h1, h2⟩ := Reps.dp le r e1
    subst e2
    exact ⟨.tup (sqT_le le h) h1, by simpa [PyData.canLay0] using h2⟩
  | _, _, p, .lst h r, e => by
    simp only [D.py] at e
    obtain ⟨ps, e1, e2⟩ := Option.map_eq_some_iff.mp e
    obtain ⟨h1, h2⟩ := Reps.dp le r e1
    subst e2
    exact ⟨.lst (.inl (.inl (le _ _ h))) h1, by simpa [PyData.canLay0] using h2⟩
  | _, _, p, .rls h r, e => by
    simp only [D.py] at e
    obtain ⟨ps, e1, e2⟩ := Option.map_eq_some_iff.mp e
    obtain ⟨h1, h2⟩ := Reps.dp le r e1
    subst e2
    exact ⟨.lst (sqL_le le h) h1, by simpa [PyData.canLay0] using h2⟩
  | _, _, _, .ins _ _, e => by simp [D.py] at e
  | _, _, _, .obj _, e => by simp [D.py] at e
theorem Reps.dp (le : ∀ a o, F a = some o → H a = some o) : ∀ {vs : List V} {ds : List D} {ps : List PyData}, Reps K A F vs ds → D.pys ds = some ps → DpAll K H vs ps ∧ PyData.canLayAll0 ps = true
  | _, _, _, .nil, e => by cases e; exact ⟨.nil, by simp [PyData.canLayAll0]⟩
  | _, _, _, .cons h r, e => by
    simp only [D.pys] at e
    obtain ⟨p, e1, e⟩ := Option.bind_eq_some_iff.mp e
    obtain ⟨ps, e2, e3⟩ := Option.map_eq_some_iff.mp e
    obtain ⟨h1, h2⟩ := Rep.dp le h e1
    obtain ⟨h3, h4⟩ := Reps.dp le r e2
    subst e3
    exact ⟨.cons h1 h3, by simp [PyData.canLayAll0, h2, h4]⟩
end

theorem opj_of {f : Value → Value → Sem Value} {g : D → D → Option D} {r : R2} (ho : OpR X f r)
    (h : ∀ (Z : Ent) (F H : Hp) (A : Fps) (σ : L2.St) (st : Sta) (x y : V) (d e res : D) (Q : VK), Rel X.K Z F H A σ st → Rep X.K A F x d → Rep X.K A F y e → g d e = some res →
      (∀ v' F' H', Rel X.K Z F' H' A σ st → Mono F A F' A → Rep X.K A F' v' res → Q v' H') → r x y H Q) : OpJ X f g :=
  fun Z pins s σ H F A st x y v u d e res Q I R rx ry r1 r2 eg q => ho pins s σ H x y v u Q I rx ry (h Z F H A σ st x y d e res Q R r1 r2 eg q)
def dAdd : D → D → Option D
  | .int i, .int j => some (.int (i + j))
  | .str x, .str y => if x.length + y.length ≤ 16777216 then some (.str (x ++ y)) else none
  | .tup x, .tup y => if x.length + y.length ≤ 16777216 then some (.tup (x ++ y)) else none
  | .lst x, .lst y => if x.length + y.length ≤ 16777216 then some (.lst (x ++ y)) else none
  | _, _ => none
theorem if_some {α : Type} {c : Prop} [Decidable c] {a b : α} (h : (if c then some a else none) = some b) : c ∧ a = b := by
  by_cases q : c
  · rw [if_pos q] at h
    exact ⟨q, Option.some.inj h⟩
  · rw [if_neg q] at h
    cases h
theorem oj_add : OpJ X (binaryOp .Add) dAdd := by
  intro Z pins s σ H F A st x y v u d e res Q I R rx ry r1 r2 eg q
  cases d with
  | int i =>
    cases e with
    | int j =>
      cases r1; cases r2; cases eg
      exact op_add pins s σ H _ _ v u Q I rx ry ⟨i, j, rfl, rfl, q _ F H R .refl (.int _)⟩
    | _ => cases eg
  | str a =>
    cases e with
    | str b =>
      obtain ⟨hc, rfl⟩ := if_some eg
      cases r1 with
      | str h1 =>
        cases r2 with
        | str h2 => exact op_add_str pins s σ H _ _ v u Q I rx ry ⟨a, b, rfl, rfl, by rw [sizeLine_eq]; exact hc, q _ F H R .refl (.str (strOk_append h1 h2))⟩
    | _ => cases eg
  | tup a =>
    cases e with
    | tup b =>
      obtain ⟨hc, rfl⟩ := if_some eg
      cases r1 with
      | tup s1 h1 =>
        cases r2 with
        | tup s2 h2 =>
          rename_i a1 xs a2 ys
          refine op_catA pins s σ H _ _ v u Q I rx ry ⟨a1, a2, xs, ys, rfl, rfl, sqT_le R.le s1, sqT_le R.le s2, by rw [sizeLine_eq, h1.length, h2.length]; exact hc, fun e0 => ?_, fun _ e0 => ?_, fun _ _ p hp => ?_⟩
          · subst e0
            cases h1
            exact q _ F H R .refl (.tup s2 h2)
          · subst e0
            cases h2
            rw [List.append_nil] at q
            exact q _ F H R .refl (.tup s1 h1)
          · exact q _ _ _ (R.new hp) (.new R.w hp) (.tup (.inl (.inl upd_same)) ((h1.append h2).mono (.new R.w hp)))
    | _ => cases eg
  | lst a =>
    cases e with
    | lst b =>
      obtain ⟨hc, rfl⟩ := if_some eg
      cases r1 with
      | lst s1 h1 =>
        cases r2 with
        | lst s2 h2 =>
          rename_i a1 xs a2 ys
          refine op_cat pins s σ H _ _ v u Q I rx ry ⟨a1, a2, xs, ys, rfl, rfl, R.le _ _ s1, R.le _ _ s2, by rw [sizeLine_eq, h1.length, h2.length]; exact hc, fun p hp => ?_⟩
          exact q _ _ _ (R.new hp) (.new R.w hp) (.lst upd_same ((h1.append h2).mono (.new R.w hp)))
    | _ => cases eg
  | _ => cases eg
def dSub : D → D → Option D
  | .int i, .int j => some (.int (i - j))
  | _, _ => none
def dMul : D → D → Option D
  | .int i, .int j => if (-(2 ^ 64) < i ∧ i < 2 ^ 64) ∨ (-(2 ^ 64) < j ∧ j < 2 ^ 64) then some (.int (i * j)) else none
  | _, _ => none
def dDiv : D → D → Option D
  | .int i, .int j => if 0 < j ∧ j < 1073741824 then some (.int (i / j)) else none
  | _, _ => none
def dMod : D → D → Option D
  | .int i, .int j => if 0 < j then some (.int (i % j)) else none
  | _, _ => none
theorem oj_sub : OpJ X (binaryOp .Sub) dSub := opj_of op_sub fun Z F H A σ st x y d e res Q R r1 r2 eg q => by
  cases d with
  | int i =>
    cases e with
    | int j =>
      cases r1; cases r2; cases eg
      exact ⟨i, j, rfl, rfl, q _ F H R .refl (.int _)⟩
    | _ => cases eg
  | _ => cases eg
theorem oj_mul : OpJ X (binaryOp .Mult) dMul := opj_of op_mul fun Z F H A σ st x y d e res Q R r1 r2 eg q => by
  cases d with
  | int i =>
    cases e with
    | int j =>
      obtain ⟨hc, rfl⟩ := if_some eg
      cases r1; cases r2
      exact ⟨i, j, rfl, rfl, hc, q _ F H R .refl (.int _)⟩
    | _ => cases eg
  | _ => cases eg
theorem oj_div : OpJ X (binaryOp .FloorDiv) dDiv := opj_of op_fdiv fun Z F H A σ st x y d e res Q R r1 r2 eg q => by
  cases d with
  | int i =>
    cases e with
    | int j =>
      obtain ⟨hc, rfl⟩ := if_some eg
      cases r1; cases r2
      exact ⟨i, j, rfl, rfl, hc, q _ F H R .refl (.int _)⟩
    | _ => cases eg
  | _ => cases eg
theorem oj_mod : OpJ X (binaryOp .Mod) dMod := opj_of op_mod fun Z F H A σ st x y d e res Q R r1 r2 eg q => by
  cases d with
  | int i =>
    cases e with
    | int j =>
      obtain ⟨hc, rfl⟩ := if_some eg
      cases r1; cases r2
      exact ⟨i, j, rfl, rfl, hc, q _ F H R .refl (.int _)⟩
    | _ => cases eg
  | _ => cases eg
def dPow : D → D → Option D
  | .int i, .int j => if 0 ≤ j ∧ j ≤ 1000000 ∧ i.natAbs < 2 ^ 64 then some (.int (i ^ j.toNat)) else none
  | _, _ => none
theorem oj_pow : OpJ X (binaryOp .Pow) dPow := opj_of op_pow fun Z F H A σ st x y d e res Q R r1 r2 eg q => by
  cases d with
  | int i =>
    cases e with
    | int j =>
      obtain ⟨hc, rfl⟩ := if_some eg
      cases r1; cases r2
      exact ⟨i, j, rfl, rfl, hc, q _ F H R .refl (.int _)⟩
    | _ => cases eg
  | _ => cases eg
def dNeg : D → Option D
  | .int i => some (.int (-i))
  | _ => none
theorem uj_neg : UnJ X (unaryOp .USub) dNeg := by
  intro Z pins s σ H F A st x v d res Q I R rx r1 eg q
  cases d with
  | int i =>
    cases r1; cases eg
    exact un_neg pins s σ H _ v Q I rx ⟨i, rfl, q _ F H R .refl (.int _)⟩
  | _ => cases eg
theorem je_un {op : UnaryOp} {g : D → Option D} {a : Expr} {ma : M D} {pos : Pos} (ho : UnJ X (unaryOp op) g) (ha : PE X a (tM X.K Z W ma)) : PE X (.UnaryOp op a pos) (tM X.K Z W (ma >>= fun x => M.of (g x))) := by
  refine ⟨fun pins s σ H Q I ⟨F, A, st, R, h⟩ => ?_⟩
  refine UnaryOp_ (thn (ha.run pins s σ H _ I (one_ R h)) fun v s1 ⟨x, H1, I1, rx, d, F1, A1, st1, R1, m1, r1, q⟩ => ?_)
  obtain ⟨res, e1, q⟩ := of_after q
  exact ho Z pins s1 σ H1 F1 A1 st1 x v d res Q I1 R1 rx r1 e1 fun v' F' H' R' m' r' => q F' H' A1 R' m' v' r'
def D.ints : List D → Option (List Int)
  | [] => some []
  | .int i :: r => (D.ints r).map (i :: ·)
  | _ :: _ => none
theorem ints_reps : ∀ {ds : List D} {ns : List Int} {vs : List V}, Reps K A F vs ds → D.ints ds = some ns → vs = ns.map V.int
  | [], _, _, .nil, e => by cases e; rfl
  | d :: r, ns, _, .cons h t, e => by
    cases d with
    | int i =>
      cases h
      simp only [D.ints] at e
      obtain ⟨ms, e1, e2⟩ := Option.map_eq_some_iff.mp e
      subst e2
      rw [ints_reps t e1]
      rfl
    | _ => simp [D.ints] at e
def dCmp (p : Int → Int → Bool) : D → D → Option D
  | .int i, .int j => some (.bl (p i j))
  | _, _ => none
theorem oj_cmp {op : CmpOp} {p : Int → Int → Bool} (ho : OpR X (compareOp op) (rI0 fun i j => .bl (p i j))) : OpJ X (compareOp op) (dCmp p) := opj_of ho fun Z F H A σ st x y d e res Q R r1 r2 eg q => by
  cases d with
  | int i =>
    cases e with
    | int j =>
      cases r1; cases r2; cases eg
      exact ⟨i, j, rfl, rfl, q _ F H R .refl (.bl _)⟩
    | _ => cases eg
  | _ => cases eg
/-- <, of tuples of ints too -/
def dLt : D → D → Option D
  | .int i, .int j => some (.bl (decide (i < j)))
  | .tup x, .tup y => (D.ints x).bind fun ns => (D.ints y).map fun ms => .bl (HT.lexLt ns ms)
  | _, _ => none
theorem oj_lt (hu : X.A.units < cLine) : OpJ X (compareOp .Lt) dLt := by
  intro Z pins s σ H F A st x y v u d e res Q I R rx ry r1 r2 eg q
  cases d with
  | int i =>
    cases e with
    | int j =>
      cases r1; cases r2; cases eg
      exact op_lt pins s σ H _ _ v u Q I rx ry ⟨i, j, rfl, rfl, q _ F H R .refl (.bl _)⟩
    | _ => cases eg
  | tup a =>
    cases e with
    | tup b =>
      obtain ⟨ns, e1, eg⟩ := Option.bind_eq_some_iff.mp eg
      obtain ⟨ms, e2, eg⟩ := Option.map_eq_some_iff.mp eg
      subst eg
      cases r1 with
      | tup s1 h1 =>
        cases r2 with
        | tup s2 h2 =>
          rw [ints_reps h1 e1] at s1
          rw [ints_reps h2 e2] at s2
          exact op_ltT hu pins s σ H _ _ v u Q I rx ry ⟨_, _, ns, ms, rfl, rfl, sqT_le R.le s1, sqT_le R.le s2, q _ F H R .refl (.bl _)⟩
    | _ => cases eg
  | _ => cases eg
def eqD (d e : D) : Option Bool := d.py.bind fun p => e.py.bind fun q => if p.depth ≤ 64 ∧ q.depth ≤ 64 then some (PyData.eqv p q) else none
def dEq (d e : D) : Option D := (eqD d e).map .bl
def dNe (d e : D) : Option D := (eqD d e).map fun b => .bl (!b)
theorem shaped_of {p : PyData} (h : PyData.canLay0 p = true) (d : p.depth ≤ 64) : SeqAt.shaped p = true := by
  unfold SeqAt.shaped
  rw [h, decide_eq_true d] <;> rfl
theorem eqD_dp {x y : V} {d e : D} {b : Bool} (R : Rel K Z F H A σ st) (r1 : Rep K A F x d) (r2 : Rep K A F y e) (h : eqD d e = some b) :
    ∃ p q, Dp K H x p ∧ Dp K H y q ∧ SeqAt.shaped p = true ∧ SeqAt.shaped q = true ∧ PyData.eqv p q = b := by
  obtain ⟨p, e1, h⟩ := Option.bind_eq_some_iff.mp h
  obtain ⟨q, e2, h⟩ := Option.bind_eq_some_iff.mp h
  obtain ⟨⟨c1, c2⟩, h⟩ := if_some h
  obtain ⟨d1, l1⟩ := r1.dp R.le e1
  obtain ⟨d2, l2⟩ := r2.dp R.le e2
  exact ⟨p, q, d1, d2, shaped_of l1 c1, shaped_of l2 c2, h⟩
theorem oj_eq (hu : X.A.units + 64 < cLine) : OpJ X (compareOp .Eq) dEq := opj_of (op_eqD hu) fun Z F H A σ st x y d e res Q R r1 r2 eg q => by
  obtain ⟨b, e1, e2⟩ := Option.map_eq_some_iff.mp eg
  subst e2
  obtain ⟨p, p', d1, d2, s1, s2, ev⟩ := eqD_dp R r1 r2 e1
  refine ⟨p, p', d1, d2, s1, s2, ?_⟩
  rw [ev]
  exact q _ F H R .refl (.bl b)
theorem oj_ne (hu : X.A.units + 64 < cLine) : OpJ X (compareOp .NotEq) dNe := opj_of (op_neD hu) fun Z F H A σ st x y d e res Q R r1 r2 eg q => by
  obtain ⟨b, e1, e2⟩ := Option.map_eq_some_iff.mp eg
  subst e2
  obtain ⟨p, p', d1, d2, s1, s2, ev⟩ := eqD_dp R r1 r2 e1
  refine ⟨p, p', d1, d2, s1, s2, ?_⟩
  rw [ev]
  exact q _ F H R .refl (.bl _)
def D.isN : D → Bool
  | .non => true
  | _ => false
theorem isN_rep {v : V} {d : D} (r : Rep K A F v d) : decide (v = .non) = d.isN := by
  cases r <;> simp [D.isN]
theorem je_isN {a : Expr} {ma : M D} {pos pos' : Pos} {j : Nat} (ha : PE X a (tM X.K Z W ma)) : PE X (.Compare a [.Is] [.Constant .none j pos'] pos) (tM X.K Z W (ma >>= fun d => pure (.bl d.isN))) := by
  refine PE.wk (pe_cmp (pc_isN ha) (nobehind _ (by decide) (by decide))) fun σ H Q ⟨F, A, st, R, q⟩ => ?_
  refine ⟨F, A, st, R, q.bind.imp fun d st1 F1 H1 A1 R1 m1 z v r => ?_⟩
  have z := z F1 H1 A1 R1 .refl
  show Q (.bl (decide (v = .non))) H1
  rw [isN_rep r]
  exact z _ (.bl _)
theorem je_isNotN {a : Expr} {ma : M D} {pos pos' : Pos} {j : Nat} (ha : PE X a (tM X.K Z W ma)) : PE X (.Compare a [.IsNot] [.Constant .none j pos'] pos) (tM X.K Z W (ma >>= fun d => pure (.bl (!d.isN)))) := by
  refine PE.wk (pe_cmp (pc_notN ha) (nobehind _ (by decide) (by decide))) fun σ H Q ⟨F, A, st, R, q⟩ => ?_
  refine ⟨F, A, st, R, q.bind.imp fun d st1 F1 H1 A1 R1 m1 z v r => ?_⟩
  have z := z F1 H1 A1 R1 .refl
  show Q (.bl (!decide (v = .non))) H1
  rw [isN_rep r]
  exact z _ (.bl _)
theorem jt_isN {a : Expr} {ma : M D} {pos pos' : Pos} {j : Nat} (ha : PE X a (tM X.K Z W ma)) : PT X (.Compare a [.Is] [.Constant .none j pos'] pos) (J.tB X.K Z W (ma >>= fun d => pure d.isN)) := by
  refine PT.wk (pt_cmp (pc_isN ha) (nobehind _ (by decide) (by decide))) fun σ H Q ⟨F, A, st, R, q⟩ => ?_
  refine ⟨F, A, st, R, q.bind.imp fun d st1 F1 H1 A1 R1 m1 z v r => ?_⟩
  have z := z F1 H1 A1 R1 .refl
  exact ⟨_, rfl, by rw [isN_rep r]; exact z⟩
theorem jt_isNotN {a : Expr} {ma : M D} {pos pos' : Pos} {j : Nat} (ha : PE X a (tM X.K Z W ma)) : PT X (.Compare a [.IsNot] [.Constant .none j pos'] pos) (J.tB X.K Z W (ma >>= fun d => pure (!d.isN))) := by
  refine PT.wk (pt_cmp (pc_notN ha) (nobehind _ (by decide) (by decide))) fun σ H Q ⟨F, A, st, R, q⟩ => ?_
  refine ⟨F, A, st, R, q.bind.imp fun d st1 F1 H1 A1 R1 m1 z v r => ?_⟩
  have z := z F1 H1 A1 R1 .refl
  exact ⟨_, rfl, by rw [isN_rep r]; exact z⟩
def D.flat : D → Bool
  | .non | .bl _ | .int _ | .str _ => true
  | _ => false
/-- x in a sequence of flat things; one sign in a text -/
def D.mem (x : D) : D → Option Bool
  | .tup ys => (D.py x).bind fun p => (D.pys ys).bind fun ps => if x.flat = true ∧ ys.all D.flat = true then some (ps.any fun q => PyData.eqv q p) else none
  | .lst ys => (D.py x).bind fun p => (D.pys ys).bind fun ps => if x.flat = true ∧ ys.all D.flat = true then some (ps.any fun q => PyData.eqv q p) else none
  | .str z => (match x with
    | .str y => (match y.cps.toList with
      | [c] => some (decide (c ∈ z.cps.toList))
      | _ => none)
    | _ => none)
  | _ => none
def dIn (x y : D) : Option D := (D.mem x y).map .bl
def dNotIn (x y : D) : Option D := (D.mem x y).map fun b => .bl (!b)
theorem flat_rep {v : V} {d : D} (r : Rep K A F v d) (h : d.flat = true) : flatV v = true := by
  cases r with
  | non => rfl
  | bl b => rfl
  | int i => rfl
  | str x => rfl
  | _ => cases h
theorem flat_eqv {v u : V} {d e : D} {p q : PyData} (r1 : Rep K A F v d) (r2 : Rep K A F u e) (h1 : d.flat = true) (h2 : e.flat = true) (e1 : d.py = some p) (e2 : e.py = some q) : eqV v u = PyData.eqv p q := by
  cases r1 with
  | non => cases r2 with
    | non => cases e1; cases e2; simp [eqV, PyData.eqv]
    | bl b => cases e1; cases e2; simp [eqV, PyData.eqv]
    | int b => cases e1; cases e2; simp [eqV, PyData.eqv]
    | str b => cases e1; cases e2; simp [eqV, PyData.eqv]
    | _ => cases h2
  | bl b => cases r2 with
    | non => cases e1; cases e2; simp [eqV, PyData.eqv]
    | bl b => cases e1; cases e2; simp [eqV, PyData.eqv]
    | int b => cases e1; cases e2; simp [eqV, PyData.eqv]
    | str b => cases e1; cases e2; simp [eqV, PyData.eqv]
    | _ => cases h2
  | int i => cases r2 with
    | non => cases e1; cases e2; simp [eqV, PyData.eqv]
    | bl b => cases e1; cases e2; simp [eqV, PyData.eqv]
    | int b => cases e1; cases e2; simp [eqV, PyData.eqv]
    | str b => cases e1; cases e2; simp [eqV, PyData.eqv]
    | _ => cases h2
  | str i => cases r2 with
    | non => cases e1; cases e2; simp [eqV, PyData.eqv]
    | bl b => cases e1; cases e2; simp [eqV, PyData.eqv]
    | int b => cases e1; cases e2; simp [eqV, PyData.eqv]
    | str b => cases e1; cases e2; simp [eqV, PyData.eqv]
    | _ => cases h2
  | _ => cases h1
theorem flats_in {u : V} {e : D} {q : PyData} (r2 : Rep K A F u e) (h2 : e.flat = true) (e2 : e.py = some q) : ∀ {vs : List V} {ds : List D} {ps : List PyData}, Reps K A F vs ds → ds.all D.flat = true → D.pys ds = some ps →
    vs.all flatV = true ∧ (vs.any fun y => eqV y u) = ps.any fun z => PyData.eqv z q
  | _, _, _, .nil, _, e => by cases e; exact ⟨rfl, rfl⟩
  | _, _, _, .cons h r, hf, e => by
    simp only [D.pys] at e
    obtain ⟨p, e1, e⟩ := Option.bind_eq_some_iff.mp e
    obtain ⟨ps, e3, e4⟩ := Option.map_eq_some_iff.mp e
    subst e4
    simp only [List.all_cons, Bool.and_eq_true] at hf
    obtain ⟨i1, i2⟩ := flats_in r2 h2 e2 r hf.2 e3
    refine ⟨by simp [flat_rep h hf.1, i1], ?_⟩
    rw [List.any_cons, List.any_cons, i2, flat_eqv h r2 hf.1 h2 e1 e2]
theorem mem_sq {x : V} {dx : D} {vs : List V} {ys : List D} {b : Bool} (rx : Rep K A F x dx) (rs : Reps K A F vs ys)
    (h : ((D.py dx).bind fun p => (D.pys ys).bind fun ps => if dx.flat = true ∧ ys.all D.flat = true then some (ps.any fun q => PyData.eqv q p) else none) = some b) : flatV x = true ∧ vs.all flatV = true ∧ inV x vs = b := by
  obtain ⟨p, e1, h⟩ := Option.bind_eq_some_iff.mp h
  obtain ⟨ps, e2, h⟩ := Option.bind_eq_some_iff.mp h
  obtain ⟨⟨c1, c2⟩, h⟩ := if_some h
  obtain ⟨i1, i2⟩ := flats_in rx c1 e1 rs c2 e2
  exact ⟨flat_rep rx c1, i1, by unfold inV; rw [i2, h]⟩
theorem oj_in : OpJ X (compareOp .In) dIn := by
  intro Z pins s σ H F A st x y v u d e res Q I R rx ry r1 r2 eg q
  obtain ⟨b, e1, e2⟩ := Option.map_eq_some_iff.mp eg
  subst e2
  cases r2 with
  | tup s1 h1 =>
    obtain ⟨f1, f2, f3⟩ := mem_sq r1 h1 e1
    exact op_in_seq pins s σ H _ _ v u Q I rx ry ⟨_, _, rfl, .inr (sqT_le R.le s1), f1, f2, by rw [if_neg Bool.false_ne_true, f3]; exact q _ F H R .refl (.bl b)⟩
  | lst s1 h1 =>
    obtain ⟨f1, f2, f3⟩ := mem_sq r1 h1 e1
    exact op_in_seq pins s σ H _ _ v u Q I rx ry ⟨_, _, rfl, .inl (.inl (.inl (R.le _ _ s1))), f1, f2, by rw [if_neg Bool.false_ne_true, f3]; exact q _ F H R .refl (.bl b)⟩
  | str h1 =>
    rename_i z
    cases r1 with
    | str h2 =>
      rename_i y
      have e1 : (match y.cps.toList with
        | [c] => some (decide (c ∈ z.cps.toList))
        | _ => none) = some b := e1
      cases hy : y.cps.toList with
      | nil => rw [hy] at e1; cases e1
      | cons c r =>
        cases r with
        | cons _ _ => rw [hy] at e1; cases e1
        | nil =>
          rw [hy] at e1
          have ey : y = ⟨#[c]⟩ := by
            obtain ⟨cs⟩ := y
            have : cs = #[c] := by
              apply Array.toList_inj.mp
              simpa using hy
            rw [this]
          subst ey
          cases e1
          exact op_in_sign pins s σ H _ _ v u Q I rx ry ⟨c, z, rfl, rfl, q _ F H R .refl (.bl _)⟩
    | _ => cases e1
  | _ => cases e1
theorem oj_notIn : OpJ X (compareOp .NotIn) dNotIn := by
  intro Z pins s σ H F A st x y v u d e res Q I R rx ry r1 r2 eg q
  obtain ⟨b, e1, e2⟩ := Option.map_eq_some_iff.mp eg
  subst e2
  cases r2 with
  | tup s1 h1 =>
    obtain ⟨f1, f2, f3⟩ := mem_sq r1 h1 e1
    exact op_notIn_seq pins s σ H _ _ v u Q I rx ry ⟨_, _, rfl, .inr (sqT_le R.le s1), f1, f2, by rw [if_pos rfl, f3]; exact q _ F H R .refl (.bl _)⟩
  | lst s1 h1 =>
    obtain ⟨f1, f2, f3⟩ := mem_sq r1 h1 e1
    exact op_notIn_seq pins s σ H _ _ v u Q I rx ry ⟨_, _, rfl, .inl (.inl (.inl (R.le _ _ s1))), f1, f2, by rw [if_pos rfl, f3]; exact q _ F H R .refl (.bl _)⟩
  | str h1 =>
    rename_i z
    cases r1 with
    | str h2 =>
      rename_i y
      have e1 : (match y.cps.toList with
        | [c] => some (decide (c ∈ z.cps.toList))
        | _ => none) = some b := e1
      cases hy : y.cps.toList with
      | nil => rw [hy] at e1; cases e1
      | cons c r =>
        cases r with
        | cons _ _ => rw [hy] at e1; cases e1
        | nil =>
          rw [hy] at e1
          have ey : y = ⟨#[c]⟩ := by
            obtain ⟨cs⟩ := y
            have : cs = #[c] := by
              apply Array.toList_inj.mp
              simpa using hy
            rw [this]
          subst ey
          cases e1
          exact op_notIn_sign pins s σ H _ _ v u Q I rx ry ⟨c, z, rfl, rfl, q _ F H R .refl (.bl _)⟩
    | _ => cases e1
  | _ => cases e1
end
end J
end
section
namespace J
open PySem PySem.Spec PyProof.Rows L2

/-- the reading of a call by a pure function of plain data -/
def rC (K : PySem.W.Frag) (g : List D → Option D) : List V → Hp → VK → Prop := fun xs H Q => ∃ Z F A σ st ds res, Rel K Z F H A σ st ∧ Reps K A F xs ds ∧ g ds = some res ∧
  ∀ v' F' H', Rel K Z F' H' A σ st → Mono F A F' A → Rep K A F' v' res → Q v' H'
/-- .. that makes a new list -/
def rCN (K : PySem.W.Frag) (g : List D → Option (List D)) : List V → Hp → VK → Prop := fun xs H Q => ∃ Z F A σ st ds res, Rel K Z F H A σ st ∧ Reps K A F xs ds ∧ g ds = some res ∧
  ∀ p vs H', Rel K Z F H' A σ st → Loose K Z F H' A σ st p vs res → Q (.ref p) H'
section
variable {X : Cx} {K : PySem.W.Frag} {Z : Ent} {W : WX} {F H : Hp} {A : Fps} {σ : L2.St} {st : Sta} {pos p : Pos} {a b c e : Expr} {es : List Expr} {ma mb mc : M D} {x : Str} {n : Nat} {m : M (List D)}

theorem tL_call {g : List D → Option D} {Q : VK} (R : Rel K Z F H A σ st) (h : After K Z W σ F A ((m >>= fun ds => M.of (g ds)) st) fun d _ F' H' A' => ∀ v, Rep K A' F' v d → Q v H') : tL K Z W m σ H fun vs H1 => rC K g vs H1 Q := by
  refine ⟨F, A, st, R, h.bind.imp fun ds st1 F1 H1 A1 R1 m1 z vs rs => ?_⟩
  obtain ⟨res, e1, z⟩ := of_after z
  exact ⟨Z, F1, A1, σ, st1, ds, res, R1, rs, e1, fun v' F' H' R' m' r' => z F' H' A1 R' m' v' r'⟩
theorem tL_callN {g : List D → Option (List D)} {Q : VK} (R : Rel K Z F H A σ st) (h : After K Z W σ F A ((m >>= fun ds => M.of (g ds)) st) fun ds st' F' H' A' => ∀ p vs, Loose K Z F' H' A' σ st' p vs ds → Q (.ref p) H') :
    tL K Z W m σ H fun vs H1 => rCN K g vs H1 Q := by
  refine ⟨F, A, st, R, h.bind.imp fun ds st1 F1 H1 A1 R1 m1 z vs rs => ?_⟩
  obtain ⟨res, e1, z⟩ := of_after z
  exact ⟨Z, F1, A1, σ, st1, ds, res, R1, rs, e1, fun p vs H' R' lo => z F1 H' A1 R' .refl p vs lo⟩
/-- f(e, ..), f a built-in function -/
theorem je_callB {id : String} {g : List D → Option D} (hc : CallR X (.builtin id) (rC X.K g)) (hg : Gl X x) (hm : X.mg x = none) (hv : bootBuiltins x = some (.builtin id)) (ha : PAJ X Z W (e :: es) n m) (hn : x ≠ "__name__" := by decide)
    (hdb : (x == ("__debug__" : Str)) = false := by decide) (he : starEach (e :: es) X.env = (false, eval e X.env) :: starEach es X.env := by rfl) (hpl : (backTo pos (starEach es X.env)).any (·.1) = false := by rfl) :
    PE X (.Call (.Name x p) (e :: es) [] pos) (tM X.K Z W (m >>= fun ds => M.of (g ds))) :=
  PE.wk (pe_callB hc hg hm hv ha.pa hn hdb he hpl) fun σ H Q ⟨F, A, st, R, h⟩ => tL_call R h
theorem je_callT {T : String} {g : List D → Option D} (hc : CallR X (.type T) (rC X.K g)) (hg : Gl X x) (hm : X.mg x = none) (hv : bootBuiltins x = some (.type T)) (ha : PAJ X Z W (e :: es) n m) (hn : x ≠ "__name__" := by decide)
    (hdb : (x == ("__debug__" : Str)) = false := by decide) (he : starEach (e :: es) X.env = (false, eval e X.env) :: starEach es X.env := by rfl) (hpl : (backTo pos (starEach es X.env)).any (·.1) = false := by rfl) :
    PE X (.Call (.Name x p) (e :: es) [] pos) (tM X.K Z W (m >>= fun ds => M.of (g ds))) :=
  PE.wk (pe_callTy hc hg hm hv ha.pa hn hdb he hpl) fun σ H Q ⟨F, A, st, R, h⟩ => tL_call R h
theorem jn_callB {id : String} {g : List D → Option (List D)} (hc : CallR X (.builtin id) (rCN X.K g)) (hg : Gl X x) (hm : X.mg x = none) (hv : bootBuiltins x = some (.builtin id)) (ha : PAJ X Z W (e :: es) n m) (hn : x ≠ "__name__" := by decide)
    (hdb : (x == ("__debug__" : Str)) = false := by decide) (he : starEach (e :: es) X.env = (false, eval e X.env) :: starEach es X.env := by rfl) (hpl : (backTo pos (starEach es X.env)).any (·.1) = false := by rfl) :
    PE X (.Call (.Name x p) (e :: es) [] pos) (tN X.K Z W (m >>= fun ds => M.of (g ds))) :=
  PE.wk (pe_callB hc hg hm hv ha.pa hn hdb he hpl) fun σ H Q ⟨F, A, st, R, h⟩ => tL_callN R h
theorem jn_callT {T : String} {g : List D → Option (List D)} (hc : CallR X (.type T) (rCN X.K g)) (hg : Gl X x) (hm : X.mg x = none) (hv : bootBuiltins x = some (.type T)) (ha : PAJ X Z W (e :: es) n m) (hn : x ≠ "__name__" := by decide)
    (hdb : (x == ("__debug__" : Str)) = false := by decide) (he : starEach (e :: es) X.env = (false, eval e X.env) :: starEach es X.env := by rfl) (hpl : (backTo pos (starEach es X.env)).any (·.1) = false := by rfl) :
    PE X (.Call (.Name x p) (e :: es) [] pos) (tN X.K Z W (m >>= fun ds => M.of (g ds))) :=
  PE.wk (pe_callTy hc hg hm hv ha.pa hn hdb he hpl) fun σ H Q ⟨F, A, st, R, h⟩ => tL_callN R h
def dLen : List D → Option D
  | [.str x] => if x.length ≤ 16777216 then some (.int x.length) else none
  | [.tup xs] => some (.int xs.length)
  | [.lst xs] => some (.int xs.length)
  | [.rls xs] => some (.int xs.length)
  | _ => none
/-- one argument -/
theorem one_arg {g : List D → Option D} {ds : List D} {res : D} (h : g ds = some res) (hg : ∀ ds, (∀ d, ds ≠ [d]) → g ds = none) : ∃ d, ds = [d] := by
  by_cases q : ∃ d, ds = [d]
  · exact q
  · rw [hg ds fun d e => q ⟨d, e⟩] at h
    cases h
theorem cj_len : CallR X (.builtin "len") (rC X.K dLen) := by
  rintro pins s σ H xs us Q I r ⟨Z, F, A, σ', st, ds, res, R, rs, eg, q⟩
  match ds, rs, eg with
  | [.str x], .cons (.str h) .nil, eg =>
    obtain ⟨hc, rfl⟩ := if_some eg
    exact call_len pins s σ H _ us Q I r ⟨_, x.length, rfl, ⟨by rw [sizeLine_eq]; exact hc, rfl⟩, q _ F H R .refl (.int _)⟩
  | [.tup ys], .cons (.tup h t) .nil, eg =>
    cases eg
    exact call_len pins s σ H _ us Q I r ⟨_, ys.length, rfl, .inr ⟨_, sqT_le R.le h, t.length.symm⟩, q _ F H R .refl (.int _)⟩
  | [.lst ys], .cons (.lst h t) .nil, eg =>
    cases eg
    exact call_len pins s σ H _ us Q I r ⟨_, ys.length, rfl, .inl ⟨_, .inl (.inl (R.le _ _ h)), t.length.symm⟩, q _ F H R .refl (.int _)⟩
  | [.rls ys], .cons (.rls h t) .nil, eg =>
    cases eg
    exact call_len pins s σ H _ us Q I r ⟨_, ys.length, rfl, .inl ⟨_, sqL_le R.le h, t.length.symm⟩, q _ F H R .refl (.int _)⟩
def dTuple : List D → Option D
  | [.tup xs] => some (.tup xs)
  | [.lst xs] => some (.tup xs)
  | _ => none
theorem cj_tuple : CallR X (.type "tuple") (rC X.K dTuple) := by
  rintro pins s σ H xs us Q I r ⟨Z, F, A, σ', st, ds, res, R, rs, eg, q⟩
  match ds, rs, eg with
  | [.tup ys], .cons (.tup h t) .nil, eg =>
    cases eg
    exact call_tuple_of pins s σ H _ us Q I r ⟨_, _, rfl, .inr ⟨sqT_le R.le h, q _ F H R .refl (.tup h t)⟩⟩
  | [.lst ys], .cons (.lst h t) .nil, eg =>
    cases eg
    refine call_tuple_of pins s σ H _ us Q I r ⟨_, _, rfl, .inl ⟨.inl (.inl (R.le _ _ h)), fun l hl => ?_⟩⟩
    exact q _ _ _ (R.new hl) (.new R.w hl) (.tup (.inl (.inl upd_same)) (t.mono (.new R.w hl)))
def dList : List D → Option (List D)
  | [.tup xs] => some xs
  | [.lst xs] => some xs
  | _ => none
theorem cj_list : CallR X (.type "list") (rCN X.K dList) := by
  rintro pins s σ H xs us Q I r ⟨Z, F, A, σ', st, ds, res, R, rs, eg, q⟩
  match ds, rs, eg with
  | [.tup ys], .cons (.tup h t) .nil, eg =>
    cases eg
    refine call_list_of pins s σ H _ us Q I r ⟨_, _, rfl, .inr (sqT_le R.le h), fun l hl => ?_⟩
    obtain ⟨R2, lo⟩ := R.loose hl t
    exact q l _ _ R2 lo
  | [.lst ys], .cons (.lst h t) .nil, eg =>
    cases eg
    refine call_list_of pins s σ H _ us Q I r ⟨_, _, rfl, .inl (.inl (.inl (R.le _ _ h))), fun l hl => ?_⟩
    obtain ⟨R2, lo⟩ := R.loose hl t
    exact q l _ _ R2 lo
theorem strOk_int (i : Int) : PyData.strOk (Str.ofString (toString i)) = true := by
  have h : ∀ c ∈ (toString i).toList, c.toNat < 1114112 := fun c _ => by
    have hv := c.valid
    simp only [UInt32.isValidChar, Nat.isValidChar] at hv
    show c.val.toNat < _
    omega
  unfold PyData.strOk
  rw [Str.ofString_eq_toList, ← Array.all_toList, List.all_eq_true]
  intro z hz
  obtain ⟨c, hc, rfl⟩ := List.mem_map.mp (show z ∈ (toString i).toList.map Char.toNat from by simpa using hz)
  exact decide_eq_true (h c hc)
def dStr : List D → Option D
  | [.int i] => if i.natAbs.log2 < 1920 then some (.str (toString i)) else none
  | [.str x] => some (.str x)
  | _ => none
theorem cj_str : CallR X (.type "str") (rC X.K dStr) := by
  rintro pins s σ H xs us Q I r ⟨Z, F, A, σ', st, ds, res, R, rs, eg, q⟩
  match ds, rs, eg with
  | [.int i], .cons (.int _) .nil, eg =>
    obtain ⟨hc, rfl⟩ := if_some eg
    exact call_str_int pins s σ H _ us Q I r ⟨i, rfl, hc, q _ F H R .refl (.str (strOk_int i))⟩
  | [.str x], .cons (.str h) .nil, eg =>
    cases eg
    exact SkE.call_str_str pins s σ H _ us Q I r ⟨x, rfl, q _ F H R .refl (.str h)⟩
def dInt : List D → Option D
  | [.int i] => some (.int i)
  | [.bl b] => some (.int (if b then 1 else 0))
  | [.str x] => if x.length ≤ 640 then (PySem.intText? x).map .int else none
  | _ => none
theorem cj_int : CallR X (.type "int") (rC X.K dInt) := by
  rintro pins s σ H xs us Q I r ⟨Z, F, A, σ', st, ds, res, R, rs, eg, q⟩
  match ds, rs, eg with
  | [.int i], .cons (.int _) .nil, eg =>
    cases eg
    exact call_int1 pins s σ H _ us Q I r (.inl ⟨i, rfl, q _ F H R .refl (.int _)⟩)
  | [.bl b], .cons (.bl _) .nil, eg =>
    cases eg
    exact call_int1 pins s σ H _ us Q I r (.inr ⟨b, rfl, q _ F H R .refl (.int _)⟩)
  | [.str x], .cons (.str h) .nil, eg =>
    have eg : (if x.length ≤ 640 then (PySem.intText? x).map D.int else none) = some res := eg
    by_cases hc : x.length ≤ 640
    · rw [if_pos hc] at eg
      obtain ⟨n, e1, e2⟩ := Option.map_eq_some_iff.mp eg
      subst e2
      exact call_int_str pins s σ H _ us Q I r ⟨x, n, rfl, e1, hc, q _ F H R .refl (.int _)⟩
    · rw [if_neg hc] at eg
      cases eg
def dAbs : List D → Option D
  | [.int i] => some (.int (if i < 0 then -i else i))
  | _ => none
theorem cj_abs : CallR X (.builtin "abs") (rC X.K dAbs) := by
  rintro pins s σ H xs us Q I r ⟨Z, F, A, σ', st, ds, res, R, rs, eg, q⟩
  match ds, rs, eg with
  | [.int i], .cons (.int _) .nil, eg =>
    cases eg
    exact call_abs pins s σ H _ us Q I r ⟨i, rfl, q _ F H R .refl (.int _)⟩
def dMin2 : List D → Option D
  | [.int i, .int j] => some (.int (if j < i then j else i))
  | _ => none
theorem cj_min2 (hc : X.calm = true) : CallR X (.builtin "min") (rC X.K dMin2) := by
  rintro pins s σ H xs us Q I r ⟨Z, F, A, σ', st, ds, res, R, rs, eg, q⟩
  match ds, rs, eg with
  | [.int i, .int j], .cons (.int _) (.cons (.int _) .nil), eg =>
    cases eg
    exact call_min2 hc pins s σ H _ us Q I r ⟨i, j, rfl, q _ F H R .refl (.int _)⟩
def dMax2 : List D → Option D
  | [.int i, .int j] => some (.int (if j > i then j else i))
  | _ => none
theorem cj_max2 (hc : X.calm = true) : CallR X (.builtin "max") (rC X.K dMax2) := by
  rintro pins s σ H xs us Q I r ⟨Z, F, A, σ', st, ds, res, R, rs, eg, q⟩
  match ds, rs, eg with
  | [.int i, .int j], .cons (.int _) (.cons (.int _) .nil), eg =>
    cases eg
    exact call_max2 hc pins s σ H _ us Q I r ⟨i, j, rfl, q _ F H R .refl (.int _)⟩
def D.bls : List D → Option (List Bool)
  | [] => some []
  | .bl b :: r => (D.bls r).map (b :: ·)
  | _ :: _ => none
theorem bls_reps : ∀ {ds : List D} {bs : List Bool} {vs : List V}, Reps K A F vs ds → D.bls ds = some bs → vs = bs.map V.bl
  | [], _, _, .nil, e => by cases e; rfl
  | d :: r, ns, _, .cons h t, e => by
    cases d with
    | bl i =>
      cases h
      simp only [D.bls] at e
      obtain ⟨ms, e1, e2⟩ := Option.map_eq_some_iff.mp e
      subst e2
      rw [bls_reps t e1]
      rfl
    | _ => simp [D.bls] at e
def dAll : List D → Option D
  | [.lst xs] => (D.bls xs).map fun bs => .bl (bs.all id)
  | _ => none
def dAny : List D → Option D
  | [.lst xs] => (D.bls xs).map fun bs => .bl (bs.any id)
  | _ => none
theorem cj_all (hc : X.calm = true) : CallR X (.builtin "all") (rC X.K dAll) := by
  rintro pins s σ H xs us Q I r ⟨Z, F, A, σ', st, ds, res, R, rs, eg, q⟩
  match ds, rs, eg with
  | [.lst ys], .cons (.lst h t) .nil, eg =>
    obtain ⟨bs, e1, e2⟩ := Option.map_eq_some_iff.mp eg
    subst e2
    rw [bls_reps t e1] at h
    exact cr_all hc pins s σ H _ us Q I r ⟨_, bs, rfl, .inl (.inl (R.le _ _ h)), q _ F H R .refl (.bl _)⟩
theorem cj_any (hc : X.calm = true) : CallR X (.builtin "any") (rC X.K dAny) := by
  rintro pins s σ H xs us Q I r ⟨Z, F, A, σ', st, ds, res, R, rs, eg, q⟩
  match ds, rs, eg with
  | [.lst ys], .cons (.lst h t) .nil, eg =>
    obtain ⟨bs, e1, e2⟩ := Option.map_eq_some_iff.mp eg
    subst e2
    rw [bls_reps t e1] at h
    exact cr_any hc pins s σ H _ us Q I r ⟨_, bs, rfl, .inl (.inl (R.le _ _ h)), q _ F H R .refl (.bl _)⟩
def dMaxL : List D → Option D
  | [.lst xs] => (D.ints xs).bind fun ns => ns.max?.map .int
  | _ => none
theorem cj_maxL (hc : X.calm = true) : CallR X (.builtin "max") (rC X.K dMaxL) := by
  rintro pins s σ H xs us Q I r ⟨Z, F, A, σ', st, ds, res, R, rs, eg, q⟩
  match ds, rs, eg with
  | [.lst ys], .cons (.lst h t) .nil, eg =>
    obtain ⟨ns, e1, eg⟩ := Option.bind_eq_some_iff.mp eg
    obtain ⟨k, e2, e3⟩ := Option.map_eq_some_iff.mp eg
    subst e3
    rw [ints_reps t e1] at h
    refine cr_max hc pins s σ H _ us Q I r ⟨_, ns, rfl, .inl (.inl (R.le _ _ h)), ?_, fun m hm hle => ?_⟩
    · cases ns with
      | nil => cases e2
      | cons _ _ => simp
    · have e4 : m = k := by
        have h1 := List.max?_eq_some_iff.mp e2
        have h2 := hle k h1.1
        have h3 := h1.2 m hm
        omega
      subst e4
      exact q _ F H R .refl (.int _)
def D.strs : List D → Option (List Str)
  | [] => some []
  | .str b :: r => (D.strs r).map (b :: ·)
  | _ :: _ => none
theorem strs_reps : ∀ {ds : List D} {xs : List Str} {vs : List V}, Reps K A F vs ds → D.strs ds = some xs → vs = xs.map V.str ∧ ∀ x ∈ xs, PyData.strOk x = true
  | [], _, _, .nil, e => by cases e; exact ⟨rfl, fun _ h => nomatch h⟩
  | d :: r, ns, _, .cons h t, e => by
    cases d with
    | str i =>
      cases h with
      | str h =>
        simp only [D.strs] at e
        obtain ⟨ms, e1, e2⟩ := Option.map_eq_some_iff.mp e
        subst e2
        obtain ⟨h1, h2⟩ := strs_reps t e1
        rw [h1]
        refine ⟨rfl, fun x hx => ?_⟩
        rcases List.mem_cons.mp hx with rfl | hx
        · exact h
        · exact h2 x hx
    | _ => simp [D.strs] at e
theorem strOk_iff {x : Str} : PyData.strOk x = true ↔ ∀ c ∈ TL.tl x, c < 1114112 := by
  unfold PyData.strOk TL.tl
  rw [← Array.all_toList, List.all_eq_true]
  exact ⟨fun h c hc => of_decide_eq_true (h c hc), fun h c hc => decide_eq_true (h c hc)⟩
theorem strOk_mk {l : List Nat} (h : ∀ c ∈ l, c < 1114112) : PyData.strOk ⟨l.toArray⟩ = true := strOk_iff.mpr (by rw [TL.tl_mk]; exact h)
theorem spl_sub (S : List Nat) : ∀ (k : Nat) (acc l : List Nat) (q : List Nat), q ∈ TL.spl S k acc l → ∀ c ∈ q, c ∈ acc ∨ c ∈ l
  | k, acc, [], q, h, c, hc => by
    rw [TL.spl_nil] at h
    rw [List.mem_singleton.mp h] at hc
    exact .inl hc
  | 0, acc, d :: r, q, h, c, hc => by
    cases e : TL.pre S (d :: r) with
    | true =>
      rw [TL.spl_hit e] at h
      rcases List.mem_cons.mp h with h | h
      · rw [h] at hc
        exact .inl hc
      · rcases spl_sub S _ _ r q h c hc with z | z
        · cases z
        · exact .inr (List.mem_cons_of_mem _ z)
    | false =>
      rw [TL.spl_miss e] at h
      rcases spl_sub S _ _ r q h c hc with z | z
      · rcases List.mem_append.mp z with z | z
        · exact .inl z
        · rw [List.mem_singleton.mp z]
          exact .inr (List.mem_cons_self ..)
      · exact .inr (List.mem_cons_of_mem _ z)
  | k + 1, acc, d :: r, q, h, c, hc => by
    rcases spl_sub S k acc r q h c hc with z | z
    · exact .inl z
    · exact .inr (List.mem_cons_of_mem _ z)
theorem par_sub (S : List Nat) : ∀ (acc l : List Nat) (q : List Nat × List Nat), TL.par S acc l = some q → (∀ c ∈ q.1, c ∈ acc ∨ c ∈ l) ∧ ∀ c ∈ q.2, c ∈ l
  | acc, [], q, h => by cases h
  | acc, d :: r, q, h => by
    cases e : TL.pre S (d :: r) with
    | true =>
      rw [TL.par_hit e] at h
      cases h
      exact ⟨fun c hc => .inl hc, fun c hc => List.mem_of_mem_drop hc⟩
    | false =>
      rw [TL.par_miss e] at h
      obtain ⟨h1, h2⟩ := par_sub S _ r q h
      refine ⟨fun c hc => ?_, fun c hc => List.mem_cons_of_mem _ (h2 c hc)⟩
      rcases h1 c hc with z | z
      · rcases List.mem_append.mp z with z | z
        · exact .inl z
        · rw [List.mem_singleton.mp z]
          exact .inr (List.mem_cons_self ..)
      · exact .inr (List.mem_cons_of_mem _ z)
/-- split at one sign -/
def dSplit (x : D) : List D → Option (List D)
  | [.str b] => (match x with
    | .str a => (match TL.tl b with
      | [c] => if c < 256 ∧ a.length + 2 ≤ 16777216 then some ((TL.spl [c] 0 [] (TL.tl a)).map fun l => .str ⟨l.toArray⟩) else none
      | _ => none)
    | _ => none)
  | _ => none
/-- partition at one sign -/
def dPart (x : D) : List D → Option D
  | [.str b] => (match x with
    | .str a => (match TL.tl b with
      | [c] => if a.length ≤ 16777216 then some (match TL.par [c] [] (TL.tl a) with
        | some (l, r) => .tup [.str ⟨l.toArray⟩, .str b, .str ⟨r.toArray⟩]
        | none => .tup [.str a, .str Str.empty, .str Str.empty]) else none
      | _ => none)
    | _ => none)
  | _ => none
def dJoin (x : D) : List D → Option D
  | [.lst ys] => (match x with
    | .str a => (D.strs ys).bind fun zs => if (zs.map (·.length)).sum + zs.length * a.length ≤ 16777216 then some (.str (Str.join a zs)) else none
    | _ => none)
  | _ => none
/-- the reading of a method of a text -/
def rMt (K : PySem.W.Frag) (g : D → List D → Option D) : V → List V → Hp → VK → Prop := fun x xs H Q => ∃ Z F A σ st d ds res, Rel K Z F H A σ st ∧ Rep K A F x d ∧ Reps K A F xs ds ∧ g d ds = some res ∧
  ∀ v' F' H', Rel K Z F' H' A σ st → Mono F A F' A → Rep K A F' v' res → Q v' H'
def rMtN (K : PySem.W.Frag) (g : D → List D → Option (List D)) : V → List V → Hp → VK → Prop := fun x xs H Q => ∃ Z F A σ st d ds res, Rel K Z F H A σ st ∧ Rep K A F x d ∧ Reps K A F xs ds ∧ g d ds = some res ∧
  ∀ p vs H', Rel K Z F H' A σ st → Loose K Z F H' A σ st p vs res → Q (.ref p) H'
theorem strOk_empty : PyData.strOk Str.empty = true := by decide +kernel
theorem join_ok {a : Str} (ha : PyData.strOk a = true) : ∀ {zs : List Str}, (∀ z ∈ zs, PyData.strOk z = true) → PyData.strOk (Str.join a zs) = true
  | [], _ => strOk_empty
  | [x], h => h x (List.mem_singleton.mpr rfl)
  | x :: y :: r, h => by
    show PyData.strOk (x ++ a ++ Str.join a (y :: r)) = true
    exact strOk_append (strOk_append (h x (List.mem_cons_self ..)) ha) (join_ok ha fun z hz => h z (List.mem_cons_of_mem _ hz))
theorem mj_join : MtR X "str.join" (rMt X.K dJoin) := by
  rintro pins s σ H x xs v us Q I rx r ⟨Z, F, A, σ', st, d, ds, res, R, r1, rs, eg, q⟩
  match ds, rs, eg with
  | [.lst ys], .cons (.lst h t) .nil, eg =>
    cases d with
    | str a =>
      cases r1 with
      | str h1 =>
        have eg : ((D.strs ys).bind fun zs => if (zs.map (·.length)).sum + zs.length * a.length ≤ 16777216 then some (D.str (Str.join a zs)) else none) = some res := eg
        obtain ⟨zs, e1, eg⟩ := Option.bind_eq_some_iff.mp eg
        obtain ⟨hc, rfl⟩ := if_some eg
        obtain ⟨e2, e3⟩ := strs_reps t e1
        subst e2
        refine mt_join pins s σ H _ _ v us Q I rx r ⟨a, _, zs, rfl, rfl, .inl (.inl (.inl (R.le _ _ h))), hc, ?_⟩
        rw [TL.join_eq]
        exact q _ F H R .refl (.str (join_ok h1 e3))
    | _ => cases eg
theorem mj_part : MtR X "str.partition" (rMt X.K dPart) := by
  rintro pins s σ H x xs v us Q I rx r ⟨Z, F, A, σ', st, d, ds, res, R, r1, rs, eg, q⟩
  match ds, rs, eg with
  | [.str b], .cons (.str h) .nil, eg =>
    cases d with
    | str a =>
      cases r1 with
      | str h1 =>
        cases hb : TL.tl b with
        | nil => simp only [dPart, hb] at eg; cases eg
        | cons c t =>
          cases t with
          | cons _ _ => simp only [dPart, hb] at eg; cases eg
          | nil =>
            simp only [dPart, hb] at eg
            obtain ⟨hc, rfl⟩ := if_some eg
            have hb1 : (b.length == 0) = false := by rw [TL.len_tl, hb]; rfl
            have hp := TL.partition_par a b (by rw [hb]; simp)
            rw [hb] at hp
            refine mt_partition pins s σ H _ _ v us Q I rx r ⟨a, b, rfl, rfl, hb1, by rw [sizeLine_eq]; exact hc, fun p hp0 => ?_⟩
            rw [hp]
            have ha := strOk_iff.mp h1
            cases e : TL.par [c] [] (TL.tl a) with
            | none =>
              rw [e] at q
              exact q _ _ _ (R.new hp0) (.new R.w hp0) (.tup (.inl (.inl upd_same)) (.cons (.str h1) (.cons (.str strOk_empty) (.cons (.str strOk_empty) .nil))))
            | some lr =>
              obtain ⟨l, r'⟩ := lr
              rw [e] at q
              obtain ⟨s1, s2⟩ := par_sub _ _ _ _ e
              refine q _ _ _ (R.new hp0) (.new R.w hp0) (.tup (.inl (.inl upd_same)) (.cons (.str (strOk_mk fun z hz => ?_)) (.cons (.str h) (.cons (.str (strOk_mk fun z hz => ?_)) .nil))))
              · rcases s1 z hz with y | y
                · cases y
                · exact ha z y
              · exact ha z (s2 z hz)
    | _ => cases eg
theorem map_mk : ∀ {l : List Str} {m : List (List Nat)}, l.map TL.tl = m → m.map (fun q => (⟨q.toArray⟩ : Str)) = l
  | [], _, h => by subst h; rfl
  | x :: l, _, h => by
    subst h
    show (⟨(TL.tl x).toArray⟩ : Str) :: _ = _
    rw [TL.mk_tl, map_mk rfl]
theorem strs_rep (K : PySem.W.Frag) (A : Fps) (F : Hp) : ∀ {l : List Str}, (∀ x ∈ l, PyData.strOk x = true) → Reps K A F (l.map V.str) (l.map D.str)
  | [], _ => .nil
  | x :: l, h => .cons (.str (h x (List.mem_cons_self ..))) (strs_rep K A F fun y hy => h y (List.mem_cons_of_mem _ hy))
theorem mj_split : MtR X "str.split" (rMtN X.K dSplit) := by
  rintro pins s σ H x xs v us Q I rx r ⟨Z, F, A, σ', st, d, ds, res, R, r1, rs, eg, q⟩
  match ds, rs, eg with
  | [.str b], .cons (.str h) .nil, eg =>
    cases d with
    | str a =>
      cases r1 with
      | str h1 =>
        cases hb : TL.tl b with
        | nil => simp only [dSplit, hb] at eg; cases eg
        | cons c t =>
          cases t with
          | cons _ _ => simp only [dSplit, hb] at eg; cases eg
          | nil =>
            simp only [dSplit, hb] at eg
            obtain ⟨⟨h256, hc⟩, rfl⟩ := if_some eg
            have hb1 : (b.length == 0) = false := by rw [TL.len_tl, hb]; rfl
            have hk : b.cps.all (· < 256) = true := by
              rw [← Array.all_toList]
              show (TL.tl b).all _ = true
              rw [hb]
              simpa using h256
            have hs := TL.split_spl a b (by rw [hb]; simp) (TL.kind_ok hk)
            rw [hb] at hs
            have ha := strOk_iff.mp h1
            refine mt_split pins s σ H _ _ v us Q I rx r ⟨a, b, rfl, rfl, hb1, by rw [sizeLine_eq]; exact hc, fun p hp => ?_⟩
            have em : (TL.spl [c] 0 [] (TL.tl a)).map (fun l => D.str ⟨l.toArray⟩) = (Txt.split a b).map D.str := by
              rw [← map_mk hs, List.map_map]
              rfl
            rw [em] at q
            have ok : ∀ z ∈ Txt.split a b, PyData.strOk z = true := fun z hz => by
              refine strOk_iff.mpr fun y hy => ?_
              have hm : TL.tl z ∈ TL.spl [c] 0 [] (TL.tl a) := by
                rw [← hs]
                exact List.mem_map_of_mem hz
              rcases spl_sub _ _ _ _ _ hm y hy with w | w
              · cases w
              · exact ha y w
            obtain ⟨R2, lo⟩ := R.loose hp (strs_rep X.K A F ok)
            exact q p _ _ R2 lo
    | _ => cases eg
/-- o.m(e) of a text -/
theorem je_sm1 {id : String} {name : Str} {apos : Pos} {g : D → List D → Option D} (slot : Slot "str" name id) (ty : typeOf (.builtin id) = pure (.type "method_descriptor")) (rule : MtR X id (rMt X.K g))
    (ha : PE X a (tM X.K Z W ma)) (hb : PE X b (tM X.K Z W mb)) (hs : starEach [b] X.env = [(false, eval b X.env)] := by rfl) (hbase : attributeBase a name X.env (eval a X.env) = eval a X.env := by rfl) (hline : (apos.endLine == pos.line) = true := by rfl) :
    PE X (.Call (.Attribute a name apos) [b] [] pos) (tM X.K Z W (ma >>= fun x => M.of (match x with | .str _ => some x | _ => none) >>= fun x => mb >>= fun y => M.of (g x [y]))) := by
  refine PE.wk (pe_m1 slot ty rule ha hb hs hbase hline) fun σ H Q ⟨F, A, st, R, h⟩ => ?_
  refine ⟨F, A, st, R, h.bind.imp fun d st1 F1 H1 A1 R1 m1 z v r => ?_⟩
  obtain ⟨d', e1, z⟩ := of_after z.bind
  have z := z F1 H1 A1 R1 .refl
  cases d with
  | str x =>
    cases e1
    cases r with
    | str hx =>
      refine ⟨⟨x, rfl⟩, F1, A1, st1, R1, z.bind.imp fun d2 st2 F2 H2 A2 R2 m2 z v2 r2 => ?_⟩
      obtain ⟨res, e2, z⟩ := of_after z
      exact ⟨Z, F2, A2, σ, st2, .str x, [d2], res, R2, .str hx, .cons r2 .nil, e2, fun v' F' H' R' m' r' => z F' H' A2 R' m' v' r'⟩
  | _ => cases e1
theorem jn_sm1 {id : String} {name : Str} {apos : Pos} {g : D → List D → Option (List D)} (slot : Slot "str" name id) (ty : typeOf (.builtin id) = pure (.type "method_descriptor")) (rule : MtR X id (rMtN X.K g))
    (ha : PE X a (tM X.K Z W ma)) (hb : PE X b (tM X.K Z W mb)) (hs : starEach [b] X.env = [(false, eval b X.env)] := by rfl) (hbase : attributeBase a name X.env (eval a X.env) = eval a X.env := by rfl) (hline : (apos.endLine == pos.line) = true := by rfl) :
    PE X (.Call (.Attribute a name apos) [b] [] pos) (tN X.K Z W (ma >>= fun x => M.of (match x with | .str _ => some x | _ => none) >>= fun x => mb >>= fun y => M.of (g x [y]))) := by
  refine PE.wk (pe_m1 slot ty rule ha hb hs hbase hline) fun σ H Q ⟨F, A, st, R, h⟩ => ?_
  refine ⟨F, A, st, R, h.bind.imp fun d st1 F1 H1 A1 R1 m1 z v r => ?_⟩
  obtain ⟨d', e1, z⟩ := of_after z.bind
  have z := z F1 H1 A1 R1 .refl
  cases d with
  | str x =>
    cases e1
    cases r with
    | str hx =>
      refine ⟨⟨x, rfl⟩, F1, A1, st1, R1, z.bind.imp fun d2 st2 F2 H2 A2 R2 m2 z v2 r2 => ?_⟩
      obtain ⟨res, e2, z⟩ := of_after z
      exact ⟨Z, F2, A2, σ, st2, .str x, [d2], res, R2, .str hx, .cons r2 .nil, e2, fun p vs H' R' lo => z F2 H' A2 R' .refl p vs lo⟩
  | _ => cases e1
end
end J
end
section
namespace J
open PySem PySem.Spec PyProof.Rows L2
section
variable {X : Cx} {K : PySem.W.Frag} {Z : Ent} {W : WX} {F H : Hp} {A : Fps} {σ : L2.St} {st : Sta} {pos p : Pos} {a b c e o : Expr} {es : List Expr} {ma mb mc : M D} {x : Str} {n : Nat} {m : M (List D)}
def dIx : D → D → Option D
  | .tup xs, .int i => atI xs i
  | .lst xs, .int i => atI xs i
  | .rls xs, .int i => atI xs i
  | .str z, .int i => if z.length ≤ 16777216 then (atI (TL.tl z) i).map fun c => .str ⟨#[c]⟩ else none
  | _, _ => none
theorem atI_reps {vs : List V} {ds : List D} {i : Int} {d : D} (r : Reps K A F vs ds) (h : atI ds i = some d) : ∃ v, atI vs i = some v ∧ Rep K A F v d := by
  unfold atI at *
  rw [r.length]
  obtain ⟨j, e1, e2⟩ := Option.bind_eq_some_iff.mp h
  obtain ⟨v, e3, r3⟩ := r.get e2
  exact ⟨v, by rw [e1]; exact e3, r3⟩
theorem atI_mem {α : Type} {xs : List α} {i : Int} {v : α} (h : atI xs i = some v) : v ∈ xs := by
  unfold atI at h
  obtain ⟨j, e1, e2⟩ := Option.bind_eq_some_iff.mp h
  exact List.mem_of_getElem? e2
theorem je_ix (ha : PE X a (tM X.K Z W ma)) (hb : PE X b (tM X.K Z W mb)) (hs : PlainIx b := by exact fun _ _ => rfl) : PE X (.Subscript a b pos) (tM X.K Z W (ma >>= fun x => mb >>= fun y => M.of (dIx x y))) := by
  refine PE.wk (pe_ix ix_seq ha hb hs) fun σ H Q ⟨F, A, st, R, h⟩ => ?_
  obtain ⟨F', A', st', R', z⟩ := two_ R h
  refine ⟨F', A', st', R', z.imp fun d st1 F1 H1 A1 R1 m1 z v r => ?_⟩
  obtain ⟨F2, A2, st2, R2, z⟩ := z v r
  refine ⟨F2, A2, st2, R2, z.imp fun d2 st3 F3 H3 A3 R3 m3 z v2 r2 => ?_⟩
  obtain ⟨dx, dy, F4, A4, st4, R4, r3, r4, m4, z⟩ := z v2 r2
  obtain ⟨res, eg, z⟩ := of_after z
  have zf := z F4 H3 A4 R4 .refl
  cases dy with
  | int i =>
    cases r4
    cases dx with
    | tup xs =>
      cases r3 with
      | tup h t =>
        obtain ⟨w, e1, r5⟩ := atI_reps t eg
        exact .inr (.inl ⟨_, _, i, w, rfl, rfl, sqT_le R4.le h, e1, zf _ r5⟩)
    | lst xs =>
      cases r3 with
      | lst h t =>
        obtain ⟨w, e1, r5⟩ := atI_reps t eg
        exact .inl ⟨_, _, i, w, rfl, rfl, .inl (.inl (R4.le _ _ h)), e1, zf _ r5⟩
    | rls xs =>
      cases r3 with
      | rls h t =>
        obtain ⟨w, e1, r5⟩ := atI_reps t eg
        exact .inl ⟨_, _, i, w, rfl, rfl, sqL_le R4.le h, e1, zf _ r5⟩
    | str q =>
      cases r3 with
      | str h =>
        have eg : (if q.length ≤ 16777216 then (atI (TL.tl q) i).map fun c => D.str ⟨#[c]⟩ else none) = some res := eg
        by_cases hc : q.length ≤ 16777216
        · rw [if_pos hc] at eg
          obtain ⟨c, e1, e2⟩ := Option.map_eq_some_iff.mp eg
          subst e2
          refine .inr (.inr ⟨q, i, c, rfl, rfl, by rw [sizeLine_eq]; exact hc, e1, zf _ (.str (strOk_mk (l := [c]) fun y hy => ?_))⟩)
          rw [List.mem_singleton.mp hy]
          exact strOk_iff.mp h c (atI_mem e1)
        · rw [if_neg hc] at eg
          cases eg
    | _ => cases eg
  | _ => cases dx <;> cases eg
/-- x[i], x a name whose list may be held -/
theorem look_rel {i : Nat} {d : D} (R : Rel K Z F H A σ st) (h : lookV i st = .ok d st) : ∃ v, σ[i]? = some (some v) ∧ (Rep K A F v d ∨ ∃ q vs l, v = .ref q ∧ d = .lst l ∧ H q = some (.lst vs) ∧ Reps K A F vs l) := by
  unfold lookV at h
  cases e : st.r[i]? with
  | none => rw [e] at h; cases h
  | some o =>
    cases o with
    | none => rw [e] at h; cases h
    | some sl =>
      rw [e] at h
      cases sl with
      | val d' =>
        obtain ⟨v, e2, r⟩ := R.loc i _ e
        cases h
        exact ⟨v, e2, .inl r⟩
      | own l =>
        obtain ⟨q, vs, e2, h1, r, _⟩ := R.loc i _ e
        cases h
        exact ⟨_, e2, .inr ⟨q, vs, l, rfl, rfl, h1, r⟩⟩
theorem look_bind {α : Type} {i : Nat} {f : D → M α} {C : α → Sta → Hp → Hp → Fps → Prop} (h : After K Z W σ F A ((lookV i >>= f) st) C) : ∃ d, lookV i st = .ok d st ∧ After K Z W σ F A (f d st) C := by
  rw [bind_eq] at h
  unfold lookV at *
  cases e : st.r[i]? with
  | none => rw [e] at h; exact h.elim
  | some o =>
    cases o with
    | none => rw [e] at h; exact h.elim
    | some sl =>
      rw [e] at h
      cases sl with
      | val d' => exact ⟨d', rfl, h⟩
      | own l => exact ⟨_, rfl, h⟩
theorem je_ixOwn {i : Nat} {y : Str} {py : Pos} (hb : PE X b (tM X.K Z W mb)) (hN : X.N[i]? = some y := by rfl) (hv : Vis X.env.scope y := by first | exact Or.inl rfl | exact Or.inr (Or.inl rfl) | exact Or.inr (Or.inr rfl)) (hd : (y == ("__debug__" : Str)) = false := by decide)
    (hcd : (y == ("__classdict__" : Str)) = false := by decide) (hs : PlainIx b := by exact fun _ _ => rfl) :
    PE X (.Subscript (.Name y py) b pos) (tM X.K Z W (lookV i >>= fun _ => mb >>= fun k => lookV i >>= fun x => M.of (match x with | .lst xs => dIx (.lst xs) k | _ => none))) := by
  refine PE.wk (pe_ix ix_list (pe_var hN hv hd hcd) hb hs) fun σ H Q ⟨F, A, st, R, h⟩ => ?_
  obtain ⟨d0, el0, h⟩ := look_bind h
  obtain ⟨v, ev, _⟩ := look_rel R el0
  refine ⟨v, ev, F, A, st, R, h.bind.imp fun d st1 F1 H1 A1 R1 m1 z v2 r2 => ?_⟩
  obtain ⟨dx, el, z⟩ := look_bind z
  obtain ⟨v', ev', l⟩ := look_rel R1 el
  rw [ev] at ev'
  cases ev'
  obtain ⟨res, eg, z⟩ := of_after z
  have zf := z F1 H1 A1 R1 .refl
  cases dx with
  | lst xs =>
    cases d with
    | int k =>
      cases r2
      rcases l with r | ⟨q, vs, l, rfl, el2, hq, rs⟩
      · cases r with
        | lst h t =>
          obtain ⟨w, e1, r5⟩ := atI_reps t eg
          exact ⟨_, _, k, w, rfl, rfl, .inl (.inl (R1.le _ _ h)), e1, zf _ r5⟩
      · cases el2
        obtain ⟨w, e1, r5⟩ := atI_reps rs eg
        exact ⟨_, _, k, w, rfl, rfl, .inl (.inl hq), e1, zf _ r5⟩
    | _ => cases eg
  | _ => cases eg
/-- len(x), x such a name -/
theorem je_lenOwn {i : Nat} {y : Str} {py : Pos} (hg : Gl X "len") (hm : X.mg "len" = none) (hv0 : bootBuiltins "len" = some (.builtin "len")) (hN : X.N[i]? = some y := by rfl) (hv : Vis X.env.scope y := by first | exact Or.inl rfl | exact Or.inr (Or.inl rfl) | exact Or.inr (Or.inr rfl))
    (hd : (y == ("__debug__" : Str)) = false := by decide) (hcd : (y == ("__classdict__" : Str)) = false := by decide) :
    PE X (.Call (.Name "len" p) [.Name y py] [] pos) (tM X.K Z W (lookV i >>= fun x => M.of (match x with | .lst xs => some (.int xs.length) | _ => none))) := by
  refine PE.wk (pe_callB call_len hg hm hv0 (pa_cons (pe_var hN hv hd hcd) pa_nil)) fun σ H Q ⟨F, A, st, R, h⟩ => ?_
  obtain ⟨dx, el, z⟩ := look_bind h
  obtain ⟨v, ev, l⟩ := look_rel R el
  obtain ⟨res, eg, z⟩ := of_after z
  have zf := z F H A R .refl
  refine ⟨v, ev, ?_⟩
  cases dx with
  | lst xs =>
    cases eg
    rcases l with r | ⟨q, vs, l, rfl, el2, hq, rs⟩
    · cases r with
      | lst h t => exact ⟨_, xs.length, rfl, .inl ⟨_, .inl (.inl (R.le _ _ h)), t.length.symm⟩, zf _ (.int _)⟩
    · cases el2
      exact ⟨_, xs.length, rfl, .inl ⟨_, .inl (.inl hq), rs.length.symm⟩, zf _ (.int _)⟩
  | _ => cases eg
def cutD (xs : List D) (lo hi : Option Int) : List D := (xs.drop (HT.sIx xs.length 0 lo)).take (HT.sIx xs.length xs.length hi - HT.sIx xs.length 0 lo)
theorem cut_reps {vs : List V} {ds : List D} (r : Reps K A F vs ds) (lo hi : Option Int) : Reps K A F (cutV vs lo hi) (cutD ds lo hi) := by
  unfold cutV cutD
  rw [r.length]
  exact (r.drop _).take _
def tO (K : PySem.W.Frag) (Z : Ent) (W : WX) (m : M (Option Int)) : TO := fun σ H Q => ∃ F A st, Rel K Z F H A σ st ∧ After K Z W σ F A (m st) fun b _ _ H' _ => Q b H'
theorem PO.wk {e : Option Expr} {t t' : TO} (h : PO X e t) (f : ∀ σ H Q, t' σ H Q → t σ H Q) : PO X e t' := by
  obtain ⟨r⟩ := h
  exact ⟨fun pins s σ H Q I q => r pins s σ H Q I (f σ H Q q)⟩
theorem jo_none : PO X none (tO X.K Z W (pure none)) := PO.wk po_none fun σ H Q ⟨F, A, st, R, h⟩ => h F H A R .refl
def D.isI : D → Option Int
  | .int i => some i
  | _ => none
theorem jo_some (h : PE X a (tM X.K Z W ma)) : PO X (some a) (tO X.K Z W (ma >>= fun d => M.of (d.isI.map some))) := by
  refine PO.wk (po_some h) fun σ H Q ⟨F, A, st, R, h⟩ => ?_
  refine ⟨F, A, st, R, h.bind.imp fun d st1 F1 H1 A1 R1 m1 z v r => ?_⟩
  obtain ⟨res, eg, z⟩ := of_after z
  cases d with
  | int i =>
    cases r
    cases eg
    exact ⟨i, rfl, z F1 H1 A1 R1 .refl⟩
  | _ => cases eg
def dSl (d : D) (lo hi : Option Int) : Option D := match d with
  | .tup xs => some (.tup (cutD xs lo hi))
  | .lst xs => some (.lst (cutD xs lo hi))
  | .str z => if z.length ≤ 16777216 then some (.str (cutS z lo hi)) else none
  | _ => none
def dSlN (d : D) (lo hi : Option Int) : Option (List D) := match d with
  | .lst xs => some (cutD xs lo hi)
  | _ => none
variable {lo hi : Option Expr} {ml mh : M (Option Int)} {p2 : Pos}
theorem sl_seq {α : Type} {g : D → Option Int → Option Int → M α} {C : α → Sta → Hp → Hp → Fps → Prop} (R : Rel X.K Z F H A σ st) (h : After X.K Z W σ F A ((ma >>= fun x => ml >>= fun l => mh >>= fun u => g x l u) st) C) :
    tM X.K Z W ma σ H fun x H1 => tO X.K Z W ml σ H1 fun l H2 => tO X.K Z W mh σ H2 fun u H3 => ∃ d F3 A3 st3, Rel X.K Z F3 H3 A3 σ st3 ∧ Rep X.K A3 F3 x d ∧ After X.K Z W σ F3 A3 (g d l u st3) C := by
  refine ⟨F, A, st, R, h.bind.imp fun d st1 F1 H1 A1 R1 m1 z v r => ?_⟩
  refine ⟨F1, A1, st1, R1, z.bind.imp fun l st2 F2 H2 A2 R2 m2 z => ?_⟩
  refine ⟨F2, A2, st2, R2, z.bind.imp fun u st3 F3 H3 A3 R3 m3 z => ?_⟩
  exact ⟨d, F3, A3, st3, R3, r.mono (m2.trans m3), z⟩
theorem je_sl (ha : PE X a (tM X.K Z W ma)) (hl : PO X lo (tO X.K Z W ml)) (hh : PO X hi (tO X.K Z W mh)) : PE X (.Subscript a (.Slice lo hi none p2) pos) (tM X.K Z W (ma >>= fun x => ml >>= fun l => mh >>= fun u => M.of (dSl x l u))) := by
  refine PE.wk (pe_slice (sl_list.or (sl_tupA.or sl_str)) ha hl hh) fun σ H Q ⟨F, A, st, R, h⟩ => ?_
  obtain ⟨F0, A0, st0, R0, z⟩ := sl_seq R h
  refine ⟨F0, A0, st0, R0, z.imp fun d1 st1 F1 H1 A1 R1 m1 z v r => ?_⟩
  obtain ⟨F0, A0, st0, R0, z⟩ := z v r
  refine ⟨F0, A0, st0, R0, z.imp fun l st2 F2 H2 A2 R2 m2 z => ?_⟩
  obtain ⟨F0, A0, st0, R0, z⟩ := z
  refine ⟨F0, A0, st0, R0, z.imp fun u st3 F3 H3 A3 R3 m3 z => ?_⟩
  obtain ⟨d, F4, A4, st4, R4, r4, z⟩ := z
  obtain ⟨res, eg, zf⟩ := of_after z
  cases d with
  | tup xs =>
    cases r4 with
    | tup h t =>
      cases eg
      refine .inr (.inl ⟨_, _, rfl, sqT_le R4.le h, fun hw => ?_, fun _ q hq => ?_⟩)
      · have e0 : cutD xs l u = xs := by
          unfold cutD
          rw [← t.length, hw.1, hw.2, t.length]
          simp
        rw [e0] at zf
        exact zf F4 H3 A4 R4 .refl _ (.tup h t)
      · exact zf _ _ A4 (R4.new hq) (.new R4.w hq) _ (.tup (.inl (.inl upd_same)) ((cut_reps t l u).mono (.new R4.w hq)))
  | lst xs =>
    cases r4 with
    | lst h t =>
      cases eg
      exact .inl ⟨_, _, rfl, .inl (.inl (R4.le _ _ h)), fun q hq => zf _ _ A4 (R4.new hq) (.new R4.w hq) _ (.lst upd_same ((cut_reps t l u).mono (.new R4.w hq)))⟩
  | str q =>
    cases r4 with
    | str h =>
      obtain ⟨hc, rfl⟩ := if_some eg
      refine .inr (.inr ⟨q, rfl, by rw [sizeLine_eq]; exact hc, zf F4 H3 A4 R4 .refl _ (.str (strOk_mk fun y hy => ?_))⟩)
      exact strOk_iff.mp h y (List.mem_of_mem_drop (List.mem_of_mem_take hy))
  | _ => cases eg
theorem jn_sl (ha : PE X a (tM X.K Z W ma)) (hl : PO X lo (tO X.K Z W ml)) (hh : PO X hi (tO X.K Z W mh)) : PE X (.Subscript a (.Slice lo hi none p2) pos) (tN X.K Z W (ma >>= fun x => ml >>= fun l => mh >>= fun u => M.of (dSlN x l u))) := by
  refine PE.wk (pe_slice sl_list ha hl hh) fun σ H Q ⟨F, A, st, R, h⟩ => ?_
  obtain ⟨F0, A0, st0, R0, z⟩ := sl_seq R h
  refine ⟨F0, A0, st0, R0, z.imp fun d1 st1 F1 H1 A1 R1 m1 z v r => ?_⟩
  obtain ⟨F0, A0, st0, R0, z⟩ := z v r
  refine ⟨F0, A0, st0, R0, z.imp fun l st2 F2 H2 A2 R2 m2 z => ?_⟩
  obtain ⟨F0, A0, st0, R0, z⟩ := z
  refine ⟨F0, A0, st0, R0, z.imp fun u st3 F3 H3 A3 R3 m3 z => ?_⟩
  obtain ⟨d, F4, A4, st4, R4, r4, z⟩ := z
  obtain ⟨res, eg, zf⟩ := of_after z
  cases d with
  | lst xs =>
    cases r4 with
    | lst h t =>
      cases eg
      refine ⟨_, _, rfl, .inl (.inl (R4.le _ _ h)), fun q hq => ?_⟩
      obtain ⟨R5, lo⟩ := R4.loose hq (cut_reps t l u)
      exact zf F4 _ A4 R5 .refl q _ lo
  | _ => cases eg
/-- new lists by + -/
def dAddN : D → D → Option (List D)
  | .lst x, .lst y => if x.length + y.length ≤ 16777216 then some (x ++ y) else none
  | _, _ => none
theorem jn_add (ha : PE X a (tM X.K Z W ma)) (hb : PE X b (tM X.K Z W mb)) : PE X (.BinOp a .Add b pos) (tN X.K Z W (ma >>= fun x => mb >>= fun y => M.of (dAddN x y))) := by
  refine PE.wk (pe_op op_cat ha hb) fun σ H Q ⟨F, A, st, R, h⟩ => ?_
  obtain ⟨F', A', st', R', z⟩ := two_ R h
  refine ⟨F', A', st', R', z.imp fun d st1 F1 H1 A1 R1 m1 z v r => ?_⟩
  obtain ⟨F2, A2, st2, R2, z⟩ := z v r
  refine ⟨F2, A2, st2, R2, z.imp fun d2 st3 F3 H3 A3 R3 m3 z v2 r2 => ?_⟩
  obtain ⟨dx, dy, F4, A4, st4, R4, r3, r4, m4, z⟩ := z v2 r2
  obtain ⟨res, eg, zf⟩ := of_after z
  cases dx with
  | lst xs =>
    cases dy with
    | lst ys =>
      obtain ⟨hc, rfl⟩ := if_some eg
      cases r3 with
      | lst h1 t1 =>
        cases r4 with
        | lst h2 t2 =>
          refine ⟨_, _, _, _, rfl, rfl, R4.le _ _ h1, R4.le _ _ h2, by rw [sizeLine_eq, t1.length, t2.length]; exact hc, fun q hq => ?_⟩
          obtain ⟨R5, lo⟩ := R4.loose hq (t1.append t2)
          exact zf F4 _ A4 R5 .refl q _ lo
    | _ => cases eg
  | _ => cases eg
def dTrue : D → Option Bool
  | .non => some false
  | .bl b => some b
  | .int i => some (i != 0)
  | .str x => if x.length ≤ 16777216 then some ((x.length : Int) != 0) else none
  | .tup xs => some (!xs.isEmpty)
  | .lst xs => some (!xs.isEmpty)
  | _ => none
theorem reps_empty {vs : List V} {ds : List D} (r : Reps K A F vs ds) : (!vs.isEmpty) = !ds.isEmpty := by
  cases r <;> rfl
theorem jt_truth (ha : PE X a (tM X.K Z W ma)) (he : ∀ whole, isTrue a X.env whole = (do let v ← whole; standAt a.pos; holding [v] (truthy v)) := by intro _; rfl) : PT X a (J.tB X.K Z W (ma >>= fun d => M.of (dTrue d))) := by
  refine PT.wk (pt_truth ha he) fun σ H Q ⟨F, A, st, R, h⟩ => ?_
  refine ⟨F, A, st, R, h.bind.imp fun d st1 F1 H1 A1 R1 m1 z v r => ?_⟩
  obtain ⟨k, eg, z⟩ := of_after z
  refine ⟨k, ?_, z F1 H1 A1 R1 .refl⟩
  cases r with
  | non => cases eg; rfl
  | bl b => cases eg; rfl
  | int i => cases eg; rfl
  | str h =>
    obtain ⟨hc, rfl⟩ := if_some eg
    exact ⟨by rw [sizeLine_eq]; exact hc, rfl⟩
  | tup h t =>
    cases eg
    exact .inr (.inl ⟨_, sqT_le R1.le h, (reps_empty t).symm⟩)
  | lst h t =>
    cases eg
    exact .inl ⟨_, .inl (.inl (R1.le _ _ h)), (reps_empty t).symm⟩
  | _ => cases eg
def D.ty : D → Option String
  | .non => some "NoneType"
  | .bl _ => some "bool"
  | .int _ => some "int"
  | .str _ => some "str"
  | .tup _ => some "tuple"
  | .lst _ => some "list"
  | .rls _ => some "list"
  | _ => none
theorem ty_rep {v : V} {d : D} {t : String} (le : ∀ a o, F a = some o → H a = some o) (r : Rep K A F v d) (h : d.ty = some t) : TyX K H v (.type t) := by
  cases r with
  | non => cases h; exact .base .non
  | bl b => cases h; exact .base (.bl b)
  | int i => cases h; exact .base (.int i)
  | str _ => cases h; exact .base (.str _)
  | tup q t =>
    cases h
    rcases q with (q | ⟨o, q⟩) | ⟨o, its, n, q, qc, _⟩
    · exact .base (.tup (le _ _ q))
    · exact .fTuple (le _ _ q)
    · exact .kTuple q qc
  | lst q t => cases h; exact .base (.lst (le _ _ q))
  | rls q t =>
    cases h
    rcases q with (q | ⟨o, q⟩) | ⟨o, its, n, q, qc, _⟩
    · exact .base (.lst (le _ _ q))
    · exact .base (.frz (le _ _ q))
    · exact .kList q qc
  | _ => cases h
/-- isinstance(x, T): kt answers for own instances -/
def isiD (T : String) (kt : Str → Option Bool) (d : D) : Option Bool := match d with
  | .ins c _ => kt c
  | _ => d.ty.bind fun t => kitB t T
/-- what an own class must have for isinstance -/
structure TyC (K : PySem.W.Frag) (c : Str) : Prop where
  cl : Cls K (He.ga K c)
  ha : PySem.W.findIn K (.ref (He.ga K c)) "__class__" = some (some (.builtin "object.__class__"))
  hn : PySem.W.specialIn K (.builtin "object.__class__") "__get__" = some (some (.builtin "getset_descriptor.__get__"))
  ht : PySem.W.takesIn K (.builtin "object.__class__") = some true
  hm : PySem.W.mroIn K (He.ga K c) (.type "object") = some true
theorem je_isi {T : String} {kt : Str → Option Bool} {px : Pos} {xT : Str} (hk : ∀ c b, kt c = some b → TyC X.K c ∧ PySem.W.kitOne X.K (.ref (He.ga X.K c)) (.type T) = some b) (hg : Gl X "isinstance") (hm : X.mg "isinstance" = none) (hv : bootBuiltins "isinstance" = some (.builtin "isinstance"))
    (hgT : Gl X xT) (hmT : X.mg xT = none) (hvT : bootBuiltins xT = some (.type T)) (ha : PE X a (tM X.K Z W ma)) (hnT : xT ≠ "__name__" := by decide) (hdT : (xT == ("__debug__" : Str)) = false := by decide) (he : starEach [a, .Name xT px] X.env = (false, eval a X.env) :: starEach [.Name xT px] X.env := by rfl) :
    PE X (.Call (.Name "isinstance" p) [a, .Name xT px] [] pos) (tM X.K Z W (ma >>= fun d => M.of ((isiD T kt d).map .bl))) := by
  refine PE.wk (pe_callB call_isi hg hm hv (pa_cons ha (pa_cons (pe_bltn (v := .ty T) hgT hmT hvT rfl hnT hdT) pa_nil) he) (by decide) (by decide) he) fun σ H Q ⟨F, A, st, R, h⟩ => ?_
  refine ⟨F, A, st, R, h.bind.imp fun d st1 F1 H1 A1 R1 m1 z v r => ?_⟩
  obtain ⟨res, eg, z⟩ := of_after z
  obtain ⟨b, e1, e2⟩ := Option.map_eq_some_iff.mp eg
  subst e2
  have fin := z F1 H1 A1 R1 .refl _ (.bl b)
  by_cases hi : ∃ c fs, d = .ins c fs
  · obtain ⟨c, fs, rfl⟩ := hi
    obtain ⟨tc, ko⟩ := hk c b e1
    cases r with
    | ins q t => exact ⟨_, .ty T, .ref (He.ga X.K c), .type T, b, rfl, .ty T, .base (.ins (R1.le _ _ q) tc.cl tc.ha tc.hn tc.ht tc.hm), ko, fin⟩
  · have e3 : (d.ty.bind fun t => kitB t T) = some b := by
      cases d with
      | ins c fs => exact absurd ⟨c, fs, rfl⟩ hi
      | _ => exact e1
    obtain ⟨t, e4, e5⟩ := Option.bind_eq_some_iff.mp e3
    exact ⟨v, .ty T, .type t, .type T, b, rfl, .ty T, ty_rep R1.le r e4, kit_ty e5, fin⟩
/-- isinstance(x, C), C an own class: kb answers for built-in types, kt for own classes -/
def isiO (kb : String → Option Bool) (kt : Str → Option Bool) (d : D) : Option Bool := match d with
  | .ins c _ => kt c
  | _ => d.ty.bind kb
theorem je_isiO {C : Str} {kb : String → Option Bool} {kt : Str → Option Bool} {px : Pos} (hb : ∀ t b, kb t = some b → PySem.W.kitOne X.K (.type t) (.ref (He.ga X.K C)) = some b)
    (hk : ∀ c b, kt c = some b → TyC X.K c ∧ PySem.W.kitOne X.K (.ref (He.ga X.K c)) (.ref (He.ga X.K C)) = some b) (hg : Gl X "isinstance") (hm : X.mg "isinstance" = none) (hv : bootBuiltins "isinstance" = some (.builtin "isinstance"))
    (hgC : Gl X C) (hmC : X.mg C = some (.ref (He.ga X.K C))) (ha : PE X a (tM X.K Z W ma)) (hdC : (C == ("__debug__" : Str)) = false := by decide) (he : starEach [a, .Name C px] X.env = (false, eval a X.env) :: starEach [.Name C px] X.env := by rfl) :
    PE X (.Call (.Name "isinstance" p) [a, .Name C px] [] pos) (tM X.K Z W (ma >>= fun d => M.of ((isiO kb kt d).map .bl))) := by
  refine PE.wk (pe_callB call_isi hg hm hv (pa_cons ha (pa_cons (pe_glob (v := .ref (He.ga X.K C)) hgC hmC rfl hdC) pa_nil) he) (by decide) (by decide) he) fun σ H Q ⟨F, A, st, R, h⟩ => ?_
  refine ⟨F, A, st, R, h.bind.imp fun d st1 F1 H1 A1 R1 m1 z v r => ?_⟩
  obtain ⟨res, eg, z⟩ := of_after z
  obtain ⟨b, e1, e2⟩ := Option.map_eq_some_iff.mp eg
  subst e2
  have fin := z F1 H1 A1 R1 .refl _ (.bl b)
  by_cases hi : ∃ c fs, d = .ins c fs
  · obtain ⟨c, fs, rfl⟩ := hi
    obtain ⟨tc, ko⟩ := hk c b e1
    cases r with
    | ins q t => exact ⟨_, _, .ref (He.ga X.K c), _, b, rfl, .own _, .base (.ins (R1.le _ _ q) tc.cl tc.ha tc.hn tc.ht tc.hm), ko, fin⟩
  · have e3 : d.ty.bind kb = some b := by
      cases d with
      | ins c fs => exact absurd ⟨c, fs, rfl⟩ hi
      | _ => exact e1
    obtain ⟨t, e4, e5⟩ := Option.bind_eq_some_iff.mp e3
    exact ⟨v, _, .type t, _, b, rfl, .own _, ty_rep R1.le r e4, hb t b e5, fin⟩
end
end J
end
section
namespace J
open PySem PySem.Spec PyProof.Rows L2
section
variable {X : Cx} {K : PySem.W.Frag} {Z : Ent} {W : WX} {F H : Hp} {A : Fps} {σ : L2.St} {st : Sta} {pos p apos : Pos} {a b c e o : Expr} {es : List Expr} {ma mb mc mo : M D} {x : Str} {n j k : Nat} {m : M (List D)} {f : Addr} {fd : FuncData} {ps : List Str} {mf : Mf}
structure FldC (K : PySem.W.Frag) (c f : Str) : Prop where
  cl : Cls K (He.ga K c)
  na : NoAttr K (He.ga K c) f
def fldM (cs : List Str) (f : Str) (d : D) : M D := fun st => match d with
  | .ins c fs => if c ∈ cs then (match fs.lookup f with
    | some v => .ok v st
    | none => .stk) else .stk
  | .obj n => (match st.S[n]? with
    | some (.ins c fs) => if c ∈ cs then (match fs.lookup f with
      | some v => .ok v st
      | none => .stk) else .stk
    | _ => .stk)
  | _ => .stk
theorem fldM_ok {cs : List Str} {g : Str} {d : D} {v : V} {C : D → Sta → Hp → Hp → Fps → Prop} (R : Rel K Z F H A σ st) (r : Rep K A F v d) (h : After K Z W σ F A (fldM cs g d st) C) :
    ∃ a dx c vs d' v', v = .ref a ∧ H a = some (.ins (He.ga K c) dx vs) ∧ c ∈ cs ∧ vs.lookup g = some v' ∧ Rep K A F v' d' ∧ After K Z W σ F A (.ok d' st) C := by
  unfold fldM at h
  cases r with
  | ins q t =>
    rename_i a dx c fs ds
    by_cases hc : c ∈ cs
    · simp only [if_pos hc] at h
      cases e : ds.lookup g with
      | none => rw [e] at h; exact h.elim
      | some v =>
        rw [e] at h
        obtain ⟨w, e2, r2⟩ := t.lookup e
        exact ⟨a, dx, c, fs, v, w, rfl, R.le _ _ q, hc, e2, r2, h⟩
    · simp only [if_neg hc] at h
      exact h.elim
  | obj q =>
    rename_i n a l
    cases e : st.S[n]? with
    | none => simp only [e] at h; exact h.elim
    | some mo =>
      cases mo with
      | ins c fs =>
        simp only [e] at h
        obtain ⟨a', dx, vs, e1, h1, r1⟩ := R.w.ok n _ _ e q
        injection e1 with e1 e3
        subst e1
        by_cases hc : c ∈ cs
        · rw [if_pos hc] at h
          cases e : fs.lookup g with
          | none => rw [e] at h; exact h.elim
          | some v =>
            rw [e] at h
            obtain ⟨w, e2, r2⟩ := r1.lookup e
            exact ⟨_, dx, c, vs, v, w, rfl, h1, hc, e2, r2, h⟩
        · rw [if_neg hc] at h
          exact h.elim
      | _ => simp only [e] at h; exact h.elim
  | _ => exact h.elim
theorem je_fld {cs : List Str} {g : Str} (hc : ∀ c ∈ cs, FldC X.K c g) (ha : PE X a (tM X.K Z W ma)) (hb : attributeBase a g X.env (eval a X.env) = eval a X.env := by rfl) : PE X (.Attribute a g pos) (tM X.K Z W (ma >>= fldM cs g)) := by
  refine PE.wk (pe_fld ha hb) fun σ H Q ⟨F, A, st, R, h⟩ => ?_
  refine ⟨F, A, st, R, h.bind.imp fun d st1 F1 H1 A1 R1 m1 z v r => ?_⟩
  obtain ⟨a, dx, c, vs, d', v', e1, h1, hcs, e2, r2, z⟩ := fldM_ok R1 r z
  obtain ⟨c1, c2⟩ := hc c hcs
  exact ⟨a, _, dx, vs, v', e1, h1, c1, c2, e2, z F1 H1 A1 R1 .refl v' r2⟩
theorem tL_fn {C : D → Sta → Hp → Hp → Fps → Prop} (hl : ∀ st ds st', m st = .ok ds st' → ds.length = n) (R : Rel X.K Z F H A σ st) (h : After X.K Z W σ F A ((m >>= callM mf) st) C) :
    tL X.K Z W m σ H fun vs H1 => spM X.K n mf vs H1 (fun v H' => ∃ d st' F' A', Rel X.K Z F' H' A' σ st' ∧ Rep X.K A' F' v d ∧ C d st' F' H' A') (fun cls d H' => W cls d σ H') := by
  refine ⟨F, A, st, R, h.bind.withEq.imp fun ds st1 F1 H1 A1 R1 m1 ⟨e, z⟩ vs rs => ?_⟩
  have sp := spM_call R1 rs (rs.length.trans (hl _ _ _ e)) z
  obtain ⟨h1, F2, A2, S2, ds2, w2, r2, post⟩ := sp
  refine ⟨h1, F2, A2, S2, ds2, w2, r2, ?_⟩
  cases q : mf ds2 S2 with
  | ok d S =>
    rw [q] at post
    exact fun v F' H' A' w x rv => let ⟨d', st', F3, A3, R3, m3, r3, c3⟩ := post v F' H' A' w x rv; ⟨d', st', F3, A3, R3, r3, c3⟩
  | err y S =>
    rw [q] at post
    exact post
  | stk =>
    rw [q] at post
    exact post
theorem je_call (G : FnG X.prog X.w X.K X.mg X.base j f fd ps (spM X.K n mf)) (jc : JC X k W) (hj : j ≤ k) (hg : Gl X x) (hm : X.mg x = some (.ref f)) (hk : PySem.W.keepIn X.K (.ref f) = true) (hb : Binds X.K fd ps []) (ha : PAJ X Z W (e :: es) n m)
    (hdb : (x == ("__debug__" : Str)) = false := by decide) (he : starEach (e :: es) X.env = (false, eval e X.env) :: starEach es X.env := by rfl) (hpl : (backTo pos (starEach es X.env)).any (·.1) = false := by rfl) :
    PE X (.Call (.Name x p) (e :: es) [] pos) (tM X.K Z W (m >>= callM mf)) := by
  refine ⟨fun pins s σ H Q I ⟨F, A, st, R, h⟩ => wpAny_Call_Name_kw (ld_glob I hg hm (PySem.W.callWith_K (h₀ := X.base) I.ok.mod.kin hk ?_ he hpl) hdb)⟩
  refine thn (ha.pa.run pos pins s σ H _ I (tL_fn ha.len R h)) fun us s1 ⟨vs, H1, I1, rv, sp⟩ => ⟨I1.kIn, ?_⟩
  rw [← List.append_nil vs] at sp
  refine thn (runG (dvs := []) (ds := []) G (jc.room.mono hj) jc.g hb .nil jc.tk I1 rv sp) fun u s2 ⟨v, H2, I2, ru, d, st', F', A', R', r', c'⟩ => ?_
  exact ⟨v, H2, I2, ru, c' v r'⟩
theorem je_call0 (G : FnG X.prog X.w X.K X.mg X.base j f fd ps (spM X.K 0 mf)) (jc : JC X k W) (hj : j ≤ k) (hg : Gl X x) (hm : X.mg x = some (.ref f)) (hk : PySem.W.keepIn X.K (.ref f) = true) (hb : Binds X.K fd ps [])
    (hdb : (x == ("__debug__" : Str)) = false := by decide) : PE X (.Call (.Name x p) [] [] pos) (tM X.K Z W (callM mf [])) := by
  refine ⟨fun pins s σ H Q I ⟨F, A, st, R, h⟩ => wpAny_Call_Name_kw (ld_glob I hg hm (PySem.W.callWith_K0 I.kIn hk ?_) hdb)⟩
  have sp := spM_call (n := 0) R (Reps.nil) rfl h
  refine thn (runG (us := []) (vs := []) (dvs := []) (ds := []) G (jc.room.mono hj) jc.g hb .nil jc.tk I .nil sp) fun u s2 ⟨v, H2, I2, ru, d, st', F', A', R', m', r', c'⟩ => ?_
  exact ⟨v, H2, I2, ru, c' v r'⟩
mutual
/-- no object of the store beyond the first n -/
def D.bd (n : Nat) : D → Bool
  | .tup xs => D.bds n xs
  | .lst xs => D.bds n xs
  | .rls xs => D.bds n xs
  | .ins _ fs => D.bdf n fs
  | .exc _ fs => D.bdf n fs
  | .obj i => decide (i < n)
  | .non => true
  | .bl _ => true
  | .int _ => true
  | .str _ => true
def D.bds (n : Nat) : List D → Bool
  | [] => true
  | x :: xs => D.bd n x && D.bds n xs
def D.bdf (n : Nat) : List (Str × D) → Bool
  | [] => true
  | (_, x) :: xs => D.bd n x && D.bdf n xs
end
section
variable {A' : Fps} {F' : Hp} (hf : ∀ a o, F a = some o → F' a = some o) (ha : ∀ (i : Nat) z, i < n → A[i]? = some z → A'[i]? = some z)
include hf ha
mutual
theorem Rep.cut : ∀ {v : V} {d : D}, Rep K A F v d → d.bd n = true → Rep K A' F' v d
  | _, _, .non, _ => .non
  | _, _, .bl b, _ => .bl b
  | _, _, .int i, _ => .int i
  | _, _, .str h, _ => .str h
  | _, _, .tup h r, e => by
    simp only [D.bd] at e
    exact .tup (Mono.sqT (A := A) (A' := A) ⟨hf, fun _ _ z => z⟩ h) (Reps.cut r e)
  | _, _, .lst h r, e => by
    simp only [D.bd] at e
    exact .lst (hf _ _ h) (Reps.cut r e)
  | _, _, .rls h r, e => by
    simp only [D.bd] at e
    exact .rls (Mono.sqL (A := A) (A' := A) ⟨hf, fun _ _ z => z⟩ h) (Reps.cut r e)
  | _, _, .ins h r, e => by
    simp only [D.bd] at e
    exact .ins (hf _ _ h) (RepF.cut r e)
  | _, _, .obj h, e => by
    simp only [D.bd, decide_eq_true_eq] at e
    exact .obj (ha _ _ e h)
theorem Reps.cut : ∀ {v : List V} {d : List D}, Reps K A F v d → D.bds n d = true → Reps K A' F' v d
  | _, _, .nil, _ => .nil
  | _, _, .cons h r, e => by
    simp only [D.bds, Bool.and_eq_true] at e
    exact .cons (Rep.cut h e.1) (Reps.cut r e.2)
theorem RepF.cut : ∀ {v : List (Str × V)} {d : List (Str × D)}, RepF K A F v d → D.bdf n d = true → RepF K A' F' v d
  | _, _, .nil, _ => .nil
  | _, _, .cons h r, e => by
    simp only [D.bdf, Bool.and_eq_true] at e
    exact .cons (Rep.cut h e.1) (RepF.cut r e.2)
end
end
mutual
theorem Rep.bound : ∀ {v : V} {d : D}, Rep K A F v d → d.bd A.length = true
  | _, _, .non => by simp only [D.bd]
  | _, _, .bl b => by simp only [D.bd]
  | _, _, .int i => by simp only [D.bd]
  | _, _, .str h => by simp only [D.bd]
  | _, _, .tup h r => by
    simp only [D.bd]
    exact Reps.bound r
  | _, _, .lst h r => by
    simp only [D.bd]
    exact Reps.bound r
  | _, _, .rls h r => by
    simp only [D.bd]
    exact Reps.bound r
  | _, _, .ins h r => by
    simp only [D.bd]
    exact RepF.bound r
  | _, _, .obj h => by
    simp only [D.bd, decide_eq_true_eq]
    exact (List.getElem?_eq_some_iff.mp h).1
theorem Reps.bound : ∀ {v : List V} {d : List D}, Reps K A F v d → D.bds A.length d = true
  | _, _, .nil => by simp only [D.bds]
  | _, _, .cons h r => by
    simp only [D.bds, Rep.bound h, Reps.bound r, Bool.and_self]
theorem RepF.bound : ∀ {v : List (Str × V)} {d : List (Str × D)}, RepF K A F v d → D.bdf A.length d = true
  | _, _, .nil => by simp only [D.bdf]
  | _, _, .cons h r => by
    simp only [D.bdf, Rep.bound h, RepF.bound r, Bool.and_self]
end
open Classical in
/-- C(..) of a class whose instances do not change behind their __init__ -/
noncomputable def mkM (c : Str) (mf : Mf) (ds : List D) : M D := fun st => match mf (.obj st.S.length :: ds) (st.S ++ [.ins c []]) with
  | .ok .non S => (match S.getLast? with
    | some (.ins c' fs) => if c' = c ∧ S = st.S ++ [.ins c fs] ∧ D.bdf st.S.length fs = true then .ok (.ins c fs) st else .stk
    | _ => .stk)
  | .err y S => .err y { st with S := S }
  | _ => .stk
/-- C(..) of a class whose instances change -/
def newM (c : Str) (mf : Mf) (ds : List D) : M D := fun st => match mf (.obj st.S.length :: ds) (st.S ++ [.ins c []]) with
  | .ok .non S => .ok (.obj st.S.length) { st with S := S }
  | .err y S => .err y { st with S := S }
  | _ => .stk
/-- the world with a new instance -/
theorem Wd.make {S : List MO} {x dx : Addr} {c : Str} (w : Wd K F H A S) (hx : H x = none) (hd : H dx = none) (ne : dx ≠ x) :
    Wd K F (upd (upd H dx (.own x)) x (.ins (He.ga K c) dx [])) (A ++ [[x]]) (S ++ [.ins c []]) ∧ Ext F H A F (upd (upd H dx (.own x)) x (.ins (He.ga K c) dx [])) (A ++ [[x]]) := by
  have k : ∀ q u, H q = some u → (upd (upd H dx (.own x)) x (.ins (He.ga K c) dx [])) q = some u := fun q u h => by
    have n1 : q ≠ x := fun z => by rw [z, hx] at h; cases h
    have n2 : q ≠ dx := fun z => by rw [z, hd] at h; cases h
    rw [upd_ne n1, upd_ne n2]
    exact h
  have nA : x ∉ A.flatten := fun q => w.there q hx
  have mo : Mono F A F (A ++ [[x]]) := ⟨fun _ _ h => h, fun i z h => by
    have hi : i < A.length := (List.getElem?_eq_some_iff.mp h).1
    rw [List.getElem?_append_left hi]
    exact h⟩
  have fl : (A ++ [[x]]).flatten = A.flatten ++ [x] := by simp
  refine ⟨⟨fun q u h => k q u (w.le q u h), by simp [w.len], fun i m fp h1 h2 => ?_, ?_, fun q hq => ?_⟩, ⟨mo, fun _ _ h => .inl h, fun q hq => ?_, fun q u h _ => k q u h, fun q h => ?_⟩⟩
  · by_cases hi : i < A.length
    · rw [List.getElem?_append_left hi] at h2
      rw [List.getElem?_append_left (by rw [w.len]; exact hi)] at h1
      refine (w.ok i m fp h1 h2).keep mo fun q hq => ?_
      have hs := w.there (in_flat h2 hq)
      cases e : H q with
      | none => exact absurd e hs
      | some u => exact k q u e
    · have hi2 : i = A.length := by
        have := (List.getElem?_eq_some_iff.mp h2).1
        simp at this
        omega
      subst hi2
      rw [List.getElem?_append_right (Nat.le_refl _)] at h2
      rw [← w.len, List.getElem?_append_right (Nat.le_refl _)] at h1
      simp at h1 h2
      subst h1 h2
      exact ⟨x, dx, [], rfl, upd_same, .nil⟩
  · rw [fl, List.nodup_append]
    exact ⟨w.nd, by simp, fun q hq r hr e => by
      rw [List.mem_singleton.mp hr] at e
      exact nA (e ▸ hq)⟩
  · rw [fl] at hq
    rcases List.mem_append.mp hq with hq | hq
    · exact w.nF q hq
    · rw [List.mem_singleton.mp hq]
      cases e : F x with
      | none => rfl
      | some u =>
        have := w.le _ _ e
        rw [hx] at this
        cases this
  · rw [fl] at hq
    rcases List.mem_append.mp hq with hq | hq
    · exact .inl hq
    · rw [List.mem_singleton.mp hq]
      exact .inr hx
  · cases e : H q with
    | none => exact absurd e h
    | some u => rw [k q u e]; simp
/-- .. frozen behind its __init__ -/
theorem Wd.frozen {S : List MO} {F' H' : Hp} {A' : Fps} {x : Addr} {c : Str} {fs : List (Str × D)} (w0 : Wd K F H A S) (w : Wd K F' H' A' (S ++ [.ins c fs])) (e : Ext F H A F' H' A') (hx : H x = none) (hA : ∀ (i : Nat) z, (A ++ [[x]])[i]? = some z → A'[i]? = some z) (bd : D.bdf S.length fs = true) :
    ∃ F2, Wd K F2 H' A S ∧ Ext F H A F2 H' A ∧ Rep K A F2 (.ref x) (.ins c fs) := by
  have lenA : A'.length = A.length + 1 := by
    have := w.len
    simp only [List.length_append, List.length_singleton] at this
    rw [← this, w0.len]
  have eA : A' = A ++ [[x]] := by
    apply List.ext_getElem?
    intro i
    by_cases hi : i < A.length + 1
    · have hs : (A ++ [[x]])[i]? = some ((A ++ [[x]])[i]'(by simpa using hi)) := List.getElem?_eq_getElem (by simpa using hi)
      rw [hs]
      exact hA i _ hs
    · rw [List.getElem?_eq_none (by omega), List.getElem?_eq_none (by simp; omega)]
  subst eA
  have hn : (A ++ [[x]])[A.length]? = some [x] := by simp
  have hs : (S ++ [MO.ins c fs])[A.length]? = some (.ins c fs) := by rw [← w0.len]; simp
  obtain ⟨x', dx, vs, ex, h1, r1⟩ := w.ok A.length _ _ hs hn
  injection ex with ex _
  subst ex
  have nF : F' x = none := w.nF x (by simp)
  have hf : ∀ a o, F' a = some o → upd F' x (.ins (He.ga K c) dx vs) a = some o := (Mono.freeze (A := A) nF).f
  have cutA : ∀ (i : Nat) z, i < S.length → (A ++ [[x]])[i]? = some z → A[i]? = some z := fun i z hi h => by
    rw [List.getElem?_append_left (by rw [← w0.len]; exact hi)] at h
    exact h
  have nA : x ∉ A.flatten := fun q => w0.there q hx
  refine ⟨upd F' x (.ins (He.ga K c) dx vs), ⟨fun q u h => ?_, w0.len, fun i m fp g1 g2 => ?_, w0.nd, fun q hq => ?_⟩, ⟨⟨fun q u h => hf q u (e.mono.f q u h), fun _ _ h => h⟩, fun q u h => ?_, fun _ h => .inl h, e.kp, e.th⟩, .ins upd_same (r1.cut hf cutA bd)⟩
  · by_cases z : q = x
    · subst z
      rw [upd_same] at h
      rw [h1]; exact h
    · rw [upd_ne z] at h
      exact w.le q u h
  · -- the older objects: as they were, over more that is frozen
    have hlt : i < A.length := (List.getElem?_eq_some_iff.mp g2).1
    have o1 := w0.ok i m fp g1 g2
    have o2 := w.ok i m fp (by rw [List.getElem?_append_left (by rw [w0.len]; exact hlt)]; exact g1) (by rw [List.getElem?_append_left hlt]; exact g2)
    -- what it holds is read off the state ahead, where it stands off the state behind
    cases m with
    | deck cells all t => exact o2
    | gone => exact o2
    | ins c2 fs2 =>
      obtain ⟨a1, dx1, vs1, e1, q1, s1⟩ := o1
      obtain ⟨a2, dx2, vs2, e2, q2, s2⟩ := o2
      exact ⟨a2, dx2, vs2, e2, q2, s2.cut hf cutA (by rw [w0.len]; exact s1.bound)⟩
    | lst xs =>
      obtain ⟨a1, vs1, e1, q1, s1⟩ := o1
      obtain ⟨a2, vs2, e2, q2, s2⟩ := o2
      exact ⟨a2, vs2, e2, q2, s2.cut hf cutA (by rw [w0.len]; exact s1.bound)⟩
  · rw [upd_ne fun z => nA (by rw [z] at hq; exact hq)]
    exact w.nF q (by simp [hq])
  · by_cases z : q = x
    · subst z
      exact .inr hx
    · rw [upd_ne z] at h
      exact e.nw q u h
end
end J
end
section
namespace J
open PySem PySem.Spec PyProof.Rows L2
section
variable {X : Cx} {K : PySem.W.Frag} {Z : Ent} {W : WX} {F H : Hp} {A : Fps} {σ : L2.St} {st : Sta} {pos p apos : Pos} {a b c e o : Expr} {es : List Expr} {ma mb mc mo : M D} {x : Str} {n j k : Nat} {m : M (List D)} {f : Addr} {fd : FuncData} {ps : List Str} {mf : Mf}

theorem Reps.ext {F' : Hp} {A' : Fps} {vs : List V} {ds : List D} (r : Reps K A F vs ds) (mo : Mono F A F' A') : Reps K A' F' vs ds := r.mono mo
theorem sp_make {c : Str} {ds : List D} {vs : List V} {Q : VK} (R : Rel X.K Z F H A σ st) (rs : Reps X.K A F vs ds) (hn : vs.length = n) (h : After X.K Z W σ F A (mkM c mf ds st) fun d _ F' H' A' => ∀ v, Rep X.K A' F' v d → Q v H')
    {x dx : Addr} (hx : H x = none) (hd : H dx = none) (ne : dx ≠ x) :
    spM X.K (n + 1) mf (.ref x :: vs) (upd (upd H dx (.own x)) x (.ins (He.ga X.K c) dx [])) (fun v H2 => v = .non ∧ Q (.ref x) H2) (fun cls d H' => W cls d σ H') := by
  obtain ⟨w1, e1⟩ := R.w.make (K := X.K) (c := c) hx hd ne
  have hself : (A ++ [[x]])[st.S.length]? = some [x] := by rw [R.w.len]; simp
  refine ⟨congrArg (· + 1) hn, F, A ++ [[x]], st.S ++ [.ins c []], .obj st.S.length :: ds, w1, .cons (.obj hself) (rs.mono e1.mono), ?_⟩
  unfold mkM at h
  cases q : mf (.obj st.S.length :: ds) (st.S ++ [.ins c []]) with
  | stk =>
    simp only [q] at h
    exact h
  | err y S =>
    simp only [q] at h
    exact fun cls dd F' H' A' w y xo => h cls dd F' H' A' (R.ext w (e1.trans y)) (e1.trans y).mono xo
  | ok d S =>
    intro v F' H' A' w y rv
    cases d with
    | non =>
      simp only [q] at h
      cases rv
      refine ⟨rfl, ?_⟩
      cases gl : S.getLast? with
      | none => simp only [gl] at h; exact h.elim
      | some mo =>
        cases mo with
        | ins c' fs =>
          simp only [gl] at h
          by_cases hc : c' = c ∧ S = st.S ++ [.ins c fs] ∧ D.bdf st.S.length fs = true
          · rw [if_pos hc] at h
            obtain ⟨_, hS, hbd⟩ := hc
            subst hS
            obtain ⟨F2, w2, e2, r2⟩ := R.w.frozen w (e1.trans y) hx y.mono.a hbd
            exact h F2 H' A (R.ext w2 e2) e2.mono _ r2
          · rw [if_neg hc] at h
            exact h.elim
        | _ => simp only [gl] at h; exact h.elim
    | _ => simp only [q] at h; exact h.elim
/-- C(..), frozen -/
theorem je_make {c : Str} (mk : Mk X.K (He.ga X.K c) f) (G : FnG X.prog X.w X.K X.mg X.base j f fd ps (spM X.K (n + 1) mf)) (jc : JC X k W) (hj : j + 1 ≤ k) (hg : Gl X c) (hm : X.mg c = some (.ref (He.ga X.K c))) (hb : Binds X.K fd ps []) (ha : PAJ X Z W (e :: es) n m)
    (hdb : (c == ("__debug__" : Str)) = false := by decide) (he : starEach (e :: es) X.env = (false, eval e X.env) :: starEach es X.env := by rfl) (hpl : (backTo pos (starEach es X.env)).any (·.1) = false := by rfl) :
    PE X (.Call (.Name c p) (e :: es) [] pos) (tM X.K Z W (m >>= mkM c mf)) := by
  refine ⟨fun pins s σ H Q I ⟨F, A, st, R, h⟩ => wpAny_Call_Name_kw (ld_glob I hg hm (PySem.W.callWith_K (h₀ := X.base) I.ok.mod.kin mk.kp ?_ he hpl) hdb)⟩
  have hyp : tL X.K Z W m σ H fun vs H1 => ∀ x dx, H1 x = none → H1 dx = none → dx ≠ x →
      spM X.K (n + 1) mf (.ref x :: (vs ++ [])) (upd (upd H1 dx (.own x)) x (.ins (He.ga X.K c) dx [])) (fun v H2 => v = .non ∧ Q (.ref x) H2) (fun cls d H' => W cls d σ H') := by
    refine ⟨F, A, st, R, h.bind.withEq.imp fun ds st1 F1 H1 A1 R1 m1 ⟨e1, z⟩ vs rs x dx hx hd ne => ?_⟩
    rw [List.append_nil]
    exact sp_make R1 rs (rs.length.trans (ha.len _ _ _ e1)) z hx hd ne
  refine thn (ha.pa.run pos pins s σ H _ I hyp) fun us s1 ⟨vs, H1, I1, rv, sp⟩ => ⟨I1.kIn, ?_⟩
  exact makeG (dvs := []) (ds := []) mk G (jc.room.mono hj) jc.g hb .nil jc.tk I1 rv sp
/-- the class of a value, if it is an instance -/
def clsOf (d : D) (S : List MO) : Option (Str × List Str) := match d with
  | .ins c fs => some (c, fs.map (·.1))
  | .obj n => (match S[n]? with
    | some (.ins c fs) => some (c, fs.map (·.1))
    | _ => none)
  | _ => none
theorem cls_rep {d : D} {v : V} {c : Str} {ks : List Str} (R : Rel K Z F H A σ st) (r : Rep K A F v d) (h : clsOf d st.S = some (c, ks)) : ∃ a dx vs, v = .ref a ∧ H a = some (.ins (He.ga K c) dx vs) ∧ vs.map (·.1) = ks := by
  have keys : ∀ {vs : List (Str × V)} {ds : List (Str × D)}, RepF K A F vs ds → vs.map (·.1) = ds.map (·.1) := fun {vs ds} r => by
    induction vs generalizing ds with
    | nil => cases r; rfl
    | cons q vs ih =>
      cases r with
      | cons _ t => simp [ih t]
  cases r with
  | ins q t =>
    rename_i a dx c' fs ds
    have e : (c', ds.map (·.1)) = (c, ks) := Option.some.inj h
    cases e
    exact ⟨a, dx, fs, rfl, R.le _ _ q, keys t⟩
  | obj q =>
    rename_i n a l
    cases e : st.S[n]? with
    | none => simp only [clsOf, e] at h; cases h
    | some mo =>
      cases mo with
      | ins c' fs =>
        simp only [clsOf, e] at h
        obtain ⟨a', dx, vs, e1, h1, r1⟩ := R.w.ok n _ _ e q
        injection e1 with e1 e3
        subst e1
        cases h
        exact ⟨_, dx, vs, rfl, h1, keys r1⟩
      | _ => simp only [clsOf, e] at h; cases h
  | _ => cases h
theorem no_lookup {β : Type} {f : Str} : ∀ {vs : List (Str × β)}, f ∉ vs.map (·.1) → vs.lookup f = none
  | [], _ => rfl
  | (g, x) :: r, h => by
    simp only [List.map_cons, List.mem_cons, not_or] at h
    rw [List.lookup_cons, beq_eq_false_iff_ne.mpr h.1]
    exact no_lookup h.2
/-- what the receiver's class does, by its name -/
def recvM (tab : Str → Option Mf) (name : Str) (d : D) (ds : List D) : M D := fun st => match clsOf d st.S with
  | some (c, ks) => if name ∈ ks then .stk else (match tab c with
    | some mf => callM mf (d :: ds) st
    | none => .stk)
  | none => .stk
/-- a property of some classes -/
def PropOk (X : Cx) (k : Nat) (name : Str) (tab : Str → Option Mf) : Prop := ∀ c mf, tab c = some mf → ∃ q g fd ps j, Cls X.K (He.ga X.K c) ∧ PropOf X.K (He.ga X.K c) name q g ∧ FnG X.prog X.w X.K X.mg X.base j g fd ps (spM X.K 1 mf) ∧ j + 1 ≤ k ∧ Binds X.K fd ps []
/-- no exception comes out -/
def quiet (m : M D) : M D := fun st => match m st with
  | .ok d st => .ok d st
  | _ => .stk
theorem quiet_ok {C : D → Sta → Hp → Hp → Fps → Prop} {m : M D} (h : After K Z W σ F A (quiet m st) C) : After K Z (fun _ _ _ _ => False) σ F A (m st) C := by
  unfold quiet at h
  cases q : m st with
  | ok d st1 => rw [q] at h; exact h
  | err _ _ => rw [q] at h; exact h.elim
  | stk => rw [q] at h; exact h.elim
theorem prop_run {C q g : Addr} {dx : Addr} {av : Addr} {fs : List (Str × V)} {name : Str} {bx : Bool} {pins : List (Addr × Obj)} {s : Shared} {Q : VK} (I : Inv X pins σ H s) (ea : H av = some (.ins C dx fs)) (cl : Cls X.K C) (hp : PropOf X.K C name q g)
    (G : FnG X.prog X.w X.K X.mg X.base j g fd ps (spM X.K 1 mf)) (jc : JC X k W) (hj : j + 1 ≤ k) (hb : Binds X.K fd ps []) (h : spM X.K 1 mf [.ref av] H Q (fun _ _ _ => False)) : wpAny (model X.prog X.w) X.A (getAttr (.ref av) name bx) (EP X pins σ Q) X.xe s := by
  obtain ⟨mA, ob, _⟩ := ins_get I.hok ea
  obtain ⟨od, at_, _⟩ := ob.look
  obtain ⟨rest, hrec⟩ := hp.rec_
  have I1 := I.tok (s.toks + 1)
  have some_ : (PySem.W.clsIn X.K C).isSome = true := by
    obtain ⟨cd, hc, _⟩ := PySem.W.any_some cl.hd
    rw [hc] <;> rfl
  have plain := PySem.W.plainGet_of (cl.get name)
  have hl : ([Value.ref av] ++ ([] : List Value)).length = ps.length := (G.len _ _ _ _ h)
  refine PySem.W.get_bind I.kIn at_ plain.1 (PySem.W.findObj_data some_ hp.at_ hp.get hp.tak) plain.2 (wpAny_call (PySem.W.prop_get (s := { s with toks := s.toks + 1 }) I.kIn hrec ?_))
  refine codeAny_mono (G.run X.A.in1 X.stack { s with toks := s.toks + 1 } H ⟨[.ref av], []⟩ [.ref av] [.ref av] Q _ (Room.in1 (jc.room.mono hj)) jc.g I1.env0.in1 (hb _ [.ref av] I1.kIn hl) (.cons rfl .nil) h) fun r s' post => ?_
  match r, post with
  | .ok (.ret u), post =>
    obtain ⟨v, H', I3, rv, q3⟩ := I1.after post
    show wpAny _ _ (handedOut u) _ _ _
    rw [PySem.W.handedOut_of (handed_of rv)]
    exact wpAny_pure ⟨v, H', I3, rv, q3⟩
  | .ok .next, post => exact False.elim post
  | .ok .brk, post => exact False.elim post
  | .ok .cont, post => exact False.elim post
  | .error er, post =>
    obtain ⟨_, _, _, _, _, _, _, _, _, _, _, _, z⟩ := post
    exact z.elim
theorem je_prop {name : Str} {tab : Str → Option Mf} (ht : PropOk X k name tab) (jc : JC X k W) (ha : PE X a (tM X.K Z W ma)) (hab : attributeBase a name X.env (eval a X.env) = eval a X.env := by rfl) : PE X (.Attribute a name pos) (tM X.K Z W (ma >>= fun d => quiet (recvM tab "" d []))) := by
  refine ⟨fun pins s σ H Q I ⟨F, A, st, R, h⟩ => attr_of hab (thn (ha.run pins s σ H _ I (one_ R h)) fun u s1 ⟨x, H1, I1, rx, d, F1, A1, st1, R1, m1, r1, z⟩ => ?_)⟩
  have z := quiet_ok z
  unfold recvM at z
  cases ec : clsOf d st1.S with
  | none => simp only [ec] at z; exact z.elim
  | some ck =>
    obtain ⟨c, ks⟩ := ck
    simp only [ec] at z
    by_cases hk : ("" : Str) ∈ ks
    · rw [if_pos hk] at z; exact z.elim
    · rw [if_neg hk] at z
      cases et : tab c with
      | none => simp only [et] at z; exact z.elim
      | some mf =>
        simp only [et] at z
        obtain ⟨q, g, fd, ps, j, cl, hp, G, hj, hb⟩ := ht c mf et
        obtain ⟨av, dx, vs, e1, h1, _⟩ := cls_rep R1 r1 ec
        subst e1
        obtain rfl : u = Value.ref av := rx
        have sp := spM_call (n := 1) R1 (Reps.cons r1 .nil) rfl z
        refine thn (prop_run I1 h1 cl hp G jc hj hb sp) fun w s2 ⟨v, H2, I2, ru, d', st', F', A', R', m', r', c'⟩ => ?_
        exact ⟨v, H2, I2, ru, c' v r'⟩
/-- a method of some classes, n arguments -/
def MethOk (X : Cx) (k : Nat) (name : Str) (n : Nat) (tab : Str → Option Mf) : Prop := ∀ c mf, tab c = some mf → ∃ g fd ps j, Cls X.K (He.ga X.K c) ∧ Meth X.K (He.ga X.K c) name g ∧ FnG X.prog X.w X.K X.mg X.base j g fd ps (spM X.K (n + 1) mf) ∧ j ≤ k ∧ Binds X.K fd ps []
theorem recvM_ok {tab : Str → Option Mf} {name : Str} {d : D} {v : V} {ds : List D} {C : D → Sta → Hp → Hp → Fps → Prop} (h : After K Z W σ F A (recvM tab name d ds st) C) :
    ∃ c ks mf, clsOf d st.S = some (c, ks) ∧ name ∉ ks ∧ tab c = some mf ∧ After K Z W σ F A (callM mf (d :: ds) st) C := by
  unfold recvM at h
  cases ec : clsOf d st.S with
  | none => simp only [ec] at h; exact h.elim
  | some ck =>
    obtain ⟨c, ks⟩ := ck
    simp only [ec] at h
    by_cases hk : name ∈ ks
    · rw [if_pos hk] at h; exact h.elim
    · rw [if_neg hk] at h
      cases et : tab c with
      | none => simp only [et] at h; exact h.elim
      | some mf =>
        simp only [et] at h
        exact ⟨c, ks, mf, rfl, hk, et, h⟩
/-- the receiver's class as it is asked, ahead of the arguments -/
def askM (tab : Str → Option Mf) (name : Str) (d : D) : M Str := fun st => match clsOf d st.S with
  | some (c, ks) => if name ∈ ks then .stk else (match tab c with
    | some _ => .ok c st
    | none => .stk)
  | none => .stk
theorem askM_ok {α : Type} {tab : Str → Option Mf} {name : Str} {d : D} {g : Str → M α} {C : α → Sta → Hp → Hp → Fps → Prop} (h : After K Z W σ F A ((askM tab name d >>= g) st) C) :
    ∃ c ks mf, clsOf d st.S = some (c, ks) ∧ name ∉ ks ∧ tab c = some mf ∧ After K Z W σ F A (g c st) C := by
  rw [bind_eq] at h
  unfold askM at h
  cases ec : clsOf d st.S with
  | none => simp only [ec] at h; exact h.elim
  | some ck =>
    obtain ⟨c, ks⟩ := ck
    simp only [ec] at h
    by_cases hk : name ∈ ks
    · rw [if_pos hk] at h; exact h.elim
    · rw [if_neg hk] at h
      cases et : tab c with
      | none => simp only [et] at h; exact h.elim
      | some mf =>
        simp only [et] at h
        exact ⟨c, ks, mf, rfl, hk, et, h⟩
def tabM (tab : Str → Option Mf) (c : Str) (ds : List D) : M D := match tab c with
  | some mf => callM mf ds
  | none => M.stuck
theorem je_meth {pl : Sem Bool} {name : Str} {tab : Str → Option Mf} (ht : MethOk X k name n tab) (jc : JC X k W) (ho : PE X o (tM X.K Z W mo)) (ha : PAJ X Z W (e :: es) n m)
    (hst : starEach (e :: es) X.env = (false, eval e X.env) :: starEach es X.env := by rfl) (hpl : (backTo pos (starEach es X.env)).any (·.1) = false := by rfl)
    (htr : eval (.Call (.Attribute o name apos) (e :: es) [] pos) X.env = (do
      let ov ← eval o X.env
      standAt apos.atName
      let (f, first) ← holding [ov] (getMethod ov name pl)
      callWith pos f first (backTo pos (starEach (e :: es) X.env)) (backToKw pos (keywordEach [] X.env))) := by rfl) :
    PE X (.Call (.Attribute o name apos) (e :: es) [] pos) (tM X.K Z W (mo >>= fun d => askM tab name d >>= fun c => m >>= fun ds => tabM tab c (d :: ds))) := by
  refine ⟨fun pins s σ H Q I ⟨F, A, st, R, h⟩ => PySem.W.methodCall_KW (pl := pl) (thn (ho.run pins s σ H _ I (one_ R h)) fun u s1 ⟨x, H1, I1, rx, d, F1, A1, st1, R1, m1, r1, z⟩ => ?_) htr⟩
  obtain ⟨c, ks, mf, ec, hk, et, z⟩ := askM_ok z
  obtain ⟨g, fd, ps, j, cl, hm, G, hj, hb⟩ := ht c mf et
  obtain ⟨av, dx, vs, e1, h1, e2⟩ := cls_rep R1 r1 ec
  subst e1
  obtain rfl : u = Value.ref av := rx
  refine getmeth_ok I1 h1 cl hm (no_lookup (by rw [e2]; exact hk)) ?_
  refine PySem.W.callWith_K (first := [.ref av]) (h₀ := X.base) I.ok.mod.kin hm.kp ?_ hst hpl
  have hyp : tL X.K Z W m σ H1 fun us H2 => spM X.K (n + 1) mf (.ref av :: us ++ []) H2 (fun v H' => ∃ d st' F' A', Rel X.K Z F' H' A' σ st' ∧ Rep X.K A' F' v d ∧ ∀ v, Rep X.K A' F' v d → Q v H') (fun cls d H' => W cls d σ H') := by
    refine ⟨F1, A1, st1, R1, z.bind.withEq.imp fun ds st2 F2 H2 A2 R2 m2 ⟨e3, z⟩ us rs => ?_⟩
    unfold tabM at z
    rw [et] at z
    have sp := spM_call (n := n + 1) R2 (Reps.cons (r1.mono m2) rs) (congrArg (· + 1) (rs.length.trans (ha.len _ _ _ e3))) z
    rw [List.append_nil]
    obtain ⟨q1, F3, A3, S3, ds3, w3, r3, post⟩ := sp
    refine ⟨q1, F3, A3, S3, ds3, w3, r3, ?_⟩
    cases q : mf ds3 S3 with
    | ok d S =>
      rw [q] at post
      exact fun v F' H' A' w x rv => let ⟨d', st', F3, A3, R3, m3, r3, c3⟩ := post v F' H' A' w x rv; ⟨d', st', F3, A3, R3, r3, c3⟩
    | err y S =>
      rw [q] at post
      exact post
    | stk =>
      rw [q] at post
      exact post
  refine thn (ha.pa.run pos pins s1 σ H1 _ I1 hyp) fun us s2 ⟨vs2, H2, I2, rv, sp⟩ => ⟨I2.kIn, ?_⟩
  refine thn (runG (us := .ref av :: us) (vs := .ref av :: vs2) (dvs := []) (ds := []) G (jc.room.mono hj) jc.g hb .nil jc.tk I2 (.cons rfl rv) sp) fun w s3 ⟨v, H3, I3, ru, d', st', F', A', R', r', c'⟩ => ?_
  exact ⟨v, H3, I3, ru, c' v r'⟩
theorem je_meth0 {pl : Sem Bool} {name : Str} {tab : Str → Option Mf} (ht : MethOk X k name 0 tab) (jc : JC X k W) (ho : PE X o (tM X.K Z W mo))
    (htr : eval (.Call (.Attribute o name apos) [] [] pos) X.env = (do
      let ov ← eval o X.env
      standAt apos.atName
      let (f, first) ← holding [ov] (getMethod ov name pl)
      callWith pos f first (backTo pos (starEach [] X.env)) (backToKw pos (keywordEach [] X.env))) := by rfl) :
    PE X (.Call (.Attribute o name apos) [] [] pos) (tM X.K Z W (mo >>= fun d => askM tab name d >>= fun c => tabM tab c [d])) := by
  refine ⟨fun pins s σ H Q I ⟨F, A, st, R, h⟩ => PySem.W.methodCall_KW (pl := pl) (thn (ho.run pins s σ H _ I (one_ R h)) fun u s1 ⟨x, H1, I1, rx, d, F1, A1, st1, R1, m1, r1, z⟩ => ?_) htr⟩
  obtain ⟨c, ks, mf, ec, hk, et, z⟩ := askM_ok z
  obtain ⟨g, fd, ps, j, cl, hm, G, hj, hb⟩ := ht c mf et
  obtain ⟨av, dx, vs, e1, h1, e2⟩ := cls_rep R1 r1 ec
  subst e1
  obtain rfl : u = Value.ref av := rx
  refine getmeth_ok I1 h1 cl hm (no_lookup (by rw [e2]; exact hk)) ?_
  refine PySem.W.callWith_K0 (first := [.ref av]) I1.kIn hm.kp ?_
  unfold tabM at z
  rw [et] at z
  have sp := spM_call (n := 1) R1 (Reps.cons r1 .nil) rfl z
  refine thn (runG (us := [.ref av]) (vs := [.ref av]) (dvs := []) (ds := []) G (jc.room.mono hj) jc.g hb .nil jc.tk I1 (.cons rfl .nil) sp) fun w s3 ⟨v, H3, I3, ru, d', st', F', A', R', m', r', c'⟩ => ?_
  exact ⟨v, H3, I3, ru, c' v r'⟩
end
end J
end
section
namespace J
open PySem PySem.Spec PyProof.Rows L2
section
variable {X : Cx} {K : PySem.W.Frag} {Z : Ent} {W : WX} {F H : Hp} {A : Fps} {σ : L2.St} {st : Sta} {pos p : Pos} {a b c e o : Expr} {es : List Expr} {ma mb mc : M D} {x : Str} {n : Nat} {mA mB : M Bool} {m m' : M Fl} {E : Ends}
def seqM (m n : M Fl) : M Fl := m >>= fun f => match f with
  | .next => n
  | f => pure f
theorem AfterS.seq {n : M Fl} (h : AfterS K Z W E F A (seqM m n st)) : AfterS K Z W { E with nx := fun σ H => tS K Z W n E σ H } F A (m st) := by
  unfold seqM at h
  rw [bind_eq] at h
  cases q : m st with
  | stk => rw [q] at h; exact h
  | err x st1 => rw [q] at h; exact h
  | ok f st1 =>
    rw [q] at h
    cases f with
    | next => exact fun σ F' H' A' R mo => ⟨F', A', st1, R, AfterS.mono mo h⟩
    | brk => exact h
    | cont => exact h
    | ret d => exact h
theorem js_nil : PSs X [] (tS X.K Z W (pure .next)) := PSs.wk pss_nil fun E σ H ⟨F, A, st, R, h⟩ => h σ F H A R .refl
theorem js_cons {s : Stmt} {r : List Stmt} (h1 : PS X s (tS X.K Z W m)) (h2 : PSs X r (tS X.K Z W m')) : PSs X (s :: r) (tS X.K Z W (seqM m m')) :=
  PSs.wk (pss_cons h1 h2) fun E σ H ⟨F, A, st, R, h⟩ => ⟨F, A, st, R, h.seq⟩
theorem js_one {s : Stmt} (h1 : PS X s (tS X.K Z W m)) : PSs X [s] (tS X.K Z W m) := pss_one h1
theorem js_pass : PS X (.Pass pos) (tS X.K Z W (pure .next)) := PS.wk ps_pass fun E σ H ⟨F, A, st, R, h⟩ => h σ F H A R .refl
theorem js_break : PS X (.Break pos) (tS X.K Z W (pure .brk)) := PS.wk ps_break fun E σ H ⟨F, A, st, R, h⟩ => h σ F H A R .refl
theorem js_continue : PS X (.Continue pos) (tS X.K Z W (pure .cont)) := PS.wk ps_continue fun E σ H ⟨F, A, st, R, h⟩ => h σ F H A R .refl
theorem js_doc {y : Str} {j : Nat} {pos' : Pos} : PS X (.Expr (.Constant (.str y) j pos) pos') (tS X.K Z W (pure .next)) := PS.wk ps_doc fun E σ H ⟨F, A, st, R, h⟩ => h σ F H A R .refl
/-- code that the proof never comes to -/
theorem js_never {s : Stmt} : PS X s (tS X.K Z W M.stuck) := PS.wk ps_never fun E σ H ⟨F, A, st, R, h⟩ => h
theorem jss_never {s : List Stmt} : PSs X s (tS X.K Z W M.stuck) := PSs.wk pss_never fun E σ H ⟨F, A, st, R, h⟩ => h
theorem one_S {g : D → M Fl} (R : Rel K Z F H A σ st) (h : AfterS K Z W E F A ((ma >>= g) st)) :
    tM K Z W ma σ H fun x H1 => ∃ d F1 A1 st1, Rel K Z F1 H1 A1 σ st1 ∧ Mono F A F1 A1 ∧ Rep K A1 F1 x d ∧ AfterS K Z W E F1 A1 (g d st1) :=
  ⟨F, A, st, R, h.bind.imp fun d st1 F1 H1 A1 R1 m q v r => ⟨d, F1, A1, st1, R1, m, r, q⟩⟩
theorem js_expr (ha : PE X a (tM X.K Z W ma)) (hs : swapsWith a none pos.line X.env = pure false := by rfl) : PS X (.Expr a pos) (tS X.K Z W (ma >>= fun _ => pure .next)) := by
  refine PS.wk (ps_expr ha hs) fun E σ H ⟨F, A, st, R, h⟩ => ?_
  obtain ⟨F', A', st', R', z⟩ := one_S R h
  exact ⟨F', A', st', R', z.imp fun d st1 F1 H1 A1 R1 m1 z v r => (z v r).elim fun d' ⟨F2, A2, st2, R2, m2, r2, q⟩ => q σ F2 _ A2 R2 .refl⟩
theorem js_ret (ha : PE X a (tM X.K Z W ma)) : PS X (.Return (some a) pos) (tS X.K Z W (ma >>= fun d => pure (.ret d))) := by
  refine PS.wk (ps_ret ha) fun E σ H ⟨F, A, st, R, h⟩ => ?_
  refine ⟨F, A, st, R, h.bind.imp fun d st1 F1 H1 A1 R1 m1 z v r => z σ F1 H1 A1 R1 .refl v r⟩
theorem js_retN : PS X (.Return none pos) (tS X.K Z W (pure (.ret .non))) := PS.wk ps_retN fun E σ H ⟨F, A, st, R, h⟩ => h σ F H A R .refl .non .non
theorem tB_S {g : Bool → M Fl} (R : Rel K Z F H A σ st) (h : AfterS K Z W E F A ((mA >>= g) st)) :
    J.tB K Z W mA σ H fun x H1 => ∃ F1 A1 st1, Rel K Z F1 H1 A1 σ st1 ∧ Mono F A F1 A1 ∧ AfterS K Z W E F1 A1 (g x st1) :=
  ⟨F, A, st, R, h.bind.imp fun d st1 F1 H1 A1 R1 m q => ⟨F1, A1, st1, R1, m, q⟩⟩
theorem js_if {ss rr : List Stmt} (hc : PT X c (J.tB X.K Z W mA)) (ha : PSs X ss (tS X.K Z W m)) (hb : PSs X rr (tS X.K Z W m')) : PS X (.If c ss rr pos) (tS X.K Z W (mA >>= fun x => if x = true then m else m')) := by
  refine PS.wk (ps_if hc ha hb) fun E σ H ⟨F, A, st, R, h⟩ => ?_
  obtain ⟨F', A', st', R', q⟩ := tB_S R h
  refine ⟨F', A', st', R', q.imp fun x st1 F1 H1 A1 R1 m z => ?_⟩
  obtain ⟨F2, A2, st2, R2, m2, z⟩ := z
  cases x with
  | true =>
    rw [if_pos rfl] at z ⊢
    exact ⟨F2, A2, st2, R2, z⟩
  | false =>
    rw [if_neg Bool.false_ne_true] at z ⊢
    exact ⟨F2, A2, st2, R2, z⟩
abbrev Tg := Sta → Option Sta
def setV (i : Nat) (d : D) : Tg := fun st => if i < st.r.length then some (st.set i (some (.val d))) else none
def setO (i : Nat) (l : List D) : Tg := fun st => if i < st.r.length then some (st.set i (some (.own l))) else none
def thenN (u : Tg) : M Fl := fun st => match u st with
  | some st' => .ok .next st'
  | none => .stk
theorem thenN_S {u : Tg} (h : AfterS K Z W E F A (thenN u st)) : ∃ st', u st = some st' ∧ AfterS K Z W E F A (.ok .next st') := by
  unfold thenN at h
  cases q : u st with
  | none => rw [q] at h; exact h.elim
  | some st' => rw [q] at h; exact ⟨st', rfl, h⟩
theorem setV_some {i : Nat} {d : D} {st' : Sta} (h : setV i d st = some st') : i < st.r.length ∧ st' = st.set i (some (.val d)) := by
  unfold setV at h
  by_cases hi : i < st.r.length
  · rw [if_pos hi] at h
    exact ⟨hi, (Option.some.inj h).symm⟩
  · rw [if_neg hi] at h
    cases h
theorem setO_some {i : Nat} {d : List D} {st' : Sta} (h : setO i d st = some st') : i < st.r.length ∧ st' = st.set i (some (.own d)) := by
  unfold setO at h
  by_cases hi : i < st.r.length
  · rw [if_pos hi] at h
    exact ⟨hi, (Option.some.inj h).symm⟩
  · rw [if_neg hi] at h
    cases h
theorem js_set {i : Nat} {p' : Pos} (hn : X.N.Nodup) (ha : PE X a (tM X.K Z W ma)) (hi : X.N[i]? = some x := by rfl) (hx : Loc X.env.scope x := by first | exact Or.inl rfl | exact Or.inr rfl)
    (hs : swapsWith a (some (.Name x p')) pos.line X.env = pure false := by rfl) (hf : X.fn x = true ∨ X.env.scope.names.lookup x = some .local := by first | exact .inl rfl | exact .inr rfl) :
    PS X (.Assign [.Name x p'] a pos) (tS X.K Z W (ma >>= fun d => thenN (setV i d))) := by
  refine PS.wk (ps_set hn hi hx ha hs hf) fun E σ H ⟨F, A, st, R, h⟩ => ?_
  obtain ⟨F', A', st', R', z⟩ := one_S R h
  refine ⟨F', A', st', R', z.imp fun d st1 F1 H1 A1 R1 m1 z v r => ?_⟩
  obtain ⟨d', F2, A2, st2, R2, m2, r2, q⟩ := z v r
  obtain ⟨st3, e3, q⟩ := thenN_S q
  obtain ⟨hi, rfl⟩ := setV_some e3
  exact q _ F2 H1 A2 (R2.setVal (by rw [← R2.len]; exact hi) r2) .refl
theorem js_own {i : Nat} {p' : Pos} {ml : M (List D)} (hn : X.N.Nodup) (ha : PE X a (tN X.K Z W ml)) (hi : X.N[i]? = some x := by rfl) (hx : Loc X.env.scope x := by first | exact Or.inl rfl | exact Or.inr rfl)
    (hs : swapsWith a (some (.Name x p')) pos.line X.env = pure false := by rfl) (hf : X.fn x = true ∨ X.env.scope.names.lookup x = some .local := by first | exact .inl rfl | exact .inr rfl) :
    PS X (.Assign [.Name x p'] a pos) (tS X.K Z W (ml >>= fun l => thenN (setO i l))) := by
  refine PS.wk (ps_set hn hi hx ha hs hf) fun E σ H ⟨F, A, st, R, h⟩ => ?_
  refine ⟨F, A, st, R, h.bind.imp fun l st1 F1 H1 A1 R1 m1 z p vs lo => ?_⟩
  obtain ⟨st3, e3, q⟩ := thenN_S z
  obtain ⟨hi, rfl⟩ := setO_some e3
  exact q _ F1 H1 A1 (R1.setOwn (by rw [← R1.len]; exact hi) lo) .refl
/-- vs: the names that it may set -/
def tG (K : PySem.W.Frag) (Z : Ent) (vs : List Nat) (g : D → Tg) : TG := fun v σ H Q => ∃ F A st d st', Rel K Z F H A σ st ∧ Rep K A F v d ∧ g d st = some st' ∧ ∀ σ' F' H' A', Rel K Z F' H' A' σ' st' → Mono F A F' A' → L2.wipe σ' vs = L2.wipe σ vs → Q σ' H'
def tGs (K : PySem.W.Frag) (Z : Ent) (ws : List Nat) (g : List D → Tg) : TGs := fun vs σ H Q => ∃ F A st ds st', Rel K Z F H A σ st ∧ Reps K A F vs ds ∧ g ds st = some st' ∧ ∀ σ' F' H' A', Rel K Z F' H' A' σ' st' → Mono F A F' A' → L2.wipe σ' ws = L2.wipe σ ws → Q σ' H'
theorem PG.wk {t t' : TG} (h : PG X e t) (f : ∀ v σ H Q, t' v σ H Q → t v σ H Q) : PG X e t' := ⟨fun pins s σ H v u Q I r q => h.run pins s σ H v u Q I r (f v σ H Q q)⟩
theorem PGs.wk {t t' : TGs} (h : PGs X es t) (f : ∀ v σ H Q, t' v σ H Q → t v σ H Q) : PGs X es t' := ⟨fun pins s σ H v u Q I r q => h.run pins s σ H v u Q I r (f v σ H Q q)⟩
theorem wipe_get {σ : L2.St} {ws : List Nat} {j : Nat} (h : j ∈ ws) (hl : j < σ.length) : (L2.wipe σ ws)[j]? = some none := by
  induction ws with
  | nil => cases h
  | cons w ws ih =>
    unfold L2.wipe
    by_cases e : w = j
    · subst e
      rw [List.getElem?_set_self (by rw [L2.wipe_length]; exact hl)]
    · rw [List.getElem?_set_ne e]
      exact ih ((List.mem_cons.mp h).resolve_left (Ne.symm e))
theorem wipe_set {σ : L2.St} {ws : List Nat} {i : Nat} {v : Option V} (h : i ∈ ws) : L2.wipe (σ.set i v) ws = L2.wipe σ ws := by
  refine List.ext_getElem? fun j => ?_
  by_cases hl : j < σ.length
  · by_cases hj : j ∈ ws
    · rw [wipe_get hj hl, wipe_get hj (by simpa using hl)]
    · rw [L2.wipe_out hj, L2.wipe_out hj, List.getElem?_set_ne fun e => hj (by rw [← e]; exact h)]
  · rw [List.getElem?_eq_none (by rw [L2.wipe_length]; simpa using hl), List.getElem?_eq_none (by rw [L2.wipe_length]; simpa using hl)]
theorem jg_name {ws : List Nat} {i : Nat} (hn : X.N.Nodup) (hi : X.N[i]? = some x := by rfl) (hw : i ∈ ws := by decide) (hx : Loc X.env.scope x := by first | exact Or.inl rfl | exact Or.inr rfl)
    (hf : X.fn x = true ∨ X.env.scope.names.lookup x = some .local := by first | exact .inl rfl | exact .inr rfl) : PG X (.Name x pos) (tG X.K Z ws (setV i)) := by
  refine PG.wk (pg_name hn hi hx hf) fun v σ H Q ⟨F, A, st, d, st', R, r, e, h⟩ => ?_
  obtain ⟨hi, rfl⟩ := setV_some e
  exact h _ F H A (R.setVal (by rw [← R.len]; exact hi) r) .refl (wipe_set hw)
def gNilM (l : List D) : Tg := match l with
  | [] => some
  | _ => fun _ => none
def gConsM (g : D → Tg) (r : List D → Tg) (l : List D) : Tg := match l with
  | d :: ds => fun st => (g d st).bind (r ds)
  | [] => fun _ => none
theorem jgs_nil {ws : List Nat} : PGs X [] (tGs X.K Z ws gNilM) := PGs.wk pgs_nil fun vs σ H Q ⟨F, A, st, ds, st', R, r, e, h⟩ => by
  cases r with
  | nil =>
    cases e
    exact ⟨rfl, h σ F H A R .refl rfl⟩
  | cons _ _ => cases e
theorem jgs_cons {ws : List Nat} {g : D → Tg} {r : List D → Tg} (h1 : PG X a (tG X.K Z ws g)) (h2 : PGs X es (tGs X.K Z ws r))
    (hs : (assignEach (a :: es) X.env).map (·.2) = assign a X.env :: (assignEach es X.env).map (·.2) := by rfl) : PGs X (a :: es) (tGs X.K Z ws (gConsM g r)) := PGs.wk (pgs_cons h1 h2 hs) fun vs σ H Q ⟨F, A, st, ds, st', R, rr, e, h⟩ => by
  cases rr with
  | nil => cases e
  | cons rv rest =>
    obtain ⟨st1, e1, e2⟩ := Option.bind_eq_some_iff.mp e
    exact ⟨_, _, rfl, F, A, st, _, st1, R, rv, e1, fun σ1 F1 H1 A1 R1 m1 w1 => ⟨F1, A1, st1, _, st', R1, rest.mono m1, e2, fun σ2 F2 H2 A2 R2 m2 w2 => h σ2 F2 H2 A2 R2 (m1.trans m2) (w2.trans w1)⟩⟩
def gTupM (n : Nat) (g : List D → Tg) (d : D) : Tg := match d with
  | .tup l => if l.length = n then g l else fun _ => none
  | _ => fun _ => none
theorem jg_tup {ws : List Nat} {k : Nat} {g : List D → Tg} (hc : X.calm = true) (h : PGs X es (tGs X.K Z ws g))
    (hn : (assignEach es X.env).length = n := by rfl) (hst : (assignEach es X.env).findIdx? (·.1) = none := by rfl) : PG X (.Tuple es k pos) (tG X.K Z ws (gTupM n g)) := PG.wk (pg_tup hc h hn hst) fun v σ H Q ⟨F, A, st, d, st', R, r, e, h⟩ => by
  cases d with
  | tup l =>
    cases r with
    | tup hq rs =>
      have e : (if l.length = n then g l else fun _ => none) st = some st' := e
      by_cases hl : l.length = n
      · rw [if_pos hl] at e
        exact ⟨_, _, rfl, sqT_le R.le hq, rs.length.trans hl, F, A, st, l, st', R, rs, e, h⟩
      · rw [if_neg hl] at e
        cases e
  | _ => cases e
theorem js_asg {ws : List Nat} {tg : Expr} {g : D → Tg} (ha : PE X a (tM X.K Z W ma)) (hg : PG X tg (tG X.K Z ws g)) (hs : swapsWithSole [tg] a pos.line X.env = pure false := by rfl) (hw : swappedStores [tg] a X.env = pure none := by rfl)
    (h1 : (assignEach [tg] X.env).map (·.2) = [assign tg X.env] := by rfl) : PS X (.Assign [tg] a pos) (tS X.K Z W (ma >>= fun d => thenN (g d))) := by
  refine PS.wk (ps_asg ha hg hs hw h1) fun E σ H ⟨F, A, st, R, h⟩ => ?_
  obtain ⟨F', A', st', R', z⟩ := one_S R h
  refine ⟨F', A', st', R', z.imp fun d st1 F1 H1 A1 R1 m1 z v r => ?_⟩
  obtain ⟨d', F2, A2, st2, R2, m2, r2, q⟩ := z v r
  obtain ⟨st3, e3, q⟩ := thenN_S q
  exact ⟨F2, A2, st2, d', st3, R2, r2, e3, fun σ' F' H' A' R' m' _ => q σ' F' H' A' R' m'⟩
/-- a, b = x, y with two plain local names -/
def parM (i j : Nat) (l : List D) : Tg := match l with
  | [a, b] => fun st => (setV i a st).bind (setV j b)
  | _ => fun _ => none
theorem js_par {i j : Nat} {x y : Str} {px py pt pt2 : Pos} {kt k2 n : Nat} {m : M (List D)} (hc : X.calm = true) (hn : X.N.Nodup) (ha : PAJ X Z W [a, b] n m) (hi : X.N[i]? = some x := by rfl) (hj : X.N[j]? = some y := by rfl) (hij : i ≠ j := by decide)
    (hx : X.env.scope.names.lookup x = some .local := by rfl) (hy : X.env.scope.names.lookup y = some .local := by rfl)
    (hw : swappedStores [.Tuple [.Name x px, .Name y py] kt pt] (.Tuple [a, b] k2 pt2) X.env = pure (some [x, y]) := by rfl)
    (hs : swapsWithSole [.Tuple [.Name x px, .Name y py] kt pt] (.Tuple [a, b] k2 pt2) pos.line X.env = pure false := by rfl) :
    PS X (.Assign [.Tuple [.Name x px, .Name y py] kt pt] (.Tuple [a, b] k2 pt2) pos) (tS X.K Z W (m >>= fun l => thenN (parM i j l))) := by
  refine PS.wk (ps_par hc hn hi hj hij hx hy ha.pa hw hs) fun E σ H ⟨F, A, st, R, h⟩ => ?_
  refine ⟨F, A, st, R, h.bind.imp fun l st1 F1 H1 A1 R1 m1 z vs rs => ?_⟩
  obtain ⟨st3, e3, q⟩ := thenN_S z
  unfold parM at e3
  cases rs with
  | nil => cases e3
  | cons r1 rr =>
    cases rr with
    | nil => cases e3
    | cons r2 rr =>
      cases rr with
      | cons _ _ => cases e3
      | nil =>
        obtain ⟨st2, e1, e2⟩ := Option.bind_eq_some_iff.mp e3
        obtain ⟨h1, rfl⟩ := setV_some e1
        obtain ⟨h2, rfl⟩ := setV_some e2
        refine ⟨_, _, rfl, ?_⟩
        have R2 := R1.setVal (by rw [← R1.len]; exact h1) r1
        exact q _ F1 H1 A1 (R2.setVal (by rw [← R2.len]; exact h2) r2) .refl
/-- with a bound on the turns -/
def whileM (c : M Bool) (m : M Fl) : Nat → M Fl
  | 0 => M.stuck
  | n + 1 => c >>= fun x => if x = true then m >>= fun f => (match f with
      | .next => whileM c m n
      | .cont => whileM c m n
      | .brk => pure .next
      | .ret d => pure (.ret d)) else pure .next
/-- a rest, run behind what grew -/
def Later (K : PySem.W.Frag) (Z : Ent) (W : WX) (F : Hp) (A : Fps) (m : M Fl) (E : Ends) (σ : L2.St) (H : Hp) : Prop := ∃ F' A' st', Rel K Z F' H A' σ st' ∧ Mono F A F' A' ∧ AfterS K Z W E F' A' (m st')
/-- behind a turn's body -/
theorem loop_end {m m' : M Fl} {F0 : Hp} {A0 : Fps} (m0 : Mono F0 A0 F A) (h : AfterS K Z W E F A ((m >>= fun f => (match f with
      | .next => m'
      | .cont => m'
      | .brk => pure .next
      | .ret d => pure (.ret d))) st)) : AfterS K Z W { E with nx := Later K Z W F0 A0 m' E, ct := Later K Z W F0 A0 m' E, bk := E.nx } F A (m st) := by
  rw [bind_eq] at h
  cases q : m st with
  | stk => rw [q] at h; exact h
  | err x st1 => rw [q] at h; exact h
  | ok f st1 =>
    rw [q] at h
    cases f with
    | next => exact fun σ F' H' A' R mo => ⟨F', A', st1, R, m0.trans mo, AfterS.mono mo h⟩
    | cont => exact fun σ F' H' A' R mo => ⟨F', A', st1, R, m0.trans mo, AfterS.mono mo h⟩
    | brk => exact fun σ F' H' A' R mo => h σ F' H' A' R mo
    | ret d => exact h
theorem js_while {ss : List Stmt} (n : Nat) (po : PassesOwn (model X.prog X.w) X.A X.env X.xe) (hc : PT X c (J.tB X.K Z W mA)) (hb : PSs X ss (tS X.K Z W m)) : PS X (.While c ss [] pos) (tS X.K Z W (whileM mA m n)) := by
  refine PS.wk (ps_while po hc hb) fun E σ H hh => ?_
  refine ⟨fun k σ H => tS X.K Z W (whileM mA m k) E σ H, ⟨n, hh⟩, fun k σ H ⟨F, A, st, R, h⟩ => ?_⟩
  cases k with
  | zero => exact h.elim
  | succ k =>
    obtain ⟨F', A', st', R', q⟩ := tB_S R h
    refine ⟨F', A', st', R', q.imp fun x st1 F1 H1 A1 R1 m1 z => ?_⟩
    obtain ⟨F2, A2, st2, R2, m2, z⟩ := z
    cases x with
    | true =>
      rw [if_pos rfl] at z ⊢
      exact ⟨Later X.K Z W F2 A2 (whileM mA m k) E, fun σ' H' ⟨F3, A3, st3, R3, _, h'⟩ => ⟨k, Nat.lt_succ_self k, F3, A3, st3, R3, h'⟩, F2, A2, st2, R2, loop_end .refl z⟩
    | false =>
      rw [if_neg Bool.false_ne_true] at z ⊢
      exact z σ F2 _ A2 R2 .refl
/-- what an iterator yields, seen as plain data -/
structure Yld (K : PySem.W.Frag) (J : It) (ds : List D) (F : Hp) (A : Fps) : Prop where
  go : ∀ (Z : Ent) i d σ st F1 H1 A1, ds[i]? = some d → Rel K Z F1 H1 A1 σ st → Mono F A F1 A1 → J.go i H1 ∧ ∀ x H', J.yld i H1 x H' → ∃ F', Rel K Z F' H' A1 σ st ∧ Mono F1 A1 F' A1 ∧ Rep K A1 F' x d
  stop : ∀ (Z : Ent) σ st F1 H1 A1, Rel K Z F1 H1 A1 σ st → Mono F A F1 A1 → J.stop ds.length H1
theorem Yld.mono {J : It} {ds : List D} {F1 : Hp} {A1 : Fps} (y : Yld K J ds F A) (m : Mono F A F1 A1) : Yld K J ds F1 A1 :=
  ⟨fun Z i d σ st F2 H2 A2 e R m2 => y.go Z i d σ st F2 H2 A2 e R (m.trans m2), fun Z σ st F2 H2 A2 R m2 => y.stop Z σ st F2 H2 A2 R (m.trans m2)⟩
def tI (K : PySem.W.Frag) (Z : Ent) (W : WX) (m : M (List D)) : TI := fun σ H R => ∃ F A st, Rel K Z F H A σ st ∧ After K Z W σ F A (m st) fun ds st' F' H' A' => ∀ J, Yld K J ds F' A' → R J H'
theorem PI.wk {tg iter : Expr} {t t' : TI} (h : PI X tg iter t) (f : ∀ σ H R, t' σ H R → t σ H R) : PI X tg iter t' := ⟨fun pins s σ H R I q => h.run pins s σ H R I (f σ H R q)⟩
def forM (g : D → Tg) (m : M Fl) : List D → M Fl
  | [] => pure .next
  | d :: ds => fun st => match g d st with
    | none => .stk
    | some st1 => (m >>= fun f => (match f with
      | .next => forM g m ds
      | .cont => forM g m ds
      | .brk => pure .next
      | .ret d => pure (.ret d))) st1
theorem js_for {ws : List Nat} {tg iter : Expr} {ss : List Stmt} {g : D → Tg} {mi : M (List D)} (po : PassesOwn (model X.prog X.w) X.A X.env X.xe) (hc : X.calm = true) (hi : PI X tg iter (tI X.K Z W mi)) (hg : PG X tg (tG X.K Z ws g)) (hb : PSs X ss (tS X.K Z W m))
    (hs : ∀ x, foldedSetIterable iter X.env x = pure x := by intro _; rfl) : PS X (.For tg iter ss [] pos) (tS X.K Z W (mi >>= fun ds => forM g m ds)) := by
  refine PS.wk (ps_for po hc hi hg hb hs) fun E σ H ⟨F, A, st, R, h⟩ => ?_
  refine ⟨F, A, st, R, h.bind.imp fun ds st1 F1 H1 A1 R1 m1 z J y => ?_⟩
  refine ⟨fun i k σ H => k = ds.length - i ∧ i ≤ ds.length ∧ Later X.K Z W F1 A1 (forM g m (ds.drop i)) E σ H, ⟨ds.length, by omega, Nat.zero_le _, F1, A1, st1, R1, .refl, z⟩, ?_⟩
  rintro i k σ2 H2 ⟨rfl, hi, F2, A2, st2, R2, m2, z⟩
  by_cases hlt : i < ds.length
  · have ed : ds[i]? = some ds[i] := List.getElem?_eq_getElem hlt
    have edr : ds.drop i = ds[i] :: ds.drop (i + 1) := List.drop_eq_getElem_cons hlt
    rw [edr] at z
    unfold forM at z
    cases q : g ds[i] st2 with
    | none => rw [q] at z; exact z.elim
    | some st3 =>
      rw [q] at z
      obtain ⟨hgo, hy⟩ := y.go Z i _ σ2 st2 F2 H2 A2 ed R2 m2
      refine .inr ⟨hgo, Later X.K Z W F1 A1 (forM g m (ds.drop (i + 1))) E, fun σ' H' h' => ⟨ds.length - (i + 1), by omega, rfl, hlt, h'⟩, fun x H' hx => ?_⟩
      obtain ⟨F3, R3, m3, r3⟩ := hy x H' hx
      exact ⟨F3, A2, st2, _, st3, R3, r3, q, fun σ4 F4 H4 A4 R4 m4 _ => ⟨F4, A4, st3, R4, loop_end (m2.trans (m3.trans m4)) (AfterS.mono (m3.trans m4) z)⟩⟩
  · have e : i = ds.length := by omega
    subst e
    rw [List.drop_length] at z
    exact .inl ⟨y.stop Z σ2 st2 F2 H2 A2 R2 m2, z σ2 F2 H2 A2 R2 .refl⟩
end
end J
end
section
namespace J
open PySem PySem.Spec PyProof.Rows L2
section
variable {X : Cx} {K : PySem.W.Frag} {Z : Ent} {W : WX} {F H : Hp} {A : Fps} {σ : L2.St} {st : Sta} {pos p : Pos} {a b c e o tg : Expr} {es : List Expr} {ma mb mc : M D} {x : Str} {n : Nat} {m : M (List D)}

def chars (z : Str) : List D := z.cps.toList.map fun c => D.str ⟨#[c]⟩
def dItems : D → Option (List D)
  | .tup l => some l
  | .lst l => some l
  | .rls l => some l
  | .str z => some (chars z)
  | _ => none
theorem yld_list {q : Addr} {vs : List V} {ds : List D} (hq : ∀ F' A', Mono F A F' A' → SqL K F' q vs) (r : Reps K A F vs ds) : Yld K (Itl K q) ds F A := by
  refine ⟨fun Z i d σ st F1 H1 A1 ed R m1 => ?_, fun Z σ st F1 H1 A1 R m1 => ⟨vs, sqL_le R.le (hq F1 A1 m1), Nat.le_of_eq r.length⟩⟩
  obtain ⟨v, ev, rv⟩ := r.get ed
  refine ⟨⟨vs, v, sqL_le R.le (hq F1 A1 m1), ev⟩, fun y H' hy => ?_⟩
  obtain ⟨e1, e2⟩ := hy
  subst e1
  have e3 := e2 vs (sqL_le R.le (hq F1 A1 m1))
  rw [ev] at e3
  cases e3
  exact ⟨F1, R, .refl, rv.mono m1⟩
theorem yld_tup {q : Addr} {vs : List V} {ds : List D} (hq : SqT K F q vs) (r : Reps K A F vs ds) : Yld K (Itt K q) ds F A := by
  refine ⟨fun Z i d σ st F1 H1 A1 ed R m1 => ?_, fun Z σ st F1 H1 A1 R m1 => ⟨vs, sqT_le R.le (m1.sqT hq), Nat.le_of_eq r.length⟩⟩
  obtain ⟨v, ev, rv⟩ := r.get ed
  refine ⟨⟨vs, v, sqT_le R.le (m1.sqT hq), ev⟩, fun y H' hy => ?_⟩
  obtain ⟨e1, e2⟩ := hy
  subst e1
  have e3 := e2 vs (sqT_le R.le (m1.sqT hq))
  rw [ev] at e3
  cases e3
  exact ⟨F1, R, .refl, rv.mono m1⟩
theorem yld_str {z : Str} (hz : PyData.strOk z = true) : Yld K (Its z) (chars z) F A := by
  have hl : (chars z).length = z.cps.size := by simp [chars]
  refine ⟨fun Z i d σ st F1 H1 A1 ed R m1 => ?_, fun Z σ st F1 H1 A1 R m1 => by show z.cps.size ≤ _; rw [hl]; exact Nat.le_refl _⟩
  have hi : i < z.cps.size := by rw [← hl]; exact (List.getElem?_eq_some_iff.mp ed).1
  refine ⟨hi, fun y H' hy => ?_⟩
  obtain ⟨e1, c, ec, ey⟩ := hy
  subst e1
  subst ey
  have ed2 : d = .str ⟨#[c]⟩ := by
    unfold chars at ed
    rw [List.getElem?_map, Array.getElem?_toList, ec] at ed
    exact (Option.some.inj ed).symm
  subst ed2
  refine ⟨F1, R, .refl, .str (strOk_mk (l := [c]) fun y hy => ?_)⟩
  rw [List.mem_singleton.mp hy]
  exact strOk_iff.mp hz c (by unfold TL.tl; exact List.mem_of_getElem? (by rw [Array.getElem?_toList]; exact ec))
/-- what a value's loop walks -/
theorem ji_val (ha : PE X a (tM X.K Z W ma)) : PI X tg a (tI X.K Z W (ma >>= fun d => M.of (dItems d))) := by
  refine ⟨fun pins s σ H RR I ⟨F, A, st, R, h⟩ => ?_⟩
  refine thn (ha.run pins s σ H _ I (one_ R h)) fun u s1 ⟨y, H1, I1, ry, d, F1, A1, st1, R1, m1, r1, z⟩ => ?_
  obtain ⟨l, el, z⟩ := of_after z
  have zf := z F1 H1 A1 R1 .refl
  cases d with
  | tup l' =>
    cases el
    cases r1 with
    | tup hq rs =>
      cases ry
      obtain ⟨its, rv, pl, hz⟩ := I1.tuple (sqT_le R1.le hq)
      exact wpAny_pyIter_tuple (show s1.heap.IsTuple _ its.toArray from pl) (pi_one (tk := s1.toks) I1 _ (turn_tuple _ _) ⟨_, Heap.get?_push_size _ rfl, rfl, rfl⟩ (zf _ (yld_tup hq rs)))
  | lst l' =>
    cases el
    cases r1 with
    | lst hq rs =>
      cases ry
      obtain ⟨its, rv, pl, hz⟩ := I1.list (.inl (.inl (R1.le _ _ hq)))
      exact wpAny_pyIter_list pl.isList (pi_one (tk := s1.toks) I1 _ (turn_list _ _) ⟨_, Heap.get?_push_size _ rfl, rfl, rfl⟩ (zf _ (yld_list (fun F' A' m => .inl (.inl (m.f _ _ hq))) rs)))
  | rls l' =>
    cases el
    cases r1 with
    | rls hq rs =>
      cases ry
      obtain ⟨its, rv, pl, hz⟩ := I1.list (sqL_le R1.le hq)
      exact wpAny_pyIter_list pl.isList (pi_one (tk := s1.toks) I1 _ (turn_list _ _) ⟨_, Heap.get?_push_size _ rfl, rfl, rfl⟩ (zf _ (yld_list (fun F' A' m => m.sqL hq) rs)))
  | str q =>
    cases el
    cases r1 with
    | str hok =>
      obtain ⟨t, rfl⟩ := ry
      cases ha : q.cps.all (· < 128)
      · exact wpAny_pyIter_wide ha (pi_one (tk := s1.toks) I1 _ (turn_str _ q t "str_iterator" (.inr rfl)) ⟨_, Heap.get?_push_size _ rfl, rfl, rfl⟩ (zf _ (yld_str hok)))
      · exact wpAny_pyIter_ascii ha (pi_one (tk := s1.toks) I1 _ (turn_str _ q t "str_ascii_iterator" (.inl rfl)) ⟨_, Heap.get?_push_size _ rfl, rfl, rfl⟩ (zf _ (yld_str hok)))
  | _ => cases el
def dints (lo : Int) (n : Nat) : List D := (List.range n).map fun (i : Nat) => D.int (lo + (i : Int))
theorem dints_get {lo : Int} {n i : Nat} {d : D} (h : (dints lo n)[i]? = some d) : i < n ∧ d = .int (lo + (i : Int)) := by
  unfold dints at h
  rw [List.getElem?_map] at h
  by_cases hi : i < n
  · rw [List.getElem?_range hi] at h
    exact ⟨hi, (Option.some.inj h).symm⟩
  · rw [List.getElem?_eq_none (by simpa using hi)] at h
    cases h
theorem yld_range {lo : Int} {n : Nat} : Yld K (Itr lo n) (dints lo n) F A := by
  refine ⟨fun Z i d σ st F1 H1 A1 ed R m1 => ?_, fun Z σ st F1 H1 A1 R m1 => by show n ≤ _; simp [dints]⟩
  obtain ⟨hi, rfl⟩ := dints_get ed
  refine ⟨hi, fun y H' hy => ?_⟩
  obtain ⟨e1, e2⟩ := hy
  subst e1
  subst e2
  exact ⟨F1, R, .refl, .int _⟩
def dRange1 : List D → Option (List D)
  | [.int j] => if -(2 ^ 62) ≤ j ∧ j < 2 ^ 62 then some (dints 0 j.toNat) else none
  | _ => none
def dRange2 : List D → Option (List D)
  | [.int i, .int j] => if -(2 ^ 62) ≤ i ∧ i < 2 ^ 62 ∧ -(2 ^ 62) ≤ j ∧ j < 2 ^ 62 then some (dints i (j - i).toNat) else none
  | _ => none
theorem dRange1_some {l r : List D} (h : dRange1 l = some r) : ∃ j : Int, l = [.int j] ∧ (-(2 ^ 62) ≤ j ∧ j < 2 ^ 62) ∧ r = dints 0 j.toNat := by
  unfold dRange1 at h
  split at h
  · rename_i j
    by_cases hj : -(2 ^ 62) ≤ j ∧ j < 2 ^ 62
    · rw [if_pos hj] at h
      exact ⟨j, rfl, hj, (Option.some.inj h).symm⟩
    · rw [if_neg hj] at h
      cases h
  · cases h
theorem dRange2_some {l r : List D} (h : dRange2 l = some r) : ∃ i j : Int, l = [.int i, .int j] ∧ (-(2 ^ 62) ≤ i ∧ i < 2 ^ 62 ∧ -(2 ^ 62) ≤ j ∧ j < 2 ^ 62) ∧ r = dints i (j - i).toNat := by
  unfold dRange2 at h
  split at h
  · rename_i i j
    by_cases hj : -(2 ^ 62) ≤ i ∧ i < 2 ^ 62 ∧ -(2 ^ 62) ≤ j ∧ j < 2 ^ 62
    · rw [if_pos hj] at h
      exact ⟨i, j, rfl, hj, (Option.some.inj h).symm⟩
    · rw [if_neg hj] at h
      cases h
  · cases h
theorem ji_range1 {k : Nat} (hg : Gl X "range") (hm : X.mg "range" = none) (ha : PAJ X Z W [a] k m) (hs : starEach [a] X.env = [(false, eval a X.env)] := by rfl) : PI X tg (.Call (.Name "range" p) [a] [] pos) (tI X.K Z W (m >>= fun l => M.of (dRange1 l))) := by
  refine PI.wk (pi_range1 hg hm ha.pa hs) fun σ H RR ⟨F, A, st, R, h⟩ => ?_
  refine ⟨F, A, st, R, h.bind.imp fun ds st1 F1 H1 A1 R1 m1 z vs rs => ?_⟩
  obtain ⟨l, el, z⟩ := of_after z
  have zf := z F1 H1 A1 R1 .refl
  obtain ⟨j, rfl, hj, rfl⟩ := dRange1_some el
  cases rs with
  | cons r1 rr =>
    cases rr
    cases r1
    exact ⟨j, rfl, hj.1, hj.2, zf _ yld_range⟩
theorem ji_range2 {k : Nat} (hg : Gl X "range") (hm : X.mg "range" = none) (ha : PAJ X Z W [a, b] k m) (hs : starEach [a, b] X.env = [(false, eval a X.env), (false, eval b X.env)] := by rfl) (hs2 : starEach [b] X.env = [(false, eval b X.env)] := by rfl) :
    PI X tg (.Call (.Name "range" p) [a, b] [] pos) (tI X.K Z W (m >>= fun l => M.of (dRange2 l))) := by
  refine PI.wk (pi_range2 hg hm ha.pa hs hs2) fun σ H RR ⟨F, A, st, R, h⟩ => ?_
  refine ⟨F, A, st, R, h.bind.imp fun ds st1 F1 H1 A1 R1 m1 z vs rs => ?_⟩
  obtain ⟨l, el, z⟩ := of_after z
  have zf := z F1 H1 A1 R1 .refl
  obtain ⟨i, j, rfl, hj, rfl⟩ := dRange2_some el
  cases rs with
  | cons r1 rr =>
    cases rr with
    | cons r2 rr =>
      cases rr
      cases r1
      cases r2
      exact ⟨i, j, rfl, hj, zf _ yld_range⟩
/-- a list (b false) or a tuple (b true) at q -/
def SqB (K : PySem.W.Frag) (H : Hp) (b : Bool) (q : Addr) (xs : List V) : Prop := if b = true then SqT K H q xs else SqL K H q xs
def Ieb (K : PySem.W.Frag) (b : Bool) (q : Addr) (k : Int) : It :=
  ⟨fun i H => ∃ (xs : List V) (x : V), SqB K H b q xs ∧ xs[i]? = some x, fun i H v H' => ∃ T x, v = .ref T ∧ H T = none ∧ H' = upd H T (.tup [.int (k + (i : Int)), x]) ∧ ∀ xs, SqB K H b q xs → xs[i]? = some x, fun i H => ∃ xs : List V, SqB K H b q xs ∧ xs.length = i⟩
def ItB (h : Heap) (b : Bool) (it q : Addr) (i : Nat) : Prop := if b = true then h.IsTupleIter it q i else h.IsListIter it q i
def AtB (h : Heap) (b : Bool) (q : Addr) (its : Array Value) : Prop := if b = true then h.IsTuple q its else h.IsList q its
theorem Inv.atB {pins : List (Addr × Obj)} {s : Shared} {bb : Bool} {q : Addr} {xs : List V} (I : Inv X pins σ H s) (h : SqB X.K H bb q xs) : ∃ its : List Value, Vals xs its ∧ AtB s.heap bb q its.toArray := by
  cases bb with
  | true =>
    obtain ⟨its, rv, pl, _⟩ := I.tuple h
    exact ⟨its, rv, pl⟩
  | false =>
    obtain ⟨its, rv, pl, _⟩ := I.list h
    exact ⟨its, rv, pl.isList⟩
theorem Inv.injB {pins : List (Addr × Obj)} {s : Shared} {bb : Bool} {q : Addr} {xs ys : List V} (I : Inv X pins σ H s) (h : SqB X.K H bb q xs) (h' : SqB X.K H bb q ys) : xs = ys := by
  cases bb with
  | true => exact I.tuple_inj h h'
  | false => exact I.list_inj h h'
theorem drawsB {P : Program} {w : World} {A : Around} (hh : A.handled = none) (bb : Bool) (it q : Addr) (hne : q ≠ it) (its : Array Value) :
    Draws P w A it [it, q] its.size (fun i v => its[i]? = some v) (fun i h => ItB h bb it q i ∧ AtB h bb q its) := by
  cases bb with
  | true => exact Draws.tuple hh it q hne its
  | false => exact Draws.list hh it q hne its
theorem ItB.obj {h : Heap} {bb : Bool} {it q : Addr} {i : Nat} (st : ItB h bb it q i) : ∃ u, h.get? it = some u ∧ (∀ v, u.data ≠ .cell v) := by
  cases bb with
  | true =>
    obtain ⟨u, e, _, d⟩ := st
    exact ⟨u, e, fun v z => by rw [d] at z; cases z⟩
  | false =>
    obtain ⟨u, e, _, d⟩ := st
    exact ⟨u, e, fun v z => by rw [d] at z; cases z⟩
theorem ItB.keep {h h' : Heap} {bb : Bool} {it q : Addr} {i : Nat} (st : ItB h bb it q i) (k : ∀ u, h.get? it = some u → h'.get? it = some u) : ItB h' bb it q i := by
  cases bb with
  | true => exact Heap.IsTupleIter.at st k
  | false => exact Heap.IsListIter.at st k
theorem AtB.ne {h : Heap} {bb : Bool} {q z : Addr} {its : Array Value} {T : String} {u : Obj} (at_ : AtB h bb q its) (e : h.get? z = some u) (hc : u.cls = .type T) (h1 : T ≠ "tuple") (h2 : T ≠ "list") : q ≠ z := fun qz => by
  subst qz
  cases bb with
  | true =>
    obtain ⟨u', e', c', _⟩ := at_
    rw [e] at e'
    cases e'
    rw [hc] at c'
    exact h1 (by injection c')
  | false =>
    obtain ⟨u', e', c', _⟩ := at_
    rw [e] at e'
    cases e'
    rw [hc] at c'
    exact h2 (by injection c')
theorem ItB.cls {h : Heap} {bb : Bool} {it q : Addr} {i : Nat} (st : ItB h bb it q i) : ∃ u T, h.get? it = some u ∧ u.cls = .type T ∧ T ≠ "tuple" ∧ T ≠ "list" := by
  cases bb with
  | true =>
    obtain ⟨u, e, c, _⟩ := st
    exact ⟨u, _, e, c, by decide, by decide⟩
  | false =>
    obtain ⟨u, e, c, _⟩ := st
    exact ⟨u, _, e, c, by decide, by decide⟩
theorem turn_eb {P : Program} {w : World} {K : PySem.W.Frag} {elts : List Expr} {kk : Nat} {tpos : Pos} (bb : Bool) (k : Int) (q z it : Addr) :
    Turn P w K (.Tuple elts kk tpos) (Ieb K bb q k) [z, it] z (fun i h => (∃ old, IsEnum h z it (k + (i : Int)) old) ∧ ItB h bb it q i ∧ z ≠ it) where
  mem := by simp
  obj := fun i h st c hc => by
    obtain ⟨⟨old, he⟩, hit, _⟩ := st
    have ec : c = z ∨ c = it := by simpa using hc
    rcases ec with rfl | rfl
    · exact ⟨_, he, fun v r => nomatch r⟩
    · exact hit.obj
  keep := fun i h h' st kp => by
    obtain ⟨⟨old, he⟩, hit, hne⟩ := st
    exact ⟨⟨old, kp z (by simp) _ he⟩, hit.keep fun u e => kp it (by simp) u e, hne⟩
  item := by
    intro X hP hw hK hc i pins s σ H E I hf st hg
    subst hP hw hK
    obtain ⟨⟨old, he⟩, hit, hne⟩ := st
    obtain ⟨xs, x, hq, hx⟩ := hg
    obtain ⟨its, rv, pl⟩ := Inv.atB I hq
    obtain ⟨u, hu, ru⟩ := rv.get hx
    have hzl : z < s.heap.objs.size := Heap.lt_size he
    have nq : q ≠ it := by
      obtain ⟨u', T, e', c', t1, t2⟩ := hit.cls
      exact pl.ne e' c' t1 t2
    have nz : q ≠ z := pl.ne he rfl (by decide) (by decide)
    have hil : it < s.heap.objs.size := by
      obtain ⟨u', e', _⟩ := hit.obj
      exact Heap.lt_size e'
    have hsz : its.toArray.size = xs.length := by rw [List.size_toArray]; exact rv.length.symm
    have hlt : i < its.toArray.size := by rw [hsz]; exact (List.getElem?_eq_some_iff.mp hx).1
    refine wpAny_pyNext_enum_itemC (drawsB (A := X.A.in1) (I.ok.hd hc) bb it q nq its.toArray) he ⟨hit, pl⟩ hlt hne (by simp [hne, Ne.symm nz]) fun y h' tk hy ho hst hT hz2 hk => ?_
    have ey : y = u := by
      have : its.toArray[i]? = some y := hy
      rw [List.getElem?_toArray, hu] at this
      exact (Option.some.inj this).symm
    subst ey
    refine ⟨_, rfl, wpAny_letOwnedTupleGo_enum (s := { s with heap := h', toks := tk + 1 }) ho fun h'' he' sb => ?_⟩
    have hT2 : h''.get? s.heap.objs.size = some { cls := .type "tuple", data := .seq #[.int (k + (i : Int)) tk, y] } := (sb.2 _ (Nat.ne_of_gt hzl)).trans hT
    have nw : ObjOk X.prog X.w (upd H s.heap.objs.size (.tup [.int (k + (i : Int)), x])) h'' s.heap.objs.size (.tup [.int (k + (i : Int)), x]) :=
      ⟨by show 2 ≤ sizeLine; decide, [.int (k + (i : Int)) tk, y], .cons ⟨_, rfl⟩ (.cons ru .nil), ⟨_, hT2, rfl, _, rfl⟩⟩
    have I1 : Inv X pins σ (upd H s.heap.objs.size (.tup [.int (k + (i : Int)), x])) { s with heap := h'', toks := tk + 1 } :=
      I.turnedNew (ch := [z, it]) (fun c ob hb r => (sb.2 c (fun w' => hb (by simp [w']))).trans (hk c ob (fun w' => hb (by simp [w'])) (fun w' => hb (by simp [w'])) r)) hf (Nat.le_refl _) nw
    refine ⟨.ref s.heap.objs.size, _, I1, rfl, ⟨_, x, rfl, I.hok.fresh (Nat.le_refl _), rfl, fun ys hy => by rw [Inv.injB I hy hq]; exact hx⟩, ⟨⟨y, ?_⟩, hst.1.keep fun o r => (sb.2 it (Ne.symm hne)).trans r, hne⟩, fun c hb => ?_⟩
    · have e1 : k + ((i + 1 : Nat) : Int) = k + (i : Int) + 1 := by omega
      rw [e1]; exact he'
    · have hb' : c < s.heap.objs.size := by
        have ec : c = z ∨ c = it := by simpa using hb
        rcases ec with rfl | rfl
        · exact hzl
        · exact hil
      rw [upd_ne (Nat.ne_of_lt hb')]
      exact (hf c hb).1
  done := by
    intro X hP hw hK hc i pins s σ H E I hf st hg
    subst hP hw hK
    obtain ⟨⟨old, he⟩, hit, hne⟩ := st
    obtain ⟨xs, hq, hx⟩ := hg
    obtain ⟨its, rv, pl⟩ := Inv.atB I hq
    obtain ⟨f0, f1, f2, f3, f4, f5⟩ := hf it (by simp)
    have nq : q ≠ it := by
      obtain ⟨u', T, e', c', t1, t2⟩ := hit.cls
      exact pl.ne e' c' t1 t2
    have hsz : its.toArray.size = xs.length := by rw [List.size_toArray]; exact rv.length.symm
    have ei : i = its.toArray.size := by rw [hsz]; exact hx.symm
    subst ei
    exact wpAny_pyNext_enum_endD (drawsB (A := X.A.in1) (I.ok.hd hc) bb it q nq its.toArray) he ⟨hit, pl⟩ fun h' eb => ⟨rfl, I.turned (t' := s.toks) (fun b o hb e => eb b o hb e) f0 f1 f3 f4 f5⟩
  self := fun A i s Q E st h => let ⟨⟨_, he⟩, _⟩ := st; wpAny_pyIter_enum he h
theorem sqB_le {bb : Bool} {q : Addr} {xs : List V} (le : ∀ a o, F a = some o → H a = some o) (h : SqB K F bb q xs) : SqB K H bb q xs := by
  cases bb with
  | true => exact sqT_le le h
  | false => exact sqL_le le h
theorem Mono.sqB {F' : Hp} {A' : Fps} {bb : Bool} {q : Addr} {xs : List V} (m : Mono F A F' A') (h : SqB K F bb q xs) : SqB K F' bb q xs := by
  cases bb with
  | true => exact m.sqT h
  | false => exact m.sqL h
def nums (k : Int) : List D → List D
  | [] => []
  | d :: ds => .tup [.int k, d] :: nums (k + 1) ds
theorem nums_len : ∀ (ds : List D) (k : Int), (nums k ds).length = ds.length
  | [], _ => rfl
  | _ :: ds, k => congrArg (· + 1) (nums_len ds (k + 1))
theorem nums_get : ∀ {ds : List D} {k : Int} {i : Nat} {d : D}, (nums k ds)[i]? = some d → ∃ e, ds[i]? = some e ∧ d = .tup [.int (k + (i : Int)), e]
  | [], _, _, _, h => by simp [nums] at h
  | e :: ds, k, 0, d, h => by
    have h : some (D.tup [.int k, e]) = some d := h
    cases h
    exact ⟨e, rfl, by simp⟩
  | e :: ds, k, i + 1, d, h => by
    obtain ⟨e', h1, h2⟩ := nums_get (ds := ds) (k := k + 1) (i := i) h
    refine ⟨e', h1, ?_⟩
    have e1 : k + ((i + 1 : Nat) : Int) = k + 1 + (i : Int) := by omega
    rw [h2, e1]
theorem yld_eb {bb : Bool} {q : Addr} {vs : List V} {ds : List D} {k : Int} (hq : SqB K F bb q vs) (r : Reps K A F vs ds) : Yld K (Ieb K bb q k) (nums k ds) F A := by
  refine ⟨fun Z i d σ st F1 H1 A1 ed R m1 => ?_, fun Z σ st F1 H1 A1 R m1 => ⟨vs, sqB_le R.le (m1.sqB hq), by rw [nums_len]; exact r.length⟩⟩
  obtain ⟨e, ee, rfl⟩ := nums_get ed
  obtain ⟨v, ev, rv⟩ := r.get ee
  refine ⟨⟨vs, v, sqB_le R.le (m1.sqB hq), ev⟩, fun y H' hy => ?_⟩
  obtain ⟨T, x, rfl, hT, rfl, hx⟩ := hy
  have e3 := hx vs (sqB_le R.le (m1.sqB hq))
  rw [ev] at e3
  cases e3
  have mo : Mono F1 A1 (upd F1 T (.tup [.int (k + (i : Int)), v])) A1 := .new R.w hT
  exact ⟨_, R.new hT, mo, .tup (.inl (.inl upd_same)) (.cons (.int _) (.cons (rv.mono (m1.trans mo)) .nil))⟩
/-- a list's or a tuple's items -/
def D.sq : D → Option (List D)
  | .tup l => some l
  | .lst l => some l
  | .rls l => some l
  | _ => none
theorem Rep.sq {d : D} {v : V} {l : List D} (r : Rep K A F v d) (h : d.sq = some l) : ∃ bb q vs, v = .ref q ∧ SqB K F bb q vs ∧ Reps K A F vs l := by
  cases d with
  | tup l' =>
    cases h
    cases r with
    | tup hq rs => exact ⟨true, _, _, rfl, hq, rs⟩
  | lst l' =>
    cases h
    cases r with
    | lst hq rs => exact ⟨false, _, _, rfl, .inl (.inl hq), rs⟩
  | rls l' =>
    cases h
    cases r with
    | rls hq rs => exact ⟨false, _, _, rfl, hq, rs⟩
  | _ => cases h
theorem beginsB (bb : Bool) (q : Addr) (its : Array Value) : Begins (.ref q) { cls := .type (if bb = true then "tuple_iterator" else "list_iterator"), data := .fields #[.ref q, .int 0 0] } fun h => AtB h bb q its := by
  cases bb with
  | true => exact begins_tuple q its
  | false => exact begins_list q its
set_option maxHeartbeats 1000000 in
theorem meets_new1 {v : Value} {o : Obj} {H : Heap → Prop} (B : Begins v o H) : Meets (Builtin.«enumerate.__new__» ⟨[.type "enumerate", v], []⟩) (fun _ R s => H s.heap ∧
      R (.ok (.ret (.ref (s.heap.push o).objs.size))) { s with heap := (s.heap.push o).push { cls := .type "enumerate", data := .fields #[.none, .bool false, .ref s.heap.objs.size, rawInt 0, .none, .none] } }) :=
  .of_wp fun prog w A R s h => by
    obtain ⟨hp, gg, dd, tk, os⟩ := s
    obtain ⟨h1, h⟩ := h
    have hsub := sub_enumerate
    have q1 : ∀ {A' : Around} {E : Value → Shared → Prop} {Q : Value → Shared → Prop}, Q (.ref hp.objs.size) ⟨hp.push o, gg, dd, tk, os⟩ → wpAny (model prog w) A' (pyIter v) Q E ⟨hp, gg, dd, tk, os⟩ :=
      fun qq => B.iter prog w _ _ ⟨hp, gg, dd, tk, os⟩ _ h1 qq
    wp_walk using q1
    refine wpAny_stack_any fun st => wpAny_pure ?_
    split
    · rename_i c _ _ _ _ _
      cases (c == Value.type "enumerate") <;> (wp_walk using q1; exact ⟨_, rfl, h⟩)
    · wp_walk using q1
      exact ⟨_, rfl, h⟩
theorem call_enum1 {prog : Program} {w : World} {A : Around} {E : Value → Shared → Prop} {s : Shared} {v : Value} {o : Obj} {H : Heap → Prop} {Q : Value → Shared → Prop} (B : Begins v o H) (h1 : H s.heap)
    (h : ∀ h', IsEnum h' (s.heap.objs.size + 1) s.heap.objs.size 0 .none → h'.get? s.heap.objs.size = some o → h'.objs.size = s.heap.objs.size + 2 →
      (∀ b o, s.heap.get? b = some o → h'.get? b = some o) → Q (.ref (s.heap.objs.size + 1)) { s with heap := h' }) :
    wpAny (model prog w) A (call (.type "enumerate") [v]) Q E s := by
  refine callType_new F.called_enumerate (by decide) (F.typeCall_enumerate_1 _) (F.newCall_enumerate_1 _) (fun obj => F.args_object_init_2 obj _) F.entry_enumerate_new (meets_new1 B) ⟨h1, ?_⟩
  have hz : (s.heap.push o).objs.size = s.heap.objs.size + 1 := Heap.size_push ..
  show _ ∧ _
  rw [hz]
  have he := Heap.get?_push_size (s.heap.push o) (o := { cls := .type "enumerate", data := .fields #[.none, .bool false, .ref s.heap.objs.size, rawInt 0, .none, .none] }) rfl
  rw [hz] at he
  exact ⟨⟨_, he, rfl⟩, h _ he (Heap.get?_push_of_some _ (Heap.get?_push_size _ B.free)) (by rw [Heap.size_push, hz]) fun b o x => Heap.get?_push_of_some _ (Heap.get?_push_of_some _ x)⟩
/-- an enumerate object just made, walked -/
theorem enum_it {pins : List (Addr × Obj)} {s : Shared} {RR : It → Hp → Prop} {E : Value → Shared → Prop} {elts : List Expr} {kk : Nat} {tpos : Pos} {bb : Bool} {q : Addr} {k : Int} {h' : Heap} (I : Inv X pins σ H s)
    (he : IsEnum h' (s.heap.objs.size + 1) s.heap.objs.size k .none) (hi : h'.get? s.heap.objs.size = some { cls := .type (if bb = true then "tuple_iterator" else "list_iterator"), data := .fields #[.ref q, .int 0 0] })
    (hk : ∀ b o, s.heap.get? b = some o → h'.get? b = some o) (h : RR (Ieb X.K bb q k) H) :
    wpAny (model X.prog X.w) X.A (pyIter (.ref (s.heap.objs.size + 1))) (PIE X pins σ (.Tuple elts kk tpos) RR) E { s with heap := h' } := by
  refine wpAny_pyIter_enum (s := { s with heap := h' }) he ?_
  have hit : ItB h' bb s.heap.objs.size q 0 := by
    cases bb with
    | true => exact ⟨_, hi, rfl, rfl⟩
    | false => exact ⟨_, hi, rfl, rfl⟩
  refine ⟨s.heap.objs.size + 1, [s.heap.objs.size + 1, s.heap.objs.size], _, _, H, rfl, I.kept (t' := s.toks) hk, turn_eb bb k q (s.heap.objs.size + 1) s.heap.objs.size, ⟨⟨.none, ?_⟩, hit, Nat.succ_ne_self _⟩, fun c hc => ?_, h⟩
  · have e1 : k + ((0 : Nat) : Int) = k := by omega
    rw [e1]; exact he
  · have hle : s.heap.objs.size ≤ c := by
      have ec : c = s.heap.objs.size + 1 ∨ c = s.heap.objs.size := by simpa using hc
      rcases ec with rfl | rfl
      · exact Nat.le_succ _
      · exact Nat.le_refl _
    exact I.fpOk hle (I.hok.fresh hle)
def dEnum1 (l : List D) : Option (List D) := match l with
  | [d] => d.sq.map (nums 0)
  | _ => none
def dEnum2 (l : List D) : Option (List D) := match l with
  | [d, .int k] => if -(2 ^ 63) ≤ k ∧ k < 2 ^ 63 then d.sq.map (nums k) else none
  | _ => none
theorem ji_enum1 {elts : List Expr} {kk : Nat} {tpos : Pos} {k : Nat} (hg : Gl X "enumerate") (hm : X.mg "enumerate" = none) (ha : PAJ X Z W [a] k m) (hs : starEach [a] X.env = [(false, eval a X.env)] := by rfl) :
    PI X (.Tuple elts kk tpos) (.Call (.Name "enumerate" p) [a] [] pos) (tI X.K Z W (m >>= fun l => M.of (dEnum1 l))) := by
  refine ⟨fun pins s σ H RR I ⟨F, A, st, R, h⟩ => ?_⟩
  have h0 : tL X.K Z W m σ H fun vs H1 => ∃ l F1 A1 st1, Rel X.K Z F1 H1 A1 σ st1 ∧ Reps X.K A1 F1 vs l ∧ After X.K Z W σ F1 A1 (M.of (dEnum1 l) st1) fun ds st' F' H' A' => ∀ J, Yld X.K J ds F' A' → RR J H' :=
    ⟨F, A, st, R, h.bind.imp fun l st1 F1 H1 A1 R1 m1 z vs rs => ⟨l, F1, A1, st1, R1, rs, z⟩⟩
  refine Call_ (ld_blt I hg hm boot_enumerate (PyProof.Rows.callWith_type1 (thn (ha.pa.run pos pins s σ H _ I h0) fun us s1 ⟨vs, H1, I1, r1, l, F1, A1, st1, R1, rs, z⟩ => ?_) hs rfl))
  obtain ⟨w, ew, z⟩ := of_after z
  have zf := z F1 H1 A1 R1 .refl
  unfold dEnum1 at ew
  split at ew
  · rename_i d
    obtain ⟨l', e1, e2⟩ := Option.map_eq_some_iff.mp ew
    subst e2
    cases rs with
    | cons rd rn =>
      cases rn
      obtain ⟨bb, q, ws, rfl, hq, rw'⟩ := rd.sq e1
      cases r1 with
      | cons ru rn =>
        cases rn
        cases ru
        obtain ⟨its, rv, pl⟩ := Inv.atB I1 (sqB_le R1.le hq)
        exact call_enum1 (beginsB bb q its.toArray) pl fun h' he hi hsz hk => enum_it I1 he hi hk (zf _ (yld_eb hq rw'))
  · cases ew
theorem ji_enum2 {elts : List Expr} {kk : Nat} {tpos : Pos} {k : Nat} (hg : Gl X "enumerate") (hm : X.mg "enumerate" = none) (ha : PAJ X Z W [a, b] k m) (hs : starEach [a, b] X.env = (false, eval a X.env) :: starEach [b] X.env := by rfl) (hpl : (backTo pos (starEach [b] X.env)).any (·.1) = false := by rfl) :
    PI X (.Tuple elts kk tpos) (.Call (.Name "enumerate" p) [a, b] [] pos) (tI X.K Z W (m >>= fun l => M.of (dEnum2 l))) := by
  refine ⟨fun pins s σ H RR I ⟨F, A, st, R, h⟩ => ?_⟩
  have h0 : tL X.K Z W m σ H fun vs H1 => ∃ l F1 A1 st1, Rel X.K Z F1 H1 A1 σ st1 ∧ Reps X.K A1 F1 vs l ∧ After X.K Z W σ F1 A1 (M.of (dEnum2 l) st1) fun ds st' F' H' A' => ∀ J, Yld X.K J ds F' A' → RR J H' :=
    ⟨F, A, st, R, h.bind.imp fun l st1 F1 H1 A1 R1 m1 z vs rs => ⟨l, F1, A1, st1, R1, rs, z⟩⟩
  refine Call_ (ld_blt I hg hm boot_enumerate (PyProof.Rows.callWith_type1 (thn (ha.pa.run pos pins s σ H _ I h0) fun us s1 ⟨vs, H1, I1, r1, l, F1, A1, st1, R1, rs, z⟩ => ?_) hs hpl))
  obtain ⟨w, ew, z⟩ := of_after z
  have zf := z F1 H1 A1 R1 .refl
  unfold dEnum2 at ew
  split at ew
  · rename_i d j
    by_cases hj : -(2 ^ 63) ≤ j ∧ j < 2 ^ 63
    · rw [if_pos hj] at ew
      obtain ⟨l', e1, e2⟩ := Option.map_eq_some_iff.mp ew
      subst e2
      cases rs with
      | cons rd rn =>
        cases rn with
        | cons rj rn =>
          cases rn
          cases rj
          obtain ⟨bb, q, ws, rfl, hq, rw'⟩ := rd.sq e1
          cases r1 with
          | cons ru rn =>
            cases rn with
            | cons rj rn =>
              cases rn
              cases ru
              obtain ⟨t, rfl⟩ := rj
              obtain ⟨its, rv, pl⟩ := Inv.atB I1 (sqB_le R1.le hq)
              exact enum_begins (beginsB bb q its.toArray) pl hj.1 hj.2 fun h' he hi hsz hk => enum_it I1 he hi hk (zf _ (yld_eb hq rw'))
    · rw [if_neg hj] at ew
      cases ew
  · cases ew
def dZip : List D → Option (List D)
  | [.tup l, .tup r] => some ((l.zip r).map fun (a, b) => .tup [a, b])
  | [.lst l, .lst r] => some ((l.zip r).map fun (a, b) => .tup [a, b])
  | _ => none
theorem zip_get {l r : List D} {i : Nat} {d : D} (h : ((l.zip r).map fun (a, b) => D.tup [a, b])[i]? = some d) : ∃ x y, l[i]? = some x ∧ r[i]? = some y ∧ d = .tup [x, y] := by
  rw [List.getElem?_map] at h
  obtain ⟨⟨x, y⟩, h1, h2⟩ := Option.map_eq_some_iff.mp h
  obtain ⟨h3, h4⟩ := List.getElem?_zip_eq_some.mp h1
  exact ⟨x, y, h3, h4, h2.symm⟩
theorem yld_zipT {p q : Addr} {vs ws : List V} {ds es : List D} (hp : SqT K F p vs) (hq : SqT K F q ws) (r : Reps K A F vs ds) (t : Reps K A F ws es) : Yld K (RZ.ItzT K p q) ((ds.zip es).map fun (a, b) => .tup [a, b]) F A := by
  refine ⟨fun Z i d σ st F1 H1 A1 ed R m1 => ?_, fun Z σ st F1 H1 A1 R m1 => ⟨vs, ws, sqT_le R.le (m1.sqT hp), sqT_le R.le (m1.sqT hq), ?_⟩⟩
  · obtain ⟨x, y, ex, ey, rfl⟩ := zip_get ed
    obtain ⟨v, ev, rv⟩ := r.get ex
    obtain ⟨w, ew, rw'⟩ := t.get ey
    refine ⟨⟨vs, ws, v, w, sqT_le R.le (m1.sqT hp), sqT_le R.le (m1.sqT hq), ev, ew⟩, fun u H' hy => ?_⟩
    obtain ⟨T, x', y', rfl, hT, rfl, hx, hy⟩ := hy
    have e3 := hx vs (sqT_le R.le (m1.sqT hp))
    have e4 := hy ws (sqT_le R.le (m1.sqT hq))
    rw [ev] at e3
    rw [ew] at e4
    cases e3
    cases e4
    have mo : Mono F1 A1 (upd F1 T (.tup [v, w])) A1 := .new R.w hT
    exact ⟨_, R.new hT, mo, .tup (.inl (.inl upd_same)) (.cons (rv.mono (m1.trans mo)) (.cons (rw'.mono (m1.trans mo)) .nil))⟩
  · rw [List.length_map, List.length_zip, ← r.length, ← t.length]
    omega
theorem yld_zipL {p q : Addr} {vs ws : List V} {ds es : List D} (hp : F p = some (.lst vs)) (hq : F q = some (.lst ws)) (r : Reps K A F vs ds) (t : Reps K A F ws es) : Yld K (Itz K p q) ((ds.zip es).map fun (a, b) => .tup [a, b]) F A := by
  have sp : ∀ {F1 A1 H1 σ st Z}, Rel K Z F1 H1 A1 σ st → Mono F A F1 A1 → SqL K H1 p vs ∧ SqL K H1 q ws := fun R m1 => ⟨.inl (.inl (R.le _ _ (m1.f _ _ hp))), .inl (.inl (R.le _ _ (m1.f _ _ hq)))⟩
  refine ⟨fun Z i d σ st F1 H1 A1 ed R m1 => ?_, fun Z σ st F1 H1 A1 R m1 => ⟨vs, ws, (sp R m1).1, (sp R m1).2, ?_⟩⟩
  · obtain ⟨x, y, ex, ey, rfl⟩ := zip_get ed
    obtain ⟨v, ev, rv⟩ := r.get ex
    obtain ⟨w, ew, rw'⟩ := t.get ey
    refine ⟨⟨vs, ws, v, w, (sp R m1).1, (sp R m1).2, ev, ew⟩, fun u H' hy => ?_⟩
    obtain ⟨T, x', y', rfl, hT, rfl, hx, hy⟩ := hy
    have e3 := hx vs (sp R m1).1
    have e4 := hy ws (sp R m1).2
    rw [ev] at e3
    rw [ew] at e4
    cases e3
    cases e4
    have mo : Mono F1 A1 (upd F1 T (.tup [v, w])) A1 := .new R.w hT
    exact ⟨_, R.new hT, mo, .tup (.inl (.inl upd_same)) (.cons (rv.mono (m1.trans mo)) (.cons (rw'.mono (m1.trans mo)) .nil))⟩
  · rw [List.length_map, List.length_zip, ← r.length, ← t.length]
    omega
theorem dZip_some {l r : List D} (h : dZip l = some r) : ∃ x y, r = ((x.zip y).map fun (a, b) => D.tup [a, b]) ∧ (l = [.tup x, .tup y] ∨ l = [.lst x, .lst y]) := by
  unfold dZip at h
  split at h
  · cases h
    exact ⟨_, _, rfl, .inl rfl⟩
  · cases h
    exact ⟨_, _, rfl, .inr rfl⟩
  · cases h
theorem ji_zip {elts : List Expr} {kk : Nat} {tpos : Pos} {k : Nat} (hg : Gl X "zip") (hm : X.mg "zip" = none) (ha : PAJ X Z W [a, b] k m) (hs : starEach [a, b] X.env = (false, eval a X.env) :: starEach [b] X.env := by rfl) (hpl : (backTo pos (starEach [b] X.env)).any (·.1) = false := by rfl) :
    PI X (.Tuple elts kk tpos) (.Call (.Name "zip" p) [a, b] [] pos) (tI X.K Z W (m >>= fun l => M.of (dZip l))) := by
  refine PI.wk (RZ.pi_zipA hg hm ha.pa hs hpl) fun σ H RR ⟨F, A, st, R, h⟩ => ?_
  refine ⟨F, A, st, R, h.bind.imp fun l st1 F1 H1 A1 R1 m1 z vs rs => ?_⟩
  obtain ⟨w, ew, z⟩ := of_after z
  have zf := z F1 H1 A1 R1 .refl
  obtain ⟨x, y, rfl, e | e⟩ := dZip_some ew
  · subst e
    cases rs with
    | cons r1 rr =>
      cases rr with
      | cons r2 rr =>
        cases rr
        cases r1 with
        | tup hp rs1 =>
          cases r2 with
          | tup hq rs2 => exact ⟨_, _, _, _, rfl, .inr ⟨sqT_le R1.le hp, sqT_le R1.le hq, zf _ (yld_zipT hp hq rs1 rs2)⟩⟩
  · subst e
    cases rs with
    | cons r1 rr =>
      cases rr with
      | cons r2 rr =>
        cases rr
        cases r1 with
        | lst hp rs1 =>
          cases r2 with
          | lst hq rs2 => exact ⟨_, _, _, _, rfl, .inl ⟨.inl (.inl (R1.le _ _ hp)), .inl (.inl (R1.le _ _ hq)), zf _ (yld_zipL hp hq rs1 rs2)⟩⟩
end
end J
end
section
namespace J
open PySem PySem.Spec PyProof.Rows L2
section
variable {X : Cx} {K : PySem.W.Frag} {Z : Ent} {W : WX} {F H F' H' : Hp} {A A' : Fps} {σ : L2.St} {st : Sta} {S : List MO} {q : Addr} {vs vs' : List V} {ds ds' : List D}

theorem Loose.ext (l : Loose K Z F H A σ st q vs ds) (x : Ext F H A F' H' A') : Loose K Z F' H' A' σ { st with S := S } q vs ds := by
  refine ⟨x.kp _ _ l.at_ l.nA, l.rs.mono x.mono, ?_, fun h => ?_, l.nZ, l.ap⟩
  · cases e : F' q with
    | none => rfl
    | some u =>
      rcases x.nw q u e with h | h
      · rw [l.nF] at h; cases h
      · rw [l.at_] at h; cases h
  · rcases x.nA q h with h | h
    · exact l.nA h
    · rw [l.at_] at h; cases h
theorem Loose.write (R : Rel K Z F H A σ st) (l : Loose K Z F H A σ st q vs ds) (r : Reps K A F vs' ds') : Rel K Z F (upd H q (.lst vs')) A σ st ∧ Loose K Z F (upd H q (.lst vs')) A σ st q vs' ds' := by
  have k : ∀ a u, a ≠ q → H a = some u → upd H q (.lst vs') a = some u := fun a u n h => by rw [upd_ne n]; exact h
  refine ⟨⟨⟨fun a u h => k a u (fun e => by rw [e, l.nF] at h; cases h) (R.le a u h), R.w.len, fun n m fp h1 h2 => (R.w.ok n m fp h1 h2).keep .refl fun c hc => upd_ne fun e => l.nA (by rw [← e]; exact in_flat h2 hc), R.w.nd, R.w.nF⟩,
    ⟨R.e.mono, R.e.nw, R.e.nA, fun a u h n => k a u (fun e => by rw [e, l.nZ] at h; cases h) (R.e.kp a u h n), fun a h => ?_⟩, R.len, fun i sl h => ?_, R.sep⟩, ⟨upd_same, r, l.nF, l.nA, l.nZ, l.ap⟩⟩
  · by_cases e : a = q
    · subst e; rw [upd_same]; simp
    · rw [upd_ne e]; exact R.e.th a h
  · have z := R.loc i sl h
    cases sl with
    | val d => exact z
    | own m =>
      obtain ⟨q', ws, e', h1', r', f', n', z'⟩ := z
      exact ⟨q', ws, e', k q' _ (fun e => l.ap i m h (by rw [e', e])) h1', r', f', n', z'⟩
def maskSl (ws : List Nat) (i : Nat) (s : Option Sl) : Option Sl := if i ∈ ws then none else match s with
  | some (.own _) => none
  | s => s
def maskSt (ws : List Nat) (st : Sta) : Sta := { st with r := st.r.mapIdx (maskSl ws) }
theorem mask_get {ws : List Nat} {i : Nat} {sl : Sl} (h : (maskSt ws st).r[i]? = some (some sl)) : i ∉ ws ∧ st.r[i]? = some (some sl) ∧ ∃ d, sl = .val d := by
  have h : (st.r.mapIdx (maskSl ws))[i]? = some (some sl) := h
  rw [List.getElem?_mapIdx] at h
  obtain ⟨s, e1, e2⟩ := Option.map_eq_some_iff.mp h
  unfold maskSl at e2
  by_cases hi : i ∈ ws
  · rw [if_pos hi] at e2; cases e2
  · rw [if_neg hi] at e2
    cases s with
    | none => cases e2
    | some t =>
      cases t with
      | own l => cases e2
      | val d =>
        cases e2
        exact ⟨hi, e1, d, rfl⟩
theorem Rel.mask (R : Rel K Z F H A σ st) (ws : List Nat) : Rel K ⟨F, H, A⟩ F H A (L2.wipe σ ws) (maskSt ws st) := by
  refine ⟨R.w, .refl, ?_, fun i sl h => ?_, fun i j l m _ h1 _ => ?_⟩
  · show (st.r.mapIdx (maskSl ws)).length = _
    rw [List.length_mapIdx, L2.wipe_length]; exact R.len
  · obtain ⟨hi, e, d, rfl⟩ := mask_get h
    obtain ⟨x, ex, r⟩ := R.loc i _ e
    exact ⟨x, by rw [L2.wipe_out hi]; exact ex, r⟩
  · obtain ⟨_, _, d, e⟩ := mask_get h1
    cases e
theorem wipe_wipe {ws : List Nat} : L2.wipe (L2.wipe σ ws) ws = L2.wipe σ ws := by
  refine List.ext_getElem? fun j => ?_
  by_cases hl : j < σ.length
  · by_cases hj : j ∈ ws
    · rw [wipe_get hj hl, wipe_get hj (by rw [L2.wipe_length]; exact hl)]
    · rw [L2.wipe_out hj]
  · rw [List.getElem?_eq_none (by rw [L2.wipe_length, L2.wipe_length]; simpa using hl), List.getElem?_eq_none (by rw [L2.wipe_length]; simpa using hl)]
def frzSt : List Nat → Sta → Sta
  | [], st => st
  | i :: is, st => frzSt is (match st.r[i]? with
    | some (some (.own l)) => st.set i (some (.val (.lst l)))
    | _ => st)
theorem Rel.frz : ∀ (is : List Nat) {F : Hp} {st : Sta}, Rel K Z F H A σ st → ∃ F', Rel K Z F' H A σ (frzSt is st) ∧ Mono F A F' A
  | [], F, st, R => ⟨F, R, .refl⟩
  | i :: is, F, st, R => by
    unfold frzSt
    split
    · rename_i l h
      obtain ⟨p, vs, _, R2, m, _⟩ := R.freeze h
      obtain ⟨F', R', m'⟩ := Rel.frz is R2
      exact ⟨F', R', m.trans m'⟩
    · exact Rel.frz is R
def compL (ws : List Nat) (g : D → Tg) (mc : M Bool) (me : M D) : List D → List D → M (List D)
  | acc, [] => pure acc
  | acc, d :: ds => fun st => match g d (maskSt ws st) with
    | none => .stk
    | some st1 => match mc st1 with
      | .ok true st2 => (match me st2 with
        | .ok y st3 => compL ws g mc me (acc ++ [y]) ds { st with S := st3.S }
        | _ => .stk)
      | .ok false st2 => compL ws g mc me acc ds { st with S := st2.S }
      | _ => .stk
/-- [me for g in mi if mc]; fz: held lists that the block reads -/
def compM (fz ws : List Nat) (mi : M (List D)) (g : D → Tg) (mc : M Bool) (me : M D) : M (List D) := mi >>= fun ds => fun st => if ds.length ≤ 1000000 then compL ws g mc me [] ds (frzSt fz st) else .stk
def W0 : WX := fun _ _ _ _ => False
def xG (K : PySem.W.Frag) (ws : List Nat) (g : D → Tg) : TG := fun v σ H Q => ∃ Z, tG K Z ws g v σ H Q
def xM (K : PySem.W.Frag) (me : M D) : TE := fun σ H Q => ∃ Z, tM K Z W0 me σ H Q
def xB (K : PySem.W.Frag) (mc : M Bool) : TT := fun σ H Q => ∃ Z, J.tB K Z W0 mc σ H Q
variable {ws fz : List Nat} {g : D → Tg} {mc : M Bool} {me : M D} {mi : M (List D)}
theorem lc_of {Q : VK} (h : tN K Z W (compM fz ws mi g mc me) σ H Q) : tLc (tI K Z W mi) (xG K ws g) (xB K mc) (xM K me) ws σ H Q := by
  obtain ⟨F, A, st, R, h⟩ := h
  refine ⟨F, A, st, R, h.bind.imp fun ds st1 F1 H1 A1 R1 m1 z J y D0 hD => ?_⟩
  have z : After K Z W σ F1 A1 (if ds.length ≤ 1000000 then compL ws g mc me [] ds (frzSt fz st1) else .stk) fun l st' F' H' A' => ∀ p vs, Loose K Z F' H' A' σ st' p vs l → Q (.ref p) H' := z
  by_cases hlen : ds.length ≤ 1000000
  · rw [if_pos hlen] at z
    obtain ⟨F2, R2, m2⟩ := R1.frz fz
    obtain ⟨R3, lo3⟩ := R2.loose hD (vs := []) (ds := []) .nil
    let inv : Nat → Hp → Prop := fun i H => i ≤ ds.length ∧ ∃ F3 A3 st3 vs acc, Rel K Z F3 H A3 σ st3 ∧ Mono F1 A1 F3 A3 ∧ Loose K Z F3 H A3 σ st3 D0 vs acc ∧ acc.length ≤ i ∧
      After K Z W σ F3 A3 (compL ws g mc me acc (ds.drop i) st3) fun l st' F' H' A' => ∀ p vs, Loose K Z F' H' A' σ st' p vs l → Q (.ref p) H'
    refine ⟨fun i m H => m = ds.length - i ∧ inv i H, ⟨_, rfl, Nat.zero_le _, F2, A1, _, [], [], R3, m2, lo3, Nat.le_refl _, z.mono m2⟩, ?_⟩
    rintro i m H4 ⟨rfl, hi, F4, A4, st4, ws4, acc, R4, m4, lo4, ha, z⟩
    by_cases hlt : i < ds.length
    · have ed : ds[i]? = some ds[i] := List.getElem?_eq_getElem hlt
      have edr : ds.drop i = ds[i] :: ds.drop (i + 1) := List.drop_eq_getElem_cons hlt
      rw [edr] at z
      unfold compL at z
      have R5 := R4.mask ws
      obtain ⟨hgo, hy⟩ := y.go _ i _ _ _ F4 H4 A4 ed R5 m4
      refine .inr ⟨hgo, inv (i + 1), fun H' hH => ⟨ds.length - (i + 1), by omega, rfl, hH⟩, fun x H6 hx => ?_⟩
      obtain ⟨F6, R6, m6, r6⟩ := hy x H6 hx
      cases eg : g ds[i] (maskSt ws st4) with
      | none => rw [eg] at z; exact z.elim
      | some st5 =>
        rw [eg] at z
        refine ⟨_, F6, A4, _, _, st5, R6, r6, eg, fun σ7 F7 H7 A7 R7 m7 w7 => ⟨w7.trans wipe_wipe, ?_⟩⟩
        -- the turn's end, an item put in or not
        refine ⟨_, F7, A7, st5, R7, ?_⟩
        have z : After K Z W σ F4 A4 (match mc st5 with
          | .ok true st2 => (match me st2 with
            | .ok y st3 => compL ws g mc me (acc ++ [y]) (ds.drop (i + 1)) { st4 with S := st3.S }
            | _ => .stk)
          | .ok false st2 => compL ws g mc me acc (ds.drop (i + 1)) { st4 with S := st2.S }
          | _ => .stk) _ := z
        cases em : mc st5 with
        | stk => rw [em] at z; exact z.elim
        | err _ _ => rw [em] at z; exact z.elim
        | ok b st8 =>
          rw [em] at z
          intro F8 H8 A8 R8 m8
          cases b with
          | false =>
            rw [if_neg Bool.false_ne_true]
            have x8 := R8.e
            exact ⟨hlt, F8, A8, { st4 with S := st8.S }, ws4, acc, R4.ext R8.w x8, m4.trans x8.mono, lo4.ext x8, Nat.le_succ_of_le ha, z.mono x8.mono⟩
          | true =>
            rw [if_pos rfl]
            refine ⟨_, F8, A8, st8, R8, ?_⟩
            have z : After K Z W σ F4 A4 (match me st8 with
              | .ok y st3 => compL ws g mc me (acc ++ [y]) (ds.drop (i + 1)) { st4 with S := st3.S }
              | _ => .stk) _ := z
            cases ee : me st8 with
            | stk => rw [ee] at z; exact z.elim
            | err _ _ => rw [ee] at z; exact z.elim
            | ok yv st9 =>
              rw [ee] at z
              intro F9 H9 A9 R9 m9 v rv
              have x9 := R9.e
              have lo9 := lo4.ext (S := st9.S) x9
              have R10 := R4.ext R9.w x9
              obtain ⟨R11, lo11⟩ := lo9.write R10 (lo9.rs.append (.cons rv .nil))
              refine ⟨ws4, lo9.at_, ?_, hlt, F9, A9, { st4 with S := st9.S }, _, _, R11, m4.trans x9.mono, lo11, ?_, z.mono x9.mono⟩
              · rw [lo9.rs.length, sizeLine_eq]
                omega
              · rw [List.length_append, List.length_singleton]
                omega
    · have e : i = ds.length := by omega
      subst e
      rw [List.drop_length] at z
      exact .inl ⟨y.stop Z σ st4 F4 H4 A4 R4 m4, z F4 H4 A4 R4 .refl D0 ws4 lo4⟩
  · rw [if_neg hlen] at z
    exact z.elim
theorem JC.blk {k : Nat} {s : Shared} {scope : Scope} {cenv : Env} {fp : List Addr} (j : JC X k W) : JC (X.blk s H scope cenv fp) k W0 :=
  ⟨j.g, j.room, j.calm, j.nd, fun u s' ⟨a, B, sI, pins, σ, H, cls, d, e, I, nb, up, sky, na, os, ag, w⟩ => w.elim, by passes_own⟩
theorem jpts_nil {Z : Ent} : PTs X [] (J.tB X.K Z W (pure true)) := ⟨fun pins s σ H Q I ⟨F, A, st, R, h⟩ => pts_nil.run pins s σ H Q I (h F H A R .refl)⟩
theorem jpts_one {Z : Ent} {c : Expr} (h : PT X c (J.tB X.K Z W mc)) : PTs X [c] (J.tB X.K Z W mc) := pts_one h
section
variable {elt tg iter : Expr} {ifs : List Expr} {scope : Scope} {own : List (Str × Nat)} {pos spos py : Pos} {y : Str} {i : Nat}
theorem jn_lc (hc : X.calm = true) (hN : X.N.Nodup) (fz : List Nat) (own : List (Str × Nat)) (hi : PI X tg iter (tI X.K Z W mi)) (ok : BlkOk X.N X.env.scope scope own)
    (hg : ∀ (s : Shared) (H : Hp) (C : Addr) (cl : List (Str × Addr)) (fp : List Addr) (Z : Ent), PG (X.blk s H scope (compEnvC scope cl C X.env) fp) tg (tG X.K Z (own.map (·.2)) g))
    (ht : ∀ (s : Shared) (H : Hp) (C : Addr) (cl : List (Str × Addr)) (fp : List Addr) (Z : Ent), PTs (X.blk s H scope (compEnvC scope cl C X.env) fp) ifs (J.tB X.K Z W0 mc))
    (he : ∀ (s : Shared) (H : Hp) (C : Addr) (cl : List (Str × Addr)) (fp : List Addr) (Z : Ent), PE (X.blk s H scope (compEnvC scope cl C X.env) fp) elt (tM X.K Z W0 me)) (hs : ∀ x, foldedSetIterable iter X.env x = pure x := by intro _; rfl) :
    PE X (.ListComp elt [⟨tg, iter, ifs, 0⟩] scope pos) (tN X.K Z W (compM fz (own.map (·.2)) mi g mc me)) :=
  PE.wk (pe_lc hc hN hi ok (fun s H C cl fp => ⟨fun pins s' σ H' v u Q I r ⟨Z', q⟩ => (hg s H C cl fp Z').run pins s' σ H' v u Q I r q⟩) (fun s H C cl fp => ⟨fun pins s' σ H' Q I ⟨Z', q⟩ => (ht s H C cl fp Z').run pins s' σ H' Q I q⟩)
    (fun s H C cl fp => ⟨fun pins s' σ H' Q I ⟨Z', q⟩ => (he s H C cl fp Z').run pins s' σ H' Q I q⟩) hs) fun σ H Q h => lc_of h
theorem js_setLc (hc : X.calm = true) (hN : X.N.Nodup) (fz : List Nat) (own : List (Str × Nat)) (hi : PI X tg iter (tI X.K Z W mi)) (ok : BlkOk X.N X.env.scope scope own)
    (hg : ∀ (s : Shared) (H : Hp) (C : Addr) (cl : List (Str × Addr)) (fp : List Addr) (Z : Ent), PG (X.blk s H scope (compEnvC scope cl C X.env) fp) tg (tG X.K Z (own.map (·.2)) g))
    (ht : ∀ (s : Shared) (H : Hp) (C : Addr) (cl : List (Str × Addr)) (fp : List Addr) (Z : Ent), PTs (X.blk s H scope (compEnvC scope cl C X.env) fp) ifs (J.tB X.K Z W0 mc))
    (he : ∀ (s : Shared) (H : Hp) (C : Addr) (cl : List (Str × Addr)) (fp : List Addr) (Z : Ent), PE (X.blk s H scope (compEnvC scope cl C X.env) fp) elt (tM X.K Z W0 me))
    (hy : X.N[i]? = some y := by rfl) (hyl : X.env.scope.names.lookup y = some .local := by rfl) (hk : X.env.scope.kind = .function := by rfl) (hl : (py.line == pos.line) = true := by rfl) (ha : (scope.names.any fun (n, k) => n == y && (k == .local || k == .cell)) = false := by rfl)
    (hs : ∀ x, foldedSetIterable iter X.env x = pure x := by intro _; rfl) :
    PS X (.Assign [.Name y py] (.ListComp elt [⟨tg, iter, ifs, 0⟩] scope pos) spos) (tS X.K Z W (compM fz (own.map (·.2)) mi g mc me >>= fun l => thenN (setO i l))) := by
  refine PS.wk (ps_setLc hc hN hy hyl (sw_true hk hyl hl ha) hi ok (fun s H C cl fp => ⟨fun pins s' σ H' v u Q I r ⟨Z', q⟩ => (hg s H C cl fp Z').run pins s' σ H' v u Q I r q⟩) (fun s H C cl fp => ⟨fun pins s' σ H' Q I ⟨Z', q⟩ => (ht s H C cl fp Z').run pins s' σ H' Q I q⟩)
    (fun s H C cl fp => ⟨fun pins s' σ H' Q I ⟨Z', q⟩ => (he s H C cl fp Z').run pins s' σ H' Q I q⟩) hs) fun E σ H ⟨F, A, st, R, h⟩ => lc_of (W := W) (fz := fz) (Q := fun x H1 => gName i x σ H1 E.nx) ?_
  refine ⟨F, A, st, R, h.bind.imp fun l st1 F1 H1 A1 R1 m1 z p vs lo => ?_⟩
  obtain ⟨st3, e3, qq⟩ := thenN_S z
  obtain ⟨hi, rfl⟩ := setO_some e3
  exact qq _ F1 H1 A1 (R1.setOwn (by rw [← R1.len]; exact hi) lo) .refl
end
end
end J
end
section
namespace J
open PySem PySem.Spec PyProof.Rows L2
section
variable {X : Cx} {K : PySem.W.Frag} {Z : Ent} {W : WX} {F H : Hp} {A : Fps} {σ : L2.St} {st : Sta} {pos p apos py : Pos} {a b c e o : Expr} {es : List Expr} {ma mb mc mo : M D} {x : Str} {n i : Nat} {m : M (List D)} {E : Ends}

def ownM (i : Nat) : M (List D) := fun st => match st.r[i]? with
  | some (some (.own l)) => .ok l st
  | _ => .stk
theorem ownM_ok {α : Type} {f : List D → M α} {C : α → Sta → Hp → Hp → Fps → Prop} (R : Rel K Z F H A σ st) (h : After K Z W σ F A ((ownM i >>= f) st) C) :
    ∃ l q vs, st.r[i]? = some (some (.own l)) ∧ σ[i]? = some (some (.ref q)) ∧ H q = some (.lst vs) ∧ Reps K A F vs l ∧ After K Z W σ F A (f l st) C := by
  rw [bind_eq] at h
  unfold ownM at h
  cases e : st.r[i]? with
  | none => rw [e] at h; exact h.elim
  | some s =>
    cases s with
    | none => rw [e] at h; exact h.elim
    | some sl =>
      rw [e] at h
      cases sl with
      | val d => exact h.elim
      | own l =>
        obtain ⟨q, vs, e2, h1, r, _⟩ := R.loc i _ e
        exact ⟨l, q, vs, rfl, e2, h1, r, h⟩
theorem ownM_okS {f : List D → M Fl} (R : Rel K Z F H A σ st) (h : AfterS K Z W E F A ((ownM i >>= f) st)) :
    ∃ l q vs, st.r[i]? = some (some (.own l)) ∧ σ[i]? = some (some (.ref q)) ∧ H q = some (.lst vs) ∧ Reps K A F vs l ∧ AfterS K Z W E F A (f l st) := by
  rw [bind_eq] at h
  unfold ownM at h
  cases e : st.r[i]? with
  | none => rw [e] at h; exact h.elim
  | some s =>
    cases s with
    | none => rw [e] at h; exact h.elim
    | some sl =>
      rw [e] at h
      cases sl with
      | val d => exact h.elim
      | own l =>
        obtain ⟨q, vs, e2, h1, r, _⟩ := R.loc i _ e
        exact ⟨l, q, vs, rfl, e2, h1, r, h⟩
def putO (i : Nat) (f : List D → Option (List D)) : Tg := fun st => match st.r[i]? with
  | some (some (.own l)) => (f l).map fun l' => st.set i (some (.own l'))
  | _ => none
theorem putO_ok {f : List D → Option (List D)} {st' : Sta} (R : Rel K Z F H A σ st) (h : putO i f st = some st') :
    ∃ l l' q vs, st.r[i]? = some (some (.own l)) ∧ σ[i]? = some (some (.ref q)) ∧ H q = some (.lst vs) ∧ Reps K A F vs l ∧ f l = some l' ∧ st' = st.set i (some (.own l')) := by
  unfold putO at h
  cases e : st.r[i]? with
  | none => rw [e] at h; cases h
  | some s =>
    cases s with
    | none => rw [e] at h; cases h
    | some sl =>
      rw [e] at h
      cases sl with
      | val d => cases h
      | own l =>
        obtain ⟨q, vs, e2, h1, r, _⟩ := R.loc i _ e
        obtain ⟨l', e3, e4⟩ := Option.map_eq_some_iff.mp h
        exact ⟨l, l', q, vs, rfl, e2, h1, r, e3, e4.symm⟩
def appL (d : D) (l : List D) : Option (List D) := if l.length < 1000000 then some (l ++ [d]) else none
/-- x.append(e) -/
theorem js_app {ap : Pos} (ha : PE X a (tM X.K Z W ma)) (hN : X.N[i]? = some x := by rfl) (hv : Vis X.env.scope x := by first | exact Or.inl rfl | exact Or.inr (Or.inl rfl) | exact Or.inr (Or.inr rfl)) (hd : (x == ("__debug__" : Str)) = false := by decide)
    (hcd : (x == ("__classdict__" : Str)) = false := by decide) (hbase : attributeBase (.Name x py) "append" X.env (eval (.Name x py) X.env) = eval (.Name x py) X.env := by rfl)
    (hfew : ((backTo ap (starEach [a] X.env)).all (fun x => !x.1) && (backToKw ap (keywordEach [] X.env)).all (fun x => x.1.isSome)
      && decide (([a] : List Expr).length + ([] : List Keyword).length + (if ([] : List Keyword).isEmpty then 0 else 1) < 30)) = true := by rfl)
    (hline : (apos.endLine == ap.line) = true := by rfl) (hs : starEach [a] X.env = (false, eval a X.env) :: starEach [] X.env := by rfl) (hplain : (backTo ap (starEach [] X.env)).any (·.1) = false := by rfl)
    (hsw : swapsWith (.Call (.Attribute (.Name x py) "append" apos) [a] [] ap) none pos.line X.env = pure false := by rfl) :
    PS X (.Expr (.Call (.Attribute (.Name x py) "append" apos) [a] [] ap) pos) (tS X.K Z W (ownM i >>= fun _ => ma >>= fun d => thenN (putO i (appL d)))) := by
  refine PS.wk (ps_expr (pe_bm F.plainAttrs_list F.slot_list_append F.type_list_append mt_append (pe_var hN hv hd hcd) (pa_cons ha pa_nil hs) hbase hfew hline hs hplain) hsw) fun E σ H ⟨F, A, st, R, h⟩ => ?_
  obtain ⟨l, q, vs, e1, e2, h1, r1, h⟩ := ownM_okS R h
  refine ⟨.ref q, e2, .inl ⟨rfl, vs, .inl (.inl h1)⟩, F, A, st, R, h.bind.imp fun d st1 F1 H1 A1 R1 m1 z v rv => ?_⟩
  obtain ⟨st2, e3, z⟩ := thenN_S z
  obtain ⟨l2, l3, q2, vs2, e4, e5, h2, r2, e6, rfl⟩ := putO_ok R1 e3
  rw [e2] at e5
  cases e5
  unfold appL at e6
  by_cases hl : l2.length < 1000000
  · rw [if_pos hl] at e6
    cases e6
    exact ⟨q, vs2, v, rfl, rfl, h2, by rw [r2.length, sizeLine_eq]; omega, z _ F1 _ A1 (R1.write e4 e2 h2 (r2.append (.cons rv .nil))) .refl⟩
  · rw [if_neg hl] at e6
    cases e6
def setL (d k : D) (l : List D) : Option (List D) := match k with
  | .int j => (ixN l.length j).map fun n => l.set n d
  | _ => none
/-- x[k] = e -/
theorem js_setIx {px pt : Pos} (ha : PE X a (tM X.K Z W ma)) (hb : PE X b (tM X.K Z W mb)) (hN : X.N[i]? = some x := by rfl) (hv : Vis X.env.scope x := by first | exact Or.inl rfl | exact Or.inr (Or.inl rfl) | exact Or.inr (Or.inr rfl)) (hd : (x == ("__debug__" : Str)) = false := by decide)
    (hcd : (x == ("__classdict__" : Str)) = false := by decide)
    (hs : swapsWithSole [.Subscript (.Name x px) b pt] a pos.line X.env = pure false := by rfl) (hw : swappedStores [.Subscript (.Name x px) b pt] a X.env = pure none := by rfl)
    (h1 : (assignEach [.Subscript (.Name x px) b pt] X.env).map (·.2) = [assign (.Subscript (.Name x px) b pt) X.env] := by rfl)
    (hg : ∀ v, assign (.Subscript (.Name x px) b pt) X.env v = (do
      let ov ← holding [v] (eval (.Name x px) X.env)
      let iv ← holding [v, ov] (eval b X.env)
      standAt pt
      holding [v, ov, iv] (setItem ov iv v)
      release [v, ov, iv] []) := by intro _; rfl) :
    PS X (.Assign [.Subscript (.Name x px) b pt] a pos) (tS X.K Z W (ma >>= fun d => ownM i >>= fun _ => mb >>= fun k => thenN (putO i (setL d k)))) := by
  refine PS.wk (ps_asg ha (pg_sub (pe_var hN hv hd hcd) hb set_list hg) hs hw h1) fun E σ H ⟨F, A, st, R, h⟩ => ?_
  obtain ⟨F', A', st', R', z⟩ := one_S R h
  refine ⟨F', A', st', R', z.imp fun d st1 F1 H1 A1 R1 m1 z v r => ?_⟩
  obtain ⟨d', F2, A2, st2, R2, m2, r2, z⟩ := z v r
  obtain ⟨l, q, vs, e1, e2, h1, r1, z⟩ := ownM_okS R2 z
  refine ⟨.ref q, e2, F2, A2, st2, R2, z.bind.imp fun k st3 F3 H3 A3 R3 m3 z iv ri => ?_⟩
  obtain ⟨st4, e3, z⟩ := thenN_S z
  obtain ⟨l2, l3, q2, vs2, e4, e5, h2, r4, e6, rfl⟩ := putO_ok R3 e3
  rw [e2] at e5
  cases e5
  cases k with
  | int j =>
    cases ri
    obtain ⟨k2, e7, e8⟩ := Option.map_eq_some_iff.mp (show (ixN l2.length j).map _ = some l3 from e6)
    subst e8
    exact ⟨q, vs2, j, k2, rfl, rfl, h2, by rw [r4.length]; exact e7, z _ F3 _ A3 (R3.write e4 e2 h2 (r4.set (r2.mono m3) k2)) .refl⟩
  | _ => cases e6
/-- x.pop(k) -/
def popM (i : Nat) (k : D) : M D := fun st => match st.r[i]?, k with
  | some (some (.own l)), .int j => if -(2 ^ 63) ≤ j ∧ j < 2 ^ 63 then (match seqIndex? j l.length with
    | some n => (match l[n]? with
      | some d => .ok d (st.set i (some (.own (l.eraseIdx n))))
      | none => .stk)
    | none => .stk) else .stk
  | _, _ => .stk
theorem Reps.erase : ∀ {vs : List V} {ds : List D} (j : Nat), Reps K A F vs ds → Reps K A F (vs.eraseIdx j) (ds.eraseIdx j)
  | _, _, _, .nil => .nil
  | _, _, 0, .cons _ t => t
  | _, _, j + 1, .cons r t => .cons r (Reps.erase j t)
theorem je_popAt {ap : Pos} (ha : PE X a (tM X.K Z W ma)) (hN : X.N[i]? = some x := by rfl) (hv : Vis X.env.scope x := by first | exact Or.inl rfl | exact Or.inr (Or.inl rfl) | exact Or.inr (Or.inr rfl)) (hd : (x == ("__debug__" : Str)) = false := by decide)
    (hcd : (x == ("__classdict__" : Str)) = false := by decide) (hbase : attributeBase (.Name x py) "pop" X.env (eval (.Name x py) X.env) = eval (.Name x py) X.env := by rfl)
    (hfew : ((backTo ap (starEach [a] X.env)).all (fun x => !x.1) && (backToKw ap (keywordEach [] X.env)).all (fun x => x.1.isSome)
      && decide (([a] : List Expr).length + ([] : List Keyword).length + (if ([] : List Keyword).isEmpty then 0 else 1) < 30)) = true := by rfl)
    (hline : (apos.endLine == ap.line) = true := by rfl) (hs : starEach [a] X.env = (false, eval a X.env) :: starEach [] X.env := by rfl) (hplain : (backTo ap (starEach [] X.env)).any (·.1) = false := by rfl) :
    PE X (.Call (.Attribute (.Name x py) "pop" apos) [a] [] ap) (tM X.K Z W (ownM i >>= fun _ => ma >>= fun k => popM i k)) := by
  refine PE.wk (pe_bm F.plainAttrs_list F.slot_list_pop F.type_list_pop mt_popAt (pe_var hN hv hd hcd) (pa_cons ha pa_nil hs) hbase hfew hline hs hplain) fun σ H Q ⟨F, A, st, R, h⟩ => ?_
  obtain ⟨l, q, vs, e1, e2, h1, r1, h⟩ := ownM_ok R h
  refine ⟨.ref q, e2, .inl ⟨rfl, vs, .inl (.inl h1)⟩, F, A, st, R, h.bind.imp fun k st1 F1 H1 A1 R1 m1 z v rv => ?_⟩
  unfold popM at z
  cases e : st1.r[i]? with
  | none => rw [e] at z; exact z.elim
  | some s =>
    cases s with
    | none => rw [e] at z; exact z.elim
    | some sl =>
      rw [e] at z
      cases sl with
      | val d => exact z.elim
      | own l2 =>
        obtain ⟨q2, vs2, e5, h2, r2, _⟩ := R1.loc i _ e
        rw [e2] at e5
        cases e5
        cases k with
        | int j =>
          cases rv
          have z : After X.K Z W σ F1 A1 (if -(2 ^ 63) ≤ j ∧ j < 2 ^ 63 then (match seqIndex? j l2.length with
            | some n => (match l2[n]? with
              | some d => .ok d (st1.set i (some (.own (l2.eraseIdx n))))
              | none => .stk)
            | none => .stk) else .stk) fun d _ F' H' A' => ∀ v, Rep X.K A' F' v d → Q v H' := z
          by_cases hj : -(2 ^ 63) ≤ j ∧ j < 2 ^ 63
          · rw [if_pos hj] at z
            cases e7 : seqIndex? j l2.length with
            | none => rw [e7] at z; exact z.elim
            | some n =>
              rw [e7] at z
              have z : After X.K Z W σ F1 A1 (match l2[n]? with
                | some d => .ok d (st1.set i (some (.own (l2.eraseIdx n))))
                | none => .stk) fun d _ F' H' A' => ∀ v, Rep X.K A' F' v d → Q v H' := z
              cases e8 : l2[n]? with
              | none => rw [e8] at z; exact z.elim
              | some d =>
                rw [e8] at z
                obtain ⟨w, e9, r9⟩ := r2.get e8
                exact ⟨q, vs2, j, n, w, rfl, rfl, h2, hj.1, hj.2, by rw [r2.length]; exact e7, e9, z F1 _ A1 (R1.write e e2 h2 (r2.erase n)) .refl _ r9⟩
          · rw [if_neg hj] at z
            exact z.elim
        | _ => exact z.elim
def fldSet (cs : List Str) (g : Str) (d o : D) : Tg := fun st => match o with
  | .obj n => (match st.S[n]? with
    | some (.ins c fs) => if c ∈ cs ∧ fs.length < 1000 then some { st with S := st.S.set n (.ins c (putD g d fs)) } else none
    | _ => none)
  | _ => none
theorem Wd.objSet {S : List MO} {n : Nat} {q : Addr} {fp : List Addr} {c : Str} {dx : Addr} {vs : List (Str × V)} {fs : List (Str × D)} {C : Str} (w : Wd K F H A S) (hA : A[n]? = some (q :: fp)) (hS : S[n]? = some (.ins c fs)) {vs' : List (Str × V)} {fs' : List (Str × D)} (r : RepF K A F vs' fs') :
    Wd K F (upd H q (.ins (He.ga K c) dx vs')) A (S.set n (.ins c fs')) := by
  obtain ⟨q', dx', vs0, e0, h0, r0⟩ := w.ok n _ _ hS hA
  injection e0 with e0 e1
  subst e0 e1
  have hq : q ∈ A.flatten := in_flat hA (by simp)
  refine ⟨fun a u h => ?_, by rw [List.length_set]; exact w.len, fun k m fp2 h1 h2 => ?_, w.nd, w.nF⟩
  · rw [upd_ne fun e => by rw [e, w.nF _ hq] at h; cases h]
    exact w.le a u h
  · by_cases hk : k = n
    · subst hk
      have hlt : k < S.length := (List.getElem?_eq_some_iff.mp hS).1
      rw [List.getElem?_set_self hlt] at h1
      rw [hA] at h2
      cases h1
      cases h2
      exact ⟨q, dx, vs', rfl, upd_same, r⟩
    · rw [List.getElem?_set_ne (Ne.symm hk)] at h1
      refine (w.ok k m fp2 h1 h2).keep .refl fun z hz => upd_ne fun e => ?_
      subst e
      -- two objects would share a place
      have n1 : n < A.length := (List.getElem?_eq_some_iff.mp hA).1
      have n2 : k < A.length := (List.getElem?_eq_some_iff.mp h2).1
      have pw := (List.pairwise_flatten.mp w.nd).2
      have i1 : A[n] = z :: [] := (List.getElem?_eq_some_iff.mp hA).2
      have i2 : A[k] = fp2 := (List.getElem?_eq_some_iff.mp h2).2
      rcases Nat.lt_or_gt_of_ne hk with hlt | hlt
      · exact List.pairwise_iff_getElem.mp pw k n n2 n1 hlt z (by rw [i2]; exact hz) z (by rw [i1]; simp) rfl
      · exact List.pairwise_iff_getElem.mp pw n k n1 n2 hlt z (by rw [i1]; simp) z (by rw [i2]; exact hz) rfl
theorem Rel.objSet {n : Nat} {q : Addr} {fp : List Addr} {c : Str} {dx : Addr} {fs fs' : List (Str × D)} {vs' : List (Str × V)} (R : Rel K Z F H A σ st) (hA : A[n]? = some (q :: fp)) (hS : st.S[n]? = some (.ins c fs)) (r : RepF K A F vs' fs') :
    Rel K Z F (upd H q (.ins (He.ga K c) dx vs')) A σ { st with S := st.S.set n (.ins c fs') } := by
  have hq : q ∈ A.flatten := in_flat hA (by simp)
  refine ⟨R.w.objSet (C := c) (vs := vs') hA hS r, ⟨R.e.mono, R.e.nw, R.e.nA, fun a u h hn => ?_, fun a h => ?_⟩, R.len, fun i sl h => ?_, R.sep⟩
  · rw [upd_ne fun e => ?_]
    · exact R.e.kp a u h hn
    · subst e
      rcases R.e.nA _ hq with z | z
      · exact hn z
      · rw [h] at z; cases z
  · by_cases e : a = q
    · subst e; rw [upd_same]; simp
    · rw [upd_ne e]; exact R.e.th a h
  · have z := R.loc i sl h
    cases sl with
    | val d => exact z
    | own l =>
      obtain ⟨q', ws, e', h1', r', f', n', z'⟩ := z
      exact ⟨q', ws, e', by rw [upd_ne fun e => n' (by rw [e]; exact hq)]; exact h1', r', f', n', z'⟩
/-- o.f = e -/
theorem js_fld {cs : List Str} {g : Str} {p' : Pos} (hc : ∀ c ∈ cs, FldC X.K c g) (ho : PE X o (tM X.K Z W mo)) (ha : PE X a (tM X.K Z W ma)) (hs : swapsWith a (some (.Attribute o g p')) pos.line X.env = pure false := by rfl) :
    PS X (.Assign [.Attribute o g p'] a pos) (tS X.K Z W (ma >>= fun d => mo >>= fun u => thenN (fldSet cs g d u))) := by
  refine PS.wk (ps_fld ho ha hs) fun E σ H ⟨F, A, st, R, h⟩ => ?_
  obtain ⟨F', A', st', R', z⟩ := one_S R h
  refine ⟨F', A', st', R', z.imp fun d st1 F1 H1 A1 R1 m1 z v r => ?_⟩
  obtain ⟨d', F2, A2, st2, R2, m2, r2, z⟩ := z v r
  obtain ⟨F', A', st', R', z⟩ := one_S R2 z
  refine ⟨F', A', st', R', z.imp fun u st3 F3 H3 A3 R3 m3 z v' r' => ?_⟩
  obtain ⟨u', F4, A4, st4, R4, m4, r4, z⟩ := z v' r'
  obtain ⟨st5, e5, z⟩ := thenN_S z
  unfold fldSet at e5
  cases u' with
  | obj n =>
    cases r4 with
    | obj hA =>
      rename_i q fp
      cases e : st4.S[n]? with
      | none => simp only [e] at e5; cases e5
      | some mo =>
        simp only [e] at e5
        cases mo with
        | ins c fs =>
          have e5 : (if c ∈ cs ∧ fs.length < 1000 then some ({ st4 with S := st4.S.set n (.ins c (putD g d' fs)) } : Sta) else none) = some st5 := e5
          by_cases hcs : c ∈ cs ∧ fs.length < 1000
          · rw [if_pos hcs] at e5
            cases e5
            obtain ⟨a', dx, vs, ee, h1, rf⟩ := R4.w.ok n _ _ e hA
            injection ee with ee ee2
            subst ee
            obtain ⟨c1, c2⟩ := hc c hcs.1
            refine ⟨q, _, dx, vs, rfl, h1, c1, c2, by rw [rf.length]; exact hcs.2, ?_⟩
            exact z σ F4 _ A4 (R4.objSet hA e (rf.put (r2.mono m4))) .refl
          · rw [if_neg hcs] at e5
            cases e5
        | _ => cases e5
  | _ => cases e5
end
end J
end
section
namespace J
open PySem PySem.Spec PyProof.Rows L2
section
variable {X : Cx} {K : PySem.W.Frag} {Z : Ent} {W : WX} {F H : Hp} {A : Fps} {σ : L2.St} {st : Sta} {pos p apos py : Pos} {a b c e o : Expr} {es : List Expr} {ma mb mc mo : M D} {x : Str} {n i k : Nat} {m : M (List D)} {E : Ends}
variable {op1 op2 : CmpOp} {g1 g2 : D → D → Option D}
def chainM (ma mb mc : M D) (g1 g2 : D → D → Option D) : M D := ma >>= fun x => mb >>= fun y => M.of ((g1 x y).bind D.isB) >>= fun t => if t = true then mc >>= fun z => M.of (g2 y z) else pure (.bl false)
theorem opB {op : CmpOp} {g : D → D → Option D} (ho : OpJ X (compareOp op) g) {pins : List (Addr × Obj)} {s : Shared} {x y : V} {v u : Value} {d e : D} {Q : Bool → Shared → Prop} {C : Bool → Sta → Hp → Hp → Fps → Prop} (I : Inv X pins σ H s) (R : Rel X.K Z F H A σ st) (rx : RelV x v) (ry : RelV y u) (r1 : Rep X.K A F x d) (r2 : Rep X.K A F y e)
    (h : After X.K Z W σ F A (M.of ((g d e).bind D.isB) st) C) (q : ∀ bb F' H' s', Inv X pins σ H' s' → Rel X.K Z F' H' A σ st → Mono F A F' A → C bb st F' H' A → Q bb s') :
    wpAny (model X.prog X.w) X.A (compareOp op v u) (fun c s₂ => wpAny (model X.prog X.w) X.A (truthy c) Q X.xe s₂) X.xe s := by
  obtain ⟨bb, e1, z⟩ := of_after h
  obtain ⟨res, e2, e3⟩ := Option.bind_eq_some_iff.mp e1
  refine thn (ho Z pins s σ H F A st x y v u d e res (fun v' H' => ∃ F', v' = .bl bb ∧ Rel X.K Z F' H' A σ st ∧ Mono F A F' A) I R rx ry r1 r2 e2 fun v' F' H' R' m' r' => ⟨F', isB_rep r' e3, R', m'⟩) fun w s3 ⟨zz, H3, I3, r3, F', e4, R3, m3⟩ => ?_
  subst e4
  obtain rfl : w = .bool bb := r3
  exact wpAny_truthy_bool (q bb F' H3 s3 I3 R3 m3 (z F' H3 A R3 m3))
theorem je_cmp2 (h1 : OpJ X (compareOp op1) g1) (h2 : OpJ X (compareOp op2) g2) (ha : PE X a (tM X.K Z W ma)) (hb : PE X b (tM X.K Z W mb)) (hc : PE X c (tM X.K Z W mc)) (hm : lastMarks [op1, op2] [b, c] = false := by with_unfolding_all rfl) :
    PE X (.Compare a [op1, op2] [b, c] pos) (tM X.K Z W (chainM ma mb mc g1 g2)) := by
  refine ⟨fun pins s σ H Q I ⟨F, A, st, R, h⟩ => Compare_chain (thn (ha.run pins s σ H _ I (two_ R h)) fun v s1 ⟨x, H1, I1, rx, q1⟩ => chain_link (thn (hb.run pins s1 σ H1 _ I1 q1) fun u s2 ⟨y, H2, I2, ry, d, e, F2, A2, st2, R2, r1, r2, m, q⟩ => ?_)) hm⟩
  obtain ⟨bb, e1, z⟩ := of_after q.bind
  obtain ⟨res, e2, e3⟩ := Option.bind_eq_some_iff.mp e1
  refine thn (h1 Z pins s2 σ H2 F2 A2 st2 x y v u d e res (fun v' H' => ∃ F', v' = .bl bb ∧ Rel X.K Z F' H' A2 σ st2 ∧ Mono F2 A2 F' A2) I2 R2 rx ry r1 r2 e2 fun v' F' H' R' m' r' => ⟨F', isB_rep r' e3, R', m'⟩) fun w s3 ⟨zz, H3, I3, r3, F3, e4, R3, m3⟩ => ?_
  subst e4
  obtain rfl : w = .bool bb := r3
  have z := z F3 H3 A2 R3 m3
  refine wpAny_truthy_bool ?_
  cases bb with
  | false =>
    rw [if_neg Bool.false_ne_true] at z ⊢
    exact ⟨.bl false, H3, I3, rfl, z F3 H3 A2 R3 .refl _ (.bl false)⟩
  | true =>
    rw [if_pos rfl] at z ⊢
    refine chain_last (thn (hc.run pins s3 σ H3 _ I3 (one_ R3 z)) fun w2 s4 ⟨y2, H4, I4, ry2, d2, F4, A4, st4, R4, m4, r4, z⟩ => ?_)
    obtain ⟨res2, e5, z⟩ := of_after z
    exact h2 Z pins s4 σ H4 F4 A4 st4 y y2 u w2 e d2 res2 Q I4 R4 ry ry2 (r2.mono (m3.trans m4)) r4 e5 fun v' F' H' R' m' r' => z F' H' A4 R' m' v' r'
theorem jt_cmp2 (h1 : OpJ X (compareOp op1) g1) (h2 : OpJ X (compareOp op2) g2) (ha : PE X a (tM X.K Z W ma)) (hb : PE X b (tM X.K Z W mb)) (hc : PE X c (tM X.K Z W mc)) (hm : lastMarks [op1, op2] [b, c] = false := by with_unfolding_all rfl) :
    PT X (.Compare a [op1, op2] [b, c] pos) (J.tB X.K Z W (ma >>= fun x => mb >>= fun y => M.of ((g1 x y).bind D.isB) >>= fun t => if t = true then mc >>= fun z => M.of ((g2 y z).bind D.isB) else pure false)) := by
  refine ⟨fun pins s σ H Q I ⟨F, A, st, R, h⟩ => isTrue_chain (thn (ha.run pins s σ H _ I (two_ R h)) fun v s1 ⟨x, H1, I1, rx, q1⟩ => test_link (thn (hb.run pins s1 σ H1 _ I1 q1) fun u s2 ⟨y, H2, I2, ry, d, e, F2, A2, st2, R2, r1, r2, m, q⟩ => ?_)) hm⟩
  refine opB h1 I2 R2 rx ry r1 r2 q.bind fun bb F3 H3 s3 I3 R3 m3 z => ?_
  cases bb with
  | false =>
    rw [if_neg Bool.false_ne_true] at z ⊢
    exact ⟨H3, I3, z F3 H3 A2 R3 .refl⟩
  | true =>
    rw [if_pos rfl] at z ⊢
    refine test_last (thn (hc.run pins s3 σ H3 _ I3 (one_ R3 z)) fun w2 s4 ⟨y2, H4, I4, ry2, d2, F4, A4, st4, R4, m4, r4, z⟩ => ?_)
    exact opB h2 I4 R4 ry ry2 (r2.mono (m3.trans m4)) r4 z fun bb2 F5 H5 s5 I5 R5 m5 z => ⟨H5, I5, z⟩
section
variable {prog : Program} {w : World} {A : Around} {E : Value → Shared → Prop} {s : Shared} {C f q : Addr} {ox : Obj} {od : Option Obj} {v tv : Value}
theorem rich_own {op : CmpOp} {Q : Value → Shared → Prop} (hu : A.units < cLine) (kin : K.In s.heap) (I : PySem.W.InstAt s.heap q ox C od) (hb : PySem.W.Looks (model prog w) s.heap (typeOf v) tv) (hn : PySem.W.notFirst K C tv = true)
    (one : wpAny (model prog w) A (tryCompare (.ref q) (cmpInfo op).2.1 v) (fun r s' => ∃ u, r = some u ∧ Q u s') E s) : wpAny (model prog w) A (richCompare op (.ref q) v) Q E s := by
  have fin : ∀ {t : Option Value → Sem Value}, (∀ u, t (some u) = pure u) → wpAny (model prog w) A (tryCompare (.ref q) (cmpInfo op).2.1 v >>= t) Q E s := fun {t} ht => wpAny_bind (wpAny_mono one (fun r s' ⟨u, e, hq⟩ => by
    subst e
    rw [ht]
    exact wpAny_pure hq) fun _ _ x => x)
  unfold richCompare
  simp only [oneThing_ref]
  refine wpAny_holding (wpAny_bind (wpAny_cRoomFor hu (wpAny_bind (I.type.here (wpAny_bind (hb.here ?_))))))
  split
  · rename_i hc
    have hs : PySem.W.subIn K tv (.ref C) = some false := by
      rcases Bool.or_eq_true_iff.mp hn with e | e
      · rw [beq_iff_eq.mp e] at hc; simp at hc
      · exact beq_iff_eq.mp e
    refine wpAny_bind ((PySem.W.looks_subIn kin hs).here ?_)
    simp only [Bool.false_eq_true, if_false]
    exact fin fun _ => rfl
  · refine wpAny_bind (wpAny_pure ?_)
    simp only [Bool.false_eq_true, if_false]
    exact fin fun _ => rfl
theorem if_own {M : Model} {args : List Value} {name : Str} {Q : Option Value → Shared → Prop} (kin : K.In s.heap) (I : PySem.W.InstAt s.heap q ox C od) (hs : PySem.W.findIn K (.ref C) name = some (some (.ref f))) (hf : PySem.W.isFn K (.ref f) = true)
    (h : wpAny M A (call (.ref f) (.ref q :: args)) (fun v => Q (some v)) E s) : wpAny M A (callSpecialIfBound? (.ref q) name args) Q E s := PySem.W.ifBound_K kin I hs hf h
theorem if_builtin {M : Model} {args : List Value} {name : Str} {id : String} {Q : Option Value → Shared → Prop} (kin : K.In s.heap) (I : PySem.W.InstAt s.heap q ox C od) (hs : PySem.W.findIn K (.ref C) name = some (some (.builtin id))) (hb : ∀ self, bindSpecial (.builtin id) self = pure (.builtin id, [self]))
    (h : wpAny M A (call (.builtin id) (.ref q :: args)) (fun v => Q (some v)) E s) : wpAny M A (callSpecialIfBound? (.ref q) name args) Q E s := by
  have fin : wpAny M A (call (.builtin id) ([.ref q] ++ args) >>= fun v => pure (some v)) Q E s := wpAny_bind (wpAny_mono h (fun v s' z => wpAny_pure z) fun _ _ z => z)
  simp only [callSpecialIfBound?, bindSpecialIfBound?]
  refine wpAny_holding (wpAny_bind (wpAny_bind (wpAny_bind (I.type.here ((PySem.W.looks_findIn kin hs).here ?_)))))
  simp only [hb]
  refine wpAny_bind (wpAny_askSetting (wpAny_ite ?_))
  split
  · exact wpAny_bind (wpAny_pure (wpAny_pure fin))
  · exact wpAny_tryCatch (wpAny_bind (wpAny_pure (wpAny_pure fin)))
theorem eq_own {Q : Value → Shared → Prop} (hu : A.units < cLine) (kin : K.In s.heap) (I : PySem.W.InstAt s.heap q ox C od) (hb : PySem.W.Looks (model prog w) s.heap (typeOf v) tv) (hn : PySem.W.notFirst K C tv = true)
    (hs : PySem.W.findIn K (.ref C) "__eq__" = some (some (.ref f))) (hf : PySem.W.isFn K (.ref f) = true) (h : wpAny (model prog w) A (call (.ref f) [.ref q, v]) (fun u s' => ∃ r, u = .bool r ∧ Q (.bool r) s') E s) : wpAny (model prog w) A (richCompare .Eq (.ref q) v) Q E s := by
  refine rich_own hu kin I hb hn ?_
  unfold tryCompare
  refine wpAny_bind (if_own kin I hs hf (wpAny_mono h (fun u s' ⟨r, e, hq⟩ => ?_) fun _ _ z => z))
  subst e
  exact wpAny_pure ⟨_, rfl, hq⟩
set_option maxHeartbeats 1000000 in
theorem ne_own {Q : Value → Shared → Prop} (hu : A.units + 1 < cLine) (kin : K.In s.heap) (I : PySem.W.InstAt s.heap q ox C od) (hb : PySem.W.Looks (model prog w) s.heap (typeOf v) tv) (hn : PySem.W.notFirst K C tv = true) (hne : PySem.W.findIn K (.ref C) "__ne__" = some (some (.builtin "object.__ne__")))
    (hob : PySem.W.mroIn K C (.type "object") = some true)
    (hs : PySem.W.findIn K (.ref C) "__eq__" = some (some (.ref f))) (hf : PySem.W.isFn K (.ref f) = true) (h : wpAny (model prog w) A.in1 (call (.ref f) [.ref q, v]) (fun u s' => ∃ r, u = .bool r ∧ Q (.bool (!r)) s') E s) : wpAny (model prog w) A (richCompare .NotEq (.ref q) v) Q E s := by
  refine rich_own (Nat.lt_of_succ_lt hu) kin I hb hn ?_
  unfold tryCompare
  have looks : PySem.W.Looks (model prog w) s.heap (isInstance (.ref q) (.type "object")) true := I.type.andThen (PySem.W.looks_subIn kin hob)
  refine wpAny_bind (if_builtin kin I hne (fun self => F.cmp_object.ne.bind self) (wpAny_call (codeAny_call_builtin F.cmp_object.ne.plain F.cmpEntry_ne (PySem.W.check_slot F.cmpKind_ne F.cmpSplit_ne looks (F.cmpArgs_ne _ _) ?_))))
  obtain ⟨hp, gg, dd, tk, os⟩ := s
  unfold Builtin.«object.__ne__»
  repeat (first
    | with_reducible refine wpAny_cRoomFor hu ?_
    | (refine wpAny_bind (m := callSpecialIfBound? (.ref q) (Str.ofString "__eq__") [v])
        (if_own kin I hs hf (wpAny_mono h (fun u s' hr => by
          obtain ⟨r, rfl, hq⟩ := hr
          repeat (first | exact ⟨_, rfl, hq⟩ | exact wpAny_pure ⟨_, rfl, hq⟩ | exact wpAny_truthy_bool ⟨_, rfl, hq⟩ | (refine wpAny_bind (m := truthy (.bool _)) (wpAny_truthy_bool ?_)) | wp_step)) fun _ _ z => z)))
    | wp_step)
end

/-- a class with an own __eq__, and none of the others that == and != ask -/
structure EqC (X : Cx) (k : Nat) (c : Str) (mf : Mf) : Prop where
  ex : ∃ f fd ps j, FnG X.prog X.w X.K X.mg X.base j f fd ps (spM X.K 2 mf) ∧ j + 1 ≤ k ∧ Binds X.K fd ps [] ∧ PySem.W.findIn X.K (.ref (He.ga X.K c)) "__eq__" = some (some (.ref f)) ∧ PySem.W.isFn X.K (.ref f) = true
  cl : Cls X.K (He.ga X.K c)
  ne : PySem.W.findIn X.K (.ref (He.ga X.K c)) "__ne__" = some (some (.builtin "object.__ne__"))
  ob : PySem.W.mroIn X.K (He.ga X.K c) (.type "object") = some true
/-- x == y (neg: !=): an instance on the left asks its own __eq__ -/
def eqM (tab : Str → Option Mf) (neg : Bool) (x y : D) : M D := fun st => match clsOf x st.S with
  | some (c, _) => (match tab c with
    | some mf => (match clsOf y st.S with
      | some (c', _) => if c' = c then (match callM mf [x, y] st with
        | .ok (.bl r) st' => .ok (.bl (if neg = true then !r else r)) st'
        | _ => .stk) else .stk
      | none => .stk)
    | none => .stk)
  | none => M.of (if neg = true then dNe x y else dEq x y) st
def cmpN (neg : Bool) : CmpOp := if neg = true then .NotEq else .Eq
theorem eq_run {tab : Str → Option Mf} {neg : Bool} (ht : ∀ c mf, tab c = some mf → EqC X k c mf) (jc : JC X k W) {pins : List (Addr × Obj)} {s : Shared} {x y : V} {v u : Value} {d e : D} {Q : VK} (I : Inv X pins σ H s) (R : Rel X.K Z F H A σ st) (rx : RelV x v) (ry : RelV y u) (r1 : Rep X.K A F x d) (r2 : Rep X.K A F y e)
    (h : After X.K Z W σ F A (eqM tab neg d e st) fun d _ F' H' A' => ∀ v, Rep X.K A' F' v d → Q v H') : wpAny (model X.prog X.w) X.A (compareOp (cmpN neg) v u) (EP X pins σ Q) X.xe s := by
  have hu := jc.room.units
  unfold eqM at h
  cases ec : clsOf d st.S with
  | none =>
    simp only [ec] at h
    obtain ⟨res, e1, z⟩ := of_after h
    cases neg with
    | true => exact oj_ne hu Z pins s σ H F A st x y v u d e res Q I R rx ry r1 r2 e1 fun v' F' H' R' m' r' => z F' H' A R' m' v' r'
    | false => exact oj_eq hu Z pins s σ H F A st x y v u d e res Q I R rx ry r1 r2 e1 fun v' F' H' R' m' r' => z F' H' A R' m' v' r'
  | some ck =>
    obtain ⟨c, ks⟩ := ck
    simp only [ec] at h
    cases et : tab c with
    | none => simp only [et] at h; exact h.elim
    | some mf =>
      simp only [et] at h
      cases ey : clsOf e st.S with
      | none => simp only [ey] at h; exact h.elim
      | some ck' =>
        obtain ⟨c', ks'⟩ := ck'
        simp only [ey] at h
        by_cases hc : c' = c
        · rw [if_pos hc] at h
          subst hc
          obtain ⟨⟨f, fd, ps, j, G, hj, hb, heq, hfn⟩, cl, hne, hob⟩ := ht c' mf et
          obtain ⟨a1, dx1, vs1, e1, h1, _⟩ := cls_rep R r1 ec
          obtain ⟨a2, dx2, vs2, e2, h2, _⟩ := cls_rep R r2 ey
          subst e1
          subst e2
          obtain rfl : v = Value.ref a1 := rx
          obtain rfl : u = Value.ref a2 := ry
          cases q : callM mf [d, e] st with
          | stk => rw [q] at h; exact h.elim
          | err _ _ => rw [q] at h; exact h.elim
          | ok res st' =>
            rw [q] at h
            cases res with
            | bl r =>
              have h0 : After X.K Z (fun _ _ _ _ => False) σ F A (callM mf [d, e] st) fun d st' F' H' A' => d = .bl r ∧ ∀ v, Rep X.K A' F' v (.bl (if neg = true then !r else r)) → Q v H' := by
                rw [q]
                exact fun F' H' A' R' m' => ⟨rfl, h F' H' A' R' m'⟩
              have sp := spM_call (n := 2) R (Reps.cons r1 (.cons r2 .nil)) rfl h0
              obtain ⟨mA1, ob1, _⟩ := ins_get I.hok h1
              obtain ⟨od1, at1, _⟩ := ob1.look
              obtain ⟨mA2, ob2, _⟩ := ins_get I.hok h2
              obtain ⟨od2, at2, _⟩ := ob2.look
              have hl : ([Value.ref a1, .ref a2] ++ ([] : List Value)).length = ps.length := (G.len _ _ _ _ sp)
              have self : PySem.W.notFirst X.K (He.ga X.K c') (.ref (He.ga X.K c')) = true := by unfold PySem.W.notFirst; simp
              have fin : ∀ {A0 : Around}, A0.frames = X.A.frames → Room j A0 → A0.guards = some [] → Env0 X.prog X.w X.K X.mg X.base A0 X.stack s H →
                  wpAny (model X.prog X.w) A0 (call (.ref f) [.ref a1, .ref a2]) (fun u s' => ∃ r', u = .bool r' ∧ EP X pins σ Q (.bool (if neg = true then !r' else r')) s') X.xe s := fun {A0} _ room hgs env => by
                apply wpAny_call
                refine codeAny_mono (G.run A0 X.stack s H ⟨[.ref a1, .ref a2], []⟩ [.ref a1, .ref a2] [.ref a1, .ref a2] _ _ room hgs env (hb s [.ref a1, .ref a2] I.kIn hl) (.cons rfl (.cons rfl .nil)) sp) fun rr s' post => ?_
                match rr, post with
                | .ok (.ret u), post =>
                  obtain ⟨v, H', I3, rv, d', st2, F', A', R', m', r', e', q3⟩ := I.after post
                  subst e'
                  cases r'
                  obtain rfl : u = .bool r := rv
                  exact ⟨r, rfl, .bl _, H', I3, rfl, q3 _ (.bl _)⟩
                | .ok .next, post => exact False.elim post
                | .ok .brk, post => exact False.elim post
                | .ok .cont, post => exact False.elim post
                | .error er, post =>
                  obtain ⟨_, _, _, _, _, _, _, _, _, _, _, _, zz⟩ := post
                  exact zz.elim
              cases neg with
              | false =>
                show wpAny _ _ (richCompare .Eq _ _) _ _ _
                refine eq_own (by omega) I.kIn at1 at2.type self heq hfn (thn (fin rfl (jc.room.mono (by omega)) jc.g I.env0) fun u s' ⟨r', e', q'⟩ => ⟨r', e', q'⟩)
              | true =>
                show wpAny _ _ (richCompare .NotEq _ _) _ _ _
                refine ne_own (by omega) I.kIn at1 at2.type self hne hob heq hfn (thn (fin rfl (Room.in1 (jc.room.mono hj)) jc.g I.env0.in1) fun u s' ⟨r', e', q'⟩ => ⟨r', e', q'⟩)
            | _ => exact h.elim
        · rw [if_neg hc] at h
          exact h.elim
theorem je_eqC {tab : Str → Option Mf} (neg : Bool) (ht : ∀ c mf, tab c = some mf → EqC X k c mf) (jc : JC X k W) (ha : PE X a (tM X.K Z W ma)) (hb : PE X b (tM X.K Z W mb)) (hm : behindInMarks (cmpN neg) b = false := by rfl) :
    PE X (.Compare a [cmpN neg] [b] pos) (tM X.K Z W (ma >>= fun x => mb >>= fun y => eqM tab neg x y)) := by
  refine ⟨fun pins s σ H Q I ⟨F, A, st, R, h⟩ => ?_⟩
  refine wpAny_Compare1 (binT ha hb I (two_ R h) fun v u s2 x y H2 I2 rx ry ⟨d, e, F2, A2, st2, R2, r1, r2, m, q⟩ => ?_) hm
  exact eq_run ht jc I2 R2 rx ry r1 r2 q
theorem jt_eqC {tab : Str → Option Mf} (neg : Bool) (ht : ∀ c mf, tab c = some mf → EqC X k c mf) (jc : JC X k W) (ha : PE X a (tM X.K Z W ma)) (hb : PE X b (tM X.K Z W mb)) (hm : behindInMarks (cmpN neg) b = false := by rfl) :
    PT X (.Compare a [cmpN neg] [b] pos) (J.tB X.K Z W (ma >>= fun x => mb >>= fun y => eqM tab neg x y >>= fun d => M.of d.isB)) := by
  refine ⟨fun pins s σ H Q I ⟨F, A, st, R, h⟩ => ?_⟩
  refine wpAny_isTrue_Compare1 (binT ha hb I (two_ R h) fun v u s2 x y H2 I2 rx ry ⟨d, e, F2, A2, st2, R2, r1, r2, m, q⟩ => ?_) hm
  refine thn (eq_run (Q := fun v' H' => ∃ bb, v' = .bl bb ∧ Q bb H') ht jc I2 R2 rx ry r1 r2 (q.bind.imp fun d3 st3 F3 H3 A3 R3 m3 z v3 rv3 => ?_)) fun w s3 ⟨zz, H3, I3, r3, bb, e4, q4⟩ => ?_
  · obtain ⟨bb, e1, z⟩ := of_after z
    exact ⟨bb, isB_rep rv3 e1, z F3 H3 A3 R3 .refl⟩
  · subst e4
    obtain rfl : w = .bool bb := r3
    exact wpAny_truthy_bool ⟨H3, I3, q4⟩
def dRep (d : D) : Option D := (D.py d).bind fun q => if q.showable = true ∧ q.depth ≤ 40 ∧ q.shown.length ≤ 16777216 ∧ PyData.strOk q.shown = true ∧ q.hasDict = false then some (.str q.shown) else none
/-- repr of lists and tuples -/
theorem je_repr (jc : JC X k W) (hg : Gl X "repr") (hm : X.mg "repr" = none) (hv : bootBuiltins "repr" = some (.builtin "repr")) (ha : PE X a (tM X.K Z W ma)) (he : starEach [a] X.env = (false, eval a X.env) :: starEach [] X.env := by rfl) :
    PE X (.Call (.Name "repr" p) [a] [] pos) (tM X.K Z W (ma >>= fun d => M.of (match d with | .lst _ => dRep d | .tup _ => dRep d | _ => none))) := by
  refine PE.wk (pe_callB (r := fun xs H Q => ∃ q l d, xs = [V.ref q] ∧ Dp X.K H (.ref q) d ∧ d.showable = true ∧ d.depth ≤ 40 ∧ d.shown.length ≤ 16777216 ∧ d.hasDict = false ∧ l = d.shown ∧ Q (.str l) H) (fun pins s σ H xs us Q I rv ⟨q, l, d, e1, dp, h1, h2, h3, h4, e2, hq⟩ => ?_) hg hm hv (pa_cons ha pa_nil he) (by decide) (by decide) he) fun σ H Q ⟨F, A, st, R, h⟩ => ?_
  · subst e1
    subst e2
    obtain ⟨u, rfl, ru⟩ := rv.one
    cases ru
    obtain ⟨as, hr⟩ := Dp.reads I d (.ref q) (.ref q) dp rfl
    have hu := jc.room.units
    refine repr_of_reads' hr h1 (fun z => by rw [h4] at z; cases z) jc.g (by omega) (fun _ _ z => z) (fun h' u tk hk => ?_) (by rw [sizeLine_eq]; exact h3)
    exact ⟨.str _, H, I.kept hk, ⟨u, rfl⟩, hq⟩
  · refine ⟨F, A, st, R, h.bind.imp fun d st1 F1 H1 A1 R1 m1 z v r => ?_⟩
    obtain ⟨res, eg, z⟩ := of_after z
    have go : dRep d = some res → (∃ q, v = V.ref q) → ∃ q l d, [v] = [V.ref q] ∧ Dp X.K H1 (.ref q) d ∧ d.showable = true ∧ d.depth ≤ 40 ∧ d.shown.length ≤ 16777216 ∧ d.hasDict = false ∧ l = d.shown ∧ Q (.str l) H1 := fun eg ⟨q, ev⟩ => by
      subst ev
      obtain ⟨dd, e1, e2⟩ := Option.bind_eq_some_iff.mp eg
      by_cases hc : dd.showable = true ∧ dd.depth ≤ 40 ∧ dd.shown.length ≤ 16777216 ∧ PyData.strOk dd.shown = true ∧ dd.hasDict = false
      · rw [if_pos hc] at e2
        cases e2
        obtain ⟨dp, _⟩ := r.dp R1.le e1
        exact ⟨q, _, dd, rfl, dp, hc.1, hc.2.1, hc.2.2.1, hc.2.2.2.2, rfl, z F1 H1 A1 R1 .refl _ (.str hc.2.2.2.1)⟩
      · rw [if_neg hc] at e2
        cases e2
    cases r with
    | tup h t => exact go eg ⟨_, rfl⟩
    | lst h t => exact go eg ⟨_, rfl⟩
    | _ => cases eg
/-- t tells the dict's values by its keys -/
structure TabK (K : PySem.W.Frag) (w : World) (d : Addr) (t : Str → Option D) : Prop where
  kd : ∃ es n, KDict K w d es n
  ns : ∀ z, ∃ r, PySem.W.nsIn K d z = some r ∧ ((r = none ∧ t z = none) ∨ ∃ u v e, r = some u ∧ t z = some e ∧ RelV v u ∧ ∀ A F, Rep K A F v e)
abbrev TabC (X : Cx) (d : Addr) (t : Str → Option D) : Prop := TabK X.K X.w d t
def tabD (t : Str → Option D) (neg : Bool) (x : D) : Option D := match x with
  | .str z => some (.bl (if neg = true then !(t z).isSome else (t z).isSome))
  | _ => none
def cmpI (neg : Bool) : CmpOp := if neg = true then .NotIn else .In
theorem tab_op {d : Addr} {t : Str → Option D} {neg : Bool} (T : TabC X d t) {pins : List (Addr × Obj)} {s : Shared} {x : V} {v : Value} {e res : D} {Q : VK} (I : Inv X pins σ H s) (R : Rel X.K Z F H A σ st) (rx : RelV x v) (r1 : Rep X.K A F x e) (eg : tabD t neg e = some res) (h : ∀ v, Rep X.K A F v res → Q v H) :
    wpAny (model X.prog X.w) X.A (compareOp (cmpI neg) v (.ref d)) (EP X pins σ Q) X.xe s := by
  obtain ⟨es, n, kd⟩ := T.kd
  cases e with
  | str z =>
    cases r1
    cases eg
    obtain ⟨r, e1, e2⟩ := T.ns z
    have e3 : (t z).isSome = r.isSome := by
      rcases e2 with ⟨rfl, e⟩ | ⟨u, v', e', rfl, e, _⟩
      · rw [e] <;> rfl
      · rw [e] <;> rfl
    rw [e3] at h
    cases neg with
    | true => exact op_notIn_kd kd pins s σ H _ (.ref d) v (.ref d) Q I rx rfl ⟨z, r, rfl, rfl, e1, h _ (.bl _)⟩
    | false => exact op_in_kd kd pins s σ H _ (.ref d) v (.ref d) Q I rx rfl ⟨z, r, rfl, rfl, e1, h _ (.bl _)⟩
  | _ => cases eg
theorem je_tabIn {d : Addr} {t : Str → Option D} {y : Str} {py : Pos} (neg : Bool) (T : TabC X d t) (hg : Gl X y) (hm : X.mg y = some (.ref d)) (ha : PE X a (tM X.K Z W ma)) (hd : (y == ("__debug__" : Str)) = false := by decide) (hb : behindInMarks (cmpI neg) (.Name y py) = false := by rfl) :
    PE X (.Compare a [cmpI neg] [.Name y py] pos) (tM X.K Z W (ma >>= fun x => M.of (tabD t neg x))) := by
  refine ⟨fun pins s σ H Q I ⟨F, A, st, R, h⟩ => wpAny_Compare1 (thn (ha.run pins s σ H _ I (one_ R h)) fun v s1 ⟨x, H1, I1, rx, e, F1, A1, st1, R1, m1, r1, z⟩ => ?_) hb⟩
  refine thn ((pe_glob (pos := py) (v := .ref d) hg hm rfl hd).run pins s1 σ H1 (fun y H' => y = .ref d ∧ H' = H1) I1 ⟨rfl, rfl⟩) fun u s2 ⟨y', H2, I2, ry, e3, e4⟩ => ?_
  subst e3
  subst e4
  obtain rfl : u = Value.ref d := ry
  obtain ⟨res, eg, z⟩ := of_after z
  exact tab_op T I2 R1 rx r1 eg fun v' r' => z F1 _ A1 R1 .refl v' r'
theorem jt_tabIn {d : Addr} {t : Str → Option D} {y : Str} {py : Pos} (neg : Bool) (T : TabC X d t) (hg : Gl X y) (hm : X.mg y = some (.ref d)) (ha : PE X a (tM X.K Z W ma)) (hd : (y == ("__debug__" : Str)) = false := by decide) (hb : behindInMarks (cmpI neg) (.Name y py) = false := by rfl) :
    PT X (.Compare a [cmpI neg] [.Name y py] pos) (J.tB X.K Z W (ma >>= fun x => M.of ((tabD t neg x).bind D.isB))) := by
  refine ⟨fun pins s σ H Q I ⟨F, A, st, R, h⟩ => wpAny_isTrue_Compare1 (thn (ha.run pins s σ H _ I (one_ R h)) fun v s1 ⟨x, H1, I1, rx, e, F1, A1, st1, R1, m1, r1, z⟩ => ?_) hb⟩
  refine thn ((pe_glob (pos := py) (v := .ref d) hg hm rfl hd).run pins s1 σ H1 (fun y H' => y = .ref d ∧ H' = H1) I1 ⟨rfl, rfl⟩) fun u s2 ⟨y', H2, I2, ry, e3, e4⟩ => ?_
  subst e3
  subst e4
  obtain rfl : u = Value.ref d := ry
  obtain ⟨bb, e5, z⟩ := of_after z
  obtain ⟨res, eg, e6⟩ := Option.bind_eq_some_iff.mp e5
  refine thn (tab_op (Q := fun v' H' => v' = .bl bb ∧ H' = H2) T I2 R1 rx r1 eg fun v' r' => ⟨isB_rep r' e6, rfl⟩) fun w s3 ⟨zz, H3, I3, r3, e7, e8⟩ => ?_
  subst e7
  subst e8
  obtain rfl : w = .bool bb := r3
  exact wpAny_truthy_bool ⟨_, I3, z F1 _ A1 R1 .refl⟩
def tabV (t : Str → Option D) (x : D) : Option D := match x with
  | .str z => t z
  | _ => none
/-- t[x] -/
theorem je_tabIx {d : Addr} {t : Str → Option D} {y : Str} {py : Pos} (T : TabC X d t) (hg : Gl X y) (hm : X.mg y = some (.ref d)) (hb : PE X b (tM X.K Z W mb)) (hd : (y == ("__debug__" : Str)) = false := by decide) (hs : PlainIx b := by exact fun _ _ => rfl) :
    PE X (.Subscript (.Name y py) b pos) (tM X.K Z W (mb >>= fun x => M.of (tabV t x))) := by
  obtain ⟨es, n, kd⟩ := T.kd
  refine PE.wk (pe_ix ix_kdict (pe_glob (v := .ref d) hg hm rfl hd) hb hs) fun σ H Q ⟨F, A, st, R, h⟩ => ?_
  refine ⟨F, A, st, R, h.bind.imp fun k st1 F1 H1 A1 R1 m1 z v r => ?_⟩
  obtain ⟨res, eg, z⟩ := of_after z
  cases k with
  | str w =>
    cases r
    obtain ⟨r0, e1, e2⟩ := T.ns w
    have eg : t w = some res := eg
    rcases e2 with ⟨rfl, e⟩ | ⟨u, v', e', rfl, e, ru, rr⟩
    · rw [e] at eg; cases eg
    · rw [e] at eg
      cases eg
      have z := z
      rw [show tabV t (D.str w) = _ from e] at z
      exact ⟨d, w, v', rfl, rfl, ⟨es, n, u, kd.at_, kd.lit, e1, ru⟩, z F1 H1 A1 R1 .refl _ (rr A1 F1)⟩
  | _ => cases eg
end
end J
end
section
namespace J
open PySem PySem.Spec PyProof.Rows L2
section
variable {X : Cx} {K : PySem.W.Frag} {Z : Ent} {W : WX} {F H H' : Hp} {A : Fps} {σ : L2.St} {st : Sta} {pos p apos py : Pos} {a b c e o : Expr} {es : List Expr} {ma mb mc mo : M D} {x : Str} {n i k : Nat} {m : M (List D)} {E : Ends}

theorem apart {n k : Nat} {fp fq : List Addr} {z : Addr} (nd : A.flatten.Nodup) (h1 : A[n]? = some fp) (h2 : A[k]? = some fq) (hz : z ∈ fp) (hz2 : z ∈ fq) : n = k := by
  have n1 : n < A.length := (List.getElem?_eq_some_iff.mp h1).1
  have n2 : k < A.length := (List.getElem?_eq_some_iff.mp h2).1
  have i1 : A[n] = fp := (List.getElem?_eq_some_iff.mp h1).2
  have i2 : A[k] = fq := (List.getElem?_eq_some_iff.mp h2).2
  have pw := (List.pairwise_flatten.mp nd).2
  rcases Nat.lt_trichotomy n k with hlt | he | hlt
  · exact absurd rfl (List.pairwise_iff_getElem.mp pw n k n1 n2 hlt z (by rw [i1]; exact hz) z (by rw [i2]; exact hz2))
  · exact he
  · exact absurd rfl (List.pairwise_iff_getElem.mp pw k n n2 n1 hlt z (by rw [i2]; exact hz2) z (by rw [i1]; exact hz))
/-- an object of the store is changed -/
theorem Rel.setMO {fp : List Addr} {mo mo' : MO} (R : Rel K Z F H A σ st) (hA : A[n]? = some fp) (hS : st.S[n]? = some mo) (hk : ∀ a, a ∉ fp → H' a = H a) (ht : ∀ a ∈ fp, H' a ≠ none) (ok : MOk K A F H' fp mo') :
    Rel K Z F H' A σ { st with S := st.S.set n mo' } := by
  have inA : ∀ a ∈ fp, a ∈ A.flatten := fun a ha => in_flat hA ha
  refine ⟨⟨fun a u h => ?_, by rw [List.length_set]; exact R.w.len, fun k m fq h1 h2 => ?_, R.w.nd, R.w.nF⟩, ⟨R.e.mono, R.e.nw, R.e.nA, fun a u h hn => ?_, fun a h => ?_⟩, R.len, fun j sl h => ?_, R.sep⟩
  · rw [hk a fun z => by rw [R.w.nF a (inA a z)] at h; cases h]
    exact R.le a u h
  · by_cases e : n = k
    · subst e
      rw [List.getElem?_set_self (List.getElem?_eq_some_iff.mp hS).1] at h1
      rw [hA] at h2
      cases h1
      cases h2
      exact ok
    · rw [List.getElem?_set_ne e] at h1
      exact (R.w.ok k m fq h1 h2).keep .refl fun z hz => hk z fun z2 => e (apart R.w.nd hA h2 z2 hz)
  · by_cases e : a ∈ fp
    · rcases R.e.nA _ (inA a e) with z | z
      · exact absurd z hn
      · rw [h] at z; cases z
    · rw [hk a e]
      exact R.e.kp a u h hn
  · by_cases e : a ∈ fp
    · exact ht a e
    · rw [hk a e]; exact R.e.th a h
  · have z := R.loc j sl h
    cases sl with
    | val d => exact z
    | own l =>
      obtain ⟨q', ws, e', h1', r', f', n', z'⟩ := z
      exact ⟨q', ws, e', by rw [hk q' fun z2 => n' (inA q' z2)]; exact h1', r', f', n', z'⟩

structure Dk where
  n : Nat
  c : List Int
  all : List Int
  t : Int
/-- the deck at a name -/
def dkM (i : Nat) : M Dk := fun st => match st.r[i]? with
  | some (some (.val (.obj n))) => (match st.S[n]? with
    | some (.deck c a t) => .ok ⟨n, c, a, t⟩ st
    | _ => .stk)
  | _ => .stk
/-- it is written -/
def dkW (k : Dk) : Tg := fun st => some { st with S := st.S.set k.n (.deck k.c k.all k.t) }
structure DkAt (K : PySem.W.Frag) (F H : Hp) (A : Fps) (σ : L2.St) (st : Sta) (i : Nat) (k : Dk) (p q r : Addr) : Prop where
  var : σ[i]? = some (some (.ref p))
  fp : A[k.n]? = some [p, q, r]
  s : st.S[k.n]? = some (.deck k.c k.all k.t)
  hp : H p = some (.lst [.ref q, .ref r, .int k.t])
  hq : H q = some (.lst (k.c.map V.int))
  hr : H r = some (.lst (k.all.map V.int))
theorem DkAt.ne {q r : Addr} {p : Addr} {k : Dk} (R : Rel K Z F H A σ st) (d : DkAt K F H A σ st i k p q r) : p ≠ q ∧ p ≠ r ∧ q ≠ r := by
  have h := (List.pairwise_flatten.mp R.w.nd).1 [p, q, r] (List.mem_of_getElem? d.fp)
  simp only [List.pairwise_cons, List.mem_cons, List.not_mem_nil, or_false, forall_eq_or_imp, forall_eq] at h
  exact ⟨h.1.1, h.1.2, h.2.1⟩
theorem dk_at {k : Dk} (R : Rel K Z F H A σ st) (h : dkM i st = .ok k st) : ∃ p q r, DkAt K F H A σ st i k p q r := by
  unfold dkM at h
  cases e : st.r[i]? with
  | none => simp only [e] at h; cases h
  | some s =>
    cases s with
    | none => simp only [e] at h; cases h
    | some sl =>
      cases sl with
      | own l => simp only [e] at h; cases h
      | val d =>
        cases d with
        | obj n =>
          simp only [e] at h
          cases es : st.S[n]? with
          | none => simp only [es] at h; cases h
          | some mo =>
            cases mo with
            | deck c a t =>
              simp only [es] at h
              cases h
              obtain ⟨v, ev, r⟩ := R.loc i _ e
              cases r with
              | obj hA =>
                obtain ⟨p', q, r', efp, h1, h2, h3⟩ := R.w.ok n _ _ es hA
                cases efp
                exact ⟨_, q, r', ev, hA, es, h1, h2, h3⟩
            | _ => simp only [es] at h; cases h
        | _ => simp only [e] at h; cases h
theorem dk_cases : (∃ k, dkM i st = .ok k st) ∨ dkM i st = .stk := by
  unfold dkM
  cases e : st.r[i]? with
  | none => exact .inr rfl
  | some s =>
    cases s with
    | none => exact .inr rfl
    | some sl =>
      cases sl with
      | own l => exact .inr rfl
      | val d =>
        cases d with
        | obj n =>
          cases es : st.S[n]? with
          | none => exact .inr (by simp only [es])
          | some mo =>
            cases mo with
            | deck c a t => exact .inl ⟨_, by simp only [es] <;> rfl⟩
            | _ => exact .inr (by simp only [es])
        | _ => exact .inr rfl
theorem dk_bind {α : Type} {f : Dk → M α} {C : α → Sta → Hp → Hp → Fps → Prop} (R : Rel K Z F H A σ st) (h : After K Z W σ F A ((dkM i >>= f) st) C) : ∃ k p q r, DkAt K F H A σ st i k p q r ∧ After K Z W σ F A (f k st) C := by
  rw [bind_eq] at h
  rcases dk_cases (i := i) (st := st) with ⟨k, e⟩ | e
  · rw [e] at h
    obtain ⟨p, q, r, d⟩ := dk_at R e
    exact ⟨k, p, q, r, d, h⟩
  · rw [e] at h
    exact h.elim
theorem dk_bindS {f : Dk → M Fl} (R : Rel K Z F H A σ st) (h : AfterS K Z W E F A ((dkM i >>= f) st)) : ∃ k p q r, DkAt K F H A σ st i k p q r ∧ AfterS K Z W E F A (f k st) := by
  rw [bind_eq] at h
  rcases dk_cases (i := i) (st := st) with ⟨k, e⟩ | e
  · rw [e] at h
    obtain ⟨p, q, r, d⟩ := dk_at R e
    exact ⟨k, p, q, r, d, h⟩
  · rw [e] at h
    exact h.elim
theorem DkAt.set {p q r : Addr} {k k' : Dk} (R : Rel K Z F H A σ st) (d : DkAt K F H A σ st i k p q r) (en : k'.n = k.n) (hk : ∀ a, a ≠ p → a ≠ q → a ≠ r → H' a = H a) (h1 : H' p = some (.lst [.ref q, .ref r, .int k'.t])) (h2 : H' q = some (.lst (k'.c.map V.int))) (h3 : H' r = some (.lst (k'.all.map V.int))) :
    ∃ st', dkW k' st = some st' ∧ Rel K Z F H' A σ st' := by
  refine ⟨_, rfl, ?_⟩
  rw [en]
  refine R.setMO d.fp d.s (fun a ha => ?_) (fun a ha => ?_) ⟨p, q, r, rfl, h1, h2, h3⟩
  · simp only [List.mem_cons, List.not_mem_nil, or_false, not_or] at ha
    exact hk a ha.1 ha.2.1 ha.2.2
  · simp only [List.mem_cons, List.not_mem_nil, or_false] at ha
    rcases ha with rfl | rfl | rfl
    · rw [h1]; simp
    · rw [h2]; simp
    · rw [h3]; simp
section
variable {d : Str} {pd pk : Pos} {j : Nat}
/-- d[k], d a name and k a literal, as the lists lie -/
theorem pe_dk {kk : Int} (hN : X.N[i]? = some d := by rfl) (hv : Vis X.env.scope d := by first | exact Or.inl rfl | exact Or.inr (Or.inl rfl) | exact Or.inr (Or.inr rfl)) (hd : (d == ("__debug__" : Str)) = false := by decide)
    (hcd : (d == ("__classdict__" : Str)) = false := by decide) : PE X (.Subscript (.Name d pd) (.Constant (.int kk) j pk) pos) (fun σ H Q => ∃ q xs v, σ[i]? = some (some (.ref q)) ∧ H q = some (.lst xs) ∧ atI xs kk = some v ∧ Q v H) :=
  PE.wk (pe_ix ix_list (pe_var hN hv hd hcd) pe_int (fun _ _ => rfl)) fun σ H Q ⟨q, xs, v, e, hq, ev, h⟩ => ⟨.ref q, e, q, xs, kk, v, rfl, rfl, .inl (.inl hq), ev, h⟩
theorem ixN_head {n : Nat} : ixN (n + 1) 0 = some 0 := by
  unfold ixN
  rw [if_pos (Int.le_refl 0), if_pos (by omega)]
  rfl
theorem atI_head {α : Type} {u : α} {l : List α} : atI (u :: l) 0 = some u := by
  unfold atI
  rw [List.length_cons, ixN_head]
  rfl
theorem at0 {α : Type} {u v w : α} : atI [u, v, w] 0 = some u := by rfl
theorem at1 {α : Type} {u v w : α} : atI [u, v, w] 1 = some v := by rfl
theorem at2 {α : Type} {u v w : α} : atI [u, v, w] 2 = some w := by rfl
variable (hN : X.N[i]? = some d) (hv : Vis X.env.scope d) (hd : (d == ("__debug__" : Str)) = false) (hcd : (d == ("__classdict__" : Str)) = false)
/-- d[0] != [] -/
def dkNe (i : Nat) : M Bool := dkM i >>= fun k => pure (!k.c.isEmpty)
include hN hv hd hcd
theorem jt_dkNe {pl p1 p2 : Pos} (hu : X.A.units + 64 < cLine) (hm : behindInMarks .NotEq (.List [] pl) = false := by rfl) : PT X (.Compare (.Subscript (.Name d pd) (.Constant (.int 0) j pk) p1) [.NotEq] [.List [] pl] p2) (J.tB X.K Z W (dkNe i)) := by
  refine PT.wk (pt_cmpR (op_neD hu) (pe_dk hN hv hd hcd) (pe_lst pa_nil) hm) fun σ H Q ⟨F, A, st, R, h⟩ => ?_
  obtain ⟨k, p, q, r, da, z⟩ := dk_bind R h
  refine ⟨p, _, _, da.var, da.hp, at0, by rw [sizeLine_eq]; simp, fun z2 hz2 => ?_⟩
  have dp : ∀ l : List Int, DpAll X.K (upd H z2 (.lst [])) (l.map V.int) (l.map PyData.int) := fun l => by
    induction l with
    | nil => exact .nil
    | cons y l ih => exact .cons (.int y) ih
  have hz : q ≠ z2 := fun e => by rw [← e, da.hq] at hz2; cases hz2
  refine ⟨.list (k.c.map PyData.int), .list [], .lst (.inl (.inl (by rw [upd_ne hz]; exact da.hq))) (dp k.c), .lst (.inl (.inl upd_same)) .nil, ?_, by decide, _, rfl, ?_⟩
  · have lay : ∀ l : List Int, PyData.canLayAll0 (l.map PyData.int) = true := fun l => by
      induction l with
      | nil => simp [PyData.canLayAll0]
      | cons y l ih => simp [PyData.canLayAll0, PyData.canLay0, ih]
    have dep : ∀ l : List Int, PyData.depthAll (l.map PyData.int) ≤ 1 := fun l => by
      induction l with
      | nil => simp [PyData.depthAll]
      | cons y l ih => simp [PyData.depthAll, PyData.depth]; omega
    have h1 := dep k.c
    have h2 := lay k.c
    refine Bool.and_eq_true_iff.mpr ⟨by simp [PyData.canLay0, h2], decide_eq_true ?_⟩
    simp only [PyData.depth]
    omega
  · have e : (!PyData.eqv (.list (k.c.map PyData.int)) (.list [])) = !k.c.isEmpty := by
      cases k.c with
      | nil => simp [PyData.eqv, PyData.eqvAll]
      | cons y l => simp [PyData.eqv, PyData.eqvAll]
    rw [e]
    exact z _ _ A (R.new hz2) (.new R.w hz2)
/-- d[0][0] -/
def dkTop (i : Nat) : M D := dkM i >>= fun k => M.of (k.c.head?.map .int)
theorem je_dkTop {p1 p2 pk2 : Pos} {j2 : Nat} : PE X (.Subscript (.Subscript (.Name d pd) (.Constant (.int 0) j pk) p1) (.Constant (.int 0) j2 pk2) p2) (tM X.K Z W (dkTop i)) := by
  refine PE.wk (pe_ix ix_list (pe_dk hN hv hd hcd) pe_int (fun _ _ => rfl)) fun σ H Q ⟨F, A, st, R, h⟩ => ?_
  obtain ⟨k, p, q, r, da, z⟩ := dk_bind R h
  obtain ⟨res, e1, z⟩ := of_after z
  obtain ⟨y, e2, e3⟩ := Option.map_eq_some_iff.mp e1
  subst e3
  refine ⟨p, _, _, da.var, da.hp, at0, q, _, 0, .int y, rfl, rfl, .inl (.inl da.hq), ?_, z F H A R .refl _ (.int y)⟩
  cases e : k.c with
  | nil => rw [e] at e2; cases e2
  | cons y' l =>
    rw [e] at e2
    cases e2
    exact atI_head
/-- d[0][0] = e -/
def dkPut (i : Nat) (d : D) : M Fl := dkM i >>= fun k => match d, k.c with
  | .int y, _ :: l => thenN (dkW { k with c := y :: l })
  | _, _ => M.stuck
theorem js_dkTop {p1 p2 pk2 : Pos} {j2 : Nat} (ha : PE X a (tM X.K Z W ma)) (hs : swapsWithSole [.Subscript (.Subscript (.Name d pd) (.Constant (.int 0) j pk) p1) (.Constant (.int 0) j2 pk2) p2] a pos.line X.env = pure false := by rfl)
    (hw : swappedStores [.Subscript (.Subscript (.Name d pd) (.Constant (.int 0) j pk) p1) (.Constant (.int 0) j2 pk2) p2] a X.env = pure none := by rfl)
    (h1 : (assignEach [.Subscript (.Subscript (.Name d pd) (.Constant (.int 0) j pk) p1) (.Constant (.int 0) j2 pk2) p2] X.env).map (·.2) = [assign (.Subscript (.Subscript (.Name d pd) (.Constant (.int 0) j pk) p1) (.Constant (.int 0) j2 pk2) p2) X.env] := by rfl)
    (hg : ∀ v, assign (.Subscript (.Subscript (.Name d pd) (.Constant (.int 0) j pk) p1) (.Constant (.int 0) j2 pk2) p2) X.env v = (do
      let ov ← holding [v] (eval (.Subscript (.Name d pd) (.Constant (.int 0) j pk) p1) X.env)
      let iv ← holding [v, ov] (eval (.Constant (.int 0) j2 pk2) X.env)
      standAt p2
      holding [v, ov, iv] (setItem ov iv v)
      release [v, ov, iv] []) := by intro _; rfl) :
    PS X (.Assign [.Subscript (.Subscript (.Name d pd) (.Constant (.int 0) j pk) p1) (.Constant (.int 0) j2 pk2) p2] a pos) (tS X.K Z W (ma >>= dkPut i)) := by
  refine PS.wk (ps_asg ha (pg_sub (pe_dk hN hv hd hcd) pe_int set_list hg) hs hw h1) fun E σ H ⟨F, A, st, R, h⟩ => ?_
  obtain ⟨F', A', st', R', z⟩ := one_S R h
  refine ⟨F', A', st', R', z.imp fun d st1 F1 H1 A1 R1 m1 z v r => ?_⟩
  obtain ⟨d', F2, A2, st2, R2, m2, r2, z⟩ := z v r
  obtain ⟨k, p, q, r, da, z⟩ := dk_bindS R2 z
  cases d' with
  | int y =>
    cases r2
    cases e : k.c with
    | nil => rw [e] at z; exact z.elim
    | cons y0 l =>
      rw [e] at z
      obtain ⟨st3, e3, z⟩ := thenN_S z
      have hq := da.hq
      rw [e] at hq
      obtain ⟨n1, n2, n3⟩ := da.ne R2
      obtain ⟨st4, e4, R4⟩ := da.set (k' := { k with c := y :: l }) (H' := upd H1 q (.lst (V.int y :: l.map V.int))) R2 rfl (fun a h1 h2 h3 => upd_ne h2) (by rw [upd_ne n1]; exact da.hp) upd_same (by rw [upd_ne (Ne.symm n3)]; exact da.hr)
      rw [e4] at e3
      cases e3
      exact ⟨p, _, _, da.var, da.hp, at0, q, _, 0, 0, rfl, rfl, hq, ixN_head, z _ F2 _ A2 R4 .refl⟩
  | _ => exact z.elim
/-- d[0].pop(0) -/
def dkPop (i : Nat) : M Fl := dkM i >>= fun k => match k.c with
  | _ :: l => thenN (dkW { k with c := l })
  | _ => M.stuck
theorem js_dkPop {p1 pk2 ap : Pos} {j2 : Nat} (hbase : attributeBase (.Subscript (.Name d pd) (.Constant (.int 0) j pk) p1) "pop" X.env (eval (.Subscript (.Name d pd) (.Constant (.int 0) j pk) p1) X.env) = eval (.Subscript (.Name d pd) (.Constant (.int 0) j pk) p1) X.env := by rfl)
    (hfew : ((backTo ap (starEach [.Constant (.int 0) j2 pk2] X.env)).all (fun x => !x.1) && (backToKw ap (keywordEach [] X.env)).all (fun x => x.1.isSome)
      && decide (([.Constant (.int 0) j2 pk2] : List Expr).length + ([] : List Keyword).length + (if ([] : List Keyword).isEmpty then 0 else 1) < 30)) = true := by rfl)
    (hline : (apos.endLine == ap.line) = true := by rfl) (hs : starEach [.Constant (.int 0) j2 pk2] X.env = (false, eval (.Constant (.int 0) j2 pk2) X.env) :: starEach [] X.env := by rfl) (hplain : (backTo ap (starEach [] X.env)).any (·.1) = false := by rfl)
    (hsw : swapsWith (.Call (.Attribute (.Subscript (.Name d pd) (.Constant (.int 0) j pk) p1) "pop" apos) [.Constant (.int 0) j2 pk2] [] ap) none pos.line X.env = pure false := by rfl) :
    PS X (.Expr (.Call (.Attribute (.Subscript (.Name d pd) (.Constant (.int 0) j pk) p1) "pop" apos) [.Constant (.int 0) j2 pk2] [] ap) pos) (tS X.K Z W (dkPop i)) := by
  refine PS.wk (ps_expr (pe_bm F.plainAttrs_list F.slot_list_pop F.type_list_pop mt_popAt (pe_dk hN hv hd hcd) (pa_cons pe_int pa_nil hs) hbase hfew hline hs hplain) hsw) fun E σ H ⟨F, A, st, R, h⟩ => ?_
  obtain ⟨k, p, q, r, da, z⟩ := dk_bindS R h
  cases e : k.c with
  | nil => rw [e] at z; exact z.elim
  | cons y0 l =>
    rw [e] at z
    obtain ⟨st3, e3, z⟩ := thenN_S z
    have hq := da.hq
    rw [e] at hq
    obtain ⟨n1, n2, n3⟩ := da.ne R
    obtain ⟨st4, e4, R4⟩ := da.set (k' := { k with c := l }) (H' := upd H q (.lst (l.map V.int))) R rfl (fun a h1 h2 h3 => upd_ne h2) (by rw [upd_ne n1]; exact da.hp) upd_same (by rw [upd_ne (Ne.symm n3)]; exact da.hr)
    rw [e4] at e3
    cases e3
    exact ⟨p, _, _, da.var, da.hp, at0, .inl ⟨rfl, _, .inl (.inl da.hq)⟩, q, _, 0, 0, .int y0, rfl, rfl, hq, by decide, by decide, by simp [seqIndex?], rfl, z _ F _ A R4 .refl⟩
/-- d[2] -/
def dkTurn (i : Nat) : M D := dkM i >>= fun k => pure (.int k.t)
theorem je_dkTurn {p1 : Pos} : PE X (.Subscript (.Name d pd) (.Constant (.int 2) j pk) p1) (tM X.K Z W (dkTurn i)) := by
  refine PE.wk (pe_dk hN hv hd hcd) fun σ H Q ⟨F, A, st, R, h⟩ => ?_
  obtain ⟨k, p, q, r, da, z⟩ := dk_bind R h
  exact ⟨p, _, _, da.var, da.hp, at2, z F H A R .refl _ (.int _)⟩
/-- d[2] = e -/
def dkSetT (i : Nat) (d : D) : M Fl := dkM i >>= fun k => match d with
  | .int y => thenN (dkW { k with t := y })
  | _ => M.stuck
theorem js_dkTurn {p2 : Pos} (ha : PE X a (tM X.K Z W ma)) (hs : swapsWithSole [.Subscript (.Name d pd) (.Constant (.int 2) j pk) p2] a pos.line X.env = pure false := by rfl)
    (hw : swappedStores [.Subscript (.Name d pd) (.Constant (.int 2) j pk) p2] a X.env = pure none := by rfl)
    (h1 : (assignEach [.Subscript (.Name d pd) (.Constant (.int 2) j pk) p2] X.env).map (·.2) = [assign (.Subscript (.Name d pd) (.Constant (.int 2) j pk) p2) X.env] := by rfl)
    (hg : ∀ v, assign (.Subscript (.Name d pd) (.Constant (.int 2) j pk) p2) X.env v = (do
      let ov ← holding [v] (eval (.Name d pd) X.env)
      let iv ← holding [v, ov] (eval (.Constant (.int 2) j pk) X.env)
      standAt p2
      holding [v, ov, iv] (setItem ov iv v)
      release [v, ov, iv] []) := by intro _; rfl) :
    PS X (.Assign [.Subscript (.Name d pd) (.Constant (.int 2) j pk) p2] a pos) (tS X.K Z W (ma >>= dkSetT i)) := by
  refine PS.wk (ps_asg ha (pg_sub (pe_var hN hv hd hcd) pe_int set_list hg) hs hw h1) fun E σ H ⟨F, A, st, R, h⟩ => ?_
  obtain ⟨F', A', st', R', z⟩ := one_S R h
  refine ⟨F', A', st', R', z.imp fun d st1 F1 H1 A1 R1 m1 z v rv0 => ?_⟩
  obtain ⟨d', F2, A2, st2, R2, m2, r2, z⟩ := z v rv0
  obtain ⟨k, p, q, r, da, z⟩ := dk_bindS R2 z
  cases d' with
  | int y =>
    cases r2
    obtain ⟨st3, e3, z⟩ := thenN_S z
    obtain ⟨n1, n2, n3⟩ := da.ne R2
    obtain ⟨st4, e4, R4⟩ := da.set (k' := { k with t := y }) (H' := upd H1 p (.lst [.ref q, .ref r, .int y])) R2 rfl (fun a h1 h2 h3 => upd_ne h1) upd_same (by rw [upd_ne (Ne.symm n1)]; exact da.hq) (by rw [upd_ne (Ne.symm n2)]; exact da.hr)
    rw [e4] at e3
    cases e3
    exact ⟨.ref p, da.var, p, _, 2, 2, rfl, rfl, da.hp, by rfl, z _ F2 _ A2 R4 .refl⟩
  | _ => exact z.elim
/-- d[1][e] -/
def dkGet (i : Nat) (mb : M D) : M D := dkM i >>= fun _ => mb >>= fun y => dkM i >>= fun k => M.of (match y with | .int n => (atI k.all n).map .int | _ => none)
end
section
variable {d : Str} {pd pk : Pos} {j : Nat}
/-- the deck's lists stay where they lie -/
theorem je_dkGet {p1 p2 : Pos} (hN : X.N[i]? = some d) (hv : Vis X.env.scope d) (hd : (d == ("__debug__" : Str)) = false) (hcd : (d == ("__classdict__" : Str)) = false) (hb : PE X b (tM X.K Z W mb)) (hs : PlainIx b := by exact fun _ _ => rfl) :
    PE X (.Subscript (.Subscript (.Name d pd) (.Constant (.int 1) j pk) p1) b p2) (tM X.K Z W (dkGet i mb)) := by
  refine PE.wk (pe_ix ix_list (pe_dk hN hv hd hcd) hb hs) fun σ H Q ⟨F, A, st, R, h⟩ => ?_
  obtain ⟨k, p, q, r, da, z⟩ := dk_bind R h
  refine ⟨p, _, _, da.var, da.hp, at1, F, A, st, R, z.bind.imp fun y st1 F1 H1 A1 R1 m1 z v rv => ?_⟩
  obtain ⟨k', p', q', r', da', z⟩ := dk_bind R1 z
  obtain ⟨res, e1, z⟩ := of_after z
  have ep := da.var
  rw [da'.var] at ep
  cases ep
  have en : k'.n = k.n := apart R1.w.nd da'.fp (m1.a _ _ da.fp) (z := p) (by simp) (by simp)
  have ef := m1.a _ _ da.fp
  rw [← en, da'.fp] at ef
  cases ef
  cases y with
  | int n =>
    cases rv
    obtain ⟨w, e2, e3⟩ := Option.map_eq_some_iff.mp e1
    subst e3
    refine ⟨_, _, n, .int w, rfl, rfl, .inl (.inl da'.hr), ?_, z F1 H1 A1 R1 .refl _ (.int w)⟩
    unfold atI at *
    rw [List.length_map]
    obtain ⟨j, e4, e5⟩ := Option.bind_eq_some_iff.mp e2
    rw [e4]
    show (k'.all.map V.int)[j]? = some (V.int w)
    rw [List.getElem?_map, e5]
    rfl
  | _ => cases e1
/-- len(d[1]) -/
def dkLen (i : Nat) : M D := dkM i >>= fun k => pure (.int k.all.length)
theorem je_dkLen {p1 p2 : Pos} (hN : X.N[i]? = some d) (hv : Vis X.env.scope d) (hd : (d == ("__debug__" : Str)) = false) (hcd : (d == ("__classdict__" : Str)) = false) (hgl : Gl X "len") (hml : X.mg "len" = none) (hvl : bootBuiltins "len" = some (.builtin "len")) :
    PE X (.Call (.Name "len" p) [.Subscript (.Name d pd) (.Constant (.int 1) j pk) p1] [] p2) (tM X.K Z W (dkLen i)) := by
  refine PE.wk (pe_callB call_len hgl hml hvl (pa_cons (pe_dk hN hv hd hcd) pa_nil)) fun σ H Q ⟨F, A, st, R, h⟩ => ?_
  obtain ⟨k, p, q, r, da, z⟩ := dk_bind R h
  exact ⟨p, _, _, da.var, da.hp, at1, _, k.all.length, rfl, .inl ⟨_, .inl (.inl da.hr), by simp⟩, z F H A R .refl _ (.int _)⟩
end
end
end J
end
section
namespace J
open PySem PySem.Spec PyProof.Rows L2
section
variable {X : Cx} {K : PySem.W.Frag} {Z : Ent} {W : WX} {F H H' : Hp} {A : Fps} {σ : L2.St} {st : Sta} {pos p apos py : Pos} {a b c e o : Expr} {es : List Expr} {ma mb mc mo : M D} {x : Str} {n i k : Nat} {m m1 m2 : M (List D)} {E : Ends}

/-- two new lists, each made while nothing else knows of it -/
def deckM (m1 m2 : M (List D)) : M (List Int × List Int) := m1 >>= fun l1 => fun st => match m2 (maskSt [] st) with
  | .ok l2 st2 => (match D.ints l1, D.ints l2 with
    | some c, some a => .ok (c, a) { st with S := st2.S }
    | _, _ => .stk)
  | _ => .stk
/-- [m1, m2, 0], returned: a new object of the store -/
def retDeck (m1 m2 : M (List D)) : M Fl := deckM m1 m2 >>= fun ca => fun st => .ok (.ret (.obj st.S.length)) { st with S := st.S ++ [.deck ca.1 ca.2 0] }
/-- an object that nothing knows of -/
theorem Rel.junk {q : Addr} {u : HO} (R : Rel K Z F H A σ st) (hq : H q = none) : Rel K Z F (upd H q u) A σ st := by
  have k : ∀ a v, H a = some v → upd H q u a = some v := fun a v h => by rw [upd_ne fun e => by rw [e, hq] at h; cases h]; exact h
  refine ⟨⟨fun a v h => k a v (R.le a v h), R.w.len, fun j mm fq h1 h2 => (R.w.ok j mm fq h1 h2).keep .refl fun c hc => upd_ne fun e => R.w.there (in_flat h2 hc) (by rw [e]; exact hq), R.w.nd, R.w.nF⟩,
    ⟨R.e.mono, R.e.nw, R.e.nA, fun a v h hn => k a v (R.e.kp a v h hn), fun a h => ?_⟩, R.len, fun j sl h => (R.loc j sl h).keep .refl (fun a v h _ => k a v h) (fun _ _ h => .inl h) fun _ h => .inl h, R.sep⟩
  by_cases e : a = q
  · subst e; rw [upd_same]; simp
  · rw [upd_ne e]; exact R.e.th a h
/-- a new object of the store -/
theorem Rel.addMO {fp : List Addr} {mo : MO} (R : Rel K Z F H A σ st) (nd : fp.Nodup) (nA : ∀ a ∈ fp, a ∉ A.flatten) (nF : ∀ a ∈ fp, F a = none) (nZ : ∀ a ∈ fp, Z.H a = none) (ap : ∀ a ∈ fp, ∀ (i : Nat) l, st.r[i]? = some (some (.own l)) → σ[i]? ≠ some (some (.ref a)))
    (ok : MOk K (A ++ [fp]) F H fp mo) : Rel K Z F H (A ++ [fp]) σ { st with S := st.S ++ [mo] } ∧ Mono F A F (A ++ [fp]) := by
  have mono : Mono F A F (A ++ [fp]) := ⟨fun _ _ h => h, fun j z h => by
    rw [List.getElem?_append_left (List.getElem?_eq_some_iff.mp h).1]
    exact h⟩
  have fl : (A ++ [fp]).flatten = A.flatten ++ fp := by simp
  refine ⟨⟨⟨R.w.le, by simp [R.w.len], fun j mm fq h1 h2 => ?_, ?_, fun q hq => ?_⟩, ⟨R.e.mono.trans mono, R.e.nw, fun q hq => ?_, R.e.kp, R.e.th⟩, R.len, fun j sl h => ?_, R.sep⟩, mono⟩
  · by_cases hj : j < A.length
    · rw [List.getElem?_append_left hj] at h2
      rw [List.getElem?_append_left (by rw [R.w.len]; exact hj)] at h1
      exact (R.w.ok j mm fq h1 h2).keep mono fun _ _ => rfl
    · have hj2 : j = A.length := by
        have := (List.getElem?_eq_some_iff.mp h2).1
        simp at this
        omega
      subst hj2
      rw [List.getElem?_append_right (Nat.le_refl _)] at h2
      rw [← R.w.len, List.getElem?_append_right (Nat.le_refl _)] at h1
      simp at h1 h2
      subst h1 h2
      exact ok
  · rw [fl, List.nodup_append]
    exact ⟨R.w.nd, nd, fun q hq r hr e => nA r hr (by rw [← e]; exact hq)⟩
  · rw [fl] at hq
    rcases List.mem_append.mp hq with hq | hq
    · exact R.w.nF q hq
    · exact nF q hq
  · rw [fl] at hq
    rcases List.mem_append.mp hq with hq | hq
    · exact R.e.nA q hq
    · exact .inr (nZ q hq)
  · have z := R.loc j sl h
    cases sl with
    | val d =>
      obtain ⟨v, e, r⟩ := z
      exact ⟨v, e, r.mono mono⟩
    | own l =>
      obtain ⟨q, ws, e, h1, r, f, n, zz⟩ := z
      refine ⟨q, ws, e, h1, r.mono mono, f, fun hq => ?_, zz⟩
      rw [fl] at hq
      rcases List.mem_append.mp hq with hq | hq
      · exact n hq
      · exact ap q hq j l h e
theorem js_retDeck {pl pk : Pos} {j : Nat} (h1 : PE X a (tN X.K Z W m1)) (h2 : ∀ Z, PE X b (tN X.K Z W0 m2)) (hs : starEach [a, b, .Constant (.int 0) j pk] X.env = (false, eval a X.env) :: starEach [b, .Constant (.int 0) j pk] X.env := by rfl) (hs2 : starEach [b, .Constant (.int 0) j pk] X.env = (false, eval b X.env) :: starEach [.Constant (.int 0) j pk] X.env := by rfl)
    (hs3 : starEach [.Constant (.int 0) j pk] X.env = (false, eval (.Constant (.int 0) j pk) X.env) :: starEach [] X.env := by rfl) : PS X (.Return (some (.List [a, b, .Constant (.int 0) j pk] pl)) pos) (tS X.K Z W (retDeck m1 m2)) := by
  have h2' : PE X b (fun σ H Q => ∃ Z, tN X.K Z W0 m2 σ H Q) := ⟨fun pins s σ H Q I ⟨Z', q⟩ => (h2 Z').run pins s σ H Q I q⟩
  refine PS.wk (ps_ret (pe_lst (pa_cons h1 (pa_cons h2' (pa_cons pe_int pa_nil hs3) hs2) hs))) fun E σ H ⟨F, A, st, R, h⟩ => ?_
  unfold retDeck at h
  have h := AfterS.bind (σ := σ) h
  unfold deckM at h
  refine ⟨F, A, st, R, h.bind.imp fun l1 st1 F1 H1 A1 R1 mo1 z p1 vs1 lo1 => ?_⟩
  have z : After X.K Z W σ F1 A1 (match m2 (maskSt [] st1) with
    | .ok l2 st2 => (match D.ints l1, D.ints l2 with
      | some c, some a => .ok (c, a) { st1 with S := st2.S }
      | _, _ => .stk)
    | _ => .stk) _ := z
  have R1' := R1.mask []
  refine ⟨_, F1, A1, _, R1', ?_⟩
  cases e2 : m2 (maskSt [] st1) with
  | stk => rw [e2] at z; exact z.elim
  | err _ _ => rw [e2] at z; exact z.elim
  | ok l2 st2 =>
    rw [e2] at z
    have z : After X.K Z W σ F1 A1 (match D.ints l1, D.ints l2 with
      | some c, some a => .ok (c, a) { st1 with S := st2.S }
      | _, _ => .stk) _ := z
    intro F2 H2 A2 R2 mo2 p2 vs2 lo2
    cases e3 : D.ints l1 with
    | none => rw [e3] at z; exact z.elim
    | some cc =>
      cases e4 : D.ints l2 with
      | none => rw [e3, e4] at z; exact z.elim
      | some aa =>
        rw [e3, e4] at z
        have R3 := R1.ext (S := st2.S) R2.w R2.e
        have lo1' := lo1.ext (S := st2.S) R2.e
        have hv1 := ints_reps lo1'.rs e3
        have hv2 := ints_reps lo2.rs e4
        subst hv1
        subst hv2
        refine ⟨by rw [sizeLine_eq]; simp, fun p0 hp0 => ?_⟩
        have R4 := R3.junk (u := .lst [.ref p1, .ref p2, .int 0]) hp0
        have n01 : p1 ≠ p0 := fun e => by rw [← e, lo1'.at_] at hp0; cases hp0
        have n02 : p2 ≠ p0 := fun e => by rw [← e, lo2.at_] at hp0; cases hp0
        have n12 : p1 ≠ p2 := fun e => by
          have z2 : H1 p2 = none := lo2.nZ
          rw [← e, lo1.at_] at z2
          cases z2
        have nF0 : F2 p0 = none := by
          cases q : F2 p0 with
          | none => rfl
          | some u =>
            have := R3.le p0 u q
            rw [hp0] at this
            cases this
        have nA0 : p0 ∉ A2.flatten := fun q => R3.w.there q hp0
        have nZ2 : Z.H p2 = none := by
          cases q : Z.H p2 with
          | none => rfl
          | some u => exact absurd (show H1 p2 = none from lo2.nZ) (R1.e.th p2 (by rw [q]; simp))
        have three : ∀ {P : Addr → Prop}, P p0 → P p1 → P p2 → ∀ a ∈ [p0, p1, p2], P a := fun h0 h1 h2 a ha => by
          simp only [List.mem_cons, List.not_mem_nil, or_false] at ha
          rcases ha with rfl | rfl | rfl
          · exact h0
          · exact h1
          · exact h2
        have ap2 : ∀ (i : Nat) l, st1.r[i]? = some (some (.own l)) → σ[i]? ≠ some (some (.ref p2)) := fun i l hl e => by
          obtain ⟨q, ws, e5, h5, _⟩ := R1.loc i _ hl
          rw [e] at e5
          have z2 : H1 p2 = none := lo2.nZ
          cases e5
          rw [h5] at z2
          cases z2
        obtain ⟨R5, mo5⟩ := R4.addMO (fp := [p0, p1, p2]) (mo := .deck cc aa 0) (by simp [n12, Ne.symm n01, Ne.symm n02]) (three (P := fun a => a ∉ A2.flatten) nA0 lo1'.nA lo2.nA) (three (P := fun a => F2 a = none) nF0 lo1'.nF lo2.nF)
          (three (P := fun a => Z.H a = none) (R3.zfree hp0) lo1'.nZ nZ2) (three (P := fun a => ∀ (i : Nat) l, st1.r[i]? = some (some (.own l)) → σ[i]? ≠ some (some (.ref a))) (own_ne (st := ({ st1 with S := st2.S } : Sta)) R3 hp0) lo1'.ap ap2)
          ⟨p0, p1, p2, rfl, upd_same, by rw [upd_ne n01]; exact lo1'.at_, by rw [upd_ne n02]; exact lo2.at_⟩
        · refine z F2 H2 A2 R3 R2.e.mono σ F2 _ _ R5 mo5 _ (.obj (r := [p1, p2]) ?_)
          show (A2 ++ [[p0, p1, p2]])[st2.S.length]? = _
          rw [R2.w.len]
          simp
end
end J
end
section
namespace J
open PySem PySem.Spec PyProof.Rows L2
def opM (g : D → D → Option D) (a b : M D) : M D := a >>= fun x => b >>= fun y => M.of (g x y)
def cmpT (g : D → D → Option D) (a b : M D) : M Bool := a >>= fun x => b >>= fun y => M.of ((g x y).bind D.isB)
def cmpT2 (g1 g2 : D → D → Option D) (a b c : M D) : M Bool := a >>= fun x => b >>= fun y => M.of ((g1 x y).bind D.isB) >>= fun t => if t = true then c >>= fun z => M.of ((g2 y z).bind D.isB) else pure false
def unM (g : D → Option D) (a : M D) : M D := a >>= fun x => M.of (g x)
def tstM (a : M D) : M Bool := a >>= fun d => M.of d.isB
def trueM (a : M D) : M Bool := a >>= fun d => M.of (dTrue d)
def tupM (m : M (List D)) : M D := m >>= fun ds => pure (.tup ds)
def lstM (m : M (List D)) : M D := m >>= fun l => pure (.lst l)
def biM (g : List D → Option D) (m : M (List D)) : M D := m >>= fun ds => M.of (g ds)
def biN (g : List D → Option (List D)) (m : M (List D)) : M (List D) := m >>= fun ds => M.of (g ds)
def fnM (m : M (List D)) (mf : Mf) : M D := m >>= callM mf
def isNM (a : M D) : M D := a >>= fun d => pure (.bl d.isN)
def notNM (a : M D) : M D := a >>= fun d => pure (.bl (!d.isN))
def isNT (a : M D) : M Bool := a >>= fun d => pure d.isN
def notNT (a : M D) : M Bool := a >>= fun d => pure (!d.isN)
def retM (a : M D) : M Fl := a >>= fun d => pure (.ret d)
def exprM (a : M D) : M Fl := a >>= fun _ => pure .next
def ifM {α : Type} (c : M Bool) (a b : M α) : M α := c >>= fun x => if x = true then a else b
def setM (i : Nat) (a : M D) : M Fl := a >>= fun d => thenN (setV i d)
def ownS (i : Nat) (m : M (List D)) : M Fl := m >>= fun l => thenN (setO i l)
def asgM (g : D → Tg) (a : M D) : M Fl := a >>= fun d => thenN (g d)
def parS (i j : Nat) (m : M (List D)) : M Fl := m >>= fun l => thenN (parM i j l)
def forS (mi : M (List D)) (g : D → Tg) (m : M Fl) : M Fl := mi >>= fun ds => forM g m ds
def itM (a : M D) : M (List D) := a >>= fun d => M.of (dItems d)
def appS (i : Nat) (a : M D) : M Fl := ownM i >>= fun _ => a >>= fun d => thenN (putO i (appL d))
def setIxS (i : Nat) (a k : M D) : M Fl := a >>= fun d => ownM i >>= fun _ => k >>= fun k => thenN (putO i (setL d k))
def fldS (cs : List Str) (f : Str) (a o : M D) : M Fl := a >>= fun d => o >>= fun u => thenN (fldSet cs f d u)
def fldG (cs : List Str) (f : Str) (a : M D) : M D := a >>= fldM cs f
def slM (a : M D) (l h : M (Option Int)) : M D := a >>= fun x => l >>= fun l => h >>= fun u => M.of (dSl x l u)
def slN (a : M D) (l h : M (Option Int)) : M (List D) := a >>= fun x => l >>= fun l => h >>= fun u => M.of (dSlN x l u)
def bdM (a : M D) : M (Option Int) := a >>= fun d => M.of (d.isI.map some)
def addN (a b : M D) : M (List D) := a >>= fun x => b >>= fun y => M.of (dAddN x y)
def isiM (T : String) (kt : Str → Option Bool) (a : M D) : M D := a >>= fun d => M.of ((isiD T kt d).map .bl)
def isiC (kb : String → Option Bool) (kt : Str → Option Bool) (a : M D) : M D := a >>= fun d => M.of ((isiO kb kt d).map .bl)
def propM (tab : Str → Option Mf) (a : M D) : M D := a >>= fun d => quiet (recvM tab "" d [])
def methM (tab : Str → Option Mf) (name : Str) (a : M D) (m : M (List D)) : M D := a >>= fun d => askM tab name d >>= fun c => m >>= fun ds => tabM tab c (d :: ds)
def meth0M (tab : Str → Option Mf) (name : Str) (a : M D) : M D := a >>= fun d => askM tab name d >>= fun c => tabM tab c [d]
noncomputable def makM (c : Str) (mf : Mf) (m : M (List D)) : M D := m >>= mkM c mf
def eqC (tab : Str → Option Mf) (neg : Bool) (a b : M D) : M D := a >>= fun x => b >>= fun y => eqM tab neg x y
def eqT (tab : Str → Option Mf) (neg : Bool) (a b : M D) : M Bool := a >>= fun x => b >>= fun y => eqM tab neg x y >>= fun d => M.of d.isB
def tabI (t : Str → Option D) (neg : Bool) (a : M D) : M D := a >>= fun x => M.of (tabD t neg x)
def tabT (t : Str → Option D) (neg : Bool) (a : M D) : M Bool := a >>= fun x => M.of ((tabD t neg x).bind D.isB)
def tabX (t : Str → Option D) (a : M D) : M D := a >>= fun x => M.of (tabV t x)
def lenD : D → Option D
  | .lst xs => some (.int xs.length)
  | _ => none
def lenO (i : Nat) : M D := lookV i >>= fun x => M.of (lenD x)
def ixD : D → D → Option D
  | .lst xs, k => dIx (.lst xs) k
  | _, _ => none
def ixO (i : Nat) (b : M D) : M D := lookV i >>= fun _ => b >>= fun k => lookV i >>= fun x => M.of (ixD x k)
def repD : D → Option D
  | .lst l => dRep (.lst l)
  | .tup l => dRep (.tup l)
  | _ => none
def repM (a : M D) : M D := a >>= fun d => M.of (repD d)
def strD : D → Option D
  | .str x => some (.str x)
  | _ => none
def smM (g : D → List D → Option D) (a b : M D) : M D := a >>= fun x => M.of (strD x) >>= fun x => b >>= fun y => M.of (g x [y])
def smN (g : D → List D → Option (List D)) (a b : M D) : M (List D) := a >>= fun x => M.of (strD x) >>= fun x => b >>= fun y => M.of (g x [y])
section
variable {X : Cx} {Z : Ent} {W : WX} {pos p apos py : Pos} {a b c e o : Expr} {ma mb : M D} {x y : Str} {i k : Nat}
theorem kt_lenOwn (hg : Gl X "len") (hm : X.mg "len" = none) (hv0 : bootBuiltins "len" = some (.builtin "len")) (hN : X.N[i]? = some y := by rfl) (hv : Vis X.env.scope y := by first | exact Or.inl rfl | exact Or.inr (Or.inl rfl) | exact Or.inr (Or.inr rfl))
    (hd : (y == ("__debug__" : Str)) = false := by decide) (hcd : (y == ("__classdict__" : Str)) = false := by decide) : PE X (.Call (.Name "len" p) [.Name y py] [] pos) (tM X.K Z W (lenO i)) := by
  have e : lenO i = (lookV i >>= fun x => M.of (match x with | .lst xs => some (.int xs.length) | _ => none)) := by
    unfold lenO
    exact congrArg (M.bnd (lookV i)) (funext fun x => by cases x <;> rfl)
  rw [e]
  exact je_lenOwn hg hm hv0 hN hv hd hcd
theorem kt_ixOwn (hb : PE X b (tM X.K Z W mb)) (hN : X.N[i]? = some y := by rfl) (hv : Vis X.env.scope y := by first | exact Or.inl rfl | exact Or.inr (Or.inl rfl) | exact Or.inr (Or.inr rfl)) (hd : (y == ("__debug__" : Str)) = false := by decide)
    (hcd : (y == ("__classdict__" : Str)) = false := by decide) (hs : PlainIx b := by exact fun _ _ => rfl) : PE X (.Subscript (.Name y py) b pos) (tM X.K Z W (ixO i mb)) := by
  have e : ixO i mb = (lookV i >>= fun _ => mb >>= fun k => lookV i >>= fun x => M.of (match x with | .lst xs => dIx (.lst xs) k | _ => none)) := by
    unfold ixO
    exact congrArg (M.bnd (lookV i)) (funext fun _ => congrArg (M.bnd mb) (funext fun k => congrArg (M.bnd (lookV i)) (funext fun x => by cases x <;> rfl)))
  rw [e]
  exact je_ixOwn hb hN hv hd hcd hs
theorem kt_repr {W : WX} (jc : JC X k W) (hg : Gl X "repr") (hm : X.mg "repr" = none) (ha : PE X a (tM X.K Z W ma)) (he : starEach [a] X.env = (false, eval a X.env) :: starEach [] X.env := by rfl) :
    PE X (.Call (.Name "repr" p) [a] [] pos) (tM X.K Z W (repM ma)) := by
  have e : repM ma = (ma >>= fun d => M.of (match d with | .lst _ => dRep d | .tup _ => dRep d | _ => none)) := by
    unfold repM
    exact congrArg (M.bnd ma) (funext fun d => by cases d <;> rfl)
  rw [e]
  exact je_repr jc hg hm (by rfl) ha he
theorem strD_eq : strD = fun x => (match x with | .str _ => some x | _ => none) := funext fun x => by cases x <;> rfl
theorem kt_sm1 {id : String} {name : Str} {g : D → List D → Option D} (slot : Slot "str" name id) (ty : typeOf (.builtin id) = pure (.type "method_descriptor")) (rule : MtR X id (rMt X.K g))
    (ha : PE X a (tM X.K Z W ma)) (hb : PE X b (tM X.K Z W mb)) (hs : starEach [b] X.env = [(false, eval b X.env)] := by rfl) (hbase : attributeBase a name X.env (eval a X.env) = eval a X.env := by rfl) (hline : (apos.endLine == pos.line) = true := by rfl) :
    PE X (.Call (.Attribute a name apos) [b] [] pos) (tM X.K Z W (smM g ma mb)) := by
  unfold smM
  rw [strD_eq]
  exact je_sm1 slot ty rule ha hb hs hbase hline
theorem kn_sm1 {id : String} {name : Str} {g : D → List D → Option (List D)} (slot : Slot "str" name id) (ty : typeOf (.builtin id) = pure (.type "method_descriptor")) (rule : MtR X id (rMtN X.K g))
    (ha : PE X a (tM X.K Z W ma)) (hb : PE X b (tM X.K Z W mb)) (hs : starEach [b] X.env = [(false, eval b X.env)] := by rfl) (hbase : attributeBase a name X.env (eval a X.env) = eval a X.env := by rfl) (hline : (apos.endLine == pos.line) = true := by rfl) :
    PE X (.Call (.Attribute a name apos) [b] [] pos) (tN X.K Z W (smN g ma mb)) := by
  unfold smN
  rw [strD_eq]
  exact jn_sm1 slot ty rule ha hb hs hbase hline
end
/-- the script as plain data -/
def scriptD (ns : List Int) : List D := ns.map D.int
theorem reps_ints {K : PySem.W.Frag} {A : Fps} {F : Hp} : ∀ ns : List Int, Reps K A F (ns.map V.int) (ns.map D.int)
  | [] => .nil
  | n :: ns => .cons (.int n) (reps_ints ns)
/-- the law's def, called with a script -/
theorem law_end {P : Program} {w : World} {K : PySem.W.Frag} {mg mb : Str → Option Value} {k : Nat} {fa a : Addr} {fd : FuncData} {x : Str} {mf : Mf} {s : Shared} {vs : List Value} {ns : List Int}
    (KX : K.In s.heap) (hns : s.heap.Ns mainGlobals mg) (hb : s.heap.Ns builtinsNs mb) (hbb : ∀ x : Str, x ≠ "__name__" → mb x = bootBuiltins x) (hlim : s.heap.NoLimit) (hg : s.gens = #[])
    (ha : s.heap.get? a = some { cls := .type "list", data := .seq vs.toArray }) (hi : IntsAre vs ns) (hl : ns.length ≤ sizeLine) (hr : Room k callerA)
    (G : ∀ base : Heap, K.In base → base.Ns mainGlobals mg → FnG P w K mg base k fa fd [x] (spM K 1 mf)) (hbind : ∀ (t : Shared) (u : Value), BindsTo t fd ⟨[u], []⟩ [(x, u)])
    (hm : ∃ S, mf [.rls (scriptD ns)] [] = .ok (.bl true) S) :
    codeAny (model P w) callerA (.call (.ref fa) ⟨[.ref a], []⟩) (fun r s' => r = .ok (.ret (.bool true)) ∧ OldK s.heap s'.heap ∧ s'.os = s.os ∧ AllBare s'.gens) s := by
  -- a def of the older kind, whose promise is asked at the caller's own place alone
  obtain ⟨S, hS⟩ := hm
  have main : ∀ H : Hp, Only H → SqL K H a (ns.map V.int) → spM K 1 mf [.ref a] H (fun v _ => v = .bl true) (fun _ _ _ => False) := fun H hO hq => by
    refine ⟨rfl, H, [], [], [.rls (scriptD ns)], ⟨fun _ _ h => h, rfl, fun n m fp h => by simp at h, by simp, fun q hq => by simp at hq⟩, .cons (.rls hq (reps_ints ns)) .nil, ?_⟩
    rw [hS]
    intro v F' H' A' w' e' r
    cases r
    rfl
  have rv := vals_ints hi
  have lenV := hi.length
  have tell : ∀ H : Hp, Only H → SqL K H a (ns.map V.int) → HOk P w H s.heap → (∀ b, H b ≠ none → b = a) → (H a ≠ none → K.lookup a = none) →
      codeAny (model P w) callerA (.call (.ref fa) ⟨[.ref a], []⟩) (fun r s' => r = .ok (.ret (.bool true)) ∧ OldK s.heap s'.heap ∧ s'.os = s.os ∧ AllBare s'.gens) s := by
    intro H hO hq hok hA hK
    have only : ∀ {b : Addr} {u : HO}, H b = some u → b = a := fun {b u} e => hA b (by rw [e]; simp)
    have low : ∀ {b : Addr} {u : Obj}, s.heap.get? b = some u → H b = none → (hidT s.heap H).get? b = some u := fun e n => hidT_get e n
    have free : ∀ {b : Addr} {u : Obj} {es : Array DictEntry} {ep : Nat}, s.heap.get? b = some u → u.data = .dict es ep → H b = none := fun {b u es ep} e d => by
      cases z : H b with
      | none => rfl
      | some v =>
        have e1 := only z
        subst e1
        rw [ha] at e
        cases e
        exact nomatch (show Data.seq vs.toArray _ = Data.dict es ep from d)
    have ns2 : ∀ {b : Addr} {m : Str → Option Value}, s.heap.Ns b m → (hidT s.heap H).Ns b m := fun {b m} ⟨u, es, ep, e, d, r⟩ => ⟨u, es, ep, low e (free e d), d, r⟩
    have kin : K.In (hidT s.heap H) := fun b u e => low (KX b u e) (by
      cases z : H b with
      | none => rfl
      | some v =>
        have e1 := only z
        subst e1
        rw [hK (by rw [z]; simp)] at e
        cases e)
    obtain ⟨mc, l1, l2⟩ := hlim
    have mod : Mod K mg (hidT s.heap H) := ⟨kin, ns2 hns, ⟨mb, ns2 hb, hbb⟩, ⟨mc, ns2 l1, l2⟩⟩
    have env : Env0 P w K mg (hidT s.heap H) callerA [] s H := ⟨rfl, mod, fun b u e => of_hidT e, Nat.le_of_eq (hidT_size _ _), trivial, fun b q => absurd (show b ∈ ([] : List Addr) from q) List.not_mem_nil, hok, .of_eq hg⟩
    refine codeAny_mono ((G _ kin (ns2 hns)).run callerA [] s H ⟨[.ref a], []⟩ [.ref a] [.ref a] _ _ hr rfl env (hbind s (.ref a)) (.cons rfl .nil) (main H hO hq)) fun r s' post => ?_
    match r, post with
    | .error _, ⟨_, _, _, _, _, _, _, _, _, _, _, _, zz⟩ => exact zz.elim
    | .ok .next, post => exact False.elim post
    | .ok .brk, post => exact False.elim post
    | .ok .cont, post => exact False.elim post
    | .ok (.ret u), post =>
      obtain ⟨v, H', os, bare, un, hok', r', q⟩ := post
      have q : v = .bl true := q
      subst q
      obtain rfl : u = Value.bool true := r'
      refine ⟨rfl, OldK.of_keep fun b u e => ?_, os, bare⟩
      cases z : H b with
      | none => exact un.keep b u e z (fun q => absurd (show b ∈ ([] : List Addr) from q) List.not_mem_nil) (by simp)
      | some v =>
        rcases hO b with q | ⟨ob, xs, q⟩
        · rw [z] at q; cases q
        · obtain ⟨e1, _⟩ := hok b _ q
          obtain ⟨e2, _⟩ := hok' b _ (un.frzs b ob _ q)
          rw [e] at e1
          cases e1
          exact e2
  cases hk : K.lookup a with
  | some u =>
    have e := KX a u hk
    rw [ha] at e
    cases e
    exact tell (fun _ => none) (fun _ => .inl rfl) (.inr ⟨_, vs.toArray, _, hk, rfl, rfl, rfl, by rw [List.size_toArray, lenV]; exact hl, by simpa using rv⟩) (fun b u z => nomatch (show (none : Option HO) = some u from z)) (fun b z => absurd rfl z) fun z => absurd rfl z
  | none =>
    let H0 : Hp := fun b => if b = a then some (.frz { cls := .type "list", data := .seq vs.toArray } (.lst (ns.map V.int))) else none
    have h1 : H0 a = some (.frz { cls := .type "list", data := .seq vs.toArray } (.lst (ns.map V.int))) := if_pos rfl
    have h2 : ∀ b, b ≠ a → H0 b = none := fun b n => if_neg n
    refine tell H0 (fun b => ?_) (.inl (.inr ⟨_, h1⟩)) (fun b u z => ?_) (fun b z => ?_) fun _ => hk
    · by_cases n : b = a
      · subst n; exact .inr ⟨_, _, h1⟩
      · exact .inl (h2 b n)
    · by_cases n : b = a
      · subst n
        rw [h1] at z
        cases z
        exact ⟨ha, by rw [List.length_map]; exact hl, vs, _, rv, ha⟩
      · rw [h2 b n] at z
        cases z
    · by_cases n : b = a
      · exact n
      · exact absurd (h2 b n) z
/-- the whole end: what the row asks of the walk -/
theorem law_walk {l : PySem.W.OpenLaw} {n k : Nat} {q : Program} {loose : List Str} {XP : (Str → Option Value) → Heap → Prop} {YP : World → Heap → Prop} {d : DefRec} {x : Str} {mf : Mf}
    (hn : l.most = some n) (hn2 : n ≤ sizeLine) (hdf : d.params.defaults = []) (hr : Room k callerA)
    (F : ∀ (w : World) (mg : Str → Option Value) (fa : Addr) (h : Heap), YP w h → h.Ns mainGlobals mg → mg d.name = some (.ref fa) →
      ∃ (K : PySem.W.Frag) (fd : FuncData), K.In h ∧ (∀ (s : Shared) (u : Value), BindsTo s fd ⟨[u], []⟩ [(x, u)]) ∧ ∀ base : Heap, K.In base → base.Ns mainGlobals mg → FnG l.prog w K mg base k fa fd [x] (spM K 1 mf))
    (hm : ∀ ns : List Int, ns.length ≤ n → (∀ z ∈ ns, Builtin.Int.intBits z ≤ 1048576) → ∃ S, mf [.rls (scriptD ns)] [] = .ok (.bl true) S) :
    PySem.W.WalkO q loose XP YP l.row.toRowW d [] (fun f vs => PySem.call f vs) := by
  refine Att.attach_callB hn hdf fun w s₀ s₁ mg mb fa o pm cd doc a vs ns G Y ho hd hcd hmg hobj hints hlen hbits hg => ?_
  obtain ⟨K, fd, KX, hb, hF⟩ := F w mg fa _ Y G.T.g hmg
  exact law_end KX G.T.g G.T.b G.T.builtins G.T.nolimit hg hobj hints (Nat.le_trans hlen hn2) hr hF hb (hm ns hlen hbits)
end J
end
section
namespace J
open PySem PySem.Spec PyProof.Rows L2
/-- a def of the text: its address in what is looked at, its words -/
structure DfJ where
  ad : PySem.W.Frag → Addr
  name : Str
  qual : Str
  params : Arguments
  body : List Stmt
  scope : Scope
def fdAt (K : PySem.W.Frag) (a : Addr) : Option FuncData := match K.lookup a with
  | some ⟨_, _, .func fd, _⟩ => some fd
  | _ => none
def fdOf (K : PySem.W.Frag) (a : Addr) : FuncData := match K.lookup a with
  | some ⟨_, _, .func fd, _⟩ => fd
  | _ => PySem.W.fnOf "" "" ⟨[], [], none, [], [], none, []⟩ [] ⟨.function, [], false, false, []⟩ .none .none .none .none none .none .none
def DfJ.look (d : DfJ) (K : PySem.W.Frag) : He.FnW := (fdAt K (d.ad K)).map fun fd => (fd.name, fd.qualname, fd.params, fd.body, fd.scope, fd.globals, fd.closure, fd.builtins)
def DfJ.val (d : DfJ) : He.FnW := some (d.name, d.qual, d.params, .stmts d.body, d.scope, mainGlobals, [], builtinsNs)
def noDfl : Value → Bool
  | .none => true
  | _ => false
def DfJ.ok (d : DfJ) (K : PySem.W.Frag) : Bool := PySem.W.keepIn K (.ref (d.ad K)) && (match fdAt K (d.ad K) with
  | some fd => PySem.W.codeIn K fd.code d.qual && noDfl fd.defaults
  | none => false)
theorem DfJ.funD {K : PySem.W.Frag} {d : DfJ} (e : d.look K = d.val) (c : d.ok K = true) : FunD K d.name d.qual d.params d.body d.scope [] [] (d.ad K) (fdOf K (d.ad K)) := by
  obtain ⟨kp, c2⟩ := Bool.and_eq_true_iff.mp c
  unfold DfJ.look at e
  cases q : K.lookup (d.ad K) with
  | none => simp only [fdAt, q] at c2; cases c2
  | some o =>
    obtain ⟨oc, od, dt, osl⟩ := o
    cases dt with
    | func fd =>
      have q1 : fdAt K (d.ad K) = some fd := by simp only [fdAt, q]
      have q2 : fdOf K (d.ad K) = fd := by simp only [fdOf, q]
      rw [q1] at e c2
      rw [q2]
      obtain ⟨n1, n2, n3, n4, n5, n6, n7, n8, n9, n10, n11, n12, n13, n14, n15⟩ := fd
      have e2 : (some (n1, n2, n3, n4, n5, n6, n7, n15) : He.FnW) = some (d.name, d.qual, d.params, .stmts d.body, d.scope, mainGlobals, [], builtinsNs) := e
      simp only [Option.some.injEq, Prod.mk.injEq] at e2
      obtain ⟨h1, h2, h3, h4, h5, h6, h7, h8⟩ := e2
      subst h1 h2 h3 h4 h5 h6 h7 h8
      obtain ⟨k1, k2⟩ := Bool.and_eq_true_iff.mp (show (PySem.W.codeIn K n13 d.qual && noDfl n8) = true from c2)
      have k3 : n8 = .none := by
        cases n8 with
        | none => rfl
        | _ => cases k2
      exact ⟨⟨oc, od, n8, n9, n10, n11, n12, n13, n14, osl, rfl, q, k1, .inl ⟨rfl, k3⟩, .inl rfl⟩, kp⟩
    | _ => simp only [fdAt, q] at c2; cases c2
abbrev AlJ : Type := He.AlT × Bool × List He.FnW
def lookJ (fa : List He.Fa) (ts : List He.Tab) (fn : List DfJ) (xs : List (PySem.W.Frag → Bool)) (K : PySem.W.Frag) : AlJ := (He.obsT fa [] ts K, (fn.all fun d => d.ok K) && (xs.all fun f => f K), fn.map fun d => d.look K)
def valJ (ts : List He.Tab) (fn : List DfJ) (w : World) : AlJ := (He.valT [] ts w, true, fn.map DfJ.val)
/-- what the module's names reach in n steps, a mask telling what was met -/
def metB (as : List Addr) (st : Nat × List Addr) : Nat × List Addr := as.foldl (fun st a => if st.1.testBit a then st else (st.1 ||| (1 <<< a), a :: st.2)) st
def asB (g : Addr → Option Obj) : Nat → Nat × List Addr × List Addr
  | 0 => (1 <<< mainGlobals, [mainGlobals], [mainGlobals])
  | n + 1 => match asB g n with
    | (m, al, fr) => (match fr.foldl (fun st a => match g a with
      | some o => metB (He.refsD o) st
      | none => st) (m, []) with
      | (m2, nw) => (m2, al ++ nw, nw))
def seeJ (n : Nat) (fa : List He.Fa) (ts : List He.Tab) (fn : List DfJ) (xs : List (PySem.W.Frag → Bool)) (g : Addr → Option Obj) : AlJ := lookJ fa ts fn xs (He.frG g (asB g n).2.1)
def hookJ (n : Nat) (fa : List He.Fa) (ts : List He.Tab) (fn : List DfJ) (xs : List (PySem.W.Frag → Bool)) : PySem.W.Hook where
  α := AlJ
  obs := fun s => seeJ n fa ts fn xs s.heap.get?
  val := fun w => valJ ts fn w
  says := fun w h => ∃ K : PySem.W.Frag, K.In h ∧ lookJ fa ts fn xs K = valJ ts fn w
  of := fun _ _ e => ⟨_, He.frG_in, e⟩
  keeps := fun _ _ _ ⟨K, hK, c⟩ k => ⟨K, PySem.W.Frag.In.keeps hK k, c⟩
theorem seeJ_eq {n : Nat} {fa : List He.Fa} {ts : List He.Tab} {fn : List DfJ} {xs : List (PySem.W.Frag → Bool)} (s : PySem.W.SharedT) : seeJ n fa ts fn xs (HandSHeadRun.getT s) = (hookJ n fa ts fn xs).obs s.abs := by
  have e : HandSHeadRun.getT s = s.abs.heap.get? := funext fun a => HandSHeadRun.getT_eq s a
  rw [e]
  rfl
/-- what the defs lean on -/
structure Ct (fa : List He.Fa) (ts : List He.Tab) (fn : List DfJ) (xs : List (PySem.W.Frag → Bool)) (w : World) (K : PySem.W.Frag) (mg : Str → Option Value) : Prop where
  says : lookJ fa ts fn xs K = valJ ts fn w
  heap : ∃ h : Heap, K.In h ∧ h.Ns mainGlobals mg
section
variable {fa : List He.Fa} {ts : List He.Tab} {fn : List DfJ} {xs : List (PySem.W.Frag → Bool)} {w : World} {K : PySem.W.Frag} {mg : Str → Option Value}
theorem Ct.t (C : Ct fa ts fn xs w K mg) : He.SaysT fa [] ts w K := congrArg (fun z : AlJ => z.1) C.says
theorem Ct.fact (C : Ct fa ts fn xs w K mg) (i : Nat) {f : He.Fa} (h : fa[i]? = some f := by rfl) : f.ok K = true := (C.t.d).fact i h
theorem Ct.tab (C : Ct fa ts fn xs w K mg) (i : Nat) {t : He.Tab} (h : ts[i]? = some t := by rfl) : ∃ es n, KDict K w (t.1 K) es n := C.t.tab i h
theorem Ct.bools (C : Ct fa ts fn xs w K mg) : (fn.all fun d => d.ok K) = true ∧ (xs.all fun f => f K) = true := Bool.and_eq_true_iff.mp (show ((fn.all fun d => d.ok K) && (xs.all fun f => f K)) = true from congrArg (fun z : AlJ => z.2.1) C.says)
theorem Ct.chk (C : Ct fa ts fn xs w K mg) (i : Nat) {f : PySem.W.Frag → Bool} (h : xs[i]? = some f := by rfl) : f K = true := List.all_eq_true.mp C.bools.2 f (List.mem_of_getElem? h)
theorem Ct.fd (C : Ct fa ts fn xs w K mg) (i : Nat) {d : DfJ} (h : fn[i]? = some d := by rfl) : FunD K d.name d.qual d.params d.body d.scope [] [] (d.ad K) (fdOf K (d.ad K)) := by
  have e : fn.map (fun d => d.look K) = fn.map DfJ.val := congrArg (fun z : AlJ => z.2.2) C.says
  have e2 : (fn.map fun d => d.look K)[i]? = (fn.map DfJ.val)[i]? := by rw [e]
  rw [List.getElem?_map, List.getElem?_map, h] at e2
  exact DfJ.funD (Option.some.inj e2) (List.all_eq_true.mp C.bools.1 d (List.mem_of_getElem? h))
theorem Ct.glo (C : Ct fa ts fn xs w K mg) (i : Nat) {x : Str} (h : fa[i]? = some (.glo x) := by rfl) : mg x = some (.ref (He.ga K x)) := by
  obtain ⟨hp, X, G⟩ := C.heap
  exact He.glo_ok X G (C.fact i h)
theorem Ct.free (C : Ct fa ts fn xs w K mg) (i : Nat) {x : Str} (h : fa[i]? = some (.free x) := by rfl) : mg x = none := by
  obtain ⟨hp, X, G⟩ := C.heap
  exact He.free_ok X G (C.fact i h)
/-- a number of the module -/
theorem Ct.int {X : Cx} (C : Ct fa ts fn xs X.w X.K X.mg) {Z : Ent} {W : WX} {pos : Pos} (i : Nat) {x : Str} {n : Int} (h : fa[i]? = some (.int x n) := by rfl) (hg : Gl X x) (hd : (x == ("__debug__" : Str)) = false := by decide) : PE X (.Name x pos) (tM X.K Z W (pure (.int n))) := by
  obtain ⟨hp, Y, G⟩ := C.heap
  obtain ⟨t, e⟩ := He.int_ok Y G (C.fact i h)
  exact je_glob (v := .int n) hg e ⟨t, rfl⟩ (fun _ _ => .int n) hd
theorem Ct.str {X : Cx} (C : Ct fa ts fn xs X.w X.K X.mg) {Z : Ent} {W : WX} {pos : Pos} (i : Nat) {x z : Str} (h : fa[i]? = some (.str x z) := by rfl) (hg : Gl X x) (hz : PyData.strOk z = true := by decide +kernel) (hd : (x == ("__debug__" : Str)) = false := by decide) : PE X (.Name x pos) (tM X.K Z W (pure (.str z))) := by
  obtain ⟨hp, Y, G⟩ := C.heap
  obtain ⟨t, e⟩ := He.str_ok Y G (C.fact i h)
  exact je_glob (v := .str z) hg e ⟨t, rfl⟩ (fun _ _ => .str hz) hd
/-- texts of the module in a tuple -/
theorem reps_strs {K : PySem.W.Frag} {A : Fps} {F : Hp} : ∀ {l : List Str}, (l.all fun z => PyData.strOk z) = true → Reps K A F ((l.map He.Dv.str).map (He.Dv.v K)) (l.map D.str)
  | [], _ => .nil
  | z :: l, h => by
    rw [List.all_cons, Bool.and_eq_true] at h
    exact .cons (.str h.1) (reps_strs h.2)
theorem Ct.tupS {X : Cx} (C : Ct fa ts fn xs X.w X.K X.mg) {Z : Ent} {W : WX} {pos : Pos} (i j : Nat) {x : Str} {l : List Str} (h : fa[i]? = some (.glo x) := by rfl) (h2 : xs[j]? = some (fun K => He.tupB K x (l.map He.Dv.str)) := by rfl) (hg : Gl X x) (hz : (l.all fun z => PyData.strOk z) = true := by decide +kernel) (hd : (x == ("__debug__" : Str)) = false := by decide) :
    PE X (.Name x pos) (tM X.K Z W (pure (.tup (l.map D.str)))) := by
  have e := C.glo i h
  have q : He.tupB X.K x (l.map He.Dv.str) = true := C.chk j h2
  refine PE.wk (pe_glob (v := .ref (He.ga X.K x)) hg e rfl hd) fun σ H Q ⟨F, A, st, R, h⟩ => ?_
  exact h F H A R .refl _ (.tup (He.tupB_ok q F) (reps_strs hz))
end
/-- a property's getter -/
def proAd (C m : Str) (K : PySem.W.Frag) : Addr := match PySem.W.findIn K (.ref (He.ga K C)) m with
  | some (some (.ref p)) => (match PySem.W.recIn K p "property" with
    | some (.ref g :: _) => g
    | _ => 0)
  | _ => 0
def proB (C m : Str) (K : PySem.W.Frag) : Bool := He.eqO (PySem.W.findIn K (.ref (He.ga K C)) m) (some (some (.ref (He.ma K (He.ga K C) m)))) && (He.eqO (PySem.W.specialIn K (.ref (He.ma K (He.ga K C) m)) "__get__") (some (some (.builtin "property.__get__"))) &&
  (decide (PySem.W.takesIn K (.ref (He.ma K (He.ga K C) m)) = some true) && (match PySem.W.recIn K (He.ma K (He.ga K C) m) "property" with
    | some (.ref g :: _) => decide (g = proAd C m K)
    | _ => false)))
theorem proB_ok {C m : Str} {K : PySem.W.Frag} (h : proB C m K = true) : PropOf K (He.ga K C) m (He.ma K (He.ga K C) m) (proAd C m K) := by
  obtain ⟨h1, h⟩ := Bool.and_eq_true_iff.mp h
  obtain ⟨h2, h⟩ := Bool.and_eq_true_iff.mp h
  obtain ⟨h3, h4⟩ := Bool.and_eq_true_iff.mp h
  refine ⟨He.eqO_ok h1, He.eqO_ok h2, of_decide_eq_true h3, ?_⟩
  split at h4
  · rename_i g r e
    rw [of_decide_eq_true h4] at e
    exact ⟨r, e⟩
  · cases h4
def neB (C : Str) (K : PySem.W.Frag) : Bool := He.eqO (PySem.W.findIn K (.ref (He.ga K C)) "__ne__") (some (some (.builtin "object.__ne__"))) && decide (PySem.W.mroIn K (He.ga K C) (.type "object") = some true)
def tyB (C : Str) (K : PySem.W.Frag) : Bool := He.eqO (PySem.W.findIn K (.ref (He.ga K C)) "__class__") (some (some (.builtin "object.__class__"))) && (He.eqO (PySem.W.specialIn K (.builtin "object.__class__") "__get__") (some (some (.builtin "getset_descriptor.__get__"))) &&
  (decide (PySem.W.takesIn K (.builtin "object.__class__") = some true) && decide (PySem.W.mroIn K (He.ga K C) (.type "object") = some true)))
theorem tyB_ok {C : Str} {K : PySem.W.Frag} (c : Cls K (He.ga K C)) (h : tyB C K = true) : TyC K C := by
  obtain ⟨h1, h⟩ := Bool.and_eq_true_iff.mp h
  obtain ⟨h2, h⟩ := Bool.and_eq_true_iff.mp h
  obtain ⟨h3, h4⟩ := Bool.and_eq_true_iff.mp h
  exact ⟨c, He.eqO_ok h1, He.eqO_ok h2, of_decide_eq_true h3, of_decide_eq_true h4⟩
/-- isinstance of an own class -/
def kitB2 (c C : Str) (b : Bool) (K : PySem.W.Frag) : Bool := decide (PySem.W.kitOne K (.ref (He.ga K c)) (.ref (He.ga K C)) = some b)
end J
namespace J
open PySem PySem.Spec PyProof.Rows L2
def tabL (l : List (Str × He.Dv × D)) (z : Str) : Option D := (l.find? fun q => decide (q.1 = z)).map fun q => q.2.2
def dvOk : He.Dv → D → Bool
  | .int i, .int j => decide (i = j)
  | .bl b, .bl c => b == c
  | .str x, .str y => decide (x = y) && PyData.strOk y
  | _, _ => false
theorem dvOk_rep {K : PySem.W.Frag} {v : He.Dv} {d : D} (h : dvOk v d = true) (A : Fps) (F : Hp) : Rep K A F (v.v K) d := by
  cases v with
  | int i => cases d with
    | int j =>
      have e : i = j := of_decide_eq_true h
      subst e
      exact .int i
    | _ => cases h
  | bl b => cases d with
    | bl c =>
      have e : b = c := eq_of_beq h
      subst e
      exact .bl b
    | _ => cases h
  | str x => cases d with
    | str y =>
      obtain ⟨h1, h2⟩ := Bool.and_eq_true_iff.mp (show (decide (x = y) && PyData.strOk y) = true from h)
      have e : x = y := of_decide_eq_true h1
      subst e
      exact .str h2
    | _ => cases h
  | _ => cases d <;> cases h
theorem isStr_lit {x z : Str} {t : Tok} : (Value.str x t).isStr z = decide (x = z) := by
  show (x == z) = decide (x = z)
  by_cases h : x = z
  · subst h
    simp
  · rw [decide_eq_false h]
    exact beq_eq_false_iff_ne.mpr h
theorem no_key {P : Params} {z : Str} : ∀ {l : List DictEntry} {ks : List Str}, l.map He.keyOf = He.keysIn P ks → z ∉ ks → l.find? (fun e => e.key.isStr z) = none ∧ l.any (fun e => e.refKey) = false
  | [], _, _, _ => ⟨rfl, rfl⟩
  | e :: r, [], h, _ => by cases h
  | e :: r, k :: ks, h, hz => by
    have h1 : He.keyOf e :: r.map He.keyOf = some (k, PyData.keyHash P k) :: He.keysIn P ks := h
    injection h1 with h2 h3
    simp only [List.mem_cons, not_or] at hz
    obtain ⟨i1, i2⟩ := no_key h3 hz.2
    unfold He.keyOf at h2
    split at h2
    · rename_i x t q
      obtain ⟨h5, _⟩ := Prod.mk.inj (Option.some.inj h2)
      have e1 : e.key.isStr z = false := by
        rw [q, isStr_lit, h5]
        exact decide_eq_false (Ne.symm hz.1)
      have e2 : e.refKey = false := by
        unfold DictEntry.refKey
        rw [q]
      rw [List.find?_cons, e1, List.any_cons, e2]
      exact ⟨i1, by simpa using i2⟩
    · cases h2
theorem tabK_of {K : PySem.W.Frag} {w : World} {a : Addr} {l : List (Str × He.Dv × D)} (h : He.dicW K a = some (He.keysIn w.params (l.map (·.1)))) (hv : He.valsB K a (l.map fun q => (q.1, q.2.1)) = true) (hd : (l.all fun q => dvOk q.2.1 q.2.2) = true) : TabK K w a (tabL l) := by
  refine ⟨He.dicW_ok h, fun z => ?_⟩
  unfold tabL
  cases q : l.find? (fun q => decide (q.1 = z)) with
  | some p =>
    have hm := List.mem_of_find?_eq_some q
    have hz0 := List.find?_some (p := fun q : Str × He.Dv × D => decide (q.1 = z)) q
    have hz : p.1 = z := of_decide_eq_true hz0
    subst hz
    obtain ⟨u, e1, e2⟩ := He.valsB_ok hv (List.mem_map_of_mem (f := fun q => (q.1, q.2.1)) hm)
    exact ⟨_, e1, .inr ⟨u, _, p.2.2, rfl, rfl, e2, dvOk_rep (List.all_eq_true.mp hd p hm)⟩⟩
  | none =>
    have hz : z ∉ l.map (·.1) := fun hm => by
      obtain ⟨p, hp, e⟩ := List.mem_map.mp hm
      have := List.find?_eq_none.mp q p hp
      rw [e] at this
      simp at this
    refine ⟨none, ?_, .inl ⟨rfl, rfl⟩⟩
    unfold He.dicW at h
    split at h
    · rename_i c es n sl hl
      split at h
      · obtain ⟨i1, i2⟩ := no_key (Option.some.inj h) hz
        unfold PySem.W.nsIn
        rw [hl]
        simp only [i1, i2]
        rfl
      · cases h
    · cases h
theorem Ct.tabW {fa : List He.Fa} {ts : List He.Tab} {fn : List DfJ} {xs : List (PySem.W.Frag → Bool)} {w : World} {K : PySem.W.Frag} {mg : Str → Option Value} (C : Ct fa ts fn xs w K mg) (i : Nat) {t : He.Tab} (h : ts[i]? = some t := by rfl) : He.dicW K (t.1 K) = some (He.keysIn w.params t.2) := by
  have e : ts.map (fun t => He.dicW K (t.1 K)) = ts.map fun t => some (He.keysIn w.params t.2) := congrArg (fun z : He.AlT => z.2) C.t
  have e2 : (ts.map fun t => He.dicW K (t.1 K))[i]? = (ts.map fun t => some (He.keysIn w.params t.2))[i]? := by rw [e]
  rw [List.getElem?_map, List.getElem?_map, h] at e2
  exact Option.some.inj e2
end J
namespace J
open PySem PySem.Spec PyProof.Rows L2
section
variable {X : Cx} {K : PySem.W.Frag} {Z : Ent} {W : WX} {F H : Hp} {A : Fps} {σ : L2.St} {st : Sta} {pos : Pos} {a b : Expr} {ma : M D} {m : M (List D)}
theorem Loose.setVal {q : Addr} {vs : List V} {ds : List D} {i : Nat} {v : V} {d : D} (l : Loose K Z F H A σ st q vs ds) : Loose K Z F H A (σ.set i (some v)) (st.set i (some (.val d))) q vs ds := by
  refine ⟨l.at_, l.rs, l.nF, l.nA, l.nZ, fun j m h => ?_⟩
  rcases set_get h with ⟨_, e⟩ | ⟨n, e⟩
  · cases e
  · rw [List.getElem?_set_ne (Ne.symm n)]
    exact l.ap j m e
/-- a, b = x, [..]: the second name holds a new list -/
def parO (i j : Nat) (ma : M D) (m : M (List D)) : M Fl := ma >>= fun d => m >>= fun l => thenN fun st => (setV i d st).bind (setO j l)
theorem js_parO {i j : Nat} {x y : Str} {px py pt pt2 : Pos} {kt k2 : Nat} (hc : X.calm = true) (hn : X.N.Nodup) (ha : PE X a (tM X.K Z W ma)) (hb : PE X b (tN X.K Z W m)) (hi : X.N[i]? = some x := by rfl) (hj : X.N[j]? = some y := by rfl) (hij : i ≠ j := by decide)
    (hx : X.env.scope.names.lookup x = some .local := by rfl) (hy : X.env.scope.names.lookup y = some .local := by rfl)
    (hw : swappedStores [.Tuple [.Name x px, .Name y py] kt pt] (.Tuple [a, b] k2 pt2) X.env = pure (some [x, y]) := by rfl)
    (hs0 : swapsWithSole [.Tuple [.Name x px, .Name y py] kt pt] (.Tuple [a, b] k2 pt2) pos.line X.env = pure false := by rfl)
    (hs : starEach [a, b] X.env = (false, eval a X.env) :: starEach [b] X.env := by rfl) (hs2 : starEach [b] X.env = (false, eval b X.env) :: starEach [] X.env := by rfl) :
    PS X (.Assign [.Tuple [.Name x px, .Name y py] kt pt] (.Tuple [a, b] k2 pt2) pos) (tS X.K Z W (parO i j ma m)) := by
  refine PS.wk (ps_par hc hn hi hj hij hx hy (pa_cons ha (pa_cons hb pa_nil hs2) hs) hw hs0) fun E σ H ⟨F, A, st, R, h⟩ => ?_
  refine ⟨F, A, st, R, h.bind.imp fun d st1 F1 H1 A1 R1 m1 z v rv => ?_⟩
  refine ⟨F1, A1, st1, R1, z.bind.imp fun l st2 F2 H2 A2 R2 m2 z q vs lo => ?_⟩
  obtain ⟨st3, e3, z⟩ := thenN_S z
  obtain ⟨st4, e4, e5⟩ := Option.bind_eq_some_iff.mp e3
  obtain ⟨h1, rfl⟩ := setV_some e4
  obtain ⟨h2, rfl⟩ := setO_some e5
  refine ⟨_, _, rfl, ?_⟩
  have R3 := R2.setVal (by rw [← R2.len]; exact h1) (rv.mono m2)
  exact z _ F2 H2 A2 (R3.setOwn (by rw [← R3.len]; exact h2) lo.setVal) .refl
end
end J
end
section
namespace J
open PySem PySem.Spec L2
def Wp {α : Type} (m : M α) (st : Sta) (Q : α → Sta → Prop) : Prop := ∃ a st', m st = .ok a st' ∧ Q a st'
/-- a def is called -/
def Wf (f : Mf) (ds : List D) (S : List MO) (Q : D → List MO → Prop) : Prop := ∃ d S', f ds S = .ok d S' ∧ Q d S'
section
variable {α β : Type} {m n : M α} {st : Sta} {S : List MO} {a b c : M D} {x y : D} {i j : Nat} {f g : M Fl}
theorem Wp.imp {Q Q' : α → Sta → Prop} (h : Wp m st Q) (k : ∀ a st', Q a st' → Q' a st') : Wp m st Q' := by
  obtain ⟨x, st', e, q⟩ := h
  exact ⟨x, st', e, k x st' q⟩
theorem Wf.imp {f : Mf} {ds : List D} {Q Q' : D → List MO → Prop} (h : Wf f ds S Q) (k : ∀ a st', Q a st' → Q' a st') : Wf f ds S Q' := by
  obtain ⟨x, st', e, q⟩ := h
  exact ⟨x, st', e, k x st' q⟩
theorem wp_bind {h : α → M β} {Q : β → Sta → Prop} (w : Wp m st fun a st' => Wp (h a) st' Q) : Wp (m >>= h) st Q := by
  obtain ⟨x, st1, e, y, st2, e2, q⟩ := w
  exact ⟨y, st2, by rw [bind_eq, e]; exact e2, q⟩
theorem wp_pure {a : α} {Q : α → Sta → Prop} (w : Q a st) : Wp (pure a) st Q := ⟨a, st, rfl, w⟩
theorem wp_of {o : Option α} {Q : α → Sta → Prop} (w : ∃ a, o = some a ∧ Q a st) : Wp (M.of o) st Q := by
  obtain ⟨a, e, q⟩ := w
  subst e
  exact ⟨a, st, rfl, q⟩
theorem wp_val {d : D} {Q : D → Sta → Prop} (h : st.r[i]? = some (some (.val d))) (w : Q d st) : Wp (getV i) st Q := ⟨d, st, by unfold getV; rw [h], w⟩
theorem wp_own {l : List D} {Q : D → Sta → Prop} (h : st.r[i]? = some (some (.own l))) (w : Q (.lst l) (st.set i (some (.val (.lst l))))) : Wp (getV i) st Q := ⟨_, _, by unfold getV; rw [h], w⟩
theorem wp_look {l : List D} {Q : D → Sta → Prop} (h : st.r[i]? = some (some (.own l))) (w : Q (.lst l) st) : Wp (lookV i) st Q := ⟨_, _, by unfold lookV; rw [h], w⟩
theorem wp_lookv {d : D} {Q : D → Sta → Prop} (h : st.r[i]? = some (some (.val d))) (w : Q d st) : Wp (lookV i) st Q := ⟨_, _, by unfold lookV; rw [h], w⟩
theorem wp_call {f : Mf} {ds : List D} {Q : D → Sta → Prop} (w : Wf f ds st.S fun d S => Q d { st with S := S }) : Wp (callM f ds) st Q := by
  obtain ⟨d, S', e, q⟩ := w
  exact ⟨d, _, by unfold callM; rw [e], q⟩
theorem wp_fn {f : Mf} {l : M (List D)} {Q : D → Sta → Prop} (w : Wp l st fun ds st1 => Wf f ds st1.S fun d S => Q d { st1 with S := S }) : Wp (fnM l f) st Q := wp_bind (w.imp fun _ _ h => wp_call h)
theorem wp_op {g : D → D → Option D} {Q : D → Sta → Prop} (w : Wp a st fun x st1 => Wp b st1 fun y st2 => ∃ d, g x y = some d ∧ Q d st2) : Wp (opM g a b) st Q := wp_bind (w.imp fun _ _ h => wp_bind (h.imp fun _ _ h => wp_of h))
theorem wp_cmp {g : D → D → Option D} {Q : Bool → Sta → Prop} (w : Wp a st fun x st1 => Wp b st1 fun y st2 => ∃ d, (g x y).bind D.isB = some d ∧ Q d st2) : Wp (cmpT g a b) st Q := wp_bind (w.imp fun _ _ h => wp_bind (h.imp fun _ _ h => wp_of h))
theorem wp_un {g : D → Option D} {Q : D → Sta → Prop} (w : Wp a st fun x st1 => ∃ d, g x = some d ∧ Q d st1) : Wp (unM g a) st Q := wp_bind (w.imp fun _ _ h => wp_of h)
theorem wp_bi {g : List D → Option D} {l : M (List D)} {Q : D → Sta → Prop} (w : Wp l st fun x st1 => ∃ d, g x = some d ∧ Q d st1) : Wp (biM g l) st Q := wp_bind (w.imp fun _ _ h => wp_of h)
theorem wp_biN {g : List D → Option (List D)} {l : M (List D)} {Q : List D → Sta → Prop} (w : Wp l st fun x st1 => ∃ d, g x = some d ∧ Q d st1) : Wp (biN g l) st Q := wp_bind (w.imp fun _ _ h => wp_of h)
theorem wp_nil {Q : List D → Sta → Prop} (w : Q [] st) : Wp (pure []) st Q := wp_pure w
theorem wp_cons {l : M (List D)} {Q : List D → Sta → Prop} (w : Wp a st fun x st1 => Wp l st1 fun xs st2 => Q (x :: xs) st2) : Wp (consM a l) st Q := wp_bind (w.imp fun _ _ h => wp_bind (h.imp fun _ _ h => wp_pure h))
theorem wp_tup {l : M (List D)} {Q : D → Sta → Prop} (w : Wp l st fun xs st1 => Q (.tup xs) st1) : Wp (tupM l) st Q := wp_bind (w.imp fun _ _ h => wp_pure h)
theorem wp_lst {l : M (List D)} {Q : D → Sta → Prop} (w : Wp l st fun xs st1 => Q (.lst xs) st1) : Wp (lstM l) st Q := wp_bind (w.imp fun _ _ h => wp_pure h)
theorem wp_tst {Q : Bool → Sta → Prop} (w : Wp a st fun x st1 => ∃ d, x.isB = some d ∧ Q d st1) : Wp (tstM a) st Q := wp_bind (w.imp fun _ _ h => wp_of h)
theorem wp_true {Q : Bool → Sta → Prop} (w : Wp a st fun x st1 => ∃ d, dTrue x = some d ∧ Q d st1) : Wp (trueM a) st Q := wp_bind (w.imp fun _ _ h => wp_of h)
theorem wp_isNT {Q : Bool → Sta → Prop} (w : Wp a st fun x st1 => Q x.isN st1) : Wp (isNT a) st Q := wp_bind (w.imp fun _ _ h => wp_pure h)
theorem wp_notNT {Q : Bool → Sta → Prop} (w : Wp a st fun x st1 => Q (!x.isN) st1) : Wp (notNT a) st Q := wp_bind (w.imp fun _ _ h => wp_pure h)
theorem wp_ret {Q : Fl → Sta → Prop} (w : Wp a st fun x st1 => Q (.ret x) st1) : Wp (retM a) st Q := wp_bind (w.imp fun _ _ h => wp_pure h)
theorem wp_if {c : M Bool} {Q : α → Sta → Prop} (w : Wp c st fun b st1 => Wp (if b = true then m else n) st1 Q) : Wp (ifM c m n) st Q := wp_bind w
theorem wp_then {b : Bool} {Q : α → Sta → Prop} (h : b = true) (w : Wp m st Q) : Wp (if b = true then m else n) st Q := by rw [if_pos h]; exact w
theorem wp_else {b : Bool} {Q : α → Sta → Prop} (h : b = false) (w : Wp n st Q) : Wp (if b = true then m else n) st Q := by rw [if_neg (by rw [h]; exact Bool.false_ne_true)]; exact w
theorem wp_not {c : M Bool} {Q : Bool → Sta → Prop} (w : Wp c st fun b st1 => Q (!b) st1) : Wp (J.notM c) st Q := wp_bind (w.imp fun _ _ h => wp_pure h)
theorem wp_and {c d : M Bool} {Q : Bool → Sta → Prop} (w : Wp c st fun b st1 => Wp (if b = true then d else pure false) st1 Q) : Wp (J.andM c d) st Q := wp_bind w
theorem wp_or {c d : M Bool} {Q : Bool → Sta → Prop} (w : Wp c st fun b st1 => Wp (if b = true then pure true else d) st1 Q) : Wp (J.orM c d) st Q := wp_bind w
/-- behind a statement -/
def Fq (n : M Fl) (Q : Fl → Sta → Prop) (f : Fl) (st : Sta) : Prop := match f with
  | .next => Wp n st Q
  | f => Q f st
theorem wp_seq {Q : Fl → Sta → Prop} (w : Wp f st (Fq g Q)) : Wp (seqM f g) st Q := wp_bind (w.imp fun a st1 h => by
  cases a with
  | next => exact h
  | _ => exact wp_pure h)
theorem wp_set {Q : Fl → Sta → Prop} (w : Wp a st fun d st1 => i < st1.r.length ∧ Q .next (st1.set i (some (.val d)))) : Wp (setM i a) st Q := wp_bind (w.imp fun d st1 ⟨h1, h2⟩ => ⟨.next, _, by unfold thenN setV; rw [if_pos h1], h2⟩)
theorem wp_ownS {l : M (List D)} {Q : Fl → Sta → Prop} (w : Wp l st fun d st1 => i < st1.r.length ∧ Q .next (st1.set i (some (.own d)))) : Wp (ownS i l) st Q := wp_bind (w.imp fun d st1 ⟨h1, h2⟩ => ⟨.next, _, by unfold thenN setO; rw [if_pos h1], h2⟩)
theorem wp_asg {g : D → Tg} {Q : Fl → Sta → Prop} (w : Wp a st fun d st1 => ∃ st2, g d st1 = some st2 ∧ Q .next st2) : Wp (asgM g a) st Q := wp_bind (w.imp fun d st1 ⟨st2, h1, h2⟩ => ⟨.next, _, by unfold thenN; rw [h1], h2⟩)
theorem wp_par {l : M (List D)} {Q : Fl → Sta → Prop} (w : Wp l st fun d st1 => ∃ st2, parM i j d st1 = some st2 ∧ Q .next st2) : Wp (parS i j l) st Q := wp_bind (w.imp fun d st1 ⟨st2, h1, h2⟩ => ⟨.next, _, by unfold thenN; rw [h1], h2⟩)
theorem wp_parO {l : M (List D)} {Q : Fl → Sta → Prop} (w : Wp a st fun d st1 => Wp l st1 fun l st2 => ∃ st3, ((setV i d st2).bind (setO j l)) = some st3 ∧ Q .next st3) : Wp (parO i j a l) st Q :=
  wp_bind (w.imp fun d st1 h => wp_bind (h.imp fun l st2 ⟨st3, h1, h2⟩ => ⟨.next, _, by unfold thenN; simp only [h1], h2⟩))
theorem wp_app {l : List D} {Q : Fl → Sta → Prop} (h : st.r[i]? = some (some (.own l))) (w : Wp a st fun d st1 => ∃ l', st1.r[i]? = some (some (.own l')) ∧ l'.length < 1000000 ∧ Q .next (st1.set i (some (.own (l' ++ [d]))))) : Wp (appS i a) st Q := by
  refine wp_bind ⟨l, st, by unfold ownM; rw [h], wp_bind (w.imp fun d st1 ⟨l', h1, h2, h3⟩ => ⟨.next, _, ?_, h3⟩)⟩
  unfold thenN putO appL
  rw [h1]
  simp only [if_pos h2]
  rfl
/-- loops -/
theorem wp_for_nil {g : D → Tg} {f : M Fl} {Q : Fl → Sta → Prop} (w : Q .next st) : Wp (forM g f []) st Q := wp_pure w
def Lq (n : M Fl) (Q : Fl → Sta → Prop) (f : Fl) (st : Sta) : Prop := match f with
  | .next => Wp n st Q
  | .cont => Wp n st Q
  | .brk => Q .next st
  | .ret d => Q (.ret d) st
theorem wp_for_cons {g : D → Tg} {f : M Fl} {d : D} {ds : List D} {st1 : Sta} {Q : Fl → Sta → Prop} (h : g d st = some st1) (w : Wp f st1 (Lq (forM g f ds) Q)) : Wp (forM g f (d :: ds)) st Q := by
  obtain ⟨a, st2, e, q⟩ := w
  have go : ∀ {r : M Fl}, Wp r st2 Q → (forM g f (d :: ds)) st = r st2 → Wp (forM g f (d :: ds)) st Q := fun ⟨b, st3, e3, q3⟩ e4 => ⟨b, st3, e4.trans e3, q3⟩
  have base : (forM g f (d :: ds)) st = (f >>= fun f' => (match f' with
      | .next => forM g f ds
      | .cont => forM g f ds
      | .brk => pure .next
      | .ret d => pure (.ret d))) st1 := by
    conv => lhs; unfold forM
    first
    | (simp only [h]; rfl)
    | simp only [h]
  rw [bind_eq, e] at base
  cases a with
  | next => exact go q base
  | cont => exact go q base
  | brk => exact ⟨.next, st2, base, q⟩
  | ret d => exact ⟨.ret d, st2, base, q⟩
theorem wp_for {mi : M (List D)} {g : D → Tg} {f : M Fl} {Q : Fl → Sta → Prop} (w : Wp mi st fun ds st1 => Wp (forM g f ds) st1 Q) : Wp (forS mi g f) st Q := wp_bind w
/-- a loop by an invariant over what is left -/
theorem wp_forI {g : D → Tg} {f : M Fl} {Q : Fl → Sta → Prop} (I : List D → Sta → Prop) (he : ∀ st, I [] st → Q .next st) (hs : ∀ d ds st, I (d :: ds) st → ∃ st1, g d st = some st1 ∧ Wp f st1 (fun fl st2 => match fl with
      | .next => I ds st2
      | .cont => I ds st2
      | .brk => Q .next st2
      | .ret d => Q (.ret d) st2)) : ∀ (ds : List D) (st : Sta), I ds st → Wp (forM g f ds) st Q
  | [], st, h => wp_for_nil (he st h)
  | d :: ds, st, h => by
    obtain ⟨st1, e, w⟩ := hs d ds st h
    refine wp_for_cons e (w.imp fun a st2 q => ?_)
    cases a with
    | next => exact wp_forI I he hs ds st2 q
    | cont => exact wp_forI I he hs ds st2 q
    | brk => exact q
    | ret d => exact q
theorem wp_while {c : M Bool} {f : M Fl} {k : Nat} {Q : Fl → Sta → Prop} (w : Wp c st fun b st1 => Wp (if b = true then f >>= fun f' => (match f' with
      | .next => whileM c f k
      | .cont => whileM c f k
      | .brk => pure .next
      | .ret d => pure (.ret d)) else pure .next) st1 Q) : Wp (whileM c f (k + 1)) st Q := wp_bind w
theorem wp_loop {f : M Fl} {r : M Fl} {Q : Fl → Sta → Prop} (w : Wp f st (Lq r Q)) : Wp (f >>= fun f' => (match f' with
      | .next => r
      | .cont => r
      | .brk => pure .next
      | .ret d => pure (.ret d))) st Q := wp_bind (w.imp fun a st2 q => by
  cases a with
  | next => exact q
  | cont => exact q
  | brk => exact wp_pure q
  | ret d => exact wp_pure q)
/-- a comprehension -/
theorem wp_comp {fz ws : List Nat} {mi : M (List D)} {g : D → Tg} {mc : M Bool} {me : M D} {Q : List D → Sta → Prop} (w : Wp mi st fun ds st1 => ds.length ≤ 1000000 ∧ Wp (compL ws g mc me [] ds) (frzSt fz st1) Q) : Wp (compM fz ws mi g mc me) st Q := by
  refine wp_bind (w.imp fun ds st1 ⟨h, a, st2, e, q⟩ => ⟨a, st2, ?_, q⟩)
  show (if ds.length ≤ 1000000 then compL ws g mc me [] ds (frzSt fz st1) else .stk) = _
  rw [if_pos h]
  exact e
theorem wp_compN {ws : List Nat} {g : D → Tg} {mc : M Bool} {me : M D} {acc : List D} {Q : List D → Sta → Prop} (w : Q acc st) : Wp (compL ws g mc me acc []) st Q := wp_pure w
theorem wp_compC {ws : List Nat} {g : D → Tg} {mc : M Bool} {me : M D} {acc : List D} {d : D} {ds : List D} {st1 : Sta} {Q : List D → Sta → Prop} (h : g d (maskSt ws st) = some st1)
    (w : Wp mc st1 fun b st2 => if b = true then Wp me st2 fun y st3 => Wp (compL ws g mc me (acc ++ [y]) ds) { st with S := st3.S } Q else Wp (compL ws g mc me acc ds) { st with S := st2.S } Q) : Wp (compL ws g mc me acc (d :: ds)) st Q := by
  obtain ⟨b, st2, e, q⟩ := w
  cases b with
  | true =>
    rw [if_pos rfl] at q
    obtain ⟨y, st3, e3, a, st4, e4, q4⟩ := q
    refine ⟨a, st4, ?_, q4⟩
    conv => lhs; unfold compL
    simp only [h, e, e3]
    exact e4
  | false =>
    rw [if_neg Bool.false_ne_true] at q
    obtain ⟨a, st4, e4, q4⟩ := q
    refine ⟨a, st4, ?_, q4⟩
    conv => lhs; unfold compL
    simp only [h, e]
    exact e4
/-- a comprehension by an invariant: what is made, what is left -/
theorem wp_compI {ws : List Nat} {g : D → Tg} {mc : M Bool} {me : M D} {r : List (Option Sl)} {Q : List D → Sta → Prop} (I : List D → List D → List MO → Prop) (he : ∀ acc S, I acc [] S → Q acc ⟨r, S⟩)
    (hs : ∀ acc d ds S, I acc (d :: ds) S → ∃ st1, g d (maskSt ws ⟨r, S⟩) = some st1 ∧ Wp mc st1 fun b st2 => if b = true then Wp me st2 fun y st3 => I (acc ++ [y]) ds st3.S else I acc ds st2.S) :
    ∀ (ds acc : List D) (S : List MO), I acc ds S → Wp (compL ws g mc me acc ds) ⟨r, S⟩ Q
  | [], acc, S, h => wp_compN (he acc S h)
  | d :: ds, acc, S, h => by
    obtain ⟨st1, e, w⟩ := hs acc d ds S h
    refine wp_compC e (w.imp fun b st2 q => ?_)
    cases b with
    | true =>
      rw [if_pos rfl] at q ⊢
      exact q.imp fun y st3 q => wp_compI I he hs ds _ _ q
    | false =>
      rw [if_neg Bool.false_ne_true] at q ⊢
      exact wp_compI I he hs ds _ _ q
/-- slices, texts -/
theorem wp_sl {l h : M (Option Int)} {Q : D → Sta → Prop} (w : Wp a st fun x st1 => Wp l st1 fun l st2 => Wp h st2 fun u st3 => ∃ d, dSl x l u = some d ∧ Q d st3) : Wp (slM a l h) st Q :=
  wp_bind (w.imp fun _ _ w => wp_bind (w.imp fun _ _ w => wp_bind (w.imp fun _ _ w => wp_of w)))
theorem wp_slN {l h : M (Option Int)} {Q : List D → Sta → Prop} (w : Wp a st fun x st1 => Wp l st1 fun l st2 => Wp h st2 fun u st3 => ∃ d, dSlN x l u = some d ∧ Q d st3) : Wp (slN a l h) st Q :=
  wp_bind (w.imp fun _ _ w => wp_bind (w.imp fun _ _ w => wp_bind (w.imp fun _ _ w => wp_of w)))
theorem wp_bd {Q : Option Int → Sta → Prop} (w : Wp a st fun x st1 => ∃ d, x.isI.map some = some d ∧ Q d st1) : Wp (bdM a) st Q := wp_bind (w.imp fun _ _ h => wp_of h)
theorem wp_addN {Q : List D → Sta → Prop} (w : Wp a st fun x st1 => Wp b st1 fun y st2 => ∃ d, dAddN x y = some d ∧ Q d st2) : Wp (addN a b) st Q := wp_bind (w.imp fun _ _ h => wp_bind (h.imp fun _ _ h => wp_of h))
theorem wp_it {Q : List D → Sta → Prop} (w : Wp a st fun x st1 => ∃ d, dItems x = some d ∧ Q d st1) : Wp (itM a) st Q := wp_bind (w.imp fun _ _ h => wp_of h)
theorem wp_sm {g : D → List D → Option D} {Q : D → Sta → Prop} (w : Wp a st fun x st1 => ∃ z, strD x = some z ∧ Wp b st1 fun y st2 => ∃ d, g z [y] = some d ∧ Q d st2) : Wp (smM g a b) st Q :=
  wp_bind (w.imp fun _ _ h => wp_bind (wp_of (h.elim fun z ⟨e, h⟩ => ⟨z, e, wp_bind (h.imp fun _ _ h => wp_of h)⟩)))
theorem wp_smN {g : D → List D → Option (List D)} {Q : List D → Sta → Prop} (w : Wp a st fun x st1 => ∃ z, strD x = some z ∧ Wp b st1 fun y st2 => ∃ d, g z [y] = some d ∧ Q d st2) : Wp (smN g a b) st Q :=
  wp_bind (w.imp fun _ _ h => wp_bind (wp_of (h.elim fun z ⟨e, h⟩ => ⟨z, e, wp_bind (h.imp fun _ _ h => wp_of h)⟩)))
theorem wp_lenO {l : List D} {Q : D → Sta → Prop} (h : st.r[i]? = some (some (.own l))) (w : Q (.int l.length) st) : Wp (lenO i) st Q := wp_bind (wp_look h (wp_of ⟨_, rfl, w⟩))
theorem wp_lenV {l : List D} {Q : D → Sta → Prop} (h : st.r[i]? = some (some (.val (.lst l)))) (w : Q (.int l.length) st) : Wp (lenO i) st Q := wp_bind (wp_lookv h (wp_of ⟨_, rfl, w⟩))
theorem wp_isi {T : String} {kt : Str → Option Bool} {Q : D → Sta → Prop} (w : Wp a st fun x st1 => ∃ d, (isiD T kt x).map D.bl = some d ∧ Q d st1) : Wp (isiM T kt a) st Q := wp_bind (w.imp fun _ _ h => wp_of h)
theorem wp_isiC {kb : String → Option Bool} {kt : Str → Option Bool} {Q : D → Sta → Prop} (w : Wp a st fun x st1 => ∃ d, (isiO kb kt x).map D.bl = some d ∧ Q d st1) : Wp (isiC kb kt a) st Q := wp_bind (w.imp fun _ _ h => wp_of h)
theorem wp_rep {Q : D → Sta → Prop} (w : Wp a st fun x st1 => ∃ d, repD x = some d ∧ Q d st1) : Wp (repM a) st Q := wp_bind (w.imp fun _ _ h => wp_of h)
theorem wp_cmp2 {g1 g2 : D → D → Option D} {Q : Bool → Sta → Prop} (w : Wp a st fun x st1 => Wp b st1 fun y st2 => ∃ t, (g1 x y).bind D.isB = some t ∧ Wp (if t = true then c >>= fun z => M.of ((g2 y z).bind D.isB) else pure false) st2 Q) : Wp (cmpT2 g1 g2 a b c) st Q :=
  wp_bind (w.imp fun _ _ h => wp_bind (h.imp fun _ _ h => wp_bind (wp_of h)))
/-- a def's body gives the def -/
def Rq (Q : D → List MO → Prop) (f : Fl) (st : Sta) : Prop := match f with
  | .ret d => Q d st.S
  | .next => Q .non st.S
  | _ => False
theorem wf_run {k : Nat} {ds : List D} {Q : D → List MO → Prop} (w : Wp f ⟨slots k ds, S⟩ (Rq Q)) : Wf (runB k f) ds S Q := by
  obtain ⟨a, st', e, q⟩ := w
  cases a with
  | ret d => exact ⟨d, st'.S, by unfold runB; rw [e], q⟩
  | next => exact ⟨.non, st'.S, by unfold runB; rw [e], q⟩
  | brk => exact q.elim
  | cont => exact q.elim
end
end J
end
section
namespace J
open PySem PySem.Spec L2 PyProof.Rows
section
variable {X : Cx} {Z : Ent} {W : WX} {k : Nat} {pos : Pos} {a : Expr} {ma : M D} {σ : L2.St} {H : Hp} {st : Sta} {F : Hp} {A : Fps}
def dFmt : D → Option D
  | .str y => if y.length ≤ 16777216 then some (.str y) else none
  | .int i => if i.natAbs.log2 < 1920 then some (.str (Str.ofString (toString i))) else none
  | _ => none
def fmtM (m : M D) : M D := m >>= fun d => M.of (dFmt d)
theorem je_fmt (ha : PE X a (tM X.K Z W ma)) : PE X (.FormattedValue a (-1) none pos) (tM X.K Z W (fmtM ma)) := by
  refine PE.wk (pe_fmt ha) fun σ H Q ⟨F, A, st, R, h⟩ => ?_
  refine ⟨F, A, st, R, h.bind.imp fun d st1 F1 H1 A1 R1 m1 z v r => ?_⟩
  obtain ⟨res, eg, z⟩ := of_after z
  cases r with
  | str hy =>
    unfold dFmt at eg
    simp only at eg
    split at eg
    · rename_i hz
      cases eg
      exact .inl ⟨_, rfl, by rw [sizeLine_eq]; exact hz, z F1 H1 A1 R1 .refl _ (.str hy)⟩
    · cases eg
  | int i =>
    unfold dFmt at eg
    simp only at eg
    split at eg
    · rename_i hz
      cases eg
      exact .inr ⟨i, rfl, hz, z F1 H1 A1 R1 .refl _ (.str (strOk_int i))⟩
    · cases eg
  | _ => cases eg
/-- the parts of an f-string -/
def joinsM : List (M D) → Str → M D
  | [], acc => pure (.str acc)
  | m :: ms, acc => m >>= fun d => match d with
    | .str y => if (acc ++ y).length ≤ 16777216 then joinsM ms (acc ++ y) else M.stuck
    | _ => M.stuck
inductive JJ (X : Cx) (Z : Ent) (W : WX) : List Expr → List (M D) → Prop where
  | nil : JJ X Z W [] []
  | cons {e : Expr} {m : M D} {es : List Expr} {ms : List (M D)} (h : PE X e (tM X.K Z W m)) (r : JJ X Z W es ms) : JJ X Z W (e :: es) (m :: ms)
theorem JJ.pj {es : List Expr} {ms : List (M D)} (h : JJ X Z W es ms) : PJ X es (ms.map (tM X.K Z W)) := by
  induction h with
  | nil => exact .nil
  | cons h _ ih => exact .cons h ih
theorem joins_ok : ∀ (ms : List (M D)) (acc : Str) {σ : L2.St} {H : Hp} {Q : VK} {F : Hp} {A : Fps} {st : Sta}, PyData.strOk acc = true → Rel X.K Z F H A σ st → After X.K Z W σ F A (joinsM ms acc st) (fun d _ F' H' A' => ∀ v, Rep X.K A' F' v d → Q v H') → tJs (ms.map (tM X.K Z W)) acc σ H fun out H1 => Q (.str out) H1
  | [], acc, σ, H, Q, F, A, st, ha, R, h => by
    exact h F H A R .refl _ (.str ha)
  | m :: ms, acc, σ, H, Q, F, A, st, ha, R, h => by
    refine ⟨F, A, st, R, h.bind.imp fun d st1 F1 H1 A1 R1 m1 z v r => ?_⟩
    cases r with
    | @str y hy =>
      have z : After X.K Z W σ F1 A1 ((if (acc ++ y).length ≤ 16777216 then joinsM ms (acc ++ y) else M.stuck) st1) _ := z
      split at z
      · rename_i hz
        exact ⟨y, rfl, by rw [sizeLine_eq]; exact hz, joins_ok ms (acc ++ y) (strOk_append ha hy) R1 z⟩
      · exact z.elim
    | _ => exact z.elim
theorem je_joined {v1 v2 : Expr} {rest : List Expr} {ms : List (M D)} (h : JJ X Z W (v1 :: v2 :: rest) ms) : PE X (.JoinedStr (v1 :: v2 :: rest) pos) (tM X.K Z W (joinsM ms Str.empty)) := by
  refine PE.wk (pe_joined h.pj) fun σ H Q ⟨F, A, st, R, h⟩ => ?_
  exact joins_ok ms Str.empty (by decide +kernel) R h
end
end J
end
section
namespace J
open PySem PySem.Spec L2 PyProof.Rows
open PySem.SeqAt
open AutoSeq1 (wpAny_loadPart')
/-- what a loop of == over pairs leads to -/
def TupQ (prog : Program) (w : World) (A : Around) (R : Result → Shared → Prop) (fin : Bool) : List (Value × Value) → Shared → Prop
  | [], s => R (.ok (.ret (.bool fin))) s
  | p :: r, s => wpAny (model prog w) A.in1 (eqBool p.1 p.2) (fun t s' => if t = true then TupQ prog w A R fin r s' else R (.ok (.ret (.bool false))) s') (fun e s' => R (.error e) s') s
theorem tup_eqS {prog : Program} {w : World} (l b : Addr) (xs ys : Array Value) (n m : Nat) (d1 d2 : Option Addr) (s1 s2 : Array (Option Value)) :
    MeetsIn prog w (Builtin.«tuple.__eq__» ⟨[.ref l, .ref b], []⟩)
      (fun A R s => s.heap.get? l = some { cls := .type "tuple", dict := d1, data := .seq xs n, slots := s1 } ∧ s.heap.get? b = some { cls := .type "tuple", dict := d2, data := .seq ys m, slots := s2 } ∧
        TupQ prog w A R (xs.size == ys.size) (xs.toList.zip ys.toList) s) :=
  .of_wp fun A R s ⟨hl, hb, h⟩ => by
    obtain ⟨q0, q1, q2, q3, q4⟩ := s
    have sub2 := AutoSeq1.sub_tuple_tuple
    wp_walk using wpAny_loadPart' hl, wpAny_loadPart' hb, wpAny_forIn_list _ (fun rest b s' => b.1 = none ∧ TupQ prog w A R (xs.size == ys.size) rest s') _
    case turn =>
      rintro p rest c s' ⟨hb', hq⟩
      refine wpAny_bind (wpAny_mono hq (fun t s2 h2 => ?_) fun _ _ z => z)
      cases t with
      | true =>
        rw [if_pos rfl] at h2
        wp_walk
        exact ⟨rfl, h2⟩
      | false =>
        rw [if_neg Bool.false_ne_true] at h2
        wp_walk
        exact ⟨_, rfl, h2⟩
    case fin =>
      rintro ⟨c1, c2⟩ s' ⟨hb', hq⟩
      simp only at hb'
      subst hb'
      wp_walk
      exact ⟨_, rfl, hq⟩
    case h =>
      exact ⟨rfl, h⟩
mutual
/-- two data that are surely not one and the same -/
def farD : D → D → Bool
  | .tup xs, .tup ys => farL xs ys
  | .ins _ fs, .ins _ gs => farF fs gs
  | d, e => decide (eqD d e = some false)
def farL : List D → List D → Bool
  | x :: xs, y :: ys => farD x y || farL xs ys
  | [], [] => false
  | _, _ => true
def farF : List (Str × D) → List (Str × D) → Bool
  | (_, x) :: xs, (_, y) :: ys => farD x y || farF xs ys
  | [], [] => false
  | _, _ => true
end
def eqL (f : D → D → Option Bool) (fin : Bool) : List D → List D → Option Bool
  | x :: xs, y :: ys => (f x y).bind fun t => if t = true then eqL f fin xs ys else some false
  | _, _ => some fin
open Classical in
noncomputable def eqX (tab : Str → Option Mf) (S : List MO) : Nat → D → D → Option Bool
  | 0, _, _ => none
  | n + 1, d, e => match d, e with
    | .tup xs, .tup ys => (eqL (eqX tab S n) (decide (xs.length = ys.length)) xs ys).bind fun t => if t = true ∨ farD (.tup xs) (.tup ys) = true then some t else none
    | .ins c fs, .ins c' gs => (tab c).bind fun mf => if c' = c then (match mf [.ins c fs, .ins c' gs] S with
      | .ok (.bl r) S' => if S' = S ∧ (r = true ∨ farD (.ins c fs) (.ins c' gs) = true) then some r else none
      | _ => none) else none
    | d, e => eqD d e
section
variable {X : Cx} {Z : Ent} {W : WX} {k : Nat} {pos : Pos} {a b : Expr} {ma mb : M D} {σ : L2.St} {st : Sta} {pins : List (Addr × Obj)}
mutual
theorem eqv_self : ∀ {d : PyData}, d.canLay0 = true → PyData.eqv d d = true
  | .none, _ => rfl
  | .bool b, _ => by simp [PyData.eqv]
  | .int i, _ => by simp [PyData.eqv]
  | .str x, _ => by simp [PyData.eqv]
  | .list xs, h => by rw [PyData.eqv]; exact eqv_selfs (xs := xs) (by simpa [PyData.canLay0] using h)
  | .tuple xs, h => by rw [PyData.eqv]; exact eqv_selfs (xs := xs) (by simpa [PyData.canLay0] using h)
  | .dict _, h => by simp [PyData.canLay0] at h
theorem eqv_selfs : ∀ {xs : List PyData}, PyData.canLayAll0 xs = true → PyData.eqvAll xs xs = true
  | [], _ => by simp [PyData.eqvAll]
  | x :: xs, h => by
    have h : x.canLay0 = true ∧ PyData.canLayAll0 xs = true := by simpa [PyData.canLayAll0] using h
    rw [PyData.eqvAll, eqv_self h.1, eqv_selfs h.2]
    rfl
end
theorem lst_not_tup {H : Hp} {s : Shared} {a : Addr} {xs ys : List V} (I : Inv X pins σ H s) (h : SqL X.K H a xs) (h' : SqT X.K H a ys) : False := by
  obtain ⟨its, r, p, _⟩ := I.list h
  obtain ⟨its', r', ⟨o', e', c', n', d'⟩, _⟩ := I.tuple h'
  obtain ⟨o, e, c, _⟩ := p.isList
  rw [e] at e'
  cases e'
  rw [c] at c'
  exact absurd c' (by simp)
mutual
theorem dp_one {H : Hp} {s : Shared} (I : Inv X pins σ H s) : ∀ {v : V} {p q : PyData}, Dp X.K H v p → Dp X.K H v q → p = q
  | _, _, _, .non, h => by cases h; rfl
  | _, _, _, .bl _, h => by cases h; rfl
  | _, _, _, .int _, h => by cases h; rfl
  | _, _, _, .str _, h => by cases h; rfl
  | _, _, _, .lst h t, g => by
    cases g with
    | lst h' t' =>
      have e := I.list_inj h h'
      subst e
      rw [dp_all I t t']
    | tup h' t' => exact (lst_not_tup I h h').elim
  | _, _, _, .tup h t, g => by
    cases g with
    | tup h' t' =>
      have e := I.tuple_inj h h'
      subst e
      rw [dp_all I t t']
    | lst h' t' => exact (lst_not_tup I h' h).elim
theorem dp_all {H : Hp} {s : Shared} (I : Inv X pins σ H s) : ∀ {v : List V} {p q : List PyData}, DpAll X.K H v p → DpAll X.K H v q → p = q
  | _, _, _, .nil, h => by cases h; rfl
  | _, _, _, .cons h t, g => by
    cases g with
    | cons h' t' => rw [dp_one I h h', dp_all I t t']
end
theorem eqD_same {H F : Hp} {A : Fps} {s : Shared} {x : V} {d e : D} (I : Inv X pins σ H s) (R : Rel X.K Z F H A σ st) (r1 : Rep X.K A F x d) (r2 : Rep X.K A F x e) : eqD d e ≠ some false := fun h => by
  obtain ⟨p, q, d1, d2, s1, _, ev⟩ := eqD_dp R r1 r2 h
  have := dp_one I d1 d2
  subst this
  rw [eqv_self (canLay_of_shaped s1)] at ev
  cases ev
theorem sqT_up {K : PySem.W.Frag} {F H : Hp} {a : Addr} {xs : List V} (le : ∀ a o, F a = some o → H a = some o) (h : SqT K F a xs) : SqT K H a xs := by
  rcases h with (h | ⟨o, h⟩) | h
  · exact .inl (.inl (le _ _ h))
  · exact .inl (.inr ⟨o, le _ _ h⟩)
  · exact .inr h
mutual
theorem far_no {H F : Hp} {A : Fps} {s : Shared} (I : Inv X pins σ H s) (R : Rel X.K Z F H A σ st) : ∀ {x : V} {d e : D}, Rep X.K A F x d → Rep X.K A F x e → farD d e ≠ true
  | _, _, _, .tup h t, r => fun f => by
    cases r with
    | tup h' t' =>
      have e := I.tuple_inj (sqT_up R.le h) (sqT_up R.le h')
      subst e
      exact far_nos I R t t' f
    | _ => exact eqD_same I R (.tup h t) (by first | exact .lst ‹_› ‹_› | exact .rls ‹_› ‹_› | exact .ins ‹_› ‹_› | exact .obj ‹_›) (of_decide_eq_true f)
  | _, _, _, .ins h t, r => fun f => by
    cases r with
    | ins h' t' =>
      rw [h] at h'
      injection Option.some.inj h' with _ _ e3
      subst e3
      exact far_nof I R t t' f
    | _ => exact eqD_same I R (.ins h t) (by first | exact .tup ‹_› ‹_› | exact .lst ‹_› ‹_› | exact .rls ‹_› ‹_› | exact .obj ‹_›) (of_decide_eq_true f)
  | _, _, _, .non, r => fun f => eqD_same I R .non r (of_decide_eq_true f)
  | _, _, _, .bl b, r => fun f => eqD_same I R (.bl b) r (of_decide_eq_true f)
  | _, _, _, .int b, r => fun f => eqD_same I R (.int b) r (of_decide_eq_true f)
  | _, _, _, .str b, r => fun f => eqD_same I R (.str b) r (of_decide_eq_true f)
  | _, _, _, .lst h t, r => fun f => eqD_same I R (.lst h t) r (of_decide_eq_true f)
  | _, _, _, .rls h t, r => fun f => eqD_same I R (.rls h t) r (of_decide_eq_true f)
  | _, _, _, .obj h, r => fun f => eqD_same I R (.obj h) r (of_decide_eq_true f)
theorem far_nos {H F : Hp} {A : Fps} {s : Shared} (I : Inv X pins σ H s) (R : Rel X.K Z F H A σ st) : ∀ {x : List V} {d e : List D}, Reps X.K A F x d → Reps X.K A F x e → farL d e ≠ true
  | _, _, _, .nil, r => fun f => by cases r; cases f
  | _, _, _, .cons h t, r => fun f => by
    cases r with
    | cons h' t' =>
      rcases Bool.or_eq_true_iff.mp f with f | f
      · exact far_no I R h h' f
      · exact far_nos I R t t' f
theorem far_nof {H F : Hp} {A : Fps} {s : Shared} (I : Inv X pins σ H s) (R : Rel X.K Z F H A σ st) : ∀ {x : List (Str × V)} {d e : List (Str × D)}, RepF X.K A F x d → RepF X.K A F x e → farF d e ≠ true
  | _, _, _, .nil, r => fun f => by cases r; cases f
  | _, _, _, .cons h t, r => fun f => by
    cases r with
    | cons h' t' =>
      rcases Bool.or_eq_true_iff.mp f with f | f
      · exact far_no I R h h' f
      · exact far_nof I R t t' f
end
def inN : Nat → Around → Around
  | 0, A => A
  | j + 1, A => (inN j A).in1
theorem inN_frames (A : Around) : ∀ j, (inN j A).frames = A.frames
  | 0 => rfl
  | j + 1 => inN_frames A j
theorem inN_guards (A : Around) : ∀ j, (inN j A).guards = A.guards
  | 0 => rfl
  | j + 1 => inN_guards A j
theorem inN_env {s : Shared} {H : Hp} {A : Around} (e : Env0 X.prog X.w X.K X.mg X.base A X.stack s H) : ∀ j, Env0 X.prog X.w X.K X.mg X.base (inN j A) X.stack s H
  | 0 => e
  | j + 1 => (inN_env e j).in1
theorem inN_out (A : Around) : ∀ j, (inN j A).in1 = inN j A.in1
  | 0 => rfl
  | j + 1 => by
    show (inN j A).in1.in1 = (inN j A.in1).in1
    rw [inN_out A j]
/-- what == of two values leaves -/
def EqE (X : Cx) (Z : Ent) (pins : List (Addr × Obj)) (σ : L2.St) (F : Hp) (A : Fps) (st : Sta) (b t : Bool) (s' : Shared) : Prop := t = b ∧ ∃ F' H' A', Inv X pins σ H' s' ∧ Rel X.K Z F' H' A' σ st ∧ Mono F A F' A'
theorem eq_held {M : Model} {A : Around} {s : Shared} {l b : Addr} {Q : Bool → Shared → Prop} {E : Value → Shared → Prop} (h1 : l = b → Q true s) (h2 : l ≠ b → wpAny M A (richCompare .Eq (.ref l) (.ref b)) (fun u s' => ∃ r, u = .bool r ∧ Q r s') E s) : wpAny M A (eqBool (.ref l) (.ref b)) Q E s := by
  unfold eqBool
  refine wpAny_holding ?_
  refine wpAny_ite_split (fun e => ?_) (fun e => ?_)
  · have e : Value.ref l = Value.ref b := eq_of_beq e
    injection e with e
    exact wpAny_bind (wpAny_rule (wpAny_pure (h1 e)))
  · have ne : l ≠ b := fun q => e (by rw [q]; exact beq_self_eq_true _)
    refine wpAny_bind (thn (h2 ne) fun u s' ⟨r, e, q⟩ => ?_)
    subst e
    exact wpAny_truthy_bool q
theorem tupQ_ok {A0 : Around} {Rr : Result → Shared → Prop} {f : D → D → Option Bool} {fin : Bool} {F0 : Hp} {B0 : Fps}
    (hf : ∀ {x y : V} {v u : Value} {d e : D} {t : Bool} {F H : Hp} {A : Fps} {s : Shared}, Inv X pins σ H s → Rel X.K Z F H A σ st → RelV x v → RelV y u → Rep X.K A F x d → Rep X.K A F y e → f d e = some t → wpAny (model X.prog X.w) A0.in1 (eqBool v u) (fun t' s' => EqE X Z pins σ F A st t t' s') (fun e s' => Rr (.error e) s') s) :
    ∀ (xs ys : List D) (vs us : List V) (ws zs : List Value) (r : Bool) (F H : Hp) (A : Fps) (s : Shared), Inv X pins σ H s → Rel X.K Z F H A σ st → Mono F0 B0 F A → Vals vs ws → Vals us zs → Reps X.K A F vs xs → Reps X.K A F us ys → eqL f fin xs ys = some r →
      (∀ F' H' A' s', Inv X pins σ H' s' → Rel X.K Z F' H' A' σ st → Mono F0 B0 F' A' → Rr (.ok (.ret (.bool r))) s') → TupQ X.prog X.w A0 Rr fin (ws.zip zs) s := by
  intro xs
  induction xs with
  | nil =>
    intro ys vs us ws zs r F H A s I R m v1 v2 r1 r2 e q
    cases r1
    cases v1
    cases (show some fin = some r from e)
    exact q F H A s I R m
  | cons x xs ih =>
    intro ys vs us ws zs r F H A s I R m v1 v2 r1 r2 e q
    cases ys with
    | nil =>
      cases r2
      cases v2
      cases (show some fin = some r from e)
      rw [List.zip_nil_right]
      exact q F H A s I R m
    | cons y ys =>
      cases r1 with
      | cons p1 t1 =>
        cases r2 with
        | cons p2 t2 =>
          cases v1 with
          | cons w1 l1 =>
            cases v2 with
            | cons w2 l2 =>
              obtain ⟨t, e1, e2⟩ := Option.bind_eq_some_iff.mp (show ((f x y).bind fun t => if t = true then eqL f fin xs ys else some false) = some r from e)
              refine thn (hf I R w1 w2 p1 p2 e1) fun t' s' ⟨et, F', H', A', I', R', m'⟩ => ?_
              subst et
              cases t' with
              | true =>
                rw [if_pos rfl] at e2 ⊢
                exact ih ys _ _ _ _ r F' H' A' s' I' R' (m.trans m') l1 l2 (t1.mono m') (t2.mono m') e2 q
              | false =>
                rw [if_neg Bool.false_ne_true] at e2 ⊢
                cases e2
                exact q F' H' A' s' I' R' (m.trans m')
theorem rich_tup {A0 : Around} {f : D → D → Option Bool} {a1 a2 : Addr} {vs us : List V} {xs ys : List D} {t : Bool} {F H : Hp} {A : Fps} {s : Shared} {E : Value → Shared → Prop} (hu : A0.units < cLine)
    (hf : ∀ {x y : V} {v u : Value} {d e : D} {t : Bool} {F H : Hp} {A : Fps} {s : Shared}, Inv X pins σ H s → Rel X.K Z F H A σ st → RelV x v → RelV y u → Rep X.K A F x d → Rep X.K A F y e → f d e = some t → wpAny (model X.prog X.w) A0.in1 (eqBool v u) (fun t' s' => EqE X Z pins σ F A st t t' s') (fun e s' => E e s') s)
    (I : Inv X pins σ H s) (R : Rel X.K Z F H A σ st) (q1 : SqT X.K F a1 vs) (t1 : Reps X.K A F vs xs) (q2 : SqT X.K F a2 us) (t2 : Reps X.K A F us ys) (h : eqL f (decide (xs.length = ys.length)) xs ys = some t) :
    wpAny (model X.prog X.w) A0 (richCompare .Eq (.ref a1) (.ref a2)) (fun u s' => ∃ r, u = .bool r ∧ EqE X Z pins σ F A st t r s') E s := by
  obtain ⟨its, v1, p1, _⟩ := I.tuple (sqT_up R.le q1)
  obtain ⟨jts, v2, p2, _⟩ := I.tuple (sqT_up R.le q2)
  obtain ⟨⟨cl1, dx1, da1, sl1⟩, o1, c1, n1, z1⟩ := p1
  obtain ⟨⟨cl2, dx2, da2, sl2⟩, o2, c2, n2, z2⟩ := p2
  simp only at c1 z1 c2 z2
  subst c1 z1 c2 z2
  have len : (its.toArray.size == jts.toArray.size) = decide (xs.length = ys.length) := by
    have l1 : its.length = xs.length := v1.length.symm.trans t1.length
    have l2 : jts.length = ys.length := v2.length.symm.trans t2.length
    simp only [List.size_toArray, l1, l2]
    by_cases e : xs.length = ys.length
    · simp [e]
    · simp [e]
  refine wpAny_richCompare_same_room (T := "tuple") (op := .Eq) ⟨_, o1, rfl⟩ ⟨_, o2, rfl⟩ PySem.F.slot_tuple_eq (call_meetsIn PySem.F.slot_tuple_eq ⟨_, o1, rfl⟩ PySem.F.entry_tuple_eq (PySem.F.args_tuple_eq_2 _ _) (tup_eqS a1 a2 its.toArray jts.toArray n1 n2 dx1 dx2 sl1 sl2) ⟨o1, o2, ?_⟩) hu
  rw [len]
  refine tupQ_ok (X := X) (Z := Z) (pins := pins) (σ := σ) (st := st) (A0 := A0) (Rr := wants (fun v s' => v ≠ .notImplemented ∧ ∃ r, v = .bool r ∧ EqE X Z pins σ F A st t r s') E) (f := f) (fin := decide (xs.length = ys.length)) (F0 := F) (B0 := A) hf xs ys vs us its jts t F H A s I R .refl v1 v2 t1 t2 h fun F' H' A' s' I' R' m' => ?_
  exact ⟨(fun q => nomatch q), t, rfl, rfl, F', H', A', I', R', m'⟩
open Classical in
set_option maxHeartbeats 1000000 in
theorem eqX_run {tab : Str → Option Mf} (ht : ∀ c mf, tab c = some mf → EqC X k c mf) (hg : X.A.guards = some []) : ∀ (n j : Nat), Room (k + n) (inN j X.A) →
    ∀ {x y : V} {v u : Value} {d e : D} {t : Bool} {F H : Hp} {A : Fps} {s : Shared} {E : Value → Shared → Prop}, Inv X pins σ H s → Rel X.K Z F H A σ st → RelV x v → RelV y u → Rep X.K A F x d → Rep X.K A F y e → eqX tab st.S n d e = some t →
      wpAny (model X.prog X.w) (inN j X.A) (eqBool v u) (fun t' s' => EqE X Z pins σ F A st t t' s') E s
  | 0, _, _, _, _, _, _, _, _, _, _, _, _, _, _, _, _, _, _, _, _, h => by cases h
  | n + 1, j, room, x, y, v, u, d, e, t, F, H, A, s, E, I, R, rx, ry, r1, r2, h => by
    have leaf : eqD d e = some t → wpAny (model X.prog X.w) (inN j X.A) (eqBool v u) (fun t' s' => EqE X Z pins σ F A st t t' s') E s := fun h => by
      obtain ⟨p, q, d1, d2, s1, s2, ev⟩ := eqD_dp R r1 r2 h
      obtain ⟨_, h1⟩ := Dp.reads I p x v d1 rx
      obtain ⟨_, h2⟩ := Dp.reads I q y u d2 ry
      refine eqAt_reads p q (inN j X.A) s v u _ _ h1 h2 (canLay_of_shaped s1) (canLay_of_shaped s2) (room_of_shaped s1 room.units) X.prog X.w E _ ?_
      exact ⟨ev, F, H, A, I, R, .refl⟩
    cases r1 with
    | @tup a1 vs xs q1 t1 =>
      cases r2 with
      | @tup a2 us ys q2 t2 =>
        obtain ⟨tt, e1, e2⟩ := Option.bind_eq_some_iff.mp (show ((eqL (eqX tab st.S n) (decide (xs.length = ys.length)) xs ys).bind fun t => if t = true ∨ farD (.tup xs) (.tup ys) = true then some t else none) = some t from h)
        by_cases hc : tt = true ∨ farD (.tup xs) (.tup ys) = true
        · rw [if_pos hc] at e2
          cases e2
          obtain rfl : v = Value.ref a1 := rx
          obtain rfl : u = Value.ref a2 := ry
          refine eq_held (fun same => ?_) fun _ => ?_
          · subst same
            rcases hc with rfl | hc
            · exact ⟨rfl, F, H, A, I, R, .refl⟩
            · exact (far_no I R (.tup q1 t1) (.tup q2 t2) hc).elim
          · have hroom : Room (k + n) (inN j X.A).in1 := Room.in1 room
            exact rich_tup (by have := room.units; omega) (fun I R rx ry r1 r2 h => eqX_run ht hg n (j + 1) hroom I R rx ry r1 r2 h) I R q1 t1 q2 t2 e1
        · rw [if_neg hc] at e2
          cases e2
      | _ => exact leaf h
    | @ins a1 dx1 c fs1 ds1 q1 t1 =>
      cases r2 with
      | @ins a2 dx2 c' fs2 ds2 q2 t2 =>
        obtain ⟨mf, et, h⟩ := Option.bind_eq_some_iff.mp (show ((tab c).bind fun mf => if c' = c then (match mf [.ins c ds1, .ins c' ds2] st.S with
            | .ok (.bl r) S' => if S' = st.S ∧ (r = true ∨ farD (.ins c ds1) (.ins c' ds2) = true) then some r else none
            | _ => none) else none) = some t from h)
        by_cases hc : c' = c
        · rw [if_pos hc] at h
          subst hc
          cases q : mf [.ins c' ds1, .ins c' ds2] st.S with
          | stk => rw [q] at h; cases h
          | err _ _ => rw [q] at h; cases h
          | ok res S' =>
            rw [q] at h
            cases res with
            | bl r =>
              have h : (if S' = st.S ∧ (r = true ∨ farD (.ins c' ds1) (.ins c' ds2) = true) then some r else none) = some t := h
              by_cases hd : S' = st.S ∧ (r = true ∨ farD (.ins c' ds1) (.ins c' ds2) = true)
              · rw [if_pos hd] at h
                obtain rfl := Option.some.inj h
                obtain ⟨hS, hd⟩ := hd
                subst hS
                obtain rfl : v = Value.ref a1 := rx
                obtain rfl : u = Value.ref a2 := ry
                refine eq_held (fun same => ?_) fun _ => ?_
                · subst same
                  rcases hd with rfl | hd
                  · exact ⟨rfl, F, H, A, I, R, .refl⟩
                  · exact (far_no I R (.ins q1 t1) (.ins q2 t2) hd).elim
                · obtain ⟨⟨f, fd, ps, jj, G, hj, hb, heq, hfn⟩, cl, hne, hob⟩ := ht c' mf et
                  have h1 := R.le _ _ q1
                  have h2 := R.le _ _ q2
                  have h0 : After X.K Z (fun _ _ _ _ => False) σ F A (callM mf [.ins c' ds1, .ins c' ds2] st) fun d st' F' H' A' => d = .bl r ∧ st' = st := by
                    unfold callM
                    rw [q]
                    exact fun F' H' A' R' m' => ⟨rfl, rfl⟩
                  have sp := spM_call (n := 2) R (Reps.cons (.ins q1 t1) (.cons (.ins q2 t2) .nil)) rfl h0
                  obtain ⟨mA1, ob1, _⟩ := ins_get I.hok h1
                  obtain ⟨od1, at1, _⟩ := ob1.look
                  obtain ⟨mA2, ob2, _⟩ := ins_get I.hok h2
                  obtain ⟨od2, at2, _⟩ := ob2.look
                  have hl : ([Value.ref a1, .ref a2] ++ ([] : List Value)).length = ps.length := (G.len _ _ _ _ sp)
                  have self : PySem.W.notFirst X.K (He.ga X.K c') (.ref (He.ga X.K c')) = true := by unfold PySem.W.notFirst; simp
                  refine eq_own (by have := room.units; omega) I.kIn at1 at2.type self heq hfn ?_
                  apply wpAny_call
                  refine codeAny_mono (G.run (inN j X.A) X.stack s H ⟨[.ref a1, .ref a2], []⟩ [.ref a1, .ref a2] [.ref a1, .ref a2] _ _ (room.mono (by omega)) ((inN_guards X.A j).trans hg) (inN_env I.env0 j) (hb s [.ref a1, .ref a2] I.kIn hl) (.cons rfl (.cons rfl .nil)) sp) fun rr s' post => ?_
                  match rr, post with
                  | .ok (.ret u), post =>
                    obtain ⟨v, H', I3, rv, d', st2, F', A', R', m', r', e', e2⟩ := I.after post
                    subst e'
                    subst e2
                    cases r'
                    obtain rfl : u = .bool r := rv
                    exact ⟨r, rfl, r, rfl, rfl, F', H', A', I3, R', m'⟩
                  | .ok .next, post => exact False.elim post
                  | .ok .brk, post => exact False.elim post
                  | .ok .cont, post => exact False.elim post
                  | .error er, post =>
                    obtain ⟨_, _, _, _, _, _, _, _, _, _, _, _, zz⟩ := post
                    exact zz.elim
              · rw [if_neg hd] at h
                cases h
            | _ => cases h
        · rw [if_neg hc] at h
          cases h
      | _ => exact leaf h
    | _ => exact leaf h
/-- x == y, tuples that may hold instances -/
noncomputable def eqU (tab : Str → Option Mf) (n : Nat) (x y : D) : M D := fun st => match x, y with
  | .tup xs, .tup ys => M.of ((eqL (eqX tab st.S n) (decide (xs.length = ys.length)) xs ys).map .bl) st
  | _, _ => .stk
theorem je_eqU {tab : Str → Option Mf} (n : Nat) (ht : ∀ c mf, tab c = some mf → EqC X k c mf) {k' : Nat} (jc : JC X k' W) (hk : k + n + 1 ≤ k') (ha : PE X a (tM X.K Z W ma)) (hb : PE X b (tM X.K Z W mb)) (hm : behindInMarks .Eq b = false := by rfl) :
    PE X (.Compare a [.Eq] [b] pos) (tM X.K Z W (ma >>= fun x => mb >>= fun y => eqU tab n x y)) := by
  refine ⟨fun pins s σ H Q I ⟨F, A, st, R, h⟩ => ?_⟩
  refine wpAny_Compare1 (binT ha hb I (two_ R h) fun v u s2 x y H2 I2 rx ry ⟨d, e, F2, A2, st2, R2, r1, r2, m, q⟩ => ?_) hm
  unfold eqU at q
  cases d with
  | tup xs =>
    cases e with
    | tup ys =>
      obtain ⟨res, e1, q⟩ := of_after q
      obtain ⟨t, e3, e4⟩ := Option.map_eq_some_iff.mp e1
      subst e4
      cases r1 with
      | @tup a1 vs _ q1 t1 =>
        cases r2 with
        | @tup a2 us _ q2 t2 =>
          obtain rfl : v = Value.ref a1 := rx
          obtain rfl : u = Value.ref a2 := ry
          show wpAny _ _ (richCompare .Eq _ _) _ _ _
          have room : Room (k + n + 1) X.A := jc.room.mono hk
          refine thn (rich_tup (A0 := X.A) (by have := room.units; omega) (fun I R rx ry r1 r2 h => eqX_run ht jc.g n 1 (Room.in1 room) I R rx ry r1 r2 h) I2 R2 q1 t1 q2 t2 e3) fun w s3 ⟨r, er, et, F', H', A', I', R', m'⟩ => ?_
          subst er
          subst et
          exact ⟨.bl r, H', I', rfl, q F' H' A' R' m' _ (.bl r)⟩
    | _ => exact q.elim
  | _ => exact q.elim
end
end J
end
section
namespace J
open PySem PySem.Spec PyProof.Rows L2
section
variable {X : Cx} {K : PySem.W.Frag} {Z : Ent} {W : WX} {F H : Hp} {A : Fps} {σ : L2.St} {st : Sta} {pos apos : Pos} {a b c e o : Expr} {es : List Expr} {ma mb mc mo : M D} {n k : Nat} {m : M (List D)} {E : Ends}
/-- a new list, an object of the store -/
def oNewM (m : M (List D)) : M D := m >>= fun l => fun st => .ok (.obj st.S.length) { st with S := st.S ++ [.lst l] }
theorem je_oNew (h : PE X e (tN X.K Z W m)) : PE X e (tM X.K Z W (oNewM m)) := by
  refine PE.wk h fun σ H Q ⟨F, A, st, R, q⟩ => ?_
  refine ⟨F, A, st, R, q.bind.imp fun l st1 F1 H1 A1 R1 m1 z p vs lo => ?_⟩
  have mono : Mono F1 A1 F1 (A1 ++ [[p]]) := ⟨fun _ _ h => h, fun j z h => by
    rw [List.getElem?_append_left (List.getElem?_eq_some_iff.mp h).1]
    exact h⟩
  obtain ⟨R2, m2⟩ := R1.addMO (fp := [p]) (mo := .lst l) (by simp) (fun a ha => by rw [List.mem_singleton.mp ha]; exact lo.nA) (fun a ha => by rw [List.mem_singleton.mp ha]; exact lo.nF) (fun a ha => by rw [List.mem_singleton.mp ha]; exact lo.nZ)
    (fun a ha i l hi => by rw [List.mem_singleton.mp ha]; exact lo.ap i l hi) ⟨p, vs, rfl, lo.at_, lo.rs.mono mono⟩
  exact z F1 H1 _ R2 m2 (.ref p) (.obj (r := []) (by rw [R1.w.len]; simp))
def objL (d : D) : M (List D) := fun st => match d with
  | .obj n => (match st.S[n]? with
    | some (.lst xs) => .ok xs st
    | _ => .stk)
  | _ => .stk
theorem obj_cases {d : D} : (∃ n xs, d = .obj n ∧ st.S[n]? = some (.lst xs) ∧ objL d st = .ok xs st) ∨ objL d st = .stk := by
  cases d with
  | obj n =>
    cases e : st.S[n]? with
    | none => exact .inr (by simp only [objL, e])
    | some mo =>
      cases mo with
      | lst xs => exact .inl ⟨n, xs, rfl, e, by simp only [objL, e]⟩
      | _ => exact .inr (by simp only [objL, e])
  | _ => exact .inr rfl
structure ObAt (K : PySem.W.Frag) (F H : Hp) (A : Fps) (st : Sta) (d : D) (v : V) (n : Nat) (q : Addr) (xs : List D) (vs : List V) : Prop where
  dd : d = .obj n
  vv : v = .ref q
  at_ : A[n]? = some [q]
  mo : st.S[n]? = some (.lst xs)
  hh : H q = some (.lst vs)
  rs : Reps K A F vs xs
theorem ob_at {d : D} {v : V} {xs : List D} (R : Rel K Z F H A σ st) (r : Rep K A F v d) (e : d = .obj n) (hS : st.S[n]? = some (.lst xs)) : ∃ q vs, ObAt K F H A st d v n q xs vs := by
  subst e
  cases r with
  | obj hA =>
    obtain ⟨q', vs, e1, h1, r1⟩ := R.w.ok n _ _ hS hA
    rw [e1] at hA
    injection e1 with e1 _
    subst e1
    exact ⟨_, vs, rfl, rfl, hA, hS, h1, r1⟩
theorem ob_bind {α : Type} {d : D} {v : V} {f : List D → M α} {C : α → Sta → Hp → Hp → Fps → Prop} (R : Rel K Z F H A σ st) (r : Rep K A F v d) (h : After K Z W σ F A ((objL d >>= f) st) C) : ∃ n q xs vs, ObAt K F H A st d v n q xs vs ∧ After K Z W σ F A (f xs st) C := by
  rcases obj_cases (st := st) (d := d) with ⟨n, xs, e, hS, e2⟩ | e
  · rw [bind_eq, e2] at h
    obtain ⟨q, vs, o⟩ := ob_at R r e hS
    exact ⟨n, q, xs, vs, o, h⟩
  · rw [bind_eq, e] at h
    exact h.elim
theorem ob_bindS {d : D} {v : V} {f : List D → M Fl} (R : Rel K Z F H A σ st) (r : Rep K A F v d) (h : AfterS K Z W E F A ((objL d >>= f) st)) : ∃ n q xs vs, ObAt K F H A st d v n q xs vs ∧ AfterS K Z W E F A (f xs st) := by
  rcases obj_cases (st := st) (d := d) with ⟨n, xs, e, hS, e2⟩ | e
  · rw [bind_eq, e2] at h
    obtain ⟨q, vs, o⟩ := ob_at R r e hS
    exact ⟨n, q, xs, vs, o, h⟩
  · rw [bind_eq, e] at h
    exact h.elim
def objPut (d : D) (f : List D → Option (List D)) : Tg := fun st => match d with
  | .obj n => (match st.S[n]? with
    | some (.lst xs) => (f xs).map fun l => { st with S := st.S.set n (.lst l) }
    | _ => none)
  | _ => none
theorem objPut_ok {d : D} {v : V} {f : List D → Option (List D)} {st' : Sta} (R : Rel K Z F H A σ st) (r : Rep K A F v d) (h : objPut d f st = some st') : ∃ n q xs vs l, ObAt K F H A st d v n q xs vs ∧ f xs = some l ∧ st' = { st with S := st.S.set n (.lst l) } := by
  cases d with
  | obj n =>
    cases e : st.S[n]? with
    | none => simp only [objPut, e] at h; cases h
    | some mo =>
      cases mo with
      | lst xs =>
        simp only [objPut, e] at h
        obtain ⟨l, e1, e2⟩ := Option.map_eq_some_iff.mp h
        obtain ⟨q, vs, o⟩ := ob_at R r rfl e
        exact ⟨n, q, xs, vs, l, o, e1, e2.symm⟩
      | _ => simp only [objPut, e] at h; cases h
  | _ => cases h
theorem Rel.writeO {q : Addr} {xs xs' : List D} {vs' : List V} (R : Rel K Z F H A σ st) (hA : A[n]? = some [q]) (hS : st.S[n]? = some (.lst xs)) (r : Reps K A F vs' xs') : Rel K Z F (upd H q (.lst vs')) A σ { st with S := st.S.set n (.lst xs') } :=
  R.setMO hA hS (fun a ha => upd_ne fun e => ha (by rw [e]; simp)) (fun a ha => by rw [List.mem_singleton.mp ha, upd_same]; simp) ⟨q, vs', rfl, upd_same, r⟩
/-- o.append(a) -/
def oAppS (mo ma : M D) : M Fl := mo >>= fun o => objL o >>= fun _ => ma >>= fun d => thenN (objPut o (appL d))
theorem js_oApp {ap : Pos} (ho : PE X o (tM X.K Z W mo)) (ha : PE X a (tM X.K Z W ma)) (hbase : attributeBase o "append" X.env (eval o X.env) = eval o X.env := by rfl)
    (hfew : ((backTo ap (starEach [a] X.env)).all (fun x => !x.1) && (backToKw ap (keywordEach [] X.env)).all (fun x => x.1.isSome)
      && decide (([a] : List Expr).length + ([] : List Keyword).length + (if ([] : List Keyword).isEmpty then 0 else 1) < 30)) = true := by rfl)
    (hline : (apos.endLine == ap.line) = true := by rfl) (hs : starEach [a] X.env = (false, eval a X.env) :: starEach [] X.env := by rfl) (hplain : (backTo ap (starEach [] X.env)).any (·.1) = false := by rfl)
    (hsw : swapsWith (.Call (.Attribute o "append" apos) [a] [] ap) none pos.line X.env = pure false := by rfl) :
    PS X (.Expr (.Call (.Attribute o "append" apos) [a] [] ap) pos) (tS X.K Z W (oAppS mo ma)) := by
  refine PS.wk (ps_expr (pe_bm F.plainAttrs_list F.slot_list_append F.type_list_append mt_append ho (pa_cons ha pa_nil hs) hbase hfew hline hs hplain) hsw) fun E σ H ⟨F, A, st, R, h⟩ => ?_
  refine ⟨F, A, st, R, h.bind.imp fun o st1 F1 H1 A1 R1 m1 z v r => ?_⟩
  obtain ⟨n, q, xs, vs, ob, z⟩ := ob_bindS R1 r z
  obtain rfl := ob.vv
  refine ⟨.inl ⟨rfl, vs, .inl (.inl ob.hh)⟩, F1, A1, st1, R1, z.bind.imp fun d st2 F2 H2 A2 R2 m2 z w rw => ?_⟩
  obtain ⟨st3, e3, z⟩ := thenN_S z
  obtain ⟨n2, q2, xs2, vs2, l, ob2, e4, rfl⟩ := objPut_ok R2 (r.mono m2) e3
  have e5 := ob2.vv
  injection e5 with e5
  subst e5
  unfold appL at e4
  by_cases hl : xs2.length < 1000000
  · rw [if_pos hl] at e4
    cases e4
    exact ⟨q, vs2, w, rfl, rfl, ob2.hh, by rw [ob2.rs.length, sizeLine_eq]; omega, z _ F2 _ A2 (R2.writeO ob2.at_ ob2.mo (ob2.rs.append (.cons rw .nil))) .refl⟩
  · rw [if_neg hl] at e4
    cases e4
/-- o.pop(a), a statement -/
def popL (k : D) (l : List D) : Option (List D) := match k with
  | .int j => if -(2 ^ 63) ≤ j ∧ j < 2 ^ 63 then (seqIndex? j l.length).bind fun n => if n < l.length then some (l.eraseIdx n) else none else none
  | _ => none
def oPopS (mo ma : M D) : M Fl := mo >>= fun o => objL o >>= fun _ => ma >>= fun k => thenN (objPut o (popL k))
theorem popL_some {k : D} {l l' : List D} (h : popL k l = some l') : ∃ j n, k = .int j ∧ -(2 ^ 63) ≤ j ∧ j < 2 ^ 63 ∧ seqIndex? j l.length = some n ∧ n < l.length ∧ l' = l.eraseIdx n := by
  cases k with
  | int j =>
    have h : (if -(2 ^ 63) ≤ j ∧ j < 2 ^ 63 then (seqIndex? j l.length).bind fun n => if n < l.length then some (l.eraseIdx n) else none else none) = some l' := h
    by_cases hj : -(2 ^ 63) ≤ j ∧ j < 2 ^ 63
    · rw [if_pos hj] at h
      obtain ⟨n, e, h⟩ := Option.bind_eq_some_iff.mp h
      obtain ⟨hn, h⟩ := if_some h
      exact ⟨j, n, rfl, hj.1, hj.2, e, hn, h.symm⟩
    · rw [if_neg hj] at h
      cases h
  | _ => cases h
theorem js_oPop {ap : Pos} (ho : PE X o (tM X.K Z W mo)) (ha : PE X a (tM X.K Z W ma)) (hbase : attributeBase o "pop" X.env (eval o X.env) = eval o X.env := by rfl)
    (hfew : ((backTo ap (starEach [a] X.env)).all (fun x => !x.1) && (backToKw ap (keywordEach [] X.env)).all (fun x => x.1.isSome)
      && decide (([a] : List Expr).length + ([] : List Keyword).length + (if ([] : List Keyword).isEmpty then 0 else 1) < 30)) = true := by rfl)
    (hline : (apos.endLine == ap.line) = true := by rfl) (hs : starEach [a] X.env = (false, eval a X.env) :: starEach [] X.env := by rfl) (hplain : (backTo ap (starEach [] X.env)).any (·.1) = false := by rfl)
    (hsw : swapsWith (.Call (.Attribute o "pop" apos) [a] [] ap) none pos.line X.env = pure false := by rfl) :
    PS X (.Expr (.Call (.Attribute o "pop" apos) [a] [] ap) pos) (tS X.K Z W (oPopS mo ma)) := by
  refine PS.wk (ps_expr (pe_bm F.plainAttrs_list F.slot_list_pop F.type_list_pop mt_popAt ho (pa_cons ha pa_nil hs) hbase hfew hline hs hplain) hsw) fun E σ H ⟨F, A, st, R, h⟩ => ?_
  refine ⟨F, A, st, R, h.bind.imp fun o st1 F1 H1 A1 R1 m1 z v r => ?_⟩
  obtain ⟨n, q, xs, vs, ob, z⟩ := ob_bindS R1 r z
  obtain rfl := ob.vv
  refine ⟨.inl ⟨rfl, vs, .inl (.inl ob.hh)⟩, F1, A1, st1, R1, z.bind.imp fun d st2 F2 H2 A2 R2 m2 z w rw => ?_⟩
  obtain ⟨st3, e3, z⟩ := thenN_S z
  obtain ⟨n2, q2, xs2, vs2, l, ob2, e4, rfl⟩ := objPut_ok R2 (r.mono m2) e3
  have e5 := ob2.vv
  injection e5 with e5
  subst e5
  obtain ⟨j, i, rfl, h1, h2, h3, h4, rfl⟩ := popL_some e4
  cases rw
  obtain ⟨y, ey⟩ : ∃ y, xs2[i]? = some y := ⟨_, List.getElem?_eq_getElem h4⟩
  obtain ⟨u, eu, _⟩ := ob2.rs.get ey
  exact ⟨q, vs2, j, i, u, rfl, rfl, ob2.hh, h1, h2, by rw [ob2.rs.length]; exact h3, eu, z _ F2 _ A2 (R2.writeO ob2.at_ ob2.mo (ob2.rs.erase i)) .refl⟩
/-- o.insert(a, b), a statement -/
def insL (k d : D) (l : List D) : Option (List D) := match k with
  | .int j => if 0 ≤ j ∧ j < 2 ^ 63 ∧ l.length < 1000000 then some (l.take j.toNat ++ [d] ++ l.drop j.toNat) else none
  | _ => none
theorem insL_some {k d : D} {l l' : List D} (h : insL k d l = some l') : ∃ j, k = .int j ∧ 0 ≤ j ∧ j < 2 ^ 63 ∧ l.length < 1000000 ∧ l' = l.take j.toNat ++ [d] ++ l.drop j.toNat := by
  cases k with
  | int j =>
    obtain ⟨⟨h1, h2, h3⟩, h⟩ := if_some (show (if 0 ≤ j ∧ j < 2 ^ 63 ∧ l.length < 1000000 then some (l.take j.toNat ++ [d] ++ l.drop j.toNat) else none) = some l' from h)
    exact ⟨j, rfl, h1, h2, h3, h.symm⟩
  | _ => cases h
def oInsS (mo ma mb : M D) : M Fl := mo >>= fun o => objL o >>= fun _ => ma >>= fun k => mb >>= fun d => thenN (objPut o (insL k d))
theorem js_oIns {ap : Pos} (ho : PE X o (tM X.K Z W mo)) (ha : PE X a (tM X.K Z W ma)) (hb : PE X b (tM X.K Z W mb)) (hbase : attributeBase o "insert" X.env (eval o X.env) = eval o X.env := by rfl)
    (hfew : ((backTo ap (starEach [a, b] X.env)).all (fun x => !x.1) && (backToKw ap (keywordEach [] X.env)).all (fun x => x.1.isSome)
      && decide (([a, b] : List Expr).length + ([] : List Keyword).length + (if ([] : List Keyword).isEmpty then 0 else 1) < 30)) = true := by rfl)
    (hline : (apos.endLine == ap.line) = true := by rfl) (hs : starEach [a, b] X.env = (false, eval a X.env) :: starEach [b] X.env := by rfl) (hs2 : starEach [b] X.env = (false, eval b X.env) :: starEach [] X.env := by rfl) (hplain : (backTo ap (starEach [b] X.env)).any (·.1) = false := by rfl)
    (hsw : swapsWith (.Call (.Attribute o "insert" apos) [a, b] [] ap) none pos.line X.env = pure false := by rfl) :
    PS X (.Expr (.Call (.Attribute o "insert" apos) [a, b] [] ap) pos) (tS X.K Z W (oInsS mo ma mb)) := by
  refine PS.wk (ps_expr (pe_bm F.plainAttrs_list F.slot_list_insert F.type_list_insert mt_insert ho (pa_cons ha (pa_cons hb pa_nil hs2) hs) hbase hfew hline hs hplain) hsw) fun E σ H ⟨F, A, st, R, h⟩ => ?_
  refine ⟨F, A, st, R, h.bind.imp fun o st1 F1 H1 A1 R1 m1 z v r => ?_⟩
  obtain ⟨n, q, xs, vs, ob, z⟩ := ob_bindS R1 r z
  obtain rfl := ob.vv
  refine ⟨.inl ⟨rfl, vs, .inl (.inl ob.hh)⟩, F1, A1, st1, R1, z.bind.imp fun d st2 F2 H2 A2 R2 m2 z w rw => ?_⟩
  refine ⟨F2, A2, st2, R2, z.bind.imp fun d3 st3 F3 H3 A3 R3 m3 z w3 rw3 => ?_⟩
  obtain ⟨st4, e3, z⟩ := thenN_S z
  obtain ⟨n2, q2, xs2, vs2, l, ob2, e4, rfl⟩ := objPut_ok R3 (r.mono (m2.trans m3)) e3
  have e5 := ob2.vv
  injection e5 with e5
  subst e5
  obtain ⟨j, rfl, h1, h2, h3, rfl⟩ := insL_some e4
  cases rw
  exact ⟨q, vs2, j, w3, rfl, rfl, ob2.hh, by rw [ob2.rs.length, sizeLine_eq]; omega, h1, h2, z _ F3 _ A3 (R3.writeO ob2.at_ ob2.mo (((ob2.rs.take _).append (.cons rw3 .nil)).append (ob2.rs.drop _))) .refl⟩
/-- o[b] = a -/
def oSetS (ma mo mb : M D) : M Fl := ma >>= fun d => mo >>= fun o => objL o >>= fun _ => mb >>= fun k => thenN (objPut o (setL d k))
theorem js_oSet {pt : Pos} (ha : PE X a (tM X.K Z W ma)) (ho : PE X o (tM X.K Z W mo)) (hb : PE X b (tM X.K Z W mb))
    (hs : swapsWithSole [.Subscript o b pt] a pos.line X.env = pure false := by rfl) (hw : swappedStores [.Subscript o b pt] a X.env = pure none := by rfl)
    (h1 : (assignEach [.Subscript o b pt] X.env).map (·.2) = [assign (.Subscript o b pt) X.env] := by rfl)
    (hg : ∀ v, assign (.Subscript o b pt) X.env v = (do
      let ov ← holding [v] (eval o X.env)
      let iv ← holding [v, ov] (eval b X.env)
      standAt pt
      holding [v, ov, iv] (setItem ov iv v)
      release [v, ov, iv] []) := by intro _; rfl) :
    PS X (.Assign [.Subscript o b pt] a pos) (tS X.K Z W (oSetS ma mo mb)) := by
  refine PS.wk (ps_asg ha (pg_sub ho hb set_list hg) hs hw h1) fun E σ H ⟨F, A, st, R, h⟩ => ?_
  obtain ⟨F', A', st', R', z⟩ := one_S R h
  refine ⟨F', A', st', R', z.imp fun d st1 F1 H1 A1 R1 m1 z v r => ?_⟩
  obtain ⟨d', F2, A2, st2, R2, m2, r2, z⟩ := z v r
  refine ⟨F2, A2, st2, R2, z.bind.imp fun o st3 F3 H3 A3 R3 m3 z ov ro => ?_⟩
  obtain ⟨n, q, xs, vs, ob, z⟩ := ob_bindS R3 ro z
  obtain rfl := ob.vv
  refine ⟨F3, A3, st3, R3, z.bind.imp fun k st4 F4 H4 A4 R4 m4 z iv ri => ?_⟩
  obtain ⟨st5, e3, z⟩ := thenN_S z
  obtain ⟨n2, q2, xs2, vs2, l, ob2, e4, rfl⟩ := objPut_ok R4 (ro.mono m4) e3
  have e5 := ob2.vv
  injection e5 with e5
  subst e5
  cases k with
  | int j =>
    cases ri
    obtain ⟨k2, e7, e8⟩ := Option.map_eq_some_iff.mp (show (ixN xs2.length j).map _ = some l from e4)
    subst e8
    exact ⟨q, vs2, j, k2, rfl, rfl, ob2.hh, by rw [ob2.rs.length]; exact e7, z _ F4 _ A4 (R4.writeO ob2.at_ ob2.mo (ob2.rs.set (r2.mono (m3.trans m4)) k2)) .refl⟩
  | _ => cases e4
/-- len(o) -/
def oLenM (mo : M D) : M D := mo >>= fun o => objL o >>= fun xs => pure (.int xs.length)
theorem je_oLen {p : Pos} (hg : Gl X "len") (hm : X.mg "len" = none) (hv0 : bootBuiltins "len" = some (.builtin "len")) (ho : PE X o (tM X.K Z W mo)) (he : starEach [o] X.env = (false, eval o X.env) :: starEach [] X.env := by rfl) :
    PE X (.Call (.Name "len" p) [o] [] pos) (tM X.K Z W (oLenM mo)) := by
  refine PE.wk (pe_callB call_len hg hm hv0 (pa_cons ho pa_nil he) (by decide) (by decide) he) fun σ H Q ⟨F, A, st, R, h⟩ => ?_
  refine ⟨F, A, st, R, h.bind.imp fun o st1 F1 H1 A1 R1 m1 z v r => ?_⟩
  obtain ⟨n, q, xs, vs, ob, z⟩ := ob_bind R1 r z
  obtain rfl := ob.vv
  exact ⟨_, xs.length, rfl, .inl ⟨_, .inl (.inl ob.hh), ob.rs.length.symm⟩, z F1 H1 A1 R1 .refl _ (.int _)⟩
end
mutual
def D.thaw1 (n : Nat) (l : List D) : D → D
  | .tup xs => .tup (D.thaws n l xs)
  | .lst xs => .lst (D.thaws n l xs)
  | .rls xs => .rls (D.thaws n l xs)
  | .ins c fs => .ins c (D.thawf n l fs)
  | .exc c fs => .exc c fs
  | .obj i => if i = n then .lst l else .obj i
  | .non => .non
  | .bl b => .bl b
  | .int i => .int i
  | .str x => .str x
def D.thaws (n : Nat) (l : List D) : List D → List D
  | [] => []
  | x :: xs => D.thaw1 n l x :: D.thaws n l xs
def D.thawf (n : Nat) (l : List D) : List (Str × D) → List (Str × D)
  | [] => []
  | (f, x) :: xs => (f, D.thaw1 n l x) :: D.thawf n l xs
end
def MO.bd (n : Nat) : MO → Bool
  | .deck _ _ _ => true
  | .ins _ fs => D.bdf n fs
  | .lst xs => D.bds n xs
  | .gone => true
section
variable {K : PySem.W.Frag} {F F' H H' : Hp} {A A' : Fps} {S : List MO}
mutual
theorem D.bd_mono {n m : Nat} (h : n ≤ m) : ∀ {d : D}, d.bd n = true → d.bd m = true
  | .tup xs, e => by simp only [D.bd] at e ⊢; exact D.bds_mono h e
  | .lst xs, e => by simp only [D.bd] at e ⊢; exact D.bds_mono h e
  | .rls xs, e => by simp only [D.bd] at e ⊢; exact D.bds_mono h e
  | .ins c fs, e => by simp only [D.bd] at e ⊢; exact D.bdf_mono h e
  | .exc c fs, e => by simp only [D.bd] at e ⊢; exact D.bdf_mono h e
  | .obj i, e => by simp only [D.bd, decide_eq_true_eq] at e ⊢; omega
  | .non, e => by simp only [D.bd]
  | .bl b, e => by simp only [D.bd]
  | .int i, e => by simp only [D.bd]
  | .str x, e => by simp only [D.bd]
theorem D.bds_mono {n m : Nat} (h : n ≤ m) : ∀ {d : List D}, D.bds n d = true → D.bds m d = true
  | [], e => by simp only [D.bds]
  | x :: xs, e => by
    simp only [D.bds, Bool.and_eq_true] at e ⊢
    exact ⟨D.bd_mono h e.1, D.bds_mono h e.2⟩
theorem D.bdf_mono {n m : Nat} (h : n ≤ m) : ∀ {d : List (Str × D)}, D.bdf n d = true → D.bdf m d = true
  | [], e => by simp only [D.bdf]
  | (_, x) :: xs, e => by
    simp only [D.bdf, Bool.and_eq_true] at e ⊢
    exact ⟨D.bd_mono h e.1, D.bdf_mono h e.2⟩
end
section
variable {n : Nat} {l : List D} {a : Addr} {vs : List V} (hf : ∀ b o, F b = some o → F' b = some o) (hA : ∀ (i : Nat) z, i ≠ n → A[i]? = some z → A'[i]? = some z) (hn : A[n]? = some [a]) (ha : F' a = some (.lst vs)) (hr : Reps K A' F' vs l)
include hf hA hn ha hr
mutual
theorem Rep.thaw : ∀ {v : V} {d : D}, Rep K A F v d → Rep K A' F' v (d.thaw1 n l)
  | _, _, .non => by simp only [D.thaw1]; exact .non
  | _, _, .bl b => by simp only [D.thaw1]; exact .bl b
  | _, _, .int i => by simp only [D.thaw1]; exact .int i
  | _, _, .str h => by simp only [D.thaw1]; exact .str h
  | _, _, .tup h r => by
    simp only [D.thaw1]
    exact .tup (Mono.sqT (A := A) (A' := A) ⟨hf, fun _ _ z => z⟩ h) (Reps.thaw r)
  | _, _, .lst h r => by
    simp only [D.thaw1]
    exact .lst (hf _ _ h) (Reps.thaw r)
  | _, _, .rls h r => by
    simp only [D.thaw1]
    exact .rls (Mono.sqL (A := A) (A' := A) ⟨hf, fun _ _ z => z⟩ h) (Reps.thaw r)
  | _, _, .ins h r => by
    simp only [D.thaw1]
    exact .ins (hf _ _ h) (RepF.thaw r)
  | _, _, .obj (n := i) h => by
    simp only [D.thaw1]
    by_cases e : i = n
    · subst e
      rw [if_pos rfl]
      rw [hn] at h
      injection h with h
      injection h with h _
      subst h
      exact .lst ha hr
    · rw [if_neg e]
      exact .obj (hA _ _ e h)
theorem Reps.thaw : ∀ {v : List V} {d : List D}, Reps K A F v d → Reps K A' F' v (D.thaws n l d)
  | _, _, .nil => by simp only [D.thaws]; exact .nil
  | _, _, .cons h r => by
    simp only [D.thaws]
    exact .cons (Rep.thaw h) (Reps.thaw r)
theorem RepF.thaw : ∀ {v : List (Str × V)} {d : List (Str × D)}, RepF K A F v d → RepF K A' F' v (D.thawf n l d)
  | _, _, .nil => by simp only [D.thawf]; exact .nil
  | _, _, .cons h r => by
    simp only [D.thawf]
    exact .cons (Rep.thaw h) (RepF.thaw r)
end
end
/-- the last object of the store, a list, is frozen and leaves it -/
theorem Wd.melt1 {fp : List Addr} {l : List D} (w : Wd K F H (A ++ [fp]) (S ++ [.lst l])) (bd : D.bds A.length l = true) (bS : ∀ m ∈ S, m.bd A.length = true) :
    ∃ a vs, fp = [a] ∧ Wd K (upd F a (.lst vs)) H A S ∧ (∀ b o, F b = some o → upd F a (.lst vs) b = some o) ∧ (∀ b o, upd F a (.lst vs) b = some o → F b = some o ∨ b = a) ∧ ∀ v d, Rep K (A ++ [fp]) F v d → Rep K A (upd F a (.lst vs)) v (d.thaw1 A.length l) := by
  have len : S.length = A.length := by
    have := w.len
    simp only [List.length_append, List.length_singleton] at this
    omega
  have hn : (A ++ [fp])[A.length]? = some fp := by simp
  have hs : (S ++ [MO.lst l])[A.length]? = some (.lst l) := by rw [← len]; simp
  obtain ⟨a, vs, e, h1, r1⟩ := w.ok A.length _ _ hs hn
  subst e
  have nF : F a = none := w.nF a (by simp)
  have hf : ∀ b o, F b = some o → upd F a (.lst vs) b = some o := (Mono.freeze (A := A) nF).f
  have cutA : ∀ (i : Nat) z, i < A.length → (A ++ [[a]])[i]? = some z → A[i]? = some z := fun i z hi h => by
    rw [List.getElem?_append_left hi] at h
    exact h
  have cutN : ∀ (i : Nat) z, i ≠ A.length → (A ++ [[a]])[i]? = some z → A[i]? = some z := fun i z hi h => by
    have : i < (A ++ [[a]]).length := (List.getElem?_eq_some_iff.mp h).1
    simp at this
    exact cutA i z (by omega) h
  have nd := w.nd
  have fl : (A ++ [[a]]).flatten = A.flatten ++ [a] := by simp
  rw [fl, List.nodup_append] at nd
  have nA : a ∉ A.flatten := fun q => nd.2.2 a q a (by simp) rfl
  refine ⟨a, vs, rfl, ⟨fun q u h => ?_, len, fun i m fp g1 g2 => ?_, nd.1, fun q hq => ?_⟩, hf, fun b o h => ?_, fun v d r => r.thaw hf cutN hn upd_same (r1.cut hf cutA bd)⟩
  · by_cases z : q = a
    · subst z
      rw [upd_same] at h
      rw [h1]; exact h
    · rw [upd_ne z] at h
      exact w.le q u h
  · have hlt : i < A.length := (List.getElem?_eq_some_iff.mp g2).1
    have o2 := w.ok i m fp (by rw [List.getElem?_append_left (by rw [len]; exact hlt)]; exact g1) (by rw [List.getElem?_append_left hlt]; exact g2)
    have hb := bS m (List.mem_of_getElem? g1)
    cases m with
    | deck cells all t => exact o2
    | gone => exact o2
    | ins c2 fs2 =>
      obtain ⟨a2, dx2, vs2, e2, q2, s2⟩ := o2
      exact ⟨a2, dx2, vs2, e2, q2, s2.cut hf cutA hb⟩
    | lst xs =>
      obtain ⟨a2, vs2, e2, q2, s2⟩ := o2
      exact ⟨a2, vs2, e2, q2, s2.cut hf cutA hb⟩
  · rw [upd_ne fun z => nA (by rw [z] at hq; exact hq)]
    exact w.nF q (by rw [fl]; simp [hq])
  · by_cases z : b = a
    · exact .inr z
    · rw [upd_ne z] at h
      exact .inl h
end
/-- what the objects behind the first n hold, if all are lists -/
def meltOk : Nat → List MO → Option (List (List D))
  | _, [] => some []
  | n, .lst xs :: r => if D.bds n xs = true then (meltOk (n + 1) r).map (xs :: ·) else none
  | _, _ :: _ => none
def meltD : Nat → List (List D) → D → D
  | _, [], d => d
  | n, xs :: r, d => D.thaw1 n xs (meltD (n + 1) r d)
section
variable {K : PySem.W.Frag} {F H : Hp} {A : Fps} {S ex : List MO} {xss : List (List D)}
theorem MO.bd_mono {n k : Nat} (h : n ≤ k) {m : MO} (e : m.bd n = true) : m.bd k = true := by
  cases m with
  | deck _ _ _ => rfl
  | gone => rfl
  | ins c fs => exact D.bdf_mono h e
  | lst xs => exact D.bds_mono h e
theorem Wd.melt : ∀ (ex : List MO) (xss : List (List D)) (S : List MO) (A0 A1 : Fps) (F : Hp), S.length = A0.length → Wd K F H (A0 ++ A1) (S ++ ex) → meltOk A0.length ex = some xss → (∀ m ∈ S, m.bd A0.length = true) →
    ∃ F2, Wd K F2 H A0 S ∧ (∀ b o, F b = some o → F2 b = some o) ∧ (∀ b o, F2 b = some o → F b = some o ∨ b ∈ A1.flatten) ∧ ∀ v d, Rep K (A0 ++ A1) F v d → Rep K A0 F2 v (meltD A0.length xss d)
  | [], xss, S, A0, A1, F, hl, w, hm, bS => by
    cases hm
    have : A1 = [] := by
      have := w.len
      simp at this
      cases A1 with
      | nil => rfl
      | cons _ _ => simp at this; omega
    subst this
    rw [List.append_nil, List.append_nil] at w
    exact ⟨F, w, fun _ _ h => h, fun _ _ h => .inl h, fun v d r => by rw [List.append_nil] at r; exact r⟩
  | mo :: ex, xss, S, A0, A1, F, hl, w, hm, bS => by
    cases mo with
    | lst xs =>
      have hm : (if D.bds A0.length xs = true then (meltOk (A0.length + 1) ex).map (xs :: ·) else none) = some xss := hm
      by_cases hb : D.bds A0.length xs = true
      · rw [if_pos hb] at hm
        obtain ⟨yss, e1, rfl⟩ := Option.map_eq_some_iff.mp hm
        cases A1 with
        | nil =>
          have := w.len
          simp at this
          omega
        | cons fp A1 =>
          have e2 : S ++ MO.lst xs :: ex = (S ++ [.lst xs]) ++ ex := by simp
          have e3 : A0 ++ fp :: A1 = (A0 ++ [fp]) ++ A1 := by simp
          rw [e2, e3] at w
          obtain ⟨F1, w1, f1, g1, r1⟩ := Wd.melt ex yss (S ++ [.lst xs]) (A0 ++ [fp]) A1 F (by simp [hl]) w (by simpa using e1) (fun m hm => by
            rcases List.mem_append.mp hm with hm | hm
            · exact MO.bd_mono (by simp) (bS m hm)
            · rw [List.mem_singleton.mp hm]
              exact D.bds_mono (by simp) hb)
          obtain ⟨a, vs, rfl, w2, f2, g2, r2⟩ := w1.melt1 hb bS
          refine ⟨_, w2, fun b o h => f2 b o (f1 b o h), fun b o h => ?_, fun v d r => ?_⟩
          · rcases g2 b o h with h | h
            · rcases g1 b o h with h | h
              · exact .inl h
              · exact .inr (by simp at h ⊢; exact .inr h)
            · exact .inr (by simp [h])
          · have := r2 v _ (r1 v d (by rw [← e3]; exact r))
            simpa [meltD] using this
      · rw [if_neg hb] at hm
        cases hm
    | _ => cases hm
end
/-- a def at whose end the lists of the store that it made are melted -/
def runT (n : Nat) (m : M Fl) : Mf := fun ds S => match runB n m ds S with
  | .ok d S' => if S.length ≤ S'.length ∧ ((S'.take S.length).all fun m => m.bd S.length) = true then (match meltOk S.length (S'.drop S.length) with
      | some xss => .ok (meltD S.length xss d) (S'.take S.length)
      | none => .stk) else .stk
  | _ => .stk
theorem spM_melt {K : PySem.W.Frag} {k n : Nat} {m : M Fl} : ∀ vs H Q E, spM K k (runT n m) vs H Q E → spM K k (runB n m) vs H Q E := fun vs H Q E ⟨hl, F, A, S, ds, w0, r, post⟩ => by
  refine ⟨hl, F, A, S, ds, w0, r, ?_⟩
  unfold runT at post
  cases q : runB n m ds S with
  | stk => rw [q] at post; exact post
  | err x S' => rw [q] at post; exact post.elim
  | ok d S' =>
    rw [q] at post
    intro v F' H' A' w x rv
    by_cases hc : S.length ≤ S'.length ∧ ((S'.take S.length).all fun m => m.bd S.length) = true
    · simp only [if_pos hc] at post
      cases em : meltOk S.length (S'.drop S.length) with
      | none => simp only [em] at post
      | some xss =>
        simp only [em] at post
        -- the objects that were there stay the first ones
        have hAl : A.length ≤ A'.length := by
          have := w.len
          rw [← w0.len, ← this]
          exact hc.1
        have eA : A = A'.take A.length := by
          apply List.ext_getElem?
          intro i
          by_cases hi : i < A.length
          · rw [List.getElem?_take_of_lt hi]
            have := x.mono.a i _ (List.getElem?_eq_getElem hi)
            rw [this, List.getElem?_eq_getElem hi]
          · rw [List.getElem?_eq_none (by omega), List.getElem?_eq_none (by simp; omega)]
        have e1 : A' = A ++ A'.drop A.length := by
          conv => lhs; rw [← List.take_append_drop A.length A']
          rw [← eA]
        have e2 : S' = S'.take S.length ++ S'.drop S.length := (List.take_append_drop _ _).symm
        have lenS : (S'.take S.length).length = A.length := by rw [List.length_take, ← w0.len]; omega
        have w' : Wd K F' H' (A ++ A'.drop A.length) (S'.take S.length ++ S'.drop S.length) := by rw [← e1, ← e2]; exact w
        obtain ⟨F2, w2, f2, g2, r2⟩ := Wd.melt (S'.drop S.length) xss (S'.take S.length) A (A'.drop A.length) F' lenS w' (by rw [← w0.len]; exact em) (fun m hm => by rw [← w0.len]; exact List.all_eq_true.mp hc.2 m hm)
        rw [← w0.len] at r2
        refine post v F2 H' A w2 ⟨⟨fun a o h => f2 a o (x.mono.f a o h), fun _ _ h => h⟩, fun a o h => ?_, fun _ h => .inl h, x.kp, x.th⟩ (r2 v d (by rw [w0.len, ← e1]; exact rv))
        rcases g2 a o h with h | h
        · exact x.nw a o h
        · have inA : a ∈ A'.flatten := by
            rw [e1, List.flatten_append]
            exact List.mem_append_right _ h
          rcases x.nA a inA with z | z
          · -- it would stand twice
            have nd := w.nd
            rw [e1, List.flatten_append, List.nodup_append] at nd
            exact absurd rfl (nd.2.2 a z a h)
          · exact .inr z
    · simp only [if_neg hc] at post
end J
end
section
namespace J
open PySem PySem.Spec PyProof.Rows L2
/-- an edition, filled up to three -/
def pd (d : Nat) (ns : List Int) : List Int := ns.map (fun x => x + 1) ++ List.replicate (d - ns.length) 0
def ck (d : Nat) (ns : List Int) : Int := TS.code 11 (pd d ns)
def EdB (ns : List Int) : Prop := 1 ≤ ns.length ∧ ns.length ≤ 3 ∧ TS.Bd 10 ns
instance (ns : List Int) : Decidable (EdB ns) := by unfold EdB TS.Bd; infer_instance
theorem pd_nil {d : Nat} : pd (d + 1) [] = 0 :: pd d [] := by simp [pd, List.replicate_succ]
theorem pd_cons {d : Nat} {x : Int} {r : List Int} : pd (d + 1) (x :: r) = (x + 1) :: pd d r := by simp [pd]
theorem pd_len {d : Nat} {ns : List Int} (h : ns.length ≤ d) : (pd d ns).length = d := by simp [pd]; omega
theorem pd_bd {d : Nat} {ns : List Int} (h : TS.Bd 10 ns) : TS.Bd 11 (pd d ns) := fun m hm => by
  rcases List.mem_append.mp hm with hm | hm
  · obtain ⟨x, hx, rfl⟩ := List.mem_map.mp hm
    have := h x hx
    omega
  · rw [List.eq_of_mem_replicate hm]
    omega
theorem ck_inj : ∀ {d : Nat} {ns ms : List Int}, ns.length ≤ d → ms.length ≤ d → TS.Bd 10 ns → TS.Bd 10 ms → ck d ns = ck d ms → ns = ms
  | 0, [], [], _, _, _, _, _ => rfl
  | 0, _ :: _, _, h, _, _, _, _ => absurd h (by simp)
  | 0, _, _ :: _, _, h, _, _, _ => absurd h (by simp)
  | d + 1, [], [], _, _, _, _, _ => rfl
  | d + 1, x :: r, [], h1, h2, b1, b2, e => by
    have l1 : (pd d r).length = d := pd_len (by simpa using h1)
    have l2 : (pd d []).length = d := pd_len (by simp)
    have := TS.code_lt (B := 11) (d := 0) (e := x + 1) (l2.trans l1.symm) (pd_bd b2) (pd_bd b1.tail) (by have := b1.head; omega)
    unfold ck at e
    rw [pd_cons, pd_nil] at e
    omega
  | d + 1, [], x :: r, h1, h2, b1, b2, e => by
    have l1 : (pd d r).length = d := pd_len (by simpa using h2)
    have l2 : (pd d []).length = d := pd_len (by simp)
    have := TS.code_lt (B := 11) (d := 0) (e := x + 1) (l2.trans l1.symm) (pd_bd b1) (pd_bd b2.tail) (by have := b2.head; omega)
    unfold ck at e
    rw [pd_cons, pd_nil] at e
    omega
  | d + 1, x :: r, y :: q, h1, h2, b1, b2, e => by
    have l1 : (pd d r).length = d := pd_len (by simpa using h1)
    have l2 : (pd d q).length = d := pd_len (by simpa using h2)
    unfold ck at e
    rw [pd_cons, pd_cons] at e
    rcases Int.lt_trichotomy x y with h | h | h
    · have := TS.code_lt (B := 11) (d := x + 1) (e := y + 1) (l1.trans l2.symm) (pd_bd b1.tail) (pd_bd b2.tail) (by omega)
      omega
    · subst h
      have e2 : TS.code 11 (pd d r) = TS.code 11 (pd d q) := by
        have c1 := TS.code_same (B := 11) (d := x + 1) (l1.trans l2.symm)
        have c2 := TS.code_same (B := 11) (d := x + 1) (l2.trans l1.symm)
        have n1 : ¬ TS.code 11 (pd d r) < TS.code 11 (pd d q) := fun z => by have := c1.mpr z; omega
        have n2 : ¬ TS.code 11 (pd d q) < TS.code 11 (pd d r) := fun z => by have := c2.mpr z; omega
        omega
      rw [ck_inj (d := d) (by simpa using h1) (by simpa using h2) b1.tail b2.tail e2]
    · have := TS.code_lt (B := 11) (d := y + 1) (e := x + 1) (l2.trans l1.symm) (pd_bd b2.tail) (pd_bd b1.tail) (by omega)
      omega
section
variable {prog : Program} {w : World} {A : Around} {E : Value → Shared → Prop} {s : Shared}
theorem lex_any {b fin : Bool} {Q : Bool → Shared → Prop} : ∀ (d : Nat) {us ws : List Value} {ns ms : List Int} (i : Nat), IntsAre us ns → IntsAre ws ms → ns.length ≤ d → ms.length ≤ d → TS.Bd 10 ns → TS.Bd 10 ms → fin = decide (ns.length < ms.length) → Q (decide (ck d ns < ck d ms)) s →
    PySem.W.KatLex prog w A b fin Q (us.zip ws) i s
  | 0, _, _, _, _, i, .nil, .nil, _, _, _, _, hf, q => PySem.W.kat_nil (by rw [hf]; simpa [ck] using q)
  | 0, _, _, _, _, i, .cons _ _ _, _, h, _, _, _, _, _ => absurd h (by simp)
  | 0, _, _, _, _, i, .nil, .cons _ _ _, _, h, _, _, _, _ => absurd h (by simp)
  | d + 1, _, _, _, _, i, .nil, .nil, _, _, _, _, hf, q => PySem.W.kat_nil (by rw [hf]; simpa [ck] using q)
  | d + 1, _, _, _, _, i, .cons (ns := r) x t hx, .nil, h1, _, b1, b2, hf, q => PySem.W.kat_nil (by
      have l1 : (pd d r).length = d := pd_len (by simpa using h1)
      have l2 : (pd d []).length = d := pd_len (by simp)
      have lt := TS.code_lt (B := 11) (d := 0) (e := x + 1) (l2.trans l1.symm) (pd_bd b2) (pd_bd b1.tail) (by have := b1.head; omega)
      have e : decide (ck (d + 1) (x :: r) < ck (d + 1) []) = false := decide_eq_false (by unfold ck; rw [pd_cons, pd_nil]; omega)
      rw [e] at q
      rw [hf]
      simpa using q)
  | d + 1, _, _, _, _, i, .nil, .cons (ns := r) x t hx, _, h1, b2, b1, hf, q => PySem.W.kat_nil (by
      have l1 : (pd d r).length = d := pd_len (by simpa using h1)
      have l2 : (pd d []).length = d := pd_len (by simp)
      have lt := TS.code_lt (B := 11) (d := 0) (e := x + 1) (l2.trans l1.symm) (pd_bd b2) (pd_bd b1.tail) (by have := b1.head; omega)
      have e : decide (ck (d + 1) [] < ck (d + 1) (x :: r)) = true := decide_eq_true (by unfold ck; rw [pd_cons, pd_nil]; omega)
      rw [e] at q
      rw [hf]
      simpa using q)
  | d + 1, _, _, _, _, i, .cons (ns := r) x t hx, .cons (ns := p) y u hy, h1, h2, b1, b2, hf, q => by
    have l1 : (pd d r).length = d := pd_len (by simpa using h1)
    have l2 : (pd d p).length = d := pd_len (by simpa using h2)
    rw [List.zip_cons_cons]
    refine PySem.W.kat_cons (wpAny_eqBool_int ?_)
    by_cases e : x = y
    · subst e
      rw [beq_self_eq_true]
      have c1 : decide (ck (d + 1) (x :: r) < ck (d + 1) (x :: p)) = decide (ck d r < ck d p) := decide_eq_decide.mpr (by unfold ck; rw [pd_cons, pd_cons]; exact TS.code_same (l1.trans l2.symm))
      rw [c1] at q
      exact PySem.W.kat_yes (lex_any d (i + 1) hx hy (by simpa using h1) (by simpa using h2) b1.tail b2.tail (by rw [hf]; simp) q)
    · rw [show (x == y) = false from beq_eq_false_iff_ne.mpr e]
      refine PySem.W.kat_no (TS.oneLt_ints _ ?_)
      have c1 : decide (ck (d + 1) (x :: r) < ck (d + 1) (y :: p)) = decide (x < y) := by
        refine decide_eq_decide.mpr ?_
        unfold ck
        rw [pd_cons, pd_cons]
        constructor
        · intro lt
          rcases Int.lt_trichotomy x y with z | z | z
          · exact z
          · exact absurd z e
          · have := TS.code_lt (B := 11) (d := y + 1) (e := x + 1) (l2.trans l1.symm) (pd_bd b2.tail) (pd_bd b1.tail) (by omega)
            omega
        · intro lt
          exact TS.code_lt (l1.trans l2.symm) (pd_bd b1.tail) (pd_bd b2.tail) (by omega)
      rw [c1] at q
      exact q
/-- what is sorted -/
def EdsAt (h : Heap) (vs : List Value) : Prop := ∀ v, v ∈ vs → ∃ ns, TS.TupInts h v ns ∧ EdB ns
theorem eds_heads {h : Heap} : ∀ vs : List Value, EdsAt h vs → ∃ hs, PySem.W.KatTups h vs hs ∧ hs.length = vs.length ∧ ∀ f, f ∈ hs → ∃ n t, f = Value.int n t
  | [], _ => ⟨[], PySem.W.KatTups.nil, rfl, fun _ q => nomatch q⟩
  | v :: vs, x => by
    obtain ⟨hs, k, hl, hi⟩ := eds_heads vs fun u hu => x u (List.mem_cons_of_mem _ hu)
    obtain ⟨ns, ⟨a, us, rfl, ⟨o, ho, hc, n, hdt⟩, ia⟩, hn, _⟩ := x v (by simp)
    have len := ia.length
    cases q : us.toList with
    | nil =>
      rw [q] at len
      simp at len
      omega
    | cons y ys =>
      obtain ⟨m, t, hy⟩ := ia.all y (by rw [q]; simp)
      refine ⟨y :: hs, PySem.W.KatTups.cons ho hc hdt ?_ k, by simp [hl], fun f hf => ?_⟩
      · have z := congrArg (fun l : List Value => l[0]?) q
        simpa using z
      · rcases List.mem_cons.mp hf with rfl | hf
        · exact ⟨m, t, hy⟩
        · exact hi f hf
theorem kind_eds {vs : List Value} (h2 : 2 ≤ vs.length) (x : EdsAt s.heap vs) (r : Value → Int) (hr : ∀ v, v ∈ vs → r v = ck 3 (TS.intsOf s.heap v)) (Q : SortKind → Shared → Prop)
    (h : ∀ κ, TS.Cmp prog w A s κ (pairsOf vs) r → Q κ s) : wpAny (model prog w) A (keyKind' vs.toArray) Q E s := by
  obtain ⟨hs, k, hl, hi⟩ := eds_heads vs x
  refine PySem.W.kat_kind (T := Value.type "int") k (by omega) (fun f hf => ?_) rfl (h _ fun p q hp hq Q' E' hQ => ?_)
  · obtain ⟨n, t, rfl⟩ := hi f hf
    exact PySem.W.Looks.of_pure rfl
  · rw [pairsOf_toList] at hp hq
    have mp := (mem_zip_self hp).2
    have mq := (mem_zip_self hq).2
    obtain ⟨ns, tp, ⟨_, lp, bp⟩⟩ := x _ mp
    obtain ⟨ms, tq, ⟨_, lq, bq⟩⟩ := x _ mq
    rw [hr _ mp, hr _ mq, tp.ints, tq.ints] at hQ
    obtain ⟨a, us, e1, ⟨o, ho, hc, n, hdt⟩, ia⟩ := tp
    obtain ⟨a', ws, e2, ⟨o', ho', hc', n', hdt'⟩, ia'⟩ := tq
    rw [e1, e2]
    refine PySem.W.kat_lt ho hdt ho' hdt' (lex_any 3 0 ia ia' lp lq bp bq ?_ hQ)
    have l1 := ia.length
    have l2 := ia'.length
    rw [Array.length_toList] at l1 l2
    rw [l1, l2]
theorem sort_eds {a : Addr} {vs : List Value} {n : Nat} {Q : Value → Shared → Prop} (ho : s.heap.get? a = some (seqObj "list" vs.toArray n)) (few : vs.length < 64) (x : EdsAt s.heap vs)
    (h : ∀ out : Array Value, out.toList.Perm vs → out.toList.Pairwise (fun u v => ck 3 (TS.intsOf s.heap u) ≤ ck 3 (TS.intsOf s.heap v)) → Q .none { s with heap := sortedHeap s.heap a vs out }) :
    wpAny (model prog w) A (call (.builtin "list.sort") [.ref a]) Q E s := by
  have old : ∀ b o, s.heap.get? b = some o → o.cls = .type "tuple" → (TS.midHeap s.heap a vs).get? b = some o := fun b o e hc => by
    refine TS.midHeap_old (fun q => ?_) e
    subst q
    rw [ho] at e
    rw [← Option.some.inj e] at hc
    have hc2 : Value.type "list" = Value.type "tuple" := hc
    injection hc2 with hc3
    exact absurd hc3 (by decide)
  refine wpAny_call_entry slot_list_sort ⟨_, ho, rfl⟩ entry_list_sort (SK.plain_sort (r := fun v => ck 3 (TS.intsOf s.heap v)) ho few (fun h2 Q hQ => ?_) fun ps out h1 h2 h3 => ?_) (args_list_sort _)
  · refine kind_eds (s := { s with heap := TS.midHeap s.heap a vs }) h2 (fun v hv => ?_) _ (fun v hv => ?_) Q hQ
    · obtain ⟨ns, t, b⟩ := x v hv
      exact ⟨ns, t.keeps old, b⟩
    · obtain ⟨ns, t, b⟩ := x v hv
      show ck 3 (TS.intsOf s.heap v) = ck 3 (TS.intsOf (TS.midHeap s.heap a vs) v)
      rw [t.ints, (t.keeps old).ints]
  · obtain ⟨p, o⟩ := TS.out_rank (r := fun v => ck 3 (TS.intsOf s.heap v)) h1 h2 h3
    exact ⟨_, rfl, h out p o⟩
/-- sorted of a set of editions -/
theorem sorted_eds {a : Addr} {L : List (Addr × List Int)} {es : Array (Int × Value)} {ep : Nat} {t : SetTable} {Q : Value → Shared → Prop} (R : SetTR prog w s.heap a L es ep t) (calm : A.handled = none) (ed : ∀ p ∈ L, EdB p.2)
    (hQ : ∀ s' p (out : Array Value) (c : Nat) (M : List (Addr × List Int)), (∀ b o, s.heap.get? b = some o → s'.heap.get? b = some o) → s'.gens = s.gens → s'.os = s.os → s.heap.objs.size ≤ p → s'.heap.get? p = some (seqObj "list" out c) →
      out.toList = M.map (fun q => Value.ref q.1) → M.Perm L → M.Pairwise (fun q r => ck 3 q.2 ≤ ck 3 r.2) → Q (.ref p) s') : wpAny (model prog w) A (call (.builtin "sorted") [.ref a]) Q E s := by
  obtain ⟨o, ho, hex, hd⟩ := R.ob
  have size := R.size
  have few := R.few
  refine Calls.call_function_entry kind_sorted plain_sorted entry_sorted (args_sorted1 _) ?_
  unfold Builtin.«sorted»
  refine wpAny_bind (m := checkCount "sorted" 1 1 _) (wpAny_pure ?_)
  refine wpAny_bind (collect_set (A := A.in1) calm ⟨o, ho, hex.1, hd⟩ R.fits (by unfold scanBound; omega) R.tab.ris R.led fun s1 vs k1 sz g1 o1 pm => ?_)
  have rows : es.toList.map (·.2) = L.map fun q => Value.ref q.1 := by
    rw [R.rows]
    unfold rowsOf
    rw [List.map_map]
    rfl
  rw [rows] at pm
  have key : ∀ q ∈ L, ∀ r ∈ L, q.1 = r.1 → q = r := fun q hq r hr e => by
    have t1 := R.tup q hq
    rw [e] at t1
    exact Prod.ext e (t1.inj (R.tup r hr))
  have lift : ∀ us : List Value, (∀ v ∈ us, ∃ q ∈ L, v = Value.ref q.1) → ∃ M : List (Addr × List Int), us = M.map (fun q => Value.ref q.1) ∧ ∀ q ∈ M, q ∈ L := fun us => by
    induction us with
    | nil => exact fun _ => ⟨[], rfl, fun _ q => nomatch q⟩
    | cons v us ih =>
      intro hv
      obtain ⟨q, hq, rfl⟩ := hv v (by simp)
      obtain ⟨M, rfl, hM⟩ := ih fun u hu => hv u (List.mem_cons_of_mem _ hu)
      exact ⟨q :: M, rfl, fun r hr => by
        rcases List.mem_cons.mp hr with rfl | hr
        · exact hq
        · exact hM r hr⟩
  have back : ∀ M : List (Addr × List Int), (∀ q ∈ M, q ∈ L) → (M.map (fun q => Value.ref q.1)).Perm (L.map fun q => Value.ref q.1) → M.Perm L := fun M hM pM => by
    have nL : L.Nodup := nodup_of_map R.nd
    have nR : (L.map fun q => Value.ref q.1).Nodup := List.pairwise_map.mpr (List.Pairwise.imp_of_mem (fun {q r} hq hr hne e => hne (key q hq r hr (by injection e))) nL)
    refine (List.perm_ext_iff_of_nodup (nodup_of_map (pM.nodup_iff.mpr nR)) nL).mpr fun q => ⟨hM q, fun hq => ?_⟩
    obtain ⟨r, hr, e⟩ := List.mem_map.mp (pM.mem_iff.mpr (List.mem_map.mpr ⟨q, hq, rfl⟩))
    injection e with e
    rw [← key r (hM r hr) q hq e]
    exact hr
  have vl : vs.length < 64 := by rw [pm.length_eq, List.length_map]; exact few
  refine wpAny_bind (wpAny_newList ?_ (by rw [sizeLine_eq]; omega))
  have at1 : (s1.heap.push (seqObj "list" vs.toArray 0)).get? s1.heap.objs.size = some (seqObj "list" vs.toArray 0) := Heap.get?_push_size _ rfl
  have tk : ∀ q ∈ L, TS.TupInts (s1.heap.push (seqObj "list" vs.toArray 0)) (.ref q.1) q.2 := fun q hq => tupInts_of (isT_keep (R.tup q hq) fun b u e => Heap.get?_push_of_some _ (k1 b u e))
  have x : EdsAt (s1.heap.push (seqObj "list" vs.toArray 0)) vs := fun v hv => by
    obtain ⟨q, hq, e⟩ := List.mem_map.mp (pm.mem_iff.mp hv)
    rw [← e]
    exact ⟨q.2, tk q hq, ed q hq⟩
  refine wpAny_bind (wpAny_holding (sort_eds (s := { s1 with heap := s1.heap.push (seqObj "list" vs.toArray 0) }) at1 vl x fun out p1 p2 => ?_))
  obtain ⟨c, hc⟩ := sortedHeap_at (vs := vs) (out := out) at1
  obtain ⟨M, e1, hM⟩ := lift out.toList fun v hv => by
    obtain ⟨q, hq, e⟩ := List.mem_map.mp (pm.mem_iff.mp (p1.mem_iff.mp hv))
    exact ⟨q, hq, e.symm⟩
  have pw : M.Pairwise (fun q r => ck 3 q.2 ≤ ck 3 r.2) := by
    rw [e1] at p2
    refine List.Pairwise.imp_of_mem (fun {q r} hq hr le => ?_) (List.pairwise_map.mp p2)
    have le : ck 3 (TS.intsOf (s1.heap.push (seqObj "list" vs.toArray 0)) (.ref q.1)) ≤ ck 3 (TS.intsOf (s1.heap.push (seqObj "list" vs.toArray 0)) (.ref r.1)) := le
    rw [(tk q (hM q hq)).ints, (tk r (hM r hr)).ints] at le
    exact le
  refine wpAny_pure ⟨_, rfl, hQ _ s1.heap.objs.size out c M (fun b u e => ?_) g1 o1 sz hc e1 (back M hM (by rw [← e1]; exact p1.trans pm)) pw⟩
  have lt := Heap.lt_size (k1 b u e)
  show (sortedHeap (s1.heap.push (seqObj "list" vs.toArray 0)) s1.heap.objs.size vs out).get? b = some u
  rw [sortedHeap_old (Nat.ne_of_lt lt) (by rw [size_push']; exact Nat.lt_succ_of_lt lt)]
  exact Heap.get?_push_of_some _ (k1 b u e)
end
def insE (x : List Int) : List (List Int) → List (List Int)
  | [] => [x]
  | y :: r => if ck 3 x < ck 3 y then x :: y :: r else if x = y then y :: r else y :: insE x r
def srt (l : List (List Int)) : List (List Int) := l.foldr insE []
theorem mem_insE {x z : List Int} : ∀ {l : List (List Int)}, z ∈ insE x l ↔ z = x ∨ z ∈ l
  | [] => by simp [insE]
  | y :: r => by
    unfold insE
    split
    · simp
    · split
      · rename_i h
        subst h
        simp
      · simp only [List.mem_cons, mem_insE (l := r)]
        constructor
        · rintro (h | h | h)
          · exact .inr (.inl h)
          · exact .inl h
          · exact .inr (.inr h)
        · rintro (h | h | h)
          · exact .inr (.inl h)
          · exact .inl h
          · exact .inr (.inr h)
theorem mem_srt {z : List Int} : ∀ {l : List (List Int)}, z ∈ srt l ↔ z ∈ l
  | [] => by simp [srt]
  | x :: l => by
    show z ∈ insE x (srt l) ↔ _
    rw [mem_insE, mem_srt (l := l)]
    simp
abbrev Asc (l : List (List Int)) : Prop := l.Pairwise fun a b => ck 3 a < ck 3 b
theorem asc_insE {x : List Int} (hx : EdB x) : ∀ {l : List (List Int)}, (∀ y ∈ l, EdB y) → Asc l → Asc (insE x l)
  | [], _, _ => by simp [insE, Asc]
  | y :: r, h, a => by
    obtain ⟨a1, a2⟩ := List.pairwise_cons.mp a
    unfold insE
    split
    · rename_i lt
      refine List.pairwise_cons.mpr ⟨fun z hz => ?_, a⟩
      rcases List.mem_cons.mp hz with rfl | hz
      · exact lt
      · exact Int.lt_trans lt (a1 z hz)
    · split
      · exact a
      · rename_i n1 n2
        refine List.pairwise_cons.mpr ⟨fun z hz => ?_, asc_insE hx (fun z hz => h z (List.mem_cons_of_mem _ hz)) a2⟩
        rcases mem_insE.mp hz with rfl | hz
        · have hy := h y (by simp)
          have : ck 3 y ≠ ck 3 z := fun e => n2 (ck_inj hy.2.1 hx.2.1 hy.2.2 hx.2.2 e).symm
          omega
        · exact a1 z hz
theorem asc_srt : ∀ {l : List (List Int)}, (∀ y ∈ l, EdB y) → Asc (srt l)
  | [], _ => List.Pairwise.nil
  | x :: l, h => asc_insE (h x (by simp)) (fun y hy => h y (List.mem_cons_of_mem _ (mem_srt.mp hy))) (asc_srt fun y hy => h y (List.mem_cons_of_mem _ hy))
theorem asc_one : ∀ {l m : List (List Int)}, Asc l → Asc m → (∀ z, z ∈ l ↔ z ∈ m) → l = m
  | [], [], _, _, _ => rfl
  | [], y :: m, _, _, h => absurd ((h y).mpr (by simp)) (by simp)
  | x :: l, [], _, _, h => absurd ((h x).mp (by simp)) (by simp)
  | x :: l, y :: m, a, b, h => by
    obtain ⟨a1, a2⟩ := List.pairwise_cons.mp a
    obtain ⟨b1, b2⟩ := List.pairwise_cons.mp b
    have e : x = y := by
      rcases List.mem_cons.mp ((h x).mp (by simp)) with e | e
      · exact e
      · rcases List.mem_cons.mp ((h y).mpr (by simp)) with e2 | e2
        · exact e2.symm
        · have := b1 x e
          have := a1 y e2
          omega
    subst e
    have : l = m := asc_one a2 b2 fun z => by
      constructor
      · intro hz
        rcases List.mem_cons.mp ((h z).mp (List.mem_cons_of_mem _ hz)) with e | e
        · subst e
          have := a1 z hz
          omega
        · exact e
      · intro hz
        rcases List.mem_cons.mp ((h z).mpr (List.mem_cons_of_mem _ hz)) with e | e
        · subst e
          have := b1 z hz
          omega
        · exact e
    rw [this]
def D.edl : List D → Option (List (List Int))
  | [] => some []
  | .tup xs :: r => (D.ints xs).bind fun ns => if EdB ns then (D.edl r).map (ns :: ·) else none
  | _ :: _ => none
def edD (ns : List Int) : D := .tup (ns.map D.int)
/-- sorted(set(xs)) -/
def dSortSet : List D → Option (List D)
  | [.lst xs] => (D.edl xs).bind fun l => if l.length < 64 then some ((srt l).map edD) else none
  | _ => none
section
variable {X : Cx} {K : PySem.W.Frag} {Z : Ent} {W : WX} {F H : Hp} {A : Fps} {σ : L2.St} {st : Sta}
theorem ints_D : ∀ {ds : List D} {ns : List Int}, D.ints ds = some ns → ds = ns.map D.int
  | [], _, e => by cases e; rfl
  | d :: r, _, e => by
    cases d with
    | int i =>
      simp only [D.ints] at e
      obtain ⟨ms, e1, e2⟩ := Option.map_eq_some_iff.mp e
      subst e2
      rw [ints_D e1]
      rfl
    | _ => simp [D.ints] at e
theorem edl_reps : ∀ {ds : List D} {l : List (List Int)} {vs : List V}, Reps K A F vs ds → D.edl ds = some l → ∃ ks : List (Addr × List Int), vs = ks.map (fun p => V.ref p.1) ∧ l = ks.map (·.2) ∧ ∀ p ∈ ks, SqT K F p.1 (p.2.map V.int) ∧ EdB p.2
  | [], _, _, .nil, e => by cases e; exact ⟨[], rfl, rfl, fun _ h => nomatch h⟩
  | d :: r, _, _, .cons h t, e => by
    cases d with
    | tup xs =>
      simp only [D.edl] at e
      obtain ⟨ns, e1, e⟩ := Option.bind_eq_some_iff.mp e
      obtain ⟨hb, e⟩ : EdB ns ∧ (D.edl r).map (ns :: ·) = some _ := by
        by_cases hb : EdB ns
        · rw [if_pos hb] at e
          exact ⟨hb, e⟩
        · rw [if_neg hb] at e
          cases e
      obtain ⟨m, e2, rfl⟩ := Option.map_eq_some_iff.mp e
      obtain ⟨ks, rfl, rfl, hk⟩ := edl_reps t e2
      cases h with
      | @tup a us _ hq rr =>
        rw [ints_reps rr e1] at hq
        refine ⟨(a, ns) :: ks, rfl, rfl, fun p hp => ?_⟩
        rcases List.mem_cons.mp hp with rfl | hp
        · exact ⟨hq, hb⟩
        · exact hk p hp
    | _ => simp [D.edl] at e
theorem reps_eds (K : PySem.W.Frag) (A : Fps) (F : Hp) : ∀ {ks : List (Addr × List Int)}, (∀ p ∈ ks, SqT K F p.1 (p.2.map V.int)) → Reps K A F (ks.map fun p => V.ref p.1) ((ks.map (·.2)).map edD)
  | [], _ => .nil
  | p :: ks, h => .cons (.tup (h p (by simp)) (by
      have : ∀ ns : List Int, Reps K A F (ns.map V.int) (ns.map D.int) := fun ns => by
        induction ns with
        | nil => exact .nil
        | cons n ns ih => exact .cons (.int n) ih
      exact this p.2)) (reps_eds K A F fun q hq => h q (List.mem_cons_of_mem _ hq))
def rSortE (K : PySem.W.Frag) (P : Program) (w : World) : List V → Hp → VK → Prop := fun vs H Q => ∃ (a : Addr) (L : List (Addr × List Int)), vs = [V.ref a] ∧ H a = some (SetTO P w a L) ∧ (∀ p ∈ L, SqT K H p.1 (p.2.map V.int) ∧ EdB p.2) ∧
  ∀ (M : List (Addr × List Int)) (p : Addr), M.Perm L → (M.map (·.2)).Nodup → M.Pairwise (fun q r => ck 3 q.2 ≤ ck 3 r.2) → H p = none → Q (.ref p) (upd H p (.lst (M.map fun q => V.ref q.1)))
theorem cr_sortE (hc : X.calm = true) : CallR X (.builtin "sorted") (rSortE X.K X.prog X.w) := fun pins s σ H vs us Q I r h => by
  obtain ⟨a, L, rfl, ha, hk, q⟩ := h
  have R0 : SetT0 X.prog X.w s.heap a L := (I.hok a _ ha).1
  obtain ⟨es, ep, t, R⟩ := R0.full fun p hp => I.isT (hk p hp).1
  rw [Vals.ref1 r]
  refine sorted_eds R (I.ok.hd hc) (fun p hp => (hk p hp).2) fun s' p out c M k g o hp hg hout pm pw => ?_
  have few : M.length < 64 := by rw [pm.length_eq]; exact R.few
  have small : (M.map fun q => V.ref q.1).length ≤ sizeLine := by rw [List.length_map, sizeLine_eq]; omega
  have fresh : H p = none := I.hok.fresh hp
  have hv : Vals (M.map fun q => V.ref q.1) out.toList := by rw [hout]; exact vals_of_refs M
  have J : Inv X pins σ (upd H p (.lst (M.map fun q => V.ref q.1))) { s with heap := s'.heap, gens := s'.gens, drawn := s'.drawn, toks := s'.toks } :=
    I.call (ch := []) (Un.laid k hp fresh) (I.hok.laid k hp ⟨small, out.toList, c, hv, hg⟩) (by rw [g]; exact I.bare) (fun _ z => nomatch z)
  have e : s' = { s with heap := s'.heap, gens := s'.gens, drawn := s'.drawn, toks := s'.toks } := by
    cases s'
    cases s
    cases o
    rfl
  rw [e]
  exact ⟨.ref p, _, J, rfl, q M p pm ((pm.map (·.2)).nodup_iff.mpr R.nd) pw fresh⟩
/-- sorted(set(a)) -/
theorem jn_sortSet {a : Expr} {ma : M D} {p1 p2 p3 pos : Pos} (hc : X.calm = true) (hu : X.A.units + 64 < cLine) (hg1 : Gl X "sorted") (hm1 : X.mg "sorted" = none) (hg2 : Gl X "set") (hm2 : X.mg "set" = none) (ha : PE X a (tM X.K Z W ma))
    (h1 : starEach [.Call (.Name "set" p2) [a] [] p3] X.env = (false, eval (.Call (.Name "set" p2) [a] [] p3) X.env) :: starEach [] X.env := by rfl) (h2 : starEach [a] X.env = (false, eval a X.env) :: starEach [] X.env := by rfl) :
    PE X (.Call (.Name "sorted" p1) [.Call (.Name "set" p2) [a] [] p3] [] pos) (tN X.K Z W (ma >>= fun d => M.of (dSortSet [d]))) := by
  refine PE.wk (pe_callB (cr_sortE hc) hg1 hm1 (by decide +kernel) (pa_cons (pe_callTy (cr_setOfT hc hu) hg2 hm2 (by decide +kernel) (pa_cons ha pa_nil h2) (by decide) (by decide) h2) pa_nil h1) (by decide) (by decide) h1) fun σ H Q ⟨F, A, st, R, h⟩ => ?_
  refine ⟨F, A, st, R, h.bind.imp fun d st1 F1 H1 A1 R1 m1 z v r => ?_⟩
  obtain ⟨res, eg, z⟩ := of_after z
  cases d with
  | lst xs =>
    obtain ⟨l, e1, eg⟩ := Option.bind_eq_some_iff.mp (show ((D.edl xs).bind fun l => if l.length < 64 then some ((srt l).map edD) else none) = some res from eg)
    obtain ⟨few, rfl⟩ := if_some eg
    cases r with
    | lst hl rs =>
      obtain ⟨ks, rfl, rfl, hk⟩ := edl_reps rs e1
      refine ⟨_, ks, rfl, .inl (.inl (R1.le _ _ hl)), fun p hp => sqT_le R1.le (hk p hp).1, by simpa using few, fun b L hb sub all => ?_⟩
      have R2 := R1.junk (u := SetTO X.prog X.w b L) hb
      refine ⟨b, L, rfl, upd_same, fun p hp => ⟨sqT_le R2.le (hk p (sub p hp)).1, (hk p (sub p hp)).2⟩, fun M p pm nd pw hp => ?_⟩
      have inL : ∀ q ∈ M, q ∈ ks := fun q hq => sub q (pm.mem_iff.mp hq)
      have eqs : M.map (·.2) = srt (ks.map (·.2)) := by
        refine asc_one ?_ (asc_srt fun y hy => ?_) fun z => ⟨fun hz => ?_, fun hz => ?_⟩
        · rw [Asc, List.pairwise_map]
          have nd' : M.Pairwise fun q r => q.2 ≠ r.2 := List.pairwise_map.mp nd
          refine List.Pairwise.imp_of_mem (fun {q r} hq hr (z : ck 3 q.2 ≤ ck 3 r.2 ∧ q.2 ≠ r.2) => ?_) (pw.and nd')
          have h1 := (hk q (inL q hq)).2
          have h2 := (hk r (inL r hr)).2
          have : ck 3 q.2 ≠ ck 3 r.2 := fun e => z.2 (ck_inj h1.2.1 h2.2.1 h1.2.2 h2.2.2 e)
          have := z.1
          omega
        · obtain ⟨p, hp, rfl⟩ := List.mem_map.mp hy
          exact (hk p hp).2
        · obtain ⟨q, hq, rfl⟩ := List.mem_map.mp hz
          exact mem_srt.mpr (List.mem_map.mpr ⟨q, inL q hq, rfl⟩)
        · obtain ⟨q, hq, rfl⟩ := List.mem_map.mp (mem_srt.mp hz)
          obtain ⟨r, hr, e⟩ := List.mem_map.mp (all q hq)
          exact List.mem_map.mpr ⟨r, pm.mem_iff.mpr hr, e⟩
      rw [← eqs] at z
      obtain ⟨R3, lo⟩ := R2.loose hp (reps_eds X.K A1 F1 fun q hq => (hk q (inL q hq)).1)
      exact z F1 _ A1 R3 .refl p _ lo
  | _ => cases eg
end
end J
end
section
namespace J
open PySem PySem.Spec PyProof.Rows L2
section
variable {X : Cx} {K : PySem.W.Frag} {Z : Ent} {W : WX} {F H : Hp} {A : Fps} {σ : L2.St} {st : Sta} {pos apos : Pos} {a b c e o : Expr} {es : List Expr} {ma mb mc mo : M D} {n k : Nat} {m : M (List D)} {E : Ends}
/-- o[b], o a list of the store -/
def oIxM (mo mb : M D) : M D := mo >>= fun o => mb >>= fun k => objL o >>= fun xs => M.of (dIx (.lst xs) k)
theorem je_oIx (ho : PE X o (tM X.K Z W mo)) (hb : PE X b (tM X.K Z W mb)) (hs : PlainIx b := by exact fun _ _ => rfl) : PE X (.Subscript o b pos) (tM X.K Z W (oIxM mo mb)) := by
  refine PE.wk (pe_ix ix_list ho hb hs) fun σ H Q ⟨F, A, st, R, h⟩ => ?_
  obtain ⟨F', A', st', R', z⟩ := two_ R h
  refine ⟨F', A', st', R', z.imp fun d st1 F1 H1 A1 R1 m1 z v r => ?_⟩
  obtain ⟨F2, A2, st2, R2, z⟩ := z v r
  refine ⟨F2, A2, st2, R2, z.imp fun d2 st3 F3 H3 A3 R3 m3 z v2 r2 => ?_⟩
  obtain ⟨dx, dy, F4, A4, st4, R4, r3, r4, m4, z⟩ := z v2 r2
  obtain ⟨n, q, xs, vs, ob, z6⟩ := ob_bind R4 r3 z
  obtain ⟨res, eg, z7⟩ := of_after z6
  have zf := z7 F4 H3 A4 R4 .refl
  obtain rfl := ob.vv
  cases dy with
  | int i =>
    cases r4
    obtain ⟨w, e1, r5⟩ := atI_reps ob.rs eg
    exact ⟨_, _, i, w, rfl, rfl, .inl (.inl ob.hh), e1, zf _ r5⟩
  | _ => cases eg
/-- tuple(o) -/
def oTupM (mo : M D) : M D := mo >>= fun o => objL o >>= fun xs => pure (.tup xs)
theorem je_oTup {p : Pos} (hg : Gl X "tuple") (hm : X.mg "tuple" = none) (hv0 : bootBuiltins "tuple" = some (.type "tuple")) (ho : PE X o (tM X.K Z W mo)) (he : starEach [o] X.env = (false, eval o X.env) :: starEach [] X.env := by rfl) :
    PE X (.Call (.Name "tuple" p) [o] [] pos) (tM X.K Z W (oTupM mo)) := by
  refine PE.wk (pe_callTy call_tuple_of hg hm hv0 (pa_cons ho pa_nil he) (by decide) (by decide) he) fun σ H Q ⟨F, A, st, R, h⟩ => ?_
  refine ⟨F, A, st, R, h.bind.imp fun o st1 F1 H1 A1 R1 m1 z v r => ?_⟩
  obtain ⟨n, q, xs, vs, ob, z⟩ := ob_bind R1 r z
  obtain rfl := ob.vv
  refine ⟨q, vs, rfl, .inl ⟨.inl (.inl ob.hh), fun l hl => ?_⟩⟩
  exact z _ _ A1 (R1.new hl) (.new R1.w hl) _ (.tup (.inl (.inl upd_same)) (ob.rs.mono (.new R1.w hl)))
theorem Reps.rev {K : PySem.W.Frag} {A : Fps} {F : Hp} : ∀ {vs : List V} {ds : List D}, Reps K A F vs ds → Reps K A F vs.reverse ds.reverse
  | _, _, .nil => by simpa using Reps.nil
  | _, _, .cons h r => by
    rw [List.reverse_cons, List.reverse_cons]
    exact (Reps.rev r).append (.cons h .nil)
/-- o[::-1] -/
def oRevN (mo : M D) : M (List D) := mo >>= fun o => objL o >>= fun xs => pure xs.reverse
theorem jn_oRev {k : Nat} {p1 p2 p3 : Pos} (ho : PE X o (tM X.K Z W mo)) : PE X (.Subscript o (.Slice none none (some (.UnaryOp .USub (.Constant (.int 1) k p1) p2)) p3) pos) (tN X.K Z W (oRevN mo)) := by
  refine PE.wk (pe_revL ho) fun σ H Q ⟨F, A, st, R, h⟩ => ?_
  refine ⟨F, A, st, R, h.bind.imp fun o st1 F1 H1 A1 R1 m1 z v r => ?_⟩
  obtain ⟨n, q, xs, vs, ob, z⟩ := ob_bind R1 r z
  obtain rfl := ob.vv
  refine ⟨q, vs, rfl, .inl (.inl ob.hh), fun p hp => ?_⟩
  obtain ⟨R2, lo⟩ := R1.loose hp ob.rs.rev
  exact z F1 _ A1 R2 .refl p _ lo
/-- x[::-1], x a list that no longer changes -/
def dRev : D → Option (List D)
  | .lst xs => some xs.reverse
  | _ => none
theorem jn_rev {k : Nat} {p1 p2 p3 : Pos} (ha : PE X a (tM X.K Z W ma)) : PE X (.Subscript a (.Slice none none (some (.UnaryOp .USub (.Constant (.int 1) k p1) p2)) p3) pos) (tN X.K Z W (ma >>= fun d => M.of (dRev d))) := by
  refine PE.wk (pe_revL ha) fun σ H Q ⟨F, A, st, R, h⟩ => ?_
  refine ⟨F, A, st, R, h.bind.imp fun d st1 F1 H1 A1 R1 m1 z v r => ?_⟩
  obtain ⟨res, eg, z⟩ := of_after z
  cases d with
  | lst xs =>
    cases eg
    cases r with
    | lst hl rs =>
      refine ⟨_, _, rfl, .inl (.inl (R1.le _ _ hl)), fun p hp => ?_⟩
      obtain ⟨R2, lo⟩ := R1.loose hp rs.rev
      exact z F1 _ A1 R2 .refl p _ lo
  | _ => cases eg
/-- a, b, c = x, y, z with plain local names -/
def parM3 (i j l : Nat) (ds : List D) : Tg := match ds with
  | [a, b, c] => fun st => ((setV i a st).bind (setV j b)).bind (setV l c)
  | _ => fun _ => none
def parS3 (i j l : Nat) (m : M (List D)) : M Fl := m >>= fun ds => thenN (parM3 i j l ds)
theorem js_par3 {i j l : Nat} {x y z : Str} {px py pz pt pt2 : Pos} {kt k2 n : Nat} {m : M (List D)} (hc : X.calm = true) (hn : X.N.Nodup) (ha : PAJ X Z W [a, b, c] n m) (hi : X.N[i]? = some x := by rfl) (hj : X.N[j]? = some y := by rfl) (hl : X.N[l]? = some z := by rfl) (hij : i ≠ j := by decide) (hil : i ≠ l := by decide) (hjl : j ≠ l := by decide)
    (hx : X.env.scope.names.lookup x = some .local := by rfl) (hy : X.env.scope.names.lookup y = some .local := by rfl) (hz : X.env.scope.names.lookup z = some .local := by rfl)
    (hw : swappedStores [.Tuple [.Name x px, .Name y py, .Name z pz] kt pt] (.Tuple [a, b, c] k2 pt2) X.env = pure (some [x, y, z]) := by rfl)
    (hs : swapsWithSole [.Tuple [.Name x px, .Name y py, .Name z pz] kt pt] (.Tuple [a, b, c] k2 pt2) pos.line X.env = pure false := by rfl) :
    PS X (.Assign [.Tuple [.Name x px, .Name y py, .Name z pz] kt pt] (.Tuple [a, b, c] k2 pt2) pos) (tS X.K Z W (parS3 i j l m)) := by
  refine PS.wk (ps_par3 hc hn hi hj hl hij hil hjl hx hy hz ha.pa hw hs) fun E σ H ⟨F, A, st, R, h⟩ => ?_
  refine ⟨F, A, st, R, h.bind.imp fun ds st1 F1 H1 A1 R1 m1 q vs rs => ?_⟩
  obtain ⟨st3, e3, q⟩ := thenN_S q
  unfold parM3 at e3
  cases rs with
  | nil => cases e3
  | cons r1 rr =>
    cases rr with
    | nil => cases e3
    | cons r2 rr =>
      cases rr with
      | nil => cases e3
      | cons r3 rr =>
        cases rr with
        | cons _ _ => cases e3
        | nil =>
          obtain ⟨st2, e1, e2⟩ := Option.bind_eq_some_iff.mp e3
          obtain ⟨st4, e4, e5⟩ := Option.bind_eq_some_iff.mp e1
          obtain ⟨h1, rfl⟩ := setV_some e4
          obtain ⟨h2, rfl⟩ := setV_some e5
          obtain ⟨h3, rfl⟩ := setV_some e2
          refine ⟨_, _, _, rfl, ?_⟩
          have R2 := R1.setVal (by rw [← R1.len]; exact h1) r1
          have R3 := R2.setVal (by rw [← R2.len]; exact h2) r2
          exact q _ F1 H1 A1 (R3.setVal (by rw [← R3.len]; exact h3) r3) .refl
/-- texts of the module in a list -/
theorem Ct.lstS {fa : List He.Fa} {ts : List He.Tab} {fn : List DfJ} {xs : List (PySem.W.Frag → Bool)} (C : Ct fa ts fn xs X.w X.K X.mg) (i j : Nat) {x : Str} {l : List Str} (h : fa[i]? = some (.glo x) := by rfl) (h2 : xs[j]? = some (fun K => He.lstB K x (l.map He.Dv.str)) := by rfl) (hg : Gl X x) (hz : (l.all fun z => PyData.strOk z) = true := by decide +kernel)
    (hd : (x == ("__debug__" : Str)) = false := by decide) : PE X (.Name x pos) (tM X.K Z W (pure (.rls (l.map D.str)))) := by
  have e := C.glo i h
  have q : He.lstB X.K x (l.map He.Dv.str) = true := C.chk j h2
  refine PE.wk (pe_glob (v := .ref (He.ga X.K x)) hg e rfl hd) fun σ H Q ⟨F, A, st, R, h⟩ => ?_
  exact h F H A R .refl _ (.rls (He.lstB_ok q F) (reps_strs hz))
/-- max of a tuple of ints -/
def dMaxT : List D → Option D
  | [.tup xs] => (D.ints xs).bind fun ns => match ns with
    | [] => none
    | n :: r => some (.int (r.foldl max n))
  | _ => none
theorem dps_ints (K : PySem.W.Frag) (H : Hp) : ∀ ns : List Int, DpAll K H (ns.map V.int) (ns.map PyData.int)
  | [] => .nil
  | n :: ns => .cons (.int n) (dps_ints K H ns)
theorem cj_maxT (hc : X.calm = true) (hu : X.A.units + 64 < cLine) : CallR X (.builtin "max") (rC X.K dMaxT) := by
  rintro pins s σ H xs us Q I r ⟨Z, F, A, σ', st, ds, res, R, rs, eg, q⟩
  match ds, rs, eg with
  | [.tup ys], .cons (.tup h t) .nil, eg =>
    obtain ⟨ns, e1, eg⟩ := Option.bind_eq_some_iff.mp eg
    cases ns with
    | nil => cases eg
    | cons n ns =>
      cases eg
      rw [ints_reps t e1] at h
      obtain ⟨its, rv, pl, _⟩ := I.tuple (sqT_le R.le h)
      rw [Vals.ref1 r]
      obtain ⟨as, ra⟩ := Dp.readsAll I ((n :: ns).map PyData.int) _ _ (dps_ints X.K H (n :: ns)) rv
      obtain ⟨o, ho, hcl, hn, hd⟩ := pl
      have dep : ∀ l : List Int, PyData.depthAll (l.map PyData.int) ≤ 1 := fun l => by
        induction l with
        | nil => simp [PyData.depthAll]
        | cons x l ih =>
          simp only [List.map_cons, PyData.depthAll, PyData.depth]
          omega
      refine PySem.W.max_tuple_data (x := .int n) (xs := ns.map PyData.int) (I.ok.hd hc) ⟨o, ho, hcl, hn, hd⟩ (by simpa using ra) ⟨fun x hx y hy => ?_, fun x hx => ?_⟩ (by have := dep (n :: ns); simp only [List.map_cons] at this; omega) fun i v h' tk bs hi rd k => ?_
      · obtain ⟨a, _, rfl⟩ := List.mem_map.mp (show x ∈ (n :: ns).map PyData.int from hx)
        obtain ⟨b, _, rfl⟩ := List.mem_map.mp (show y ∈ (n :: ns).map PyData.int from hy)
        rfl
      · obtain ⟨a, _, rfl⟩ := List.mem_map.mp (show x ∈ (n :: ns).map PyData.int from hx)
        exact fun e => nomatch e
      · rw [PySem.W.maxD_ints] at rd
        cases rd
        exact ⟨.int _, H, I.kept k, ⟨_, rfl⟩, q _ F H R .refl (.int _)⟩
def revN (ma : M D) : M (List D) := ma >>= fun d => M.of (dRev d)
noncomputable def eqUM (tab : Str → Option Mf) (n : Nat) (ma mb : M D) : M D := ma >>= fun x => mb >>= fun y => eqU tab n x y
/-- sorted(set(a))[..] and the like: a new list, frozen -/
def sortM (ma : M D) : M (List D) := ma >>= fun d => M.of (dSortSet [d])
end
end J
end
section
namespace J
open PySem PySem.Spec L2
section
variable {α β : Type} {st : Sta} {a b c mo ma mb : M D} {i j l n : Nat}
theorem wp_fmt {Q : D → Sta → Prop} (w : Wp a st fun x st1 => ∃ d, dFmt x = some d ∧ Q d st1) : Wp (fmtM a) st Q := wp_bind (w.imp fun _ _ h => wp_of h)
theorem wp_joinsN {acc : Str} {Q : D → Sta → Prop} (w : Q (.str acc) st) : Wp (joinsM [] acc) st Q := wp_pure w
theorem wp_joinsC {m : M D} {ms : List (M D)} {acc : Str} {Q : D → Sta → Prop} (w : Wp m st fun d st1 => ∃ y, d = .str y ∧ (acc ++ y).length ≤ 16777216 ∧ Wp (joinsM ms (acc ++ y)) st1 Q) : Wp (joinsM (m :: ms) acc) st Q := wp_bind (w.imp fun d st1 ⟨y, e, h, w⟩ => by
  subst e
  show Wp (if (acc ++ y).length ≤ 16777216 then joinsM ms (acc ++ y) else M.stuck) st1 Q
  rw [if_pos h]
  exact w)
theorem wp_oNew {m : M (List D)} {Q : D → Sta → Prop} (w : Wp m st fun l st1 => Q (.obj st1.S.length) { st1 with S := st1.S ++ [.lst l] }) : Wp (oNewM m) st Q := wp_bind (w.imp fun _ _ h => ⟨_, _, rfl, h⟩)
theorem wp_objL {xs : List D} {Q : List D → Sta → Prop} (h : st.S[n]? = some (.lst xs)) (w : Q xs st) : Wp (objL (.obj n)) st Q := ⟨xs, st, by simp only [objL, h], w⟩
theorem wp_oIx {Q : D → Sta → Prop} (w : Wp mo st fun o st1 => Wp mb st1 fun k st2 => ∃ n xs d, o = .obj n ∧ st2.S[n]? = some (.lst xs) ∧ dIx (.lst xs) k = some d ∧ Q d st2) : Wp (oIxM mo mb) st Q :=
  wp_bind (w.imp fun o st1 w => wp_bind (w.imp fun k st2 ⟨n, xs, d, e, h, g, q⟩ => by
    subst e
    exact wp_bind (wp_objL h (wp_of ⟨d, g, q⟩))))
theorem wp_oTup {Q : D → Sta → Prop} (w : Wp mo st fun o st1 => ∃ n xs, o = .obj n ∧ st1.S[n]? = some (.lst xs) ∧ Q (.tup xs) st1) : Wp (oTupM mo) st Q := wp_bind (w.imp fun o st1 ⟨n, xs, e, h, q⟩ => by
  subst e
  exact wp_bind (wp_objL h (wp_pure q)))
theorem wp_oLen {Q : D → Sta → Prop} (w : Wp mo st fun o st1 => ∃ n xs, o = .obj n ∧ st1.S[n]? = some (.lst xs) ∧ Q (.int xs.length) st1) : Wp (oLenM mo) st Q := wp_bind (w.imp fun o st1 ⟨n, xs, e, h, q⟩ => by
  subst e
  exact wp_bind (wp_objL h (wp_pure q)))
theorem wp_oRev {Q : List D → Sta → Prop} (w : Wp mo st fun o st1 => ∃ n xs, o = .obj n ∧ st1.S[n]? = some (.lst xs) ∧ Q xs.reverse st1) : Wp (oRevN mo) st Q := wp_bind (w.imp fun o st1 ⟨n, xs, e, h, q⟩ => by
  subst e
  exact wp_bind (wp_objL h (wp_pure q)))
theorem wp_objPut {f : List D → Option (List D)} {xs ys : List D} {Q : Fl → Sta → Prop} (h : st.S[n]? = some (.lst xs)) (e : f xs = some ys) (w : Q .next { st with S := st.S.set n (.lst ys) }) : Wp (thenN (objPut (.obj n) f)) st Q :=
  ⟨.next, _, by unfold thenN; simp only [objPut, h, e]; rfl, w⟩
theorem wp_oApp {Q : Fl → Sta → Prop} (w : Wp mo st fun o st1 => ∃ n xs0, o = .obj n ∧ st1.S[n]? = some (.lst xs0) ∧ Wp ma st1 fun d st2 => ∃ xs, st2.S[n]? = some (.lst xs) ∧ xs.length < 1000000 ∧ Q .next { st2 with S := st2.S.set n (.lst (xs ++ [d])) }) : Wp (oAppS mo ma) st Q :=
  wp_bind (w.imp fun o st1 ⟨n, xs0, e, h, w⟩ => by
    subst e
    exact wp_bind (wp_objL h (wp_bind (w.imp fun d st2 ⟨xs, h2, hl, q⟩ => wp_objPut h2 (by unfold appL; rw [if_pos hl]) q))))
theorem wp_oPop {Q : Fl → Sta → Prop} (w : Wp mo st fun o st1 => ∃ n xs0, o = .obj n ∧ st1.S[n]? = some (.lst xs0) ∧ Wp ma st1 fun k st2 => ∃ xs l, st2.S[n]? = some (.lst xs) ∧ popL k xs = some l ∧ Q .next { st2 with S := st2.S.set n (.lst l) }) : Wp (oPopS mo ma) st Q :=
  wp_bind (w.imp fun o st1 ⟨n, xs0, e, h, w⟩ => by
    subst e
    exact wp_bind (wp_objL h (wp_bind (w.imp fun d st2 ⟨xs, l, h2, hl, q⟩ => wp_objPut h2 hl q))))
theorem wp_oIns {Q : Fl → Sta → Prop} (w : Wp mo st fun o st1 => ∃ n xs0, o = .obj n ∧ st1.S[n]? = some (.lst xs0) ∧ Wp ma st1 fun k st2 => Wp mb st2 fun d st3 => ∃ xs l, st3.S[n]? = some (.lst xs) ∧ insL k d xs = some l ∧ Q .next { st3 with S := st3.S.set n (.lst l) }) : Wp (oInsS mo ma mb) st Q :=
  wp_bind (w.imp fun o st1 ⟨n, xs0, e, h, w⟩ => by
    subst e
    exact wp_bind (wp_objL h (wp_bind (w.imp fun d st2 w => wp_bind (w.imp fun d st3 ⟨xs, l, h2, hl, q⟩ => wp_objPut h2 hl q)))))
theorem wp_oSet {Q : Fl → Sta → Prop} (w : Wp ma st fun d st1 => Wp mo st1 fun o st2 => ∃ n xs0, o = .obj n ∧ st2.S[n]? = some (.lst xs0) ∧ Wp mb st2 fun k st3 => ∃ xs l, st3.S[n]? = some (.lst xs) ∧ setL d k xs = some l ∧ Q .next { st3 with S := st3.S.set n (.lst l) }) : Wp (oSetS ma mo mb) st Q :=
  wp_bind (w.imp fun d st1 w => wp_bind (w.imp fun o st2 ⟨n, xs0, e, h, w⟩ => by
    subst e
    exact wp_bind (wp_objL h (wp_bind (w.imp fun k st3 ⟨xs, l, h2, hl, q⟩ => wp_objPut h2 hl q)))))
theorem wp_par3 {m : M (List D)} {Q : Fl → Sta → Prop} (w : Wp m st fun d st1 => ∃ st2, parM3 i j l d st1 = some st2 ∧ Q .next st2) : Wp (parS3 i j l m) st Q := wp_bind (w.imp fun d st1 ⟨st2, h1, h2⟩ => ⟨.next, _, by unfold thenN; rw [h1], h2⟩)
theorem wp_sort {Q : List D → Sta → Prop} (w : Wp a st fun x st1 => ∃ l, dSortSet [x] = some l ∧ Q l st1) : Wp (sortM a) st Q := wp_bind (w.imp fun _ _ h => wp_of h)
theorem wp_rev {Q : List D → Sta → Prop} (w : Wp a st fun x st1 => ∃ l, dRev x = some l ∧ Q l st1) : Wp (revN a) st Q := wp_bind (w.imp fun _ _ h => wp_of h)
theorem wp_andV {m k : M D} {Q : D → Sta → Prop} (w : Wp m st fun d st1 => ∃ x, d.isB = some x ∧ Wp (if x = true then k else pure (.bl false)) st1 Q) : Wp (andV m k) st Q := wp_bind (w.imp fun _ _ h => wp_bind (wp_of h))
theorem wp_orV {m k : M D} {Q : D → Sta → Prop} (w : Wp m st fun d st1 => ∃ x, d.isB = some x ∧ Wp (if x = true then pure (.bl true) else k) st1 Q) : Wp (orV m k) st Q := wp_bind (w.imp fun _ _ h => wp_bind (wp_of h))
theorem wp_notV {m : M D} {Q : D → Sta → Prop} (w : Wp m st fun d st1 => ∃ x, d.isB = some x ∧ Q (.bl (!x)) st1) : Wp (notV m) st Q := wp_bind (w.imp fun _ _ ⟨x, h, q⟩ => wp_bind (wp_of ⟨x, h, wp_pure q⟩))
theorem wp_isNM {Q : D → Sta → Prop} (w : Wp a st fun x st1 => Q (.bl x.isN) st1) : Wp (isNM a) st Q := wp_bind (w.imp fun _ _ h => wp_pure h)
theorem wp_notNM {Q : D → Sta → Prop} (w : Wp a st fun x st1 => Q (.bl (!x.isN)) st1) : Wp (notNM a) st Q := wp_bind (w.imp fun _ _ h => wp_pure h)
theorem wp_chain {g1 g2 : D → D → Option D} {Q : D → Sta → Prop} (w : Wp a st fun x st1 => Wp b st1 fun y st2 => ∃ t, (g1 x y).bind D.isB = some t ∧ Wp (if t = true then c >>= fun z => M.of (g2 y z) else pure (.bl false)) st2 Q) : Wp (chainM a b c g1 g2) st Q :=
  wp_bind (w.imp fun _ _ h => wp_bind (h.imp fun _ _ h => wp_bind (wp_of h)))
theorem wp_tabI {t : Str → Option D} {neg : Bool} {Q : D → Sta → Prop} (w : Wp a st fun x st1 => ∃ d, tabD t neg x = some d ∧ Q d st1) : Wp (tabI t neg a) st Q := wp_bind (w.imp fun _ _ h => wp_of h)
theorem wp_tabT {t : Str → Option D} {neg : Bool} {Q : Bool → Sta → Prop} (w : Wp a st fun x st1 => ∃ d, (tabD t neg x).bind D.isB = some d ∧ Q d st1) : Wp (tabT t neg a) st Q := wp_bind (w.imp fun _ _ h => wp_of h)
theorem wp_tabX {t : Str → Option D} {Q : D → Sta → Prop} (w : Wp a st fun x st1 => ∃ d, tabV t x = some d ∧ Q d st1) : Wp (tabX t a) st Q := wp_bind (w.imp fun _ _ h => wp_of h)
theorem wp_expr {Q : Fl → Sta → Prop} (w : Wp a st fun _ st1 => Q .next st1) : Wp (exprM a) st Q := wp_bind (w.imp fun _ _ h => wp_pure h)
theorem wp_fldG {cs : List Str} {f : Str} {Q : D → Sta → Prop} (w : Wp a st fun x st1 => ∃ d st2, fldM cs f x st1 = .ok d st2 ∧ Q d st2) : Wp (fldG cs f a) st Q := wp_bind w
theorem wp_fldS {cs : List Str} {f : Str} {Q : Fl → Sta → Prop} (w : Wp a st fun d st1 => Wp mo st1 fun u st2 => ∃ st3, fldSet cs f d u st2 = some st3 ∧ Q .next st3) : Wp (fldS cs f a mo) st Q :=
  wp_bind (w.imp fun d st1 h => wp_bind (h.imp fun u st2 ⟨st3, h1, h2⟩ => ⟨.next, st3, by unfold thenN; rw [h1], h2⟩))
/-- an instance is made and no longer changes -/
theorem wp_mak {c : Str} {mf : Mf} {m : M (List D)} {Q : D → Sta → Prop} (w : Wp m st fun ds st1 => Wf mf (.obj st1.S.length :: ds) (st1.S ++ [.ins c []]) fun d S' => d = .non ∧ ∃ fs, S' = st1.S ++ [.ins c fs] ∧ D.bdf st1.S.length fs = true ∧ Q (.ins c fs) st1) : Wp (makM c mf m) st Q := by
  refine wp_bind (w.imp fun ds st1 ⟨d, S', e, e2, fs, e3, e4, q⟩ => ⟨_, _, ?_, q⟩)
  subst e2
  subst e3
  unfold mkM
  rw [e]
  simp [e4]
theorem wf_eq {f : Mf} {ds : List D} {S S' : List MO} {d : D} {Q : D → List MO → Prop} (e : f ds S = .ok d S') (q : Q d S') : Wf f ds S Q := ⟨d, S', e, q⟩
/-- a property of frozen instances -/
theorem wp_prop {tab : Str → Option Mf} {Q : D → Sta → Prop} (w : Wp a st fun x st1 => ∃ c fs mf d, x = .ins c fs ∧ ("" : Str) ∉ fs.map (·.1) ∧ tab c = some mf ∧ mf [x] st1.S = .ok d st1.S ∧ Q d st1) : Wp (propM tab a) st Q := by
  refine wp_bind (w.imp fun x st1 ⟨c, fs, mf, d, e, h1, h2, h3, q⟩ => ⟨d, st1, ?_, q⟩)
  subst e
  unfold quiet recvM
  have h0 : clsOf (.ins c fs) st1.S = some (c, fs.map (·.1)) := rfl
  simp only [h0, if_neg h1, h2]
  unfold callM
  simp only [h3]
/-- == of a frozen instance -/
theorem wp_eqT {tab : Str → Option Mf} {neg : Bool} {Q : Bool → Sta → Prop} (w : Wp a st fun x st1 => Wp b st1 fun y st2 => ∃ c fs gs mf r, x = .ins c fs ∧ y = .ins c gs ∧ tab c = some mf ∧ mf [x, y] st2.S = .ok (.bl r) st2.S ∧ Q (if neg = true then !r else r) st2) : Wp (eqT tab neg a b) st Q := by
  refine wp_bind (w.imp fun x st1 w => wp_bind (w.imp fun y st2 ⟨c, fs, gs, mf, r, e1, e2, h1, h2, q⟩ => wp_bind ⟨.bl (if neg = true then !r else r), st2, ?_, wp_of ⟨_, rfl, q⟩⟩))
  subst e1
  subst e2
  unfold eqM
  have c1 : clsOf (.ins c fs) st2.S = some (c, fs.map (·.1)) := rfl
  have c2 : clsOf (.ins c gs) st2.S = some (c, gs.map (·.1)) := rfl
  simp only [c1, c2, h1]
  unfold callM
  simp only [h2]
  rfl
theorem wp_eqC {tab : Str → Option Mf} {neg : Bool} {Q : D → Sta → Prop} (w : Wp a st fun x st1 => Wp b st1 fun y st2 => ∃ c fs gs mf r, x = .ins c fs ∧ y = .ins c gs ∧ tab c = some mf ∧ mf [x, y] st2.S = .ok (.bl r) st2.S ∧ Q (.bl (if neg = true then !r else r)) st2) : Wp (eqC tab neg a b) st Q := by
  refine wp_bind (w.imp fun x st1 w => wp_bind (w.imp fun y st2 ⟨c, fs, gs, mf, r, e1, e2, h1, h2, q⟩ => ⟨.bl (if neg = true then !r else r), st2, ?_, q⟩))
  subst e1
  subst e2
  unfold eqM
  have c1 : clsOf (.ins c fs) st2.S = some (c, fs.map (·.1)) := rfl
  have c2 : clsOf (.ins c gs) st2.S = some (c, gs.map (·.1)) := rfl
  simp only [c1, c2, h1]
  unfold callM
  simp only [h2]
  rfl
theorem wp_eqU {tab : Str → Option Mf} {k : Nat} {Q : D → Sta → Prop} (w : Wp a st fun x st1 => Wp b st1 fun y st2 => ∃ xs ys t, x = .tup xs ∧ y = .tup ys ∧ eqL (eqX tab st2.S k) (decide (xs.length = ys.length)) xs ys = some t ∧ Q (.bl t) st2) : Wp (eqUM tab k a b) st Q := by
  refine wp_bind (w.imp fun x st1 w => wp_bind (w.imp fun y st2 ⟨xs, ys, t, e1, e2, h, q⟩ => ?_))
  subst e1
  subst e2
  refine ⟨.bl t, st2, ?_, q⟩
  unfold eqU
  simp only [h]
  rfl
/-- a def whose lists of the store are melted -/
theorem wf_runT {k : Nat} {f : M Fl} {ds : List D} {S : List MO} {Q : D → List MO → Prop} (w : Wp f ⟨slots k ds, S⟩ (Rq fun d S' => ∃ S1 ex xss, S' = S1 ++ ex ∧ S1.length = S.length ∧ (S1.all fun m => m.bd S.length) = true ∧ meltOk S.length ex = some xss ∧ Q (meltD S.length xss d) S1)) : Wf (runT k f) ds S Q := by
  obtain ⟨d, S', e, S1, ex, xss, e2, hl, h1, h2, q⟩ := wf_run w
  subst e2
  refine ⟨meltD S.length xss d, S1, ?_, q⟩
  unfold runT
  rw [e]
  have t1 : (S1 ++ ex).take S.length = S1 := by rw [← hl]; simp
  have t2 : (S1 ++ ex).drop S.length = ex := by rw [← hl]; simp
  simp only [t1, t2, h2]
  rw [if_pos ⟨by simp; omega, h1⟩]
end
end J
end
section
namespace J
open PySem PySem.Spec PyProof.Rows L2
section
variable {X : Cx} {K : PySem.W.Frag} {Z : Ent} {W : WX} {F H : Hp} {A : Fps} {σ : L2.St} {st : Sta} {pos p apos : Pos} {a b c e o : Expr} {es : List Expr} {ma mb mc mo : M D} {x : Str} {n j k : Nat} {m : M (List D)} {f : Addr} {fd : FuncData} {ps : List Str} {mf : Mf}
/-- a class with its own __add__ -/
structure AddC (X : Cx) (k : Nat) (c : Str) (mf : Mf) : Prop where
  ex : ∃ f fd ps j, FnG X.prog X.w X.K X.mg X.base j f fd ps (spM X.K 2 mf) ∧ j ≤ k ∧ Binds X.K fd ps [] ∧ PySem.W.findIn X.K (.ref (He.ga X.K c)) "__add__" = some (some (.ref f)) ∧ PySem.W.isFn X.K (.ref f) = true
  cl : Cls X.K (He.ga X.K c)
  sf : PySem.W.selfFirst X.K (He.ga X.K c) = true
/-- x + y -/
def addI (tab : Str → Option Mf) (x y : D) : M D := fun st => match clsOf x st.S with
  | some (c, _) => (match tab c with
    | some mf => (match clsOf y st.S with
      | some (c', _) => if c' = c then callM mf [x, y] st else .stk
      | none => .stk)
    | none => .stk)
  | none => M.of (dAdd x y) st
def addIM (tab : Str → Option Mf) (a b : M D) : M D := a >>= fun x => b >>= fun y => addI tab x y
theorem je_addI {tab : Str → Option Mf} (ht : ∀ c mf, tab c = some mf → AddC X k c mf) (jc : JC X k W) (ha : PE X a (tM X.K Z W ma)) (hb : PE X b (tM X.K Z W mb)) : PE X (.BinOp a .Add b pos) (tM X.K Z W (addIM tab ma mb)) := by
  refine ⟨fun pins s σ H Q I ⟨F, A, st, R, h⟩ => ?_⟩
  refine wpAny_BinOp (binT ha hb I (two_ R h) fun v u s2 x y H2 I2 rx ry ⟨d, e, F2, A2, st2, R2, r1, r2, m, q⟩ => ?_)
  unfold addI at q
  cases ec : clsOf d st2.S with
  | none =>
    simp only [ec] at q
    obtain ⟨res, e1, q⟩ := of_after q
    exact oj_add Z pins s2 σ H2 F2 A2 st2 x y v u d e res Q I2 R2 rx ry r1 r2 e1 fun v' F' H' R' m' r' => q F' H' A2 R' m' v' r'
  | some ck =>
    obtain ⟨c, ks⟩ := ck
    simp only [ec] at q
    cases et : tab c with
    | none => simp only [et] at q; exact q.elim
    | some mf =>
      simp only [et] at q
      cases ey : clsOf e st2.S with
      | none => simp only [ey] at q; exact q.elim
      | some ck' =>
        obtain ⟨c', ks'⟩ := ck'
        simp only [ey] at q
        by_cases hc : c' = c
        · rw [if_pos hc] at q
          subst hc
          obtain ⟨⟨f, fd, ps, j, G, hj, hb2, hadd, hfn⟩, cl, hsf⟩ := ht c' mf et
          obtain ⟨a1, dx1, vs1, e1, h1, _⟩ := cls_rep R2 r1 ec
          obtain ⟨a2, dx2, vs2, e2, h2, _⟩ := cls_rep R2 r2 ey
          subst e1
          subst e2
          obtain rfl : v = Value.ref a1 := rx
          obtain rfl : u = Value.ref a2 := ry
          have sp := spM_call (n := 2) R2 (Reps.cons r1 (.cons r2 .nil)) rfl q
          obtain ⟨mA1, ob1, _⟩ := ins_get I2.hok h1
          obtain ⟨od1, at1, _⟩ := ob1.look
          obtain ⟨mA2, ob2, _⟩ := ins_get I2.hok h2
          obtain ⟨od2, at2, _⟩ := ob2.look
          obtain ⟨mm, hF⟩ := I2.fr
          refine PySem.W.binop_K (op := .Add) hF I2.ok.mod.kin at1 at2.type hsf hadd hfn ?_
          refine thn (runG (us := [.ref a1, .ref a2]) (vs := [.ref a1, .ref a2]) (dvs := []) (ds := []) G (jc.room.mono hj) jc.g hb2 .nil jc.tk I2 (.cons rfl (.cons rfl .nil)) sp) fun w s3 ⟨v, H3, I3, ru, d', st', F', A', R', m', r', c'⟩ => ?_
          exact SlX.cmpback ru ⟨v, H3, I3, ru, c' v r'⟩
        · rw [if_neg hc] at q
          exact q.elim
def smAd (C m : Str) (K : PySem.W.Frag) : Addr := He5.wf K (He.ga K C) "staticmethod" m
def smB (C m : Str) (K : PySem.W.Frag) : Bool := He5.wrapB K (He.ga K C) "staticmethod" "staticmethod.__get__" m && (PySem.W.readsIn K (He.ga K C) (.type "type") && (He.eqO (PySem.W.specialIn K (.ref (He.ga K C)) "__getattribute__") (some (some (.builtin "type.__getattribute__"))) && PySem.W.keepIn K (.ref (smAd C m K))))
theorem je_sm0 {pl : Sem Bool} {C name : Str} (hs : smB C name X.K = true) (G : FnG X.prog X.w X.K X.mg X.base j (smAd C name X.K) fd ps (spM X.K 0 mf)) (jc : JC X k W) (hj : j ≤ k) (hg : Gl X C) (hm : X.mg C = some (.ref (He.ga X.K C))) (hb : Binds X.K fd ps [])
    (hd : (C == ("__debug__" : Str)) = false := by decide)
    (htr : eval (.Call (.Attribute (.Name C p) name apos) [] [] pos) X.env = (do
      let ov ← eval (.Name C p) X.env
      standAt apos.atName
      let (f, first) ← holding [ov] (getMethod ov name pl)
      callWith pos f first (backTo pos (starEach [] X.env)) (backToKw pos (keywordEach [] X.env))) := by rfl) :
    PE X (.Call (.Attribute (.Name C p) name apos) [] [] pos) (tM X.K Z W (callM mf [])) := by
  obtain ⟨h1, h2⟩ := Bool.and_eq_true_iff.mp hs
  obtain ⟨h2, h3⟩ := Bool.and_eq_true_iff.mp h2
  obtain ⟨h3, h4⟩ := Bool.and_eq_true_iff.mp h3
  obtain ⟨w1, rest, w2⟩ := He5.wrapB_ok h1
  refine ⟨fun pins s σ H Q I ⟨F, A, st, R, h⟩ => PySem.W.methodCall_KW (pl := pl) (ld_glob I hg hm ?_ hd) htr⟩
  refine PySem.W.method_cls I.kIn (He.eqO_ok h3) (PySem.W.cls_bind I.kIn h2 w1 (wpAny_call (PySem.W.sm_get (s := { s with toks := s.toks + 1 }) I.kIn w2 (PySem.W.handed_on rfl ?_))))
  have I1 := I.tok (s.toks + 1)
  refine PySem.W.callWith_K0 (first := []) I1.kIn h4 ?_
  have sp := spM_call (n := 0) R (Reps.nil) rfl h
  refine thn (runG (us := []) (vs := []) (dvs := []) (ds := []) G (jc.room.mono hj) jc.g hb .nil jc.tk I1 .nil sp) fun u s2 ⟨v, H2, I2, ru, d, st', F', A', R', m', r', c'⟩ => ?_
  exact ⟨v, H2, I2, ru, c' v r'⟩
def gLstM (n : Nat) (g : List D → Tg) (d : D) : Tg := match d with
  | .lst l => if l.length = n then g l else fun _ => none
  | _ => fun _ => none
theorem jg_lst {ws : List Nat} {k : Nat} {g : List D → Tg} (hc : X.calm = true) (h : PGs X es (tGs X.K Z ws g))
    (hn : (assignEach es X.env).length = n := by rfl) (hst : (assignEach es X.env).findIdx? (·.1) = none := by rfl) : PG X (.Tuple es k pos) (tG X.K Z ws (gLstM n g)) := PG.wk (pg_unl hc h hn hst) fun v σ H Q ⟨F, A, st, d, st', R, r, e, h⟩ => by
  cases d with
  | lst l =>
    cases r with
    | lst hq rs =>
      have e : (if l.length = n then g l else fun _ => none) st = some st' := e
      by_cases hl : l.length = n
      · rw [if_pos hl] at e
        exact ⟨_, _, rfl, .inl (.inl (R.le _ _ hq)), rs.length.trans hl, F, A, st, l, st', R, rs, e, h⟩
      · rw [if_neg hl] at e
        cases e
  | _ => cases e
def repA : D → Option D
  | .str x => if (reprText x).length ≤ 16777216 ∧ PyData.strOk (reprText x) = true then some (.str (reprText x)) else none
  | .lst l => dRep (.lst l)
  | .tup l => dRep (.tup l)
  | _ => none
def repAM (a : M D) : M D := a >>= fun d => M.of (repA d)
theorem kt_repA (jc : JC X k W) (hg : Gl X "repr") (hm : X.mg "repr" = none) (ha : PE X a (tM X.K Z W ma)) (hv : bootBuiltins "repr" = some (.builtin "repr") := by rfl) (he : starEach [a] X.env = (false, eval a X.env) :: starEach [] X.env := by rfl) :
    PE X (.Call (.Name "repr" p) [a] [] pos) (tM X.K Z W (repAM ma)) := by
  refine PE.wk (pe_callB (r := fun xs H Q => (∃ y, xs = [V.str y] ∧ (reprText y).length ≤ 16777216 ∧ Q (.str (reprText y)) H) ∨ ∃ q l d, xs = [V.ref q] ∧ Dp X.K H (.ref q) d ∧ d.showable = true ∧ d.depth ≤ 40 ∧ d.shown.length ≤ 16777216 ∧ d.hasDict = false ∧ l = d.shown ∧ Q (.str l) H) (fun pins s σ H xs us Q I rv hq => ?_) hg hm hv (pa_cons ha pa_nil he) (by decide) (by decide) he) fun σ H Q ⟨F, A, st, R, h⟩ => ?_
  · rcases hq with ⟨y, e1, h1, hq⟩ | ⟨q, l, d, e1, dp, h1, h2, h3, h4, e2, hq⟩
    · subst e1
      obtain ⟨u, rfl, ru⟩ := rv.one
      obtain ⟨t, rfl⟩ := ru
      exact PySem.P.repr_of_str ⟨.str _, H, I.tok _, ⟨_, rfl⟩, hq⟩ (by rw [sizeLine_eq]; exact h1)
    · subst e1
      subst e2
      obtain ⟨u, rfl, ru⟩ := rv.one
      cases ru
      obtain ⟨as, hr⟩ := Dp.reads I d (.ref q) (.ref q) dp rfl
      have hu := jc.room.units
      refine repr_of_reads' hr h1 (fun z => by rw [h4] at z; cases z) jc.g (by omega) (fun _ _ z => z) (fun h' u tk hk => ?_) (by rw [sizeLine_eq]; exact h3)
      exact ⟨.str _, H, I.kept hk, ⟨u, rfl⟩, hq⟩
  · refine ⟨F, A, st, R, h.bind.imp fun d st1 F1 H1 A1 R1 m1 z v r => ?_⟩
    obtain ⟨res, eg, z⟩ := of_after z
    have go : dRep d = some res → (∃ q, v = V.ref q) → ∃ q l d, [v] = [V.ref q] ∧ Dp X.K H1 (.ref q) d ∧ d.showable = true ∧ d.depth ≤ 40 ∧ d.shown.length ≤ 16777216 ∧ d.hasDict = false ∧ l = d.shown ∧ Q (.str l) H1 := fun eg ⟨q, ev⟩ => by
      subst ev
      obtain ⟨dd, e1, e2⟩ := Option.bind_eq_some_iff.mp eg
      by_cases hc : dd.showable = true ∧ dd.depth ≤ 40 ∧ dd.shown.length ≤ 16777216 ∧ PyData.strOk dd.shown = true ∧ dd.hasDict = false
      · rw [if_pos hc] at e2
        cases e2
        obtain ⟨dp, _⟩ := r.dp R1.le e1
        exact ⟨q, _, dd, rfl, dp, hc.1, hc.2.1, hc.2.2.1, hc.2.2.2.2, rfl, z F1 H1 A1 R1 .refl _ (.str hc.2.2.2.1)⟩
      · rw [if_neg hc] at e2
        cases e2
    cases r with
    | tup h t => exact .inr (go eg ⟨_, rfl⟩)
    | lst h t => exact .inr (go eg ⟨_, rfl⟩)
    | str hz =>
      rename_i x
      have eg : (if (reprText x).length ≤ 16777216 ∧ PyData.strOk (reprText x) = true then some (D.str (reprText x)) else none) = some res := eg
      by_cases hc : (reprText x).length ≤ 16777216 ∧ PyData.strOk (reprText x) = true
      · rw [if_pos hc] at eg
        cases eg
        exact .inl ⟨x, rfl, hc.1, z F1 H1 A1 R1 .refl _ (.str hc.2)⟩
      · rw [if_neg hc] at eg
        cases eg
    | _ => cases eg
def dSplitM (x : D) : List D → Option (List D)
  | [.str b] => (match x with
    | .str a => if (TL.tl b ≠ [] ∧ ((TL.tl b).all fun c => decide (c < 256)) = true) ∧ a.length + 2 ≤ 16777216 then some ((TL.spl (TL.tl b) 0 [] (TL.tl a)).map fun l => .str ⟨l.toArray⟩) else none
    | _ => none)
  | _ => none
theorem mj_splitM : MtR X "str.split" (rMtN X.K dSplitM) := by
  rintro pins s σ H x xs v us Q I rx r ⟨Z, F, A, σ', st, d, ds, res, R, r1, rs, eg, q⟩
  match ds, rs, eg with
  | [.str b], .cons (.str h) .nil, eg =>
    cases d with
    | str a =>
      cases r1 with
      | str h1 =>
        obtain ⟨⟨⟨hne, h256⟩, hc⟩, rfl⟩ := if_some (show (if (TL.tl b ≠ [] ∧ ((TL.tl b).all fun c => decide (c < 256)) = true) ∧ a.length + 2 ≤ 16777216 then some ((TL.spl (TL.tl b) 0 [] (TL.tl a)).map fun l => D.str ⟨l.toArray⟩) else none) = some res from eg)
        have hb1 : (b.length == 0) = false := by
          rw [TL.len_tl]
          cases e : TL.tl b with
          | nil => exact absurd e hne
          | cons _ _ => rfl
        have hk : b.cps.all (· < 256) = true := by
          rw [← Array.all_toList]
          exact h256
        have hs := TL.split_spl a b hne (TL.kind_ok hk)
        have ha := strOk_iff.mp h1
        refine mt_split pins s σ H _ _ v us Q I rx r ⟨a, b, rfl, rfl, hb1, by rw [sizeLine_eq]; exact hc, fun p hp => ?_⟩
        have em : (TL.spl (TL.tl b) 0 [] (TL.tl a)).map (fun l => D.str ⟨l.toArray⟩) = (Txt.split a b).map D.str := by
          rw [← map_mk hs, List.map_map]
          rfl
        rw [em] at q
        have ok : ∀ z ∈ Txt.split a b, PyData.strOk z = true := fun z hz => by
          refine strOk_iff.mpr fun y hy => ?_
          have hm : TL.tl z ∈ TL.spl (TL.tl b) 0 [] (TL.tl a) := by
            rw [← hs]
            exact List.mem_map_of_mem hz
          rcases spl_sub _ _ _ _ _ hm y hy with w | w
          · cases w
          · exact ha y w
        obtain ⟨R2, lo⟩ := R.loose hp (strs_rep X.K A F ok)
        exact q p _ _ R2 lo
    | _ => cases eg
end
section
variable {st : Sta} {a b : M D} {n : Nat} {tab : Str → Option Mf} {mf : Mf} {c : Str} {fs : List (Str × D)}
theorem wp_repA {Q : D → Sta → Prop} (w : Wp a st fun x st1 => ∃ d, repA x = some d ∧ Q d st1) : Wp (repAM a) st Q := wp_bind (w.imp fun _ _ h => wp_of h)
theorem wp_addI {Q : D → Sta → Prop} (w : Wp a st fun x st1 => Wp b st1 fun y st2 => ∃ c fs gs mf, x = .ins c fs ∧ y = .ins c gs ∧ tab c = some mf ∧ Wf mf [x, y] st2.S fun d S => Q d { st2 with S := S }) : Wp (addIM tab a b) st Q := wp_bind (w.imp fun x st1 w => wp_bind (w.imp fun y st2 ⟨c, fs, gs, mf, e1, e2, e3, w⟩ => by
  subst e1
  subst e2
  obtain ⟨d, st3, e4, q⟩ := wp_call w
  refine ⟨d, st3, ?_, q⟩
  unfold addI
  simp only [clsOf, e3, if_true]
  exact e4))
theorem wp_meth {name : Str} {l : M (List D)} {Q : D → Sta → Prop} (w : Wp a st fun x st1 => ∃ c fs mf, x = .ins c fs ∧ name ∉ fs.map (·.1) ∧ tab c = some mf ∧ Wp l st1 fun ds st2 => Wf mf (x :: ds) st2.S fun d S => Q d { st2 with S := S }) : Wp (methM tab name a l) st Q := wp_bind (w.imp fun x st1 ⟨c, fs, mf, e1, e2, e3, w⟩ => by
  subst e1
  refine wp_bind ⟨c, st1, ?_, wp_bind (w.imp fun ds st2 w => ?_)⟩
  · unfold askM
    simp only [clsOf, e3]
    rw [if_neg e2]
  · unfold tabM
    rw [e3]
    exact wp_call w)
end
end J
end
section
namespace J
open PySem PySem.Spec PyProof.Rows L2
def seeK (n : Nat) (fa : List He.Fa) (ts : List He.Tab) (fn : List DfJ) (xs : List (PySem.W.Frag → Bool)) (g : Addr → Option Obj) : AlJ := lookJ fa ts fn xs (He.frG g ((asB g n).2.1 ++ [cStatics]))
def hookK (n : Nat) (fa : List He.Fa) (ts : List He.Tab) (fn : List DfJ) (xs : List (PySem.W.Frag → Bool)) : PySem.W.Hook where
  α := AlJ
  obs := fun s => seeK n fa ts fn xs s.heap.get?
  val := fun w => valJ ts fn w
  says := fun w h => ∃ K : PySem.W.Frag, K.In h ∧ lookJ fa ts fn xs K = valJ ts fn w
  of := fun _ _ e => ⟨_, He.frG_in, e⟩
  keeps := fun _ _ _ ⟨K, hK, c⟩ k => ⟨K, PySem.W.Frag.In.keeps hK k, c⟩
theorem seeK_eq {n : Nat} {fa : List He.Fa} {ts : List He.Tab} {fn : List DfJ} {xs : List (PySem.W.Frag → Bool)} (s : PySem.W.SharedT) : seeK n fa ts fn xs (HandSHeadRun.getT s) = (hookK n fa ts fn xs).obs s.abs := by
  have e : HandSHeadRun.getT s = s.abs.heap.get? := funext fun a => HandSHeadRun.getT_eq s a
  rw [e]
  rfl
end J
end
section
namespace Law
open PySem PySem.Spec PyProof.Rows L2 J
def top (i : Nat) : Stmt := PySem.Challenge.pw_partsjoined_k75_whole_texts_led.main.body.getD i (.Pass ⟨0, 0, 0, 0⟩)
abbrev s_is_word : Stmt := top 19
def e_is_word : DfJ := ⟨fun K => He.ga K "is_word", "is_word", "is_word", defArgs s_is_word, defBody s_is_word, defScope s_is_word⟩
abbrev s_are_outcomes : Stmt := top 30
def e_are_outcomes : DfJ := ⟨fun K => He.ga K "are_outcomes", "are_outcomes", "are_outcomes", defArgs s_are_outcomes, defBody s_are_outcomes, defScope s_are_outcomes⟩
abbrev s_is_whole : Stmt := top 15
def e_is_whole : DfJ := ⟨fun K => He.ga K "is_whole", "is_whole", "is_whole", defArgs s_is_whole, defBody s_is_whole, defScope s_is_whole⟩
abbrev s_is_within_kinds : Stmt := top 16
def e_is_within_kinds : DfJ := ⟨fun K => He.ga K "is_within_kinds", "is_within", "is_within", defArgs s_is_within_kinds, defBody s_is_within_kinds, defScope s_is_within_kinds⟩
abbrev s_go_error : Stmt := top 33
def e_go_error : DfJ := ⟨fun K => He.ga K "go_error", "go_error", "go_error", defArgs s_go_error, defBody s_go_error, defScope s_go_error⟩
abbrev s_is_piece : Stmt := top 27
def e_is_piece : DfJ := ⟨fun K => He.ga K "is_piece", "is_piece", "is_piece", defArgs s_is_piece, defBody s_is_piece, defScope s_is_piece⟩
abbrev s_is_edition : Stmt := top 29
def e_is_edition : DfJ := ⟨fun K => He.ga K "is_edition", "is_edition", "is_edition", defArgs s_is_edition, defBody s_is_edition, defScope s_is_edition⟩
abbrev s_join_error : Stmt := top 32
def e_join_error : DfJ := ⟨fun K => He.ga K "join_error", "join_error", "join_error", defArgs s_join_error, defBody s_join_error, defScope s_join_error⟩
abbrev s_is_part : Stmt := top 28
def e_is_part : DfJ := ⟨fun K => He.ga K "is_part", "is_part", "is_part", defArgs s_is_part, defBody s_is_part, defScope s_is_part⟩
abbrev s_lay_error : Stmt := top 31
def e_lay_error : DfJ := ⟨fun K => He.ga K "lay_error", "lay_error", "lay_error", defArgs s_lay_error, defBody s_lay_error, defScope s_lay_error⟩
abbrev s_step_error : Stmt := top 34
def e_step_error : DfJ := ⟨fun K => He.ga K "step_error", "step_error", "step_error", defArgs s_step_error, defBody s_step_error, defScope s_step_error⟩
abbrev s_Programu_initu : Stmt := inClass (top 36) 0
def e_Programu_initu : DfJ := ⟨fun K => He.ma K (He.ga K "Program") "__init__", "__init__", "Program.__init__", defArgs s_Programu_initu, defBody s_Programu_initu, defScope s_Programu_initu⟩
abbrev s_are_programs : Stmt := top 38
def e_are_programs : DfJ := ⟨fun K => He.ga K "are_programs", "are_programs", "are_programs", defArgs s_are_programs, defBody s_are_programs, defScope s_are_programs⟩
abbrev s_are_wishes : Stmt := top 39
def e_are_wishes : DfJ := ⟨fun K => He.ga K "are_wishes", "are_wishes", "are_wishes", defArgs s_are_wishes, defBody s_are_wishes, defScope s_are_wishes⟩
abbrev s_Caseu_initu : Stmt := inClass (top 40) 0
def e_Caseu_initu : DfJ := ⟨fun K => He.ma K (He.ga K "Case") "__init__", "__init__", "Case.__init__", defArgs s_Caseu_initu, defBody s_Caseu_initu, defScope s_Caseu_initu⟩
abbrev s_Faultsu_initu : Stmt := inClass (top 22) 0
def e_Faultsu_initu : DfJ := ⟨fun K => He.ma K (He.ga K "Faults") "__init__", "__init__", "Faults.__init__", defArgs s_Faultsu_initu, defBody s_Faultsu_initu, defScope s_Faultsu_initu⟩
abbrev s__law_case : Stmt := top 82
def e__law_case : DfJ := ⟨fun K => He.ga K "_law_case", "_law_case", "_law_case", defArgs s__law_case, defBody s__law_case, defScope s__law_case⟩
abbrev s__law_next : Stmt := top 73
def e__law_next : DfJ := ⟨fun K => He.ga K "_law_next", "_law_next", "_law_next", defArgs s__law_next, defBody s__law_next, defScope s__law_next⟩
abbrev s__law_edition : Stmt := top 75
def e__law_edition : DfJ := ⟨fun K => He.ga K "_law_edition", "_law_edition", "_law_edition", defArgs s__law_edition, defBody s__law_edition, defScope s__law_edition⟩
abbrev s__law_outcomes : Stmt := top 76
def e__law_outcomes : DfJ := ⟨fun K => He.ga K "_law_outcomes", "_law_outcomes", "_law_outcomes", defArgs s__law_outcomes, defBody s__law_outcomes, defScope s__law_outcomes⟩
abbrev s__law_step : Stmt := top 77
def e__law_step : DfJ := ⟨fun K => He.ga K "_law_step", "_law_step", "_law_step", defArgs s__law_step, defBody s__law_step, defScope s__law_step⟩
abbrev s__law_usual : Stmt := top 78
def e__law_usual : DfJ := ⟨fun K => He.ga K "_law_usual", "_law_usual", "_law_usual", defArgs s__law_usual, defBody s__law_usual, defScope s__law_usual⟩
abbrev s__law_within : Stmt := top 79
def e__law_within : DfJ := ⟨fun K => He.ga K "_law_within", "_law_within", "_law_within", defArgs s__law_within, defBody s__law_within, defScope s__law_within⟩
abbrev s__law_steps : Stmt := top 80
def e__law_steps : DfJ := ⟨fun K => He.ga K "_law_steps", "_law_steps", "_law_steps", defArgs s__law_steps, defBody s__law_steps, defScope s__law_steps⟩
abbrev s__law_data : Stmt := top 81
def e__law_data : DfJ := ⟨fun K => He.ga K "_law_data", "_law_data", "_law_data", defArgs s__law_data, defBody s__law_data, defScope s__law_data⟩
abbrev s__law_deck : Stmt := top 72
def e__law_deck : DfJ := ⟨fun K => He.ga K "_law_deck", "_law_deck", "_law_deck", defArgs s__law_deck, defBody s__law_deck, defScope s__law_deck⟩
abbrev s__law_moved : Stmt := top 85
def e__law_moved : DfJ := ⟨fun K => He.ga K "_law_moved", "_law_moved", "_law_moved", defArgs s__law_moved, defBody s__law_moved, defScope s__law_moved⟩
abbrev s_Faultsu_equ : Stmt := inClass (top 22) 10
def e_Faultsu_equ : DfJ := ⟨fun K => He.ma K (He.ga K "Faults") "__eq__", "__eq__", "Faults.__eq__", defArgs s_Faultsu_equ, defBody s_Faultsu_equ, defScope s_Faultsu_equ⟩
abbrev s_Programu_equ : Stmt := inClass (top 36) 6
def e_Programu_equ : DfJ := ⟨fun K => He.ma K (He.ga K "Program") "__eq__", "__eq__", "Program.__eq__", defArgs s_Programu_equ, defBody s_Programu_equ, defScope s_Programu_equ⟩
abbrev s_Caseu_equ : Stmt := inClass (top 40) 5
def e_Caseu_equ : DfJ := ⟨fun K => He.ma K (He.ga K "Case") "__eq__", "__eq__", "Case.__eq__", defArgs s_Caseu_equ, defBody s_Caseu_equ, defScope s_Caseu_equ⟩
abbrev s__law_pair_right : Stmt := top 86
def e__law_pair_right : DfJ := ⟨fun K => He.ga K "_law_pair_right", "_law_pair_right", "_law_pair_right", defArgs s__law_pair_right, defBody s__law_pair_right, defScope s__law_pair_right⟩
abbrev s__law_plain : Stmt := top 84
def e__law_plain : DfJ := ⟨fun K => He.ga K "_law_plain", "_law_plain", "_law_plain", defArgs s__law_plain, defBody s__law_plain, defScope s__law_plain⟩
abbrev s__law_same : Stmt := top 74
def e__law_same : DfJ := ⟨fun K => He.ga K "_law_same", "_law_same", "_law_same", defArgs s__law_same, defBody s__law_same, defScope s__law_same⟩
abbrev s__law_words : Stmt := top 83
def e__law_words : DfJ := ⟨fun K => He.ga K "_law_words", "_law_words", "_law_words", defArgs s__law_words, defBody s__law_words, defScope s__law_words⟩
abbrev s_step_words : Stmt := top 53
def e_step_words : DfJ := ⟨fun K => He.ga K "step_words", "step_words", "step_words", defArgs s_step_words, defBody s_step_words, defScope s_step_words⟩
abbrev s_Program_steps : Stmt := inClass (top 36) 1
def e_Program_steps : DfJ := ⟨proAd "Program" "steps", "steps", "Program.steps", defArgs s_Program_steps, defBody s_Program_steps, defScope s_Program_steps⟩
abbrev s_program_text : Stmt := top 54
def e_program_text : DfJ := ⟨fun K => He.ga K "program_text", "program_text", "program_text", defArgs s_program_text, defBody s_program_text, defScope s_program_text⟩
abbrev s_Faults_falls : Stmt := inClass (top 22) 4
def e_Faults_falls : DfJ := ⟨proAd "Faults" "falls", "falls", "Faults.falls", defArgs s_Faults_falls, defBody s_Faults_falls, defScope s_Faults_falls⟩
abbrev s_Case_faults : Stmt := inClass (top 40) 2
def e_Case_faults : DfJ := ⟨proAd "Case" "faults", "faults", "Case.faults", defArgs s_Case_faults, defBody s_Case_faults, defScope s_Case_faults⟩
abbrev s_Case_fresh : Stmt := inClass (top 40) 4
def e_Case_fresh : DfJ := ⟨proAd "Case" "fresh", "fresh", "Case.fresh", defArgs s_Case_fresh, defBody s_Case_fresh, defScope s_Case_fresh⟩
abbrev s_Faults_late : Stmt := inClass (top 22) 3
def e_Faults_late : DfJ := ⟨proAd "Faults" "late", "late", "Faults.late", defArgs s_Faults_late, defBody s_Faults_late, defScope s_Faults_late⟩
abbrev s_Faults_lost : Stmt := inClass (top 22) 2
def e_Faults_lost : DfJ := ⟨proAd "Faults" "lost", "lost", "Faults.lost", defArgs s_Faults_lost, defBody s_Faults_lost, defScope s_Faults_lost⟩
abbrev s_Case_programs : Stmt := inClass (top 40) 1
def e_Case_programs : DfJ := ⟨proAd "Case" "programs", "programs", "Case.programs", defArgs s_Case_programs, defBody s_Case_programs, defScope s_Case_programs⟩
abbrev s_Faults_sweeps : Stmt := inClass (top 22) 5
def e_Faults_sweeps : DfJ := ⟨proAd "Faults" "sweeps", "sweeps", "Faults.sweeps", defArgs s_Faults_sweeps, defBody s_Faults_sweeps, defScope s_Faults_sweeps⟩
abbrev s_Case_wishes : Stmt := inClass (top 40) 3
def e_Case_wishes : DfJ := ⟨proAd "Case" "wishes", "wishes", "Case.wishes", defArgs s_Case_wishes, defBody s_Case_wishes, defScope s_Case_wishes⟩
abbrev s_case_text : Stmt := top 55
def e_case_text : DfJ := ⟨fun K => He.ga K "case_text", "case_text", "case_text", defArgs s_case_text, defBody s_case_text, defScope s_case_text⟩
abbrev s_blocks_of : Stmt := top 69
def e_blocks_of : DfJ := ⟨fun K => He.ga K "blocks_of", "blocks_of", "blocks_of", defArgs s_blocks_of, defBody s_blocks_of, defScope s_blocks_of⟩
abbrev s_number_of : Stmt := top 58
def e_number_of : DfJ := ⟨fun K => He.ga K "number_of", "number_of", "number_of", defArgs s_number_of, defBody s_number_of, defScope s_number_of⟩
abbrev s_numbers_of : Stmt := top 59
def e_numbers_of : DfJ := ⟨fun K => He.ga K "numbers_of", "numbers_of", "numbers_of", defArgs s_numbers_of, defBody s_numbers_of, defScope s_numbers_of⟩
abbrev s_faults_of : Stmt := top 66
def e_faults_of : DfJ := ⟨fun K => He.ga K "faults_of", "faults_of", "faults_of", defArgs s_faults_of, defBody s_faults_of, defScope s_faults_of⟩
abbrev s_need : Stmt := top 65
def e_need : DfJ := ⟨fun K => He.ga K "need", "need", "need", defArgs s_need, defBody s_need, defScope s_need⟩
abbrev s_wish_of : Stmt := top 67
def e_wish_of : DfJ := ⟨fun K => He.ga K "wish_of", "wish_of", "wish_of", defArgs s_wish_of, defBody s_wish_of, defScope s_wish_of⟩
abbrev s_head_of : Stmt := top 68
def e_head_of : DfJ := ⟨fun K => He.ga K "head_of", "head_of", "head_of", defArgs s_head_of, defBody s_head_of, defScope s_head_of⟩
abbrev s_join_of : Stmt := top 60
def e_join_of : DfJ := ⟨fun K => He.ga K "join_of", "join_of", "join_of", defArgs s_join_of, defBody s_join_of, defScope s_join_of⟩
abbrev s_step_of : Stmt := top 61
def e_step_of : DfJ := ⟨fun K => He.ga K "step_of", "step_of", "step_of", defArgs s_step_of, defBody s_step_of, defScope s_step_of⟩
abbrev s_steps_of : Stmt := top 62
def e_steps_of : DfJ := ⟨fun K => He.ga K "steps_of", "steps_of", "steps_of", defArgs s_steps_of, defBody s_steps_of, defScope s_steps_of⟩
abbrev s_words_of : Stmt := top 56
def e_words_of : DfJ := ⟨fun K => He.ga K "words_of", "words_of", "words_of", defArgs s_words_of, defBody s_words_of, defScope s_words_of⟩
abbrev s_rows_of : Stmt := top 57
def e_rows_of : DfJ := ⟨fun K => He.ga K "rows_of", "rows_of", "rows_of", defArgs s_rows_of, defBody s_rows_of, defScope s_rows_of⟩
abbrev s_told_rows : Stmt := top 63
def e_told_rows : DfJ := ⟨fun K => He.ga K "told_rows", "told_rows", "told_rows", defArgs s_told_rows, defBody s_told_rows, defScope s_told_rows⟩
abbrev s_read_case : Stmt := top 70
def e_read_case : DfJ := ⟨fun K => He.ga K "read_case", "read_case", "read_case", defArgs s_read_case, defBody s_read_case, defScope s_read_case⟩
abbrev s_read_program : Stmt := top 64
def e_read_program : DfJ := ⟨fun K => He.ga K "read_program", "read_program", "read_program", defArgs s_read_program, defBody s_read_program, defScope s_read_program⟩
abbrev s_moved : Stmt := top 35
def e_moved : DfJ := ⟨fun K => He.ga K "moved", "moved", "moved", defArgs s_moved, defBody s_moved, defScope s_moved⟩
abbrev s_Programu_addu : Stmt := inClass (top 36) 8
def e_Programu_addu : DfJ := ⟨fun K => He.ma K (He.ga K "Program") "__add__", "__add__", "Program.__add__", defArgs s_Programu_addu, defBody s_Programu_addu, defScope s_Programu_addu⟩
abbrev s_Faults_none : Stmt := inClass (top 22) 1
def e_Faults_none : DfJ := ⟨smAd "Faults" "none", "none", "Faults.none", defArgs s_Faults_none, defBody s_Faults_none, defScope s_Faults_none⟩
abbrev s_Case_with_faults : Stmt := inClass (top 40) 8
def e_Case_with_faults : DfJ := ⟨fun K => He.ma K (He.ga K "Case") "with_faults", "with_faults", "Case.with_faults", defArgs s_Case_with_faults, defBody s_Case_with_faults, defScope s_Case_with_faults⟩
abbrev s_is_index : Stmt := top 18
def e_is_index : DfJ := ⟨fun K => He.ga K "is_index", "is_index", "is_index", defArgs s_is_index, defBody s_is_index, defScope s_is_index⟩
abbrev s_Case_with_program : Stmt := inClass (top 40) 7
def e_Case_with_program : DfJ := ⟨fun K => He.ma K (He.ga K "Case") "with_program", "with_program", "Case.with_program", defArgs s_Case_with_program, defBody s_Case_with_program, defScope s_Case_with_program⟩
abbrev s_Program_with_step : Stmt := inClass (top 36) 9
def e_Program_with_step : DfJ := ⟨fun K => He.ma K (He.ga K "Program") "with_step", "with_step", "Program.with_step", defArgs s_Program_with_step, defBody s_Program_with_step, defScope s_Program_with_step⟩
abbrev s_Case_with_wishes : Stmt := inClass (top 40) 9
def e_Case_with_wishes : DfJ := ⟨fun K => He.ma K (He.ga K "Case") "with_wishes", "with_wishes", "Case.with_wishes", defArgs s_Case_with_wishes, defBody s_Case_with_wishes, defScope s_Case_with_wishes⟩
abbrev s_law : Stmt := top 87
def e_law : DfJ := ⟨fun K => He.ga K "law", "law", "law", defArgs s_law, defBody s_law, defScope s_law⟩
def fn : List DfJ := [e_is_word, e_are_outcomes, e_is_whole, e_is_within_kinds, e_go_error, e_is_piece, e_is_edition, e_join_error, e_is_part, e_lay_error, e_step_error, e_Programu_initu, e_are_programs, e_are_wishes, e_Caseu_initu, e_Faultsu_initu, e__law_case, e__law_next, e__law_edition, e__law_outcomes, e__law_step, e__law_usual, e__law_within, e__law_steps, e__law_data, e__law_deck, e__law_moved, e_Faultsu_equ, e_Programu_equ, e_Caseu_equ, e__law_pair_right, e__law_plain, e__law_same, e__law_words, e_step_words, e_Program_steps, e_program_text, e_Faults_falls, e_Case_faults, e_Case_fresh, e_Faults_late, e_Faults_lost, e_Case_programs, e_Faults_sweeps, e_Case_wishes, e_case_text, e_blocks_of, e_number_of, e_numbers_of, e_faults_of, e_need, e_wish_of, e_head_of, e_join_of, e_step_of, e_steps_of, e_words_of, e_rows_of, e_told_rows, e_read_case, e_read_program, e_moved, e_Programu_addu, e_Faults_none, e_Case_with_faults, e_is_index, e_Case_with_program, e_Program_with_step, e_Case_with_wishes, e_law]
def glaw : Nat := 96
def fa : List He.Fa := [.glo "_law_deck", .free "range", .glo "_law_steps", .mkr "Program", .glo "Program", .glo "program_text", .free "len", .glo "_law_step", .glo "_law_next", .glo "_law_words", .glo "_law_same", .glo "_law_moved", .free "tuple", .glo "_law_plain", .glo "read_program", .glo "_law_pair_right", .glo "_law_data", .glo "_law_case", .glo "case_text", .glo "Faults", .glo "read_case", .free "isinstance", .int "MAX_STEPS" 12, .free "enumerate", .glo "step_error", .free "str", .glo "ITEMS", .glo "lay_error", .glo "join_error", .glo "go_error", .glo "is_within_kinds", .glo "are_outcomes", .glo "OUTCOMES", .glo "is_word", .free "all", .glo "is_whole", .free "int", .free "bool", .glo "is_edition", .glo "WHENS", .int "MAX_PARTS" 3, .glo "is_piece", .glo "is_part", .mkr "Faults", .mkr "Case", .glo "Case", .glo "are_programs", .glo "are_wishes", .int "MAX_WISHES" 4, .free "zip", .int "MAX_FAULT" 3, .glo "_law_edition", .free "min", .free "sorted", .free "set", .glo "_law_usual", .glo "_law_within", .glo "_law_outcomes", .free "abs", .free "repr", .free "list", .glo "step_words", .glo "told_rows", .glo "HAND", .free "max", .glo "head_of", .glo "blocks_of", .glo "need", .glo "steps_of", .glo "NUMBERS", .glo "faults_of", .glo "wish_of", .glo "numbers_of", .glo "number_of", .str "DIGITS" "0123456789", .glo "step_of", .glo "join_of", .glo "CHECKS", .glo "rows_of", .glo "words_of", .glo "moved", .glo "is_index", .cls "Faults", .noat "Faults" "four", .cls "Case", .noat "Case" "four", .cls "Program", .noat "Program" "listed", .meth "Case" "__eq__", .meth "Faults" "__eq__", .meth "Program" "__eq__", .meth "Program" "__add__", .meth "Case" "with_faults", .meth "Case" "with_program", .meth "Program" "with_step", .meth "Case" "with_wishes", .glo "law"]
def ts : List He.Tab := [((fun K => He.ga K "ITEMS"), ["begin", "lay", "join", "throw", "look", "find", "go"]), ((fun K => He.ga K "NUMBERS"), ["fresh", "again"]), ((fun K => He.ga K "CHECKS"), ["checked", "unchecked"])]
def xs : List (PySem.W.Frag → Bool) := [smB "Faults" "none", fun K => He.valsB K (He.ga K "ITEMS") [("begin", He.Dv.int 1), ("lay", He.Dv.int 3), ("join", He.Dv.int 4), ("throw", He.Dv.int 1), ("look", He.Dv.int 1), ("find", He.Dv.int 1), ("go", He.Dv.int 3)], fun K => He.tupB K "OUTCOMES" ((["ok", "no", "lost"] : List Str).map He.Dv.str), fun K => He.tupB K "WHENS" ((["any", "none", "same"] : List Str).map He.Dv.str), fun K => He.lstB K "HAND" ((["hand"] : List Str).map He.Dv.str), fun K => He.valsB K (He.ga K "NUMBERS") [("fresh", He.Dv.bl true), ("again", He.Dv.bl false)], fun K => He.valsB K (He.ga K "CHECKS") [("checked", He.Dv.bl true), ("unchecked", He.Dv.bl false)], tyB "Case", kitB2 "Case" "Case" true, tyB "Faults", kitB2 "Faults" "Faults" true, tyB "Program", kitB2 "Program" "Program" true, neB "Case", neB "Faults", neB "Program", fun K => PySem.W.selfFirst K (He.ga K "Program"), proB "Faults" "falls", proB "Case" "faults", proB "Case" "fresh", proB "Faults" "late", proB "Faults" "lost", proB "Case" "programs", proB "Program" "steps", proB "Faults" "sweeps", proB "Case" "wishes"]
def lt_ITEMS : List (Str × He.Dv × D) := [("begin", .int 1, .int 1), ("lay", .int 3, .int 3), ("join", .int 4, .int 4), ("throw", .int 1, .int 1), ("look", .int 1, .int 1), ("find", .int 1, .int 1), ("go", .int 3, .int 3)]
def tab_ITEMS : Str → Option D := tabL lt_ITEMS
def lt_NUMBERS : List (Str × He.Dv × D) := [("fresh", .bl true, .bl true), ("again", .bl false, .bl false)]
def tab_NUMBERS : Str → Option D := tabL lt_NUMBERS
def lt_CHECKS : List (Str × He.Dv × D) := [("checked", .bl true, .bl true), ("unchecked", .bl false, .bl false)]
def tab_CHECKS : Str → Option D := tabL lt_CHECKS
--TABS
section
variable {P : Program} {w : World} {K : PySem.W.Frag} {mg : Str → Option Value} {base : Heap}
theorem fc_four (C : Ct fa ts fn xs w K mg) : ∀ c ∈ [("Faults" : Str), ("Case" : Str)], FldC K c "four" := fun c h => by
  simp only [List.mem_cons, List.not_mem_nil, or_false] at h
  rcases h with rfl | rfl
  · exact ⟨He.cls_ok (C.fact 82), He.noat_ok (C.fact 83)⟩
  · exact ⟨He.cls_ok (C.fact 84), He.noat_ok (C.fact 85)⟩
theorem fc_listed (C : Ct fa ts fn xs w K mg) : ∀ c ∈ [("Program" : Str)], FldC K c "listed" := fun c h => by
  simp only [List.mem_cons, List.not_mem_nil, or_false] at h
  rcases h with rfl
  · exact ⟨He.cls_ok (C.fact 86), He.noat_ok (C.fact 87)⟩
def it_Case (c : Str) : Option Bool := if c = "Case" then some true else none
theorem io_Case (C : Ct fa ts fn xs w K mg) : ∀ c b, it_Case c = some b → TyC K c ∧ PySem.W.kitOne K (.ref (He.ga K c)) (.ref (He.ga K "Case")) = some b := fun c b h => by
  unfold it_Case at h
  split at h
  · rename_i e
    cases h
    subst e
    exact ⟨tyB_ok (He.cls_ok (C.fact 84)) (C.chk 7), of_decide_eq_true (C.chk 8 (f := kitB2 "Case" "Case" true))⟩
  · cases h
def it_Faults (c : Str) : Option Bool := if c = "Faults" then some true else none
theorem io_Faults (C : Ct fa ts fn xs w K mg) : ∀ c b, it_Faults c = some b → TyC K c ∧ PySem.W.kitOne K (.ref (He.ga K c)) (.ref (He.ga K "Faults")) = some b := fun c b h => by
  unfold it_Faults at h
  split at h
  · rename_i e
    cases h
    subst e
    exact ⟨tyB_ok (He.cls_ok (C.fact 82)) (C.chk 9), of_decide_eq_true (C.chk 10 (f := kitB2 "Faults" "Faults" true))⟩
  · cases h
def it_Program (c : Str) : Option Bool := if c = "Program" then some true else none
theorem io_Program (C : Ct fa ts fn xs w K mg) : ∀ c b, it_Program c = some b → TyC K c ∧ PySem.W.kitOne K (.ref (He.ga K c)) (.ref (He.ga K "Program")) = some b := fun c b h => by
  unfold it_Program at h
  split at h
  · rename_i e
    cases h
    subst e
    exact ⟨tyB_ok (He.cls_ok (C.fact 86)) (C.chk 11), of_decide_eq_true (C.chk 12 (f := kitB2 "Program" "Program" true))⟩
  · cases h
theorem tc_ITEMS (C : Ct fa ts fn xs w K mg) : TabK K w (He.ga K "ITEMS") tab_ITEMS := tabK_of (l := lt_ITEMS) (C.tabW 0) (C.chk 1) (by decide +kernel)
theorem tc_NUMBERS (C : Ct fa ts fn xs w K mg) : TabK K w (He.ga K "NUMBERS") tab_NUMBERS := tabK_of (l := lt_NUMBERS) (C.tabW 1) (C.chk 5) (by decide +kernel)
theorem tc_CHECKS (C : Ct fa ts fn xs w K mg) : TabK K w (He.ga K "CHECKS") tab_CHECKS := tabK_of (l := lt_CHECKS) (C.tabW 2) (C.chk 6) (by decide +kernel)
theorem d_is_word (C : Ct fa ts fn xs w K mg) : FunD K "is_word" "is_word" (defArgs s_is_word) (defBody s_is_word) (defScope s_is_word) [] [] (e_is_word.ad K) (fdOf K (e_is_word.ad K)) := C.fd 0
theorem b_is_word (C : Ct fa ts fn xs w K mg) : Binds K (fdOf K (e_is_word.ad K)) ["value", "words"] [] := (d_is_word C).bindsN fun _ _ _ _ _ _ us hl => match us, hl with | [_, _], _ => rfl
theorem c_is_word : FnScope ["value", "words"] ["value", "words"] (defScope s_is_word) := ⟨rfl, rfl, rfl, by decide +kernel, rfl, by decide +kernel, by decide +kernel⟩
noncomputable def m_is_word : M Fl := (retM (andV (isiM "str" (fun _ => none) (getV 0)) (opM dIn (getV 0) (getV 1))))
noncomputable def f_is_word : Mf := runB 2 m_is_word
theorem g_is_word (C : Ct fa ts fn xs w K mg) : FnG P w K mg base 1 (e_is_word.ad K) (fdOf K (e_is_word.ad K)) ["value", "words"] (spM K 2 f_is_word) := fnJ (d_is_word C) c_is_word fun cdv A outer s H E Z W jc =>
  (js_one (js_ret (je_and (je_isi (by intro _ _ h; cases h) rfl (C.free 21) boot_isinstance rfl (C.free 25) boot_str (je_var (i := 0))) (je_one (je_cmp oj_in (je_var (i := 0)) (je_var (i := 1)))))))
theorem d_are_outcomes (C : Ct fa ts fn xs w K mg) : FunD K "are_outcomes" "are_outcomes" (defArgs s_are_outcomes) (defBody s_are_outcomes) (defScope s_are_outcomes) [] [] (e_are_outcomes.ad K) (fdOf K (e_are_outcomes.ad K)) := C.fd 1
theorem b_are_outcomes (C : Ct fa ts fn xs w K mg) : Binds K (fdOf K (e_are_outcomes.ad K)) ["value"] [] := (d_are_outcomes C).bindsN fun _ _ _ _ _ _ us hl => match us, hl with | [_], _ => rfl
theorem c_are_outcomes : FnScope ["value", "item", "word"] ["value"] (defScope s_are_outcomes) := ⟨rfl, rfl, rfl, by decide +kernel, rfl, by decide +kernel, by decide +kernel⟩
noncomputable def m_are_outcomes : M Fl := (seqM (ifM (J.orM (J.notM (tstM (isiM "tuple" (fun _ => none) (getV 0)))) (J.orM (cmpT dEq (getV 0) (tupM (pure []))) (J.notM (tstM (biM dAll (consM (lstM (compM [] [1] (itM (getV 0)) (setV 1) (pure true) (fnM (consM (getV 1) (consM (pure (.tup ((["ok", "no", "lost"] : List Str).map D.str))) (pure []))) f_is_word))) (pure []))))))) (retM (pure (.bl false))) (pure .next)) (retM (opM dEq (getV 0) (biM dTuple (consM (lstM (compM [0] [2] (itM (pure (.tup ((["ok", "no", "lost"] : List Str).map D.str)))) (setV 2) (cmpT dIn (getV 2) (getV 0)) (getV 2))) (pure []))))))
noncomputable def f_are_outcomes : Mf := runB 3 m_are_outcomes
theorem g_are_outcomes (C : Ct fa ts fn xs w K mg) : FnG P w K mg base 2 (e_are_outcomes.ad K) (fdOf K (e_are_outcomes.ad K)) ["value"] (spM K 1 f_are_outcomes) := fnJ (d_are_outcomes C) c_are_outcomes fun cdv A outer s H E Z W jc =>
  (js_cons (js_if (PW.pt (jw_or (jt_not (jt_val (je_isi (by intro _ _ h; cases h) rfl (C.free 21) boot_isinstance rfl (C.free 12) boot_tuple (je_var (i := 0))))) (jw_or (jt_cmp (oj_eq jc.room.units) (je_var (i := 0)) (je_tup ja_nil)) (jw_one_or (jt_not (jt_val (je_callB (cj_all jc.calm) rfl (C.free 34) (by decide +kernel) (ja_cons (jn_frz (jn_lc jc.calm jc.nd [] [("item", 1)] (ji_val (je_var (i := 0))) (blkOk_by rfl) (fun _ _ _ _ _ _ => (jg_name (i := 1) (JC.blk jc).nd)) (fun _ _ _ _ _ _ => jpts_nil) (fun _ _ _ _ _ _ => (je_call (g_is_word C) (JC.blk jc) (by decide) rfl (C.glo 33) (d_is_word C).kp (b_is_word C) (ja_cons (je_var (i := 1)) (ja_cons (C.tupS 32 2 rfl rfl rfl) ja_nil)))))) ja_nil)))))))) (js_one (js_ret je_bl)) js_nil) (js_one (js_ret (je_cmp (oj_eq jc.room.units) (je_var (i := 0)) (je_callT cj_tuple rfl (C.free 12) boot_tuple (ja_cons (jn_frz (jn_lc jc.calm jc.nd [0] [("word", 2)] (ji_val (C.tupS 32 2 rfl rfl rfl)) (blkOk_by rfl) (fun _ _ _ _ _ _ => (jg_name (i := 2) (JC.blk jc).nd)) (fun _ _ _ _ _ _ => (jpts_one (jt_cmp oj_in (je_var (i := 2)) (je_var (i := 0))))) (fun _ _ _ _ _ _ => (je_var (i := 2))))) ja_nil))))))
theorem d_is_whole (C : Ct fa ts fn xs w K mg) : FunD K "is_whole" "is_whole" (defArgs s_is_whole) (defBody s_is_whole) (defScope s_is_whole) [] [] (e_is_whole.ad K) (fdOf K (e_is_whole.ad K)) := C.fd 2
theorem b_is_whole (C : Ct fa ts fn xs w K mg) : Binds K (fdOf K (e_is_whole.ad K)) ["value"] [] := (d_is_whole C).bindsN fun _ _ _ _ _ _ us hl => match us, hl with | [_], _ => rfl
theorem c_is_whole : FnScope ["value"] ["value"] (defScope s_is_whole) := ⟨rfl, rfl, rfl, by decide +kernel, rfl, by decide +kernel, by decide +kernel⟩
noncomputable def m_is_whole : M Fl := (retM (andV (isiM "int" (fun _ => none) (getV 0)) (notV (isiM "bool" (fun _ => none) (getV 0)))))
noncomputable def f_is_whole : Mf := runB 1 m_is_whole
theorem g_is_whole (C : Ct fa ts fn xs w K mg) : FnG P w K mg base 1 (e_is_whole.ad K) (fdOf K (e_is_whole.ad K)) ["value"] (spM K 1 f_is_whole) := fnJ (d_is_whole C) c_is_whole fun cdv A outer s H E Z W jc =>
  (js_one (js_ret (je_and (je_isi (by intro _ _ h; cases h) rfl (C.free 21) boot_isinstance rfl (C.free 36) boot_int (je_var (i := 0))) (je_one (je_not (je_isi (by intro _ _ h; cases h) rfl (C.free 21) boot_isinstance rfl (C.free 37) boot_bool (je_var (i := 0))))))))
theorem d_is_within_kinds (C : Ct fa ts fn xs w K mg) : FunD K "is_within" "is_within" (defArgs s_is_within_kinds) (defBody s_is_within_kinds) (defScope s_is_within_kinds) [] [] (e_is_within_kinds.ad K) (fdOf K (e_is_within_kinds.ad K)) := C.fd 3
theorem b_is_within_kinds (C : Ct fa ts fn xs w K mg) : Binds K (fdOf K (e_is_within_kinds.ad K)) ["value", "low", "high"] [] := (d_is_within_kinds C).bindsN fun _ _ _ _ _ _ us hl => match us, hl with | [_, _, _], _ => rfl
theorem c_is_within_kinds : FnScope ["value", "low", "high"] ["value", "low", "high"] (defScope s_is_within_kinds) := ⟨rfl, rfl, rfl, by decide +kernel, rfl, by decide +kernel, by decide +kernel⟩
noncomputable def m_is_within_kinds : M Fl := (retM (andV (fnM (consM (getV 0) (pure [])) f_is_whole) (chainM (getV 1) (getV 0) (getV 2) (dCmp fun i j => decide (i ≤ j)) (dCmp fun i j => decide (i ≤ j)))))
noncomputable def f_is_within_kinds : Mf := runB 3 m_is_within_kinds
theorem g_is_within_kinds (C : Ct fa ts fn xs w K mg) : FnG P w K mg base 2 (e_is_within_kinds.ad K) (fdOf K (e_is_within_kinds.ad K)) ["value", "low", "high"] (spM K 3 f_is_within_kinds) := fnJ (d_is_within_kinds C) c_is_within_kinds fun cdv A outer s H E Z W jc =>
  (js_one (js_ret (je_and (je_call (g_is_whole C) jc (by decide) rfl (C.glo 35) (d_is_whole C).kp (b_is_whole C) (ja_cons (je_var (i := 0)) ja_nil)) (je_one (je_cmp2 (oj_cmp op_le) (oj_cmp op_le) (je_var (i := 1)) (je_var (i := 0)) (je_var (i := 2)))))))
theorem d_go_error (C : Ct fa ts fn xs w K mg) : FunD K "go_error" "go_error" (defArgs s_go_error) (defBody s_go_error) (defScope s_go_error) [] [] (e_go_error.ad K) (fdOf K (e_go_error.ad K)) := C.fd 4
theorem b_go_error (C : Ct fa ts fn xs w K mg) : Binds K (fdOf K (e_go_error.ad K)) ["step", "lines"] [] := (d_go_error C).bindsN fun _ _ _ _ _ _ us hl => match us, hl with | [_, _], _ => rfl
theorem c_go_error : FnScope ["step", "lines"] ["step", "lines"] (defScope s_go_error) := ⟨rfl, rfl, rfl, by decide +kernel, rfl, by decide +kernel, by decide +kernel⟩
noncomputable def m_go_error : M Fl := (seqM (ifM (J.notM (tstM (fnM (consM (opM dIx (getV 0) (pure (.int 1))) (consM (pure (.int 0)) (consM (getV 1) (pure [])))) f_is_within_kinds))) (retM (pure (.str "line"))) (pure .next)) (retM (ifM (tstM (fnM (consM (opM dIx (getV 0) (pure (.int 2))) (pure [])) f_are_outcomes)) (pure .non) (pure (.str "outcomes")))))
noncomputable def f_go_error : Mf := runB 2 m_go_error
theorem g_go_error (C : Ct fa ts fn xs w K mg) : FnG P w K mg base 3 (e_go_error.ad K) (fdOf K (e_go_error.ad K)) ["step", "lines"] (spM K 2 f_go_error) := fnJ (d_go_error C) c_go_error fun cdv A outer s H E Z W jc =>
  (js_cons (js_if (jt_not (jt_val (je_call (g_is_within_kinds C) jc (by decide) rfl (C.glo 30) (d_is_within_kinds C).kp (b_is_within_kinds C) (ja_cons (je_ix (je_var (i := 0)) je_int) (ja_cons je_int (ja_cons (je_var (i := 1)) ja_nil)))))) (js_one (js_ret je_str)) js_nil) (js_one (js_ret (je_ifExp (jt_val (je_call (g_are_outcomes C) jc (by decide) rfl (C.glo 31) (d_are_outcomes C).kp (b_are_outcomes C) (ja_cons (je_ix (je_var (i := 0)) je_int) ja_nil))) je_non je_str))))
theorem d_is_piece (C : Ct fa ts fn xs w K mg) : FunD K "is_piece" "is_piece" (defArgs s_is_piece) (defBody s_is_piece) (defScope s_is_piece) [] [] (e_is_piece.ad K) (fdOf K (e_is_piece.ad K)) := C.fd 5
theorem b_is_piece (C : Ct fa ts fn xs w K mg) : Binds K (fdOf K (e_is_piece.ad K)) ["value"] [] := (d_is_piece C).bindsN fun _ _ _ _ _ _ us hl => match us, hl with | [_], _ => rfl
theorem c_is_piece : FnScope ["value"] ["value"] (defScope s_is_piece) := ⟨rfl, rfl, rfl, by decide +kernel, rfl, by decide +kernel, by decide +kernel⟩
noncomputable def m_is_piece : M Fl := (retM (fnM (consM (getV 0) (consM (pure (.int 0)) (consM (pure (.int 9)) (pure [])))) f_is_within_kinds))
noncomputable def f_is_piece : Mf := runB 1 m_is_piece
theorem g_is_piece (C : Ct fa ts fn xs w K mg) : FnG P w K mg base 3 (e_is_piece.ad K) (fdOf K (e_is_piece.ad K)) ["value"] (spM K 1 f_is_piece) := fnJ (d_is_piece C) c_is_piece fun cdv A outer s H E Z W jc =>
  (js_one (js_ret (je_call (g_is_within_kinds C) jc (by decide) rfl (C.glo 30) (d_is_within_kinds C).kp (b_is_within_kinds C) (ja_cons (je_var (i := 0)) (ja_cons je_int (ja_cons je_int ja_nil))))))
theorem d_is_edition (C : Ct fa ts fn xs w K mg) : FunD K "is_edition" "is_edition" (defArgs s_is_edition) (defBody s_is_edition) (defScope s_is_edition) [] [] (e_is_edition.ad K) (fdOf K (e_is_edition.ad K)) := C.fd 6
theorem b_is_edition (C : Ct fa ts fn xs w K mg) : Binds K (fdOf K (e_is_edition.ad K)) ["value"] [] := (d_is_edition C).bindsN fun _ _ _ _ _ _ us hl => match us, hl with | [_], _ => rfl
theorem c_is_edition : FnScope ["value", "piece"] ["value"] (defScope s_is_edition) := ⟨rfl, rfl, rfl, by decide +kernel, rfl, by decide +kernel, by decide +kernel⟩
noncomputable def m_is_edition : M Fl := (retM (andV (isiM "tuple" (fun _ => none) (getV 0)) (andV (chainM (pure (.int 1)) (biM dLen (consM (getV 0) (pure []))) (pure (.int 3)) (dCmp fun i j => decide (i ≤ j)) (dCmp fun i j => decide (i ≤ j))) (biM dAll (consM (lstM (compM [] [1] (itM (getV 0)) (setV 1) (pure true) (fnM (consM (getV 1) (pure [])) f_is_piece))) (pure []))))))
noncomputable def f_is_edition : Mf := runB 2 m_is_edition
theorem g_is_edition (C : Ct fa ts fn xs w K mg) : FnG P w K mg base 4 (e_is_edition.ad K) (fdOf K (e_is_edition.ad K)) ["value"] (spM K 1 f_is_edition) := fnJ (d_is_edition C) c_is_edition fun cdv A outer s H E Z W jc =>
  (js_one (js_ret (je_and (je_isi (by intro _ _ h; cases h) rfl (C.free 21) boot_isinstance rfl (C.free 12) boot_tuple (je_var (i := 0))) (je_and (je_cmp2 (oj_cmp op_le) (oj_cmp op_le) je_int (je_callB cj_len rfl (C.free 6) boot_len (ja_cons (je_var (i := 0)) ja_nil)) (C.int 40 rfl rfl)) (je_one (je_callB (cj_all jc.calm) rfl (C.free 34) (by decide +kernel) (ja_cons (jn_frz (jn_lc jc.calm jc.nd [] [("piece", 1)] (ji_val (je_var (i := 0))) (blkOk_by rfl) (fun _ _ _ _ _ _ => (jg_name (i := 1) (JC.blk jc).nd)) (fun _ _ _ _ _ _ => jpts_nil) (fun _ _ _ _ _ _ => (je_call (g_is_piece C) (JC.blk jc) (by decide) rfl (C.glo 41) (d_is_piece C).kp (b_is_piece C) (ja_cons (je_var (i := 1)) ja_nil))))) ja_nil)))))))
theorem d_join_error (C : Ct fa ts fn xs w K mg) : FunD K "join_error" "join_error" (defArgs s_join_error) (defBody s_join_error) (defScope s_join_error) [] [] (e_join_error.ad K) (fdOf K (e_join_error.ad K)) := C.fd 7
theorem b_join_error (C : Ct fa ts fn xs w K mg) : Binds K (fdOf K (e_join_error.ad K)) ["step"] [] := (d_join_error C).bindsN fun _ _ _ _ _ _ us hl => match us, hl with | [_], _ => rfl
theorem c_join_error : FnScope ["step"] ["step"] (defScope s_join_error) := ⟨rfl, rfl, rfl, by decide +kernel, rfl, by decide +kernel, by decide +kernel⟩
noncomputable def m_join_error : M Fl := (seqM (ifM (J.notM (tstM (fnM (consM (opM dIx (getV 0) (pure (.int 1))) (pure [])) f_is_edition))) (retM (pure (.str "edition"))) (pure .next)) (seqM (ifM (J.notM (tstM (isiM "bool" (fun _ => none) (opM dIx (getV 0) (pure (.int 2)))))) (retM (pure (.str "checked"))) (pure .next)) (retM (ifM (tstM (fnM (consM (opM dIx (getV 0) (pure (.int 3))) (consM (pure (.tup ((["any", "none", "same"] : List Str).map D.str))) (pure []))) f_is_word)) (pure .non) (pure (.str "when"))))))
noncomputable def f_join_error : Mf := runB 1 m_join_error
theorem g_join_error (C : Ct fa ts fn xs w K mg) : FnG P w K mg base 5 (e_join_error.ad K) (fdOf K (e_join_error.ad K)) ["step"] (spM K 1 f_join_error) := fnJ (d_join_error C) c_join_error fun cdv A outer s H E Z W jc =>
  (js_cons (js_if (jt_not (jt_val (je_call (g_is_edition C) jc (by decide) rfl (C.glo 38) (d_is_edition C).kp (b_is_edition C) (ja_cons (je_ix (je_var (i := 0)) je_int) ja_nil)))) (js_one (js_ret je_str)) js_nil) (js_cons (js_if (jt_not (jt_val (je_isi (by intro _ _ h; cases h) rfl (C.free 21) boot_isinstance rfl (C.free 37) boot_bool (je_ix (je_var (i := 0)) je_int)))) (js_one (js_ret je_str)) js_nil) (js_one (js_ret (je_ifExp (jt_val (je_call (g_is_word C) jc (by decide) rfl (C.glo 33) (d_is_word C).kp (b_is_word C) (ja_cons (je_ix (je_var (i := 0)) je_int) (ja_cons (C.tupS 39 3 rfl rfl rfl) ja_nil)))) je_non je_str)))))
theorem d_is_part (C : Ct fa ts fn xs w K mg) : FunD K "is_part" "is_part" (defArgs s_is_part) (defBody s_is_part) (defScope s_is_part) [] [] (e_is_part.ad K) (fdOf K (e_is_part.ad K)) := C.fd 8
theorem b_is_part (C : Ct fa ts fn xs w K mg) : Binds K (fdOf K (e_is_part.ad K)) ["value"] [] := (d_is_part C).bindsN fun _ _ _ _ _ _ us hl => match us, hl with | [_], _ => rfl
theorem c_is_part : FnScope ["value"] ["value"] (defScope s_is_part) := ⟨rfl, rfl, rfl, by decide +kernel, rfl, by decide +kernel, by decide +kernel⟩
noncomputable def m_is_part : M Fl := (retM (fnM (consM (getV 0) (consM (pure (.int 1)) (consM (pure (.int 3)) (pure [])))) f_is_within_kinds))
noncomputable def f_is_part : Mf := runB 1 m_is_part
theorem g_is_part (C : Ct fa ts fn xs w K mg) : FnG P w K mg base 3 (e_is_part.ad K) (fdOf K (e_is_part.ad K)) ["value"] (spM K 1 f_is_part) := fnJ (d_is_part C) c_is_part fun cdv A outer s H E Z W jc =>
  (js_one (js_ret (je_call (g_is_within_kinds C) jc (by decide) rfl (C.glo 30) (d_is_within_kinds C).kp (b_is_within_kinds C) (ja_cons (je_var (i := 0)) (ja_cons je_int (ja_cons (C.int 40 rfl rfl) ja_nil))))))
theorem d_lay_error (C : Ct fa ts fn xs w K mg) : FunD K "lay_error" "lay_error" (defArgs s_lay_error) (defBody s_lay_error) (defScope s_lay_error) [] [] (e_lay_error.ad K) (fdOf K (e_lay_error.ad K)) := C.fd 9
theorem b_lay_error (C : Ct fa ts fn xs w K mg) : Binds K (fdOf K (e_lay_error.ad K)) ["step"] [] := (d_lay_error C).bindsN fun _ _ _ _ _ _ us hl => match us, hl with | [_], _ => rfl
theorem c_lay_error : FnScope ["step"] ["step"] (defScope s_lay_error) := ⟨rfl, rfl, rfl, by decide +kernel, rfl, by decide +kernel, by decide +kernel⟩
noncomputable def m_lay_error : M Fl := (seqM (ifM (J.notM (tstM (fnM (consM (opM dIx (getV 0) (pure (.int 1))) (pure [])) f_is_part))) (retM (pure (.str "part"))) (pure .next)) (retM (ifM (tstM (fnM (consM (opM dIx (getV 0) (pure (.int 2))) (pure [])) f_is_piece)) (pure .non) (pure (.str "piece")))))
noncomputable def f_lay_error : Mf := runB 1 m_lay_error
theorem g_lay_error (C : Ct fa ts fn xs w K mg) : FnG P w K mg base 4 (e_lay_error.ad K) (fdOf K (e_lay_error.ad K)) ["step"] (spM K 1 f_lay_error) := fnJ (d_lay_error C) c_lay_error fun cdv A outer s H E Z W jc =>
  (js_cons (js_if (jt_not (jt_val (je_call (g_is_part C) jc (by decide) rfl (C.glo 42) (d_is_part C).kp (b_is_part C) (ja_cons (je_ix (je_var (i := 0)) je_int) ja_nil)))) (js_one (js_ret je_str)) js_nil) (js_one (js_ret (je_ifExp (jt_val (je_call (g_is_piece C) jc (by decide) rfl (C.glo 41) (d_is_piece C).kp (b_is_piece C) (ja_cons (je_ix (je_var (i := 0)) je_int) ja_nil))) je_non je_str))))
theorem d_step_error (C : Ct fa ts fn xs w K mg) : FunD K "step_error" "step_error" (defArgs s_step_error) (defBody s_step_error) (defScope s_step_error) [] [] (e_step_error.ad K) (fdOf K (e_step_error.ad K)) := C.fd 10
theorem b_step_error (C : Ct fa ts fn xs w K mg) : Binds K (fdOf K (e_step_error.ad K)) ["value", "lines"] [] := (d_step_error C).bindsN fun _ _ _ _ _ _ us hl => match us, hl with | [_, _], _ => rfl
theorem c_step_error : FnScope ["value", "lines", "word"] ["value", "lines"] (defScope s_step_error) := ⟨rfl, rfl, rfl, by decide +kernel, rfl, by decide +kernel, by decide +kernel⟩
noncomputable def m_step_error : M Fl := (seqM (ifM (J.orM (J.notM (tstM (isiM "tuple" (fun _ => none) (getV 0)))) (J.orM (cmpT dEq (getV 0) (tupM (pure []))) (J.orM (J.notM (tstM (isiM "str" (fun _ => none) (opM dIx (getV 0) (pure (.int 0)))))) (tabT tab_ITEMS true (opM dIx (getV 0) (pure (.int 0))))))) (retM (pure (.str "step"))) (pure .next)) (seqM (setM 2 (opM dIx (getV 0) (pure (.int 0)))) (seqM (ifM (cmpT dNe (biM dLen (consM (getV 0) (pure []))) (tabX tab_ITEMS (getV 2))) (retM (pure (.str "items"))) (pure .next)) (seqM (ifM (cmpT dEq (getV 2) (pure (.str "lay"))) (retM (fnM (consM (getV 0) (pure [])) f_lay_error)) (pure .next)) (seqM (ifM (cmpT dEq (getV 2) (pure (.str "join"))) (retM (fnM (consM (getV 0) (pure [])) f_join_error)) (pure .next)) (seqM (ifM (cmpT dEq (getV 2) (pure (.str "go"))) (retM (fnM (consM (getV 0) (consM (getV 1) (pure []))) f_go_error)) (pure .next)) (retM (pure .non))))))))
noncomputable def f_step_error : Mf := runB 3 m_step_error
theorem g_step_error (C : Ct fa ts fn xs w K mg) : FnG P w K mg base 6 (e_step_error.ad K) (fdOf K (e_step_error.ad K)) ["value", "lines"] (spM K 2 f_step_error) := fnJ (d_step_error C) c_step_error fun cdv A outer s H E Z W jc =>
  (js_cons (js_if (PW.pt (jw_or (jt_not (jt_val (je_isi (by intro _ _ h; cases h) rfl (C.free 21) boot_isinstance rfl (C.free 12) boot_tuple (je_var (i := 0))))) (jw_or (jt_cmp (oj_eq jc.room.units) (je_var (i := 0)) (je_tup ja_nil)) (jw_or (jt_not (jt_val (je_isi (by intro _ _ h; cases h) rfl (C.free 21) boot_isinstance rfl (C.free 25) boot_str (je_ix (je_var (i := 0)) je_int)))) (jw_one_or (jt_tabIn true (tc_ITEMS C) rfl (C.glo 26) (je_ix (je_var (i := 0)) je_int))))))) (js_one (js_ret je_str)) js_nil) (js_cons (js_set (i := 2) jc.nd (je_ix (je_var (i := 0)) je_int)) (js_cons (js_if (jt_cmp (oj_ne jc.room.units) (je_callB cj_len rfl (C.free 6) boot_len (ja_cons (je_var (i := 0)) ja_nil)) (je_tabIx (tc_ITEMS C) rfl (C.glo 26) (je_var (i := 2)))) (js_one (js_ret je_str)) js_nil) (js_cons (js_if (jt_cmp (oj_eq jc.room.units) (je_var (i := 2)) je_str) (js_one (js_ret (je_call (g_lay_error C) jc (by decide) rfl (C.glo 27) (d_lay_error C).kp (b_lay_error C) (ja_cons (je_var (i := 0)) ja_nil)))) js_nil) (js_cons (js_if (jt_cmp (oj_eq jc.room.units) (je_var (i := 2)) je_str) (js_one (js_ret (je_call (g_join_error C) jc (by decide) rfl (C.glo 28) (d_join_error C).kp (b_join_error C) (ja_cons (je_var (i := 0)) ja_nil)))) js_nil) (js_cons (js_if (jt_cmp (oj_eq jc.room.units) (je_var (i := 2)) je_str) (js_one (js_ret (je_call (g_go_error C) jc (by decide) rfl (C.glo 29) (d_go_error C).kp (b_go_error C) (ja_cons (je_var (i := 0)) (ja_cons (je_var (i := 1)) ja_nil))))) js_nil) (js_one (js_ret je_non))))))))
theorem d_Programu_initu (C : Ct fa ts fn xs w K mg) : FunD K "__init__" "Program.__init__" (defArgs s_Programu_initu) (defBody s_Programu_initu) (defScope s_Programu_initu) [] [] (e_Programu_initu.ad K) (fdOf K (e_Programu_initu.ad K)) := C.fd 11
theorem b_Programu_initu (C : Ct fa ts fn xs w K mg) : Binds K (fdOf K (e_Programu_initu.ad K)) ["self", "steps"] [] := (d_Programu_initu C).bindsN fun _ _ _ _ _ _ us hl => match us, hl with | [_, _], _ => rfl
theorem c_Programu_initu : FnScope ["self", "steps", "index", "step", "reason"] ["self", "steps"] (defScope s_Programu_initu) := ⟨rfl, rfl, rfl, by decide +kernel, rfl, by decide +kernel, by decide +kernel⟩
noncomputable def m_Programu_initu : M Fl := (seqM (ifM (J.orM (J.notM (tstM (isiM "tuple" (fun _ => none) (getV 1)))) (J.notM (cmpT2 (dCmp fun i j => decide (i ≤ j)) (dCmp fun i j => decide (i ≤ j)) (pure (.int 1)) (biM dLen (consM (getV 1) (pure []))) (pure (.int 12))))) M.stuck (pure .next)) (seqM (forS (biN dEnum1 (consM (getV 1) (pure []))) (gTupM 2 (gConsM (setV 2) (gConsM (setV 3) gNilM))) (seqM (setM 4 (fnM (consM (getV 3) (consM (biM dLen (consM (getV 1) (pure []))) (pure []))) f_step_error)) (ifM (notNT (getV 4)) M.stuck (pure .next)))) (fldS ["Program"] "listed" (getV 1) (getV 0))))
noncomputable def f_Programu_initu : Mf := runB 5 m_Programu_initu
theorem g_Programu_initu (C : Ct fa ts fn xs w K mg) : FnG P w K mg base 7 (e_Programu_initu.ad K) (fdOf K (e_Programu_initu.ad K)) ["self", "steps"] (spM K 2 f_Programu_initu) := fnJ (d_Programu_initu C) c_Programu_initu fun cdv A outer s H E Z W jc =>
  (js_cons (js_if (PW.pt (jw_or (jt_not (jt_val (je_isi (by intro _ _ h; cases h) rfl (C.free 21) boot_isinstance rfl (C.free 12) boot_tuple (je_var (i := 1))))) (jw_one_or (jt_not (jt_cmp2 (oj_cmp op_le) (oj_cmp op_le) je_int (je_callB cj_len rfl (C.free 6) boot_len (ja_cons (je_var (i := 1)) ja_nil)) (C.int 22 rfl rfl)))))) (js_one js_never) js_nil) (js_cons (js_for jc.po jc.calm (ji_enum1 rfl (C.free 23) (ja_cons (je_var (i := 1)) ja_nil)) (jg_tup jc.calm (jgs_cons (jg_name (i := 2) (ws := [2, 3]) jc.nd) (jgs_cons (jg_name (i := 3) (ws := [2, 3]) jc.nd) jgs_nil))) (js_cons (js_set (i := 4) jc.nd (je_call (g_step_error C) jc (by decide) rfl (C.glo 24) (d_step_error C).kp (b_step_error C) (ja_cons (je_var (i := 3)) (ja_cons (je_callB cj_len rfl (C.free 6) boot_len (ja_cons (je_var (i := 1)) ja_nil)) ja_nil)))) (js_one (js_if (jt_isNotN (je_var (i := 4))) (js_one js_never) js_nil)))) (js_one (js_fld (fc_listed C) (je_var (i := 0)) (je_var (i := 1))))))
theorem d_are_programs (C : Ct fa ts fn xs w K mg) : FunD K "are_programs" "are_programs" (defArgs s_are_programs) (defBody s_are_programs) (defScope s_are_programs) [] [] (e_are_programs.ad K) (fdOf K (e_are_programs.ad K)) := C.fd 12
theorem b_are_programs (C : Ct fa ts fn xs w K mg) : Binds K (fdOf K (e_are_programs.ad K)) ["value"] [] := (d_are_programs C).bindsN fun _ _ _ _ _ _ us hl => match us, hl with | [_], _ => rfl
theorem c_are_programs : FnScope ["value", "item"] ["value"] (defScope s_are_programs) := ⟨rfl, rfl, rfl, by decide +kernel, rfl, by decide +kernel, by decide +kernel⟩
noncomputable def m_are_programs : M Fl := (retM (andV (isiM "tuple" (fun _ => none) (getV 0)) (andV (chainM (pure (.int 1)) (biM dLen (consM (getV 0) (pure []))) (pure (.int 2)) (dCmp fun i j => decide (i ≤ j)) (dCmp fun i j => decide (i ≤ j))) (biM dAll (consM (lstM (compM [] [1] (itM (getV 0)) (setV 1) (pure true) (isiC (fun _ => none) it_Program (getV 1)))) (pure []))))))
noncomputable def f_are_programs : Mf := runB 2 m_are_programs
theorem g_are_programs (C : Ct fa ts fn xs w K mg) : FnG P w K mg base 1 (e_are_programs.ad K) (fdOf K (e_are_programs.ad K)) ["value"] (spM K 1 f_are_programs) := fnJ (d_are_programs C) c_are_programs fun cdv A outer s H E Z W jc =>
  (js_one (js_ret (je_and (je_isi (by intro _ _ h; cases h) rfl (C.free 21) boot_isinstance rfl (C.free 12) boot_tuple (je_var (i := 0))) (je_and (je_cmp2 (oj_cmp op_le) (oj_cmp op_le) je_int (je_callB cj_len rfl (C.free 6) boot_len (ja_cons (je_var (i := 0)) ja_nil)) je_int) (je_one (je_callB (cj_all jc.calm) rfl (C.free 34) (by decide +kernel) (ja_cons (jn_frz (jn_lc jc.calm jc.nd [] [("item", 1)] (ji_val (je_var (i := 0))) (blkOk_by rfl) (fun _ _ _ _ _ _ => (jg_name (i := 1) (JC.blk jc).nd)) (fun _ _ _ _ _ _ => jpts_nil) (fun _ _ _ _ _ _ => (je_isiO (by intro _ _ h; cases h) (io_Program C) rfl (C.free 21) boot_isinstance rfl (C.glo 4) (je_var (i := 1)))))) ja_nil)))))))
theorem d_are_wishes (C : Ct fa ts fn xs w K mg) : FunD K "are_wishes" "are_wishes" (defArgs s_are_wishes) (defBody s_are_wishes) (defScope s_are_wishes) [] [] (e_are_wishes.ad K) (fdOf K (e_are_wishes.ad K)) := C.fd 13
theorem b_are_wishes (C : Ct fa ts fn xs w K mg) : Binds K (fdOf K (e_are_wishes.ad K)) ["value"] [] := (d_are_wishes C).bindsN fun _ _ _ _ _ _ us hl => match us, hl with | [_], _ => rfl
theorem c_are_wishes : FnScope ["value", "item", "one", "two"] ["value"] (defScope s_are_wishes) := ⟨rfl, rfl, rfl, by decide +kernel, rfl, by decide +kernel, by decide +kernel⟩
noncomputable def m_are_wishes : M Fl := (seqM (ifM (J.orM (J.notM (tstM (isiM "tuple" (fun _ => none) (getV 0)))) (J.orM (cmpT (dCmp fun i j => decide (j < i)) (biM dLen (consM (getV 0) (pure []))) (pure (.int 4))) (J.notM (tstM (biM dAll (consM (lstM (compM [] [1] (itM (getV 0)) (setV 1) (pure true) (fnM (consM (getV 1) (pure [])) f_is_edition))) (pure []))))))) (retM (pure (.bl false))) (pure .next)) (retM (biM dAll (consM (lstM (compM [] [2, 3] (biN dZip (consM (getV 0) (consM (slM (getV 0) (bdM (pure (.int 1))) (pure none)) (pure [])))) (gTupM 2 (gConsM (setV 2) (gConsM (setV 3) gNilM))) (pure true) (opM dLt (getV 2) (getV 3)))) (pure [])))))
noncomputable def f_are_wishes : Mf := runB 4 m_are_wishes
theorem g_are_wishes (C : Ct fa ts fn xs w K mg) : FnG P w K mg base 5 (e_are_wishes.ad K) (fdOf K (e_are_wishes.ad K)) ["value"] (spM K 1 f_are_wishes) := fnJ (d_are_wishes C) c_are_wishes fun cdv A outer s H E Z W jc =>
  (js_cons (js_if (PW.pt (jw_or (jt_not (jt_val (je_isi (by intro _ _ h; cases h) rfl (C.free 21) boot_isinstance rfl (C.free 12) boot_tuple (je_var (i := 0))))) (jw_or (jt_cmp (oj_cmp op_gt) (je_callB cj_len rfl (C.free 6) boot_len (ja_cons (je_var (i := 0)) ja_nil)) (C.int 48 rfl rfl)) (jw_one_or (jt_not (jt_val (je_callB (cj_all jc.calm) rfl (C.free 34) (by decide +kernel) (ja_cons (jn_frz (jn_lc jc.calm jc.nd [] [("item", 1)] (ji_val (je_var (i := 0))) (blkOk_by rfl) (fun _ _ _ _ _ _ => (jg_name (i := 1) (JC.blk jc).nd)) (fun _ _ _ _ _ _ => jpts_nil) (fun _ _ _ _ _ _ => (je_call (g_is_edition C) (JC.blk jc) (by decide) rfl (C.glo 38) (d_is_edition C).kp (b_is_edition C) (ja_cons (je_var (i := 1)) ja_nil))))) ja_nil)))))))) (js_one (js_ret je_bl)) js_nil) (js_one (js_ret (je_callB (cj_all jc.calm) rfl (C.free 34) (by decide +kernel) (ja_cons (jn_frz (jn_lc jc.calm jc.nd [] [("one", 2), ("two", 3)] (ji_zip rfl (C.free 49) (ja_cons (je_var (i := 0)) (ja_cons (je_sl (je_var (i := 0)) (jo_some je_int) jo_none) ja_nil))) (blkOk_by rfl) (fun _ _ _ _ _ _ => (jg_tup (JC.blk jc).calm (jgs_cons (jg_name (i := 2) (JC.blk jc).nd) (jgs_cons (jg_name (i := 3) (JC.blk jc).nd) jgs_nil)))) (fun _ _ _ _ _ _ => jpts_nil) (fun _ _ _ _ _ _ => (je_cmp (oj_lt (JC.blk jc).room.units0) (je_var (i := 2)) (je_var (i := 3)))))) ja_nil)))))
theorem d_Caseu_initu (C : Ct fa ts fn xs w K mg) : FunD K "__init__" "Case.__init__" (defArgs s_Caseu_initu) (defBody s_Caseu_initu) (defScope s_Caseu_initu) [] [] (e_Caseu_initu.ad K) (fdOf K (e_Caseu_initu.ad K)) := C.fd 14
theorem b_Caseu_initu (C : Ct fa ts fn xs w K mg) : Binds K (fdOf K (e_Caseu_initu.ad K)) ["self", "programs", "faults", "wishes", "fresh"] [] := (d_Caseu_initu C).bindsN fun _ _ _ _ _ _ us hl => match us, hl with | [_, _, _, _, _], _ => rfl
theorem c_Caseu_initu : FnScope ["self", "programs", "faults", "wishes", "fresh"] ["self", "programs", "faults", "wishes", "fresh"] (defScope s_Caseu_initu) := ⟨rfl, rfl, rfl, by decide +kernel, rfl, by decide +kernel, by decide +kernel⟩
noncomputable def m_Caseu_initu : M Fl := (seqM (ifM (J.notM (tstM (fnM (consM (getV 1) (pure [])) f_are_programs))) M.stuck (pure .next)) (seqM (ifM (J.notM (tstM (isiC (fun _ => none) it_Faults (getV 2)))) M.stuck (pure .next)) (seqM (ifM (J.notM (tstM (fnM (consM (getV 3) (pure [])) f_are_wishes))) M.stuck (pure .next)) (seqM (ifM (J.notM (tstM (isiM "bool" (fun _ => none) (getV 4)))) M.stuck (pure .next)) (fldS ["Faults", "Case"] "four" (tupM (consM (getV 1) (consM (getV 2) (consM (getV 3) (consM (getV 4) (pure [])))))) (getV 0))))))
noncomputable def f_Caseu_initu : Mf := runB 5 m_Caseu_initu
theorem g_Caseu_initu (C : Ct fa ts fn xs w K mg) : FnG P w K mg base 6 (e_Caseu_initu.ad K) (fdOf K (e_Caseu_initu.ad K)) ["self", "programs", "faults", "wishes", "fresh"] (spM K 5 f_Caseu_initu) := fnJ (d_Caseu_initu C) c_Caseu_initu fun cdv A outer s H E Z W jc =>
  (js_cons (js_if (jt_not (jt_val (je_call (g_are_programs C) jc (by decide) rfl (C.glo 46) (d_are_programs C).kp (b_are_programs C) (ja_cons (je_var (i := 1)) ja_nil)))) (js_one js_never) js_nil) (js_cons (js_if (jt_not (jt_val (je_isiO (by intro _ _ h; cases h) (io_Faults C) rfl (C.free 21) boot_isinstance rfl (C.glo 19) (je_var (i := 2))))) (js_one js_never) js_nil) (js_cons (js_if (jt_not (jt_val (je_call (g_are_wishes C) jc (by decide) rfl (C.glo 47) (d_are_wishes C).kp (b_are_wishes C) (ja_cons (je_var (i := 3)) ja_nil)))) (js_one js_never) js_nil) (js_cons (js_if (jt_not (jt_val (je_isi (by intro _ _ h; cases h) rfl (C.free 21) boot_isinstance rfl (C.free 37) boot_bool (je_var (i := 4))))) (js_one js_never) js_nil) (js_one (js_fld (fc_four C) (je_var (i := 0)) (je_tup (ja_cons (je_var (i := 1)) (ja_cons (je_var (i := 2)) (ja_cons (je_var (i := 3)) (ja_cons (je_var (i := 4)) ja_nil)))))))))))
theorem d_Faultsu_initu (C : Ct fa ts fn xs w K mg) : FunD K "__init__" "Faults.__init__" (defArgs s_Faultsu_initu) (defBody s_Faultsu_initu) (defScope s_Faultsu_initu) [] [] (e_Faultsu_initu.ad K) (fdOf K (e_Faultsu_initu.ad K)) := C.fd 15
theorem b_Faultsu_initu (C : Ct fa ts fn xs w K mg) : Binds K (fdOf K (e_Faultsu_initu.ad K)) ["self", "lost", "late", "falls", "sweeps"] [] := (d_Faultsu_initu C).bindsN fun _ _ _ _ _ _ us hl => match us, hl with | [_, _, _, _, _], _ => rfl
theorem c_Faultsu_initu : FnScope ["self", "lost", "late", "falls", "sweeps", "place"] ["self", "lost", "late", "falls", "sweeps"] (defScope s_Faultsu_initu) := ⟨rfl, rfl, rfl, by decide +kernel, rfl, by decide +kernel, by decide +kernel⟩
noncomputable def m_Faultsu_initu : M Fl := (seqM (fldS ["Faults", "Case"] "four" (tupM (consM (getV 1) (consM (getV 2) (consM (getV 3) (consM (getV 4) (pure [])))))) (getV 0)) (forS (biN dRange1 (consM (pure (.int 4)) (pure []))) (setV 5) (ifM (J.notM (tstM (fnM (consM (opM dIx (fldG ["Faults", "Case"] "four" (getV 0)) (getV 5)) (consM (pure (.int 0)) (consM (pure (.int 3)) (pure [])))) f_is_within_kinds))) M.stuck (pure .next))))
noncomputable def f_Faultsu_initu : Mf := runB 6 m_Faultsu_initu
theorem g_Faultsu_initu (C : Ct fa ts fn xs w K mg) : FnG P w K mg base 3 (e_Faultsu_initu.ad K) (fdOf K (e_Faultsu_initu.ad K)) ["self", "lost", "late", "falls", "sweeps"] (spM K 5 f_Faultsu_initu) := fnJ (d_Faultsu_initu C) c_Faultsu_initu fun cdv A outer s H E Z W jc =>
  (js_cons (js_fld (fc_four C) (je_var (i := 0)) (je_tup (ja_cons (je_var (i := 1)) (ja_cons (je_var (i := 2)) (ja_cons (je_var (i := 3)) (ja_cons (je_var (i := 4)) ja_nil)))))) (js_one (js_for jc.po jc.calm (ji_range1 rfl (C.free 1) (ja_cons je_int ja_nil)) (jg_name (i := 5) (ws := [5]) jc.nd) (js_one (js_if (jt_not (jt_val (je_call (g_is_within_kinds C) jc (by decide) rfl (C.glo 30) (d_is_within_kinds C).kp (b_is_within_kinds C) (ja_cons (je_ix (je_fld (fc_four C) (je_var (i := 0))) (je_var (i := 5))) (ja_cons je_int (ja_cons (C.int 50 rfl rfl) ja_nil)))))) (js_one js_never) js_nil)))))
theorem d__law_case (C : Ct fa ts fn xs w K mg) : FunD K "_law_case" "_law_case" (defArgs s__law_case) (defBody s__law_case) (defScope s__law_case) [] [] (e__law_case.ad K) (fdOf K (e__law_case.ad K)) := C.fd 16
theorem b__law_case (C : Ct fa ts fn xs w K mg) : Binds K (fdOf K (e__law_case.ad K)) ["_law_data_here"] [] := (d__law_case C).bindsN fun _ _ _ _ _ _ us hl => match us, hl with | [_], _ => rfl
theorem c__law_case : FnScope ["_law_data_here", "_law_lost", "_law_late", "_law_falls", "_law_sweeps", "_law_programs", "_law_steps_here"] ["_law_data_here"] (defScope s__law_case) := ⟨rfl, rfl, rfl, by decide +kernel, rfl, by decide +kernel, by decide +kernel⟩
noncomputable def m__law_case : M Fl := (seqM (asgM (gTupM 4 (gConsM (setV 1) (gConsM (setV 2) (gConsM (setV 3) (gConsM (setV 4) gNilM))))) (opM dIx (getV 0) (pure (.int 1)))) (seqM (setM 5 (biM dTuple (consM (lstM (compM [] [6] (itM (opM dIx (getV 0) (pure (.int 0)))) (setV 6) (pure true) (makM "Program" f_Programu_initu (consM (getV 6) (pure []))))) (pure [])))) (retM (makM "Case" f_Caseu_initu (consM (getV 5) (consM (makM "Faults" f_Faultsu_initu (consM (getV 1) (consM (getV 2) (consM (getV 3) (consM (getV 4) (pure [])))))) (consM (opM dIx (getV 0) (pure (.int 2))) (consM (opM dIx (getV 0) (pure (.int 3))) (pure [])))))))))
noncomputable def f__law_case : Mf := runB 7 m__law_case
theorem g__law_case (C : Ct fa ts fn xs w K mg) : FnG P w K mg base 9 (e__law_case.ad K) (fdOf K (e__law_case.ad K)) ["_law_data_here"] (spM K 1 f__law_case) := fnJ (d__law_case C) c__law_case fun cdv A outer s H E Z W jc =>
  (js_cons (js_asg (je_ix (je_var (i := 0)) je_int) (jg_tup jc.calm (jgs_cons (jg_name (i := 1) (ws := [1, 2, 3, 4]) jc.nd) (jgs_cons (jg_name (i := 2) (ws := [1, 2, 3, 4]) jc.nd) (jgs_cons (jg_name (i := 3) (ws := [1, 2, 3, 4]) jc.nd) (jgs_cons (jg_name (i := 4) (ws := [1, 2, 3, 4]) jc.nd) jgs_nil)))))) (js_cons (js_set (i := 5) jc.nd (je_callT cj_tuple rfl (C.free 12) boot_tuple (ja_cons (jn_frz (jn_lc jc.calm jc.nd [] [("_law_steps_here", 6)] (ji_val (je_ix (je_var (i := 0)) je_int)) (blkOk_by rfl) (fun _ _ _ _ _ _ => (jg_name (i := 6) (JC.blk jc).nd)) (fun _ _ _ _ _ _ => jpts_nil) (fun _ _ _ _ _ _ => (je_make (He.mkr_ok (C.fact 3)) (g_Programu_initu C) (JC.blk jc) (by decide) rfl (C.glo 4) (b_Programu_initu C) (ja_cons (je_var (i := 6)) ja_nil))))) ja_nil))) (js_one (js_ret (je_make (He.mkr_ok (C.fact 44)) (g_Caseu_initu C) jc (by decide) rfl (C.glo 45) (b_Caseu_initu C) (ja_cons (je_var (i := 5)) (ja_cons (je_make (He.mkr_ok (C.fact 43)) (g_Faultsu_initu C) jc (by decide) rfl (C.glo 19) (b_Faultsu_initu C) (ja_cons (je_var (i := 1)) (ja_cons (je_var (i := 2)) (ja_cons (je_var (i := 3)) (ja_cons (je_var (i := 4)) ja_nil))))) (ja_cons (je_ix (je_var (i := 0)) je_int) (ja_cons (je_ix (je_var (i := 0)) je_int) ja_nil)))))))))
theorem d__law_next (C : Ct fa ts fn xs w K mg) : FunD K "_law_next" "_law_next" (defArgs s__law_next) (defBody s__law_next) (defScope s__law_next) [] [] (e__law_next.ad K) (fdOf K (e__law_next.ad K)) := C.fd 17
theorem b__law_next (C : Ct fa ts fn xs w K mg) : Binds K (fdOf K (e__law_next.ad K)) ["_law_deck_here", "_law_many"] [] := (d__law_next C).bindsN fun _ _ _ _ _ _ us hl => match us, hl with | [_, _], _ => rfl
theorem c__law_next : FnScope ["_law_deck_here", "_law_many", "_law_rest", "_law_turn", "_law_number", "_law_mixed"] ["_law_deck_here", "_law_many"] (defScope s__law_next) := ⟨rfl, rfl, rfl, by decide +kernel, rfl, by decide +kernel, by decide +kernel⟩
noncomputable def m__law_next : M Fl := (seqM (whileM (dkNe 0) (seqM (setM 2 (dkTop 0)) (seqM (ifM (cmpT (dCmp fun i j => decide (j < i)) (getV 2) (pure (.int 0))) (seqM ((opM dDiv (getV 2) (getV 1)) >>= dkPut 0) (retM (opM dMod (biM dInt (consM (getV 2) (pure []))) (getV 1)))) (pure .next)) (dkPop 0))) 200) (seqM ((opM dAdd (dkTurn 0) (pure (.int 1))) >>= dkSetT 0) (seqM (setM 3 (dkTurn 0)) (seqM (setM 4 (opM dMod (biM dInt (consM (dkGet 0 (opM dMod (biM dInt (consM (getV 3) (pure []))) (dkLen 0))) (pure []))) (pure (.int 2147483629)))) (seqM (setM 5 (opM dMod (biM dInt (consM (opM dAdd (opM dAdd (opM dMul (getV 4) (opM dAdd (pure (.int 50331)) (opM dMul (pure (.int 68111)) (getV 3)))) (opM dMul (opM dMul (pure (.int 41287)) (getV 3)) (getV 3))) (pure (.int 19))) (pure []))) (pure (.int 2147483587)))) (retM (opM dMod (opM dDiv (opM dMod (biM dInt (consM (opM dMul (getV 5) (getV 5)) (pure []))) (pure (.int 2147483579))) (pure (.int 16))) (getV 1))))))))
noncomputable def f__law_next : Mf := runB 6 m__law_next
theorem g__law_next (C : Ct fa ts fn xs w K mg) : FnG P w K mg base 1 (e__law_next.ad K) (fdOf K (e__law_next.ad K)) ["_law_deck_here", "_law_many"] (spM K 2 f__law_next) := fnJ (d__law_next C) c__law_next fun cdv A outer s H E Z W jc =>
  (js_cons (js_while 200 jc.po (jt_dkNe (i := 0) rfl (.inl rfl) (by decide) (by decide) jc.room.units) (js_cons (js_set (i := 2) jc.nd (je_dkTop (i := 0) rfl (.inl rfl) (by decide) (by decide))) (js_cons (js_if (jt_cmp (oj_cmp op_gt) (je_var (i := 2)) je_int) (js_cons (js_dkTop (i := 0) rfl (.inl rfl) (by decide) (by decide) (je_op oj_div (je_var (i := 2)) (je_var (i := 1)))) (js_one (js_ret (je_op oj_mod (je_callT cj_int rfl (C.free 36) boot_int (ja_cons (je_var (i := 2)) ja_nil)) (je_var (i := 1)))))) js_nil) (js_one (js_dkPop (i := 0) rfl (.inl rfl) (by decide) (by decide)))))) (js_cons (js_dkTurn (i := 0) rfl (.inl rfl) (by decide) (by decide) (je_op oj_add (je_dkTurn (i := 0) rfl (.inl rfl) (by decide) (by decide)) je_int)) (js_cons (js_set (i := 3) jc.nd (je_dkTurn (i := 0) rfl (.inl rfl) (by decide) (by decide))) (js_cons (js_set (i := 4) jc.nd (je_op oj_mod (je_callT cj_int rfl (C.free 36) boot_int (ja_cons (je_dkGet (i := 0) rfl (.inl rfl) (by decide) (by decide) (je_op oj_mod (je_callT cj_int rfl (C.free 36) boot_int (ja_cons (je_var (i := 3)) ja_nil)) (je_dkLen (i := 0) rfl (.inl rfl) (by decide) (by decide) rfl (C.free 6) boot_len))) ja_nil)) je_int)) (js_cons (js_set (i := 5) jc.nd (je_op oj_mod (je_callT cj_int rfl (C.free 36) boot_int (ja_cons (je_op oj_add (je_op oj_add (je_op oj_mul (je_var (i := 4)) (je_op oj_add je_int (je_op oj_mul je_int (je_var (i := 3))))) (je_op oj_mul (je_op oj_mul je_int (je_var (i := 3))) (je_var (i := 3)))) je_int) ja_nil)) je_int)) (js_one (js_ret (je_op oj_mod (je_op oj_div (je_op oj_mod (je_callT cj_int rfl (C.free 36) boot_int (ja_cons (je_op oj_mul (je_var (i := 5)) (je_var (i := 5))) ja_nil)) je_int) je_int) (je_var (i := 1))))))))))
theorem d__law_edition (C : Ct fa ts fn xs w K mg) : FunD K "_law_edition" "_law_edition" (defArgs s__law_edition) (defBody s__law_edition) (defScope s__law_edition) [] [] (e__law_edition.ad K) (fdOf K (e__law_edition.ad K)) := C.fd 18
theorem b__law_edition (C : Ct fa ts fn xs w K mg) : Binds K (fdOf K (e__law_edition.ad K)) ["_law_deck_here"] [] := (d__law_edition C).bindsN fun _ _ _ _ _ _ us hl => match us, hl with | [_], _ => rfl
theorem c__law_edition : FnScope ["_law_deck_here", "_law_turn"] ["_law_deck_here"] (defScope s__law_edition) := ⟨rfl, rfl, rfl, by decide +kernel, rfl, by decide +kernel, by decide +kernel⟩
noncomputable def m__law_edition : M Fl := (retM (biM dTuple (consM (lstM (compM [] [1] (biN dRange1 (consM (opM dAdd (pure (.int 1)) (opM dIx (lstM (consM (pure (.int 0)) (consM (pure (.int 1)) (consM (pure (.int 1)) (consM (pure (.int 2)) (pure [])))))) (fnM (consM (getV 0) (consM (pure (.int 4)) (pure []))) f__law_next))) (pure []))) (setV 1) (pure true) (opM dIx (lstM (consM (pure (.int 4)) (consM (pure (.int 7)) (consM (pure (.int 0)) (consM (pure (.int 9)) (pure [])))))) (fnM (consM (getV 0) (consM (pure (.int 4)) (pure []))) f__law_next)))) (pure []))))
noncomputable def f__law_edition : Mf := runB 2 m__law_edition
theorem g__law_edition (C : Ct fa ts fn xs w K mg) : FnG P w K mg base 2 (e__law_edition.ad K) (fdOf K (e__law_edition.ad K)) ["_law_deck_here"] (spM K 1 f__law_edition) := fnJ (d__law_edition C) c__law_edition fun cdv A outer s H E Z W jc =>
  (js_one (js_ret (je_callT cj_tuple rfl (C.free 12) boot_tuple (ja_cons (jn_frz (jn_lc jc.calm jc.nd [] [("_law_turn", 1)] (ji_range1 rfl (C.free 1) (ja_cons (je_op oj_add je_int (je_ix (jn_frz (jn_lst (ja_cons je_int (ja_cons je_int (ja_cons je_int (ja_cons je_int ja_nil)))))) (je_call (g__law_next C) jc (by decide) rfl (C.glo 8) (d__law_next C).kp (b__law_next C) (ja_cons (je_var (i := 0)) (ja_cons je_int ja_nil))))) ja_nil)) (blkOk_by rfl) (fun _ _ _ _ _ _ => (jg_name (i := 1) (JC.blk jc).nd)) (fun _ _ _ _ _ _ => jpts_nil) (fun _ _ _ _ _ _ => (je_ix (jn_frz (jn_lst (ja_cons je_int (ja_cons je_int (ja_cons je_int (ja_cons je_int ja_nil)))))) (je_call (g__law_next C) (JC.blk jc) (by decide) rfl (C.glo 8) (d__law_next C).kp (b__law_next C) (ja_cons (je_var (i := 0)) (ja_cons je_int ja_nil))))))) ja_nil))))
theorem d__law_outcomes (C : Ct fa ts fn xs w K mg) : FunD K "_law_outcomes" "_law_outcomes" (defArgs s__law_outcomes) (defBody s__law_outcomes) (defScope s__law_outcomes) [] [] (e__law_outcomes.ad K) (fdOf K (e__law_outcomes.ad K)) := C.fd 19
theorem b__law_outcomes (C : Ct fa ts fn xs w K mg) : Binds K (fdOf K (e__law_outcomes.ad K)) ["_law_deck_here"] [] := (d__law_outcomes C).bindsN fun _ _ _ _ _ _ us hl => match us, hl with | [_], _ => rfl
theorem c__law_outcomes : FnScope ["_law_deck_here", "_law_some"] ["_law_deck_here"] (defScope s__law_outcomes) := ⟨rfl, rfl, rfl, by decide +kernel, rfl, by decide +kernel, by decide +kernel⟩
noncomputable def m__law_outcomes : M Fl := (seqM (setM 1 (lstM (consM (tupM (consM (pure (.str "lost")) (pure []))) (consM (tupM (consM (pure (.str "no")) (pure []))) (consM (tupM (consM (pure (.str "ok")) (consM (pure (.str "no")) (consM (pure (.str "lost")) (pure []))))) (consM (tupM (consM (pure (.str "no")) (consM (pure (.str "lost")) (pure [])))) (consM (tupM (consM (pure (.str "ok")) (pure []))) (consM (tupM (consM (pure (.str "ok")) (consM (pure (.str "lost")) (pure [])))) (consM (tupM (consM (pure (.str "lost")) (pure []))) (pure [])))))))))) (retM (opM dIx (getV 1) (fnM (consM (getV 0) (consM (pure (.int 7)) (pure []))) f__law_next))))
noncomputable def f__law_outcomes : Mf := runB 2 m__law_outcomes
theorem g__law_outcomes (C : Ct fa ts fn xs w K mg) : FnG P w K mg base 2 (e__law_outcomes.ad K) (fdOf K (e__law_outcomes.ad K)) ["_law_deck_here"] (spM K 1 f__law_outcomes) := fnJ (d__law_outcomes C) c__law_outcomes fun cdv A outer s H E Z W jc =>
  (js_cons (js_set (i := 1) jc.nd (jn_frz (jn_lst (ja_cons (je_tup (ja_cons je_str ja_nil)) (ja_cons (je_tup (ja_cons je_str ja_nil)) (ja_cons (je_tup (ja_cons je_str (ja_cons je_str (ja_cons je_str ja_nil)))) (ja_cons (je_tup (ja_cons je_str (ja_cons je_str ja_nil))) (ja_cons (je_tup (ja_cons je_str ja_nil)) (ja_cons (je_tup (ja_cons je_str (ja_cons je_str ja_nil))) (ja_cons (je_tup (ja_cons je_str ja_nil)) ja_nil)))))))))) (js_one (js_ret (je_ix (je_var (i := 1)) (je_call (g__law_next C) jc (by decide) rfl (C.glo 8) (d__law_next C).kp (b__law_next C) (ja_cons (je_var (i := 0)) (ja_cons je_int ja_nil)))))))
theorem d__law_step (C : Ct fa ts fn xs w K mg) : FunD K "_law_step" "_law_step" (defArgs s__law_step) (defBody s__law_step) (defScope s__law_step) [] [] (e__law_step.ad K) (fdOf K (e__law_step.ad K)) := C.fd 20
theorem b__law_step (C : Ct fa ts fn xs w K mg) : Binds K (fdOf K (e__law_step.ad K)) ["_law_deck_here", "_law_lines"] [] := (d__law_step C).bindsN fun _ _ _ _ _ _ us hl => match us, hl with | [_, _], _ => rfl
theorem c__law_step : FnScope ["_law_deck_here", "_law_lines", "_law_kind", "_law_when"] ["_law_deck_here", "_law_lines"] (defScope s__law_step) := ⟨rfl, rfl, rfl, by decide +kernel, rfl, by decide +kernel, by decide +kernel⟩
noncomputable def m__law_step : M Fl := (seqM (parS 2 3 (consM (fnM (consM (getV 0) (consM (pure (.int 12)) (pure []))) f__law_next) (consM (opM dIx (lstM (consM (pure (.str "any")) (consM (pure (.str "none")) (consM (pure (.str "same")) (pure []))))) (fnM (consM (getV 0) (consM (pure (.int 3)) (pure []))) f__law_next)) (pure [])))) (seqM (ifM (cmpT dLt (getV 2) (pure (.int 4))) (retM (opM dIx (lstM (consM (tupM (consM (pure (.str "begin")) (pure []))) (consM (tupM (consM (pure (.str "throw")) (pure []))) (consM (tupM (consM (pure (.str "look")) (pure []))) (consM (tupM (consM (pure (.str "find")) (pure []))) (pure [])))))) (getV 2))) (pure .next)) (seqM (ifM (cmpT dLt (getV 2) (pure (.int 7))) (retM (tupM (consM (pure (.str "lay")) (consM (opM dAdd (pure (.int 1)) (opM dIx (lstM (consM (pure (.int 0)) (consM (pure (.int 0)) (consM (pure (.int 1)) (consM (pure (.int 2)) (pure [])))))) (fnM (consM (getV 0) (consM (pure (.int 4)) (pure []))) f__law_next))) (consM (opM dIx (lstM (consM (pure (.int 4)) (consM (pure (.int 7)) (consM (pure (.int 0)) (consM (pure (.int 9)) (pure [])))))) (fnM (consM (getV 0) (consM (pure (.int 4)) (pure []))) f__law_next)) (pure [])))))) (pure .next)) (seqM (ifM (cmpT dLt (getV 2) (pure (.int 9))) (retM (tupM (consM (pure (.str "join")) (consM (fnM (consM (getV 0) (pure [])) f__law_edition) (consM (opM dEq (fnM (consM (getV 0) (consM (pure (.int 2)) (pure []))) f__law_next) (pure (.int 0))) (consM (getV 3) (pure []))))))) (pure .next)) (retM (tupM (consM (pure (.str "go")) (consM (fnM (consM (getV 0) (consM (opM dAdd (getV 1) (pure (.int 1))) (pure []))) f__law_next) (consM (fnM (consM (getV 0) (pure [])) f__law_outcomes) (pure []))))))))))
noncomputable def f__law_step : Mf := runB 4 m__law_step
theorem g__law_step (C : Ct fa ts fn xs w K mg) : FnG P w K mg base 3 (e__law_step.ad K) (fdOf K (e__law_step.ad K)) ["_law_deck_here", "_law_lines"] (spM K 2 f__law_step) := fnJ (d__law_step C) c__law_step fun cdv A outer s H E Z W jc =>
  (js_cons (js_par (i := 2) (j := 3) jc.calm jc.nd (ja_cons (je_call (g__law_next C) jc (by decide) rfl (C.glo 8) (d__law_next C).kp (b__law_next C) (ja_cons (je_var (i := 0)) (ja_cons je_int ja_nil))) (ja_cons (je_ix (jn_frz (jn_lst (ja_cons je_str (ja_cons je_str (ja_cons je_str ja_nil))))) (je_call (g__law_next C) jc (by decide) rfl (C.glo 8) (d__law_next C).kp (b__law_next C) (ja_cons (je_var (i := 0)) (ja_cons je_int ja_nil)))) ja_nil))) (js_cons (js_if (jt_cmp (oj_lt jc.room.units0) (je_var (i := 2)) je_int) (js_one (js_ret (je_ix (jn_frz (jn_lst (ja_cons (je_tup (ja_cons je_str ja_nil)) (ja_cons (je_tup (ja_cons je_str ja_nil)) (ja_cons (je_tup (ja_cons je_str ja_nil)) (ja_cons (je_tup (ja_cons je_str ja_nil)) ja_nil)))))) (je_var (i := 2))))) js_nil) (js_cons (js_if (jt_cmp (oj_lt jc.room.units0) (je_var (i := 2)) je_int) (js_one (js_ret (je_tup (ja_cons je_str (ja_cons (je_op oj_add je_int (je_ix (jn_frz (jn_lst (ja_cons je_int (ja_cons je_int (ja_cons je_int (ja_cons je_int ja_nil)))))) (je_call (g__law_next C) jc (by decide) rfl (C.glo 8) (d__law_next C).kp (b__law_next C) (ja_cons (je_var (i := 0)) (ja_cons je_int ja_nil))))) (ja_cons (je_ix (jn_frz (jn_lst (ja_cons je_int (ja_cons je_int (ja_cons je_int (ja_cons je_int ja_nil)))))) (je_call (g__law_next C) jc (by decide) rfl (C.glo 8) (d__law_next C).kp (b__law_next C) (ja_cons (je_var (i := 0)) (ja_cons je_int ja_nil)))) ja_nil)))))) js_nil) (js_cons (js_if (jt_cmp (oj_lt jc.room.units0) (je_var (i := 2)) je_int) (js_one (js_ret (je_tup (ja_cons je_str (ja_cons (je_call (g__law_edition C) jc (by decide) rfl (C.glo 51) (d__law_edition C).kp (b__law_edition C) (ja_cons (je_var (i := 0)) ja_nil)) (ja_cons (je_cmp (oj_eq jc.room.units) (je_call (g__law_next C) jc (by decide) rfl (C.glo 8) (d__law_next C).kp (b__law_next C) (ja_cons (je_var (i := 0)) (ja_cons je_int ja_nil))) je_int) (ja_cons (je_var (i := 3)) ja_nil))))))) js_nil) (js_one (js_ret (je_tup (ja_cons je_str (ja_cons (je_call (g__law_next C) jc (by decide) rfl (C.glo 8) (d__law_next C).kp (b__law_next C) (ja_cons (je_var (i := 0)) (ja_cons (je_op oj_add (je_var (i := 1)) je_int) ja_nil))) (ja_cons (je_call (g__law_outcomes C) jc (by decide) rfl (C.glo 57) (d__law_outcomes C).kp (b__law_outcomes C) (ja_cons (je_var (i := 0)) ja_nil)) ja_nil))))))))))
theorem d__law_usual (C : Ct fa ts fn xs w K mg) : FunD K "_law_usual" "_law_usual" (defArgs s__law_usual) (defBody s__law_usual) (defScope s__law_usual) [] [] (e__law_usual.ad K) (fdOf K (e__law_usual.ad K)) := C.fd 21
theorem b__law_usual (C : Ct fa ts fn xs w K mg) : Binds K (fdOf K (e__law_usual.ad K)) ["_law_deck_here"] [] := (d__law_usual C).bindsN fun _ _ _ _ _ _ us hl => match us, hl with | [_], _ => rfl
theorem c__law_usual : FnScope ["_law_deck_here", "_law_edition_here", "_law_steps_here", "_law_part", "_law_piece", "_law_more"] ["_law_deck_here"] (defScope s__law_usual) := ⟨rfl, rfl, rfl, by decide +kernel, rfl, by decide +kernel, by decide +kernel⟩
noncomputable def m__law_usual : M Fl := (seqM (parO 1 2 (fnM (consM (getV 0) (pure [])) f__law_edition) (consM (tupM (consM (pure (.str "begin")) (pure []))) (pure []))) (seqM (ifM (cmpT dEq (fnM (consM (getV 0) (consM (pure (.int 3)) (pure []))) f__law_next) (pure (.int 0))) (appS 2 (tupM (consM (pure (.str "go")) (consM (pure (.int 0)) (consM (tupM (consM (pure (.str "lost")) (pure []))) (pure [])))))) (pure .next)) (seqM (forS (biN dEnum1 (consM (getV 1) (pure []))) (gTupM 2 (gConsM (setV 3) (gConsM (setV 4) gNilM))) (seqM (appS 2 (tupM (consM (pure (.str "lay")) (consM (opM dAdd (getV 3) (pure (.int 1))) (consM (getV 4) (pure [])))))) (ifM (cmpT dEq (fnM (consM (getV 0) (consM (pure (.int 4)) (pure []))) f__law_next) (pure (.int 0))) (appS 2 (tupM (consM (pure (.str "go")) (consM (opM dSub (lenO 2) (pure (.int 1))) (consM (tupM (consM (pure (.str "lost")) (pure []))) (pure [])))))) (pure .next)))) (seqM (appS 2 (tupM (consM (pure (.str "join")) (consM (getV 1) (consM (opM dEq (fnM (consM (getV 0) (consM (pure (.int 2)) (pure []))) f__law_next) (pure (.int 0))) (consM (opM dIx (lstM (consM (pure (.str "any")) (consM (pure (.str "any")) (consM (pure (.str "none")) (consM (pure (.str "same")) (pure [])))))) (fnM (consM (getV 0) (consM (pure (.int 4)) (pure []))) f__law_next)) (pure []))))))) (seqM (setM 5 (lstM (consM (lstM (pure [])) (consM (lstM (consM (tupM (consM (pure (.str "throw")) (pure []))) (pure []))) (consM (lstM (consM (tupM (consM (pure (.str "go")) (consM (opM dSub (lenO 2) (pure (.int 1))) (consM (tupM (consM (pure (.str "lost")) (pure []))) (pure []))))) (pure []))) (consM (lstM (consM (tupM (consM (pure (.str "look")) (pure []))) (pure []))) (consM (lstM (consM (tupM (consM (pure (.str "find")) (pure []))) (consM (tupM (consM (pure (.str "throw")) (pure []))) (pure [])))) (pure [])))))))) (retM (opM dAdd (getV 2) (opM dIx (getV 5) (fnM (consM (getV 0) (consM (pure (.int 5)) (pure []))) f__law_next)))))))))
noncomputable def f__law_usual : Mf := runB 6 m__law_usual
theorem g__law_usual (C : Ct fa ts fn xs w K mg) : FnG P w K mg base 3 (e__law_usual.ad K) (fdOf K (e__law_usual.ad K)) ["_law_deck_here"] (spM K 1 f__law_usual) := fnJ (d__law_usual C) c__law_usual fun cdv A outer s H E Z W jc =>
  (js_cons (js_parO (i := 1) (j := 2) jc.calm jc.nd (je_call (g__law_edition C) jc (by decide) rfl (C.glo 51) (d__law_edition C).kp (b__law_edition C) (ja_cons (je_var (i := 0)) ja_nil)) (jn_lst (ja_cons (je_tup (ja_cons je_str ja_nil)) ja_nil))) (js_cons (js_if (jt_cmp (oj_eq jc.room.units) (je_call (g__law_next C) jc (by decide) rfl (C.glo 8) (d__law_next C).kp (b__law_next C) (ja_cons (je_var (i := 0)) (ja_cons je_int ja_nil))) je_int) (js_one (js_app (i := 2) (je_tup (ja_cons je_str (ja_cons je_int (ja_cons (je_tup (ja_cons je_str ja_nil)) ja_nil)))))) js_nil) (js_cons (js_for jc.po jc.calm (ji_enum1 rfl (C.free 23) (ja_cons (je_var (i := 1)) ja_nil)) (jg_tup jc.calm (jgs_cons (jg_name (i := 3) (ws := [3, 4]) jc.nd) (jgs_cons (jg_name (i := 4) (ws := [3, 4]) jc.nd) jgs_nil))) (js_cons (js_app (i := 2) (je_tup (ja_cons je_str (ja_cons (je_op oj_add (je_var (i := 3)) je_int) (ja_cons (je_var (i := 4)) ja_nil))))) (js_one (js_if (jt_cmp (oj_eq jc.room.units) (je_call (g__law_next C) jc (by decide) rfl (C.glo 8) (d__law_next C).kp (b__law_next C) (ja_cons (je_var (i := 0)) (ja_cons je_int ja_nil))) je_int) (js_one (js_app (i := 2) (je_tup (ja_cons je_str (ja_cons (je_op oj_sub (kt_lenOwn (i := 2) rfl (C.free 6) boot_len) je_int) (ja_cons (je_tup (ja_cons je_str ja_nil)) ja_nil)))))) js_nil)))) (js_cons (js_app (i := 2) (je_tup (ja_cons je_str (ja_cons (je_var (i := 1)) (ja_cons (je_cmp (oj_eq jc.room.units) (je_call (g__law_next C) jc (by decide) rfl (C.glo 8) (d__law_next C).kp (b__law_next C) (ja_cons (je_var (i := 0)) (ja_cons je_int ja_nil))) je_int) (ja_cons (je_ix (jn_frz (jn_lst (ja_cons je_str (ja_cons je_str (ja_cons je_str (ja_cons je_str ja_nil)))))) (je_call (g__law_next C) jc (by decide) rfl (C.glo 8) (d__law_next C).kp (b__law_next C) (ja_cons (je_var (i := 0)) (ja_cons je_int ja_nil)))) ja_nil)))))) (js_cons (js_set (i := 5) jc.nd (jn_frz (jn_lst (ja_cons (jn_frz (jn_lst ja_nil)) (ja_cons (jn_frz (jn_lst (ja_cons (je_tup (ja_cons je_str ja_nil)) ja_nil))) (ja_cons (jn_frz (jn_lst (ja_cons (je_tup (ja_cons je_str (ja_cons (je_op oj_sub (kt_lenOwn (i := 2) rfl (C.free 6) boot_len) je_int) (ja_cons (je_tup (ja_cons je_str ja_nil)) ja_nil)))) ja_nil))) (ja_cons (jn_frz (jn_lst (ja_cons (je_tup (ja_cons je_str ja_nil)) ja_nil))) (ja_cons (jn_frz (jn_lst (ja_cons (je_tup (ja_cons je_str ja_nil)) (ja_cons (je_tup (ja_cons je_str ja_nil)) ja_nil)))) ja_nil)))))))) (js_one (js_ret (je_op oj_add (je_var (i := 2)) (je_ix (je_var (i := 5)) (je_call (g__law_next C) jc (by decide) rfl (C.glo 8) (d__law_next C).kp (b__law_next C) (ja_cons (je_var (i := 0)) (ja_cons je_int ja_nil))))))))))))
theorem d__law_within (C : Ct fa ts fn xs w K mg) : FunD K "_law_within" "_law_within" (defArgs s__law_within) (defBody s__law_within) (defScope s__law_within) [] [] (e__law_within.ad K) (fdOf K (e__law_within.ad K)) := C.fd 22
theorem b__law_within (C : Ct fa ts fn xs w K mg) : Binds K (fdOf K (e__law_within.ad K)) ["_law_step_here", "_law_lines"] [] := (d__law_within C).bindsN fun _ _ _ _ _ _ us hl => match us, hl with | [_, _], _ => rfl
theorem c__law_within : FnScope ["_law_step_here", "_law_lines"] ["_law_step_here", "_law_lines"] (defScope s__law_within) := ⟨rfl, rfl, rfl, by decide +kernel, rfl, by decide +kernel, by decide +kernel⟩
noncomputable def m__law_within : M Fl := (seqM (ifM (cmpT dEq (opM dIx (getV 0) (pure (.int 0))) (pure (.str "go"))) (retM (tupM (consM (pure (.str "go")) (consM (biM dMin2 (consM (opM dIx (getV 0) (pure (.int 1))) (consM (getV 1) (pure [])))) (consM (opM dIx (getV 0) (pure (.int 2))) (pure [])))))) (pure .next)) (retM (getV 0)))
noncomputable def f__law_within : Mf := runB 2 m__law_within
theorem g__law_within (C : Ct fa ts fn xs w K mg) : FnG P w K mg base 1 (e__law_within.ad K) (fdOf K (e__law_within.ad K)) ["_law_step_here", "_law_lines"] (spM K 2 f__law_within) := fnJ (d__law_within C) c__law_within fun cdv A outer s H E Z W jc =>
  (js_cons (js_if (jt_cmp (oj_eq jc.room.units) (je_ix (je_var (i := 0)) je_int) je_str) (js_one (js_ret (je_tup (ja_cons je_str (ja_cons (je_callB (cj_min2 jc.calm) rfl (C.free 52) (by decide +kernel) (ja_cons (je_ix (je_var (i := 0)) je_int) (ja_cons (je_var (i := 1)) ja_nil))) (ja_cons (je_ix (je_var (i := 0)) je_int) ja_nil)))))) js_nil) (js_one (js_ret (je_var (i := 0)))))
theorem d__law_steps (C : Ct fa ts fn xs w K mg) : FunD K "_law_steps" "_law_steps" (defArgs s__law_steps) (defBody s__law_steps) (defScope s__law_steps) [] [] (e__law_steps.ad K) (fdOf K (e__law_steps.ad K)) := C.fd 23
theorem b__law_steps (C : Ct fa ts fn xs w K mg) : Binds K (fdOf K (e__law_steps.ad K)) ["_law_deck_here", "_law_most"] [] := (d__law_steps C).bindsN fun _ _ _ _ _ _ us hl => match us, hl with | [_, _], _ => rfl
theorem c__law_steps : FnScope ["_law_deck_here", "_law_most", "_law_kind", "_law_many", "_law_steps_here", "_law_turn", "_law_step_here"] ["_law_deck_here", "_law_most"] (defScope s__law_steps) := ⟨rfl, rfl, rfl, by decide +kernel, rfl, by decide +kernel, by decide +kernel⟩
noncomputable def m__law_steps : M Fl := (seqM (asgM (gTupM 2 (gConsM (setV 2) (gConsM (setV 3) gNilM))) (tupM (consM (fnM (consM (getV 0) (consM (pure (.int 4)) (pure []))) f__law_next) (consM (opM dAdd (pure (.int 1)) (fnM (consM (getV 0) (consM (getV 1) (pure []))) f__law_next)) (pure []))))) (seqM (ifM (cmpT dEq (getV 2) (pure (.int 0))) (retM (biM dTuple (consM (lstM (compM [3] [5] (biN dRange1 (consM (getV 3) (pure []))) (setV 5) (pure true) (fnM (consM (getV 0) (consM (getV 3) (pure []))) f__law_step))) (pure [])))) (pure .next)) (seqM (ownS 4 (slN (fnM (consM (getV 0) (pure [])) f__law_usual) (pure none) (bdM (getV 1)))) (seqM (ifM (cmpT dEq (getV 2) (pure (.int 1))) (setIxS 4 (fnM (consM (getV 0) (consM (lenO 4) (pure []))) f__law_step) (fnM (consM (getV 0) (consM (lenO 4) (pure []))) f__law_next)) (pure .next)) (retM (biM dTuple (consM (lstM (compM [4] [6] (itM (getV 4)) (setV 6) (pure true) (fnM (consM (getV 6) (consM (lenO 4) (pure []))) f__law_within))) (pure []))))))))
noncomputable def f__law_steps : Mf := runB 7 m__law_steps
theorem g__law_steps (C : Ct fa ts fn xs w K mg) : FnG P w K mg base 4 (e__law_steps.ad K) (fdOf K (e__law_steps.ad K)) ["_law_deck_here", "_law_most"] (spM K 2 f__law_steps) := fnJ (d__law_steps C) c__law_steps fun cdv A outer s H E Z W jc =>
  (js_cons (js_asg (je_tup (ja_cons (je_call (g__law_next C) jc (by decide) rfl (C.glo 8) (d__law_next C).kp (b__law_next C) (ja_cons (je_var (i := 0)) (ja_cons je_int ja_nil))) (ja_cons (je_op oj_add je_int (je_call (g__law_next C) jc (by decide) rfl (C.glo 8) (d__law_next C).kp (b__law_next C) (ja_cons (je_var (i := 0)) (ja_cons (je_var (i := 1)) ja_nil)))) ja_nil))) (jg_tup jc.calm (jgs_cons (jg_name (i := 2) (ws := [2, 3]) jc.nd) (jgs_cons (jg_name (i := 3) (ws := [2, 3]) jc.nd) jgs_nil)))) (js_cons (js_if (jt_cmp (oj_eq jc.room.units) (je_var (i := 2)) je_int) (js_one (js_ret (je_callT cj_tuple rfl (C.free 12) boot_tuple (ja_cons (jn_frz (jn_lc jc.calm jc.nd [3] [("_law_turn", 5)] (ji_range1 rfl (C.free 1) (ja_cons (je_var (i := 3)) ja_nil)) (blkOk_by rfl) (fun _ _ _ _ _ _ => (jg_name (i := 5) (JC.blk jc).nd)) (fun _ _ _ _ _ _ => jpts_nil) (fun _ _ _ _ _ _ => (je_call (g__law_step C) (JC.blk jc) (by decide) rfl (C.glo 7) (d__law_step C).kp (b__law_step C) (ja_cons (je_var (i := 0)) (ja_cons (je_var (i := 3)) ja_nil)))))) ja_nil)))) js_nil) (js_cons (js_own (i := 4) jc.nd (jn_sl (je_call (g__law_usual C) jc (by decide) rfl (C.glo 55) (d__law_usual C).kp (b__law_usual C) (ja_cons (je_var (i := 0)) ja_nil)) jo_none (jo_some (je_var (i := 1))))) (js_cons (js_if (jt_cmp (oj_eq jc.room.units) (je_var (i := 2)) je_int) (js_one (js_setIx (i := 4) (je_call (g__law_step C) jc (by decide) rfl (C.glo 7) (d__law_step C).kp (b__law_step C) (ja_cons (je_var (i := 0)) (ja_cons (kt_lenOwn (i := 4) rfl (C.free 6) boot_len) ja_nil))) (je_call (g__law_next C) jc (by decide) rfl (C.glo 8) (d__law_next C).kp (b__law_next C) (ja_cons (je_var (i := 0)) (ja_cons (kt_lenOwn (i := 4) rfl (C.free 6) boot_len) ja_nil))))) js_nil) (js_one (js_ret (je_callT cj_tuple rfl (C.free 12) boot_tuple (ja_cons (jn_frz (jn_lc jc.calm jc.nd [4] [("_law_step_here", 6)] (ji_val (je_var (i := 4))) (blkOk_by rfl) (fun _ _ _ _ _ _ => (jg_name (i := 6) (JC.blk jc).nd)) (fun _ _ _ _ _ _ => jpts_nil) (fun _ _ _ _ _ _ => (je_call (g__law_within C) (JC.blk jc) (by decide) rfl (C.glo 56) (d__law_within C).kp (b__law_within C) (ja_cons (je_var (i := 6)) (ja_cons (kt_lenOwn (i := 4) rfl (C.free 6) boot_len) ja_nil)))))) ja_nil))))))))
theorem d__law_data (C : Ct fa ts fn xs w K mg) : FunD K "_law_data" "_law_data" (defArgs s__law_data) (defBody s__law_data) (defScope s__law_data) [] [] (e__law_data.ad K) (fdOf K (e__law_data.ad K)) := C.fd 24
theorem b__law_data (C : Ct fa ts fn xs w K mg) : Binds K (fdOf K (e__law_data.ad K)) ["_law_deck_here", "_law_hands", "_law_most", "_law_faults"] [] := (d__law_data C).bindsN fun _ _ _ _ _ _ us hl => match us, hl with | [_, _, _, _], _ => rfl
theorem c__law_data : FnScope ["_law_deck_here", "_law_hands", "_law_most", "_law_faults", "_law_programs", "_law_four", "_law_wishes", "_law_turn", "_law_place", "_law_steps_here", "_law_hand", "_law_step_here", "_law_wish"] ["_law_deck_here", "_law_hands", "_law_most", "_law_faults"] (defScope s__law_data) := ⟨rfl, rfl, rfl, by decide +kernel, rfl, by decide +kernel, by decide +kernel⟩
noncomputable def m__law_data : M Fl := (seqM (parS3 4 5 6 (consM (lstM (compM [2] [10] (biN dRange1 (consM (getV 1) (pure []))) (setV 10) (pure true) (fnM (consM (getV 0) (consM (getV 2) (pure []))) f__law_steps))) (consM (oNewM (consM (pure (.int 0)) (consM (pure (.int 0)) (consM (pure (.int 0)) (consM (pure (.int 0)) (pure [])))))) (consM (lstM (consM (fnM (consM (getV 0) (pure [])) f__law_edition) (pure []))) (pure []))))) (seqM (forS (biN dRange1 (consM (getV 3) (pure []))) (setV 7) (seqM (setM 8 (opM dIx (lstM (consM (pure (.int 0)) (consM (pure (.int 0)) (consM (pure (.int 1)) (consM (pure (.int 2)) (consM (pure (.int 3)) (consM (pure (.int 1)) (pure [])))))))) (fnM (consM (getV 0) (consM (pure (.int 6)) (pure []))) f__law_next))) (oSetS (biM dMin2 (consM (pure (.int 3)) (consM (opM dAdd (oIxM (getV 5) (getV 8)) (pure (.int 1))) (pure [])))) (getV 5) (getV 8)))) (seqM (forS (itM (getV 4)) (setV 9) (setM 6 (opM dAdd (getV 6) (lstM (compM [] [11] (itM (getV 9)) (setV 11) (cmpT dEq (opM dIx (getV 11) (pure (.int 0))) (pure (.str "join"))) (opM dIx (getV 11) (pure (.int 1)))))))) (seqM (setM 6 (slM (lstM (sortM (lstM (compM [] [12] (itM (getV 6)) (setV 12) (cmpT (dCmp fun i j => decide (j < i)) (fnM (consM (getV 0) (consM (pure (.int 4)) (pure []))) f__law_next) (pure (.int 0))) (getV 12))))) (pure none) (bdM (pure (.int 4))))) (retM (lstM (consM (getV 4) (consM (oTupM (getV 5)) (consM (biM dTuple (consM (getV 6) (pure []))) (consM (opM dEq (fnM (consM (getV 0) (consM (pure (.int 2)) (pure []))) f__law_next) (pure (.int 0))) (pure [])))))))))))
noncomputable def f__law_data : Mf := runT 13 m__law_data
theorem g__law_data (C : Ct fa ts fn xs w K mg) : FnG P w K mg base 5 (e__law_data.ad K) (fdOf K (e__law_data.ad K)) ["_law_deck_here", "_law_hands", "_law_most", "_law_faults"] (spM K 4 f__law_data) := FnG.imp (fnJ (d__law_data C) c__law_data fun cdv A outer s H E Z W jc =>
  (js_cons (js_par3 (i := 4) (j := 5) (l := 6) jc.calm jc.nd (ja_cons (jn_frz (jn_lc jc.calm jc.nd [2] [("_law_hand", 10)] (ji_range1 rfl (C.free 1) (ja_cons (je_var (i := 1)) ja_nil)) (blkOk_by rfl) (fun _ _ _ _ _ _ => (jg_name (i := 10) (JC.blk jc).nd)) (fun _ _ _ _ _ _ => jpts_nil) (fun _ _ _ _ _ _ => (je_call (g__law_steps C) (JC.blk jc) (by decide) rfl (C.glo 2) (d__law_steps C).kp (b__law_steps C) (ja_cons (je_var (i := 0)) (ja_cons (je_var (i := 2)) ja_nil)))))) (ja_cons (je_oNew (jn_lst (ja_cons je_int (ja_cons je_int (ja_cons je_int (ja_cons je_int ja_nil)))))) (ja_cons (jn_frz (jn_lst (ja_cons (je_call (g__law_edition C) jc (by decide) rfl (C.glo 51) (d__law_edition C).kp (b__law_edition C) (ja_cons (je_var (i := 0)) ja_nil)) ja_nil))) ja_nil)))) (js_cons (js_for jc.po jc.calm (ji_range1 rfl (C.free 1) (ja_cons (je_var (i := 3)) ja_nil)) (jg_name (i := 7) (ws := [7]) jc.nd) (js_cons (js_set (i := 8) jc.nd (je_ix (jn_frz (jn_lst (ja_cons je_int (ja_cons je_int (ja_cons je_int (ja_cons je_int (ja_cons je_int (ja_cons je_int ja_nil)))))))) (je_call (g__law_next C) jc (by decide) rfl (C.glo 8) (d__law_next C).kp (b__law_next C) (ja_cons (je_var (i := 0)) (ja_cons je_int ja_nil))))) (js_one (js_oSet (je_callB (cj_min2 jc.calm) rfl (C.free 52) (by decide +kernel) (ja_cons je_int (ja_cons (je_op oj_add (je_oIx (je_var (i := 5)) (je_var (i := 8))) je_int) ja_nil))) (je_var (i := 5)) (je_var (i := 8)))))) (js_cons (js_for jc.po jc.calm (ji_val (je_var (i := 4))) (jg_name (i := 9) (ws := [9]) jc.nd) (js_one (js_set (i := 6) jc.nd (je_op oj_add (je_var (i := 6)) (jn_frz (jn_lc jc.calm jc.nd [] [("_law_step_here", 11)] (ji_val (je_var (i := 9))) (blkOk_by rfl) (fun _ _ _ _ _ _ => (jg_name (i := 11) (JC.blk jc).nd)) (fun _ _ _ _ _ _ => (jpts_one (jt_cmp (oj_eq (JC.blk jc).room.units) (je_ix (je_var (i := 11)) je_int) je_str))) (fun _ _ _ _ _ _ => (je_ix (je_var (i := 11)) je_int)))))))) (js_cons (js_set (i := 6) jc.nd (je_sl (jn_frz (jn_sortSet jc.calm jc.room.units rfl (C.free 53) rfl (C.free 54) (jn_frz (jn_lc jc.calm jc.nd [] [("_law_wish", 12)] (ji_val (je_var (i := 6))) (blkOk_by rfl) (fun _ _ _ _ _ _ => (jg_name (i := 12) (JC.blk jc).nd)) (fun _ _ _ _ _ _ => (jpts_one (jt_cmp (oj_cmp op_gt) (je_call (g__law_next C) (JC.blk jc) (by decide) rfl (C.glo 8) (d__law_next C).kp (b__law_next C) (ja_cons (je_var (i := 0)) (ja_cons je_int ja_nil))) je_int))) (fun _ _ _ _ _ _ => (je_var (i := 12))))))) jo_none (jo_some je_int))) (js_one (js_ret (jn_frz (jn_lst (ja_cons (je_var (i := 4)) (ja_cons (je_oTup rfl (C.free 12) boot_tuple (je_var (i := 5))) (ja_cons (je_callT cj_tuple rfl (C.free 12) boot_tuple (ja_cons (je_var (i := 6)) ja_nil)) (ja_cons (je_cmp (oj_eq jc.room.units) (je_call (g__law_next C) jc (by decide) rfl (C.glo 8) (d__law_next C).kp (b__law_next C) (ja_cons (je_var (i := 0)) (ja_cons je_int ja_nil))) je_int) ja_nil))))))))))))) spM_melt
theorem d__law_deck (C : Ct fa ts fn xs w K mg) : FunD K "_law_deck" "_law_deck" (defArgs s__law_deck) (defBody s__law_deck) (defScope s__law_deck) [] [] (e__law_deck.ad K) (fdOf K (e__law_deck.ad K)) := C.fd 25
theorem b__law_deck (C : Ct fa ts fn xs w K mg) : Binds K (fdOf K (e__law_deck.ad K)) ["_law_script"] [] := (d__law_deck C).bindsN fun _ _ _ _ _ _ us hl => match us, hl with | [_], _ => rfl
theorem c__law_deck : FnScope ["_law_script", "_law_cells", "_law_number"] ["_law_script"] (defScope s__law_deck) := ⟨rfl, rfl, rfl, by decide +kernel, rfl, by decide +kernel, by decide +kernel⟩
noncomputable def m__law_deck : M Fl := (seqM (ownS 1 (compM [] [2] (itM (getV 0)) (setV 2) (pure true) (biM dAbs (consM (getV 2) (pure []))))) (retDeck (compM [] [2] (itM (getV 1)) (setV 2) (cmpT (dCmp fun i j => decide (j ≤ i)) (getV 2) (opM dPow (pure (.int 10)) (pure (.int 18)))) (getV 2)) (addN (getV 1) (lstM (consM (opM dAdd (biM dLen (consM (getV 1) (pure []))) (pure (.int 5))) (pure []))))))
noncomputable def f__law_deck : Mf := runB 3 m__law_deck
theorem g__law_deck (C : Ct fa ts fn xs w K mg) : FnG P w K mg base 1 (e__law_deck.ad K) (fdOf K (e__law_deck.ad K)) ["_law_script"] (spM K 1 f__law_deck) := fnJ (d__law_deck C) c__law_deck fun cdv A outer s H E Z W jc =>
  (js_cons (js_setLc (i := 1) jc.calm jc.nd [] [("_law_number", 2)] (ji_val (je_var (i := 0))) (blkOk_by rfl) (fun _ _ _ _ _ _ => (jg_name (i := 2) (JC.blk jc).nd)) (fun _ _ _ _ _ _ => jpts_nil) (fun _ _ _ _ _ _ => (je_callB cj_abs rfl (C.free 58) boot_abs (ja_cons (je_var (i := 2)) ja_nil)))) (js_one (js_retDeck (jn_lc jc.calm jc.nd [] [("_law_number", 2)] (ji_val (je_var (i := 1))) (blkOk_by rfl) (fun _ _ _ _ _ _ => (jg_name (i := 2) (JC.blk jc).nd)) (fun _ _ _ _ _ _ => (jpts_one (jt_cmp (oj_cmp op_ge) (je_var (i := 2)) (je_op oj_pow je_int je_int)))) (fun _ _ _ _ _ _ => (je_var (i := 2)))) (fun _ => (jn_add (je_var (i := 1)) (jn_frz (jn_lst (ja_cons (je_op oj_add (je_callB cj_len rfl (C.free 6) boot_len (ja_cons (je_var (i := 1)) ja_nil)) je_int) ja_nil))))))))
theorem d__law_moved (C : Ct fa ts fn xs w K mg) : FunD K "_law_moved" "_law_moved" (defArgs s__law_moved) (defBody s__law_moved) (defScope s__law_moved) [] [] (e__law_moved.ad K) (fdOf K (e__law_moved.ad K)) := C.fd 26
theorem b__law_moved (C : Ct fa ts fn xs w K mg) : Binds K (fdOf K (e__law_moved.ad K)) ["_law_step_here", "_law_by"] [] := (d__law_moved C).bindsN fun _ _ _ _ _ _ us hl => match us, hl with | [_, _], _ => rfl
theorem c__law_moved : FnScope ["_law_step_here", "_law_by"] ["_law_step_here", "_law_by"] (defScope s__law_moved) := ⟨rfl, rfl, rfl, by decide +kernel, rfl, by decide +kernel, by decide +kernel⟩
noncomputable def m__law_moved : M Fl := (retM (ifM (cmpT dEq (opM dIx (getV 0) (pure (.int 0))) (pure (.str "go"))) (tupM (consM (pure (.str "go")) (consM (opM dAdd (opM dIx (getV 0) (pure (.int 1))) (getV 1)) (consM (opM dIx (getV 0) (pure (.int 2))) (pure []))))) (getV 0)))
noncomputable def f__law_moved : Mf := runB 2 m__law_moved
theorem g__law_moved (C : Ct fa ts fn xs w K mg) : FnG P w K mg base 1 (e__law_moved.ad K) (fdOf K (e__law_moved.ad K)) ["_law_step_here", "_law_by"] (spM K 2 f__law_moved) := fnJ (d__law_moved C) c__law_moved fun cdv A outer s H E Z W jc =>
  (js_one (js_ret (je_ifExp (jt_cmp (oj_eq jc.room.units) (je_ix (je_var (i := 0)) je_int) je_str) (je_tup (ja_cons je_str (ja_cons (je_op oj_add (je_ix (je_var (i := 0)) je_int) (je_var (i := 1))) (ja_cons (je_ix (je_var (i := 0)) je_int) ja_nil)))) (je_var (i := 0)))))
theorem d_Faultsu_equ (C : Ct fa ts fn xs w K mg) : FunD K "__eq__" "Faults.__eq__" (defArgs s_Faultsu_equ) (defBody s_Faultsu_equ) (defScope s_Faultsu_equ) [] [] (e_Faultsu_equ.ad K) (fdOf K (e_Faultsu_equ.ad K)) := C.fd 27
theorem b_Faultsu_equ (C : Ct fa ts fn xs w K mg) : Binds K (fdOf K (e_Faultsu_equ.ad K)) ["self", "other"] [] := (d_Faultsu_equ C).bindsN fun _ _ _ _ _ _ us hl => match us, hl with | [_, _], _ => rfl
theorem c_Faultsu_equ : FnScope ["self", "other"] ["self", "other"] (defScope s_Faultsu_equ) := ⟨rfl, rfl, rfl, by decide +kernel, rfl, by decide +kernel, by decide +kernel⟩
noncomputable def m_Faultsu_equ : M Fl := (retM (andV (isiC (fun _ => none) it_Faults (getV 1)) (opM dEq (fldG ["Faults", "Case"] "four" (getV 0)) (fldG ["Faults", "Case"] "four" (getV 1)))))
noncomputable def f_Faultsu_equ : Mf := runB 2 m_Faultsu_equ
theorem g_Faultsu_equ (C : Ct fa ts fn xs w K mg) : FnG P w K mg base 1 (e_Faultsu_equ.ad K) (fdOf K (e_Faultsu_equ.ad K)) ["self", "other"] (spM K 2 f_Faultsu_equ) := fnJ (d_Faultsu_equ C) c_Faultsu_equ fun cdv A outer s H E Z W jc =>
  (js_one (js_ret (je_and (je_isiO (by intro _ _ h; cases h) (io_Faults C) rfl (C.free 21) boot_isinstance rfl (C.glo 19) (je_var (i := 1))) (je_one (je_cmp (oj_eq jc.room.units) (je_fld (fc_four C) (je_var (i := 0))) (je_fld (fc_four C) (je_var (i := 1))))))))
noncomputable def qt_Faults (c : Str) : Option Mf := if c = "Faults" then some f_Faultsu_equ else none
theorem eq_ok_Faults {Y : Cx} (C : Ct fa ts fn xs Y.w Y.K Y.mg) {k : Nat} (hk : 2 ≤ k) : ∀ c mf, qt_Faults c = some mf → EqC Y k c mf := fun c mf h => by
  unfold qt_Faults at h
  split at h
  · rename_i e
    cases h
    subst e
    have m := He.meth_ok (C.fact 89 (f := .meth "Faults" "__eq__"))
    exact ⟨⟨_, _, _, _, g_Faultsu_equ C, hk, b_Faultsu_equ C, m.1, m.2⟩, He.cls_ok (C.fact 82), He.eqO_ok (Bool.and_eq_true_iff.mp (C.chk 14 (f := neB "Faults"))).1, of_decide_eq_true (Bool.and_eq_true_iff.mp (C.chk 14 (f := neB "Faults"))).2⟩
  · cases h
theorem d_Programu_equ (C : Ct fa ts fn xs w K mg) : FunD K "__eq__" "Program.__eq__" (defArgs s_Programu_equ) (defBody s_Programu_equ) (defScope s_Programu_equ) [] [] (e_Programu_equ.ad K) (fdOf K (e_Programu_equ.ad K)) := C.fd 28
theorem b_Programu_equ (C : Ct fa ts fn xs w K mg) : Binds K (fdOf K (e_Programu_equ.ad K)) ["self", "other"] [] := (d_Programu_equ C).bindsN fun _ _ _ _ _ _ us hl => match us, hl with | [_, _], _ => rfl
theorem c_Programu_equ : FnScope ["self", "other"] ["self", "other"] (defScope s_Programu_equ) := ⟨rfl, rfl, rfl, by decide +kernel, rfl, by decide +kernel, by decide +kernel⟩
noncomputable def m_Programu_equ : M Fl := (retM (andV (isiC (fun _ => none) it_Program (getV 1)) (opM dEq (fldG ["Program"] "listed" (getV 0)) (fldG ["Program"] "listed" (getV 1)))))
noncomputable def f_Programu_equ : Mf := runB 2 m_Programu_equ
theorem g_Programu_equ (C : Ct fa ts fn xs w K mg) : FnG P w K mg base 1 (e_Programu_equ.ad K) (fdOf K (e_Programu_equ.ad K)) ["self", "other"] (spM K 2 f_Programu_equ) := fnJ (d_Programu_equ C) c_Programu_equ fun cdv A outer s H E Z W jc =>
  (js_one (js_ret (je_and (je_isiO (by intro _ _ h; cases h) (io_Program C) rfl (C.free 21) boot_isinstance rfl (C.glo 4) (je_var (i := 1))) (je_one (je_cmp (oj_eq jc.room.units) (je_fld (fc_listed C) (je_var (i := 0))) (je_fld (fc_listed C) (je_var (i := 1))))))))
noncomputable def qt_Program (c : Str) : Option Mf := if c = "Program" then some f_Programu_equ else none
theorem eq_ok_Program {Y : Cx} (C : Ct fa ts fn xs Y.w Y.K Y.mg) {k : Nat} (hk : 2 ≤ k) : ∀ c mf, qt_Program c = some mf → EqC Y k c mf := fun c mf h => by
  unfold qt_Program at h
  split at h
  · rename_i e
    cases h
    subst e
    have m := He.meth_ok (C.fact 90 (f := .meth "Program" "__eq__"))
    exact ⟨⟨_, _, _, _, g_Programu_equ C, hk, b_Programu_equ C, m.1, m.2⟩, He.cls_ok (C.fact 86), He.eqO_ok (Bool.and_eq_true_iff.mp (C.chk 15 (f := neB "Program"))).1, of_decide_eq_true (Bool.and_eq_true_iff.mp (C.chk 15 (f := neB "Program"))).2⟩
  · cases h
abbrev KUProgram_Faults : Nat := 2
noncomputable def qt_Program_Faults (c : Str) : Option Mf := match qt_Program c with
  | some f => some f
  | none => qt_Faults c
theorem eq_ok_Program_Faults {Y : Cx} (C : Ct fa ts fn xs Y.w Y.K Y.mg) {k : Nat} (hk : 2 ≤ k) : ∀ c mf, qt_Program_Faults c = some mf → EqC Y k c mf := fun c mf h => by
  unfold qt_Program_Faults at h
  split at h
  · rename_i e
    cases h
    exact eq_ok_Program C (Nat.le_trans (by decide) hk) c _ e
  · exact eq_ok_Faults C (Nat.le_trans (by decide) hk) c mf h
theorem d_Caseu_equ (C : Ct fa ts fn xs w K mg) : FunD K "__eq__" "Case.__eq__" (defArgs s_Caseu_equ) (defBody s_Caseu_equ) (defScope s_Caseu_equ) [] [] (e_Caseu_equ.ad K) (fdOf K (e_Caseu_equ.ad K)) := C.fd 29
theorem b_Caseu_equ (C : Ct fa ts fn xs w K mg) : Binds K (fdOf K (e_Caseu_equ.ad K)) ["self", "other"] [] := (d_Caseu_equ C).bindsN fun _ _ _ _ _ _ us hl => match us, hl with | [_, _], _ => rfl
theorem c_Caseu_equ : FnScope ["self", "other"] ["self", "other"] (defScope s_Caseu_equ) := ⟨rfl, rfl, rfl, by decide +kernel, rfl, by decide +kernel, by decide +kernel⟩
noncomputable def m_Caseu_equ : M Fl := (retM (andV (isiC (fun _ => none) it_Case (getV 1)) (eqUM qt_Program_Faults 3 (fldG ["Faults", "Case"] "four" (getV 0)) (fldG ["Faults", "Case"] "four" (getV 1)))))
noncomputable def f_Caseu_equ : Mf := runB 2 m_Caseu_equ
theorem g_Caseu_equ (C : Ct fa ts fn xs w K mg) : FnG P w K mg base 7 (e_Caseu_equ.ad K) (fdOf K (e_Caseu_equ.ad K)) ["self", "other"] (spM K 2 f_Caseu_equ) := fnJ (d_Caseu_equ C) c_Caseu_equ fun cdv A outer s H E Z W jc =>
  (js_one (js_ret (je_and (je_isiO (by intro _ _ h; cases h) (io_Case C) rfl (C.free 21) boot_isinstance rfl (C.glo 45) (je_var (i := 1))) (je_one (je_eqU (k := KUProgram_Faults) 3 (eq_ok_Program_Faults C (Nat.le_refl _)) jc (by decide) (je_fld (fc_four C) (je_var (i := 0))) (je_fld (fc_four C) (je_var (i := 1))))))))
noncomputable def qt_Case (c : Str) : Option Mf := if c = "Case" then some f_Caseu_equ else none
theorem eq_ok_Case {Y : Cx} (C : Ct fa ts fn xs Y.w Y.K Y.mg) {k : Nat} (hk : 8 ≤ k) : ∀ c mf, qt_Case c = some mf → EqC Y k c mf := fun c mf h => by
  unfold qt_Case at h
  split at h
  · rename_i e
    cases h
    subst e
    have m := He.meth_ok (C.fact 88 (f := .meth "Case" "__eq__"))
    exact ⟨⟨_, _, _, _, g_Caseu_equ C, hk, b_Caseu_equ C, m.1, m.2⟩, He.cls_ok (C.fact 84), He.eqO_ok (Bool.and_eq_true_iff.mp (C.chk 13 (f := neB "Case"))).1, of_decide_eq_true (Bool.and_eq_true_iff.mp (C.chk 13 (f := neB "Case"))).2⟩
  · cases h
abbrev KUProgram_Case : Nat := 8
noncomputable def qt_Program_Case (c : Str) : Option Mf := match qt_Program c with
  | some f => some f
  | none => qt_Case c
theorem eq_ok_Program_Case {Y : Cx} (C : Ct fa ts fn xs Y.w Y.K Y.mg) {k : Nat} (hk : 8 ≤ k) : ∀ c mf, qt_Program_Case c = some mf → EqC Y k c mf := fun c mf h => by
  unfold qt_Program_Case at h
  split at h
  · rename_i e
    cases h
    exact eq_ok_Program C (Nat.le_trans (by decide) hk) c _ e
  · exact eq_ok_Case C (Nat.le_trans (by decide) hk) c mf h
theorem d__law_pair_right (C : Ct fa ts fn xs w K mg) : FunD K "_law_pair_right" "_law_pair_right" (defArgs s__law_pair_right) (defBody s__law_pair_right) (defScope s__law_pair_right) [] [] (e__law_pair_right.ad K) (fdOf K (e__law_pair_right.ad K)) := C.fd 30
theorem b__law_pair_right (C : Ct fa ts fn xs w K mg) : Binds K (fdOf K (e__law_pair_right.ad K)) ["_law_one", "_law_other", "_law_told"] [] := (d__law_pair_right C).bindsN fun _ _ _ _ _ _ us hl => match us, hl with | [_, _, _], _ => rfl
theorem c__law_pair_right : FnScope ["_law_one", "_law_other", "_law_told"] ["_law_one", "_law_other", "_law_told"] (defScope s__law_pair_right) := ⟨rfl, rfl, rfl, by decide +kernel, rfl, by decide +kernel, by decide +kernel⟩
noncomputable def m__law_pair_right : M Fl := (retM (opM dEq (opM dEq (opM dIx (getV 2) (pure (.int 0))) (opM dIx (getV 2) (pure (.int 1)))) (eqC qt_Program_Case false (getV 0) (getV 1))))
noncomputable def f__law_pair_right : Mf := runB 3 m__law_pair_right
theorem g__law_pair_right (C : Ct fa ts fn xs w K mg) : FnG P w K mg base 9 (e__law_pair_right.ad K) (fdOf K (e__law_pair_right.ad K)) ["_law_one", "_law_other", "_law_told"] (spM K 3 f__law_pair_right) := fnJ (d__law_pair_right C) c__law_pair_right fun cdv A outer s H E Z W jc =>
  (js_one (js_ret (je_cmp (oj_eq jc.room.units) (je_cmp (oj_eq jc.room.units) (je_ix (je_var (i := 2)) je_int) (je_ix (je_var (i := 2)) je_int)) (je_eqC false (eq_ok_Program_Case C (by decide)) jc (je_var (i := 0)) (je_var (i := 1))))))
theorem d__law_plain (C : Ct fa ts fn xs w K mg) : FunD K "_law_plain" "_law_plain" (defArgs s__law_plain) (defBody s__law_plain) (defScope s__law_plain) [] [] (e__law_plain.ad K) (fdOf K (e__law_plain.ad K)) := C.fd 31
theorem b__law_plain (C : Ct fa ts fn xs w K mg) : Binds K (fdOf K (e__law_plain.ad K)) ["_law_entries"] [] := (d__law_plain C).bindsN fun _ _ _ _ _ _ us hl => match us, hl with | [_], _ => rfl
theorem c__law_plain : FnScope ["_law_entries", "_law_row"] ["_law_entries"] (defScope s__law_plain) := ⟨rfl, rfl, rfl, by decide +kernel, rfl, by decide +kernel, by decide +kernel⟩
noncomputable def m__law_plain : M Fl := (retM (smM dJoin (pure (.str "")) (lstM (compM [] [1] (itM (getV 0)) (setV 1) (pure true) (opM dAdd (smM dJoin (pure (.str " ")) (getV 1)) (pure (.str "\n")))))))
noncomputable def f__law_plain : Mf := runB 2 m__law_plain
theorem g__law_plain (C : Ct fa ts fn xs w K mg) : FnG P w K mg base 1 (e__law_plain.ad K) (fdOf K (e__law_plain.ad K)) ["_law_entries"] (spM K 1 f__law_plain) := fnJ (d__law_plain C) c__law_plain fun cdv A outer s H E Z W jc =>
  (js_one (js_ret (kt_sm1 F.slot_str_join F.type_str_join mj_join je_str (jn_frz (jn_lc jc.calm jc.nd [] [("_law_row", 1)] (ji_val (je_var (i := 0))) (blkOk_by rfl) (fun _ _ _ _ _ _ => (jg_name (i := 1) (JC.blk jc).nd)) (fun _ _ _ _ _ _ => jpts_nil) (fun _ _ _ _ _ _ => (je_op oj_add (kt_sm1 F.slot_str_join F.type_str_join mj_join je_str (je_var (i := 1))) je_str)))))))
theorem d__law_same (C : Ct fa ts fn xs w K mg) : FunD K "_law_same" "_law_same" (defArgs s__law_same) (defBody s__law_same) (defScope s__law_same) [] [] (e__law_same.ad K) (fdOf K (e__law_same.ad K)) := C.fd 32
theorem b__law_same (C : Ct fa ts fn xs w K mg) : Binds K (fdOf K (e__law_same.ad K)) ["_law_found", "_law_due"] [] := (d__law_same C).bindsN fun _ _ _ _ _ _ us hl => match us, hl with | [_, _], _ => rfl
theorem c__law_same : FnScope ["_law_found", "_law_due"] ["_law_found", "_law_due"] (defScope s__law_same) := ⟨rfl, rfl, rfl, by decide +kernel, rfl, by decide +kernel, by decide +kernel⟩
noncomputable def m__law_same : M Fl := (retM (opM dEq (repAM (getV 0)) (repAM (getV 1))))
noncomputable def f__law_same : Mf := runB 2 m__law_same
theorem g__law_same (C : Ct fa ts fn xs w K mg) : FnG P w K mg base 1 (e__law_same.ad K) (fdOf K (e__law_same.ad K)) ["_law_found", "_law_due"] (spM K 2 f__law_same) := fnJ (d__law_same C) c__law_same fun cdv A outer s H E Z W jc =>
  (js_one (js_ret (je_cmp (oj_eq jc.room.units) (kt_repA jc rfl (C.free 59) (je_var (i := 0))) (kt_repA jc rfl (C.free 59) (je_var (i := 1))))))
theorem d__law_words (C : Ct fa ts fn xs w K mg) : FunD K "_law_words" "_law_words" (defArgs s__law_words) (defBody s__law_words) (defScope s__law_words) [] [] (e__law_words.ad K) (fdOf K (e__law_words.ad K)) := C.fd 33
theorem b__law_words (C : Ct fa ts fn xs w K mg) : Binds K (fdOf K (e__law_words.ad K)) ["_law_step_here"] [] := (d__law_words C).bindsN fun _ _ _ _ _ _ us hl => match us, hl with | [_], _ => rfl
theorem c__law_words : FnScope ["_law_step_here", "_law_piece", "_law_item"] ["_law_step_here"] (defScope s__law_words) := ⟨rfl, rfl, rfl, by decide +kernel, rfl, by decide +kernel, by decide +kernel⟩
noncomputable def m__law_words : M Fl := (seqM (ifM (cmpT dEq (opM dIx (getV 0) (pure (.int 0))) (pure (.str "join"))) (retM (opM dAdd (opM dAdd (lstM (consM (pure (.str "join")) (pure []))) (lstM (compM [] [1] (itM (opM dIx (getV 0) (pure (.int 1)))) (setV 1) (pure true) (biM dStr (consM (getV 1) (pure [])))))) (lstM (consM (ifM (trueM (opM dIx (getV 0) (pure (.int 2)))) (pure (.str "checked")) (pure (.str "unchecked"))) (consM (opM dIx (getV 0) (pure (.int 3))) (pure [])))))) (pure .next)) (seqM (ifM (cmpT dEq (opM dIx (getV 0) (pure (.int 0))) (pure (.str "go"))) (retM (opM dAdd (lstM (consM (pure (.str "go")) (consM (biM dStr (consM (opM dIx (getV 0) (pure (.int 1))) (pure []))) (pure [])))) (lstM (biN dList (consM (opM dIx (getV 0) (pure (.int 2))) (pure [])))))) (pure .next)) (retM (lstM (compM [] [2] (itM (getV 0)) (setV 2) (pure true) (biM dStr (consM (getV 2) (pure []))))))))
noncomputable def f__law_words : Mf := runB 3 m__law_words
theorem g__law_words (C : Ct fa ts fn xs w K mg) : FnG P w K mg base 1 (e__law_words.ad K) (fdOf K (e__law_words.ad K)) ["_law_step_here"] (spM K 1 f__law_words) := fnJ (d__law_words C) c__law_words fun cdv A outer s H E Z W jc =>
  (js_cons (js_if (jt_cmp (oj_eq jc.room.units) (je_ix (je_var (i := 0)) je_int) je_str) (js_one (js_ret (je_op oj_add (je_op oj_add (jn_frz (jn_lst (ja_cons je_str ja_nil))) (jn_frz (jn_lc jc.calm jc.nd [] [("_law_piece", 1)] (ji_val (je_ix (je_var (i := 0)) je_int)) (blkOk_by rfl) (fun _ _ _ _ _ _ => (jg_name (i := 1) (JC.blk jc).nd)) (fun _ _ _ _ _ _ => jpts_nil) (fun _ _ _ _ _ _ => (je_callT cj_str rfl (C.free 25) boot_str (ja_cons (je_var (i := 1)) ja_nil)))))) (jn_frz (jn_lst (ja_cons (je_ifExp (jt_truth (je_ix (je_var (i := 0)) je_int)) je_str je_str) (ja_cons (je_ix (je_var (i := 0)) je_int) ja_nil))))))) js_nil) (js_cons (js_if (jt_cmp (oj_eq jc.room.units) (je_ix (je_var (i := 0)) je_int) je_str) (js_one (js_ret (je_op oj_add (jn_frz (jn_lst (ja_cons je_str (ja_cons (je_callT cj_str rfl (C.free 25) boot_str (ja_cons (je_ix (je_var (i := 0)) je_int) ja_nil)) ja_nil)))) (jn_frz (jn_callT cj_list rfl (C.free 60) boot_list (ja_cons (je_ix (je_var (i := 0)) je_int) ja_nil)))))) js_nil) (js_one (js_ret (jn_frz (jn_lc jc.calm jc.nd [] [("_law_item", 2)] (ji_val (je_var (i := 0))) (blkOk_by rfl) (fun _ _ _ _ _ _ => (jg_name (i := 2) (JC.blk jc).nd)) (fun _ _ _ _ _ _ => jpts_nil) (fun _ _ _ _ _ _ => (je_callT cj_str rfl (C.free 25) boot_str (ja_cons (je_var (i := 2)) ja_nil)))))))))
theorem d_step_words (C : Ct fa ts fn xs w K mg) : FunD K "step_words" "step_words" (defArgs s_step_words) (defBody s_step_words) (defScope s_step_words) [] [] (e_step_words.ad K) (fdOf K (e_step_words.ad K)) := C.fd 34
theorem b_step_words (C : Ct fa ts fn xs w K mg) : Binds K (fdOf K (e_step_words.ad K)) ["step"] [] := (d_step_words C).bindsN fun _ _ _ _ _ _ us hl => match us, hl with | [_], _ => rfl
theorem c_step_words : FnScope ["step", "word", "edition", "checked", "when", "piece", "item"] ["step"] (defScope s_step_words) := ⟨rfl, rfl, rfl, by decide +kernel, rfl, by decide +kernel, by decide +kernel⟩
noncomputable def m_step_words : M Fl := (seqM (ifM (cmpT dEq (opM dIx (getV 0) (pure (.int 0))) (pure (.str "join"))) (seqM (asgM (gTupM 4 (gConsM (setV 1) (gConsM (setV 2) (gConsM (setV 3) (gConsM (setV 4) gNilM))))) (getV 0)) (retM (opM dAdd (opM dAdd (lstM (consM (getV 1) (pure []))) (lstM (compM [] [5] (itM (getV 2)) (setV 5) (pure true) (biM dStr (consM (getV 5) (pure [])))))) (lstM (consM (ifM (trueM (getV 3)) (pure (.str "checked")) (pure (.str "unchecked"))) (consM (getV 4) (pure []))))))) (pure .next)) (seqM (ifM (cmpT dEq (opM dIx (getV 0) (pure (.int 0))) (pure (.str "go"))) (retM (opM dAdd (lstM (consM (opM dIx (getV 0) (pure (.int 0))) (consM (biM dStr (consM (opM dIx (getV 0) (pure (.int 1))) (pure []))) (pure [])))) (lstM (biN dList (consM (opM dIx (getV 0) (pure (.int 2))) (pure [])))))) (pure .next)) (retM (lstM (compM [] [6] (itM (getV 0)) (setV 6) (pure true) (biM dStr (consM (getV 6) (pure []))))))))
noncomputable def f_step_words : Mf := runB 7 m_step_words
theorem g_step_words (C : Ct fa ts fn xs w K mg) : FnG P w K mg base 1 (e_step_words.ad K) (fdOf K (e_step_words.ad K)) ["step"] (spM K 1 f_step_words) := fnJ (d_step_words C) c_step_words fun cdv A outer s H E Z W jc =>
  (js_cons (js_if (jt_cmp (oj_eq jc.room.units) (je_ix (je_var (i := 0)) je_int) je_str) (js_cons (js_asg (je_var (i := 0)) (jg_tup jc.calm (jgs_cons (jg_name (i := 1) (ws := [1, 2, 3, 4]) jc.nd) (jgs_cons (jg_name (i := 2) (ws := [1, 2, 3, 4]) jc.nd) (jgs_cons (jg_name (i := 3) (ws := [1, 2, 3, 4]) jc.nd) (jgs_cons (jg_name (i := 4) (ws := [1, 2, 3, 4]) jc.nd) jgs_nil)))))) (js_one (js_ret (je_op oj_add (je_op oj_add (jn_frz (jn_lst (ja_cons (je_var (i := 1)) ja_nil))) (jn_frz (jn_lc jc.calm jc.nd [] [("piece", 5)] (ji_val (je_var (i := 2))) (blkOk_by rfl) (fun _ _ _ _ _ _ => (jg_name (i := 5) (JC.blk jc).nd)) (fun _ _ _ _ _ _ => jpts_nil) (fun _ _ _ _ _ _ => (je_callT cj_str rfl (C.free 25) boot_str (ja_cons (je_var (i := 5)) ja_nil)))))) (jn_frz (jn_lst (ja_cons (je_ifExp (jt_truth (je_var (i := 3))) je_str je_str) (ja_cons (je_var (i := 4)) ja_nil)))))))) js_nil) (js_cons (js_if (jt_cmp (oj_eq jc.room.units) (je_ix (je_var (i := 0)) je_int) je_str) (js_one (js_ret (je_op oj_add (jn_frz (jn_lst (ja_cons (je_ix (je_var (i := 0)) je_int) (ja_cons (je_callT cj_str rfl (C.free 25) boot_str (ja_cons (je_ix (je_var (i := 0)) je_int) ja_nil)) ja_nil)))) (jn_frz (jn_callT cj_list rfl (C.free 60) boot_list (ja_cons (je_ix (je_var (i := 0)) je_int) ja_nil)))))) js_nil) (js_one (js_ret (jn_frz (jn_lc jc.calm jc.nd [] [("item", 6)] (ji_val (je_var (i := 0))) (blkOk_by rfl) (fun _ _ _ _ _ _ => (jg_name (i := 6) (JC.blk jc).nd)) (fun _ _ _ _ _ _ => jpts_nil) (fun _ _ _ _ _ _ => (je_callT cj_str rfl (C.free 25) boot_str (ja_cons (je_var (i := 6)) ja_nil)))))))))
theorem d_Program_steps (C : Ct fa ts fn xs w K mg) : FunD K "steps" "Program.steps" (defArgs s_Program_steps) (defBody s_Program_steps) (defScope s_Program_steps) [] [] (e_Program_steps.ad K) (fdOf K (e_Program_steps.ad K)) := C.fd 35
theorem b_Program_steps (C : Ct fa ts fn xs w K mg) : Binds K (fdOf K (e_Program_steps.ad K)) ["self"] [] := (d_Program_steps C).bindsN fun _ _ _ _ _ _ us hl => match us, hl with | [_], _ => rfl
theorem c_Program_steps : FnScope ["self"] ["self"] (defScope s_Program_steps) := ⟨rfl, rfl, rfl, by decide +kernel, rfl, by decide +kernel, by decide +kernel⟩
noncomputable def m_Program_steps : M Fl := (retM (fldG ["Program"] "listed" (getV 0)))
noncomputable def f_Program_steps : Mf := runB 1 m_Program_steps
theorem g_Program_steps (C : Ct fa ts fn xs w K mg) : FnG P w K mg base 1 (e_Program_steps.ad K) (fdOf K (e_Program_steps.ad K)) ["self"] (spM K 1 f_Program_steps) := fnJ (d_Program_steps C) c_Program_steps fun cdv A outer s H E Z W jc =>
  (js_one (js_ret (je_fld (fc_listed C) (je_var (i := 0)))))
noncomputable def pt_steps (c : Str) : Option Mf := if c = "Program" then some f_Program_steps else none
theorem po_steps (C : Ct fa ts fn xs w K mg) {k : Nat} (hk : 2 ≤ k) : ∀ c mf, pt_steps c = some mf → ∃ q g fd ps j, Cls K (He.ga K c) ∧ PropOf K (He.ga K c) "steps" q g ∧ FnG P w K mg base j g fd ps (spM K 1 mf) ∧ j + 1 ≤ k ∧ Binds K fd ps [] := fun c mf h => by
  unfold pt_steps at h
  split at h
  · rename_i e
    cases h
    subst e
    exact ⟨_, _, _, _, _, He.cls_ok (C.fact 86), proB_ok (C.chk 23), g_Program_steps C, hk, b_Program_steps C⟩
  · cases h
theorem d_program_text (C : Ct fa ts fn xs w K mg) : FunD K "program_text" "program_text" (defArgs s_program_text) (defBody s_program_text) (defScope s_program_text) [] [] (e_program_text.ad K) (fdOf K (e_program_text.ad K)) := C.fd 36
theorem b_program_text (C : Ct fa ts fn xs w K mg) : Binds K (fdOf K (e_program_text.ad K)) ["program"] [] := (d_program_text C).bindsN fun _ _ _ _ _ _ us hl => match us, hl with | [_], _ => rfl
theorem c_program_text : FnScope ["program", "step"] ["program"] (defScope s_program_text) := ⟨rfl, rfl, rfl, by decide +kernel, rfl, by decide +kernel, by decide +kernel⟩
noncomputable def m_program_text : M Fl := (retM (smM dJoin (pure (.str "")) (lstM (compM [] [1] (itM (propM pt_steps (getV 0))) (setV 1) (pure true) (opM dAdd (smM dJoin (pure (.str " ")) (fnM (consM (getV 1) (pure [])) f_step_words)) (pure (.str "\n")))))))
noncomputable def f_program_text : Mf := runB 2 m_program_text
theorem g_program_text (C : Ct fa ts fn xs w K mg) : FnG P w K mg base 3 (e_program_text.ad K) (fdOf K (e_program_text.ad K)) ["program"] (spM K 1 f_program_text) := fnJ (d_program_text C) c_program_text fun cdv A outer s H E Z W jc =>
  (js_one (js_ret (kt_sm1 F.slot_str_join F.type_str_join mj_join je_str (jn_frz (jn_lc jc.calm jc.nd [] [("step", 1)] (ji_val (je_prop (po_steps C (by decide)) jc (je_var (i := 0)))) (blkOk_by rfl) (fun _ _ _ _ _ _ => (jg_name (i := 1) (JC.blk jc).nd)) (fun _ _ _ _ _ _ => jpts_nil) (fun _ _ _ _ _ _ => (je_op oj_add (kt_sm1 F.slot_str_join F.type_str_join mj_join je_str (je_call (g_step_words C) (JC.blk jc) (by decide) rfl (C.glo 61) (d_step_words C).kp (b_step_words C) (ja_cons (je_var (i := 1)) ja_nil))) je_str)))))))
theorem d_Faults_falls (C : Ct fa ts fn xs w K mg) : FunD K "falls" "Faults.falls" (defArgs s_Faults_falls) (defBody s_Faults_falls) (defScope s_Faults_falls) [] [] (e_Faults_falls.ad K) (fdOf K (e_Faults_falls.ad K)) := C.fd 37
theorem b_Faults_falls (C : Ct fa ts fn xs w K mg) : Binds K (fdOf K (e_Faults_falls.ad K)) ["self"] [] := (d_Faults_falls C).bindsN fun _ _ _ _ _ _ us hl => match us, hl with | [_], _ => rfl
theorem c_Faults_falls : FnScope ["self"] ["self"] (defScope s_Faults_falls) := ⟨rfl, rfl, rfl, by decide +kernel, rfl, by decide +kernel, by decide +kernel⟩
noncomputable def m_Faults_falls : M Fl := (retM (opM dIx (fldG ["Faults", "Case"] "four" (getV 0)) (pure (.int 2))))
noncomputable def f_Faults_falls : Mf := runB 1 m_Faults_falls
theorem g_Faults_falls (C : Ct fa ts fn xs w K mg) : FnG P w K mg base 1 (e_Faults_falls.ad K) (fdOf K (e_Faults_falls.ad K)) ["self"] (spM K 1 f_Faults_falls) := fnJ (d_Faults_falls C) c_Faults_falls fun cdv A outer s H E Z W jc =>
  (js_one (js_ret (je_ix (je_fld (fc_four C) (je_var (i := 0))) je_int)))
noncomputable def pt_falls (c : Str) : Option Mf := if c = "Faults" then some f_Faults_falls else none
theorem po_falls (C : Ct fa ts fn xs w K mg) {k : Nat} (hk : 2 ≤ k) : ∀ c mf, pt_falls c = some mf → ∃ q g fd ps j, Cls K (He.ga K c) ∧ PropOf K (He.ga K c) "falls" q g ∧ FnG P w K mg base j g fd ps (spM K 1 mf) ∧ j + 1 ≤ k ∧ Binds K fd ps [] := fun c mf h => by
  unfold pt_falls at h
  split at h
  · rename_i e
    cases h
    subst e
    exact ⟨_, _, _, _, _, He.cls_ok (C.fact 82), proB_ok (C.chk 17), g_Faults_falls C, hk, b_Faults_falls C⟩
  · cases h
theorem d_Case_faults (C : Ct fa ts fn xs w K mg) : FunD K "faults" "Case.faults" (defArgs s_Case_faults) (defBody s_Case_faults) (defScope s_Case_faults) [] [] (e_Case_faults.ad K) (fdOf K (e_Case_faults.ad K)) := C.fd 38
theorem b_Case_faults (C : Ct fa ts fn xs w K mg) : Binds K (fdOf K (e_Case_faults.ad K)) ["self"] [] := (d_Case_faults C).bindsN fun _ _ _ _ _ _ us hl => match us, hl with | [_], _ => rfl
theorem c_Case_faults : FnScope ["self"] ["self"] (defScope s_Case_faults) := ⟨rfl, rfl, rfl, by decide +kernel, rfl, by decide +kernel, by decide +kernel⟩
noncomputable def m_Case_faults : M Fl := (retM (opM dIx (fldG ["Faults", "Case"] "four" (getV 0)) (pure (.int 1))))
noncomputable def f_Case_faults : Mf := runB 1 m_Case_faults
theorem g_Case_faults (C : Ct fa ts fn xs w K mg) : FnG P w K mg base 1 (e_Case_faults.ad K) (fdOf K (e_Case_faults.ad K)) ["self"] (spM K 1 f_Case_faults) := fnJ (d_Case_faults C) c_Case_faults fun cdv A outer s H E Z W jc =>
  (js_one (js_ret (je_ix (je_fld (fc_four C) (je_var (i := 0))) je_int)))
noncomputable def pt_faults (c : Str) : Option Mf := if c = "Case" then some f_Case_faults else none
theorem po_faults (C : Ct fa ts fn xs w K mg) {k : Nat} (hk : 2 ≤ k) : ∀ c mf, pt_faults c = some mf → ∃ q g fd ps j, Cls K (He.ga K c) ∧ PropOf K (He.ga K c) "faults" q g ∧ FnG P w K mg base j g fd ps (spM K 1 mf) ∧ j + 1 ≤ k ∧ Binds K fd ps [] := fun c mf h => by
  unfold pt_faults at h
  split at h
  · rename_i e
    cases h
    subst e
    exact ⟨_, _, _, _, _, He.cls_ok (C.fact 84), proB_ok (C.chk 18), g_Case_faults C, hk, b_Case_faults C⟩
  · cases h
theorem d_Case_fresh (C : Ct fa ts fn xs w K mg) : FunD K "fresh" "Case.fresh" (defArgs s_Case_fresh) (defBody s_Case_fresh) (defScope s_Case_fresh) [] [] (e_Case_fresh.ad K) (fdOf K (e_Case_fresh.ad K)) := C.fd 39
theorem b_Case_fresh (C : Ct fa ts fn xs w K mg) : Binds K (fdOf K (e_Case_fresh.ad K)) ["self"] [] := (d_Case_fresh C).bindsN fun _ _ _ _ _ _ us hl => match us, hl with | [_], _ => rfl
theorem c_Case_fresh : FnScope ["self"] ["self"] (defScope s_Case_fresh) := ⟨rfl, rfl, rfl, by decide +kernel, rfl, by decide +kernel, by decide +kernel⟩
noncomputable def m_Case_fresh : M Fl := (retM (opM dIx (fldG ["Faults", "Case"] "four" (getV 0)) (pure (.int 3))))
noncomputable def f_Case_fresh : Mf := runB 1 m_Case_fresh
theorem g_Case_fresh (C : Ct fa ts fn xs w K mg) : FnG P w K mg base 1 (e_Case_fresh.ad K) (fdOf K (e_Case_fresh.ad K)) ["self"] (spM K 1 f_Case_fresh) := fnJ (d_Case_fresh C) c_Case_fresh fun cdv A outer s H E Z W jc =>
  (js_one (js_ret (je_ix (je_fld (fc_four C) (je_var (i := 0))) je_int)))
noncomputable def pt_fresh (c : Str) : Option Mf := if c = "Case" then some f_Case_fresh else none
theorem po_fresh (C : Ct fa ts fn xs w K mg) {k : Nat} (hk : 2 ≤ k) : ∀ c mf, pt_fresh c = some mf → ∃ q g fd ps j, Cls K (He.ga K c) ∧ PropOf K (He.ga K c) "fresh" q g ∧ FnG P w K mg base j g fd ps (spM K 1 mf) ∧ j + 1 ≤ k ∧ Binds K fd ps [] := fun c mf h => by
  unfold pt_fresh at h
  split at h
  · rename_i e
    cases h
    subst e
    exact ⟨_, _, _, _, _, He.cls_ok (C.fact 84), proB_ok (C.chk 19), g_Case_fresh C, hk, b_Case_fresh C⟩
  · cases h
theorem d_Faults_late (C : Ct fa ts fn xs w K mg) : FunD K "late" "Faults.late" (defArgs s_Faults_late) (defBody s_Faults_late) (defScope s_Faults_late) [] [] (e_Faults_late.ad K) (fdOf K (e_Faults_late.ad K)) := C.fd 40
theorem b_Faults_late (C : Ct fa ts fn xs w K mg) : Binds K (fdOf K (e_Faults_late.ad K)) ["self"] [] := (d_Faults_late C).bindsN fun _ _ _ _ _ _ us hl => match us, hl with | [_], _ => rfl
theorem c_Faults_late : FnScope ["self"] ["self"] (defScope s_Faults_late) := ⟨rfl, rfl, rfl, by decide +kernel, rfl, by decide +kernel, by decide +kernel⟩
noncomputable def m_Faults_late : M Fl := (retM (opM dIx (fldG ["Faults", "Case"] "four" (getV 0)) (pure (.int 1))))
noncomputable def f_Faults_late : Mf := runB 1 m_Faults_late
theorem g_Faults_late (C : Ct fa ts fn xs w K mg) : FnG P w K mg base 1 (e_Faults_late.ad K) (fdOf K (e_Faults_late.ad K)) ["self"] (spM K 1 f_Faults_late) := fnJ (d_Faults_late C) c_Faults_late fun cdv A outer s H E Z W jc =>
  (js_one (js_ret (je_ix (je_fld (fc_four C) (je_var (i := 0))) je_int)))
noncomputable def pt_late (c : Str) : Option Mf := if c = "Faults" then some f_Faults_late else none
theorem po_late (C : Ct fa ts fn xs w K mg) {k : Nat} (hk : 2 ≤ k) : ∀ c mf, pt_late c = some mf → ∃ q g fd ps j, Cls K (He.ga K c) ∧ PropOf K (He.ga K c) "late" q g ∧ FnG P w K mg base j g fd ps (spM K 1 mf) ∧ j + 1 ≤ k ∧ Binds K fd ps [] := fun c mf h => by
  unfold pt_late at h
  split at h
  · rename_i e
    cases h
    subst e
    exact ⟨_, _, _, _, _, He.cls_ok (C.fact 82), proB_ok (C.chk 20), g_Faults_late C, hk, b_Faults_late C⟩
  · cases h
theorem d_Faults_lost (C : Ct fa ts fn xs w K mg) : FunD K "lost" "Faults.lost" (defArgs s_Faults_lost) (defBody s_Faults_lost) (defScope s_Faults_lost) [] [] (e_Faults_lost.ad K) (fdOf K (e_Faults_lost.ad K)) := C.fd 41
theorem b_Faults_lost (C : Ct fa ts fn xs w K mg) : Binds K (fdOf K (e_Faults_lost.ad K)) ["self"] [] := (d_Faults_lost C).bindsN fun _ _ _ _ _ _ us hl => match us, hl with | [_], _ => rfl
theorem c_Faults_lost : FnScope ["self"] ["self"] (defScope s_Faults_lost) := ⟨rfl, rfl, rfl, by decide +kernel, rfl, by decide +kernel, by decide +kernel⟩
noncomputable def m_Faults_lost : M Fl := (retM (opM dIx (fldG ["Faults", "Case"] "four" (getV 0)) (pure (.int 0))))
noncomputable def f_Faults_lost : Mf := runB 1 m_Faults_lost
theorem g_Faults_lost (C : Ct fa ts fn xs w K mg) : FnG P w K mg base 1 (e_Faults_lost.ad K) (fdOf K (e_Faults_lost.ad K)) ["self"] (spM K 1 f_Faults_lost) := fnJ (d_Faults_lost C) c_Faults_lost fun cdv A outer s H E Z W jc =>
  (js_one (js_ret (je_ix (je_fld (fc_four C) (je_var (i := 0))) je_int)))
noncomputable def pt_lost (c : Str) : Option Mf := if c = "Faults" then some f_Faults_lost else none
theorem po_lost (C : Ct fa ts fn xs w K mg) {k : Nat} (hk : 2 ≤ k) : ∀ c mf, pt_lost c = some mf → ∃ q g fd ps j, Cls K (He.ga K c) ∧ PropOf K (He.ga K c) "lost" q g ∧ FnG P w K mg base j g fd ps (spM K 1 mf) ∧ j + 1 ≤ k ∧ Binds K fd ps [] := fun c mf h => by
  unfold pt_lost at h
  split at h
  · rename_i e
    cases h
    subst e
    exact ⟨_, _, _, _, _, He.cls_ok (C.fact 82), proB_ok (C.chk 21), g_Faults_lost C, hk, b_Faults_lost C⟩
  · cases h
theorem d_Case_programs (C : Ct fa ts fn xs w K mg) : FunD K "programs" "Case.programs" (defArgs s_Case_programs) (defBody s_Case_programs) (defScope s_Case_programs) [] [] (e_Case_programs.ad K) (fdOf K (e_Case_programs.ad K)) := C.fd 42
theorem b_Case_programs (C : Ct fa ts fn xs w K mg) : Binds K (fdOf K (e_Case_programs.ad K)) ["self"] [] := (d_Case_programs C).bindsN fun _ _ _ _ _ _ us hl => match us, hl with | [_], _ => rfl
theorem c_Case_programs : FnScope ["self"] ["self"] (defScope s_Case_programs) := ⟨rfl, rfl, rfl, by decide +kernel, rfl, by decide +kernel, by decide +kernel⟩
noncomputable def m_Case_programs : M Fl := (retM (opM dIx (fldG ["Faults", "Case"] "four" (getV 0)) (pure (.int 0))))
noncomputable def f_Case_programs : Mf := runB 1 m_Case_programs
theorem g_Case_programs (C : Ct fa ts fn xs w K mg) : FnG P w K mg base 1 (e_Case_programs.ad K) (fdOf K (e_Case_programs.ad K)) ["self"] (spM K 1 f_Case_programs) := fnJ (d_Case_programs C) c_Case_programs fun cdv A outer s H E Z W jc =>
  (js_one (js_ret (je_ix (je_fld (fc_four C) (je_var (i := 0))) je_int)))
noncomputable def pt_programs (c : Str) : Option Mf := if c = "Case" then some f_Case_programs else none
theorem po_programs (C : Ct fa ts fn xs w K mg) {k : Nat} (hk : 2 ≤ k) : ∀ c mf, pt_programs c = some mf → ∃ q g fd ps j, Cls K (He.ga K c) ∧ PropOf K (He.ga K c) "programs" q g ∧ FnG P w K mg base j g fd ps (spM K 1 mf) ∧ j + 1 ≤ k ∧ Binds K fd ps [] := fun c mf h => by
  unfold pt_programs at h
  split at h
  · rename_i e
    cases h
    subst e
    exact ⟨_, _, _, _, _, He.cls_ok (C.fact 84), proB_ok (C.chk 22), g_Case_programs C, hk, b_Case_programs C⟩
  · cases h
theorem d_Faults_sweeps (C : Ct fa ts fn xs w K mg) : FunD K "sweeps" "Faults.sweeps" (defArgs s_Faults_sweeps) (defBody s_Faults_sweeps) (defScope s_Faults_sweeps) [] [] (e_Faults_sweeps.ad K) (fdOf K (e_Faults_sweeps.ad K)) := C.fd 43
theorem b_Faults_sweeps (C : Ct fa ts fn xs w K mg) : Binds K (fdOf K (e_Faults_sweeps.ad K)) ["self"] [] := (d_Faults_sweeps C).bindsN fun _ _ _ _ _ _ us hl => match us, hl with | [_], _ => rfl
theorem c_Faults_sweeps : FnScope ["self"] ["self"] (defScope s_Faults_sweeps) := ⟨rfl, rfl, rfl, by decide +kernel, rfl, by decide +kernel, by decide +kernel⟩
noncomputable def m_Faults_sweeps : M Fl := (retM (opM dIx (fldG ["Faults", "Case"] "four" (getV 0)) (pure (.int 3))))
noncomputable def f_Faults_sweeps : Mf := runB 1 m_Faults_sweeps
theorem g_Faults_sweeps (C : Ct fa ts fn xs w K mg) : FnG P w K mg base 1 (e_Faults_sweeps.ad K) (fdOf K (e_Faults_sweeps.ad K)) ["self"] (spM K 1 f_Faults_sweeps) := fnJ (d_Faults_sweeps C) c_Faults_sweeps fun cdv A outer s H E Z W jc =>
  (js_one (js_ret (je_ix (je_fld (fc_four C) (je_var (i := 0))) je_int)))
noncomputable def pt_sweeps (c : Str) : Option Mf := if c = "Faults" then some f_Faults_sweeps else none
theorem po_sweeps (C : Ct fa ts fn xs w K mg) {k : Nat} (hk : 2 ≤ k) : ∀ c mf, pt_sweeps c = some mf → ∃ q g fd ps j, Cls K (He.ga K c) ∧ PropOf K (He.ga K c) "sweeps" q g ∧ FnG P w K mg base j g fd ps (spM K 1 mf) ∧ j + 1 ≤ k ∧ Binds K fd ps [] := fun c mf h => by
  unfold pt_sweeps at h
  split at h
  · rename_i e
    cases h
    subst e
    exact ⟨_, _, _, _, _, He.cls_ok (C.fact 82), proB_ok (C.chk 24), g_Faults_sweeps C, hk, b_Faults_sweeps C⟩
  · cases h
theorem d_Case_wishes (C : Ct fa ts fn xs w K mg) : FunD K "wishes" "Case.wishes" (defArgs s_Case_wishes) (defBody s_Case_wishes) (defScope s_Case_wishes) [] [] (e_Case_wishes.ad K) (fdOf K (e_Case_wishes.ad K)) := C.fd 44
theorem b_Case_wishes (C : Ct fa ts fn xs w K mg) : Binds K (fdOf K (e_Case_wishes.ad K)) ["self"] [] := (d_Case_wishes C).bindsN fun _ _ _ _ _ _ us hl => match us, hl with | [_], _ => rfl
theorem c_Case_wishes : FnScope ["self"] ["self"] (defScope s_Case_wishes) := ⟨rfl, rfl, rfl, by decide +kernel, rfl, by decide +kernel, by decide +kernel⟩
noncomputable def m_Case_wishes : M Fl := (retM (opM dIx (fldG ["Faults", "Case"] "four" (getV 0)) (pure (.int 2))))
noncomputable def f_Case_wishes : Mf := runB 1 m_Case_wishes
theorem g_Case_wishes (C : Ct fa ts fn xs w K mg) : FnG P w K mg base 1 (e_Case_wishes.ad K) (fdOf K (e_Case_wishes.ad K)) ["self"] (spM K 1 f_Case_wishes) := fnJ (d_Case_wishes C) c_Case_wishes fun cdv A outer s H E Z W jc =>
  (js_one (js_ret (je_ix (je_fld (fc_four C) (je_var (i := 0))) je_int)))
noncomputable def pt_wishes (c : Str) : Option Mf := if c = "Case" then some f_Case_wishes else none
theorem po_wishes (C : Ct fa ts fn xs w K mg) {k : Nat} (hk : 2 ≤ k) : ∀ c mf, pt_wishes c = some mf → ∃ q g fd ps j, Cls K (He.ga K c) ∧ PropOf K (He.ga K c) "wishes" q g ∧ FnG P w K mg base j g fd ps (spM K 1 mf) ∧ j + 1 ≤ k ∧ Binds K fd ps [] := fun c mf h => by
  unfold pt_wishes at h
  split at h
  · rename_i e
    cases h
    subst e
    exact ⟨_, _, _, _, _, He.cls_ok (C.fact 84), proB_ok (C.chk 25), g_Case_wishes C, hk, b_Case_wishes C⟩
  · cases h
theorem d_case_text (C : Ct fa ts fn xs w K mg) : FunD K "case_text" "case_text" (defArgs s_case_text) (defBody s_case_text) (defScope s_case_text) [] [] (e_case_text.ad K) (fdOf K (e_case_text.ad K)) := C.fd 45
theorem b_case_text (C : Ct fa ts fn xs w K mg) : Binds K (fdOf K (e_case_text.ad K)) ["case"] [] := (d_case_text C).bindsN fun _ _ _ _ _ _ us hl => match us, hl with | [_], _ => rfl
theorem c_case_text : FnScope ["case", "faults", "rows", "wish", "found", "program", "piece", "row"] ["case"] (defScope s_case_text) := ⟨rfl, rfl, rfl, by decide +kernel, rfl, by decide +kernel, by decide +kernel⟩
noncomputable def m_case_text : M Fl := (seqM (setM 1 (propM pt_faults (getV 0))) (seqM (ownS 2 (consM (ifM (trueM (propM pt_fresh (getV 0))) (pure (.str "numbers fresh")) (pure (.str "numbers again"))) (pure []))) (seqM (appS 2 (joinsM [(pure (.str "faults ")), (fmtM (propM pt_lost (getV 1))), (pure (.str " ")), (fmtM (propM pt_late (getV 1))), (pure (.str " ")), (fmtM (propM pt_falls (getV 1))), (pure (.str " ")), (fmtM (propM pt_sweeps (getV 1)))] Str.empty)) (seqM (forS (itM (propM pt_wishes (getV 0))) (setV 3) (appS 2 (smM dJoin (pure (.str " ")) (opM dAdd (lstM (consM (pure (.str "wish")) (pure []))) (lstM (compM [] [6] (itM (getV 3)) (setV 6) (pure true) (biM dStr (consM (getV 6) (pure []))))))))) (seqM (setM 4 (smM dJoin (pure (.str "")) (lstM (compM [] [7] (itM (getV 2)) (setV 7) (pure true) (opM dAdd (getV 7) (pure (.str "\n"))))))) (seqM (forS (itM (propM pt_programs (getV 0))) (setV 5) (setM 4 (opM dAdd (opM dAdd (getV 4) (pure (.str "hand\n"))) (fnM (consM (getV 5) (pure [])) f_program_text)))) (retM (getV 4))))))))
noncomputable def f_case_text : Mf := runB 8 m_case_text
theorem g_case_text (C : Ct fa ts fn xs w K mg) : FnG P w K mg base 4 (e_case_text.ad K) (fdOf K (e_case_text.ad K)) ["case"] (spM K 1 f_case_text) := fnJ (d_case_text C) c_case_text fun cdv A outer s H E Z W jc =>
  (js_cons (js_set (i := 1) jc.nd (je_prop (po_faults C (by decide)) jc (je_var (i := 0)))) (js_cons (js_own (i := 2) jc.nd (jn_lst (ja_cons (je_ifExp (jt_truth (je_prop (po_fresh C (by decide)) jc (je_var (i := 0)))) je_str je_str) ja_nil))) (js_cons (js_app (i := 2) (je_joined (.cons je_str (.cons (je_fmt (je_prop (po_lost C (by decide)) jc (je_var (i := 1)))) (.cons je_str (.cons (je_fmt (je_prop (po_late C (by decide)) jc (je_var (i := 1)))) (.cons je_str (.cons (je_fmt (je_prop (po_falls C (by decide)) jc (je_var (i := 1)))) (.cons je_str (.cons (je_fmt (je_prop (po_sweeps C (by decide)) jc (je_var (i := 1)))) .nil)))))))))) (js_cons (js_for jc.po jc.calm (ji_val (je_prop (po_wishes C (by decide)) jc (je_var (i := 0)))) (jg_name (i := 3) (ws := [3]) jc.nd) (js_one (js_app (i := 2) (kt_sm1 F.slot_str_join F.type_str_join mj_join je_str (je_op oj_add (jn_frz (jn_lst (ja_cons je_str ja_nil))) (jn_frz (jn_lc jc.calm jc.nd [] [("piece", 6)] (ji_val (je_var (i := 3))) (blkOk_by rfl) (fun _ _ _ _ _ _ => (jg_name (i := 6) (JC.blk jc).nd)) (fun _ _ _ _ _ _ => jpts_nil) (fun _ _ _ _ _ _ => (je_callT cj_str rfl (C.free 25) boot_str (ja_cons (je_var (i := 6)) ja_nil)))))))))) (js_cons (js_set (i := 4) jc.nd (kt_sm1 F.slot_str_join F.type_str_join mj_join je_str (jn_frz (jn_lc jc.calm jc.nd [] [("row", 7)] (ji_val (je_var (i := 2))) (blkOk_by rfl) (fun _ _ _ _ _ _ => (jg_name (i := 7) (JC.blk jc).nd)) (fun _ _ _ _ _ _ => jpts_nil) (fun _ _ _ _ _ _ => (je_op oj_add (je_var (i := 7)) je_str)))))) (js_cons (js_for jc.po jc.calm (ji_val (je_prop (po_programs C (by decide)) jc (je_var (i := 0)))) (jg_name (i := 5) (ws := [5]) jc.nd) (js_one (js_set (i := 4) jc.nd (je_op oj_add (je_op oj_add (je_var (i := 4)) je_str) (je_call (g_program_text C) jc (by decide) rfl (C.glo 5) (d_program_text C).kp (b_program_text C) (ja_cons (je_var (i := 5)) ja_nil)))))) (js_one (js_ret (je_var (i := 4))))))))))
theorem d_blocks_of (C : Ct fa ts fn xs w K mg) : FunD K "blocks_of" "blocks_of" (defArgs s_blocks_of) (defBody s_blocks_of) (defScope s_blocks_of) [] [] (e_blocks_of.ad K) (fdOf K (e_blocks_of.ad K)) := C.fd 46
theorem b_blocks_of (C : Ct fa ts fn xs w K mg) : Binds K (fdOf K (e_blocks_of.ad K)) ["rows"] [] := (d_blocks_of C).bindsN fun _ _ _ _ _ _ us hl => match us, hl with | [_], _ => rfl
theorem c_blocks_of : FnScope ["rows", "blocks", "number", "words"] ["rows"] (defScope s_blocks_of) := ⟨rfl, rfl, rfl, by decide +kernel, rfl, by decide +kernel, by decide +kernel⟩
noncomputable def m_blocks_of : M Fl := (seqM (setM 1 (lstM (pure []))) (seqM (forS (itM (getV 0)) (gTupM 2 (gConsM (setV 2) (gConsM (setV 3) gNilM))) (ifM (cmpT dEq (getV 3) (pure (.rls ((["hand"] : List Str).map D.str)))) (setM 1 (opM dAdd (getV 1) (lstM (consM (tupM (consM (getV 2) (consM (oNewM (pure [])) (pure [])))) (pure []))))) (oAppS (opM dIx (opM dIx (getV 1) (unM dNeg (pure (.int 1)))) (pure (.int 1))) (tupM (consM (getV 2) (consM (getV 3) (pure []))))))) (retM (getV 1))))
noncomputable def f_blocks_of : Mf := runT 4 m_blocks_of
theorem g_blocks_of (C : Ct fa ts fn xs w K mg) : FnG P w K mg base 1 (e_blocks_of.ad K) (fdOf K (e_blocks_of.ad K)) ["rows"] (spM K 1 f_blocks_of) := FnG.imp (fnJ (d_blocks_of C) c_blocks_of fun cdv A outer s H E Z W jc =>
  (js_cons (js_set (i := 1) jc.nd (jn_frz (jn_lst ja_nil))) (js_cons (js_for jc.po jc.calm (ji_val (je_var (i := 0))) (jg_tup jc.calm (jgs_cons (jg_name (i := 2) (ws := [2, 3]) jc.nd) (jgs_cons (jg_name (i := 3) (ws := [2, 3]) jc.nd) jgs_nil))) (js_one (js_if (jt_cmp (oj_eq jc.room.units) (je_var (i := 3)) (C.lstS 63 4 rfl rfl rfl)) (js_one (js_set (i := 1) jc.nd (je_op oj_add (je_var (i := 1)) (jn_frz (jn_lst (ja_cons (je_tup (ja_cons (je_var (i := 2)) (ja_cons (je_oNew (jn_lst ja_nil)) ja_nil))) ja_nil)))))) (js_one (js_oApp (je_ix (je_ix (je_var (i := 1)) (je_un uj_neg je_int)) je_int) (je_tup (ja_cons (je_var (i := 2)) (ja_cons (je_var (i := 3)) ja_nil)))))))) (js_one (js_ret (je_var (i := 1))))))) spM_melt
theorem d_number_of (C : Ct fa ts fn xs w K mg) : FunD K "number_of" "number_of" (defArgs s_number_of) (defBody s_number_of) (defScope s_number_of) [] [] (e_number_of.ad K) (fdOf K (e_number_of.ad K)) := C.fd 47
theorem b_number_of (C : Ct fa ts fn xs w K mg) : Binds K (fdOf K (e_number_of.ad K)) ["word"] [] := (d_number_of C).bindsN fun _ _ _ _ _ _ us hl => match us, hl with | [_], _ => rfl
theorem c_number_of : FnScope ["word", "sign"] ["word"] (defScope s_number_of) := ⟨rfl, rfl, rfl, by decide +kernel, rfl, by decide +kernel, by decide +kernel⟩
noncomputable def m_number_of : M Fl := (seqM (ifM (J.orM (cmpT dNotIn (biM dLen (consM (getV 0) (pure []))) (tupM (consM (pure (.int 1)) (consM (pure (.int 2)) (pure []))))) (cmpT dNe (lstM (compM [] [1] (itM (getV 0)) (setV 1) (cmpT dNotIn (getV 1) (pure (.str "0123456789"))) (getV 1))) (lstM (pure [])))) (retM (pure .non)) (pure .next)) (retM (ifM (J.andM (cmpT dEq (biM dLen (consM (getV 0) (pure []))) (pure (.int 2))) (cmpT dEq (opM dIx (getV 0) (pure (.int 0))) (pure (.str "0")))) (pure .non) (biM dInt (consM (getV 0) (pure []))))))
noncomputable def f_number_of : Mf := runB 2 m_number_of
theorem g_number_of (C : Ct fa ts fn xs w K mg) : FnG P w K mg base 1 (e_number_of.ad K) (fdOf K (e_number_of.ad K)) ["word"] (spM K 1 f_number_of) := fnJ (d_number_of C) c_number_of fun cdv A outer s H E Z W jc =>
  (js_cons (js_if (PW.pt (jw_or (jt_cmp oj_notIn (je_callB cj_len rfl (C.free 6) boot_len (ja_cons (je_var (i := 0)) ja_nil)) (je_tup (ja_cons je_int (ja_cons je_int ja_nil)))) (jw_one_or (jt_cmp (oj_ne jc.room.units) (jn_frz (jn_lc jc.calm jc.nd [] [("sign", 1)] (ji_val (je_var (i := 0))) (blkOk_by rfl) (fun _ _ _ _ _ _ => (jg_name (i := 1) (JC.blk jc).nd)) (fun _ _ _ _ _ _ => (jpts_one (jt_cmp oj_notIn (je_var (i := 1)) (C.str 74 rfl rfl)))) (fun _ _ _ _ _ _ => (je_var (i := 1))))) (jn_frz (jn_lst ja_nil)))))) (js_one (js_ret je_non)) js_nil) (js_one (js_ret (je_ifExp (PW.pt (jw_and (jt_cmp (oj_eq jc.room.units) (je_callB cj_len rfl (C.free 6) boot_len (ja_cons (je_var (i := 0)) ja_nil)) je_int) (jw_one_and (jt_cmp (oj_eq jc.room.units) (je_ix (je_var (i := 0)) je_int) je_str)))) je_non (je_callT cj_int rfl (C.free 36) boot_int (ja_cons (je_var (i := 0)) ja_nil))))))
theorem d_numbers_of (C : Ct fa ts fn xs w K mg) : FunD K "numbers_of" "numbers_of" (defArgs s_numbers_of) (defBody s_numbers_of) (defScope s_numbers_of) [] [] (e_numbers_of.ad K) (fdOf K (e_numbers_of.ad K)) := C.fd 48
theorem b_numbers_of (C : Ct fa ts fn xs w K mg) : Binds K (fdOf K (e_numbers_of.ad K)) ["words"] [] := (d_numbers_of C).bindsN fun _ _ _ _ _ _ us hl => match us, hl with | [_], _ => rfl
theorem c_numbers_of : FnScope ["words", "found", "word"] ["words"] (defScope s_numbers_of) := ⟨rfl, rfl, rfl, by decide +kernel, rfl, by decide +kernel, by decide +kernel⟩
noncomputable def m_numbers_of : M Fl := (seqM (ownS 1 (compM [] [2] (itM (getV 0)) (setV 2) (pure true) (fnM (consM (getV 2) (pure [])) f_number_of))) (retM (ifM (cmpT dIn (pure .non) (getV 1)) (pure .non) (biM dTuple (consM (getV 1) (pure []))))))
noncomputable def f_numbers_of : Mf := runB 3 m_numbers_of
theorem g_numbers_of (C : Ct fa ts fn xs w K mg) : FnG P w K mg base 2 (e_numbers_of.ad K) (fdOf K (e_numbers_of.ad K)) ["words"] (spM K 1 f_numbers_of) := fnJ (d_numbers_of C) c_numbers_of fun cdv A outer s H E Z W jc =>
  (js_cons (js_setLc (i := 1) jc.calm jc.nd [] [("word", 2)] (ji_val (je_var (i := 0))) (blkOk_by rfl) (fun _ _ _ _ _ _ => (jg_name (i := 2) (JC.blk jc).nd)) (fun _ _ _ _ _ _ => jpts_nil) (fun _ _ _ _ _ _ => (je_call (g_number_of C) (JC.blk jc) (by decide) rfl (C.glo 73) (d_number_of C).kp (b_number_of C) (ja_cons (je_var (i := 2)) ja_nil)))) (js_one (js_ret (je_ifExp (jt_cmp oj_in je_non (je_var (i := 1))) je_non (je_callT cj_tuple rfl (C.free 12) boot_tuple (ja_cons (je_var (i := 1)) ja_nil))))))
theorem d_faults_of (C : Ct fa ts fn xs w K mg) : FunD K "faults_of" "faults_of" (defArgs s_faults_of) (defBody s_faults_of) (defScope s_faults_of) [] [] (e_faults_of.ad K) (fdOf K (e_faults_of.ad K)) := C.fd 49
theorem b_faults_of (C : Ct fa ts fn xs w K mg) : Binds K (fdOf K (e_faults_of.ad K)) ["words"] [] := (d_faults_of C).bindsN fun _ _ _ _ _ _ us hl => match us, hl with | [_], _ => rfl
theorem c_faults_of : FnScope ["words", "four"] ["words"] (defScope s_faults_of) := ⟨rfl, rfl, rfl, by decide +kernel, rfl, by decide +kernel, by decide +kernel⟩
noncomputable def m_faults_of : M Fl := (seqM (setM 1 (fnM (consM (slM (getV 0) (bdM (pure (.int 1))) (pure none)) (pure [])) f_numbers_of)) (seqM (ifM (J.orM (cmpT dNe (opM dIx (getV 0) (pure (.int 0))) (pure (.str "faults"))) (J.orM (isNT (getV 1)) (J.orM (cmpT dNe (biM dLen (consM (getV 1) (pure []))) (pure (.int 4))) (cmpT (dCmp fun i j => decide (j < i)) (biM dMaxT (consM (getV 1) (pure []))) (pure (.int 3)))))) (retM (pure .non)) (pure .next)) (retM (getV 1))))
noncomputable def f_faults_of : Mf := runB 2 m_faults_of
theorem g_faults_of (C : Ct fa ts fn xs w K mg) : FnG P w K mg base 3 (e_faults_of.ad K) (fdOf K (e_faults_of.ad K)) ["words"] (spM K 1 f_faults_of) := fnJ (d_faults_of C) c_faults_of fun cdv A outer s H E Z W jc =>
  (js_cons (js_set (i := 1) jc.nd (je_call (g_numbers_of C) jc (by decide) rfl (C.glo 72) (d_numbers_of C).kp (b_numbers_of C) (ja_cons (je_sl (je_var (i := 0)) (jo_some je_int) jo_none) ja_nil))) (js_cons (js_if (PW.pt (jw_or (jt_cmp (oj_ne jc.room.units) (je_ix (je_var (i := 0)) je_int) je_str) (jw_or (jt_isN (je_var (i := 1))) (jw_or (jt_cmp (oj_ne jc.room.units) (je_callB cj_len rfl (C.free 6) boot_len (ja_cons (je_var (i := 1)) ja_nil)) je_int) (jw_one_or (jt_cmp (oj_cmp op_gt) (je_callB (cj_maxT jc.calm jc.room.units) rfl (C.free 64) (by decide +kernel) (ja_cons (je_var (i := 1)) ja_nil)) (C.int 50 rfl rfl))))))) (js_one (js_ret je_non)) js_nil) (js_one (js_ret (je_var (i := 1))))))
theorem d_need (C : Ct fa ts fn xs w K mg) : FunD K "need" "need" (defArgs s_need) (defBody s_need) (defScope s_need) [] [] (e_need.ad K) (fdOf K (e_need.ad K)) := C.fd 50
theorem b_need (C : Ct fa ts fn xs w K mg) : Binds K (fdOf K (e_need.ad K)) ["is_right", "number"] [] := (d_need C).bindsN fun _ _ _ _ _ _ us hl => match us, hl with | [_, _], _ => rfl
theorem c_need : FnScope ["is_right", "number"] ["is_right", "number"] (defScope s_need) := ⟨rfl, rfl, rfl, by decide +kernel, rfl, by decide +kernel, by decide +kernel⟩
noncomputable def m_need : M Fl := (ifM (J.notM (trueM (getV 0))) M.stuck (pure .next))
noncomputable def f_need : Mf := runB 2 m_need
theorem g_need (C : Ct fa ts fn xs w K mg) : FnG P w K mg base 1 (e_need.ad K) (fdOf K (e_need.ad K)) ["is_right", "number"] (spM K 2 f_need) := fnJ (d_need C) c_need fun cdv A outer s H E Z W jc =>
  (js_one (js_if (jt_not (jt_truth (je_var (i := 0)))) (js_one js_never) js_nil))
theorem d_wish_of (C : Ct fa ts fn xs w K mg) : FunD K "wish_of" "wish_of" (defArgs s_wish_of) (defBody s_wish_of) (defScope s_wish_of) [] [] (e_wish_of.ad K) (fdOf K (e_wish_of.ad K)) := C.fd 51
theorem b_wish_of (C : Ct fa ts fn xs w K mg) : Binds K (fdOf K (e_wish_of.ad K)) ["words"] [] := (d_wish_of C).bindsN fun _ _ _ _ _ _ us hl => match us, hl with | [_], _ => rfl
theorem c_wish_of : FnScope ["words", "edition"] ["words"] (defScope s_wish_of) := ⟨rfl, rfl, rfl, by decide +kernel, rfl, by decide +kernel, by decide +kernel⟩
noncomputable def m_wish_of : M Fl := (seqM (setM 1 (fnM (consM (slM (getV 0) (bdM (pure (.int 1))) (pure none)) (pure [])) f_numbers_of)) (seqM (ifM (J.orM (cmpT dNe (opM dIx (getV 0) (pure (.int 0))) (pure (.str "wish"))) (J.orM (isNT (getV 1)) (J.orM (J.notM (cmpT2 (dCmp fun i j => decide (i ≤ j)) (dCmp fun i j => decide (i ≤ j)) (pure (.int 1)) (biM dLen (consM (getV 1) (pure []))) (pure (.int 3)))) (cmpT (dCmp fun i j => decide (j < i)) (biM dMaxT (consM (getV 1) (pure []))) (pure (.int 9)))))) (retM (pure .non)) (pure .next)) (retM (getV 1))))
noncomputable def f_wish_of : Mf := runB 2 m_wish_of
theorem g_wish_of (C : Ct fa ts fn xs w K mg) : FnG P w K mg base 3 (e_wish_of.ad K) (fdOf K (e_wish_of.ad K)) ["words"] (spM K 1 f_wish_of) := fnJ (d_wish_of C) c_wish_of fun cdv A outer s H E Z W jc =>
  (js_cons (js_set (i := 1) jc.nd (je_call (g_numbers_of C) jc (by decide) rfl (C.glo 72) (d_numbers_of C).kp (b_numbers_of C) (ja_cons (je_sl (je_var (i := 0)) (jo_some je_int) jo_none) ja_nil))) (js_cons (js_if (PW.pt (jw_or (jt_cmp (oj_ne jc.room.units) (je_ix (je_var (i := 0)) je_int) je_str) (jw_or (jt_isN (je_var (i := 1))) (jw_or (jt_not (jt_cmp2 (oj_cmp op_le) (oj_cmp op_le) je_int (je_callB cj_len rfl (C.free 6) boot_len (ja_cons (je_var (i := 1)) ja_nil)) (C.int 40 rfl rfl))) (jw_one_or (jt_cmp (oj_cmp op_gt) (je_callB (cj_maxT jc.calm jc.room.units) rfl (C.free 64) (by decide +kernel) (ja_cons (je_var (i := 1)) ja_nil)) je_int)))))) (js_one (js_ret je_non)) js_nil) (js_one (js_ret (je_var (i := 1))))))
theorem d_head_of (C : Ct fa ts fn xs w K mg) : FunD K "head_of" "head_of" (defArgs s_head_of) (defBody s_head_of) (defScope s_head_of) [] [] (e_head_of.ad K) (fdOf K (e_head_of.ad K)) := C.fd 52
theorem b_head_of (C : Ct fa ts fn xs w K mg) : Binds K (fdOf K (e_head_of.ad K)) ["rows"] [] := (d_head_of C).bindsN fun _ _ _ _ _ _ us hl => match us, hl with | [_], _ => rfl
theorem c_head_of : FnScope ["rows", "fresh", "four", "wishes", "at", "number", "words", "wish"] ["rows"] (defScope s_head_of) := ⟨rfl, rfl, rfl, by decide +kernel, rfl, by decide +kernel, by decide +kernel⟩
noncomputable def m_head_of : M Fl := (seqM (asgM (gTupM 3 (gConsM (setV 1) (gConsM (setV 2) (gConsM (setV 3) gNilM)))) (tupM (consM (pure .non) (consM (pure .non) (consM (tupM (pure [])) (pure [])))))) (seqM (forS (biN dEnum1 (consM (getV 0) (pure []))) (gTupM 2 (gConsM (setV 4) (gConsM (gTupM 2 (gConsM (setV 5) (gConsM (setV 6) gNilM))) gNilM))) (ifM (cmpT dEq (getV 4) (pure (.int 0))) (seqM (exprM (fnM (consM (andV (opM dEq (biM dLen (consM (getV 6) (pure []))) (pure (.int 2))) (andV (opM dEq (opM dIx (getV 6) (pure (.int 0))) (pure (.str "numbers"))) (tabI tab_NUMBERS false (opM dIx (getV 6) (pure (.int 1)))))) (consM (getV 5) (pure []))) f_need)) (setM 1 (tabX tab_NUMBERS (opM dIx (getV 6) (pure (.int 1)))))) (ifM (cmpT dEq (getV 4) (pure (.int 1))) (seqM (setM 2 (fnM (consM (getV 6) (pure [])) f_faults_of)) (exprM (fnM (consM (notNM (getV 2)) (consM (getV 5) (pure []))) f_need))) (seqM (setM 7 (fnM (consM (getV 6) (pure [])) f_wish_of)) (seqM (exprM (fnM (consM (andV (notNM (getV 7)) (andV (opM dLt (biM dLen (consM (getV 3) (pure []))) (pure (.int 4))) (orV (opM dEq (getV 3) (tupM (pure []))) (opM dLt (opM dIx (getV 3) (unM dNeg (pure (.int 1)))) (getV 7))))) (consM (getV 5) (pure []))) f_need)) (setM 3 (opM dAdd (getV 3) (tupM (consM (getV 7) (pure [])))))))))) (retM (tupM (consM (getV 1) (consM (getV 2) (consM (getV 3) (pure []))))))))
noncomputable def f_head_of : Mf := runB 8 m_head_of
theorem g_head_of (C : Ct fa ts fn xs w K mg) : FnG P w K mg base 4 (e_head_of.ad K) (fdOf K (e_head_of.ad K)) ["rows"] (spM K 1 f_head_of) := fnJ (d_head_of C) c_head_of fun cdv A outer s H E Z W jc =>
  (js_cons (js_asg (je_tup (ja_cons je_non (ja_cons je_non (ja_cons (je_tup ja_nil) ja_nil)))) (jg_tup jc.calm (jgs_cons (jg_name (i := 1) (ws := [1, 2, 3]) jc.nd) (jgs_cons (jg_name (i := 2) (ws := [1, 2, 3]) jc.nd) (jgs_cons (jg_name (i := 3) (ws := [1, 2, 3]) jc.nd) jgs_nil))))) (js_cons (js_for jc.po jc.calm (ji_enum1 rfl (C.free 23) (ja_cons (je_var (i := 0)) ja_nil)) (jg_tup jc.calm (jgs_cons (jg_name (i := 4) (ws := [4, 5, 6]) jc.nd) (jgs_cons (jg_tup jc.calm (jgs_cons (jg_name (i := 5) (ws := [4, 5, 6]) jc.nd) (jgs_cons (jg_name (i := 6) (ws := [4, 5, 6]) jc.nd) jgs_nil))) jgs_nil))) (js_one (js_if (jt_cmp (oj_eq jc.room.units) (je_var (i := 4)) je_int) (js_cons (js_expr (je_call (g_need C) jc (by decide) rfl (C.glo 67) (d_need C).kp (b_need C) (ja_cons (je_and (je_cmp (oj_eq jc.room.units) (je_callB cj_len rfl (C.free 6) boot_len (ja_cons (je_var (i := 6)) ja_nil)) je_int) (je_and (je_cmp (oj_eq jc.room.units) (je_ix (je_var (i := 6)) je_int) je_str) (je_one (je_tabIn false (tc_NUMBERS C) rfl (C.glo 69) (je_ix (je_var (i := 6)) je_int))))) (ja_cons (je_var (i := 5)) ja_nil)))) (js_one (js_set (i := 1) jc.nd (je_tabIx (tc_NUMBERS C) rfl (C.glo 69) (je_ix (je_var (i := 6)) je_int))))) (js_one (js_if (jt_cmp (oj_eq jc.room.units) (je_var (i := 4)) je_int) (js_cons (js_set (i := 2) jc.nd (je_call (g_faults_of C) jc (by decide) rfl (C.glo 70) (d_faults_of C).kp (b_faults_of C) (ja_cons (je_var (i := 6)) ja_nil))) (js_one (js_expr (je_call (g_need C) jc (by decide) rfl (C.glo 67) (d_need C).kp (b_need C) (ja_cons (je_isNotN (je_var (i := 2))) (ja_cons (je_var (i := 5)) ja_nil)))))) (js_cons (js_set (i := 7) jc.nd (je_call (g_wish_of C) jc (by decide) rfl (C.glo 71) (d_wish_of C).kp (b_wish_of C) (ja_cons (je_var (i := 6)) ja_nil))) (js_cons (js_expr (je_call (g_need C) jc (by decide) rfl (C.glo 67) (d_need C).kp (b_need C) (ja_cons (je_and (je_isNotN (je_var (i := 7))) (je_and (je_cmp (oj_lt jc.room.units0) (je_callB cj_len rfl (C.free 6) boot_len (ja_cons (je_var (i := 3)) ja_nil)) (C.int 48 rfl rfl)) (je_one (je_or (je_cmp (oj_eq jc.room.units) (je_var (i := 3)) (je_tup ja_nil)) (je_one (je_cmp (oj_lt jc.room.units0) (je_ix (je_var (i := 3)) (je_un uj_neg je_int)) (je_var (i := 7)))))))) (ja_cons (je_var (i := 5)) ja_nil)))) (js_one (js_set (i := 3) jc.nd (je_op oj_add (je_var (i := 3)) (je_tup (ja_cons (je_var (i := 7)) ja_nil)))))))))))) (js_one (js_ret (je_tup (ja_cons (je_var (i := 1)) (ja_cons (je_var (i := 2)) (ja_cons (je_var (i := 3)) ja_nil))))))))
theorem d_join_of (C : Ct fa ts fn xs w K mg) : FunD K "join_of" "join_of" (defArgs s_join_of) (defBody s_join_of) (defScope s_join_of) [] [] (e_join_of.ad K) (fdOf K (e_join_of.ad K)) := C.fd 53
theorem b_join_of (C : Ct fa ts fn xs w K mg) : Binds K (fdOf K (e_join_of.ad K)) ["words"] [] := (d_join_of C).bindsN fun _ _ _ _ _ _ us hl => match us, hl with | [_], _ => rfl
theorem c_join_of : FnScope ["words", "edition"] ["words"] (defScope s_join_of) := ⟨rfl, rfl, rfl, by decide +kernel, rfl, by decide +kernel, by decide +kernel⟩
noncomputable def m_join_of : M Fl := (seqM (ifM (J.orM (cmpT dLt (biM dLen (consM (getV 0) (pure []))) (pure (.int 4))) (tabT tab_CHECKS true (opM dIx (getV 0) (unM dNeg (pure (.int 2)))))) (retM (pure .non)) (pure .next)) (seqM (setM 1 (fnM (consM (slM (getV 0) (bdM (pure (.int 1))) (bdM (unM dNeg (pure (.int 2))))) (pure [])) f_numbers_of)) (retM (ifM (isNT (getV 1)) (pure .non) (tupM (consM (pure (.str "join")) (consM (getV 1) (consM (tabX tab_CHECKS (opM dIx (getV 0) (unM dNeg (pure (.int 2))))) (consM (opM dIx (getV 0) (unM dNeg (pure (.int 1)))) (pure []))))))))))
noncomputable def f_join_of : Mf := runB 2 m_join_of
theorem g_join_of (C : Ct fa ts fn xs w K mg) : FnG P w K mg base 3 (e_join_of.ad K) (fdOf K (e_join_of.ad K)) ["words"] (spM K 1 f_join_of) := fnJ (d_join_of C) c_join_of fun cdv A outer s H E Z W jc =>
  (js_cons (js_if (PW.pt (jw_or (jt_cmp (oj_lt jc.room.units0) (je_callB cj_len rfl (C.free 6) boot_len (ja_cons (je_var (i := 0)) ja_nil)) je_int) (jw_one_or (jt_tabIn true (tc_CHECKS C) rfl (C.glo 77) (je_ix (je_var (i := 0)) (je_un uj_neg je_int)))))) (js_one (js_ret je_non)) js_nil) (js_cons (js_set (i := 1) jc.nd (je_call (g_numbers_of C) jc (by decide) rfl (C.glo 72) (d_numbers_of C).kp (b_numbers_of C) (ja_cons (je_sl (je_var (i := 0)) (jo_some je_int) (jo_some (je_un uj_neg je_int))) ja_nil))) (js_one (js_ret (je_ifExp (jt_isN (je_var (i := 1))) je_non (je_tup (ja_cons je_str (ja_cons (je_var (i := 1)) (ja_cons (je_tabIx (tc_CHECKS C) rfl (C.glo 77) (je_ix (je_var (i := 0)) (je_un uj_neg je_int))) (ja_cons (je_ix (je_var (i := 0)) (je_un uj_neg je_int)) ja_nil))))))))))
theorem d_step_of (C : Ct fa ts fn xs w K mg) : FunD K "step_of" "step_of" (defArgs s_step_of) (defBody s_step_of) (defScope s_step_of) [] [] (e_step_of.ad K) (fdOf K (e_step_of.ad K)) := C.fd 54
theorem b_step_of (C : Ct fa ts fn xs w K mg) : Binds K (fdOf K (e_step_of.ad K)) ["words"] [] := (d_step_of C).bindsN fun _ _ _ _ _ _ us hl => match us, hl with | [_], _ => rfl
theorem c_step_of : FnScope ["words", "word", "numbers"] ["words"] (defScope s_step_of) := ⟨rfl, rfl, rfl, by decide +kernel, rfl, by decide +kernel, by decide +kernel⟩
noncomputable def m_step_of : M Fl := (seqM (setM 1 (opM dIx (getV 0) (pure (.int 0)))) (seqM (ifM (cmpT dIn (getV 1) (tupM (consM (pure (.str "begin")) (consM (pure (.str "throw")) (consM (pure (.str "look")) (consM (pure (.str "find")) (pure []))))))) (retM (ifM (cmpT dEq (biM dLen (consM (getV 0) (pure []))) (pure (.int 1))) (tupM (consM (getV 1) (pure []))) (pure .non))) (pure .next)) (seqM (ifM (cmpT dEq (getV 1) (pure (.str "lay"))) (seqM (setM 2 (fnM (consM (slM (getV 0) (bdM (pure (.int 1))) (pure none)) (pure [])) f_numbers_of)) (retM (ifM (J.orM (isNT (getV 2)) (cmpT dNe (biM dLen (consM (getV 2) (pure []))) (pure (.int 2)))) (pure .non) (opM dAdd (tupM (consM (pure (.str "lay")) (pure []))) (getV 2))))) (pure .next)) (seqM (ifM (cmpT dEq (getV 1) (pure (.str "join"))) (retM (fnM (consM (getV 0) (pure [])) f_join_of)) (pure .next)) (seqM (ifM (J.orM (cmpT dNe (getV 1) (pure (.str "go"))) (J.orM (cmpT dLt (biM dLen (consM (getV 0) (pure []))) (pure (.int 3))) (isNT (fnM (consM (opM dIx (getV 0) (pure (.int 1))) (pure [])) f_number_of)))) (retM (pure .non)) (pure .next)) (retM (tupM (consM (pure (.str "go")) (consM (fnM (consM (opM dIx (getV 0) (pure (.int 1))) (pure [])) f_number_of) (consM (biM dTuple (consM (slM (getV 0) (bdM (pure (.int 2))) (pure none)) (pure []))) (pure [])))))))))))
noncomputable def f_step_of : Mf := runB 3 m_step_of
theorem g_step_of (C : Ct fa ts fn xs w K mg) : FnG P w K mg base 4 (e_step_of.ad K) (fdOf K (e_step_of.ad K)) ["words"] (spM K 1 f_step_of) := fnJ (d_step_of C) c_step_of fun cdv A outer s H E Z W jc =>
  (js_cons (js_set (i := 1) jc.nd (je_ix (je_var (i := 0)) je_int)) (js_cons (js_if (jt_cmp oj_in (je_var (i := 1)) (je_tup (ja_cons je_str (ja_cons je_str (ja_cons je_str (ja_cons je_str ja_nil)))))) (js_one (js_ret (je_ifExp (jt_cmp (oj_eq jc.room.units) (je_callB cj_len rfl (C.free 6) boot_len (ja_cons (je_var (i := 0)) ja_nil)) je_int) (je_tup (ja_cons (je_var (i := 1)) ja_nil)) je_non))) js_nil) (js_cons (js_if (jt_cmp (oj_eq jc.room.units) (je_var (i := 1)) je_str) (js_cons (js_set (i := 2) jc.nd (je_call (g_numbers_of C) jc (by decide) rfl (C.glo 72) (d_numbers_of C).kp (b_numbers_of C) (ja_cons (je_sl (je_var (i := 0)) (jo_some je_int) jo_none) ja_nil))) (js_one (js_ret (je_ifExp (PW.pt (jw_or (jt_isN (je_var (i := 2))) (jw_one_or (jt_cmp (oj_ne jc.room.units) (je_callB cj_len rfl (C.free 6) boot_len (ja_cons (je_var (i := 2)) ja_nil)) je_int)))) je_non (je_op oj_add (je_tup (ja_cons je_str ja_nil)) (je_var (i := 2))))))) js_nil) (js_cons (js_if (jt_cmp (oj_eq jc.room.units) (je_var (i := 1)) je_str) (js_one (js_ret (je_call (g_join_of C) jc (by decide) rfl (C.glo 76) (d_join_of C).kp (b_join_of C) (ja_cons (je_var (i := 0)) ja_nil)))) js_nil) (js_cons (js_if (PW.pt (jw_or (jt_cmp (oj_ne jc.room.units) (je_var (i := 1)) je_str) (jw_or (jt_cmp (oj_lt jc.room.units0) (je_callB cj_len rfl (C.free 6) boot_len (ja_cons (je_var (i := 0)) ja_nil)) je_int) (jw_one_or (jt_isN (je_call (g_number_of C) jc (by decide) rfl (C.glo 73) (d_number_of C).kp (b_number_of C) (ja_cons (je_ix (je_var (i := 0)) je_int) ja_nil))))))) (js_one (js_ret je_non)) js_nil) (js_one (js_ret (je_tup (ja_cons je_str (ja_cons (je_call (g_number_of C) jc (by decide) rfl (C.glo 73) (d_number_of C).kp (b_number_of C) (ja_cons (je_ix (je_var (i := 0)) je_int) ja_nil)) (ja_cons (je_callT cj_tuple rfl (C.free 12) boot_tuple (ja_cons (je_sl (je_var (i := 0)) (jo_some je_int) jo_none) ja_nil)) ja_nil)))))))))))
theorem d_steps_of (C : Ct fa ts fn xs w K mg) : FunD K "steps_of" "steps_of" (defArgs s_steps_of) (defBody s_steps_of) (defScope s_steps_of) [] [] (e_steps_of.ad K) (fdOf K (e_steps_of.ad K)) := C.fd 55
theorem b_steps_of (C : Ct fa ts fn xs w K mg) : Binds K (fdOf K (e_steps_of.ad K)) ["rows"] [] := (d_steps_of C).bindsN fun _ _ _ _ _ _ us hl => match us, hl with | [_], _ => rfl
theorem c_steps_of : FnScope ["rows", "found", "number", "words", "step"] ["rows"] (defScope s_steps_of) := ⟨rfl, rfl, rfl, by decide +kernel, rfl, by decide +kernel, by decide +kernel⟩
noncomputable def m_steps_of : M Fl := (seqM (ownS 1 (pure [])) (seqM (forS (itM (getV 0)) (gTupM 2 (gConsM (setV 2) (gConsM (setV 3) gNilM))) (seqM (setM 4 (fnM (consM (getV 3) (pure [])) f_step_of)) (seqM (ifM (isNT (getV 4)) M.stuck (pure .next)) (seqM (ifM (notNT (fnM (consM (getV 4) (consM (biM dLen (consM (getV 0) (pure []))) (pure []))) f_step_error)) M.stuck (pure .next)) (appS 1 (getV 4)))))) (retM (biM dTuple (consM (getV 1) (pure []))))))
noncomputable def f_steps_of : Mf := runB 5 m_steps_of
theorem g_steps_of (C : Ct fa ts fn xs w K mg) : FnG P w K mg base 7 (e_steps_of.ad K) (fdOf K (e_steps_of.ad K)) ["rows"] (spM K 1 f_steps_of) := fnJ (d_steps_of C) c_steps_of fun cdv A outer s H E Z W jc =>
  (js_cons (js_own (i := 1) jc.nd (jn_lst ja_nil)) (js_cons (js_for jc.po jc.calm (ji_val (je_var (i := 0))) (jg_tup jc.calm (jgs_cons (jg_name (i := 2) (ws := [2, 3]) jc.nd) (jgs_cons (jg_name (i := 3) (ws := [2, 3]) jc.nd) jgs_nil))) (js_cons (js_set (i := 4) jc.nd (je_call (g_step_of C) jc (by decide) rfl (C.glo 75) (d_step_of C).kp (b_step_of C) (ja_cons (je_var (i := 3)) ja_nil))) (js_cons (js_if (jt_isN (je_var (i := 4))) (js_one js_never) js_nil) (js_cons (js_if (jt_isNotN (je_call (g_step_error C) jc (by decide) rfl (C.glo 24) (d_step_error C).kp (b_step_error C) (ja_cons (je_var (i := 4)) (ja_cons (je_callB cj_len rfl (C.free 6) boot_len (ja_cons (je_var (i := 0)) ja_nil)) ja_nil)))) (js_one js_never) js_nil) (js_one (js_app (i := 1) (je_var (i := 4)))))))) (js_one (js_ret (je_callT cj_tuple rfl (C.free 12) boot_tuple (ja_cons (je_var (i := 1)) ja_nil))))))
theorem d_words_of (C : Ct fa ts fn xs w K mg) : FunD K "words_of" "words_of" (defArgs s_words_of) (defBody s_words_of) (defScope s_words_of) [] [] (e_words_of.ad K) (fdOf K (e_words_of.ad K)) := C.fd 56
theorem b_words_of (C : Ct fa ts fn xs w K mg) : Binds K (fdOf K (e_words_of.ad K)) ["line"] [] := (d_words_of C).bindsN fun _ _ _ _ _ _ us hl => match us, hl with | [_], _ => rfl
theorem c_words_of : FnScope ["line", "word"] ["line"] (defScope s_words_of) := ⟨rfl, rfl, rfl, by decide +kernel, rfl, by decide +kernel, by decide +kernel⟩
noncomputable def m_words_of : M Fl := (retM (lstM (compM [] [1] (itM (lstM (smN dSplit (getV 0) (pure (.str " "))))) (setV 1) (cmpT dNe (getV 1) (pure (.str ""))) (getV 1))))
noncomputable def f_words_of : Mf := runB 2 m_words_of
theorem g_words_of (C : Ct fa ts fn xs w K mg) : FnG P w K mg base 1 (e_words_of.ad K) (fdOf K (e_words_of.ad K)) ["line"] (spM K 1 f_words_of) := fnJ (d_words_of C) c_words_of fun cdv A outer s H E Z W jc =>
  (js_one (js_ret (jn_frz (jn_lc jc.calm jc.nd [] [("word", 1)] (ji_val (jn_frz (kn_sm1 F.slot_str_split F.type_str_split mj_split (je_var (i := 0)) je_str))) (blkOk_by rfl) (fun _ _ _ _ _ _ => (jg_name (i := 1) (JC.blk jc).nd)) (fun _ _ _ _ _ _ => (jpts_one (jt_cmp (oj_ne (JC.blk jc).room.units) (je_var (i := 1)) je_str))) (fun _ _ _ _ _ _ => (je_var (i := 1)))))))
theorem d_rows_of (C : Ct fa ts fn xs w K mg) : FunD K "rows_of" "rows_of" (defArgs s_rows_of) (defBody s_rows_of) (defScope s_rows_of) [] [] (e_rows_of.ad K) (fdOf K (e_rows_of.ad K)) := C.fd 57
theorem b_rows_of (C : Ct fa ts fn xs w K mg) : Binds K (fdOf K (e_rows_of.ad K)) ["text"] [] := (d_rows_of C).bindsN fun _ _ _ _ _ _ us hl => match us, hl with | [_], _ => rfl
theorem c_rows_of : FnScope ["text", "found", "number", "line", "words"] ["text"] (defScope s_rows_of) := ⟨rfl, rfl, rfl, by decide +kernel, rfl, by decide +kernel, by decide +kernel⟩
noncomputable def m_rows_of : M Fl := (seqM (ownS 1 (pure [])) (seqM (forS (biN dEnum2 (consM (lstM (smN dSplit (getV 0) (pure (.str "\n")))) (consM (pure (.int 1)) (pure [])))) (gTupM 2 (gConsM (setV 2) (gConsM (setV 3) gNilM))) (seqM (setM 4 (fnM (consM (opM dIx (smM dPart (getV 3) (pure (.str "#"))) (pure (.int 0))) (pure [])) f_words_of)) (ifM (cmpT dNe (getV 4) (lstM (pure []))) (appS 1 (tupM (consM (getV 2) (consM (getV 4) (pure []))))) (pure .next)))) (retM (getV 1))))
noncomputable def f_rows_of : Mf := runB 5 m_rows_of
theorem g_rows_of (C : Ct fa ts fn xs w K mg) : FnG P w K mg base 2 (e_rows_of.ad K) (fdOf K (e_rows_of.ad K)) ["text"] (spM K 1 f_rows_of) := fnJ (d_rows_of C) c_rows_of fun cdv A outer s H E Z W jc =>
  (js_cons (js_own (i := 1) jc.nd (jn_lst ja_nil)) (js_cons (js_for jc.po jc.calm (ji_enum2 rfl (C.free 23) (ja_cons (jn_frz (kn_sm1 F.slot_str_split F.type_str_split mj_split (je_var (i := 0)) je_str)) (ja_cons je_int ja_nil))) (jg_tup jc.calm (jgs_cons (jg_name (i := 2) (ws := [2, 3]) jc.nd) (jgs_cons (jg_name (i := 3) (ws := [2, 3]) jc.nd) jgs_nil))) (js_cons (js_set (i := 4) jc.nd (je_call (g_words_of C) jc (by decide) rfl (C.glo 79) (d_words_of C).kp (b_words_of C) (ja_cons (je_ix (kt_sm1 F.slot_str_partition F.type_str_partition mj_part (je_var (i := 3)) je_str) je_int) ja_nil))) (js_one (js_if (jt_cmp (oj_ne jc.room.units) (je_var (i := 4)) (jn_frz (jn_lst ja_nil))) (js_one (js_app (i := 1) (je_tup (ja_cons (je_var (i := 2)) (ja_cons (je_var (i := 4)) ja_nil))))) js_nil)))) (js_one (js_ret (je_var (i := 1))))))
theorem d_told_rows (C : Ct fa ts fn xs w K mg) : FunD K "told_rows" "told_rows" (defArgs s_told_rows) (defBody s_told_rows) (defScope s_told_rows) [] [] (e_told_rows.ad K) (fdOf K (e_told_rows.ad K)) := C.fd 58
theorem b_told_rows (C : Ct fa ts fn xs w K mg) : Binds K (fdOf K (e_told_rows.ad K)) ["value"] [] := (d_told_rows C).bindsN fun _ _ _ _ _ _ us hl => match us, hl with | [_], _ => rfl
theorem c_told_rows : FnScope ["value", "rows"] ["value"] (defScope s_told_rows) := ⟨rfl, rfl, rfl, by decide +kernel, rfl, by decide +kernel, by decide +kernel⟩
noncomputable def m_told_rows : M Fl := (seqM (ifM (J.notM (tstM (isiM "str" (fun _ => none) (getV 0)))) M.stuck (pure .next)) (seqM (setM 1 (fnM (consM (getV 0) (pure [])) f_rows_of)) (seqM (ifM (cmpT dEq (getV 1) (lstM (pure []))) M.stuck (pure .next)) (retM (getV 1)))))
noncomputable def f_told_rows : Mf := runB 2 m_told_rows
theorem g_told_rows (C : Ct fa ts fn xs w K mg) : FnG P w K mg base 3 (e_told_rows.ad K) (fdOf K (e_told_rows.ad K)) ["value"] (spM K 1 f_told_rows) := fnJ (d_told_rows C) c_told_rows fun cdv A outer s H E Z W jc =>
  (js_cons (js_if (jt_not (jt_val (je_isi (by intro _ _ h; cases h) rfl (C.free 21) boot_isinstance rfl (C.free 25) boot_str (je_var (i := 0))))) (js_one js_never) js_nil) (js_cons (js_set (i := 1) jc.nd (je_call (g_rows_of C) jc (by decide) rfl (C.glo 78) (d_rows_of C).kp (b_rows_of C) (ja_cons (je_var (i := 0)) ja_nil))) (js_cons (js_if (jt_cmp (oj_eq jc.room.units) (je_var (i := 1)) (jn_frz (jn_lst ja_nil))) (js_one js_never) js_nil) (js_one (js_ret (je_var (i := 1)))))))
theorem d_read_case (C : Ct fa ts fn xs w K mg) : FunD K "read_case" "read_case" (defArgs s_read_case) (defBody s_read_case) (defScope s_read_case) [] [] (e_read_case.ad K) (fdOf K (e_read_case.ad K)) := C.fd 59
theorem b_read_case (C : Ct fa ts fn xs w K mg) : Binds K (fdOf K (e_read_case.ad K)) ["value"] [] := (d_read_case C).bindsN fun _ _ _ _ _ _ us hl => match us, hl with | [_], _ => rfl
theorem c_read_case : FnScope ["value", "rows", "begins", "first", "fresh", "four", "wishes", "steps", "at", "number", "block", "lost", "late", "falls", "sweeps", "words", "some"] ["value"] (defScope s_read_case) := ⟨rfl, rfl, rfl, by decide +kernel, rfl, by decide +kernel, by decide +kernel⟩
noncomputable def m_read_case : M Fl := (seqM (setM 1 (fnM (consM (getV 0) (pure [])) f_told_rows)) (seqM (ownS 2 (compM [] [8, 9, 15] (biN dEnum1 (consM (getV 1) (pure []))) (gTupM 2 (gConsM (setV 8) (gConsM (gTupM 2 (gConsM (setV 9) (gConsM (setV 15) gNilM))) gNilM))) (cmpT dEq (getV 15) (pure (.rls ((["hand"] : List Str).map D.str)))) (getV 8))) (seqM (setM 3 (ifM (cmpT dNe (getV 2) (lstM (pure []))) (opM dIx (getV 2) (pure (.int 0))) (biM dLen (consM (getV 1) (pure []))))) (seqM (asgM (gTupM 3 (gConsM (setV 4) (gConsM (setV 5) (gConsM (setV 6) gNilM)))) (fnM (consM (slM (getV 1) (pure none) (bdM (biM dMax2 (consM (getV 3) (consM (biM dMin2 (consM (pure (.int 2)) (consM (biM dLen (consM (getV 1) (pure []))) (pure [])))) (pure [])))))) (pure [])) f_head_of)) (seqM (ownS 7 (pure [])) (seqM (forS (biN dEnum1 (consM (fnM (consM (slM (getV 1) (bdM (getV 3)) (pure none)) (pure [])) f_blocks_of) (pure []))) (gTupM 2 (gConsM (setV 8) (gConsM (gTupM 2 (gConsM (setV 9) (gConsM (setV 10) gNilM))) gNilM))) (seqM (exprM (fnM (consM (opM dLt (getV 8) (pure (.int 2))) (consM (getV 9) (pure []))) f_need)) (appS 7 (fnM (consM (getV 10) (pure [])) f_steps_of)))) (seqM (ifM (J.orM (isNT (getV 5)) (J.orM (cmpT dEq (getV 7) (lstM (pure []))) (cmpT dNe (lstM (compM [] [16] (itM (getV 7)) (setV 16) (J.notM (cmpT2 (dCmp fun i j => decide (i ≤ j)) (dCmp fun i j => decide (i ≤ j)) (pure (.int 1)) (biM dLen (consM (getV 16) (pure []))) (pure (.int 12)))) (pure (.int 1)))) (lstM (pure []))))) M.stuck (pure .next)) (seqM (asgM (gTupM 4 (gConsM (setV 11) (gConsM (setV 12) (gConsM (setV 13) (gConsM (setV 14) gNilM))))) (getV 5)) (retM (makM "Case" f_Caseu_initu (consM (biM dTuple (consM (lstM (compM [] [16] (itM (getV 7)) (setV 16) (pure true) (makM "Program" f_Programu_initu (consM (getV 16) (pure []))))) (pure []))) (consM (makM "Faults" f_Faultsu_initu (consM (getV 11) (consM (getV 12) (consM (getV 13) (consM (getV 14) (pure [])))))) (consM (getV 6) (consM (getV 4) (pure [])))))))))))))))
noncomputable def f_read_case : Mf := runB 17 m_read_case
theorem g_read_case (C : Ct fa ts fn xs w K mg) : FnG P w K mg base 9 (e_read_case.ad K) (fdOf K (e_read_case.ad K)) ["value"] (spM K 1 f_read_case) := fnJ (d_read_case C) c_read_case fun cdv A outer s H E Z W jc =>
  (js_cons (js_set (i := 1) jc.nd (je_call (g_told_rows C) jc (by decide) rfl (C.glo 62) (d_told_rows C).kp (b_told_rows C) (ja_cons (je_var (i := 0)) ja_nil))) (js_cons (js_setLc (i := 2) jc.calm jc.nd [] [("at", 8), ("number", 9), ("words", 15)] (ji_enum1 rfl (C.free 23) (ja_cons (je_var (i := 1)) ja_nil)) (blkOk_by rfl) (fun _ _ _ _ _ _ => (jg_tup (JC.blk jc).calm (jgs_cons (jg_name (i := 8) (JC.blk jc).nd) (jgs_cons (jg_tup (JC.blk jc).calm (jgs_cons (jg_name (i := 9) (JC.blk jc).nd) (jgs_cons (jg_name (i := 15) (JC.blk jc).nd) jgs_nil))) jgs_nil)))) (fun _ _ _ _ _ _ => (jpts_one (jt_cmp (oj_eq (JC.blk jc).room.units) (je_var (i := 15)) (C.lstS 63 4 rfl rfl rfl)))) (fun _ _ _ _ _ _ => (je_var (i := 8)))) (js_cons (js_set (i := 3) jc.nd (je_ifExp (jt_cmp (oj_ne jc.room.units) (je_var (i := 2)) (jn_frz (jn_lst ja_nil))) (je_ix (je_var (i := 2)) je_int) (je_callB cj_len rfl (C.free 6) boot_len (ja_cons (je_var (i := 1)) ja_nil)))) (js_cons (js_asg (je_call (g_head_of C) jc (by decide) rfl (C.glo 65) (d_head_of C).kp (b_head_of C) (ja_cons (je_sl (je_var (i := 1)) jo_none (jo_some (je_callB (cj_max2 jc.calm) rfl (C.free 64) (by decide +kernel) (ja_cons (je_var (i := 3)) (ja_cons (je_callB (cj_min2 jc.calm) rfl (C.free 52) (by decide +kernel) (ja_cons je_int (ja_cons (je_callB cj_len rfl (C.free 6) boot_len (ja_cons (je_var (i := 1)) ja_nil)) ja_nil))) ja_nil))))) ja_nil)) (jg_tup jc.calm (jgs_cons (jg_name (i := 4) (ws := [4, 5, 6]) jc.nd) (jgs_cons (jg_name (i := 5) (ws := [4, 5, 6]) jc.nd) (jgs_cons (jg_name (i := 6) (ws := [4, 5, 6]) jc.nd) jgs_nil))))) (js_cons (js_own (i := 7) jc.nd (jn_lst ja_nil)) (js_cons (js_for jc.po jc.calm (ji_enum1 rfl (C.free 23) (ja_cons (je_call (g_blocks_of C) jc (by decide) rfl (C.glo 66) (d_blocks_of C).kp (b_blocks_of C) (ja_cons (je_sl (je_var (i := 1)) (jo_some (je_var (i := 3))) jo_none) ja_nil)) ja_nil)) (jg_tup jc.calm (jgs_cons (jg_name (i := 8) (ws := [8, 9, 10]) jc.nd) (jgs_cons (jg_tup jc.calm (jgs_cons (jg_name (i := 9) (ws := [8, 9, 10]) jc.nd) (jgs_cons (jg_name (i := 10) (ws := [8, 9, 10]) jc.nd) jgs_nil))) jgs_nil))) (js_cons (js_expr (je_call (g_need C) jc (by decide) rfl (C.glo 67) (d_need C).kp (b_need C) (ja_cons (je_cmp (oj_lt jc.room.units0) (je_var (i := 8)) je_int) (ja_cons (je_var (i := 9)) ja_nil)))) (js_one (js_app (i := 7) (je_call (g_steps_of C) jc (by decide) rfl (C.glo 68) (d_steps_of C).kp (b_steps_of C) (ja_cons (je_var (i := 10)) ja_nil)))))) (js_cons (js_if (PW.pt (jw_or (jt_isN (je_var (i := 5))) (jw_or (jt_cmp (oj_eq jc.room.units) (je_var (i := 7)) (jn_frz (jn_lst ja_nil))) (jw_one_or (jt_cmp (oj_ne jc.room.units) (jn_frz (jn_lc jc.calm jc.nd [] [("some", 16)] (ji_val (je_var (i := 7))) (blkOk_by rfl) (fun _ _ _ _ _ _ => (jg_name (i := 16) (JC.blk jc).nd)) (fun _ _ _ _ _ _ => (jpts_one (jt_not (jt_cmp2 (oj_cmp op_le) (oj_cmp op_le) je_int (je_callB cj_len rfl (C.free 6) boot_len (ja_cons (je_var (i := 16)) ja_nil)) (C.int 22 rfl rfl))))) (fun _ _ _ _ _ _ => je_int))) (jn_frz (jn_lst ja_nil))))))) (js_one js_never) js_nil) (js_cons (js_asg (je_var (i := 5)) (jg_tup jc.calm (jgs_cons (jg_name (i := 11) (ws := [11, 12, 13, 14]) jc.nd) (jgs_cons (jg_name (i := 12) (ws := [11, 12, 13, 14]) jc.nd) (jgs_cons (jg_name (i := 13) (ws := [11, 12, 13, 14]) jc.nd) (jgs_cons (jg_name (i := 14) (ws := [11, 12, 13, 14]) jc.nd) jgs_nil)))))) (js_one (js_ret (je_make (He.mkr_ok (C.fact 44)) (g_Caseu_initu C) jc (by decide) rfl (C.glo 45) (b_Caseu_initu C) (ja_cons (je_callT cj_tuple rfl (C.free 12) boot_tuple (ja_cons (jn_frz (jn_lc jc.calm jc.nd [] [("some", 16)] (ji_val (je_var (i := 7))) (blkOk_by rfl) (fun _ _ _ _ _ _ => (jg_name (i := 16) (JC.blk jc).nd)) (fun _ _ _ _ _ _ => jpts_nil) (fun _ _ _ _ _ _ => (je_make (He.mkr_ok (C.fact 3)) (g_Programu_initu C) (JC.blk jc) (by decide) rfl (C.glo 4) (b_Programu_initu C) (ja_cons (je_var (i := 16)) ja_nil))))) ja_nil)) (ja_cons (je_make (He.mkr_ok (C.fact 43)) (g_Faultsu_initu C) jc (by decide) rfl (C.glo 19) (b_Faultsu_initu C) (ja_cons (je_var (i := 11)) (ja_cons (je_var (i := 12)) (ja_cons (je_var (i := 13)) (ja_cons (je_var (i := 14)) ja_nil))))) (ja_cons (je_var (i := 6)) (ja_cons (je_var (i := 4)) ja_nil)))))))))))))))
theorem d_read_program (C : Ct fa ts fn xs w K mg) : FunD K "read_program" "read_program" (defArgs s_read_program) (defBody s_read_program) (defScope s_read_program) [] [] (e_read_program.ad K) (fdOf K (e_read_program.ad K)) := C.fd 60
theorem b_read_program (C : Ct fa ts fn xs w K mg) : Binds K (fdOf K (e_read_program.ad K)) ["value"] [] := (d_read_program C).bindsN fun _ _ _ _ _ _ us hl => match us, hl with | [_], _ => rfl
theorem c_read_program : FnScope ["value", "steps"] ["value"] (defScope s_read_program) := ⟨rfl, rfl, rfl, by decide +kernel, rfl, by decide +kernel, by decide +kernel⟩
noncomputable def m_read_program : M Fl := (seqM (setM 1 (fnM (consM (fnM (consM (getV 0) (pure [])) f_told_rows) (pure [])) f_steps_of)) (seqM (ifM (cmpT (dCmp fun i j => decide (j < i)) (biM dLen (consM (getV 1) (pure []))) (pure (.int 12))) M.stuck (pure .next)) (retM (makM "Program" f_Programu_initu (consM (getV 1) (pure []))))))
noncomputable def f_read_program : Mf := runB 2 m_read_program
theorem g_read_program (C : Ct fa ts fn xs w K mg) : FnG P w K mg base 9 (e_read_program.ad K) (fdOf K (e_read_program.ad K)) ["value"] (spM K 1 f_read_program) := fnJ (d_read_program C) c_read_program fun cdv A outer s H E Z W jc =>
  (js_cons (js_set (i := 1) jc.nd (je_call (g_steps_of C) jc (by decide) rfl (C.glo 68) (d_steps_of C).kp (b_steps_of C) (ja_cons (je_call (g_told_rows C) jc (by decide) rfl (C.glo 62) (d_told_rows C).kp (b_told_rows C) (ja_cons (je_var (i := 0)) ja_nil)) ja_nil))) (js_cons (js_if (jt_cmp (oj_cmp op_gt) (je_callB cj_len rfl (C.free 6) boot_len (ja_cons (je_var (i := 1)) ja_nil)) (C.int 22 rfl rfl)) (js_one js_never) js_nil) (js_one (js_ret (je_make (He.mkr_ok (C.fact 3)) (g_Programu_initu C) jc (by decide) rfl (C.glo 4) (b_Programu_initu C) (ja_cons (je_var (i := 1)) ja_nil))))))
theorem d_moved (C : Ct fa ts fn xs w K mg) : FunD K "moved" "moved" (defArgs s_moved) (defBody s_moved) (defScope s_moved) [] [] (e_moved.ad K) (fdOf K (e_moved.ad K)) := C.fd 61
theorem b_moved (C : Ct fa ts fn xs w K mg) : Binds K (fdOf K (e_moved.ad K)) ["step", "by"] [] := (d_moved C).bindsN fun _ _ _ _ _ _ us hl => match us, hl with | [_, _], _ => rfl
theorem c_moved : FnScope ["step", "by"] ["step", "by"] (defScope s_moved) := ⟨rfl, rfl, rfl, by decide +kernel, rfl, by decide +kernel, by decide +kernel⟩
noncomputable def m_moved : M Fl := (retM (ifM (cmpT dEq (opM dIx (getV 0) (pure (.int 0))) (pure (.str "go"))) (tupM (consM (pure (.str "go")) (consM (opM dAdd (opM dIx (getV 0) (pure (.int 1))) (getV 1)) (consM (opM dIx (getV 0) (pure (.int 2))) (pure []))))) (getV 0)))
noncomputable def f_moved : Mf := runB 2 m_moved
theorem g_moved (C : Ct fa ts fn xs w K mg) : FnG P w K mg base 1 (e_moved.ad K) (fdOf K (e_moved.ad K)) ["step", "by"] (spM K 2 f_moved) := fnJ (d_moved C) c_moved fun cdv A outer s H E Z W jc =>
  (js_one (js_ret (je_ifExp (jt_cmp (oj_eq jc.room.units) (je_ix (je_var (i := 0)) je_int) je_str) (je_tup (ja_cons je_str (ja_cons (je_op oj_add (je_ix (je_var (i := 0)) je_int) (je_var (i := 1))) (ja_cons (je_ix (je_var (i := 0)) je_int) ja_nil)))) (je_var (i := 0)))))
theorem d_Programu_addu (C : Ct fa ts fn xs w K mg) : FunD K "__add__" "Program.__add__" (defArgs s_Programu_addu) (defBody s_Programu_addu) (defScope s_Programu_addu) [] [] (e_Programu_addu.ad K) (fdOf K (e_Programu_addu.ad K)) := C.fd 62
theorem b_Programu_addu (C : Ct fa ts fn xs w K mg) : Binds K (fdOf K (e_Programu_addu.ad K)) ["self", "other"] [] := (d_Programu_addu C).bindsN fun _ _ _ _ _ _ us hl => match us, hl with | [_, _], _ => rfl
theorem c_Programu_addu : FnScope ["self", "other", "many", "step"] ["self", "other"] (defScope s_Programu_addu) := ⟨rfl, rfl, rfl, by decide +kernel, rfl, by decide +kernel, by decide +kernel⟩
noncomputable def m_Programu_addu : M Fl := (seqM (setM 2 (biM dLen (consM (fldG ["Program"] "listed" (getV 0)) (pure [])))) (seqM (ifM (cmpT (dCmp fun i j => decide (j < i)) (opM dAdd (getV 2) (biM dLen (consM (fldG ["Program"] "listed" (getV 1)) (pure [])))) (pure (.int 12))) M.stuck (pure .next)) (retM (makM "Program" f_Programu_initu (consM (opM dAdd (fldG ["Program"] "listed" (getV 0)) (biM dTuple (consM (lstM (compM [2] [3] (itM (fldG ["Program"] "listed" (getV 1))) (setV 3) (pure true) (fnM (consM (getV 3) (consM (getV 2) (pure []))) f_moved))) (pure [])))) (pure []))))))
noncomputable def f_Programu_addu : Mf := runB 4 m_Programu_addu
theorem g_Programu_addu (C : Ct fa ts fn xs w K mg) : FnG P w K mg base 9 (e_Programu_addu.ad K) (fdOf K (e_Programu_addu.ad K)) ["self", "other"] (spM K 2 f_Programu_addu) := fnJ (d_Programu_addu C) c_Programu_addu fun cdv A outer s H E Z W jc =>
  (js_cons (js_set (i := 2) jc.nd (je_callB cj_len rfl (C.free 6) boot_len (ja_cons (je_fld (fc_listed C) (je_var (i := 0))) ja_nil))) (js_cons (js_if (jt_cmp (oj_cmp op_gt) (je_op oj_add (je_var (i := 2)) (je_callB cj_len rfl (C.free 6) boot_len (ja_cons (je_fld (fc_listed C) (je_var (i := 1))) ja_nil))) (C.int 22 rfl rfl)) (js_one js_never) js_nil) (js_one (js_ret (je_make (He.mkr_ok (C.fact 3)) (g_Programu_initu C) jc (by decide) rfl (C.glo 4) (b_Programu_initu C) (ja_cons (je_op oj_add (je_fld (fc_listed C) (je_var (i := 0))) (je_callT cj_tuple rfl (C.free 12) boot_tuple (ja_cons (jn_frz (jn_lc jc.calm jc.nd [2] [("step", 3)] (ji_val (je_fld (fc_listed C) (je_var (i := 1)))) (blkOk_by rfl) (fun _ _ _ _ _ _ => (jg_name (i := 3) (JC.blk jc).nd)) (fun _ _ _ _ _ _ => jpts_nil) (fun _ _ _ _ _ _ => (je_call (g_moved C) (JC.blk jc) (by decide) rfl (C.glo 80) (d_moved C).kp (b_moved C) (ja_cons (je_var (i := 3)) (ja_cons (je_var (i := 2)) ja_nil)))))) ja_nil))) ja_nil))))))
noncomputable def at_Program (c : Str) : Option Mf := if c = "Program" then some f_Programu_addu else none
theorem ao_Program {Y : Cx} (C : Ct fa ts fn xs Y.w Y.K Y.mg) {k : Nat} (hk : 9 ≤ k) : ∀ c mf, at_Program c = some mf → AddC Y k c mf := fun c mf h => by
  unfold at_Program at h
  split at h
  · rename_i e
    cases h
    subst e
    have m := He.meth_ok (C.fact 91 (f := .meth "Program" "__add__"))
    exact ⟨⟨_, _, _, _, g_Programu_addu C, hk, b_Programu_addu C, m.1, m.2⟩, He.cls_ok (C.fact 86), C.chk 16 (f := fun K => PySem.W.selfFirst K (He.ga K "Program"))⟩
  · cases h
theorem d_Faults_none (C : Ct fa ts fn xs w K mg) : FunD K "none" "Faults.none" (defArgs s_Faults_none) (defBody s_Faults_none) (defScope s_Faults_none) [] [] (e_Faults_none.ad K) (fdOf K (e_Faults_none.ad K)) := C.fd 63
theorem b_Faults_none (C : Ct fa ts fn xs w K mg) : Binds K (fdOf K (e_Faults_none.ad K)) [] [] := (d_Faults_none C).bindsN fun _ _ _ _ _ _ us hl => match us, hl with | [], _ => rfl
theorem c_Faults_none : FnScope [] [] (defScope s_Faults_none) := ⟨rfl, rfl, rfl, by decide +kernel, rfl, by decide +kernel, by decide +kernel⟩
noncomputable def m_Faults_none : M Fl := (retM (makM "Faults" f_Faultsu_initu (consM (pure (.int 0)) (consM (pure (.int 0)) (consM (pure (.int 0)) (consM (pure (.int 0)) (pure [])))))))
noncomputable def f_Faults_none : Mf := runB 0 m_Faults_none
theorem g_Faults_none (C : Ct fa ts fn xs w K mg) : FnG P w K mg base 5 (e_Faults_none.ad K) (fdOf K (e_Faults_none.ad K)) [] (spM K 0 f_Faults_none) := fnJ (d_Faults_none C) c_Faults_none fun cdv A outer s H E Z W jc =>
  (js_one (js_ret (je_make (He.mkr_ok (C.fact 43)) (g_Faultsu_initu C) jc (by decide) rfl (C.glo 19) (b_Faultsu_initu C) (ja_cons je_int (ja_cons je_int (ja_cons je_int (ja_cons je_int ja_nil)))))))
theorem d_Case_with_faults (C : Ct fa ts fn xs w K mg) : FunD K "with_faults" "Case.with_faults" (defArgs s_Case_with_faults) (defBody s_Case_with_faults) (defScope s_Case_with_faults) [] [] (e_Case_with_faults.ad K) (fdOf K (e_Case_with_faults.ad K)) := C.fd 64
theorem b_Case_with_faults (C : Ct fa ts fn xs w K mg) : Binds K (fdOf K (e_Case_with_faults.ad K)) ["self", "faults"] [] := (d_Case_with_faults C).bindsN fun _ _ _ _ _ _ us hl => match us, hl with | [_, _], _ => rfl
theorem c_Case_with_faults : FnScope ["self", "faults"] ["self", "faults"] (defScope s_Case_with_faults) := ⟨rfl, rfl, rfl, by decide +kernel, rfl, by decide +kernel, by decide +kernel⟩
noncomputable def m_Case_with_faults : M Fl := (retM (makM "Case" f_Caseu_initu (consM (propM pt_programs (getV 0)) (consM (getV 1) (consM (propM pt_wishes (getV 0)) (consM (propM pt_fresh (getV 0)) (pure [])))))))
noncomputable def f_Case_with_faults : Mf := runB 2 m_Case_with_faults
theorem g_Case_with_faults (C : Ct fa ts fn xs w K mg) : FnG P w K mg base 8 (e_Case_with_faults.ad K) (fdOf K (e_Case_with_faults.ad K)) ["self", "faults"] (spM K 2 f_Case_with_faults) := fnJ (d_Case_with_faults C) c_Case_with_faults fun cdv A outer s H E Z W jc =>
  (js_one (js_ret (je_make (He.mkr_ok (C.fact 44)) (g_Caseu_initu C) jc (by decide) rfl (C.glo 45) (b_Caseu_initu C) (ja_cons (je_prop (po_programs C (by decide)) jc (je_var (i := 0))) (ja_cons (je_var (i := 1)) (ja_cons (je_prop (po_wishes C (by decide)) jc (je_var (i := 0))) (ja_cons (je_prop (po_fresh C (by decide)) jc (je_var (i := 0))) ja_nil)))))))
noncomputable def mt_with_faults (c : Str) : Option Mf := if c = "Case" then some f_Case_with_faults else none
theorem mo_with_faults {Y : Cx} (C : Ct fa ts fn xs Y.w Y.K Y.mg) {k : Nat} (hk : 8 ≤ k) : MethOk Y k "with_faults" 1 mt_with_faults := fun c mf h => by
  unfold mt_with_faults at h
  split at h
  · rename_i e
    cases h
    subst e
    exact ⟨_, _, _, _, He.cls_ok (C.fact 84), He.meth_ok (C.fact 92 (f := .meth "Case" "with_faults")), g_Case_with_faults C, hk, b_Case_with_faults C⟩
  · cases h
theorem d_is_index (C : Ct fa ts fn xs w K mg) : FunD K "is_index" "is_index" (defArgs s_is_index) (defBody s_is_index) (defScope s_is_index) [] [] (e_is_index.ad K) (fdOf K (e_is_index.ad K)) := C.fd 65
theorem b_is_index (C : Ct fa ts fn xs w K mg) : Binds K (fdOf K (e_is_index.ad K)) ["value", "many"] [] := (d_is_index C).bindsN fun _ _ _ _ _ _ us hl => match us, hl with | [_, _], _ => rfl
theorem c_is_index : FnScope ["value", "many"] ["value", "many"] (defScope s_is_index) := ⟨rfl, rfl, rfl, by decide +kernel, rfl, by decide +kernel, by decide +kernel⟩
noncomputable def m_is_index : M Fl := (retM (fnM (consM (getV 0) (consM (pure (.int 0)) (consM (opM dSub (getV 1) (pure (.int 1))) (pure [])))) f_is_within_kinds))
noncomputable def f_is_index : Mf := runB 2 m_is_index
theorem g_is_index (C : Ct fa ts fn xs w K mg) : FnG P w K mg base 3 (e_is_index.ad K) (fdOf K (e_is_index.ad K)) ["value", "many"] (spM K 2 f_is_index) := fnJ (d_is_index C) c_is_index fun cdv A outer s H E Z W jc =>
  (js_one (js_ret (je_call (g_is_within_kinds C) jc (by decide) rfl (C.glo 30) (d_is_within_kinds C).kp (b_is_within_kinds C) (ja_cons (je_var (i := 0)) (ja_cons je_int (ja_cons (je_op oj_sub (je_var (i := 1)) je_int) ja_nil))))))
theorem d_Case_with_program (C : Ct fa ts fn xs w K mg) : FunD K "with_program" "Case.with_program" (defArgs s_Case_with_program) (defBody s_Case_with_program) (defScope s_Case_with_program) [] [] (e_Case_with_program.ad K) (fdOf K (e_Case_with_program.ad K)) := C.fd 66
theorem b_Case_with_program (C : Ct fa ts fn xs w K mg) : Binds K (fdOf K (e_Case_with_program.ad K)) ["self", "hand", "program"] [] := (d_Case_with_program C).bindsN fun _ _ _ _ _ _ us hl => match us, hl with | [_, _, _], _ => rfl
theorem c_Case_with_program : FnScope ["self", "hand", "program", "many", "found"] ["self", "hand", "program"] (defScope s_Case_with_program) := ⟨rfl, rfl, rfl, by decide +kernel, rfl, by decide +kernel, by decide +kernel⟩
noncomputable def m_Case_with_program : M Fl := (seqM (setM 3 (biM dLen (consM (propM pt_programs (getV 0)) (pure [])))) (seqM (ifM (J.notM (tstM (fnM (consM (getV 1) (consM (getV 3) (pure []))) f_is_index))) M.stuck (pure .next)) (seqM (setM 4 (opM dAdd (opM dAdd (slM (propM pt_programs (getV 0)) (pure none) (bdM (getV 1))) (tupM (consM (getV 2) (pure [])))) (slM (propM pt_programs (getV 0)) (bdM (opM dAdd (getV 1) (pure (.int 1)))) (pure none)))) (retM (makM "Case" f_Caseu_initu (consM (getV 4) (consM (propM pt_faults (getV 0)) (consM (propM pt_wishes (getV 0)) (consM (propM pt_fresh (getV 0)) (pure []))))))))))
noncomputable def f_Case_with_program : Mf := runB 5 m_Case_with_program
theorem g_Case_with_program (C : Ct fa ts fn xs w K mg) : FnG P w K mg base 8 (e_Case_with_program.ad K) (fdOf K (e_Case_with_program.ad K)) ["self", "hand", "program"] (spM K 3 f_Case_with_program) := fnJ (d_Case_with_program C) c_Case_with_program fun cdv A outer s H E Z W jc =>
  (js_cons (js_set (i := 3) jc.nd (je_callB cj_len rfl (C.free 6) boot_len (ja_cons (je_prop (po_programs C (by decide)) jc (je_var (i := 0))) ja_nil))) (js_cons (js_if (jt_not (jt_val (je_call (g_is_index C) jc (by decide) rfl (C.glo 81) (d_is_index C).kp (b_is_index C) (ja_cons (je_var (i := 1)) (ja_cons (je_var (i := 3)) ja_nil))))) (js_one js_never) js_nil) (js_cons (js_set (i := 4) jc.nd (je_op oj_add (je_op oj_add (je_sl (je_prop (po_programs C (by decide)) jc (je_var (i := 0))) jo_none (jo_some (je_var (i := 1)))) (je_tup (ja_cons (je_var (i := 2)) ja_nil))) (je_sl (je_prop (po_programs C (by decide)) jc (je_var (i := 0))) (jo_some (je_op oj_add (je_var (i := 1)) je_int)) jo_none))) (js_one (js_ret (je_make (He.mkr_ok (C.fact 44)) (g_Caseu_initu C) jc (by decide) rfl (C.glo 45) (b_Caseu_initu C) (ja_cons (je_var (i := 4)) (ja_cons (je_prop (po_faults C (by decide)) jc (je_var (i := 0))) (ja_cons (je_prop (po_wishes C (by decide)) jc (je_var (i := 0))) (ja_cons (je_prop (po_fresh C (by decide)) jc (je_var (i := 0))) ja_nil))))))))))
noncomputable def mt_with_program (c : Str) : Option Mf := if c = "Case" then some f_Case_with_program else none
theorem mo_with_program {Y : Cx} (C : Ct fa ts fn xs Y.w Y.K Y.mg) {k : Nat} (hk : 8 ≤ k) : MethOk Y k "with_program" 2 mt_with_program := fun c mf h => by
  unfold mt_with_program at h
  split at h
  · rename_i e
    cases h
    subst e
    exact ⟨_, _, _, _, He.cls_ok (C.fact 84), He.meth_ok (C.fact 93 (f := .meth "Case" "with_program")), g_Case_with_program C, hk, b_Case_with_program C⟩
  · cases h
theorem d_Program_with_step (C : Ct fa ts fn xs w K mg) : FunD K "with_step" "Program.with_step" (defArgs s_Program_with_step) (defBody s_Program_with_step) (defScope s_Program_with_step) [] [] (e_Program_with_step.ad K) (fdOf K (e_Program_with_step.ad K)) := C.fd 67
theorem b_Program_with_step (C : Ct fa ts fn xs w K mg) : Binds K (fdOf K (e_Program_with_step.ad K)) ["self", "index", "value"] [] := (d_Program_with_step C).bindsN fun _ _ _ _ _ _ us hl => match us, hl with | [_, _, _], _ => rfl
theorem c_Program_with_step : FnScope ["self", "index", "value"] ["self", "index", "value"] (defScope s_Program_with_step) := ⟨rfl, rfl, rfl, by decide +kernel, rfl, by decide +kernel, by decide +kernel⟩
noncomputable def m_Program_with_step : M Fl := (seqM (ifM (J.notM (tstM (fnM (consM (getV 1) (consM (biM dLen (consM (fldG ["Program"] "listed" (getV 0)) (pure []))) (pure []))) f_is_index))) M.stuck (pure .next)) (retM (makM "Program" f_Programu_initu (consM (opM dAdd (opM dAdd (slM (fldG ["Program"] "listed" (getV 0)) (pure none) (bdM (getV 1))) (tupM (consM (getV 2) (pure [])))) (slM (fldG ["Program"] "listed" (getV 0)) (bdM (opM dAdd (getV 1) (pure (.int 1)))) (pure none))) (pure [])))))
noncomputable def f_Program_with_step : Mf := runB 3 m_Program_with_step
theorem g_Program_with_step (C : Ct fa ts fn xs w K mg) : FnG P w K mg base 9 (e_Program_with_step.ad K) (fdOf K (e_Program_with_step.ad K)) ["self", "index", "value"] (spM K 3 f_Program_with_step) := fnJ (d_Program_with_step C) c_Program_with_step fun cdv A outer s H E Z W jc =>
  (js_cons (js_if (jt_not (jt_val (je_call (g_is_index C) jc (by decide) rfl (C.glo 81) (d_is_index C).kp (b_is_index C) (ja_cons (je_var (i := 1)) (ja_cons (je_callB cj_len rfl (C.free 6) boot_len (ja_cons (je_fld (fc_listed C) (je_var (i := 0))) ja_nil)) ja_nil))))) (js_one js_never) js_nil) (js_one (js_ret (je_make (He.mkr_ok (C.fact 3)) (g_Programu_initu C) jc (by decide) rfl (C.glo 4) (b_Programu_initu C) (ja_cons (je_op oj_add (je_op oj_add (je_sl (je_fld (fc_listed C) (je_var (i := 0))) jo_none (jo_some (je_var (i := 1)))) (je_tup (ja_cons (je_var (i := 2)) ja_nil))) (je_sl (je_fld (fc_listed C) (je_var (i := 0))) (jo_some (je_op oj_add (je_var (i := 1)) je_int)) jo_none)) ja_nil)))))
noncomputable def mt_with_step (c : Str) : Option Mf := if c = "Program" then some f_Program_with_step else none
theorem mo_with_step {Y : Cx} (C : Ct fa ts fn xs Y.w Y.K Y.mg) {k : Nat} (hk : 9 ≤ k) : MethOk Y k "with_step" 2 mt_with_step := fun c mf h => by
  unfold mt_with_step at h
  split at h
  · rename_i e
    cases h
    subst e
    exact ⟨_, _, _, _, He.cls_ok (C.fact 86), He.meth_ok (C.fact 94 (f := .meth "Program" "with_step")), g_Program_with_step C, hk, b_Program_with_step C⟩
  · cases h
theorem d_Case_with_wishes (C : Ct fa ts fn xs w K mg) : FunD K "with_wishes" "Case.with_wishes" (defArgs s_Case_with_wishes) (defBody s_Case_with_wishes) (defScope s_Case_with_wishes) [] [] (e_Case_with_wishes.ad K) (fdOf K (e_Case_with_wishes.ad K)) := C.fd 68
theorem b_Case_with_wishes (C : Ct fa ts fn xs w K mg) : Binds K (fdOf K (e_Case_with_wishes.ad K)) ["self", "wishes"] [] := (d_Case_with_wishes C).bindsN fun _ _ _ _ _ _ us hl => match us, hl with | [_, _], _ => rfl
theorem c_Case_with_wishes : FnScope ["self", "wishes"] ["self", "wishes"] (defScope s_Case_with_wishes) := ⟨rfl, rfl, rfl, by decide +kernel, rfl, by decide +kernel, by decide +kernel⟩
noncomputable def m_Case_with_wishes : M Fl := (retM (makM "Case" f_Caseu_initu (consM (propM pt_programs (getV 0)) (consM (propM pt_faults (getV 0)) (consM (getV 1) (consM (propM pt_fresh (getV 0)) (pure [])))))))
noncomputable def f_Case_with_wishes : Mf := runB 2 m_Case_with_wishes
theorem g_Case_with_wishes (C : Ct fa ts fn xs w K mg) : FnG P w K mg base 8 (e_Case_with_wishes.ad K) (fdOf K (e_Case_with_wishes.ad K)) ["self", "wishes"] (spM K 2 f_Case_with_wishes) := fnJ (d_Case_with_wishes C) c_Case_with_wishes fun cdv A outer s H E Z W jc =>
  (js_one (js_ret (je_make (He.mkr_ok (C.fact 44)) (g_Caseu_initu C) jc (by decide) rfl (C.glo 45) (b_Caseu_initu C) (ja_cons (je_prop (po_programs C (by decide)) jc (je_var (i := 0))) (ja_cons (je_prop (po_faults C (by decide)) jc (je_var (i := 0))) (ja_cons (je_var (i := 1)) (ja_cons (je_prop (po_fresh C (by decide)) jc (je_var (i := 0))) ja_nil)))))))
noncomputable def mt_with_wishes (c : Str) : Option Mf := if c = "Case" then some f_Case_with_wishes else none
theorem mo_with_wishes {Y : Cx} (C : Ct fa ts fn xs Y.w Y.K Y.mg) {k : Nat} (hk : 8 ≤ k) : MethOk Y k "with_wishes" 1 mt_with_wishes := fun c mf h => by
  unfold mt_with_wishes at h
  split at h
  · rename_i e
    cases h
    subst e
    exact ⟨_, _, _, _, He.cls_ok (C.fact 84), He.meth_ok (C.fact 95 (f := .meth "Case" "with_wishes")), g_Case_with_wishes C, hk, b_Case_with_wishes C⟩
  · cases h
theorem d_law (C : Ct fa ts fn xs w K mg) : FunD K "law" "law" (defArgs s_law) (defBody s_law) (defScope s_law) [] [] (e_law.ad K) (fdOf K (e_law.ad K)) := C.fd 69
theorem b_law (C : Ct fa ts fn xs w K mg) : Binds K (fdOf K (e_law.ad K)) ["_law_script"] [] := (d_law C).bindsN fun _ _ _ _ _ _ us hl => match us, hl with | [_], _ => rfl
theorem c_law : FnScope ["_law_script", "_law_deck_here", "_law_turn", "_law_some", "_law_more", "_law_one", "_law_other", "_law_lines", "_law_spot", "_law_fresh", "_law_exchanged", "_law_due", "_law_data_here", "_law_case_here", "_law_later", "_law_text", "_law_changed", "_law_told", "_law_part", "_law_step_here"] ["_law_script"] (defScope s_law) := ⟨rfl, rfl, rfl, by decide +kernel, rfl, by decide +kernel, by decide +kernel⟩
noncomputable def m_law : M Fl := (seqM (setM 1 (fnM (consM (getV 0) (pure [])) f__law_deck)) (seqM (forS (biN dRange1 (consM (pure (.int 5)) (pure []))) (setV 2) (seqM (asgM (gLstM 2 (gConsM (setV 3) (gConsM (setV 4) gNilM))) (lstM (compM [] [18] (biN dRange1 (consM (pure (.int 2)) (pure []))) (setV 18) (pure true) (fnM (consM (getV 1) (consM (pure (.int 6)) (pure []))) f__law_steps)))) (seqM (parS 5 6 (consM (makM "Program" f_Programu_initu (consM (getV 3) (pure []))) (consM (makM "Program" f_Programu_initu (consM (getV 4) (pure []))) (pure [])))) (seqM (setM 7 (lstM (smN dSplit (fnM (consM (getV 5) (pure [])) f_program_text) (pure (.str "\n"))))) (seqM (parS 8 9 (consM (fnM (consM (getV 1) (consM (biM dLen (consM (getV 3) (pure []))) (pure []))) f__law_next) (consM (fnM (consM (getV 1) (consM (biM dLen (consM (getV 3) (pure []))) (pure []))) f__law_step) (pure [])))) (seqM (setM 10 (opM dAdd (opM dAdd (slM (getV 7) (pure none) (bdM (getV 8))) (lstM (consM (smM dJoin (pure (.str " ")) (fnM (consM (getV 9) (pure [])) f__law_words)) (pure [])))) (slM (getV 7) (bdM (opM dAdd (getV 8) (pure (.int 1)))) (pure none)))) (seqM (ifM (J.notM (tstM (fnM (consM (fnM (consM (methM mt_with_step "with_step" (getV 5) (consM (getV 8) (consM (getV 9) (pure [])))) (pure [])) f_program_text) (consM (smM dJoin (pure (.str "\n")) (getV 10)) (pure []))) f__law_same))) (retM (pure (.bl false))) (pure .next)) (seqM (setM 11 (fnM (consM (lstM (compM [] [19] (itM (opM dAdd (getV 3) (biM dTuple (consM (lstM (compM [3] [19] (itM (getV 4)) (setV 19) (pure true) (fnM (consM (getV 19) (consM (biM dLen (consM (getV 3) (pure []))) (pure []))) f__law_moved))) (pure []))))) (setV 19) (pure true) (fnM (consM (getV 19) (pure [])) f__law_words))) (pure [])) f__law_plain)) (seqM (ifM (J.orM (J.notM (tstM (fnM (consM (fnM (consM (addIM at_Program (getV 5) (getV 6)) (pure [])) f_program_text) (consM (getV 11) (pure []))) f__law_same))) (J.notM (eqT qt_Program false (fnM (consM (getV 11) (pure [])) f_read_program) (addIM at_Program (getV 5) (getV 6))))) (retM (pure (.bl false))) (pure .next)) (seqM (ifM (J.notM (tstM (fnM (consM (getV 5) (consM (getV 6) (consM (lstM (consM (fnM (consM (getV 5) (pure [])) f_program_text) (consM (fnM (consM (getV 6) (pure [])) f_program_text) (pure [])))) (pure [])))) f__law_pair_right))) (retM (pure (.bl false))) (pure .next)) (seqM (setM 12 (fnM (consM (getV 1) (consM (pure (.int 2)) (consM (pure (.int 6)) (consM (pure (.int 2)) (pure []))))) f__law_data)) (seqM (parS 13 14 (consM (fnM (consM (opM dAdd (lstM (consM (lstM (consM (getV 3) (consM (getV 4) (pure [])))) (pure []))) (slM (getV 12) (bdM (pure (.int 1))) (pure none))) (pure [])) f__law_case) (consM (fnM (consM (opM dAdd (lstM (consM (lstM (consM (getV 4) (consM (getV 3) (pure [])))) (pure []))) (slM (getV 12) (bdM (pure (.int 1))) (pure none))) (pure [])) f__law_case) (pure [])))) (seqM (setM 15 (fnM (consM (getV 13) (pure [])) f_case_text)) (seqM (ifM (J.notM (tstM (fnM (consM (slM (lstM (smN dSplitM (getV 15) (pure (.str "hand\n")))) (bdM (pure (.int 1))) (pure none)) (consM (lstM (consM (fnM (consM (getV 5) (pure [])) f_program_text) (consM (fnM (consM (getV 6) (pure [])) f_program_text) (pure [])))) (pure []))) f__law_same))) (retM (pure (.bl false))) (pure .next)) (seqM (forS (itM (tupM (consM (getV 14) (consM (methM mt_with_program "with_program" (getV 13) (consM (pure (.int 1)) (consM (getV 5) (pure [])))) (consM (methM mt_with_wishes "with_wishes" (getV 13) (consM (tupM (pure [])) (pure []))) (consM (methM mt_with_faults "with_faults" (getV 13) (consM (callM f_Faults_none []) (pure []))) (pure []))))))) (setV 16) (seqM (setM 17 (fnM (consM (getV 16) (pure [])) f_case_text)) (ifM (J.orM (J.notM (tstM (fnM (consM (getV 13) (consM (getV 16) (consM (lstM (consM (getV 15) (consM (getV 17) (pure [])))) (pure [])))) f__law_pair_right))) (eqT qt_Case true (fnM (consM (getV 17) (pure [])) f_read_case) (getV 16))) (retM (pure (.bl false))) (pure .next)))) (ifM (J.notM (tstM (fnM (consM (fnM (consM (fnM (consM (getV 15) (pure [])) f_read_case) (pure [])) f_case_text) (consM (getV 15) (pure []))) f__law_same))) (retM (pure (.bl false))) (pure .next))))))))))))))))) (retM (pure (.bl true)))))
noncomputable def f_law : Mf := runB 20 m_law
theorem g_law (C : Ct fa ts fn xs w K mg) : FnG P w K mg base 10 (e_law.ad K) (fdOf K (e_law.ad K)) ["_law_script"] (spM K 1 f_law) := fnJ (d_law C) c_law fun cdv A outer s H E Z W jc =>
  (js_cons (js_set (i := 1) jc.nd (je_call (g__law_deck C) jc (by decide) rfl (C.glo 0) (d__law_deck C).kp (b__law_deck C) (ja_cons (je_var (i := 0)) ja_nil))) (js_cons (js_for jc.po jc.calm (ji_range1 rfl (C.free 1) (ja_cons je_int ja_nil)) (jg_name (i := 2) (ws := [2]) jc.nd) (js_cons (js_asg (jn_frz (jn_lc jc.calm jc.nd [] [("_law_part", 18)] (ji_range1 rfl (C.free 1) (ja_cons je_int ja_nil)) (blkOk_by rfl) (fun _ _ _ _ _ _ => (jg_name (i := 18) (JC.blk jc).nd)) (fun _ _ _ _ _ _ => jpts_nil) (fun _ _ _ _ _ _ => (je_call (g__law_steps C) (JC.blk jc) (by decide) rfl (C.glo 2) (d__law_steps C).kp (b__law_steps C) (ja_cons (je_var (i := 1)) (ja_cons je_int ja_nil)))))) (jg_lst jc.calm (jgs_cons (jg_name (i := 3) (ws := [3, 4]) jc.nd) (jgs_cons (jg_name (i := 4) (ws := [3, 4]) jc.nd) jgs_nil)))) (js_cons (js_par (i := 5) (j := 6) jc.calm jc.nd (ja_cons (je_make (He.mkr_ok (C.fact 3)) (g_Programu_initu C) jc (by decide) rfl (C.glo 4) (b_Programu_initu C) (ja_cons (je_var (i := 3)) ja_nil)) (ja_cons (je_make (He.mkr_ok (C.fact 3)) (g_Programu_initu C) jc (by decide) rfl (C.glo 4) (b_Programu_initu C) (ja_cons (je_var (i := 4)) ja_nil)) ja_nil))) (js_cons (js_set (i := 7) jc.nd (jn_frz (kn_sm1 F.slot_str_split F.type_str_split mj_split (je_call (g_program_text C) jc (by decide) rfl (C.glo 5) (d_program_text C).kp (b_program_text C) (ja_cons (je_var (i := 5)) ja_nil)) je_str))) (js_cons (js_par (i := 8) (j := 9) jc.calm jc.nd (ja_cons (je_call (g__law_next C) jc (by decide) rfl (C.glo 8) (d__law_next C).kp (b__law_next C) (ja_cons (je_var (i := 1)) (ja_cons (je_callB cj_len rfl (C.free 6) boot_len (ja_cons (je_var (i := 3)) ja_nil)) ja_nil))) (ja_cons (je_call (g__law_step C) jc (by decide) rfl (C.glo 7) (d__law_step C).kp (b__law_step C) (ja_cons (je_var (i := 1)) (ja_cons (je_callB cj_len rfl (C.free 6) boot_len (ja_cons (je_var (i := 3)) ja_nil)) ja_nil))) ja_nil))) (js_cons (js_set (i := 10) jc.nd (je_op oj_add (je_op oj_add (je_sl (je_var (i := 7)) jo_none (jo_some (je_var (i := 8)))) (jn_frz (jn_lst (ja_cons (kt_sm1 F.slot_str_join F.type_str_join mj_join je_str (je_call (g__law_words C) jc (by decide) rfl (C.glo 9) (d__law_words C).kp (b__law_words C) (ja_cons (je_var (i := 9)) ja_nil))) ja_nil)))) (je_sl (je_var (i := 7)) (jo_some (je_op oj_add (je_var (i := 8)) je_int)) jo_none))) (js_cons (js_if (jt_not (jt_val (je_call (g__law_same C) jc (by decide) rfl (C.glo 10) (d__law_same C).kp (b__law_same C) (ja_cons (je_call (g_program_text C) jc (by decide) rfl (C.glo 5) (d_program_text C).kp (b_program_text C) (ja_cons (je_meth (mo_with_step C (by decide)) jc (je_var (i := 5)) (ja_cons (je_var (i := 8)) (ja_cons (je_var (i := 9)) ja_nil))) ja_nil)) (ja_cons (kt_sm1 F.slot_str_join F.type_str_join mj_join je_str (je_var (i := 10))) ja_nil))))) (js_one (js_ret je_bl)) js_nil) (js_cons (js_set (i := 11) jc.nd (je_call (g__law_plain C) jc (by decide) rfl (C.glo 13) (d__law_plain C).kp (b__law_plain C) (ja_cons (jn_frz (jn_lc jc.calm jc.nd [] [("_law_step_here", 19)] (ji_val (je_op oj_add (je_var (i := 3)) (je_callT cj_tuple rfl (C.free 12) boot_tuple (ja_cons (jn_frz (jn_lc jc.calm jc.nd [3] [("_law_step_here", 19)] (ji_val (je_var (i := 4))) (blkOk_by rfl) (fun _ _ _ _ _ _ => (jg_name (i := 19) (JC.blk jc).nd)) (fun _ _ _ _ _ _ => jpts_nil) (fun _ _ _ _ _ _ => (je_call (g__law_moved C) (JC.blk jc) (by decide) rfl (C.glo 11) (d__law_moved C).kp (b__law_moved C) (ja_cons (je_var (i := 19)) (ja_cons (je_callB cj_len rfl (C.free 6) boot_len (ja_cons (je_var (i := 3)) ja_nil)) ja_nil)))))) ja_nil)))) (blkOk_by rfl) (fun _ _ _ _ _ _ => (jg_name (i := 19) (JC.blk jc).nd)) (fun _ _ _ _ _ _ => jpts_nil) (fun _ _ _ _ _ _ => (je_call (g__law_words C) (JC.blk jc) (by decide) rfl (C.glo 9) (d__law_words C).kp (b__law_words C) (ja_cons (je_var (i := 19)) ja_nil))))) ja_nil))) (js_cons (js_if (PW.pt (jw_or (jt_not (jt_val (je_call (g__law_same C) jc (by decide) rfl (C.glo 10) (d__law_same C).kp (b__law_same C) (ja_cons (je_call (g_program_text C) jc (by decide) rfl (C.glo 5) (d_program_text C).kp (b_program_text C) (ja_cons (je_addI (ao_Program C (by decide)) jc (je_var (i := 5)) (je_var (i := 6))) ja_nil)) (ja_cons (je_var (i := 11)) ja_nil))))) (jw_one_or (jt_not (jt_eqC false (eq_ok_Program C (by decide)) jc (je_call (g_read_program C) jc (by decide) rfl (C.glo 14) (d_read_program C).kp (b_read_program C) (ja_cons (je_var (i := 11)) ja_nil)) (je_addI (ao_Program C (by decide)) jc (je_var (i := 5)) (je_var (i := 6)))))))) (js_one (js_ret je_bl)) js_nil) (js_cons (js_if (jt_not (jt_val (je_call (g__law_pair_right C) jc (by decide) rfl (C.glo 15) (d__law_pair_right C).kp (b__law_pair_right C) (ja_cons (je_var (i := 5)) (ja_cons (je_var (i := 6)) (ja_cons (jn_frz (jn_lst (ja_cons (je_call (g_program_text C) jc (by decide) rfl (C.glo 5) (d_program_text C).kp (b_program_text C) (ja_cons (je_var (i := 5)) ja_nil)) (ja_cons (je_call (g_program_text C) jc (by decide) rfl (C.glo 5) (d_program_text C).kp (b_program_text C) (ja_cons (je_var (i := 6)) ja_nil)) ja_nil)))) ja_nil)))))) (js_one (js_ret je_bl)) js_nil) (js_cons (js_set (i := 12) jc.nd (je_call (g__law_data C) jc (by decide) rfl (C.glo 16) (d__law_data C).kp (b__law_data C) (ja_cons (je_var (i := 1)) (ja_cons je_int (ja_cons je_int (ja_cons je_int ja_nil)))))) (js_cons (js_par (i := 13) (j := 14) jc.calm jc.nd (ja_cons (je_call (g__law_case C) jc (by decide) rfl (C.glo 17) (d__law_case C).kp (b__law_case C) (ja_cons (je_op oj_add (jn_frz (jn_lst (ja_cons (jn_frz (jn_lst (ja_cons (je_var (i := 3)) (ja_cons (je_var (i := 4)) ja_nil)))) ja_nil))) (je_sl (je_var (i := 12)) (jo_some je_int) jo_none)) ja_nil)) (ja_cons (je_call (g__law_case C) jc (by decide) rfl (C.glo 17) (d__law_case C).kp (b__law_case C) (ja_cons (je_op oj_add (jn_frz (jn_lst (ja_cons (jn_frz (jn_lst (ja_cons (je_var (i := 4)) (ja_cons (je_var (i := 3)) ja_nil)))) ja_nil))) (je_sl (je_var (i := 12)) (jo_some je_int) jo_none)) ja_nil)) ja_nil))) (js_cons (js_set (i := 15) jc.nd (je_call (g_case_text C) jc (by decide) rfl (C.glo 18) (d_case_text C).kp (b_case_text C) (ja_cons (je_var (i := 13)) ja_nil))) (js_cons (js_if (jt_not (jt_val (je_call (g__law_same C) jc (by decide) rfl (C.glo 10) (d__law_same C).kp (b__law_same C) (ja_cons (je_sl (jn_frz (kn_sm1 F.slot_str_split F.type_str_split mj_splitM (je_var (i := 15)) je_str)) (jo_some je_int) jo_none) (ja_cons (jn_frz (jn_lst (ja_cons (je_call (g_program_text C) jc (by decide) rfl (C.glo 5) (d_program_text C).kp (b_program_text C) (ja_cons (je_var (i := 5)) ja_nil)) (ja_cons (je_call (g_program_text C) jc (by decide) rfl (C.glo 5) (d_program_text C).kp (b_program_text C) (ja_cons (je_var (i := 6)) ja_nil)) ja_nil)))) ja_nil))))) (js_one (js_ret je_bl)) js_nil) (js_cons (js_for jc.po jc.calm (ji_val (je_tup (ja_cons (je_var (i := 14)) (ja_cons (je_meth (mo_with_program C (by decide)) jc (je_var (i := 13)) (ja_cons je_int (ja_cons (je_var (i := 5)) ja_nil))) (ja_cons (je_meth (mo_with_wishes C (by decide)) jc (je_var (i := 13)) (ja_cons (je_tup ja_nil) ja_nil)) (ja_cons (je_meth (mo_with_faults C (by decide)) jc (je_var (i := 13)) (ja_cons (je_sm0 (C.chk 0 (f := smB "Faults" "none")) (g_Faults_none C) jc (by decide) rfl (C.glo 19) (b_Faults_none C)) ja_nil)) ja_nil)))))) (jg_name (i := 16) (ws := [16]) jc.nd) (js_cons (js_set (i := 17) jc.nd (je_call (g_case_text C) jc (by decide) rfl (C.glo 18) (d_case_text C).kp (b_case_text C) (ja_cons (je_var (i := 16)) ja_nil))) (js_one (js_if (PW.pt (jw_or (jt_not (jt_val (je_call (g__law_pair_right C) jc (by decide) rfl (C.glo 15) (d__law_pair_right C).kp (b__law_pair_right C) (ja_cons (je_var (i := 13)) (ja_cons (je_var (i := 16)) (ja_cons (jn_frz (jn_lst (ja_cons (je_var (i := 15)) (ja_cons (je_var (i := 17)) ja_nil)))) ja_nil)))))) (jw_one_or (jt_eqC true (eq_ok_Case C (by decide)) jc (je_call (g_read_case C) jc (by decide) rfl (C.glo 20) (d_read_case C).kp (b_read_case C) (ja_cons (je_var (i := 17)) ja_nil)) (je_var (i := 16)))))) (js_one (js_ret je_bl)) js_nil)))) (js_one (js_if (jt_not (jt_val (je_call (g__law_same C) jc (by decide) rfl (C.glo 10) (d__law_same C).kp (b__law_same C) (ja_cons (je_call (g_case_text C) jc (by decide) rfl (C.glo 18) (d_case_text C).kp (b_case_text C) (ja_cons (je_call (g_read_case C) jc (by decide) rfl (C.glo 20) (d_read_case C).kp (b_read_case C) (ja_cons (je_var (i := 15)) ja_nil)) ja_nil)) (ja_cons (je_var (i := 15)) ja_nil))))) (js_one (js_ret je_bl)) js_nil))))))))))))))))) (js_one (js_ret je_bl))))
end
end Law
end
section
namespace Law
open PySem PySem.Spec PyProof.Rows L2 J
abbrev R : PySem.W.OpenRow := PySem.W.OpenLaw.row PySem.Challenge.rw_partsjoined_k75_whole_texts_led
def loose0 : List Str := ["_wall", "MAX_FAULT", "MAX_PARTS", "MAX_STEPS", "MAX_WISHES", "PartsError", "BadCase", "BadFaults", "BadProgram", "BadText", "TooMany", "NoHand", "NoLine", "is_whole", "is_within", "is_within_kinds", "is_index", "is_word", "is_same", "Faults", "ITEMS", "WHENS", "OUTCOMES", "is_piece", "is_part", "is_edition", "are_outcomes", "lay_error", "join_error", "go_error"]
def loose1 : List Str := ["step_error", "moved", "Program", "are_programs", "are_wishes", "Case", "DIGITS", "NO_TEXT", "NO_WORD", "NO_FORM", "NO_STEP", "TOO_LONG", "NO_PLACE", "NO_HANDS", "HAND", "NUMBERS", "CHECKS", "step_words", "program_text", "case_text", "words_of", "rows_of", "number_of", "numbers_of", "join_of", "step_of", "steps_of", "told_rows", "read_program", "need"]
def loose2 : List Str := ["faults_of", "wish_of", "head_of", "blocks_of", "read_case", "_law_deck", "_law_next", "_law_same", "_law_edition", "_law_outcomes", "_law_step", "_law_usual", "_law_within", "_law_steps", "_law_data", "_law_case", "_law_words", "_law_plain", "_law_moved", "_law_pair_right"]
abbrev loose : List Str := loose0 ++ loose1 ++ loose2
abbrev hk : PySem.W.Hook := hookK 6 fa ts fn xs
def ob (s : PySem.W.SharedT) : J.AlJ := seeK 6 fa ts fn xs (HandSHeadRun.getT s)
theorem ob_eq (s : PySem.W.SharedT) : ob s = hk.obs s.abs := seeK_eq s
theorem run_false (w : World) : HandSHeadRun.RunEq R (PySem.W.view R.prog [87]) hk ob 9000 loose (w.withFollow "special-get-raises" false) := by
  intro os
  kernel_rfl
theorem run_true (w : World) : HandSHeadRun.RunEq R (PySem.W.view R.prog [87]) hk ob 9000 loose (w.withFollow "special-get-raises" true) := by
  intro os
  kernel_rfl
theorem run (w : World) : HandSHeadRun.RunEq R (PySem.W.view R.prog [87]) hk ob 9000 loose w := PySem.W.byRow2 "special-get-raises" run_false run_true w
end Law
end
section
namespace Law
open PySem PySem.Spec L2 J
section
variable {S ρ : List MO} {n : Nat}
theorem ex_two {α : Type} {p q : α → Prop} {a : α} (h : p a) (w : q a) : ∃ a, p a ∧ q a := ⟨a, h, w⟩
theorem fq_next {g : M Fl} {Q : Fl → Sta → Prop} {st : Sta} (w : Wp g st Q) : Fq g Q .next st := w
theorem fq_ret {g : M Fl} {Q : Fl → Sta → Prop} {st : Sta} {d : D} (w : Q (.ret d) st) : Fq g Q (.ret d) st := w
theorem rq_ret {Q : D → List MO → Prop} {st : Sta} {d : D} (w : Q d st.S) : Rq Q (.ret d) st := w
theorem lq_next {g : M Fl} {Q : Fl → Sta → Prop} {st : Sta} (w : Wp g st Q) : Lq g Q .next st := w
theorem lq_ret {g : M Fl} {Q : Fl → Sta → Prop} {st : Sta} {d : D} (w : Q (.ret d) st) : Lq g Q (.ret d) st := w
theorem wp_dkNe {i : Nat} {k : Dk} {st : Sta} {Q : Bool → Sta → Prop} (h : dkM i st = .ok k st) (w : Q (!k.c.isEmpty) st) : Wp (dkNe i) st Q := wp_bind ⟨k, st, h, wp_pure w⟩
local macro_rules | `(tactic| walk_at "jstep") => `(tactic| first
  | (with_reducible refine wp_seq ?_) | (with_reducible refine fq_next ?_) | (with_reducible refine fq_ret ?_) | (with_reducible refine rq_ret ?_) | (with_reducible refine wp_cons ?_) | (with_reducible refine wp_nil ?_)
  | (with_reducible refine wp_pure ?_) | (with_reducible refine wp_op ?_) | (with_reducible refine wp_fn ?_) | (with_reducible refine wp_bi ?_) | (with_reducible refine wp_tup ?_) | (with_reducible refine wp_lst ?_)
  | (with_reducible refine wp_set ?_) | (with_reducible refine wp_ret ?_) | (with_reducible refine wp_if ?_) | (with_reducible refine wp_cmp ?_) | (with_reducible refine wp_not ?_) | (with_reducible refine wp_and ?_)
  | (with_reducible refine wp_or ?_) | (with_reducible refine wp_un ?_) | (with_reducible refine wp_tst ?_) | (with_reducible refine wp_true ?_) | (with_reducible refine wp_isNT ?_) | (with_reducible refine wp_notNT ?_)
  | (with_reducible refine wp_ownS ?_) | (with_reducible refine wp_asg ?_) | (with_reducible refine wp_par ?_) | (with_reducible refine wp_parO ?_) | (with_reducible refine wp_biN ?_) | (with_reducible refine wp_it ?_)
  | (with_reducible refine wp_isi ?_) | (with_reducible refine wp_isiC ?_) | (with_reducible refine wp_sl ?_) | (with_reducible refine wp_slN ?_) | (with_reducible refine wp_bd ?_) | (with_reducible refine wp_addN ?_)
  | (with_reducible refine wp_sm ?_) | (with_reducible refine wp_smN ?_) | (with_reducible refine wp_for ?_) | (with_reducible refine wp_comp ?_) | (with_reducible refine wp_cmp2 ?_) | (with_reducible refine wp_for_nil ?_)
  | (with_reducible refine wp_compN ?_) | (with_reducible refine lq_next ?_) | (with_reducible refine lq_ret ?_) | (with_reducible refine wp_rep ?_) | ((with_reducible apply wp_val); · rfl) | ((with_reducible apply wp_own); · rfl)
  | (with_reducible refine wp_fmt ?_) | (with_reducible refine wp_joinsN ?_) | (with_reducible refine wp_joinsC ?_) | (with_reducible refine wp_oNew ?_) | (with_reducible refine wp_oIx ?_) | (with_reducible refine wp_oTup ?_) | (with_reducible refine wp_oLen ?_)
  | (with_reducible refine wp_oRev ?_) | (with_reducible refine wp_oApp ?_) | (with_reducible refine wp_oPop ?_) | (with_reducible refine wp_oIns ?_) | (with_reducible refine wp_oSet ?_) | (with_reducible refine wp_par3 ?_) | (with_reducible refine wp_sort ?_) | (with_reducible refine wp_rev ?_)
  | (with_reducible refine J.wp_andV ?_) | (with_reducible refine wp_orV ?_) | (with_reducible refine wp_notV ?_) | (with_reducible refine wp_isNM ?_) | (with_reducible refine wp_notNM ?_) | (with_reducible refine wp_chain ?_) | (with_reducible refine wp_tabI ?_) | (with_reducible refine wp_tabT ?_)
  | (with_reducible refine wp_tabX ?_) | (with_reducible refine wp_expr ?_)
  | ((with_reducible apply wp_then); · rfl) | ((with_reducible apply wp_else); · rfl) | ((with_reducible apply wp_lenO); · rfl) | ((with_reducible apply wp_lenV); · rfl) | ((with_reducible apply wp_app); · rfl) | ((with_reducible apply wp_for_cons); · rfl)
  | ((with_reducible apply wp_compC); · rfl) | ((with_reducible apply ex_two); · rfl) | (with_reducible refine wp_of ?_) | (with_reducible refine wp_bind ?_) | ((with_reducible refine ⟨?_, ?_⟩); · exact of_decide_eq_true rfl))
def DeckOk (ρ S : List MO) (n : Nat) : Prop := ∃ c all t, S = .deck c all t :: ρ ∧ all ≠ [] ∧ 0 ≤ t ∧ t + (n : Int) ≤ 1099511627776 ∧ c.length ≤ 150
theorem DeckOk.less {m : Nat} (h : DeckOk ρ S (n + m)) : DeckOk ρ S n := by
  obtain ⟨c, all, t, e, h1, h2, h3, h4⟩ := h
  exact ⟨c, all, t, e, h1, h2, by omega, h4⟩
def nextBody : M Fl := seqM (setM 2 (dkTop 0)) (seqM (ifM (cmpT (dCmp fun i j => decide (j < i)) (getV 2) (pure (.int 0))) (seqM ((opM dDiv (getV 2) (getV 1)) >>= dkPut 0) (retM (opM dMod (biM dInt (consM (getV 2) (pure []))) (getV 1)))) (pure .next)) (dkPop 0))
def nextSt (ρ : List MO) (many : Int) (x : Option Sl) (c all : List Int) (t : Int) : Sta := ⟨[some (.val (.obj 0)), some (.val (.int many)), x, none, none, none], .deck c all t :: ρ⟩
theorem next_loop {ρ : List MO} {R : M Fl} {Q : Fl → Sta → Prop} {all : List Int} {t many : Int} (m0 : 0 < many) (m1 : many < 1073741824) (hQ : ∀ (y : Int) l, 0 < y → Q (.ret (.int (y % many))) (nextSt ρ many (some (.val (.int y))) ((y / many) :: l) all t) ∨ 150 ≤ l.length) (hR : ∀ x, Wp R (nextSt ρ many x [] all t) Q) :
    ∀ (c : List Int) (k : Nat) (x : Option Sl), c.length ≤ 150 → c.length < k → Wp (whileM (dkNe 0) nextBody k) (nextSt ρ many x c all t) (Fq R Q)
  | _, 0, _, _, h => absurd h (Nat.not_lt_zero _)
  | [], k + 1, x, _, _ => by
    refine wp_while (wp_dkNe (k := ⟨0, [], all, t⟩) rfl ?_)
    refine wp_else rfl ?_
    refine wp_pure ?_
    exact hR x
  | y :: l, k + 1, x, h1, h2 => by
    refine wp_while (wp_dkNe (k := ⟨0, y :: l, all, t⟩) rfl ?_)
    refine wp_then rfl ?_
    refine wp_loop ?_
    unfold nextBody
    refine wp_seq (wp_set (wp_bind ⟨⟨0, y :: l, all, t⟩, _, rfl, wp_of ⟨.int y, rfl, ⟨of_decide_eq_true rfl, ?_⟩⟩⟩))
    refine fq_next ?_
    refine wp_seq (wp_if (wp_cmp ?_))
    refine wp_val rfl (wp_pure ?_)
    refine ⟨decide (0 < y), rfl, ?_⟩
    by_cases hy : 0 < y
    · refine wp_then (decide_eq_true hy) ?_
      have hd : dDiv (.int y) (.int many) = some (.int (y / many)) := by
        unfold dDiv
        simp only
        rw [if_pos ⟨m0, m1⟩]
      have hmod : dMod (.int y) (.int many) = some (.int (y % many)) := by
        unfold dMod
        simp only
        rw [if_pos m0]
      refine wp_seq (wp_bind (wp_op ?_))
      refine wp_val rfl (wp_val rfl ⟨_, hd, ?_⟩)
      refine wp_bind ⟨⟨0, y :: l, all, t⟩, _, rfl, ?_⟩
      refine ⟨.next, _, rfl, ?_⟩
      refine fq_next ?_
      refine wp_ret (wp_op (wp_bi (wp_cons (wp_val rfl (wp_nil ⟨.int y, rfl, wp_val rfl ⟨_, hmod, ?_⟩⟩)))))
      rcases hQ y l hy with q | q
      · exact q
      · simp at h1
        omega
    · refine wp_else (decide_eq_false hy) ?_
      refine wp_pure ?_
      refine fq_next ?_
      refine wp_bind ⟨⟨0, y :: l, all, t⟩, _, rfl, ?_⟩
      refine ⟨.next, _, rfl, ?_⟩
      exact next_loop m0 m1 hQ hR l k (some (.val (.int y))) (by simp at h1; omega) (by simp at h2; omega)
theorem at_mod {all : List Int} {t : Int} (h : all ≠ []) : ∃ v, atI all (t % (all.length : Int)) = some v := by
  have hl : 0 < all.length := List.length_pos_iff.mpr h
  have h0 := Int.emod_nonneg t (b := (all.length : Int)) (by omega)
  have h1 := Int.emod_lt_of_pos t (b := (all.length : Int)) (by omega)
  unfold atI ixN
  rw [if_pos h0, if_pos h1]
  refine ⟨all[(t % (all.length : Int)).toNat]'(by omega), ?_⟩
  exact List.getElem?_eq_getElem (by omega)
theorem mod_some {x m : Int} (h : 0 < m) : dMod (.int x) (.int m) = some (.int (x % m)) := by
  unfold dMod
  simp only
  rw [if_pos h]
theorem div_some {x m : Int} (h : 0 < m) (h2 : m < 1073741824) : dDiv (.int x) (.int m) = some (.int (x / m)) := by
  unfold dDiv
  simp only
  rw [if_pos ⟨h, h2⟩]
theorem mul_some {x y : Int} (h : (-(2 ^ 64) < x ∧ x < 2 ^ 64) ∨ (-(2 ^ 64) < y ∧ y < 2 ^ 64)) : dMul (.int x) (.int y) = some (.int (x * y)) := by
  unfold dMul
  simp only
  rw [if_pos h]
theorem next_ok {many : Int} (h : DeckOk ρ S (n + 1)) (m0 : 0 < many) (m1 : many < 1073741824) : Wf f__law_next [.obj 0, .int many] S fun d S' => DeckOk ρ S' n ∧ ∃ r : Int, d = .int r ∧ 0 ≤ r ∧ r < many := by
  obtain ⟨c, all, t, e, h1, h2, h3, h4⟩ := h
  subst e
  refine wf_run ?_
  unfold m__law_next
  refine wp_seq ?_
  refine next_loop (all := all) (t := t) m0 m1 (fun y l hy => ?_) (fun x => ?_) c 200 none h4 (by omega)
  · by_cases hl2 : (y / many :: l).length ≤ 150
    · exact .inl (rq_ret ⟨⟨_, all, t, rfl, h1, h2, by omega, hl2⟩, _, rfl, Int.emod_nonneg _ (by omega), Int.emod_lt_of_pos _ m0⟩)
    · exact .inr (by simp at hl2; omega)
  · -- no large number is left
    obtain ⟨v, hv⟩ := at_mod (t := t + 1) h1
    have tl : t + 1 ≤ 1099511627776 := by omega
    have hlen : (0 : Int) < (all.length : Int) := by
      have := List.length_pos_iff.mpr h1
      omega
    refine wp_seq (wp_bind (wp_op (wp_bind ⟨⟨0, [], all, t⟩, _, rfl, wp_pure (wp_pure ⟨.int (t + 1), rfl, ?_⟩)⟩)))
    refine wp_bind ⟨⟨0, [], all, t⟩, _, rfl, ⟨.next, nextSt ρ many x [] all (t + 1), rfl, fq_next ?_⟩⟩
    refine wp_seq (wp_set (wp_bind ⟨⟨0, [], all, t + 1⟩, _, rfl, wp_pure ⟨of_decide_eq_true rfl, fq_next ?_⟩⟩))
    refine wp_seq (wp_set (wp_op (wp_bi (wp_cons ?_))))
    refine wp_bind ⟨⟨0, [], all, t + 1⟩, _, rfl, wp_bind (wp_op (wp_bi (wp_cons (wp_val rfl (wp_nil ⟨.int (t + 1), rfl, ?_⟩)))))⟩
    refine wp_bind ⟨⟨0, [], all, t + 1⟩, _, rfl, wp_pure ⟨_, mod_some hlen, ?_⟩⟩
    refine wp_bind ⟨⟨0, [], all, t + 1⟩, _, rfl, wp_of ⟨.int v, by show (atI all ((t + 1) % (all.length : Int))).map D.int = _; rw [hv] <;> rfl, wp_nil ⟨.int v, rfl, wp_pure ⟨_, mod_some (by decide), ⟨of_decide_eq_true rfl, fq_next ?_⟩⟩⟩⟩⟩
    have b0 := Int.emod_nonneg v (b := 2147483629) (by decide)
    have b1 := Int.emod_lt_of_pos v (b := 2147483629) (by decide)
    generalize v % 2147483629 = u at b0 b1
    refine wp_seq (wp_set (wp_op (wp_bi (wp_cons (wp_op (wp_op (wp_op ?_)))))))
    refine wp_val rfl (wp_op (wp_pure (wp_op (wp_pure (wp_val rfl ⟨_, mul_some (.inl (by decide)), ⟨_, rfl, ⟨_, mul_some (.inl (by omega)), ?_⟩⟩⟩)))))
    refine wp_op (wp_op (wp_pure (wp_val rfl ⟨_, mul_some (.inl (by decide)), wp_val rfl ⟨_, mul_some (x := 41287 * (t + 1)) (y := t + 1) (.inl (by omega)), ⟨_, rfl, wp_pure ⟨_, rfl, ?_⟩⟩⟩⟩)))
    refine wp_nil ⟨_, rfl, wp_pure ⟨_, mod_some (by decide), ⟨of_decide_eq_true rfl, fq_next ?_⟩⟩⟩
    generalize hx : u * (50331 + 68111 * (t + 1)) + 41287 * (t + 1) * (t + 1) + 19 = z
    have c0 := Int.emod_nonneg z (b := 2147483587) (by decide)
    have c1 := Int.emod_lt_of_pos z (b := 2147483587) (by decide)
    generalize z % 2147483587 = q at c0 c1
    refine wp_ret (wp_op (wp_op (wp_op (wp_bi (wp_cons (wp_op (wp_val rfl (wp_val rfl ⟨_, mul_some (.inl (by omega)), ?_⟩))))))))
    refine wp_nil ⟨_, rfl, wp_pure ⟨_, mod_some (by decide), wp_pure ⟨_, div_some (by decide) (by decide), wp_val rfl ⟨_, mod_some m0, ?_⟩⟩⟩⟩
    exact rq_ret ⟨⟨[], all, t + 1, rfl, h1, by omega, by omega, by simp⟩, _, rfl, Int.emod_nonneg _ (by omega), Int.emod_lt_of_pos _ m0⟩
theorem wp_retDeck {m1 m2 : M (List D)} {st : Sta} {Q : Fl → Sta → Prop} (w : Wp m1 st fun l1 st1 => Wp m2 (maskSt [] st1) fun l2 st2 => ∃ c a, D.ints l1 = some c ∧ D.ints l2 = some a ∧ Q (.ret (.obj st2.S.length)) { st1 with S := st2.S ++ [.deck c a 0] }) : Wp (retDeck m1 m2) st Q := by
  obtain ⟨l1, st1, e1, l2, st2, e2, c, a, e3, e4, q⟩ := w
  refine ⟨_, _, ?_, q⟩
  have h1 : deckM m1 m2 st = .ok (c, a) { st1 with S := st2.S } := by
    show (m1 st).bind _ = _
    rw [e1]
    show (match m2 (maskSt [] st1) with
      | .ok l2 st2 => (match D.ints l1, D.ints l2 with
        | some c, some a => Ro.ok (c, a) ({ st1 with S := st2.S } : Sta)
        | _, _ => .stk)
      | _ => .stk) = _
    rw [e2]
    simp only [e3, e4]
  show (deckM m1 m2 st).bind _ = _
  rw [h1]
  rfl
theorem ints_map (l : List Int) : D.ints (l.map D.int) = some l := by
  induction l with
  | nil => rfl
  | cons x l ih =>
    show (D.ints (l.map D.int)).map (x :: ·) = _
    rw [ih]
    rfl
theorem deck_ok {ns : List Int} (hl : ns.length ≤ 63) : Wf f__law_deck [.rls (scriptD ns)] [] fun d S' => d = .obj 0 ∧ DeckOk [] S' 1000000 := by
  refine wf_run ?_
  unfold m__law_deck
  refine wp_seq (wp_ownS (wp_comp (wp_it (wp_val rfl ⟨_, rfl, by simp [scriptD]; omega, ?_⟩))))
  refine wp_compI (fun acc ds S => S = [] ∧ ∃ l1 l2 : List Int, ds = l2.map D.int ∧ acc = l1.map D.int ∧ l1.length + l2.length ≤ 63) (fun acc S h => ?_) (fun acc d ds S h => ?_) _ _ _ ⟨rfl, [], ns, rfl, rfl, by simpa using hl⟩
  · obtain ⟨rfl, l1, l2, e1, rfl, e3⟩ := h
    refine ⟨of_decide_eq_true rfl, fq_next ?_⟩
    refine wp_retDeck (wp_comp (wp_it (wp_own rfl ⟨_, rfl, by simp; omega, ?_⟩)))
    refine wp_compI (fun acc ds S => S = [] ∧ ∃ k1 k2 : List Int, ds = k2.map D.int ∧ acc = k1.map D.int ∧ k1.length + k2.length ≤ 63) (fun acc S h => ?_) (fun acc d ds S h => ?_) _ _ _ ⟨rfl, [], l1, rfl, rfl, by simp; omega⟩
    · obtain ⟨rfl, k1, k2, e4, rfl, e6⟩ := h
      refine wp_addN (wp_val rfl (wp_lst (wp_cons (wp_op (wp_bi (wp_cons (wp_val rfl (wp_nil ⟨_, rfl, wp_pure ⟨_, rfl, ?_⟩⟩))))))))
      refine wp_nil ⟨(l1 ++ [((l1.map D.int).length : Int) + 5]).map D.int, ?_, k1, l1 ++ [((l1.map D.int).length : Int) + 5], ints_map _, ints_map _, rq_ret ⟨rfl, _, _, 0, rfl, by simp, by decide, by decide, by omega⟩⟩
      unfold dAddN
      simp only
      rw [if_pos (by simp; omega)]
      simp
    · obtain ⟨rfl, k1, k2, e4, rfl, e6⟩ := h
      cases k2 with
      | nil => cases e4
      | cons z k2 =>
        cases e4
        refine ⟨_, rfl, wp_cmp (wp_val rfl (wp_op (wp_pure (wp_pure ⟨_, rfl, ⟨_, rfl, ?_⟩⟩))))⟩
        simp at e6
        split
        · exact wp_val rfl ⟨rfl, k1 ++ [z], k2, rfl, by simp, by simp; omega⟩
        · exact ⟨rfl, k1, k2, rfl, rfl, by omega⟩
  · obtain ⟨rfl, l1, l2, e1, rfl, e3⟩ := h
    cases l2 with
    | nil => cases e1
    | cons z l2 =>
      cases e1
      refine ⟨_, rfl, wp_pure ?_⟩
      simp at e3
      rw [if_pos rfl]
      exact wp_bi (wp_cons (wp_val rfl (wp_nil ⟨_, rfl, rfl, l1 ++ [if z < 0 then -z else z], l2, rfl, by simp, by simp; omega⟩)))
/-- a draw, whatever it tells -/
theorem draw {f : Mf} {many : Int} {Q : D → List MO → Prop} (h : DeckOk ρ S (n + 1)) (hf : f = f__law_next) (m0 : 0 < many) (m1 : many < 1073741824) (k : ∀ (r : Int) S', DeckOk ρ S' n → 0 ≤ r → r < many → Q (.int r) S') : Wf f [.obj 0, .int many] S Q := by
  subst hf
  exact (next_ok h m0 m1).imp fun d S' ⟨h1, r, e, h2, h3⟩ => by
    subst e
    exact k r S' h1 h2 h3
theorem pick {l : List D} {r : Int} {Q : D → Prop} (h0 : 0 ≤ r) (h1 : r < l.length) (k : ∀ d ∈ l, Q d) : ∃ d, dIx (.lst l) (.int r) = some d ∧ Q d := by
  refine ⟨l[r.toNat]'(by omega), ?_, k _ (List.getElem_mem _)⟩
  show atI l r = _
  unfold atI ixN
  rw [if_pos h0, if_pos h1]
  exact List.getElem?_eq_getElem (by omega)
def EdOk (ps : List Int) : Prop := 1 ≤ ps.length ∧ ps.length ≤ 3 ∧ ∀ p ∈ ps, p = 4 ∨ p = 7 ∨ p = 0 ∨ p = 9
theorem edition_ok (h : DeckOk ρ S (n + 4)) : Wf f__law_edition [.obj 0] S fun d S' => DeckOk ρ S' n ∧ ∃ ps, d = .tup (ps.map D.int) ∧ EdOk ps := by
  refine wf_run ?_
  unfold m__law_edition
  repeat walk_at "jstep"
  refine draw (n := n + 3) h rfl (by decide) (by decide) fun r S1 h1 r0 r1 => ?_
  refine pick r0 r1 fun d hd => ?_
  have hk : ∃ k : Int, d = .int k ∧ 0 ≤ k ∧ k ≤ 2 := by
    simp only [List.mem_cons, List.not_mem_nil, or_false] at hd
    rcases hd with rfl | rfl | rfl | rfl <;> exact ⟨_, rfl, by decide, by decide⟩
  obtain ⟨k, rfl, k0, k1⟩ := hk
  refine ⟨_, rfl, ?_⟩
  walk_at "jstep"
  have hr : dRange1 [D.int (1 + k)] = some (dints 0 (1 + k).toNat) := by
    unfold dRange1
    simp only
    rw [if_pos (by omega)]
  refine ⟨_, hr, by simp [dints]; omega, ?_⟩
  refine wp_compI (fun acc ds S => ∃ ps : List Int, acc = ps.map D.int ∧ (∀ p ∈ ps, p = 4 ∨ p = 7 ∨ p = 0 ∨ p = 9) ∧ ps.length + ds.length = (1 + k).toNat ∧ DeckOk ρ S (n + ds.length)) (fun acc S hi => ?_) (fun acc d ds S hi => ?_) _ _ _ ⟨[], rfl, by simp, by simp [dints], by
    have e : (dints 0 (1 + k).toNat).length = (1 + k).toNat := by simp [dints]
    rw [e]
    exact (DeckOk.less (n := n + (1 + k).toNat) (m := 3 - (1 + k).toNat) (by have : n + (1 + k).toNat + (3 - (1 + k).toNat) = n + 3 := by omega
                                                                             rw [this]; exact h1))⟩
  · obtain ⟨ps, rfl, p1, p2, p3⟩ := hi
    repeat walk_at "jstep"
    exact ⟨p3, ps, rfl, by simp at p2; omega, by simp at p2; omega, p1⟩
  · obtain ⟨ps, rfl, p1, p2, p3⟩ := hi
    refine ⟨_, rfl, ?_⟩
    repeat walk_at "jstep"
    rw [if_pos rfl]
    repeat walk_at "jstep"
    refine draw (n := n + ds.length) p3 rfl (by decide) (by decide) fun r S2 h2 q0 q1 => ?_
    refine pick q0 q1 fun d hd => ?_
    have hk : ∃ k : Int, d = .int k ∧ (k = 4 ∨ k = 7 ∨ k = 0 ∨ k = 9) := by
      simp only [List.mem_cons, List.not_mem_nil, or_false] at hd
      rcases hd with rfl | rfl | rfl | rfl <;> exact ⟨_, rfl, by decide⟩
    obtain ⟨z, rfl, hz⟩ := hk
    refine ⟨ps ++ [z], by simp, fun p hp => ?_, by simp at p2 ⊢; omega, h2⟩
    rcases List.mem_append.mp hp with hp | hp
    · exact p1 p hp
    · rw [List.mem_singleton.mp hp]; exact hz
def outs : List D := [.tup [.str "lost"], .tup [.str "no"], .tup [.str "ok", .str "no", .str "lost"], .tup [.str "no", .str "lost"], .tup [.str "ok"], .tup [.str "ok", .str "lost"], .tup [.str "lost"]]
theorem outcomes_ok (h : DeckOk ρ S (n + 1)) : Wf f__law_outcomes [.obj 0] S fun d S' => DeckOk ρ S' n ∧ d ∈ outs := by
  refine wf_run ?_
  unfold m__law_outcomes
  repeat walk_at "jstep"
  refine draw h rfl (by decide) (by decide) fun r S1 h1 r0 r1 => ?_
  refine pick r0 r1 fun d hd => ?_
  repeat walk_at "jstep"
  exact ⟨h1, hd⟩
def words1 : List D := [.tup [.str "begin"], .tup [.str "throw"], .tup [.str "look"], .tup [.str "find"]]
def whens : List D := [.str "any", .str "none", .str "same"]
/-- a right step in a program of so many lines -/
def StepOk (n : Int) (d : D) : Prop := d ∈ words1 ∨ (∃ p q : Int, d = .tup [.str "lay", .int p, .int q] ∧ 1 ≤ p ∧ p ≤ 3 ∧ (q = 4 ∨ q = 7 ∨ q = 0 ∨ q = 9)) ∨
  (∃ (ps : List Int) (b : Bool) (w : D), d = .tup [.str "join", .tup (ps.map D.int), .bl b, w] ∧ EdOk ps ∧ w ∈ whens) ∨ ∃ (l : Int) (o : D), d = .tup [.str "go", .int l, o] ∧ 0 ≤ l ∧ l ≤ n ∧ o ∈ outs
theorem step_ok {lines : Int} (l0 : 0 ≤ lines) (l1 : lines < 1000) (h : DeckOk ρ S (n + 8)) : Wf f__law_step [.obj 0, .int lines] S fun d S' => DeckOk ρ S' n ∧ StepOk lines d := by
  refine wf_run ?_
  unfold m__law_step
  repeat walk_at "jstep"
  refine draw h rfl (by decide) (by decide) fun kind S1 h1 r0 r1 => ?_
  repeat walk_at "jstep"
  refine draw h1 rfl (by decide) (by decide) fun r S2 h2 q0 q1 => ?_
  refine pick q0 q1 fun when hw => ?_
  repeat walk_at "jstep"
  by_cases c1 : kind < 4
  · refine wp_then (decide_eq_true c1) ?_
    repeat walk_at "jstep"
    refine pick r0 c1 fun d hd => ?_
    repeat walk_at "jstep"
    exact ⟨(DeckOk.less (m := 6) h2), .inl hd⟩
  refine wp_else (decide_eq_false c1) ?_
  repeat walk_at "jstep"
  by_cases c2 : kind < 7
  · refine wp_then (decide_eq_true c2) ?_
    repeat walk_at "jstep"
    refine draw h2 rfl (by decide) (by decide) fun r S3 h3 q0 q1 => ?_
    refine pick q0 q1 fun d hd => ?_
    have hk : ∃ k : Int, d = .int k ∧ 0 ≤ k ∧ k ≤ 2 := by
      simp only [List.mem_cons, List.not_mem_nil, or_false] at hd
      rcases hd with rfl | rfl | rfl | rfl <;> exact ⟨_, rfl, by decide, by decide⟩
    obtain ⟨k, rfl, k0, k1⟩ := hk
    refine ⟨_, rfl, ?_⟩
    repeat walk_at "jstep"
    refine draw h3 rfl (by decide) (by decide) fun r S4 h4 q0 q1 => ?_
    refine pick q0 q1 fun d hd => ?_
    have hk : ∃ k : Int, d = .int k ∧ (k = 4 ∨ k = 7 ∨ k = 0 ∨ k = 9) := by
      simp only [List.mem_cons, List.not_mem_nil, or_false] at hd
      rcases hd with rfl | rfl | rfl | rfl <;> exact ⟨_, rfl, by decide⟩
    obtain ⟨z, rfl, hz⟩ := hk
    repeat walk_at "jstep"
    exact ⟨(DeckOk.less (m := 4) h4), .inr (.inl ⟨_, _, rfl, by omega, by omega, hz⟩)⟩
  refine wp_else (decide_eq_false c2) ?_
  repeat walk_at "jstep"
  by_cases c3 : kind < 9
  · refine wp_then (decide_eq_true c3) ?_
    repeat walk_at "jstep"
    refine (edition_ok (n := n + 2) h2).imp fun d S3 ⟨h3, ps, e, he⟩ => ?_
    subst e
    repeat walk_at "jstep"
    refine draw (n := n + 1) h3 rfl (by decide) (by decide) fun r S4 h4 q0 q1 => ?_
    repeat walk_at "jstep"
    exact ⟨(DeckOk.less (m := 1) h4), .inr (.inr (.inl ⟨ps, _, _, rfl, he, hw⟩))⟩
  refine wp_else (decide_eq_false c3) ?_
  repeat walk_at "jstep"
  refine draw h2 rfl (by omega) (by omega) fun r S3 h3 q0 q1 => ?_
  repeat walk_at "jstep"
  refine (outcomes_ok (n := n + 4) h3).imp fun d S4 ⟨h4, he⟩ => ?_
  repeat walk_at "jstep"
  exact ⟨(DeckOk.less (m := 4) h4), .inr (.inr (.inr ⟨r, d, rfl, q0, by omega, he⟩))⟩
theorem StepOk.mono {m k : Int} {d : D} (h : StepOk m d) (hk : m ≤ k) : StepOk k d := by
  rcases h with h | h | h | ⟨l, o, e, h1, h2, h3⟩
  · exact .inl h
  · exact .inr (.inl h)
  · exact .inr (.inr (.inl h))
  · exact .inr (.inr (.inr ⟨l, o, e, h1, by omega, h3⟩))
theorem begin_ok {m : Int} : StepOk m (.tup [.str "begin"]) := .inl (by simp [words1])
theorem throw_ok {m : Int} : StepOk m (.tup [.str "throw"]) := .inl (by simp [words1])
theorem look_ok {m : Int} : StepOk m (.tup [.str "look"]) := .inl (by simp [words1])
theorem find_ok {m : Int} : StepOk m (.tup [.str "find"]) := .inl (by simp [words1])
theorem lost_ok {m l : Int} (h0 : 0 ≤ l) (h1 : l ≤ m) : StepOk m (.tup [.str "go", .int l, .tup [.str "lost"]]) := .inr (.inr (.inr ⟨l, _, rfl, h0, h1, by simp [outs]⟩))
theorem all_app {m : Int} {l : List D} {d : D} (h : ∀ x ∈ l, StepOk m x) (hd : StepOk m d) : ∀ x ∈ l ++ [d], StepOk m x := fun x hx => by
  rcases List.mem_append.mp hx with hx | hx
  · exact h x hx
  · rw [List.mem_singleton.mp hx]; exact hd
theorem lists_add {x y : List D} (h : x.length + y.length ≤ 16777216) : dAdd (.lst x) (.lst y) = some (.lst (x ++ y)) := by
  unfold dAdd
  simp only
  rw [if_pos h]
theorem eqv_int {a b : Int} : PyData.eqv (.int a) (.int b) = (a == b) := by simp [PyData.eqv]
theorem usual_head {R : M Fl} {Q : Fl → Sta → Prop} {r : Int} {e : D} {S2 : List MO} (hR : ∀ l : List D, 1 ≤ l.length → l.length ≤ 2 → (∀ x ∈ l, StepOk 100 x) → Wp R ⟨[some (.val (.obj 0)), some (.val e), some (.own l), none, none, none], S2⟩ Q) :
    Wp (if PyData.eqv (.int r) (.int 0) = true then appS 2 (tupM (consM (pure (.str "go")) (consM (pure (.int 0)) (consM (tupM (consM (pure (.str "lost")) (pure []))) (pure []))))) else pure .next) ⟨[some (.val (.obj 0)), some (.val e), some (.own [.tup [.str "begin"]]), none, none, none], S2⟩ (Fq R Q) := by
  by_cases hr : r = 0
  · refine wp_then (by rw [eqv_int]; simpa using hr) ?_
    repeat walk_at "jstep"
    refine hR [.tup [.str "begin"], .tup [.str "go", .int 0, .tup [.str "lost"]]] (by simp) (by simp) fun x hx => ?_
    simp only [List.mem_cons, List.not_mem_nil, or_false] at hx
    rcases hx with rfl | rfl
    · exact begin_ok
    · exact lost_ok (by decide) (by decide)
  · refine wp_else (by rw [eqv_int]; simpa using hr) ?_
    refine wp_pure (fq_next ?_)
    exact hR [.tup [.str "begin"]] (by simp) (by simp) fun x hx => by rw [List.mem_singleton.mp hx]; exact begin_ok
theorem usual_ok (h : DeckOk ρ S (n + 20)) : Wf f__law_usual [.obj 0] S fun d S' => DeckOk ρ S' n ∧ ∃ l, d = .lst l ∧ 1 ≤ l.length ∧ l.length ≤ 12 ∧ ∀ x ∈ l, StepOk 100 x := by
  refine wf_run ?_
  unfold m__law_usual
  repeat walk_at "jstep"
  refine (edition_ok (n := n + 16) h).imp fun d S1 ⟨h1, ps, e, he⟩ => ?_
  subst e
  repeat walk_at "jstep"
  refine draw h1 rfl (by decide) (by decide) fun r S2 h2 q0 q1 => ?_
  repeat walk_at "jstep"
  -- one step or two
  have rest : ∀ l : List D, 1 ≤ l.length → l.length ≤ 2 → (∀ x ∈ l, StepOk 100 x) → Wp (seqM (forS (biN dEnum1 (consM (getV 1) (pure []))) (gTupM 2 (gConsM (setV 3) (gConsM (setV 4) gNilM))) (seqM (appS 2 (tupM (consM (pure (.str "lay")) (consM (opM dAdd (getV 3) (pure (.int 1))) (consM (getV 4) (pure [])))))) (ifM (cmpT dEq (fnM (consM (getV 0) (consM (pure (.int 4)) (pure []))) f__law_next) (pure (.int 0))) (appS 2 (tupM (consM (pure (.str "go")) (consM (opM dSub (lenO 2) (pure (.int 1))) (consM (tupM (consM (pure (.str "lost")) (pure []))) (pure [])))))) (pure .next)))) (seqM (appS 2 (tupM (consM (pure (.str "join")) (consM (getV 1) (consM (opM dEq (fnM (consM (getV 0) (consM (pure (.int 2)) (pure []))) f__law_next) (pure (.int 0))) (consM (opM dIx (lstM (consM (pure (.str "any")) (consM (pure (.str "any")) (consM (pure (.str "none")) (consM (pure (.str "same")) (pure [])))))) (fnM (consM (getV 0) (consM (pure (.int 4)) (pure []))) f__law_next)) (pure []))))))) (seqM (setM 5 (lstM (consM (lstM (pure [])) (consM (lstM (consM (tupM (consM (pure (.str "throw")) (pure []))) (pure []))) (consM (lstM (consM (tupM (consM (pure (.str "go")) (consM (opM dSub (lenO 2) (pure (.int 1))) (consM (tupM (consM (pure (.str "lost")) (pure []))) (pure []))))) (pure []))) (consM (lstM (consM (tupM (consM (pure (.str "look")) (pure []))) (pure []))) (consM (lstM (consM (tupM (consM (pure (.str "find")) (pure []))) (consM (tupM (consM (pure (.str "throw")) (pure []))) (pure [])))) (pure [])))))))) (retM (opM dAdd (getV 2) (opM dIx (getV 5) (fnM (consM (getV 0) (consM (pure (.int 5)) (pure []))) f__law_next)))))))
      ⟨[some (.val (.obj 0)), some (.val (.tup (ps.map D.int))), some (.own l), none, none, none], S2⟩ (Rq fun d S' => DeckOk ρ S' n ∧ ∃ l, d = .lst l ∧ 1 ≤ l.length ∧ l.length ≤ 12 ∧ ∀ x ∈ l, StepOk 100 x) := fun l l1 l2 hl => by
    obtain ⟨e1, e2, e3⟩ := he
    repeat walk_at "jstep"
    refine wp_forI (fun ds st => ∃ l x3 x4 S3 k, st = ⟨[some (.val (.obj 0)), some (.val (.tup (ps.map D.int))), some (.own l), x3, x4, none], S3⟩ ∧ DeckOk ρ S3 (n + 4 + ds.length) ∧ 1 ≤ l.length ∧ l.length + 2 * ds.length ≤ 8 ∧ (∀ x ∈ l, StepOk 100 x) ∧ 0 ≤ k ∧ k + ds.length ≤ 3 ∧ ∃ qs : List Int, ds = nums k (qs.map D.int) ∧ ∀ p ∈ qs, p = 4 ∨ p = 7 ∨ p = 0 ∨ p = 9)
      (fun st hi => ?_) (fun d ds st hi => ?_) _ _ ⟨l, none, none, S2, 0, rfl, ?_, l1, ?_, hl, by decide, ?_, ps, rfl, e3⟩
    · obtain ⟨l, x3, x4, S3, k, rfl, h3, l1, l2, hl, _⟩ := hi
      simp only [List.length_nil, Nat.add_zero] at h3 l2
      repeat walk_at "jstep"
      refine draw h3 rfl (by decide) (by decide) fun r S4 h4 q0 q1 => ?_
      repeat walk_at "jstep"
      refine draw h4 rfl (by decide) (by decide) fun r' S5 h5 q0 q1 => ?_
      refine pick q0 q1 fun w hw => ?_
      repeat walk_at "jstep"
      refine ⟨by omega, ?_⟩
      have hj : ∀ x ∈ l ++ [.tup [.str "join", .tup (ps.map D.int), .bl (PyData.eqv (.int r) (.int 0)), w]], StepOk 100 x := all_app hl (.inr (.inr (.inl ⟨ps, _, w, rfl, ⟨e1, e2, e3⟩, by
        simp only [List.mem_cons, List.not_mem_nil, or_false] at hw
        rcases hw with rfl | rfl | rfl | rfl <;> simp [whens]⟩)))
      repeat walk_at "jstep"
      refine draw h5 rfl (by decide) (by decide) fun r2 S6 h6 q0 q1 => ?_
      refine pick q0 q1 fun w2 hw2 => ?_
      have hm : ∃ y : List D, w2 = .lst y ∧ y.length ≤ 2 ∧ ∀ x ∈ y, StepOk 100 x := by
        simp only [List.mem_cons, List.not_mem_nil, or_false] at hw2
        rcases hw2 with rfl | rfl | rfl | rfl | rfl
        · exact ⟨_, rfl, by decide, by simp⟩
        · exact ⟨_, rfl, by decide, fun x hx => by rw [List.mem_singleton.mp hx]; exact throw_ok⟩
        · exact ⟨_, rfl, Nat.le_succ 1, fun x hx => by rw [List.mem_singleton.mp hx]; exact lost_ok (by simp) (by simp; omega)⟩
        · exact ⟨_, rfl, by decide, fun x hx => by rw [List.mem_singleton.mp hx]; exact look_ok⟩
        · refine ⟨_, rfl, by decide, fun x hx => ?_⟩
          simp only [List.mem_cons, List.not_mem_nil, or_false] at hx
          rcases hx with rfl | rfl
          · exact find_ok
          · exact throw_ok
      obtain ⟨y, rfl, y1, y2⟩ := hm
      refine ⟨.lst ((l ++ [.tup [.str "join", .tup (ps.map D.int), .bl (PyData.eqv (.int r) (.int 0)), w]]) ++ y), ?_, ?_⟩
      · exact lists_add (by simp; omega)
      repeat walk_at "jstep"
      refine ⟨DeckOk.less (m := 1) h6, _, rfl, by simp only [List.length_append, List.length_singleton]; omega, by simp only [List.length_append, List.length_singleton]; omega, fun x hx => ?_⟩
      rcases List.mem_append.mp hx with hx | hx
      · exact hj x hx
      · exact y2 x hx
    · obtain ⟨l, x3, x4, S3, k, rfl, h3, l1, l2, hl, k0, k1, qs, e4, hq⟩ := hi
      cases qs with
      | nil => cases e4
      | cons q qs =>
        have e4 : d :: ds = .tup [.int k, .int q] :: nums (k + 1) (qs.map D.int) := e4
        injection e4 with e5 e6
        subst e5
        simp only [List.length_cons] at h3 l2 k1
        have hlay : ∀ x ∈ l ++ [.tup [.str "lay", .int (k + 1), .int q]], StepOk 100 x := all_app hl (.inr (.inl ⟨_, _, rfl, by omega, by omega, hq q (by simp)⟩))
        refine ⟨_, rfl, ?_⟩
        repeat walk_at "jstep"
        refine ⟨by omega, ?_⟩
        repeat walk_at "jstep"
        refine draw (n := n + 4 + ds.length) h3 rfl (by decide) (by decide) fun r S4 h4 q0 q1 => ?_
        repeat walk_at "jstep"
        by_cases hr : r = 0
        · refine wp_then (by rw [eqv_int]; simpa using hr) ?_
          repeat walk_at "jstep"
          refine ⟨by simp; omega, ?_⟩
          refine ⟨_, _, _, S4, k + 1, rfl, h4, by simp, by simp; omega, all_app hlay (lost_ok (by simp) (by simp; omega)), by omega, by omega, qs, e6, fun p hp => hq p (List.mem_cons_of_mem _ hp)⟩
        · refine wp_else (by rw [eqv_int]; simpa using hr) ?_
          repeat walk_at "jstep"
          refine ⟨_, _, _, S4, k + 1, rfl, h4, by simp, by simp; omega, hlay, by omega, by omega, qs, e6, fun p hp => hq p (List.mem_cons_of_mem _ hp)⟩
    · rw [nums_len, List.length_map]
      exact DeckOk.less (n := n + 4 + ps.length) (m := 11 - ps.length) (by
        have e : n + 4 + ps.length + (11 - ps.length) = n + 15 := by omega
        rw [e]
        exact h2)
    · rw [nums_len, List.length_map]
      omega
    · rw [nums_len, List.length_map]
      omega
  exact usual_head rest
theorem within_ok {d : D} {m : Int} (hd : StepOk 100 d) (hm : 0 ≤ m) : Wf f__law_within [d, .int m] S fun d' S' => S' = S ∧ StepOk m d' := by
  refine wf_run ?_
  unfold m__law_within
  rcases hd with h | ⟨p, q, rfl, h1, h2, h3⟩ | ⟨ps, b, w, rfl, h1, h2⟩ | ⟨l, o, rfl, h1, h2, h3⟩
  · simp only [words1, List.mem_cons, List.not_mem_nil, or_false] at h
    rcases h with rfl | rfl | rfl | rfl
    · repeat walk_at "jstep"
      exact ⟨rfl, begin_ok⟩
    · repeat walk_at "jstep"
      exact ⟨rfl, throw_ok⟩
    · repeat walk_at "jstep"
      exact ⟨rfl, look_ok⟩
    · repeat walk_at "jstep"
      exact ⟨rfl, find_ok⟩
  · repeat walk_at "jstep"
    exact ⟨rfl, .inr (.inl ⟨p, q, rfl, h1, h2, h3⟩)⟩
  · repeat walk_at "jstep"
    exact ⟨rfl, .inr (.inr (.inl ⟨ps, b, w, rfl, h1, h2⟩))⟩
  · repeat walk_at "jstep"
    refine ⟨rfl, .inr (.inr (.inr ⟨_, o, rfl, ?_, ?_, h3⟩))⟩ <;> (split <;> omega)
theorem wp_setIx {i : Nat} {a k : M D} {st : Sta} {Q : Fl → Sta → Prop} (w : Wp a st fun d st1 => ∃ l, st1.r[i]? = some (some (.own l)) ∧ Wp k st1 fun k st2 => ∃ l', st2.r[i]? = some (some (.own l')) ∧ ∃ l'', setL d k l' = some l'' ∧ Q .next (st2.set i (some (.own l'')))) : Wp (setIxS i a k) st Q := by
  refine wp_bind (w.imp fun d st1 ⟨l, h1, w⟩ => wp_bind ⟨l, st1, by unfold ownM; rw [h1], wp_bind (w.imp fun k st2 ⟨l', h2, l'', h3, h4⟩ => ⟨.next, _, ?_, h4⟩)⟩)
  unfold thenN putO
  simp only [h2, h3]
  rfl
theorem cut_all {l : List D} (h : l.length ≤ 12) : cutD l none (some 12) = l := by
  unfold cutD
  have e0 : HT.sIx l.length 0 none = 0 := by simp [HT.sIx]
  have e1 : HT.sIx l.length l.length (some 12) = l.length := by simp [HT.sIx]; omega
  rw [e0, e1]
  simp
theorem set_ok {d : D} {l : List D} {r : Int} (h0 : 0 ≤ r) (h1 : r < l.length) : setL d (.int r) l = some (l.set r.toNat d) := by
  unfold setL ixN
  simp only
  rw [if_pos h0, if_pos h1]
  rfl
theorem cut_take {l : List D} {m : Int} (h : 0 ≤ m) : cutD l none (some m) = l.take m.toNat := by
  unfold cutD
  have e0 : HT.sIx l.length 0 none = 0 := by simp [HT.sIx]
  have e1 : HT.sIx l.length l.length (some m) = min m.toNat l.length := by simp [HT.sIx]; omega
  rw [e0, e1, Nat.sub_zero, List.drop_zero, List.take_eq_take_iff]
  omega
theorem steps_ok {most : Int} (m0 : 1 ≤ most) (m1 : most ≤ 12) (h : DeckOk ρ S (n + 200)) : Wf f__law_steps [.obj 0, .int most] S fun d S' => DeckOk ρ S' n ∧ ∃ l, d = .tup l ∧ 1 ≤ l.length ∧ (l.length : Int) ≤ most ∧ ∀ x ∈ l, StepOk (l.length : Int) x := by
  refine wf_run ?_
  unfold m__law_steps
  repeat walk_at "jstep"
  refine draw (n := n + 199) h rfl (by decide) (by decide) fun kind S1 h1 r0 r1 => ?_
  repeat walk_at "jstep"
  refine draw (n := n + 198) h1 rfl (by omega) (by omega) fun r S2 h2 q0 q1 => ?_
  repeat walk_at "jstep"
  by_cases hk : kind = 0
  · refine wp_then (by rw [eqv_int]; simpa using hk) ?_
    repeat walk_at "jstep"
    have hr : dRange1 [D.int (1 + r)] = some (dints 0 (1 + r).toNat) := by
      unfold dRange1
      simp only
      rw [if_pos (by omega)]
    have hlen : (dints 0 (1 + r).toNat).length = (1 + r).toNat := by simp [dints]
    refine ⟨_, hr, by rw [hlen]; omega, ?_⟩
    refine wp_compI (fun acc ds S => (∀ x ∈ acc, StepOk (1 + r) x) ∧ acc.length + ds.length = (1 + r).toNat ∧ DeckOk ρ S (n + 8 * ds.length)) (fun acc S hi => ?_) (fun acc d ds S hi => ?_) _ _ _ ⟨by simp, by rw [hlen]; simp, ?_⟩
    · obtain ⟨p1, p2, p3⟩ := hi
      repeat walk_at "jstep"
      simp only [List.length_nil, Nat.add_zero, Nat.mul_zero] at p2 p3
      refine ⟨p3, acc, rfl, by omega, by omega, fun x hx => (p1 x hx).mono (by omega)⟩
    · obtain ⟨p1, p2, p3⟩ := hi
      simp only [List.length_cons] at p2 p3
      refine ⟨_, rfl, ?_⟩
      repeat walk_at "jstep"
      rw [if_pos rfl]
      repeat walk_at "jstep"
      have e : n + 8 * (ds.length + 1) = n + 8 * ds.length + 8 := by omega
      rw [e] at p3
      refine (step_ok (lines := 1 + r) (n := n + 8 * ds.length) (by omega) (by omega) p3).imp fun d S3 ⟨h3, hd⟩ => ?_
      exact ⟨all_app p1 hd, by simp; omega, h3⟩
    · rw [hlen]
      exact DeckOk.less (n := n + 8 * (1 + r).toNat) (m := 198 - 8 * (1 + r).toNat) (by
        have e : n + 8 * (1 + r).toNat + (198 - 8 * (1 + r).toNat) = n + 198 := by omega
        rw [e]
        exact h2)
  · refine wp_else (by rw [eqv_int]; simpa using hk) ?_
    repeat walk_at "jstep"
    refine (usual_ok (n := n + 178) h2).imp fun d S3 ⟨h3, l, e, l1, l2, hl⟩ => ?_
    subst e
    repeat walk_at "jstep"
    rw [cut_take (show 0 ≤ most by omega)]
    obtain ⟨k9, hk9⟩ : ∃ k9, k9 = l.take most.toNat := ⟨_, rfl⟩
    rw [← hk9]
    have l3 : 1 ≤ k9.length := by rw [hk9, List.length_take]; omega
    have l4 : (k9.length : Int) ≤ most := by rw [hk9, List.length_take]; omega
    have hl3 : ∀ x ∈ k9, StepOk 100 x := fun x hx => hl x (List.mem_of_mem_take (by rw [← hk9]; exact hx))
    have fin : ∀ (l : List D) (S4 : List MO), 1 ≤ l.length → (l.length : Int) ≤ most → (∀ x ∈ l, StepOk 100 x) → DeckOk ρ S4 n → Wp (retM (biM dTuple (consM (lstM (compM [4] [6] (itM (getV 4)) (setV 6) (pure true) (fnM (consM (getV 6) (consM (lenO 4) (pure []))) f__law_within))) (pure []))))
        ⟨[some (.val (.obj 0)), some (.val (.int most)), some (.val (.int kind)), some (.val (.int (1 + r))), some (.own l), none, none], S4⟩ (Rq fun d S' => DeckOk ρ S' n ∧ ∃ l, d = .tup l ∧ 1 ≤ l.length ∧ (l.length : Int) ≤ most ∧ ∀ x ∈ l, StepOk (l.length : Int) x) := fun l S4 l1 l2 hl h4 => by
      repeat walk_at "jstep"
      refine ⟨by omega, ?_⟩
      refine wp_compI (fun acc ds S => (∀ x ∈ acc, StepOk (l.length : Int) x) ∧ acc.length + ds.length = l.length ∧ (∀ x ∈ ds, StepOk 100 x) ∧ DeckOk ρ S n) (fun acc S hi => ?_) (fun acc d ds S hi => ?_) _ _ _ ⟨by simp, by simp, hl, h4⟩
      · obtain ⟨p1, p2, p3, p4⟩ := hi
        repeat walk_at "jstep"
        simp only [List.length_nil, Nat.add_zero] at p2
        exact ⟨p4, acc, rfl, by omega, by omega, by rw [p2]; exact p1⟩
      · obtain ⟨p1, p2, p3, p4⟩ := hi
        simp only [List.length_cons] at p2
        refine ⟨_, rfl, ?_⟩
        repeat walk_at "jstep"
        rw [if_pos rfl]
        repeat walk_at "jstep"
        refine (within_ok (p3 d (by simp)) (by omega)).imp fun d' S5 ⟨e, hd⟩ => ?_
        subst e
        exact ⟨all_app p1 hd, by simp; omega, fun x hx => p3 x (List.mem_cons_of_mem _ hx), p4⟩
    by_cases hk1 : kind = 1
    · refine wp_then (by rw [eqv_int]; simpa using hk1) ?_
      refine wp_setIx ?_
      repeat walk_at "jstep"
      refine (step_ok (lines := (k9.length : Int)) (n := n + 170) (by omega) (by omega) h3).imp fun d S4 ⟨h4, hd⟩ => ?_
      refine ⟨k9, rfl, ?_⟩
      repeat walk_at "jstep"
      refine draw (n := n + 169) h4 rfl (by omega) (by omega) fun r2 S5 h5 z0 z1 => ?_
      refine ⟨k9, rfl, _, set_ok z0 z1, fq_next ?_⟩
      refine fin _ S5 (by simpa using l3) (by simpa using l4) (fun x hx => ?_) (DeckOk.less (m := 169) h5)
      rcases List.mem_or_eq_of_mem_set hx with hx | hx
      · exact hl3 x hx
      · rw [hx]; exact hd.mono (by omega)
    · refine wp_else (by rw [eqv_int]; simpa using hk1) ?_
      refine wp_pure (fq_next ?_)
      exact fin k9 S3 l3 l4 hl3 (DeckOk.less (m := 178) h3)
end
end Law
end
section
namespace Law
open PySem PySem.Spec L2 J
def pcs : List Int := [4, 7, 0, 9]
def eds : List (List Int) := (pcs.map fun a => [a]) ++ (pcs.flatMap fun a => pcs.map fun b => [a, b]) ++ (pcs.flatMap fun a => pcs.flatMap fun b => pcs.map fun c => [a, b, c])
def plain : List D := words1 ++ ([1, 2, 3].flatMap fun (p : Int) => pcs.map fun q => .tup [.str "lay", .int p, .int q]) ++ (eds.flatMap fun ps => [true, false].flatMap fun b => whens.map fun w => .tup [.str "join", .tup (ps.map D.int), .bl b, w])
def upto (n : Nat) : List Int := (List.range (n + 1)).map fun (i : Nat) => (i : Int)
def gos (n : Nat) : List D := (upto n).flatMap fun l => outs.map fun o => .tup [.str "go", .int l, o]
def steps (n : Nat) : List D := plain ++ gos n
theorem mem_upto {n : Nat} {l : Int} (h0 : 0 ≤ l) (h1 : l ≤ n) : l ∈ upto n := List.mem_map.mpr ⟨l.toNat, List.mem_range.mpr (by omega), by omega⟩
theorem mem_pcs {p : Int} (h : p = 4 ∨ p = 7 ∨ p = 0 ∨ p = 9) : p ∈ pcs := by
  rcases h with rfl | rfl | rfl | rfl <;> simp [pcs]
theorem mem_eds {ps : List Int} (h : EdOk ps) : ps ∈ eds := by
  obtain ⟨h1, h2, h3⟩ := h
  unfold eds
  match ps, h1, h2, h3 with
  | [a], _, _, h3 =>
    exact List.mem_append_left _ (List.mem_append_left _ (List.mem_map.mpr ⟨a, mem_pcs (h3 a (by simp)), rfl⟩))
  | [a, b], _, _, h3 =>
    exact List.mem_append_left _ (List.mem_append_right _ (List.mem_flatMap.mpr ⟨a, mem_pcs (h3 a (by simp)), List.mem_map.mpr ⟨b, mem_pcs (h3 b (by simp)), rfl⟩⟩))
  | [a, b, c], _, _, h3 =>
    exact List.mem_append_right _ (List.mem_flatMap.mpr ⟨a, mem_pcs (h3 a (by simp)), List.mem_flatMap.mpr ⟨b, mem_pcs (h3 b (by simp)), List.mem_map.mpr ⟨c, mem_pcs (h3 c (by simp)), rfl⟩⟩⟩)
theorem mem_steps {n : Nat} {d : D} (h : StepOk n d) : d ∈ steps n := by
  unfold steps plain
  rcases h with h | ⟨p, q, rfl, h1, h2, h3⟩ | ⟨ps, b, w, rfl, h1, h2⟩ | ⟨l, o, rfl, h1, h2, h3⟩
  · exact List.mem_append_left _ (List.mem_append_left _ (List.mem_append_left _ h))
  · refine List.mem_append_left _ (List.mem_append_left _ (List.mem_append_right _ (List.mem_flatMap.mpr ⟨p, ?_, List.mem_map.mpr ⟨q, mem_pcs h3, rfl⟩⟩)))
    have : p = 1 ∨ p = 2 ∨ p = 3 := by omega
    rcases this with rfl | rfl | rfl <;> simp
  · exact List.mem_append_left _ (List.mem_append_right _ (List.mem_flatMap.mpr ⟨ps, mem_eds h1, List.mem_flatMap.mpr ⟨b, by cases b <;> simp, List.mem_map.mpr ⟨w, h2, rfl⟩⟩⟩))
  · exact List.mem_append_right _ (List.mem_flatMap.mpr ⟨l, mem_upto h1 h2, List.mem_map.mpr ⟨o, h3, rfl⟩⟩)
/-- a step's words -/
def txt (i : Int) : Str := Str.ofString (toString i)
def word (d : D) : Str := match d with
  | .int i => txt i
  | .str x => x
  | _ => Str.empty
def wl (d : D) : List Str := match d with
  | .tup (.str w :: r) => if w = ("join" : Str) then (match r with
      | [.tup ps, .bl b, .str x] => ("join" : Str) :: (ps.map word ++ [if b = true then ("checked" : Str) else ("unchecked" : Str), x])
      | _ => []) else if w = ("go" : Str) then (match r with
      | [.int l, .tup o] => ("go" : Str) :: txt l :: o.map word
      | _ => []) else w :: r.map word
  | _ => []
section
variable {S : List MO}
theorem fin_words : (steps 12).map (fun d => f__law_words [d] S) = (steps 12).map fun d => Rf.ok (.lst ((wl d).map D.str)) S := by kernel_rfl
theorem fin_stepw : (steps 12).map (fun d => f_step_words [d] S) = (steps 12).map fun d => Rf.ok (.lst ((wl d).map D.str)) S := by kernel_rfl
theorem fin_stepof : (steps 12).map (fun d => f_step_of [.lst ((wl d).map D.str)] S) = (steps 12).map fun d => Rf.ok d S := by kernel_rfl
theorem fin_err1 {n : Int} : plain.map (fun d => f_step_error [d, .int n] S) = plain.map fun _ => Rf.ok .non S := by kernel_rfl
theorem fin_err2 : ((List.range 13).flatMap fun n => (gos n).map fun d => f_step_error [d, .int (n : Int)] S) = (List.range 13).flatMap fun n => (gos n).map fun _ => Rf.ok .non S := by kernel_rfl
def goodW (z : Str) : Bool := (z.cps.toList.all fun c => decide (c ≠ 32 ∧ c ≠ 10 ∧ c ≠ 35 ∧ c < 128)) && decide (1 ≤ z.cps.size ∧ z.cps.size ≤ 9)
theorem fin_good : ((steps 12).all fun d => (wl d).all goodW && decide (1 ≤ (wl d).length ∧ (wl d).length ≤ 6)) = true := by kernel_rfl
end
end Law
end
section
namespace Law
open PySem PySem.Spec L2 J
local macro_rules | `(tactic| walk_at "jstep") => `(tactic| first
  | (with_reducible refine wp_seq ?_) | (with_reducible refine fq_next ?_) | (with_reducible refine fq_ret ?_) | (with_reducible refine rq_ret ?_) | (with_reducible refine wp_cons ?_) | (with_reducible refine wp_nil ?_)
  | (with_reducible refine wp_pure ?_) | (with_reducible refine wp_op ?_) | (with_reducible refine wp_fn ?_) | (with_reducible refine wp_bi ?_) | (with_reducible refine wp_tup ?_) | (with_reducible refine wp_lst ?_)
  | (with_reducible refine wp_set ?_) | (with_reducible refine wp_ret ?_) | (with_reducible refine wp_if ?_) | (with_reducible refine wp_cmp ?_) | (with_reducible refine wp_not ?_) | (with_reducible refine wp_and ?_)
  | (with_reducible refine wp_or ?_) | (with_reducible refine wp_un ?_) | (with_reducible refine wp_tst ?_) | (with_reducible refine wp_true ?_) | (with_reducible refine wp_isNT ?_) | (with_reducible refine wp_notNT ?_)
  | (with_reducible refine wp_ownS ?_) | (with_reducible refine wp_asg ?_) | (with_reducible refine wp_par ?_) | (with_reducible refine wp_parO ?_) | (with_reducible refine wp_biN ?_) | (with_reducible refine wp_it ?_)
  | (with_reducible refine wp_isi ?_) | (with_reducible refine wp_isiC ?_) | (with_reducible refine wp_sl ?_) | (with_reducible refine wp_slN ?_) | (with_reducible refine wp_bd ?_) | (with_reducible refine wp_addN ?_)
  | (with_reducible refine wp_sm ?_) | (with_reducible refine wp_smN ?_) | (with_reducible refine wp_for ?_) | (with_reducible refine wp_comp ?_) | (with_reducible refine wp_cmp2 ?_) | (with_reducible refine wp_for_nil ?_)
  | (with_reducible refine wp_compN ?_) | (with_reducible refine lq_next ?_) | (with_reducible refine lq_ret ?_) | (with_reducible refine wp_rep ?_) | ((with_reducible apply wp_val); · rfl) | ((with_reducible apply wp_own); · rfl)
  | (with_reducible refine wp_fmt ?_) | (with_reducible refine wp_joinsN ?_) | (with_reducible refine wp_joinsC ?_) | (with_reducible refine wp_oNew ?_) | (with_reducible refine wp_oIx ?_) | (with_reducible refine wp_oTup ?_) | (with_reducible refine wp_oLen ?_)
  | (with_reducible refine wp_oRev ?_) | (with_reducible refine wp_oApp ?_) | (with_reducible refine wp_oPop ?_) | (with_reducible refine wp_oIns ?_) | (with_reducible refine wp_oSet ?_) | (with_reducible refine wp_par3 ?_) | (with_reducible refine wp_sort ?_) | (with_reducible refine wp_rev ?_)
  | (with_reducible refine J.wp_andV ?_) | (with_reducible refine wp_orV ?_) | (with_reducible refine wp_notV ?_) | (with_reducible refine wp_isNM ?_) | (with_reducible refine wp_notNM ?_) | (with_reducible refine wp_chain ?_) | (with_reducible refine wp_tabI ?_) | (with_reducible refine wp_tabT ?_)
  | (with_reducible refine wp_tabX ?_) | (with_reducible refine wp_expr ?_)
  | ((with_reducible apply wp_then); · rfl) | ((with_reducible apply wp_else); · rfl) | ((with_reducible apply wp_lenO); · rfl) | ((with_reducible apply wp_lenV); · rfl) | ((with_reducible apply wp_app); · rfl) | ((with_reducible apply wp_for_cons); · rfl)
  | ((with_reducible apply wp_compC); · rfl) | ((with_reducible apply ex_two); · rfl) | (with_reducible refine wp_of ?_) | (with_reducible refine wp_bind ?_) | ((with_reducible refine ⟨?_, ?_⟩); · exact of_decide_eq_true rfl))
def strC (l : List Nat) : Str := ⟨l.toArray⟩
def nonE (l : List (List Nat)) : List (List Nat) := l.filter fun w => decide (w ≠ [])
theorem strC_tl (z : Str) : strC (TL.tl z) = z := by
  obtain ⟨⟨l⟩⟩ := z
  rfl
theorem strC_len (l : List Nat) : (strC l).length = l.length := by
  show l.toArray.size = _
  simp
theorem strC_inj {l k : List Nat} (h : strC l = strC k) : l = k := by
  have := congrArg TL.tl h
  exact this
section
variable {S : List MO}
theorem eqv_str {x y : Str} : PyData.eqv (.str x) (.str y) = (x == y) := by simp [PyData.eqv]
theorem ne_empty {w : List Nat} : dNe (.str (strC w)) (.str "") = some (.bl (decide (w ≠ []))) := by
  have h : dNe (.str (strC w)) (.str "") = some (.bl (!PyData.eqv (.str (strC w)) (.str ""))) := rfl
  rw [h, eqv_str]
  by_cases e : w = []
  · subst e
    rfl
  · have : (strC w == ("" : Str)) = false := beq_eq_false_iff_ne.mpr fun q => e (strC_inj (q.trans (show ("" : Str) = strC [] from rfl)))
    rw [this]
    simp [e]
theorem split_at {l : List Nat} {c : Nat} {b : Str} (hb : TL.tl b = [c]) (hc : c < 256) (hl : l.length ≤ 16000000) : dSplit (.str (strC l)) [.str b] = some ((TL.spl [c] 0 [] l).map fun w => .str (strC w)) := by
  unfold dSplit
  simp only [hb]
  rw [if_pos ⟨hc, by rw [strC_len]; omega⟩]
  rfl
theorem tl_sp : TL.tl (" " : Str) = [32] := rfl
theorem words_ok {l : List Nat} (hl : l.length ≤ 100000) (hn : (TL.spl [32] 0 [] l).length ≤ 1000000) : Wf f_words_of [.str (strC l)] S fun d S' => S' = S ∧ d = .lst ((nonE (TL.spl [32] 0 [] l)).map fun w => .str (strC w)) := by
  refine wf_run ?_
  unfold m_words_of
  repeat walk_at "jstep"
  refine ⟨_, split_at tl_sp (by decide) (by omega), ?_⟩
  repeat walk_at "jstep"
  refine ⟨by simpa using hn, ?_⟩
  refine wp_compI (fun acc ds S' => S' = S ∧ ∃ l1 l2, ds = l2.map (fun w => D.str (strC w)) ∧ acc = (nonE l1).map (fun w => D.str (strC w)) ∧ l1 ++ l2 = TL.spl [32] 0 [] l) (fun acc S' hi => ?_) (fun acc d ds S' hi => ?_) _ _ _ ⟨rfl, [], _, rfl, rfl, rfl⟩
  · obtain ⟨rfl, l1, l2, e1, rfl, e3⟩ := hi
    repeat walk_at "jstep"
    have : l2 = [] := by
      cases l2 with
      | nil => rfl
      | cons a b => cases e1
    subst this
    rw [List.append_nil] at e3
    exact ⟨rfl, by rw [e3]⟩
  · obtain ⟨rfl, l1, l2, e1, rfl, e3⟩ := hi
    cases l2 with
    | nil => cases e1
    | cons w l2 =>
      cases e1
      refine ⟨_, rfl, ?_⟩
      refine wp_cmp (wp_val rfl (wp_pure ⟨decide (w ≠ []), by rw [ne_empty] <;> rfl, ?_⟩))
      by_cases hw : w = []
      · subst hw
        rw [if_neg (by decide)]
        exact ⟨rfl, l1 ++ [[]], l2, rfl, by simp [nonE], by simp [← e3]⟩
      · rw [if_pos (by simpa using hw)]
        exact wp_val rfl ⟨rfl, l1 ++ [w], l2, rfl, by simp [nonE, hw], by simp [← e3]⟩
theorem pys_strs {f : List Nat → Str} : ∀ l : List (List Nat), D.pys (l.map fun w => D.str (f w)) = some (l.map fun w => PyData.str (f w))
  | [] => rfl
  | w :: l => by
    show (D.py (.str (f w))).bind (fun p => (D.pys (l.map fun w => D.str (f w))).map fun ps => p :: ps) = _
    rw [pys_strs l]
    rfl
theorem depth_strs {f : List Nat → Str} : ∀ l : List (List Nat), PyData.depthAll (l.map fun w => PyData.str (f w)) ≤ 1
  | [] => by simp [PyData.depthAll]
  | w :: l => by
    have := depth_strs (f := f) l
    simp only [List.map_cons, PyData.depthAll, PyData.depth]
    omega
theorem ne_nil {ws : List (List Nat)} : (dNe (.lst (ws.map fun w => D.str (strC w))) (.lst [])).bind D.isB = some (decide (ws ≠ [])) := by
  have h1 : D.py (.lst (ws.map fun w => D.str (strC w))) = some (.list (ws.map fun w => PyData.str (strC w))) := by
    show (D.pys _).map PyData.list = _
    rw [pys_strs]
    rfl
  have h2 : D.py (.lst []) = some (.list []) := rfl
  have h3 := depth_strs (f := strC) ws
  unfold dNe eqD
  rw [h1, h2]
  simp only [Option.bind_some]
  rw [if_pos ⟨by simp only [PyData.depth]; omega, by simp [PyData.depth, PyData.depthAll]⟩]
  cases ws with
  | nil => simp [PyData.eqv, PyData.eqvAll, D.isB]
  | cons w ws => simp [PyData.eqv, PyData.eqvAll, D.isB]
/-- a line and its words -/
def LineOk (l : List Nat) (ws : List (List Nat)) : Prop := 10 ∉ l ∧ l.length ≤ 1000 ∧ ∃ x, 35 ∉ x ∧ (l = x ∨ ∃ r, l = x ++ ([35] ++ r)) ∧ (TL.spl [32] 0 [] x).length ≤ 1000000 ∧ nonE (TL.spl [32] 0 [] x) = ws
theorem part_ok {l x : List Nat} (hl : l.length ≤ 1000) (hx : 35 ∉ x) (h : l = x ∨ ∃ r, l = x ++ ([35] ++ r)) : ∃ b c, dPart (.str (strC l)) [.str "#"] = some (.tup [.str (strC x), b, c]) := by
  have tlh : TL.tl ("#" : Str) = [35] := rfl
  have hlen : (strC l).length ≤ 16777216 := by rw [strC_len]; omega
  rcases h with rfl | ⟨r, rfl⟩
  · refine ⟨.str Str.empty, .str Str.empty, ?_⟩
    unfold dPart
    simp only [tlh]
    rw [if_pos hlen, show TL.tl (strC l) = l from rfl, TL.par_none1 hx]
  · refine ⟨.str "#", .str (strC r), ?_⟩
    unfold dPart
    simp only [tlh]
    rw [if_pos hlen, show TL.tl (strC (x ++ ([35] ++ r))) = x ++ ([35] ++ r) from rfl, TL.par_part1 hx]
    rfl
def rowD (p : Int × List (List Nat)) : D := .tup [.int p.1, .lst (p.2.map fun w => .str (strC w))]
def nonE2 (l : List (List (List Nat))) : List (List (List Nat)) := l.filter fun w => decide (w ≠ [])
theorem rows_ok {z : Str} {ls : List (List Nat × List (List Nat))} (hz : TL.tl z = TL.joinL [10] (ls.map (·.1))) (hne : ls ≠ []) (hl : ∀ p ∈ ls, LineOk p.1 p.2) (hn : ls.length ≤ 1000) :
    Wf f_rows_of [.str z] S fun d S' => S' = S ∧ ∃ ps : List (Int × List (List Nat)), d = .lst (ps.map rowD) ∧ ps.map (·.2) = nonE2 (ls.map (·.2)) := by
  have hz' : z = strC (TL.joinL [10] (ls.map (·.1))) := by rw [← hz, strC_tl]
  have hlen : ∀ ls : List (List Nat × List (List Nat)), (∀ p ∈ ls, LineOk p.1 p.2) → (TL.joinL [10] (ls.map (·.1))).length ≤ 1001 * ls.length := fun ls => by
    induction ls with
    | nil => intro _; simp [TL.joinL]
    | cons p ls ih =>
      intro h
      have h1 := (h p (by simp)).2.1
      have h2 := ih fun q hq => h q (List.mem_cons_of_mem _ hq)
      cases ls with
      | nil => simp [TL.joinL]; omega
      | cons q ls =>
        simp only [List.map_cons, TL.joinL, List.length_append, List.length_cons, List.length_nil] at h2 ⊢
        omega
  have hsp : TL.spl [10] 0 [] (TL.joinL [10] (ls.map (·.1))) = ls.map (·.1) := TL.spl_join (by simpa using hne) fun p hp => by
    obtain ⟨q, hq, rfl⟩ := List.mem_map.mp hp
    exact (hl q hq).1
  have hlz := hlen ls hl
  refine wf_run ?_
  unfold m_rows_of
  repeat walk_at "jstep"
  subst hz'
  refine ⟨_, split_at (c := 10) rfl (by decide) (by omega), ?_⟩
  rw [hsp]
  repeat walk_at "jstep"
  refine wp_forI (fun ds st => ∃ (k : Int) (l1 l2 : List (List Nat × List (List Nat))) (ps : List (Int × List (List Nat))) (x2 x3 x4 : Option Sl), st = ⟨[some (.val (.str (strC (TL.joinL [10] (ls.map (·.1)))))), some (.own (ps.map rowD)), x2, x3, x4], S⟩ ∧ l1 ++ l2 = ls ∧ ps.map (·.2) = nonE2 (l1.map (·.2)) ∧
      ps.length ≤ l1.length ∧ ds = nums k ((l2.map (·.1)).map fun w => D.str (strC w))) (fun st hi => ?_) (fun d ds st hi => ?_) _ _ ⟨1, [], ls, [], none, none, none, rfl, rfl, rfl, Nat.le_refl _, rfl⟩
  · obtain ⟨k, l1, l2, ps, x2, x3, x4, rfl, e1, e2, e3, e4⟩ := hi
    have : l2 = [] := by
      cases l2 with
      | nil => rfl
      | cons a b => cases e4
    subst this
    rw [List.append_nil] at e1
    subst e1
    repeat walk_at "jstep"
    exact ⟨rfl, ps, rfl, e2⟩
  · obtain ⟨k, l1, l2, ps, x2, x3, x4, rfl, e1, e2, e3, e4⟩ := hi
    cases l2 with
    | nil => cases e4
    | cons p l2 =>
      have e4 : d :: ds = .tup [.int k, .str (strC p.1)] :: nums (k + 1) ((l2.map (·.1)).map fun w => D.str (strC w)) := e4
      injection e4 with e5 e6
      subst e5
      obtain ⟨n10, hpl, x, h35, hx, hxl, hw⟩ := hl p (by rw [← e1]; simp)
      refine ⟨_, rfl, ?_⟩
      repeat walk_at "jstep"
      obtain ⟨b, c, hp⟩ := part_ok hpl h35 hx
      refine ⟨_, hp, ?_⟩
      repeat walk_at "jstep"
      have hxx : x.length ≤ 1000 := by
        rcases hx with q | ⟨r, q⟩
        · rw [← q]; exact hpl
        · have := congrArg List.length q
          simp at this
          omega
      refine (words_ok (l := x) (by omega) hxl).imp fun d' S1 ⟨e7, e8⟩ => ?_
      subst e7
      subst e8
      rw [hw]
      repeat walk_at "jstep"
      refine ⟨_, ne_nil, ?_⟩
      by_cases hp2 : p.2 = []
      · refine wp_else (by rw [hp2]; rfl) ?_
        refine wp_pure ?_
        exact ⟨k + 1, l1 ++ [p], l2, ps, _, _, _, rfl, by simp [← e1], by rw [List.map_append, nonE2, List.filter_append]; simpa [hp2, nonE2] using e2, by simp; omega, e6⟩
      · refine wp_then (by simpa using hp2) ?_
        have hlen : (ps.map rowD).length < 1000000 := by
          have : l1.length ≤ ls.length := by rw [← e1]; simp
          simp
          omega
        repeat walk_at "jstep"
        refine ⟨hlen, ?_⟩
        refine ⟨k + 1, l1 ++ [p], l2, ps ++ [(k, p.2)], some (.val (.int k)), some (.val (.str (strC p.1))), some (.val (.lst (p.2.map fun w => D.str (strC w)))), ?_, by simp [← e1], by rw [List.map_append, List.map_append, nonE2, List.filter_append]; simpa [hp2, nonE2] using e2, by simp; omega, e6⟩
        simp only [List.map_append, List.map_cons, List.map_nil]
        rfl
end
end Law
end
section
namespace Law
open PySem PySem.Spec L2 J
local macro_rules | `(tactic| walk_at "jstep") => `(tactic| first
  | (with_reducible refine wp_seq ?_) | (with_reducible refine fq_next ?_) | (with_reducible refine fq_ret ?_) | (with_reducible refine rq_ret ?_) | (with_reducible refine wp_cons ?_) | (with_reducible refine wp_nil ?_)
  | (with_reducible refine wp_pure ?_) | (with_reducible refine wp_op ?_) | (with_reducible refine wp_fn ?_) | (with_reducible refine wp_bi ?_) | (with_reducible refine wp_tup ?_) | (with_reducible refine wp_lst ?_)
  | (with_reducible refine wp_set ?_) | (with_reducible refine wp_ret ?_) | (with_reducible refine wp_if ?_) | (with_reducible refine wp_cmp ?_) | (with_reducible refine wp_not ?_) | (with_reducible refine wp_and ?_)
  | (with_reducible refine wp_or ?_) | (with_reducible refine wp_un ?_) | (with_reducible refine wp_tst ?_) | (with_reducible refine wp_true ?_) | (with_reducible refine wp_isNT ?_) | (with_reducible refine wp_notNT ?_)
  | (with_reducible refine wp_ownS ?_) | (with_reducible refine wp_asg ?_) | (with_reducible refine wp_par ?_) | (with_reducible refine wp_parO ?_) | (with_reducible refine wp_biN ?_) | (with_reducible refine wp_it ?_)
  | (with_reducible refine wp_isi ?_) | (with_reducible refine wp_isiC ?_) | (with_reducible refine wp_sl ?_) | (with_reducible refine wp_slN ?_) | (with_reducible refine wp_bd ?_) | (with_reducible refine wp_addN ?_)
  | (with_reducible refine wp_sm ?_) | (with_reducible refine wp_smN ?_) | (with_reducible refine wp_for ?_) | (with_reducible refine wp_comp ?_) | (with_reducible refine wp_cmp2 ?_) | (with_reducible refine wp_for_nil ?_)
  | (with_reducible refine wp_compN ?_) | (with_reducible refine lq_next ?_) | (with_reducible refine lq_ret ?_) | (with_reducible refine wp_rep ?_) | ((with_reducible apply wp_val); · rfl) | ((with_reducible apply wp_own); · rfl)
  | (with_reducible refine wp_fmt ?_) | (with_reducible refine wp_joinsN ?_) | (with_reducible refine wp_joinsC ?_) | (with_reducible refine wp_oNew ?_) | (with_reducible refine wp_oIx ?_) | (with_reducible refine wp_oTup ?_) | (with_reducible refine wp_oLen ?_)
  | (with_reducible refine wp_oRev ?_) | (with_reducible refine wp_oApp ?_) | (with_reducible refine wp_oPop ?_) | (with_reducible refine wp_oIns ?_) | (with_reducible refine wp_oSet ?_) | (with_reducible refine wp_par3 ?_) | (with_reducible refine wp_sort ?_) | (with_reducible refine wp_rev ?_)
  | (with_reducible refine J.wp_andV ?_) | (with_reducible refine wp_orV ?_) | (with_reducible refine wp_notV ?_) | (with_reducible refine wp_isNM ?_) | (with_reducible refine wp_notNM ?_) | (with_reducible refine wp_chain ?_) | (with_reducible refine wp_tabI ?_) | (with_reducible refine wp_tabT ?_)
  | (with_reducible refine wp_tabX ?_) | (with_reducible refine wp_expr ?_)
  | ((with_reducible apply wp_then); · rfl) | ((with_reducible apply wp_else); · rfl) | ((with_reducible apply wp_lenO); · rfl) | ((with_reducible apply wp_lenV); · rfl) | ((with_reducible apply wp_app); · rfl) | ((with_reducible apply wp_for_cons); · rfl)
  | ((with_reducible apply wp_compC); · rfl) | ((with_reducible apply ex_two); · rfl) | (with_reducible refine wp_of ?_) | (with_reducible refine wp_bind ?_) | ((with_reducible refine ⟨?_, ?_⟩); · exact of_decide_eq_true rfl))

section
variable {S : List MO} {n : Nat}
theorem ok12 {d : D} (h : StepOk (n : Int) d) (hn : n ≤ 12) : d ∈ steps 12 := mem_steps (n := 12) (h.mono (by omega))
theorem law_words {d : D} (h : d ∈ steps 12) : f__law_words [d] S = Rf.ok (.lst ((wl d).map D.str)) S := List.map_inj_left.mp fin_words d h
theorem step_words {d : D} (h : d ∈ steps 12) : f_step_words [d] S = Rf.ok (.lst ((wl d).map D.str)) S := List.map_inj_left.mp fin_stepw d h
theorem step_of {d : D} (h : d ∈ steps 12) : f_step_of [.lst ((wl d).map D.str)] S = Rf.ok d S := List.map_inj_left.mp fin_stepof d h
theorem good {d : D} (h : d ∈ steps 12) : (∀ w ∈ wl d, goodW w = true) ∧ 1 ≤ (wl d).length ∧ (wl d).length ≤ 6 := by
  have := List.all_eq_true.mp fin_good d h
  rw [Bool.and_eq_true] at this
  exact ⟨List.all_eq_true.mp this.1, of_decide_eq_true this.2⟩
theorem flat_map {α β γ : Type} {f g : α → β → γ} {h : α → List β} : ∀ {l : List α}, (l.flatMap fun a => (h a).map (f a)) = (l.flatMap fun a => (h a).map (g a)) → ∀ a ∈ l, ∀ b ∈ h a, f a b = g a b
  | [], _, _, ha, _, _ => by cases ha
  | x :: l, e, a, ha, b, hb => by
    rw [List.flatMap_cons, List.flatMap_cons] at e
    obtain ⟨e1, e2⟩ := List.append_inj e (by simp)
    rcases List.mem_cons.mp ha with rfl | ha
    · exact List.map_inj_left.mp e1 b hb
    · exact flat_map e2 a ha b hb
theorem step_err {d : D} (h : StepOk (n : Int) d) (hn : n ≤ 12) : f_step_error [d, .int (n : Int)] S = Rf.ok .non S := by
  have hm := mem_steps h
  unfold steps at hm
  rcases List.mem_append.mp hm with hm | hm
  · exact List.map_inj_left.mp fin_err1 d hm
  · exact flat_map fin_err2 n (List.mem_range.mpr (by omega)) d hm
theorem step_tup {m : Int} {d : D} (h : StepOk m d) : ∃ l, d = .tup l := by
  rcases h with h | ⟨p, q, rfl, _⟩ | ⟨ps, b, w, rfl, _⟩ | ⟨l, o, rfl, _⟩
  · simp only [words1, List.mem_cons, List.not_mem_nil, or_false] at h
    rcases h with rfl | rfl | rfl | rfl <;> exact ⟨_, rfl⟩
  · exact ⟨_, rfl⟩
  · exact ⟨_, rfl⟩
  · exact ⟨_, rfl⟩
theorem bds_ints (k : Nat) : ∀ l : List Int, D.bds k (l.map D.int) = true
  | [] => by simp [D.bds]
  | x :: l => by simp [D.bds, D.bd, bds_ints k l]
theorem step_bd {m : Int} {d : D} (h : StepOk m d) (k : Nat) : d.bd k = true := by
  rcases h with h | ⟨p, q, rfl, _⟩ | ⟨ps, b, w, rfl, _, hw⟩ | ⟨l, o, rfl, _, _, ho⟩
  · simp only [words1, List.mem_cons, List.not_mem_nil, or_false] at h
    rcases h with rfl | rfl | rfl | rfl <;> simp [D.bd, D.bds]
  · simp [D.bd, D.bds]
  · simp only [whens, List.mem_cons, List.not_mem_nil, or_false] at hw
    rcases hw with rfl | rfl | rfl <;> simp [D.bd, D.bds, bds_ints]
  · simp only [outs, List.mem_cons, List.not_mem_nil, or_false] at ho
    rcases ho with rfl | rfl | rfl | rfl | rfl | rfl | rfl <;> simp [D.bd, D.bds]
theorem wf_eq {f : Mf} {ds : List D} {d : D} {S' : List MO} {Q : D → List MO → Prop} (e : f ds S = .ok d S') (q : Q d S') : Wf f ds S Q := ⟨d, S', e, q⟩
def rowOf (d : D) : List (List Nat) := (wl d).map TL.tl
theorem rowD_of {k : Int} {d : D} : rowD (k, rowOf d) = .tup [.int k, .lst ((wl d).map D.str)] := by
  unfold rowD rowOf
  have e : ((wl d).map TL.tl).map (fun w => D.str (strC w)) = (wl d).map D.str := by
    rw [List.map_map]
    exact List.map_congr_left fun w _ => congrArg D.str (strC_tl w)
  simp only [e]
theorem steps_of_ok {ds : List D} {ps : List (Int × List (List Nat))} (h : ps.map (·.2) = ds.map rowOf) (hl : ds.length ≤ 12) (hd : ∀ d ∈ ds, StepOk (ds.length : Int) d) : Wf f_steps_of [.lst (ps.map rowD)] S fun r S' => S' = S ∧ r = .tup ds := by
  have hpl : ps.length = ds.length := by
    have := congrArg List.length h
    simpa using this
  refine wf_run ?_
  unfold m_steps_of
  repeat walk_at "jstep"
  refine wp_forI (fun rs st => ∃ (d1 d2 : List D) (p2 : List (Int × List (List Nat))) (x2 x3 x4 : Option Sl), st = ⟨[some (.val (.lst (ps.map rowD))), some (.own d1), x2, x3, x4], S⟩ ∧ d1 ++ d2 = ds ∧ p2.map (·.2) = d2.map rowOf ∧ rs = p2.map rowD) (fun st hi => ?_) (fun r rs st hi => ?_) _ _ ⟨[], ds, ps, none, none, none, rfl, rfl, h, rfl⟩
  · obtain ⟨d1, d2, p2, x2, x3, x4, rfl, e1, e2, e3⟩ := hi
    have hp : p2 = [] := by
      cases p2 with
      | nil => rfl
      | cons a b => cases e3
    subst hp
    have hd2 : d2 = [] := by
      cases d2 with
      | nil => rfl
      | cons a b => cases e2
    subst hd2
    rw [List.append_nil] at e1
    subst e1
    repeat walk_at "jstep"
    exact ⟨rfl, rfl⟩
  · obtain ⟨d1, d2, p2, x2, x3, x4, rfl, e1, e2, e3⟩ := hi
    cases p2 with
    | nil => cases e3
    | cons p p2 =>
      cases d2 with
      | nil => cases e2
      | cons d d2 =>
        obtain ⟨k, row⟩ := p
        have e3 : r :: rs = rowD (k, row) :: p2.map rowD := e3
        injection e3 with e4 e5
        have e2 : row :: p2.map (·.2) = rowOf d :: d2.map rowOf := e2
        injection e2 with e6 e7
        subst e6
        rw [rowD_of] at e4
        subst e4
        have hdd := hd d (by rw [← e1]; simp)
        obtain ⟨dl, hdl⟩ := step_tup hdd
        refine ⟨_, rfl, ?_⟩
        repeat walk_at "jstep"
        refine wf_eq (step_of (ok12 (n := ds.length) hdd hl)) ?_
        repeat walk_at "jstep"
        refine wp_else (by rw [hdl] <;> rfl) ?_
        repeat walk_at "jstep"
        rw [show ((ps.map rowD).length : Int) = (ds.length : Int) by simp [hpl]]
        refine wf_eq (step_err (n := ds.length) hdd hl) ?_
        repeat walk_at "jstep"
        have : d1.length < 1000000 := by
          have := congrArg List.length e1
          simp at this
          omega
        refine ⟨this, ?_⟩
        exact ⟨d1 ++ [d], d2, p2, _, _, _, rfl, by simp [← e1], e7, e5⟩
theorem wp_fldS {cs : List Str} {f : Str} {a o : M D} {st : Sta} {Q : Fl → Sta → Prop} (w : Wp a st fun d st1 => Wp o st1 fun u st2 => ∃ st3, fldSet cs f d u st2 = some st3 ∧ Q .next st3) : Wp (fldS cs f a o) st Q :=
  wp_bind (w.imp fun d st1 h => wp_bind (h.imp fun u st2 ⟨st3, h1, h2⟩ => ⟨.next, st3, by unfold thenN; rw [h1], h2⟩))
theorem init_ok {ds : List D} (h1 : 1 ≤ ds.length) (h2 : ds.length ≤ 12) (hd : ∀ d ∈ ds, StepOk (ds.length : Int) d) : Wf f_Programu_initu [.obj S.length, .tup ds] (S ++ [.ins "Program" []]) fun r S' => r = .non ∧ S' = S ++ [.ins "Program" [("listed", .tup ds)]] := by
  refine wf_run ?_
  unfold m_Programu_initu
  repeat walk_at "jstep"
  refine wp_then (decide_eq_true (by omega)) ?_
  repeat walk_at "jstep"
  refine wp_else (by show (!decide ((ds.length : Int) ≤ 12)) = false; rw [decide_eq_true (show (ds.length : Int) ≤ 12 by omega)]; rfl) ?_
  repeat walk_at "jstep"
  refine wp_forI (fun rs st => ∃ (k : Int) (d2 : List D) (x2 x3 x4 : Option Sl), st = ⟨[some (.val (.obj S.length)), some (.val (.tup ds)), x2, x3, x4], S ++ [.ins "Program" []]⟩ ∧ (∀ d ∈ d2, StepOk (ds.length : Int) d) ∧ rs = nums k d2) (fun st hi => ?_) (fun r rs st hi => ?_) _ _ ⟨0, ds, none, none, none, rfl, hd, rfl⟩
  · obtain ⟨k, d2, x2, x3, x4, rfl, _, _⟩ := hi
    refine fq_next (wp_fldS (wp_val rfl (wp_val rfl ⟨⟨[some (.val (.obj S.length)), some (.val (.tup ds)), x2, x3, x4], S ++ [.ins "Program" [("listed", .tup ds)]]⟩, ?_, ?_⟩)))
    · unfold fldSet
      simp [putD]
    · exact ⟨rfl, rfl⟩
  · obtain ⟨k, d2, x2, x3, x4, rfl, e1, e2⟩ := hi
    cases d2 with
    | nil => cases e2
    | cons d d2 =>
      have e2 : r :: rs = .tup [.int k, d] :: nums (k + 1) d2 := e2
      injection e2 with e3 e4
      subst e3
      refine ⟨_, rfl, ?_⟩
      repeat walk_at "jstep"
      refine wf_eq (step_err (n := ds.length) (e1 d (by simp)) h2) ?_
      repeat walk_at "jstep"
      exact ⟨k + 1, d2, _, _, _, rfl, fun d hd => e1 d (List.mem_cons_of_mem _ hd), e4⟩
/-- an instance is made and no longer changes -/
theorem wp_mak {c : Str} {mf : Mf} {m : M (List D)} {st : Sta} {Q : D → Sta → Prop} (w : Wp m st fun ds st1 => Wf mf (.obj st1.S.length :: ds) (st1.S ++ [.ins c []]) fun d S' => d = .non ∧ ∃ fs, S' = st1.S ++ [.ins c fs] ∧ D.bdf st1.S.length fs = true ∧ Q (.ins c fs) st1) : Wp (makM c mf m) st Q := by
  refine wp_bind (w.imp fun ds st1 ⟨d, S', e, e2, fs, e3, e4, q⟩ => ⟨_, _, ?_, q⟩)
  subst e2
  subst e3
  unfold mkM
  rw [e]
  simp [e4]
def prog (ds : List D) : D := .ins "Program" [("listed", .tup ds)]
theorem bds_steps {m : Int} (k : Nat) : ∀ {ds : List D}, (∀ d ∈ ds, StepOk m d) → D.bds k ds = true
  | [], _ => by simp [D.bds]
  | d :: ds, h => by simp [D.bds, step_bd (h d (by simp)) k, bds_steps k fun x hx => h x (List.mem_cons_of_mem _ hx)]
structure Good (ds : List D) : Prop where
  lo : 1 ≤ ds.length
  hi : ds.length ≤ 12
  ok : ∀ d ∈ ds, StepOk (ds.length : Int) d
theorem wp_prog {m : M (List D)} {ds : List D} {st : Sta} {Q : D → Sta → Prop} (h : Good ds) (w : Wp m st fun l st1 => l = [.tup ds] ∧ Q (prog ds) st1) : Wp (makM "Program" f_Programu_initu m) st Q := by
  refine wp_mak (w.imp fun l st1 ⟨e, q⟩ => ?_)
  subst e
  exact (init_ok (S := st1.S) h.lo h.hi h.ok).imp fun r S' ⟨e1, e2⟩ => ⟨e1, _, e2, by simp [D.bdf, D.bd, bds_steps _ h.ok], q⟩
def rowP (p : Int × List (List Nat)) : PyData := .tuple [.int p.1, .list (p.2.map fun w => PyData.str (strC w))]
theorem pys_rows : ∀ ps : List (Int × List (List Nat)), D.pys (ps.map rowD) = some (ps.map rowP)
  | [] => rfl
  | p :: ps => by
    have h : D.py (rowD p) = some (rowP p) := by
      show (D.pys [D.int p.1, D.lst _]).map PyData.tuple = _
      show ((D.py (D.int p.1)).bind fun a => (D.pys [D.lst _]).map fun b => a :: b).map PyData.tuple = _
      have h1 : D.pys [D.lst (p.2.map fun w => D.str (strC w))] = some [.list (p.2.map fun w => PyData.str (strC w))] := by
        show ((D.py (D.lst _)).bind fun a => (D.pys []).map fun b => a :: b) = _
        have h2 : D.py (D.lst (p.2.map fun w => D.str (strC w))) = some (.list (p.2.map fun w => PyData.str (strC w))) := by
          show (D.pys _).map PyData.list = _
          rw [pys_strs]
          rfl
        rw [h2]
        rfl
      rw [h1]
      rfl
    show (D.py (rowD p)).bind (fun a => (D.pys (ps.map rowD)).map fun b => a :: b) = _
    rw [h, pys_rows ps]
    rfl
theorem depth_rows : ∀ ps : List (Int × List (List Nat)), PyData.depthAll (ps.map rowP) ≤ 4
  | [] => by simp [PyData.depthAll]
  | p :: ps => by
    have h1 := depth_rows ps
    have h2 := depth_strs (f := strC) p.2
    simp only [List.map_cons, PyData.depthAll, rowP, PyData.depth]
    omega
theorem rows_ne {ps : List (Int × List (List Nat))} (h : ps ≠ []) : (dEq (.lst (ps.map rowD)) (.lst [])).bind D.isB = some false := by
  have h1 : D.py (.lst (ps.map rowD)) = some (.list (ps.map rowP)) := by
    show (D.pys _).map PyData.list = _
    rw [pys_rows]
    rfl
  have h2 : D.py (.lst []) = some (.list []) := rfl
  have h3 := depth_rows ps
  unfold dEq eqD
  rw [h1, h2]
  simp only [Option.bind_some]
  rw [if_pos ⟨by simp only [PyData.depth]; omega, by simp [PyData.depth, PyData.depthAll]⟩]
  cases ps with
  | nil => exact absurd rfl h
  | cons p ps => simp [PyData.eqv, PyData.eqvAll, D.isB]
abbrev Lns : Type := List (List Nat × List (List Nat))
/-- a text that tells these rows -/
def TellsR (z : Str) (rs : List (List (List Nat))) : Prop := ∃ ls : Lns, TL.tl z = TL.joinL [10] (ls.map (·.1)) ∧ ls ≠ [] ∧ (∀ p ∈ ls, LineOk p.1 p.2) ∧ ls.length ≤ 1000 ∧ nonE2 (ls.map (·.2)) = rs
theorem told_ok {z : Str} {rs : List (List (List Nat))} (hne : rs ≠ []) (t : TellsR z rs) : Wf f_told_rows [.str z] S fun r S' => S' = S ∧ ∃ ps : List (Int × List (List Nat)), r = .lst (ps.map rowD) ∧ ps.map (·.2) = rs := by
  obtain ⟨ls, t1, t2, t3, t4, t5⟩ := t
  refine wf_run ?_
  unfold m_told_rows
  repeat walk_at "jstep"
  refine (rows_ok t1 t2 t3 t4).imp fun r S' ⟨e1, ps, e2, e3⟩ => ?_
  subst e1
  subst e2
  rw [t5] at e3
  repeat walk_at "jstep"
  have hne : ps ≠ [] := fun e => by
    subst e
    exact hne e3.symm
  refine ⟨false, rows_ne hne, ?_⟩
  repeat walk_at "jstep"
  exact ⟨rfl, ps, rfl, e3⟩
end
end Law
end
section
namespace Law
open PySem PySem.Spec L2 J
local macro_rules | `(tactic| walk_at "jstep") => `(tactic| first
  | (with_reducible refine wp_seq ?_) | (with_reducible refine fq_next ?_) | (with_reducible refine fq_ret ?_) | (with_reducible refine rq_ret ?_) | (with_reducible refine wp_cons ?_) | (with_reducible refine wp_nil ?_)
  | (with_reducible refine wp_pure ?_) | (with_reducible refine wp_op ?_) | (with_reducible refine wp_fn ?_) | (with_reducible refine wp_bi ?_) | (with_reducible refine wp_tup ?_) | (with_reducible refine wp_lst ?_)
  | (with_reducible refine wp_set ?_) | (with_reducible refine wp_ret ?_) | (with_reducible refine wp_if ?_) | (with_reducible refine wp_cmp ?_) | (with_reducible refine wp_not ?_) | (with_reducible refine wp_and ?_)
  | (with_reducible refine wp_or ?_) | (with_reducible refine wp_un ?_) | (with_reducible refine wp_tst ?_) | (with_reducible refine wp_true ?_) | (with_reducible refine wp_isNT ?_) | (with_reducible refine wp_notNT ?_)
  | (with_reducible refine wp_ownS ?_) | (with_reducible refine wp_asg ?_) | (with_reducible refine wp_par ?_) | (with_reducible refine wp_parO ?_) | (with_reducible refine wp_biN ?_) | (with_reducible refine wp_it ?_)
  | (with_reducible refine wp_isi ?_) | (with_reducible refine wp_isiC ?_) | (with_reducible refine wp_sl ?_) | (with_reducible refine wp_slN ?_) | (with_reducible refine wp_bd ?_) | (with_reducible refine wp_addN ?_)
  | (with_reducible refine wp_sm ?_) | (with_reducible refine wp_smN ?_) | (with_reducible refine wp_for ?_) | (with_reducible refine wp_comp ?_) | (with_reducible refine wp_cmp2 ?_) | (with_reducible refine wp_for_nil ?_)
  | (with_reducible refine wp_compN ?_) | (with_reducible refine lq_next ?_) | (with_reducible refine lq_ret ?_) | (with_reducible refine wp_rep ?_) | ((with_reducible apply wp_val); · rfl) | ((with_reducible apply wp_own); · rfl)
  | (with_reducible refine wp_fmt ?_) | (with_reducible refine wp_joinsN ?_) | (with_reducible refine wp_joinsC ?_) | (with_reducible refine wp_oNew ?_) | (with_reducible refine wp_oIx ?_) | (with_reducible refine wp_oTup ?_) | (with_reducible refine wp_oLen ?_)
  | (with_reducible refine wp_oRev ?_) | (with_reducible refine wp_oApp ?_) | (with_reducible refine wp_oPop ?_) | (with_reducible refine wp_oIns ?_) | (with_reducible refine wp_oSet ?_) | (with_reducible refine wp_par3 ?_) | (with_reducible refine wp_sort ?_) | (with_reducible refine wp_rev ?_)
  | (with_reducible refine J.wp_andV ?_) | (with_reducible refine wp_orV ?_) | (with_reducible refine wp_notV ?_) | (with_reducible refine wp_isNM ?_) | (with_reducible refine wp_notNM ?_) | (with_reducible refine wp_chain ?_) | (with_reducible refine wp_tabI ?_) | (with_reducible refine wp_tabT ?_)
  | (with_reducible refine wp_tabX ?_) | (with_reducible refine wp_expr ?_)
  | ((with_reducible apply wp_then); · rfl) | ((with_reducible apply wp_else); · rfl) | ((with_reducible apply wp_lenO); · rfl) | ((with_reducible apply wp_lenV); · rfl) | ((with_reducible apply wp_app); · rfl) | ((with_reducible apply wp_for_cons); · rfl)
  | ((with_reducible apply wp_compC); · rfl) | ((with_reducible apply ex_two); · rfl) | (with_reducible refine wp_of ?_) | (with_reducible refine wp_bind ?_) | ((with_reducible refine ⟨?_, ?_⟩); · exact of_decide_eq_true rfl))

section
variable {S : List MO}
/-- a row of words -/
def RowG (r : List Str) : Prop := (∀ w ∈ r, goodW w = true) ∧ 1 ≤ r.length ∧ r.length ≤ 6
structure RowsG (rs : List (List Str)) : Prop where
  lo : 1 ≤ rs.length
  hi : rs.length ≤ 40
  ok : ∀ r ∈ rs, RowG r
theorem row_of {d : D} (h : d ∈ steps 12) : RowG (wl d) := good h
theorem rowOf_eq {d : D} : rowOf d = (wl d).map TL.tl := rfl
def lineS (ws : List Str) : Str := Str.join " " ws ++ "\n"
def plainS (ds : List (List Str)) : Str := Str.join "" (ds.map fun d => lineS (d))
def wrow (r : List Str) : List (List Nat) := r.map TL.tl
def lineC (d : List Str) : List Nat := TL.joinL [32] (wrow d)
theorem strs_map (l : List Str) : D.strs (l.map D.str) = some l := by
  induction l with
  | nil => rfl
  | cons x l ih =>
    show (D.strs (l.map D.str)).map (x :: ·) = _
    rw [ih]
    rfl
theorem join_len (T : List Nat) : ∀ (ps : List (List Nat)) (b : Nat), (∀ p ∈ ps, p.length ≤ b) → (TL.joinL T ps).length ≤ ps.length * (b + T.length)
  | [], b, _ => by simp [TL.joinL]
  | [p], b, h => by
    have := h p (by simp)
    simp [TL.joinL]
    omega
  | p :: q :: r, b, h => by
    have h1 := h p (by simp)
    have h2 := join_len T (q :: r) b fun x hx => h x (List.mem_cons_of_mem _ hx)
    simp only [TL.joinL, List.length_append, List.length_cons] at h2 ⊢
    rw [Nat.succ_mul]
    omega
theorem sum_le : ∀ (l : List Str) (b : Nat), (∀ x ∈ l, x.length ≤ b) → (l.map (·.length)).sum ≤ l.length * b
  | [], b, _ => by simp
  | x :: l, b, h => by
    have h1 := h x (by simp)
    have h2 := sum_le l b fun y hy => h y (List.mem_cons_of_mem _ hy)
    simp only [List.map_cons, List.sum_cons, List.length_cons]
    rw [Nat.succ_mul]
    omega
theorem join_ok' {y : Str} {l : List Str} {b : Nat} (h : ∀ x ∈ l, x.length ≤ b) (hn : l.length * (b + y.length) ≤ 16000000) : dJoin (.str y) [.lst (l.map D.str)] = some (.str (Str.join y l)) := by
  have h1 := sum_le l b h
  unfold dJoin
  simp only [strs_map, Option.bind_some]
  rw [Nat.mul_add] at hn
  rw [if_pos (by omega)]
theorem len_tl (x : Str) : x.length = (TL.tl x).length := by
  show x.cps.size = x.cps.toList.length
  simp
theorem goodW_len {w : Str} (h : goodW w = true) : w.length ≤ 9 ∧ TL.tl w ≠ [] ∧ ∀ c ∈ TL.tl w, c ≠ 32 ∧ c ≠ 10 ∧ c ≠ 35 ∧ c < 128 := by
  obtain ⟨h1, h2⟩ := Bool.and_eq_true_iff.mp h
  have h2 := of_decide_eq_true h2
  refine ⟨h2.2, fun e => ?_, fun c hc => of_decide_eq_true (List.all_eq_true.mp h1 c hc)⟩
  have : w.cps.size = 0 := by
    have := len_tl w
    rw [e] at this
    exact this
  omega
theorem join_words {y : Str} {d : List Str} (h : RowG d) (hy : y.length ≤ 10) : dJoin (.str y) [.lst ((d).map D.str)] = some (.str (Str.join y (d))) ∧ (Str.join y (d)).length ≤ 120 := by
  obtain ⟨g1, g2, g3⟩ := h
  refine ⟨join_ok' (b := 9) (fun x hx => (goodW_len (g1 x hx)).1) ?_, ?_⟩
  · have : (d).length * (9 + y.length) ≤ 6 * 19 := Nat.mul_le_mul g3 (by omega)
    omega
  · rw [len_tl, TL.tl_join]
    have h1 := join_len (TL.tl y) ((d).map TL.tl) 9 fun p hp => by
      obtain ⟨w, hw, rfl⟩ := List.mem_map.mp hp
      rw [← len_tl]
      exact (goodW_len (g1 w hw)).1
    have : ((d).map TL.tl).length * (9 + (TL.tl y).length) ≤ 6 * 19 := Nat.mul_le_mul (by simpa using g3) (by rw [← len_tl]; omega)
    omega
theorem add_str {x y : Str} (h : x.length + y.length ≤ 16777216) : dAdd (.str x) (.str y) = some (.str (x ++ y)) := by
  unfold dAdd
  simp only
  rw [if_pos h]
theorem lineS_len {d : List Str} (h : RowG d) : (lineS (d)).length ≤ 121 := by
  have := (join_words (y := " ") h (by decide)).2
  unfold lineS
  rw [len_tl, TL.tl_append, List.length_append, ← len_tl]
  have : (TL.tl ("\n" : Str)).length = 1 := rfl
  omega
theorem plain_ok {ds : List (List Str)} (h : RowsG ds) : Wf f__law_plain [.lst (ds.map fun d => .lst ((d).map D.str))] S fun r S' => S' = S ∧ r = .str (plainS ds) := by
  have hi := h.hi
  have hm : ∀ d ∈ ds, RowG d := h.ok
  refine wf_run ?_
  unfold m__law_plain
  repeat walk_at "jstep"
  refine ⟨by simp; omega, ?_⟩
  refine wp_compI (fun acc rs S' => S' = S ∧ ∃ d1 d2, d1 ++ d2 = ds ∧ acc = (d1.map fun d => lineS (d)).map D.str ∧ rs = d2.map fun d => D.lst ((d).map D.str)) (fun acc S' hi => ?_) (fun acc r rs S' hi => ?_) _ _ _ ⟨rfl, [], ds, rfl, rfl, rfl⟩
  · obtain ⟨rfl, d1, d2, e1, rfl, e2⟩ := hi
    have hd2 : d2 = [] := by
      cases d2 with
      | nil => rfl
      | cons a b => cases e2
    subst hd2
    rw [List.append_nil] at e1
    subst e1
    refine ⟨_, join_ok' (b := 121) (fun x hx => ?_) ?_, ?_⟩
    · obtain ⟨d, hd, rfl⟩ := List.mem_map.mp hx
      exact lineS_len (hm d hd)
    · have : (d1.map fun d => lineS (d)).length * (121 + ("" : Str).length) ≤ 40 * 121 := Nat.mul_le_mul (by simpa using hi) (by decide)
      omega
    · repeat walk_at "jstep"
      exact ⟨rfl, rfl⟩
  · obtain ⟨rfl, d1, d2, e1, rfl, e2⟩ := hi
    cases d2 with
    | nil => cases e2
    | cons d d2 =>
      cases e2
      have hd := hm d (by rw [← e1]; simp)
      refine ⟨_, rfl, ?_⟩
      repeat walk_at "jstep"
      rw [if_pos rfl]
      repeat walk_at "jstep"
      obtain ⟨j1, j2⟩ := join_words (y := " ") hd (by decide)
      refine ⟨_, j1, ?_⟩
      repeat walk_at "jstep"
      refine ⟨_, add_str (by have : ("\n" : Str).length = 1 := rfl
                             omega), rfl, d1 ++ [d], d2, by simp [← e1], by simp [lineS], rfl⟩
theorem wp_steps {a : M D} {ds : List D} {st : Sta} {Q : D → Sta → Prop} (w : Wp a st fun x st1 => x = prog ds ∧ Q (.tup ds) st1) : Wp (propM pt_steps a) st Q := by
  refine wp_bind (w.imp fun x st1 ⟨e, q⟩ => ?_)
  subst e
  exact ⟨.tup ds, st1, rfl, q⟩
theorem text_ok {ds : List D} (h : Good ds) : Wf f_program_text [prog ds] S fun r S' => S' = S ∧ r = .str (plainS (ds.map wl)) := by
  have hi := h.hi
  have hm : ∀ d ∈ ds, d ∈ steps 12 := fun d hd => ok12 (n := ds.length) (h.ok d hd) hi
  refine wf_run ?_
  unfold m_program_text
  repeat walk_at "jstep"
  refine wp_steps (wp_val rfl ⟨rfl, _, rfl, by omega, ?_⟩)
  refine wp_compI (fun acc rs S' => S' = S ∧ ∃ d1 d2, d1 ++ d2 = ds ∧ acc = (d1.map fun d => lineS (wl d)).map D.str ∧ rs = d2) (fun acc S' hi => ?_) (fun acc r rs S' hi => ?_) _ _ _ ⟨rfl, [], ds, rfl, rfl, rfl⟩
  · obtain ⟨rfl, d1, d2, e1, rfl, e2⟩ := hi
    subst e2
    rw [List.append_nil] at e1
    subst e1
    repeat walk_at "jstep"
    refine ⟨_, join_ok' (b := 121) (fun x hx => ?_) ?_, ?_⟩
    · obtain ⟨d, hd, rfl⟩ := List.mem_map.mp hx
      exact lineS_len (row_of (hm d hd))
    · have : (d1.map fun d => lineS (wl d)).length * (121 + ("" : Str).length) ≤ 12 * 121 := Nat.mul_le_mul (by simpa using hi) (by decide)
      omega
    · repeat walk_at "jstep"
      exact ⟨rfl, by simp [plainS, List.map_map, Function.comp_def]⟩
  · obtain ⟨rfl, d1, d2, e1, rfl, e2⟩ := hi
    subst e2
    have hd := hm r (by rw [← e1]; simp)
    refine ⟨_, rfl, ?_⟩
    repeat walk_at "jstep"
    rw [if_pos rfl]
    repeat walk_at "jstep"
    refine wf_eq (step_words hd) ?_
    repeat walk_at "jstep"
    obtain ⟨j1, j2⟩ := join_words (y := " ") (row_of hd) (by decide)
    refine ⟨_, j1, ?_⟩
    repeat walk_at "jstep"
    refine ⟨_, add_str (by have : ("\n" : Str).length = 1 := rfl
                           omega), rfl, d1 ++ [r], rs, by simp [← e1], by simp [lineS], rfl⟩
end
end Law
end
section
namespace Law
open PySem PySem.Spec L2 J
local macro_rules | `(tactic| walk_at "jstep") => `(tactic| first
  | (with_reducible refine wp_seq ?_) | (with_reducible refine fq_next ?_) | (with_reducible refine fq_ret ?_) | (with_reducible refine rq_ret ?_) | (with_reducible refine wp_cons ?_) | (with_reducible refine wp_nil ?_)
  | (with_reducible refine wp_pure ?_) | (with_reducible refine wp_op ?_) | (with_reducible refine wp_fn ?_) | (with_reducible refine wp_bi ?_) | (with_reducible refine wp_tup ?_) | (with_reducible refine wp_lst ?_)
  | (with_reducible refine wp_set ?_) | (with_reducible refine wp_ret ?_) | (with_reducible refine wp_if ?_) | (with_reducible refine wp_cmp ?_) | (with_reducible refine wp_not ?_) | (with_reducible refine wp_and ?_)
  | (with_reducible refine wp_or ?_) | (with_reducible refine wp_un ?_) | (with_reducible refine wp_tst ?_) | (with_reducible refine wp_true ?_) | (with_reducible refine wp_isNT ?_) | (with_reducible refine wp_notNT ?_)
  | (with_reducible refine wp_ownS ?_) | (with_reducible refine wp_asg ?_) | (with_reducible refine wp_par ?_) | (with_reducible refine wp_parO ?_) | (with_reducible refine wp_biN ?_) | (with_reducible refine wp_it ?_)
  | (with_reducible refine wp_isi ?_) | (with_reducible refine wp_isiC ?_) | (with_reducible refine wp_sl ?_) | (with_reducible refine wp_slN ?_) | (with_reducible refine wp_bd ?_) | (with_reducible refine wp_addN ?_)
  | (with_reducible refine wp_sm ?_) | (with_reducible refine wp_smN ?_) | (with_reducible refine wp_for ?_) | (with_reducible refine wp_comp ?_) | (with_reducible refine wp_cmp2 ?_) | (with_reducible refine wp_for_nil ?_)
  | (with_reducible refine wp_compN ?_) | (with_reducible refine lq_next ?_) | (with_reducible refine lq_ret ?_) | (with_reducible refine wp_rep ?_) | ((with_reducible apply wp_val); · rfl) | ((with_reducible apply wp_own); · rfl)
  | (with_reducible refine wp_fmt ?_) | (with_reducible refine wp_joinsN ?_) | (with_reducible refine wp_joinsC ?_) | (with_reducible refine wp_oNew ?_) | (with_reducible refine wp_oIx ?_) | (with_reducible refine wp_oTup ?_) | (with_reducible refine wp_oLen ?_)
  | (with_reducible refine wp_oRev ?_) | (with_reducible refine wp_oApp ?_) | (with_reducible refine wp_oPop ?_) | (with_reducible refine wp_oIns ?_) | (with_reducible refine wp_oSet ?_) | (with_reducible refine wp_par3 ?_) | (with_reducible refine wp_sort ?_) | (with_reducible refine wp_rev ?_)
  | (with_reducible refine J.wp_andV ?_) | (with_reducible refine wp_orV ?_) | (with_reducible refine wp_notV ?_) | (with_reducible refine wp_isNM ?_) | (with_reducible refine wp_notNM ?_) | (with_reducible refine wp_chain ?_) | (with_reducible refine wp_tabI ?_) | (with_reducible refine wp_tabT ?_)
  | (with_reducible refine wp_tabX ?_) | (with_reducible refine wp_expr ?_)
  | ((with_reducible apply wp_then); · rfl) | ((with_reducible apply wp_else); · rfl) | ((with_reducible apply wp_lenO); · rfl) | ((with_reducible apply wp_lenV); · rfl) | ((with_reducible apply wp_app); · rfl) | ((with_reducible apply wp_for_cons); · rfl)
  | ((with_reducible apply wp_compC); · rfl) | ((with_reducible apply ex_two); · rfl) | (with_reducible refine wp_of ?_) | (with_reducible refine wp_bind ?_) | ((with_reducible refine ⟨?_, ?_⟩); · exact of_decide_eq_true rfl))

section
variable {S : List MO} {n : Nat}
def sps (k : Nat) : List Nat := List.replicate k 32
def nW (l : List Nat) : List (List Nat) := nonE (TL.spl [32] 0 [] l)
theorem nW_sp {l : List Nat} : nW (32 :: l) = nW l := by
  unfold nW
  rw [TL.spl_hit (S := [32]) rfl]
  rfl
theorem nW_sps : ∀ (k : Nat) {l : List Nat}, nW (sps k ++ l) = nW l
  | 0, _ => rfl
  | k + 1, l => by
    show nW (32 :: (sps k ++ l)) = _
    rw [nW_sp, nW_sps k]
theorem nW_word {w l : List Nat} (h : 32 ∉ w) (hw : w ≠ []) : nW (w ++ 32 :: l) = w :: nW l := by
  unfold nW
  have := TL.spl_part1 (S := []) (rest := l) (acc := []) h
  rw [show w ++ 32 :: l = w ++ ([32] ++ l) from rfl, this]
  simp [nonE, hw]
theorem nW_last {w : List Nat} (h : 32 ∉ w) (hw : w ≠ []) : nW w = [w] := by
  unfold nW
  rw [TL.spl_last1 h]
  simp [nonE, hw]
theorem nW_nil : nW [] = [] := rfl
theorem nW_end {w : List Nat} (h : 32 ∉ w) (hw : w ≠ []) : ∀ j, nW (w ++ sps j) = [w]
  | 0 => by
    show nW (w ++ []) = _
    rw [List.append_nil, nW_last h hw]
  | j + 1 => by
    show nW (w ++ 32 :: sps j) = _
    rw [nW_word h hw]
    have := nW_sps j (l := [])
    rw [List.append_nil] at this
    rw [this, nW_nil]
theorem nW_join {k j : Nat} : ∀ {ws : List (List Nat)}, ws ≠ [] → (∀ w ∈ ws, 32 ∉ w ∧ w ≠ []) → nW (TL.joinL (sps (k + 1)) ws ++ sps j) = ws
  | [], h, _ => absurd rfl h
  | [w], _, h => nW_end (h w (by simp)).1 (h w (by simp)).2 j
  | w :: v :: ws, _, h => by
    have ih := nW_join (k := k) (j := j) (ws := v :: ws) (by simp) fun x hx => h x (List.mem_cons_of_mem _ hx)
    show nW ((w ++ (32 :: sps k ++ TL.joinL (sps (k + 1)) (v :: ws))) ++ sps j) = _
    rw [show (w ++ (32 :: sps k ++ TL.joinL (sps (k + 1)) (v :: ws))) ++ sps j = w ++ 32 :: (sps k ++ (TL.joinL (sps (k + 1)) (v :: ws) ++ sps j)) by simp]
    rw [nW_word (h w (by simp)).1 (h w (by simp)).2, nW_sps, ih]
theorem spl_len : ∀ (l acc : List Nat), (TL.spl [32] 0 acc l).length ≤ l.length + 1
  | [], acc => by rw [TL.spl_nil]; simp
  | c :: r, acc => by
    cases h : TL.pre [32] (c :: r) with
    | true =>
      rw [TL.spl_hit h]
      have := spl_len r []
      simpa using this
    | false =>
      rw [TL.spl_miss h]
      have := spl_len r (acc ++ [c])
      simp only [List.length_cons]
      omega
theorem flat_join : ∀ ls : List (List Nat), (ls.map fun l => l ++ [10]).flatten = TL.joinL [10] (ls ++ [[]])
  | [] => rfl
  | [p] => by simp [TL.joinL]
  | p :: q :: r => by
    have ih := flat_join (q :: r)
    rw [List.map_cons, List.flatten_cons, ih]
    simp [TL.joinL]
theorem flat_cut : ∀ {ls : List (List Nat)}, ls ≠ [] → TL.joinL [10] ls ++ [10] = (ls.map fun l => l ++ [10]).flatten
  | [], h => absurd rfl h
  | [p], _ => by simp [TL.joinL]
  | p :: q :: r, _ => by
    have ih := flat_cut (ls := q :: r) (by simp)
    rw [List.map_cons, List.flatten_cons, ← ih]
    simp [TL.joinL]
def flatL (ls : Lns) : List Nat := ((ls.map (·.1)).map fun l => l ++ [10]).flatten
theorem empty_ok : LineOk [] [] := ⟨by simp, by simp, [], by simp, .inl rfl, by decide, rfl⟩
theorem tells_of {z : Str} {ds : List (List Str)} {ls : Lns} (hz : TL.tl z = flatL ls) (hl : ∀ p ∈ ls, LineOk p.1 p.2) (hn : ls.length ≤ 900) (hr : nonE2 (ls.map (·.2)) = ds.map wrow) : TellsR z (ds.map wrow) := by
  refine ⟨ls ++ [([], [])], ?_, by simp, fun p hp => ?_, by simp; omega, ?_⟩
  · rw [hz]
    unfold flatL
    rw [flat_join]
    simp
  · rcases List.mem_append.mp hp with hp | hp
    · exact hl p hp
    · rw [List.mem_singleton.mp hp]; exact empty_ok
  · rw [List.map_append, nonE2, List.filter_append]
    simpa [nonE2] using hr
theorem tells_cut {z : Str} {ds : List (List Str)} {ls : Lns} (hz : TL.tl z ++ [10] = flatL ls) (hne : ls ≠ []) (hl : ∀ p ∈ ls, LineOk p.1 p.2) (hn : ls.length ≤ 900) (hr : nonE2 (ls.map (·.2)) = ds.map wrow) : TellsR z (ds.map wrow) := by
  refine ⟨ls, ?_, hne, hl, by omega, hr⟩
  unfold flatL at hz
  rw [← flat_cut (by simpa using hne)] at hz
  exact List.append_cancel_right hz
/-- a row's words are words -/
theorem row_words {d : List Str} (h : RowG d) : wrow d ≠ [] ∧ (wrow d).length ≤ 6 ∧ ∀ w ∈ wrow d, w.length ≤ 9 ∧ w ≠ [] ∧ ∀ c ∈ w, c ≠ 32 ∧ c ≠ 10 ∧ c ≠ 35 ∧ c < 128 := by
  obtain ⟨g1, g2, g3⟩ := h
  refine ⟨fun e => ?_, by simpa [wrow] using g3, fun w hw => ?_⟩
  · have := congrArg List.length e
    simp [wrow] at this
    rw [this] at g2
    simp at g2
  · obtain ⟨v, hv, rfl⟩ := List.mem_map.mp hw
    obtain ⟨h1, h2, h3⟩ := goodW_len (g1 v hv)
    exact ⟨by rw [← len_tl]; exact h1, h2, h3⟩
theorem join_mem {T : List Nat} : ∀ {ps : List (List Nat)} {c : Nat}, c ∈ TL.joinL T ps → c ∈ T ∨ ∃ p ∈ ps, c ∈ p
  | [], c, h => by simp [TL.joinL] at h
  | [p], c, h => .inr ⟨p, by simp, h⟩
  | p :: q :: r, c, h => by
    have h : c ∈ p ++ (T ++ TL.joinL T (q :: r)) := h
    rcases List.mem_append.mp h with h | h
    · exact .inr ⟨p, by simp, h⟩
    · rcases List.mem_append.mp h with h | h
      · exact .inl h
      · rcases join_mem h with h | ⟨x, hx, h⟩
        · exact .inl h
        · exact .inr ⟨x, List.mem_cons_of_mem _ hx, h⟩
/-- a line with blanks and a note -/
theorem line_ok {d : List Str} {i k j : Nat} {r : List Nat} (h : RowG d) (hi : i ≤ 9) (hk : k ≤ 9) (hj : j ≤ 9) (hr : r = [] ∨ (∃ q, r = 35 :: q)) (h10 : 10 ∉ r) (hl : r.length ≤ 20) : LineOk (sps i ++ (TL.joinL (sps (k + 1)) (wrow d) ++ (sps j ++ r))) (wrow d) := by
  obtain ⟨w1, w2, w3⟩ := row_words h
  have sp : ∀ {c m : Nat}, c ∈ sps m → c = 32 := fun hc => List.eq_of_mem_replicate hc
  have no : ∀ {c : Nat}, c ∈ TL.joinL (sps (k + 1)) (wrow d) → c = 32 ∨ (c ≠ 10 ∧ c ≠ 35) := fun {c} hc => by
    rcases join_mem hc with hc | ⟨w, hw, hc⟩
    · exact .inl (sp hc)
    · obtain ⟨_, _, q⟩ := w3 w hw
      exact .inr ⟨(q c hc).2.1, (q c hc).2.2.1⟩
  have lj := join_len (sps (k + 1)) (wrow d) 9 fun w hw => (w3 w hw).1
  have lsp : ∀ m, (sps m).length = m := fun m => List.length_replicate
  have lj2 : (wrow d).length * (9 + (sps (k + 1)).length) ≤ 6 * 19 := Nat.mul_le_mul w2 (by rw [lsp]; omega)
  refine ⟨fun hc => ?_, by simp only [List.length_append, lsp]; omega, sps i ++ (TL.joinL (sps (k + 1)) (wrow d) ++ sps j), fun hc => ?_, ?_, ?_, ?_⟩
  · rcases List.mem_append.mp hc with hc | hc
    · have := sp hc; omega
    · rcases List.mem_append.mp hc with hc | hc
      · rcases no hc with e | ⟨e, _⟩ <;> omega
      · rcases List.mem_append.mp hc with hc | hc
        · have := sp hc; omega
        · exact h10 hc
  · rcases List.mem_append.mp hc with hc | hc
    · have := sp hc; omega
    · rcases List.mem_append.mp hc with hc | hc
      · rcases no hc with e | ⟨_, e⟩ <;> omega
      · have := sp hc; omega
  · rcases hr with rfl | ⟨q, rfl⟩
    · exact .inl (by simp)
    · exact .inr ⟨q, by simp⟩
  · have := spl_len (sps i ++ (TL.joinL (sps (k + 1)) (wrow d) ++ sps j)) []
    simp only [List.length_append, lsp] at this
    omega
  · show nW _ = _
    rw [nW_sps]
    exact nW_join w1 fun w hw => ⟨fun q => ((w3 w hw).2.2 32 q).1 rfl, (w3 w hw).2.1⟩
theorem line0 {d : List Str} (h : RowG d) : LineOk (lineC d) (wrow d) := by
  have := line_ok (i := 0) (k := 0) (j := 0) (r := []) h (by omega) (by omega) (by omega) (.inl rfl) (by simp) (by simp)
  simpa [lineC, sps] using this
theorem join_nil : ∀ ps : List (List Nat), TL.joinL [] ps = ps.flatten
  | [] => rfl
  | [p] => by simp [TL.joinL]
  | p :: q :: r => by
    show p ++ ([] ++ TL.joinL [] (q :: r)) = _
    rw [join_nil (q :: r)]
    simp
theorem plain_tl (ds : List (List Str)) : TL.tl (plainS ds) = flatL (ds.map fun d => (lineC d, wrow d)) := by
  unfold plainS flatL
  rw [TL.tl_join, show TL.tl ("" : Str) = [] from rfl, join_nil]
  congr 1
  simp only [List.map_map]
  refine List.map_congr_left fun d _ => ?_
  show TL.tl (lineS (d)) = lineC d ++ [10]
  unfold lineS lineC wrow
  rw [TL.tl_append, TL.tl_join]
  rfl
theorem nonE2_rows : ∀ {ds : List (List Str)}, (∀ d ∈ ds, RowG d) → nonE2 (ds.map wrow) = ds.map wrow
  | [], _ => rfl
  | d :: ds, h => by
    have h1 := (row_words (h d (by simp))).1
    have h2 := nonE2_rows fun x hx => h x (List.mem_cons_of_mem _ hx)
    unfold nonE2 at *
    simp [h1]
    simpa using h2
theorem tells_plain {ds : List (List Str)} (h : RowsG ds) : TellsR (plainS ds) (ds.map wrow) := by
  have hm : ∀ d ∈ ds, RowG d := h.ok
  have hi := h.hi
  refine tells_of (plain_tl ds) (fun p hp => ?_) (by simp; omega) ?_
  · obtain ⟨d, hd, rfl⟩ := List.mem_map.mp hp
    exact line0 (hm d hd)
  · rw [List.map_map]
    exact nonE2_rows hm
end
end Law
end
section
namespace Law
open PySem PySem.Spec L2 J
local macro_rules | `(tactic| walk_at "jstep") => `(tactic| first
  | (with_reducible refine wp_seq ?_) | (with_reducible refine fq_next ?_) | (with_reducible refine fq_ret ?_) | (with_reducible refine rq_ret ?_) | (with_reducible refine wp_cons ?_) | (with_reducible refine wp_nil ?_)
  | (with_reducible refine wp_pure ?_) | (with_reducible refine wp_op ?_) | (with_reducible refine wp_fn ?_) | (with_reducible refine wp_bi ?_) | (with_reducible refine wp_tup ?_) | (with_reducible refine wp_lst ?_)
  | (with_reducible refine wp_set ?_) | (with_reducible refine wp_ret ?_) | (with_reducible refine wp_if ?_) | (with_reducible refine wp_cmp ?_) | (with_reducible refine wp_not ?_) | (with_reducible refine wp_and ?_)
  | (with_reducible refine wp_or ?_) | (with_reducible refine wp_un ?_) | (with_reducible refine wp_tst ?_) | (with_reducible refine wp_true ?_) | (with_reducible refine wp_isNT ?_) | (with_reducible refine wp_notNT ?_)
  | (with_reducible refine wp_ownS ?_) | (with_reducible refine wp_asg ?_) | (with_reducible refine wp_par ?_) | (with_reducible refine wp_parO ?_) | (with_reducible refine wp_biN ?_) | (with_reducible refine wp_it ?_)
  | (with_reducible refine wp_isi ?_) | (with_reducible refine wp_isiC ?_) | (with_reducible refine wp_sl ?_) | (with_reducible refine wp_slN ?_) | (with_reducible refine wp_bd ?_) | (with_reducible refine wp_addN ?_)
  | (with_reducible refine wp_sm ?_) | (with_reducible refine wp_smN ?_) | (with_reducible refine wp_for ?_) | (with_reducible refine wp_comp ?_) | (with_reducible refine wp_cmp2 ?_) | (with_reducible refine wp_for_nil ?_)
  | (with_reducible refine wp_compN ?_) | (with_reducible refine lq_next ?_) | (with_reducible refine lq_ret ?_) | (with_reducible refine wp_rep ?_) | ((with_reducible apply wp_val); · rfl) | ((with_reducible apply wp_own); · rfl)
  | (with_reducible refine wp_fmt ?_) | (with_reducible refine wp_joinsN ?_) | (with_reducible refine wp_joinsC ?_) | (with_reducible refine wp_oNew ?_) | (with_reducible refine wp_oIx ?_) | (with_reducible refine wp_oTup ?_) | (with_reducible refine wp_oLen ?_)
  | (with_reducible refine wp_oRev ?_) | (with_reducible refine wp_oApp ?_) | (with_reducible refine wp_oPop ?_) | (with_reducible refine wp_oIns ?_) | (with_reducible refine wp_oSet ?_) | (with_reducible refine wp_par3 ?_) | (with_reducible refine wp_sort ?_) | (with_reducible refine wp_rev ?_)
  | (with_reducible refine J.wp_andV ?_) | (with_reducible refine wp_orV ?_) | (with_reducible refine wp_notV ?_) | (with_reducible refine wp_isNM ?_) | (with_reducible refine wp_notNM ?_) | (with_reducible refine wp_chain ?_) | (with_reducible refine wp_tabI ?_) | (with_reducible refine wp_tabT ?_)
  | (with_reducible refine wp_tabX ?_) | (with_reducible refine wp_expr ?_)
  | ((with_reducible apply wp_then); · rfl) | ((with_reducible apply wp_else); · rfl) | ((with_reducible apply wp_lenO); · rfl) | ((with_reducible apply wp_lenV); · rfl) | ((with_reducible apply wp_app); · rfl) | ((with_reducible apply wp_for_cons); · rfl)
  | ((with_reducible apply wp_compC); · rfl) | ((with_reducible apply ex_two); · rfl) | (with_reducible refine wp_of ?_) | (with_reducible refine wp_bind ?_) | ((with_reducible refine ⟨?_, ?_⟩); · exact of_decide_eq_true rfl))

section
variable {S : List MO} {n : Nat}
theorem flatL_add {ls : Lns} {l : List Nat} {r : List (List Nat)} : flatL (ls ++ [(l, r)]) = flatL ls ++ (l ++ [10]) := by
  unfold flatL
  simp
theorem flatL_len : ∀ {ls : Lns}, (∀ p ∈ ls, LineOk p.1 p.2) → (flatL ls).length ≤ 1001 * ls.length
  | [], _ => by simp [flatL]
  | p :: ls, h => by
    have h1 := (h p (by simp)).2.1
    have h2 := flatL_len (ls := ls) fun x hx => h x (List.mem_cons_of_mem _ hx)
    unfold flatL at *
    simp only [List.map_cons, List.flatten_cons, List.length_append, List.length_cons, List.length_nil] at *
    omega
theorem lines_add {ls : Lns} {l : List Nat} {r : List (List Nat)} (h : ∀ p ∈ ls, LineOk p.1 p.2) (hl : LineOk l r) : ∀ p ∈ ls ++ [(l, r)], LineOk p.1 p.2 := fun p hp => by
  rcases List.mem_append.mp hp with hp | hp
  · exact h p hp
  · rw [List.mem_singleton.mp hp]; exact hl
def extras : List D := [.str "\n", .str "  \n", .str "# begin\n", .str " #\n", .str "#hand\n"]
theorem extra_ok {d : D} (h : d ∈ extras) : ∃ x l, d = .str x ∧ TL.tl x = l ++ [10] ∧ x.length ≤ 10 ∧ LineOk l [] := by
  unfold extras at h
  simp only [List.mem_cons, List.not_mem_nil, or_false] at h
  rcases h with rfl | rfl | rfl | rfl | rfl
  · exact ⟨_, [], rfl, rfl, by decide, empty_ok⟩
  · exact ⟨_, [32, 32], rfl, rfl, by decide, by simp, by simp, [32, 32], by simp, .inl rfl, by decide, rfl⟩
  · exact ⟨_, [35, 32, 98, 101, 103, 105, 110], rfl, rfl, by decide, by simp, by simp, [], by simp, .inr ⟨_, rfl⟩, by decide, rfl⟩
  · exact ⟨_, [32, 35], rfl, rfl, by decide, by simp, by simp, [32], by simp, .inr ⟨[], rfl⟩, by decide, rfl⟩
  · exact ⟨_, [35, 104, 97, 110, 100], rfl, rfl, by decide, by simp, by simp, [], by simp, .inr ⟨_, rfl⟩, by decide, rfl⟩
theorem blank_ok {d : D} (h : d ∈ [D.str " ", .str " ", .str "  ", .str "   "]) : ∃ x k, d = .str x ∧ TL.tl x = sps (k + 1) ∧ x.length ≤ 10 ∧ k ≤ 9 := by
  simp only [List.mem_cons, List.not_mem_nil, or_false] at h
  rcases h with rfl | rfl | rfl | rfl
  · exact ⟨_, 0, rfl, rfl, by decide, by decide⟩
  · exact ⟨_, 0, rfl, rfl, by decide, by decide⟩
  · exact ⟨_, 1, rfl, rfl, by decide, by decide⟩
  · exact ⟨_, 2, rfl, rfl, by decide, by decide⟩
theorem pre_ok {d : D} (h : d ∈ [D.str "", .str "", .str " ", .str "  "]) : ∃ x k, d = .str x ∧ TL.tl x = sps k ∧ x.length ≤ 10 ∧ k ≤ 9 := by
  simp only [List.mem_cons, List.not_mem_nil, or_false] at h
  rcases h with rfl | rfl | rfl | rfl
  · exact ⟨_, 0, rfl, rfl, by decide, by decide⟩
  · exact ⟨_, 0, rfl, rfl, by decide, by decide⟩
  · exact ⟨_, 1, rfl, rfl, by decide, by decide⟩
  · exact ⟨_, 2, rfl, rfl, by decide, by decide⟩
theorem tail_ok {d : D} (h : d ∈ [D.str "", .str "", .str " ", .str "#", .str " # x", .str "# 4 any", .str "##"]) : ∃ x j r, d = .str x ∧ TL.tl x = sps j ++ r ∧ x.length ≤ 10 ∧ j ≤ 9 ∧ (r = [] ∨ ∃ q, r = 35 :: q) ∧ 10 ∉ r ∧ r.length ≤ 20 := by
  simp only [List.mem_cons, List.not_mem_nil, or_false] at h
  rcases h with rfl | rfl | rfl | rfl | rfl | rfl | rfl
  · exact ⟨_, 0, [], rfl, rfl, by decide, by decide, .inl rfl, by simp, by simp⟩
  · exact ⟨_, 0, [], rfl, rfl, by decide, by decide, .inl rfl, by simp, by simp⟩
  · exact ⟨_, 1, [], rfl, rfl, by decide, by decide, .inl rfl, by simp, by simp⟩
  · exact ⟨_, 0, [35], rfl, rfl, by decide, by decide, .inr ⟨_, rfl⟩, by simp, by simp⟩
  · exact ⟨_, 1, [35, 32, 120], rfl, rfl, by decide, by decide, .inr ⟨_, rfl⟩, by simp, by simp⟩
  · exact ⟨_, 0, [35, 32, 52, 32, 97, 110, 121], rfl, rfl, by decide, by decide, .inr ⟨_, rfl⟩, by simp, by simp⟩
  · exact ⟨_, 0, [35, 35], rfl, rfl, by decide, by decide, .inr ⟨_, rfl⟩, by simp, by simp⟩
/-- what has been written -/
structure Wr (z : Str) (ls : Lns) (d1 : List (List Str)) : Prop where
  tl : TL.tl z = flatL ls
  ok : ∀ p ∈ ls, LineOk p.1 p.2
  hi : ls.length ≤ 2 * d1.length
  rs : nonE2 (ls.map (·.2)) = d1.map wrow
theorem Wr.len {z : Str} {ls : Lns} (h1 : TL.tl z = flatL ls) (h2 : ∀ p ∈ ls, LineOk p.1 p.2) (h : ls.length ≤ 900) : z.length ≤ 1000000 := by
  have := flatL_len h2
  rw [len_tl, h1]
  omega
theorem nonE2_add {l : List (List (List Nat))} {r : List (List Nat)} : nonE2 (l ++ [r]) = nonE2 l ++ (if r = [] then [] else [r]) := by
  unfold nonE2
  rw [List.filter_append]
  congr 1
  by_cases h : r = []
  · simp [h]
  · simp [h]
end
end Law
end
section
namespace Law
open PySem PySem.Spec L2 J
local macro_rules | `(tactic| walk_at "jstep") => `(tactic| first
  | (with_reducible refine wp_seq ?_) | (with_reducible refine fq_next ?_) | (with_reducible refine fq_ret ?_) | (with_reducible refine rq_ret ?_) | (with_reducible refine wp_cons ?_) | (with_reducible refine wp_nil ?_)
  | (with_reducible refine wp_pure ?_) | (with_reducible refine wp_op ?_) | (with_reducible refine wp_fn ?_) | (with_reducible refine wp_bi ?_) | (with_reducible refine wp_tup ?_) | (with_reducible refine wp_lst ?_)
  | (with_reducible refine wp_set ?_) | (with_reducible refine wp_ret ?_) | (with_reducible refine wp_if ?_) | (with_reducible refine wp_cmp ?_) | (with_reducible refine wp_not ?_) | (with_reducible refine wp_and ?_)
  | (with_reducible refine wp_or ?_) | (with_reducible refine wp_un ?_) | (with_reducible refine wp_tst ?_) | (with_reducible refine wp_true ?_) | (with_reducible refine wp_isNT ?_) | (with_reducible refine wp_notNT ?_)
  | (with_reducible refine wp_ownS ?_) | (with_reducible refine wp_asg ?_) | (with_reducible refine wp_par ?_) | (with_reducible refine wp_parO ?_) | (with_reducible refine wp_biN ?_) | (with_reducible refine wp_it ?_)
  | (with_reducible refine wp_isi ?_) | (with_reducible refine wp_isiC ?_) | (with_reducible refine wp_sl ?_) | (with_reducible refine wp_slN ?_) | (with_reducible refine wp_bd ?_) | (with_reducible refine wp_addN ?_)
  | (with_reducible refine wp_sm ?_) | (with_reducible refine wp_smN ?_) | (with_reducible refine wp_for ?_) | (with_reducible refine wp_comp ?_) | (with_reducible refine wp_cmp2 ?_) | (with_reducible refine wp_for_nil ?_)
  | (with_reducible refine wp_compN ?_) | (with_reducible refine lq_next ?_) | (with_reducible refine lq_ret ?_) | (with_reducible refine wp_rep ?_) | ((with_reducible apply wp_val); · rfl) | ((with_reducible apply wp_own); · rfl)
  | (with_reducible refine wp_fmt ?_) | (with_reducible refine wp_joinsN ?_) | (with_reducible refine wp_joinsC ?_) | (with_reducible refine wp_oNew ?_) | (with_reducible refine wp_oIx ?_) | (with_reducible refine wp_oTup ?_) | (with_reducible refine wp_oLen ?_)
  | (with_reducible refine wp_oRev ?_) | (with_reducible refine wp_oApp ?_) | (with_reducible refine wp_oPop ?_) | (with_reducible refine wp_oIns ?_) | (with_reducible refine wp_oSet ?_) | (with_reducible refine wp_par3 ?_) | (with_reducible refine wp_sort ?_) | (with_reducible refine wp_rev ?_)
  | (with_reducible refine J.wp_andV ?_) | (with_reducible refine wp_orV ?_) | (with_reducible refine wp_notV ?_) | (with_reducible refine wp_isNM ?_) | (with_reducible refine wp_notNM ?_) | (with_reducible refine wp_chain ?_) | (with_reducible refine wp_tabI ?_) | (with_reducible refine wp_tabT ?_)
  | (with_reducible refine wp_tabX ?_) | (with_reducible refine wp_expr ?_)
  | ((with_reducible apply wp_then); · rfl) | ((with_reducible apply wp_else); · rfl) | ((with_reducible apply wp_lenO); · rfl) | ((with_reducible apply wp_lenV); · rfl) | ((with_reducible apply wp_app); · rfl) | ((with_reducible apply wp_for_cons); · rfl)
  | ((with_reducible apply wp_compC); · rfl) | ((with_reducible apply ex_two); · rfl) | (with_reducible refine wp_of ?_) | (with_reducible refine wp_bind ?_) | ((with_reducible refine ⟨?_, ?_⟩); · exact of_decide_eq_true rfl))

section
variable {S : List MO} {n : Nat}
theorem reprC_ok : ([34, 39].all fun q => (List.range 128).all fun c => (Builtin.Str.reprChar q c).all fun x => decide (x < 1114112)) = true := by decide +kernel
theorem fold_ok {q : Nat} (hq : q = 34 ∨ q = 39) : ∀ (l : List Nat) (acc : Array Nat), (∀ c ∈ l, c < 128) → (∀ c ∈ acc.toList, c < 1114112) → ∀ c ∈ (l.foldl (fun out c => out ++ (Builtin.Str.reprChar q c).toArray) acc).toList, c < 1114112
  | [], acc, _, h => h
  | x :: l, acc, hl, h => by
    refine fold_ok hq l _ (fun c hc => hl c (List.mem_cons_of_mem _ hc)) fun c hc => ?_
    have hx := hl x (by simp)
    have := List.all_eq_true.mp reprC_ok q (by simpa using hq)
    have := List.all_eq_true.mp this x (List.mem_range.mpr hx)
    rw [Array.toList_append] at hc
    rcases List.mem_append.mp hc with hc | hc
    · exact h c hc
    · exact of_decide_eq_true (List.all_eq_true.mp this c hc)
theorem repr_ok {x : Str} (h : ∀ c ∈ TL.tl x, c < 128) : PyData.strOk (reprText x) = true := by
  have hq : reprQuote x = 34 ∨ reprQuote x = 39 := by
    unfold reprQuote
    split
    · exact .inl rfl
    · exact .inr rfl
  refine strOk_iff.mpr fun c hc => ?_
  have hc : c ∈ ((x.cps.foldl (fun out c => out ++ (Builtin.Str.reprChar (reprQuote x) c).toArray) #[reprQuote x]).push (reprQuote x)).toList := hc
  rw [Array.toList_push, ← Array.foldl_toList] at hc
  rcases List.mem_append.mp hc with hc | hc
  · refine fold_ok hq _ _ h (fun c hc => ?_) c hc
    have : c = reprQuote x := by simpa using hc
    omega
  · rw [List.mem_singleton.mp hc]
    omega
theorem text_from_ok : ∀ (ts : List Str) (k : Nat) (acc : Str), (∀ t ∈ ts, PyData.strOk t = true) → PyData.strOk acc = true → PyData.strOk (textFrom k acc ts) = true
  | [], k, acc, _, h => h
  | t :: ts, k, acc, ht, h => by
    refine text_from_ok ts (k + 1) _ (fun t h => ht t (List.mem_cons_of_mem _ h)) (strOk_append (strOk_append h ?_) (ht t (by simp)))
    split <;> decide +kernel
theorem join_str_ok : ∀ (ts : List Str), (∀ t ∈ ts, PyData.strOk t = true) → PyData.strOk (Str.join ", " ts) = true := fun ts h => by
  refine strOk_iff.mpr fun c hc => ?_
  rw [TL.tl_join] at hc
  rcases join_mem hc with hc | ⟨p, hp, hc⟩
  · have hc : c ∈ [44, 32] := hc
    simp at hc
    omega
  · obtain ⟨t, ht, rfl⟩ := List.mem_map.mp hp
    exact strOk_iff.mp (h t ht) c hc
mutual
def ascD : PyData → Bool
  | .none => true
  | .bool _ => true
  | .int i => decide (0 ≤ i ∧ i ≤ 12)
  | .str x => x.cps.toList.all fun c => decide (c < 128)
  | .list xs => ascDs xs
  | .tuple xs => ascDs xs
  | .dict _ => false
def ascDs : List PyData → Bool
  | [] => true
  | x :: xs => ascD x && ascDs xs
end
theorem small {i : Int} (h : 0 ≤ i ∧ i ≤ 12) {P : Int → Prop} (hp : ∀ k : Nat, k < 13 → P (k : Int)) : P i := by
  have := hp i.toNat (by omega)
  rwa [Int.toNat_of_nonneg h.1] at this
structure Fine (d : PyData) : Prop where
  shows : d.showable = true
  ok : PyData.strOk d.shown = true
  nod : d.hasDict = false
  pl : PyData.eqv d d = true
  ls : d.leavesShort 13 = true
mutual
theorem fine : ∀ {d : PyData}, ascD d = true → Fine d
  | .none, _ => ⟨rfl, by decide +kernel, rfl, by simp [PyData.eqv], rfl⟩
  | .bool b, _ => ⟨rfl, by cases b <;> decide +kernel, rfl, by simp [PyData.eqv], rfl⟩
  | .int i, h => by
    have h : 0 ≤ i ∧ i ≤ 12 := of_decide_eq_true h
    refine ⟨?_, ?_, rfl, by simp [PyData.eqv], ?_⟩
    · exact small h (P := fun i => (PyData.int i).showable = true) (by decide +kernel)
    · exact small h (P := fun i => PyData.strOk (PyData.int i).shown = true) (by decide +kernel)
    · exact small h (P := fun i => (PyData.int i).leavesShort 13 = true) (by decide +kernel)
  | .str x, h => by
    have h : ∀ c ∈ TL.tl x, c < 128 := fun c hc => of_decide_eq_true (List.all_eq_true.mp h c hc)
    refine ⟨rfl, ?_, rfl, by simp [PyData.eqv], ?_⟩
    · rw [PyData.shown_str]
      exact repr_ok h
    · exact List.all_eq_true.mpr fun c hc => decide_eq_true (Nat.lt_of_lt_of_le (h c hc) (by decide))
  | .list xs, h => by
    obtain ⟨h1, h2, h3, h4, h5⟩ := fines (xs := xs) h
    exact ⟨h1, strOk_append (text_from_ok _ _ _ h2 (by decide +kernel)) (by decide +kernel), h3, by rw [PyData.eqv]; exact h4, h5⟩
  | .tuple xs, h => by
    obtain ⟨h1, h2, h3, h4, h5⟩ := fines (xs := xs) h
    refine ⟨h1, strOk_append (strOk_append (by decide +kernel) (join_str_ok _ h2)) ?_, h3, by rw [PyData.eqv]; exact h4, h5⟩
    split <;> decide +kernel
  | .dict _, h => nomatch h
theorem fines : ∀ {xs : List PyData}, ascDs xs = true → PyData.showableAll xs = true ∧ (∀ t ∈ PyData.shownAll xs, PyData.strOk t = true) ∧ PyData.hasDictAll xs = false ∧ PyData.eqvAll xs xs = true ∧ PyData.leavesShortAll 13 xs = true
  | [], _ => ⟨rfl, (fun _ h => nomatch h), rfl, by simp [PyData.eqvAll], rfl⟩
  | x :: xs, h => by
    obtain ⟨h1, h2⟩ := Bool.and_eq_true_iff.mp (show (ascD x && ascDs xs) = true from h)
    obtain ⟨a1, a2, a3, a4, a5⟩ := fine h1
    obtain ⟨b1, b2, b3, b4, b5⟩ := fines h2
    refine ⟨by simp [PyData.showableAll, a1, b1], fun t ht => ?_, by simp [PyData.hasDictAll, a3, b3], by simp [PyData.eqvAll, a4, b4], by simp [PyData.leavesShortAll, a5, b5]⟩
    rcases List.mem_cons.mp (show t ∈ x.shown :: PyData.shownAll xs from ht) with rfl | ht
    · exact a2
    · exact b2 t ht
end
theorem eq_same {d : D} {q : PyData} (hp : D.py d = some q) (ha : PyData.eqv q q = true) (hd : q.depth ≤ 40) : dEq d d = some (.bl true) := by
  unfold dEq eqD
  rw [hp]
  simp only [Option.bind_some]
  rw [if_pos ⟨by omega, by omega⟩, ha]
  rfl
theorem rep_some {d : D} {q : PyData} (hp : D.py d = some q) (ha : ascD q = true) (hd : q.depth ≤ 40) (hw : q.weight ≤ 100000) : dRep d = some (.str q.shown) := by
  have f := fine ha
  have := PyData.shown_le 13 (by decide) q f.ls
  unfold dRep
  rw [hp]
  simp only [Option.bind_some]
  rw [if_pos ⟨f.shows, hd, by omega, f.ok, f.nod⟩]
theorem repA_str {z : Str} (ha : ascD (.str z) = true) (hw : (PyData.str z).weight ≤ 100000) : repA (.str z) = some (.str (reprText z)) := by
  have h := rep_some (d := .str z) (q := .str z) rfl ha (by simp [PyData.depth]) hw
  unfold dRep at h
  have e : D.py (.str z) = some (.str z) := rfl
  rw [e] at h
  simp only [Option.bind_some] at h
  split at h
  · rename_i hc
    have e2 : (PyData.str z).shown = reprText z := by simp [PyData.shown]
    rw [e2] at hc
    show (if (reprText z).length ≤ 16777216 ∧ PyData.strOk (reprText z) = true then some (D.str (reprText z)) else none) = _
    rw [if_pos ⟨hc.2.2.1, hc.2.2.2.1⟩]
  · cases h
theorem same_ok {d : D} {z : Str} (h : repA d = some (.str z)) : Wf f__law_same [d, d] S fun r S' => r = .bl true ∧ S' = S := by
  refine wf_run ?_
  unfold m__law_same
  refine wp_ret (wp_op (wp_repA (wp_val rfl ⟨_, h, wp_repA (wp_val rfl ⟨_, h, ?_⟩)⟩)))
  refine ⟨_, eq_same (q := .str z) rfl (by simp [PyData.eqv]) (by simp [PyData.depth]), ?_⟩
  exact ⟨rfl, rfl⟩
end
end Law
end
section
namespace Law
open PySem PySem.Spec L2 J
local macro_rules | `(tactic| walk_at "jstep") => `(tactic| first
  | (with_reducible refine wp_seq ?_) | (with_reducible refine fq_next ?_) | (with_reducible refine fq_ret ?_) | (with_reducible refine rq_ret ?_) | (with_reducible refine wp_cons ?_) | (with_reducible refine wp_nil ?_)
  | (with_reducible refine wp_pure ?_) | (with_reducible refine wp_op ?_) | (with_reducible refine wp_fn ?_) | (with_reducible refine wp_bi ?_) | (with_reducible refine wp_tup ?_) | (with_reducible refine wp_lst ?_)
  | (with_reducible refine wp_set ?_) | (with_reducible refine wp_ret ?_) | (with_reducible refine wp_if ?_) | (with_reducible refine wp_cmp ?_) | (with_reducible refine wp_not ?_) | (with_reducible refine wp_and ?_)
  | (with_reducible refine wp_or ?_) | (with_reducible refine wp_un ?_) | (with_reducible refine wp_tst ?_) | (with_reducible refine wp_true ?_) | (with_reducible refine wp_isNT ?_) | (with_reducible refine wp_notNT ?_)
  | (with_reducible refine wp_ownS ?_) | (with_reducible refine wp_asg ?_) | (with_reducible refine wp_par ?_) | (with_reducible refine wp_parO ?_) | (with_reducible refine wp_biN ?_) | (with_reducible refine wp_it ?_)
  | (with_reducible refine wp_isi ?_) | (with_reducible refine wp_isiC ?_) | (with_reducible refine wp_sl ?_) | (with_reducible refine wp_slN ?_) | (with_reducible refine wp_bd ?_) | (with_reducible refine wp_addN ?_)
  | (with_reducible refine wp_sm ?_) | (with_reducible refine wp_smN ?_) | (with_reducible refine wp_for ?_) | (with_reducible refine wp_comp ?_) | (with_reducible refine wp_cmp2 ?_) | (with_reducible refine wp_for_nil ?_)
  | (with_reducible refine wp_compN ?_) | (with_reducible refine lq_next ?_) | (with_reducible refine lq_ret ?_) | (with_reducible refine wp_rep ?_) | ((with_reducible apply wp_val); · rfl) | ((with_reducible apply wp_own); · rfl)
  | (with_reducible refine wp_fmt ?_) | (with_reducible refine wp_joinsN ?_) | (with_reducible refine wp_joinsC ?_) | (with_reducible refine wp_oNew ?_) | (with_reducible refine wp_oIx ?_) | (with_reducible refine wp_oTup ?_) | (with_reducible refine wp_oLen ?_)
  | (with_reducible refine wp_oRev ?_) | (with_reducible refine wp_oApp ?_) | (with_reducible refine wp_oPop ?_) | (with_reducible refine wp_oIns ?_) | (with_reducible refine wp_oSet ?_) | (with_reducible refine wp_par3 ?_) | (with_reducible refine wp_sort ?_) | (with_reducible refine wp_rev ?_)
  | (with_reducible refine J.wp_andV ?_) | (with_reducible refine wp_orV ?_) | (with_reducible refine wp_notV ?_) | (with_reducible refine wp_isNM ?_) | (with_reducible refine wp_notNM ?_) | (with_reducible refine wp_chain ?_) | (with_reducible refine wp_tabI ?_) | (with_reducible refine wp_tabT ?_)
  | (with_reducible refine wp_tabX ?_) | (with_reducible refine wp_expr ?_)
  | ((with_reducible apply wp_then); · rfl) | ((with_reducible apply wp_else); · rfl) | ((with_reducible apply wp_lenO); · rfl) | ((with_reducible apply wp_lenV); · rfl) | ((with_reducible apply wp_app); · rfl) | ((with_reducible apply wp_for_cons); · rfl)
  | ((with_reducible apply wp_compC); · rfl) | ((with_reducible apply ex_two); · rfl) | (with_reducible refine wp_of ?_) | (with_reducible refine wp_bind ?_) | ((with_reducible refine ⟨?_, ?_⟩); · exact of_decide_eq_true rfl))

section
variable {S ρ : List MO} {n : Nat}
theorem EdOk.b {ps : List Int} (h : EdOk ps) : EdB ps := ⟨h.1, h.2.1, fun m hm => by
  rcases h.2.2 m hm with rfl | rfl | rfl | rfl <;> decide⟩
mutual
theorem thaw_bd {n : Nat} {l : List D} : ∀ {d : D}, d.bd n = true → d.thaw1 n l = d
  | .tup xs, e => by simp only [D.bd] at e; simp only [D.thaw1, thaws_bd e]
  | .lst xs, e => by simp only [D.bd] at e; simp only [D.thaw1, thaws_bd e]
  | .rls xs, e => by simp only [D.bd] at e; simp only [D.thaw1, thaws_bd e]
  | .ins c fs, e => by simp only [D.bd] at e; simp only [D.thaw1, thawf_bd e]
  | .exc c fs, e => by simp only [D.thaw1]
  | .obj i, e => by
    simp only [D.bd, decide_eq_true_eq] at e
    simp only [D.thaw1, if_neg (Nat.ne_of_lt e)]
  | .non, e => by simp only [D.thaw1]
  | .bl b, e => by simp only [D.thaw1]
  | .int i, e => by simp only [D.thaw1]
  | .str x, e => by simp only [D.thaw1]
theorem thaws_bd {n : Nat} {l : List D} : ∀ {d : List D}, D.bds n d = true → D.thaws n l d = d
  | [], e => by simp only [D.thaws]
  | x :: xs, e => by
    simp only [D.bds, Bool.and_eq_true] at e
    simp only [D.thaws, thaw_bd e.1, thaws_bd e.2]
theorem thawf_bd {n : Nat} {l : List D} : ∀ {d : List (Str × D)}, D.bdf n d = true → D.thawf n l d = d
  | [], e => by simp only [D.thawf]
  | (_, x) :: xs, e => by
    simp only [D.bdf, Bool.and_eq_true] at e
    simp only [D.thawf, thaw_bd e.1, thawf_bd e.2]
end
theorem DeckOk.len (h : DeckOk ρ S n) : S.length = ρ.length + 1 := by
  obtain ⟨c, all, t, rfl, _⟩ := h
  rfl
theorem DeckOk.add {m : MO} (h : DeckOk ρ S n) : DeckOk (ρ ++ [m]) (S ++ [m]) n := by
  obtain ⟨c, all, t, rfl, r⟩ := h
  exact ⟨c, all, t, rfl, r⟩
theorem DeckOk.last {m : MO} (h : DeckOk (ρ ++ [m]) S n) : S[ρ.length + 1]? = some m := by
  obtain ⟨c, all, t, rfl, r⟩ := h
  simp
theorem DeckOk.put {m k : MO} (h : DeckOk (ρ ++ [m]) S n) : DeckOk (ρ ++ [k]) (S.set (ρ.length + 1) k) n := by
  obtain ⟨c, all, t, rfl, r⟩ := h
  exact ⟨c, all, t, by simp, r⟩
theorem DeckOk.cut {m : MO} (h : DeckOk (ρ ++ [m]) S n) : ∃ S1, S = S1 ++ [m] ∧ DeckOk ρ S1 n := by
  obtain ⟨c, all, t, rfl, r⟩ := h
  exact ⟨_, rfl, c, all, t, rfl, r⟩
theorem DeckOk.le {m : Nat} (h : DeckOk ρ S m) (hm : n ≤ m) : DeckOk ρ S n := DeckOk.less (m := m - n) (by rw [show n + (m - n) = m by omega]; exact h)
theorem DeckOk.bd {k : Nat} (h : DeckOk ρ S n) (hρ : (ρ.all fun m => m.bd k) = true) : (S.all fun m => m.bd k) = true := by
  obtain ⟨c, all, t, rfl, r⟩ := h
  rw [List.all_cons, hρ]
  rfl
structure CaseOk (hs : List (List D)) (fs : List Int) (ws : List (List Int)) : Prop where
  h1 : 1 ≤ hs.length
  h2 : hs.length ≤ 2
  hg : ∀ h ∈ hs, Good h
  f4 : fs.length = 4
  fb : ∀ f ∈ fs, 0 ≤ f ∧ f ≤ 3
  w4 : ws.length ≤ 4
  wa : Asc ws
  we : ∀ w ∈ ws, EdOk w
def dataD (hs : List (List D)) (fs : List Int) (ws : List (List Int)) (fr : Bool) : D := .lst [.lst (hs.map D.tup), .tup (fs.map .int), .tup (ws.map edD), .bl fr]
theorem range_some {k : Int} (h0 : 0 ≤ k) (h1 : k < 1000000) : dRange1 [D.int k] = some (dints 0 k.toNat) := by
  unfold dRange1
  simp only
  rw [if_pos (by omega)]
theorem dints_len {k : Nat} : (dints 0 k).length = k := by simp [dints]
theorem edl_map : ∀ {ws : List (List Int)}, (∀ w ∈ ws, EdB w) → D.edl (ws.map edD) = some ws
  | [], _ => rfl
  | w :: ws, h => by
    show ((D.ints (w.map D.int)).bind fun ns => if EdB ns then (D.edl (ws.map edD)).map (ns :: ·) else none) = _
    rw [ints_map, edl_map fun v hv => h v (List.mem_cons_of_mem _ hv)]
    show (if EdB w then _ else none) = _
    rw [if_pos (h w (by simp))]
    rfl
theorem sort_some {ws : List (List Int)} (h : ∀ w ∈ ws, EdB w) (hl : ws.length < 64) : dSortSet [.lst (ws.map edD)] = some ((srt ws).map edD) := by
  unfold dSortSet
  simp only [edl_map h, Option.bind_some]
  rw [if_pos hl]
/-- the editions of the joins of a program -/
theorem joins_of {T : Type} {h : List D} {m : Int} {r : List (Option Sl)} {Q : List D → Sta → Prop} (hh : ∀ d ∈ h, StepOk m d) (hl : h.length ≤ 12) (hr : r[11]? = some none) (hlen : r.length = 13)
    (w : ∀ ws : List (List Int), (∀ w ∈ ws, EdOk w) → ws.length ≤ 12 → Q (ws.map edD) ⟨r, S⟩) :
    Wp (compL [11] (setV 11) (cmpT dEq (opM dIx (getV 11) (pure (.int 0))) (pure (.str "join"))) (opM dIx (getV 11) (pure (.int 1))) [] h) ⟨r, S⟩ Q := by
  refine wp_compI (fun acc ds S' => S' = S ∧ ∃ ws : List (List Int), acc = ws.map edD ∧ (∀ w ∈ ws, EdOk w) ∧ ws.length + ds.length ≤ 12 ∧ ∀ d ∈ ds, StepOk m d) (fun acc S' hi => ?_) (fun acc d ds S' hi => ?_) _ _ _ ⟨rfl, [], rfl, by simp, by simpa using hl, hh⟩
  · obtain ⟨rfl, ws, rfl, h1, h2, h3⟩ := hi
    exact w ws h1 (by simpa using h2)
  · obtain ⟨rfl, ws, rfl, h1, h2, h3⟩ := hi
    have hd := h3 d (by simp)
    have h4 : ∀ x ∈ ds, StepOk m x := fun x hx => h3 x (List.mem_cons_of_mem _ hx)
    simp only [List.length_cons] at h2
    have len : (maskSt [11] ⟨r, S'⟩).r.length = 13 := by simp [maskSt, hlen]
    have e0 : setV 11 d (maskSt [11] ⟨r, S'⟩) = some ((maskSt [11] ⟨r, S'⟩).set 11 (some (.val d))) := by
      unfold setV
      rw [if_pos (by rw [len]; decide)]
    have g0 : ((maskSt [11] ⟨r, S'⟩).set 11 (some (.val d))).r[11]? = some (some (.val d)) := by
      show ((maskSt [11] ⟨r, S'⟩).r.set 11 _)[11]? = _
      rw [List.getElem?_set_self (by rw [len]; decide)]
    refine ⟨_, e0, wp_cmp (wp_op (wp_val g0 (wp_pure ?_)))⟩
    rcases hd with hw | ⟨p, q, rfl, _⟩ | ⟨ps, b, x, rfl, he, hx⟩ | ⟨l, o, rfl, _⟩
    · have : ∃ x : Str, d = .tup [.str x] ∧ (x == ("join" : Str)) = false := by
        simp only [words1, List.mem_cons, List.not_mem_nil, or_false] at hw
        rcases hw with rfl | rfl | rfl | rfl <;> exact ⟨_, rfl, by decide⟩
      obtain ⟨x, rfl, hx⟩ := this
      refine ⟨.str x, rfl, wp_pure ⟨false, by show some (PyData.eqv (.str x) (.str "join")) = _; rw [eqv_str, hx], ?_⟩⟩
      rw [if_neg Bool.false_ne_true]
      exact ⟨rfl, ws, rfl, h1, by omega, h4⟩
    · refine ⟨.str "lay", rfl, wp_pure ⟨false, rfl, ?_⟩⟩
      rw [if_neg Bool.false_ne_true]
      exact ⟨rfl, ws, rfl, h1, by omega, h4⟩
    · refine ⟨.str "join", rfl, wp_pure ⟨true, rfl, ?_⟩⟩
      rw [if_pos rfl]
      refine wp_op (wp_val g0 (wp_pure ⟨edD ps, rfl, rfl, ws ++ [ps], by simp, fun w hw => ?_, by simp; omega, h4⟩))
      rcases List.mem_append.mp hw with hw | hw
      · exact h1 w hw
      · rw [List.mem_singleton.mp hw]
        exact he
    · refine ⟨.str "go", rfl, wp_pure ⟨false, rfl, ?_⟩⟩
      rw [if_neg Bool.false_ne_true]
      exact ⟨rfl, ws, rfl, h1, by omega, h4⟩
theorem minus_take {xs : List (List Int)} : cutD (xs.map edD) none (some 4) = (xs.take 4).map edD := by
  rw [cut_take (by decide), show (4 : Int).toNat = 4 from rfl, List.map_take]
theorem bds_map {α : Type} {f : α → D} {k : Nat} : ∀ {l : List α}, (∀ x ∈ l, (f x).bd k = true) → D.bds k (l.map f) = true
  | [], _ => by simp [D.bds]
  | x :: l, h => by
    rw [List.map_cons, D.bds, h x (by simp), bds_map fun y hy => h y (List.mem_cons_of_mem _ hy)]
    rfl
theorem data_bd {hs : List (List D)} {fs : List Int} {ws : List (List Int)} {fr : Bool} (h : ∀ x ∈ hs, Good x) (k : Nat) : (dataD hs fs ws fr).bd k = true := by
  have h1 : D.bds k (hs.map D.tup) = true := bds_map fun x hx => by
    rw [D.bd]
    exact bds_steps k (h x hx).ok
  have h2 : D.bds k (ws.map edD) = true := bds_map fun x hx => by
    unfold edD
    rw [D.bd]
    exact bds_ints k x
  simp [dataD, D.bd, D.bds, h1, h2, bds_ints]
def four (a b c d : Int) : List D := [.int a, .int b, .int c, .int d]
theorem data_ok {hands most faults : Int} (a0 : 1 ≤ hands) (a1 : hands ≤ 2) (b0 : 1 ≤ most) (b1 : most ≤ 12) (c0 : 0 ≤ faults) (c1 : faults ≤ 50) (hρ : (ρ.all fun m => m.bd (ρ.length + 1)) = true) (h : DeckOk ρ S (n + 1000)) :
    Wf f__law_data [.obj 0, .int hands, .int most, .int faults] S fun d S' => DeckOk ρ S' n ∧ ∃ hs fs ws fr, d = dataD hs fs ws fr ∧ CaseOk hs fs ws ∧ (hs.length : Int) = hands ∧ ∀ x ∈ hs, (x.length : Int) ≤ most := by
  have hSl := h.len
  refine wf_runT ?_
  unfold m__law_data
  repeat walk_at "jstep"
  refine ⟨_, range_some (by omega) (by omega), by rw [dints_len]; omega, ?_⟩
  refine wp_compI (fun acc ds S => ∃ hs : List (List D), acc = hs.map D.tup ∧ (∀ x ∈ hs, Good x ∧ (x.length : Int) ≤ most) ∧ hs.length + ds.length = hands.toNat ∧ DeckOk ρ S (n + 500 + 200 * ds.length)) (fun acc S hi => ?_) (fun acc d ds S hi => ?_) _ _ _ ⟨[], rfl, by simp, by rw [dints_len]; simp, h.le (by rw [dints_len]; omega)⟩
  · obtain ⟨hs, rfl, h1, h2, h3⟩ := hi
    simp only [List.length_nil, Nat.add_zero, Nat.mul_zero] at h2 h3
    repeat walk_at "jstep"
    have h9 := edition_ok (ρ := ρ ++ [.lst (four 0 0 0 0)]) (n := n + 496) h3.add
    have e9 : (S ++ [MO.lst [D.int 0, D.int 0, D.int 0, D.int 0]]) = S ++ [MO.lst (four 0 0 0 0)] := rfl
    dsimp only
    rw [e9]
    refine Wf.imp h9 fun d S2 ⟨h4, ps, e, he⟩ => ?_
    subst e
    repeat walk_at "jstep"
    refine ⟨_, range_some c0 (by omega), ?_⟩
    have hlen := h3.len
    rw [hlen]
    refine wp_forI (fun ds st => ∃ x7 x8 a b c d S3, st = ⟨[some (.val (.obj 0)), some (.val (.int hands)), some (.val (.int most)), some (.val (.int faults)), some (.val (.lst (hs.map D.tup))), some (.val (.obj (ρ.length + 1))), some (.val (.lst [edD ps])), x7, x8, none, none, none, none], S3⟩ ∧ DeckOk (ρ ++ [.lst (four a b c d)]) S3 (n + 100 + ds.length) ∧ (0 ≤ a ∧ a ≤ 3) ∧ (0 ≤ b ∧ b ≤ 3) ∧ (0 ≤ c ∧ c ≤ 3) ∧ (0 ≤ d ∧ d ≤ 3))
      (fun st hi => ?_) (fun d ds st hi => ?_) _ _ ⟨none, none, 0, 0, 0, 0, S2, rfl, h4.le (by rw [dints_len]; omega), by decide, by decide, by decide, by decide⟩
    · obtain ⟨x7, x8, a, b, c, d, S3, rfl, h5, ha, hb, hc, hd⟩ := hi
      simp only [List.length_nil, Nat.add_zero] at h5
      repeat walk_at "jstep"
      refine wp_forI (fun ds st => ∃ (x9 : Option Sl) (ws : List (List Int)) (hr : List (List D)), st = ⟨[some (.val (.obj 0)), some (.val (.int hands)), some (.val (.int most)), some (.val (.int faults)), some (.val (.lst (hs.map D.tup))), some (.val (.obj (ρ.length + 1))), some (.val (.lst (ws.map edD))), x7, x8, x9, none, none, none], S3⟩ ∧ (∀ w ∈ ws, EdOk w) ∧ ds = hr.map D.tup ∧ (∀ x ∈ hr, Good x) ∧ ws.length + 12 * hr.length ≤ 25)
        (fun st hi => ?_) (fun d' ds st hi => ?_) _ _ ⟨none, [ps], hs, rfl, fun w hw => by rw [List.mem_singleton.mp hw]; exact he, rfl, fun x hx => (h1 x hx).1, by simp only [List.length_singleton]; omega⟩
      · obtain ⟨x9, ws, hr, rfl, w1, w2, w3, w4⟩ := hi
        have hr0 : hr = [] := by
          cases hr with
          | nil => rfl
          | cons _ _ => cases w2
        subst hr0
        simp only [List.length_nil, Nat.mul_zero, Nat.add_zero] at w4
        repeat walk_at "jstep"
        refine ⟨by simp; omega, ?_⟩
        refine wp_compI (fun acc ds S => ∃ vs us : List (List Int), acc = vs.map edD ∧ ds = us.map edD ∧ (∀ w ∈ vs, EdOk w) ∧ (∀ w ∈ us, EdOk w) ∧ vs.length + us.length ≤ 25 ∧ DeckOk (ρ ++ [.lst (four a b c d)]) S (n + 1 + ds.length)) (fun acc S hi => ?_) (fun acc d' ds S hi => ?_) _ _ _ ⟨[], ws, rfl, rfl, by simp, w1, by simpa using w4, h5.le (by simp; omega)⟩
        · obtain ⟨vs, us, rfl, u1, v1, v2, v3, h6⟩ := hi
          simp only [List.length_nil, Nat.add_zero] at h6
          repeat walk_at "jstep"
          refine ⟨_, sort_some (fun w hw => (v1 w hw).b) (by omega), ?_⟩
          repeat walk_at "jstep"
          rw [minus_take]
          repeat walk_at "jstep"
          refine ⟨_, _, rfl, h6.last, ?_⟩
          repeat walk_at "jstep"
          refine draw (n := n) h6 rfl (by decide) (by decide) fun r S4 h7 q0 q1 => ?_
          repeat walk_at "jstep"
          obtain ⟨S5, rfl, h8⟩ := h7.cut
          have okb : ∀ w ∈ (srt vs).take 4, EdOk w := fun w hw => v1 w (mem_srt.mp (List.mem_of_mem_take hw))
          refine ⟨S5, [.lst (four a b c d)], [four a b c d], rfl, h8.len.trans hSl.symm, by rw [hSl]; exact h8.bd hρ, ?_, h8, hs, [a, b, c, d], (srt vs).take 4, PyData.eqv (.int r) (.int 0), ?_, ⟨by omega, by omega, fun x hx => (h1 x hx).1, rfl, ?_, by simp; omega, ?_, okb⟩, by omega, fun x hx => (h1 x hx).2⟩
          · show (if D.bds S.length (four a b c d) = true then _ else none) = _
            rw [if_pos (by simp [four, D.bds, D.bd])]
            rfl
          · show D.thaw1 _ _ (dataD hs [a, b, c, d] ((srt vs).take 4) (PyData.eqv (.int r) (.int 0))) = _
            exact thaw_bd (data_bd (fun x hx => (h1 x hx).1) _)
          · intro f hf
            simp only [List.mem_cons, List.not_mem_nil, or_false] at hf
            rcases hf with rfl | rfl | rfl | rfl <;> assumption
          · exact List.Pairwise.sublist (List.take_sublist 4 _) (asc_srt fun w hw => (v1 w hw).b)
        · obtain ⟨vs, us, rfl, u1, v1, v2, v3, h6⟩ := hi
          cases us with
          | nil => cases u1
          | cons u us =>
            injection u1 with e1 e2
            subst e1
            simp only [List.length_cons] at v3 h6
            refine ⟨_, rfl, ?_⟩
            repeat walk_at "jstep"
            refine draw (n := n + 1 + ds.length) h6 rfl (by decide) (by decide) fun r S4 h7 q0 q1 => ?_
            repeat walk_at "jstep"
            split
            · repeat walk_at "jstep"
              refine ⟨vs ++ [u], us, by simp, e2, fun w hw => ?_, fun w hw => v2 w (List.mem_cons_of_mem _ hw), by simp; omega, h7⟩
              rcases List.mem_append.mp hw with hw | hw
              · exact v1 w hw
              · rw [List.mem_singleton.mp hw]
                exact v2 u (by simp)
            · exact ⟨vs, us, rfl, e2, v1, fun w hw => v2 w (List.mem_cons_of_mem _ hw), by omega, h7⟩
      · obtain ⟨x9, ws, hr, rfl, w1, w2, w3, w4⟩ := hi
        cases hr with
        | nil => cases w2
        | cons y hr =>
          injection w2 with e1 e2
          subst e1
          have gy := w3 y (by simp)
          simp only [List.length_cons] at w4
          refine ⟨_, rfl, ?_⟩
          repeat walk_at "jstep"
          refine ⟨by have := gy.hi; omega, ?_⟩
          refine joins_of (T := Unit) gy.ok gy.hi rfl rfl fun vs v1 v2 => ?_
          refine ⟨_, lists_add (by simp; omega), ?_⟩
          repeat walk_at "jstep"
          refine ⟨some (.val (.tup y)), ws ++ vs, hr, ?_, fun w hw => ?_, e2, fun x hx => w3 x (List.mem_cons_of_mem _ hx), by simp; omega⟩
          · rw [List.map_append]
            rfl
          · rcases List.mem_append.mp hw with hw | hw
            · exact w1 w hw
            · exact v1 w hw
    · obtain ⟨x7, x8, a, b, c, d2, S3, rfl, h5, ha, hb, hc, hd⟩ := hi
      simp only [List.length_cons] at h5
      refine ⟨_, rfl, ?_⟩
      repeat walk_at "jstep"
      refine draw (n := n + 100 + ds.length) h5 rfl (by decide) (by decide) fun r S4 h6 q0 q1 => ?_
      refine pick q0 q1 fun w hw => ?_
      have up : ∀ z : Int, 0 ≤ z ∧ z ≤ 3 → 0 ≤ (if z + 1 < 3 then z + 1 else 3) ∧ (if z + 1 < 3 then z + 1 else 3) ≤ 3 := fun z hz => by split <;> omega
      have key : ∃ p z a' b' c' d' : Int, w = .int p ∧ dIx (.lst (four a b c d2)) (.int p) = some (.int z) ∧ setL (.int (if z + 1 < 3 then z + 1 else 3)) (.int p) (four a b c d2) = some (four a' b' c' d') ∧ (0 ≤ a' ∧ a' ≤ 3) ∧ (0 ≤ b' ∧ b' ≤ 3) ∧ (0 ≤ c' ∧ c' ≤ 3) ∧ (0 ≤ d' ∧ d' ≤ 3) := by
        simp only [List.mem_cons, List.not_mem_nil, or_false] at hw
        rcases hw with e | e | e | e | e | e
        · exact ⟨0, a, _, b, c, d2, e, rfl, rfl, up a ha, hb, hc, hd⟩
        · exact ⟨0, a, _, b, c, d2, e, rfl, rfl, up a ha, hb, hc, hd⟩
        · exact ⟨1, b, a, _, c, d2, e, rfl, rfl, ha, up b hb, hc, hd⟩
        · exact ⟨2, c, a, b, _, d2, e, rfl, rfl, ha, hb, up c hc, hd⟩
        · exact ⟨3, d2, a, b, c, _, e, rfl, rfl, ha, hb, hc, up d2 hd⟩
        · exact ⟨1, b, a, _, c, d2, e, rfl, rfl, ha, up b hb, hc, hd⟩
      obtain ⟨p, z, a', b', c', d', rfl, g1, g2, ha', hb', hc', hd'⟩ := key
      repeat walk_at "jstep"
      refine ⟨_, _, _, rfl, h6.last, g1, ?_⟩
      repeat walk_at "jstep"
      refine ⟨_, _, rfl, h6.last, ?_⟩
      repeat walk_at "jstep"
      refine ⟨_, _, h6.last, g2, ?_⟩
      exact ⟨_, _, a', b', c', d', _, rfl, h6.put, ha', hb', hc', hd'⟩
  · obtain ⟨hs, rfl, h1, h2, h3⟩ := hi
    simp only [List.length_cons] at h2 h3
    refine ⟨_, rfl, ?_⟩
    repeat walk_at "jstep"
    rw [if_pos rfl]
    repeat walk_at "jstep"
    refine (steps_ok (n := n + 500 + 200 * ds.length) b0 b1 (h3.le (by omega))).imp fun d' S3 ⟨h4, l, e, l1, l2, l3⟩ => ?_
    subst e
    refine ⟨hs ++ [l], by simp, fun x hx => ?_, by simp; omega, h4⟩
    rcases List.mem_append.mp hx with hx | hx
    · exact h1 x hx
    · rw [List.mem_singleton.mp hx]
      exact ⟨⟨l1, by omega, l3⟩, l2⟩
end
end Law
end
section
namespace Law
open PySem PySem.Spec L2 J
local macro_rules | `(tactic| walk_at "jstep") => `(tactic| first
  | (with_reducible refine wp_seq ?_) | (with_reducible refine fq_next ?_) | (with_reducible refine fq_ret ?_) | (with_reducible refine rq_ret ?_) | (with_reducible refine wp_cons ?_) | (with_reducible refine wp_nil ?_)
  | (with_reducible refine wp_pure ?_) | (with_reducible refine wp_op ?_) | (with_reducible refine wp_fn ?_) | (with_reducible refine wp_bi ?_) | (with_reducible refine wp_tup ?_) | (with_reducible refine wp_lst ?_)
  | (with_reducible refine wp_set ?_) | (with_reducible refine wp_ret ?_) | (with_reducible refine wp_if ?_) | (with_reducible refine wp_cmp ?_) | (with_reducible refine wp_not ?_) | (with_reducible refine wp_and ?_)
  | (with_reducible refine wp_or ?_) | (with_reducible refine wp_un ?_) | (with_reducible refine wp_tst ?_) | (with_reducible refine wp_true ?_) | (with_reducible refine wp_isNT ?_) | (with_reducible refine wp_notNT ?_)
  | (with_reducible refine wp_ownS ?_) | (with_reducible refine wp_asg ?_) | (with_reducible refine wp_par ?_) | (with_reducible refine wp_parO ?_) | (with_reducible refine wp_biN ?_) | (with_reducible refine wp_it ?_)
  | (with_reducible refine wp_isi ?_) | (with_reducible refine wp_isiC ?_) | (with_reducible refine wp_sl ?_) | (with_reducible refine wp_slN ?_) | (with_reducible refine wp_bd ?_) | (with_reducible refine wp_addN ?_)
  | (with_reducible refine wp_sm ?_) | (with_reducible refine wp_smN ?_) | (with_reducible refine wp_for ?_) | (with_reducible refine wp_comp ?_) | (with_reducible refine wp_cmp2 ?_) | (with_reducible refine wp_for_nil ?_)
  | (with_reducible refine wp_compN ?_) | (with_reducible refine lq_next ?_) | (with_reducible refine lq_ret ?_) | (with_reducible refine wp_rep ?_) | ((with_reducible apply wp_val); · rfl) | ((with_reducible apply wp_own); · rfl)
  | (with_reducible refine wp_fmt ?_) | (with_reducible refine wp_joinsN ?_) | (with_reducible refine wp_joinsC ?_) | (with_reducible refine wp_oNew ?_) | (with_reducible refine wp_oIx ?_) | (with_reducible refine wp_oTup ?_) | (with_reducible refine wp_oLen ?_)
  | (with_reducible refine wp_oRev ?_) | (with_reducible refine wp_oApp ?_) | (with_reducible refine wp_oPop ?_) | (with_reducible refine wp_oIns ?_) | (with_reducible refine wp_oSet ?_) | (with_reducible refine wp_par3 ?_) | (with_reducible refine wp_sort ?_) | (with_reducible refine wp_rev ?_)
  | (with_reducible refine J.wp_andV ?_) | (with_reducible refine wp_orV ?_) | (with_reducible refine wp_notV ?_) | (with_reducible refine wp_isNM ?_) | (with_reducible refine wp_notNM ?_) | (with_reducible refine wp_chain ?_) | (with_reducible refine wp_tabI ?_) | (with_reducible refine wp_tabT ?_)
  | (with_reducible refine wp_tabX ?_) | (with_reducible refine wp_expr ?_)
  | ((with_reducible apply wp_then); · rfl) | ((with_reducible apply wp_else); · rfl) | ((with_reducible apply wp_lenO); · rfl) | ((with_reducible apply wp_lenV); · rfl) | ((with_reducible apply wp_app); · rfl) | ((with_reducible apply wp_for_cons); · rfl)
  | ((with_reducible apply wp_compC); · rfl) | ((with_reducible apply ex_two); · rfl) | (with_reducible refine wp_of ?_) | (with_reducible refine wp_bind ?_) | ((with_reducible refine ⟨?_, ?_⟩); · exact of_decide_eq_true rfl))

section
variable {S ρ : List MO} {n : Nat}
def faD (fs : List Int) : D := .ins "Faults" [("four", .tup (fs.map .int))]
def caD (hs : List (List D)) (fs : List Int) (ws : List (List Int)) (fr : Bool) : D := .ins "Case" [("four", .tup [.tup (hs.map prog), faD fs, .tup (ws.map edD), .bl fr])]
theorem whole_ok {z : Int} : f_is_whole [.int z] S = .ok (.bl true) S := rfl
theorem within_ok2 {z lo hi : Int} (h0 : lo ≤ z) (h1 : z ≤ hi) : Wf f_is_within_kinds [.int z, .int lo, .int hi] S fun r S' => r = .bl true ∧ S' = S := by
  refine wf_run ?_
  unfold m_is_within_kinds
  repeat walk_at "jstep"
  refine J.wf_eq whole_ok ?_
  repeat walk_at "jstep"
  refine wp_then (decide_eq_true h0) ?_
  refine wp_bind (wp_val rfl (wp_of ⟨.bl (decide (z ≤ hi)), rfl, ?_⟩))
  rw [decide_eq_true h1]
  exact ⟨rfl, rfl⟩
theorem fld_last {c : Str} {fs : List (Str × D)} {d : D} {f : Str} {cs : List Str} {r : List (Option Sl)} (hc : c ∈ cs) (hf : fs.lookup f = some d) : fldM cs f (.obj S.length) ⟨r, S ++ [.ins c fs]⟩ = .ok d ⟨r, S ++ [.ins c fs]⟩ := by
  unfold fldM
  simp [hc, hf]
theorem fset_last {c : Str} {fs : List (Str × D)} {d : D} {f : Str} {cs : List Str} {r : List (Option Sl)} (hc : c ∈ cs) (hl : fs.length < 1000) : fldSet cs f d (.obj S.length) ⟨r, S ++ [.ins c fs]⟩ = some ⟨r, S ++ [.ins c (putD f d fs)]⟩ := by
  unfold fldSet
  simp [hc, hl]
theorem faults_init {a b c d : Int} (ha : 0 ≤ a ∧ a ≤ 3) (hb : 0 ≤ b ∧ b ≤ 3) (hc : 0 ≤ c ∧ c ≤ 3) (hd : 0 ≤ d ∧ d ≤ 3) :
    Wf f_Faultsu_initu [.obj S.length, .int a, .int b, .int c, .int d] (S ++ [.ins "Faults" []]) fun r S' => r = .non ∧ S' = S ++ [.ins "Faults" [("four", .tup [.int a, .int b, .int c, .int d])]] := by
  refine wf_run ?_
  unfold m_Faultsu_initu
  repeat walk_at "jstep"
  refine J.wp_fldS ?_
  repeat walk_at "jstep"
  refine ⟨_, fset_last (by decide) (by decide), ?_⟩
  repeat walk_at "jstep"
  refine wp_forI (fun ds st => ∃ x5, st = ⟨[some (.val (.obj S.length)), some (.val (.int a)), some (.val (.int b)), some (.val (.int c)), some (.val (.int d)), x5], S ++ [.ins "Faults" [("four", .tup [.int a, .int b, .int c, .int d])]]⟩ ∧ ∀ x ∈ ds, ∃ (i : Int) (z : Int), x = .int i ∧ dIx (.tup [.int a, .int b, .int c, .int d]) (.int i) = some (.int z) ∧ 0 ≤ z ∧ z ≤ 3)
    (fun st hi => ?_) (fun x ds st hi => ?_) _ _ ⟨none, rfl, ?_⟩
  · obtain ⟨x5, rfl, _⟩ := hi
    exact ⟨rfl, rfl⟩
  · obtain ⟨x5, rfl, h⟩ := hi
    obtain ⟨i, z, rfl, h1, h2, h3⟩ := h x (by simp)
    refine ⟨_, rfl, ?_⟩
    repeat walk_at "jstep"
    refine J.wp_fldG ?_
    repeat walk_at "jstep"
    refine ⟨_, _, fld_last (by decide) rfl, ?_⟩
    repeat walk_at "jstep"
    refine ⟨_, h1, ?_⟩
    repeat walk_at "jstep"
    refine (within_ok2 h2 h3).imp fun r S' ⟨e1, e2⟩ => ?_
    subst e1
    subst e2
    repeat walk_at "jstep"
    exact fun y hy => h y (List.mem_cons_of_mem _ hy)
  · intro x hx
    have hx : x ∈ [D.int 0, .int 1, .int 2, .int 3] := hx
    simp only [List.mem_cons, List.not_mem_nil, or_false] at hx
    rcases hx with rfl | rfl | rfl | rfl
    · exact ⟨0, a, rfl, rfl, ha⟩
    · exact ⟨1, b, rfl, rfl, hb⟩
    · exact ⟨2, c, rfl, rfl, hc⟩
    · exact ⟨3, d, rfl, rfl, hd⟩
structure FourOk (fs : List Int) : Prop where
  f4 : fs.length = 4
  fb : ∀ f ∈ fs, 0 ≤ f ∧ f ≤ 3
theorem FourOk.ex {fs : List Int} (h : FourOk fs) : ∃ a b c d, fs = [a, b, c, d] ∧ (0 ≤ a ∧ a ≤ 3) ∧ (0 ≤ b ∧ b ≤ 3) ∧ (0 ≤ c ∧ c ≤ 3) ∧ (0 ≤ d ∧ d ≤ 3) := by
  obtain ⟨h1, h2⟩ := h
  match fs, h1, h2 with
  | [a, b, c, d], _, h2 => exact ⟨a, b, c, d, rfl, h2 a (by simp), h2 b (by simp), h2 c (by simp), h2 d (by simp)⟩
theorem CaseOk.four {hs : List (List D)} {fs : List Int} {ws : List (List Int)} (h : CaseOk hs fs ws) : FourOk fs := ⟨h.f4, h.fb⟩
theorem wp_faults {m : M (List D)} {fs : List Int} {st : Sta} {Q : D → Sta → Prop} (h : FourOk fs) (w : Wp m st fun l st1 => l = fs.map .int ∧ Q (faD fs) st1) : Wp (makM "Faults" f_Faultsu_initu m) st Q := by
  obtain ⟨a, b, c, d, rfl, ha, hb, hc, hd⟩ := h.ex
  refine J.wp_mak (w.imp fun l st1 ⟨e, q⟩ => ?_)
  subst e
  exact (faults_init (S := st1.S) ha hb hc hd).imp fun r S' ⟨e1, e2⟩ => ⟨e1, _, e2, by simp [D.bdf, D.bd, D.bds], q⟩
theorem lex_ck : ∀ {d : Nat} {a b : List Int}, a.length ≤ d → b.length ≤ d → TS.Bd 10 a → TS.Bd 10 b → HT.lexLt a b = decide (ck d a < ck d b)
  | 0, [], [], _, _, _, _ => rfl
  | 0, _ :: _, _, h, _, _, _ => absurd h (by simp)
  | 0, _, _ :: _, _, h, _, _ => absurd h (by simp)
  | d + 1, [], [], _, _, _, _ => by simp [HT.lexLt]
  | d + 1, [], x :: r, h1, h2, b1, b2 => by
    have l1 : (pd d r).length = d := pd_len (by simpa using h2)
    have l2 : (pd d []).length = d := pd_len (by simp)
    have := TS.code_lt (B := 11) (d := 0) (e := x + 1) (l2.trans l1.symm) (pd_bd b1) (pd_bd b2.tail) (by have := b2.head; omega)
    rw [HT.lexLt_nil_cons, decide_eq_true]
    unfold ck
    rw [pd_cons, pd_nil]
    exact this
  | d + 1, x :: r, [], h1, h2, b1, b2 => by
    have l1 : (pd d r).length = d := pd_len (by simpa using h1)
    have l2 : (pd d []).length = d := pd_len (by simp)
    have := TS.code_lt (B := 11) (d := 0) (e := x + 1) (l2.trans l1.symm) (pd_bd b2) (pd_bd b1.tail) (by have := b1.head; omega)
    rw [HT.lexLt_cons_nil, decide_eq_false]
    unfold ck
    rw [pd_cons, pd_nil]
    omega
  | d + 1, x :: r, y :: q, h1, h2, b1, b2 => by
    have l1 : (pd d r).length = d := pd_len (by simpa using h1)
    have l2 : (pd d q).length = d := pd_len (by simpa using h2)
    rw [HT.lexLt_cons]
    unfold ck
    rw [pd_cons, pd_cons]
    by_cases e : x = y
    · subst e
      rw [if_pos rfl, lex_ck (d := d) (by simpa using h1) (by simpa using h2) b1.tail b2.tail]
      exact decide_eq_decide.mpr (TS.code_same (l1.trans l2.symm)).symm
    · rw [if_neg e]
      refine decide_eq_decide.mpr ⟨fun lt => TS.code_lt (l1.trans l2.symm) (pd_bd b1.tail) (pd_bd b2.tail) (by omega), fun lt => ?_⟩
      rcases Int.lt_trichotomy x y with z | z | z
      · exact z
      · exact absurd z e
      · have := TS.code_lt (B := 11) (d := y + 1) (e := x + 1) (l2.trans l1.symm) (pd_bd b2.tail) (pd_bd b1.tail) (by omega)
        omega
theorem lt_eds {a b : List Int} (ha : EdB a) (hb : EdB b) : dLt (edD a) (edD b) = some (.bl (decide (ck 3 a < ck 3 b))) := by
  show ((D.ints (a.map D.int)).bind fun ns => (D.ints (b.map D.int)).map fun ms => D.bl (HT.lexLt ns ms)) = _
  rw [ints_map, ints_map]
  show some (D.bl (HT.lexLt a b)) = _
  rw [lex_ck ha.2.1 hb.2.1 ha.2.2 hb.2.2]
theorem fin_ised : eds.map (fun ps => f_is_edition [edD ps] S) = eds.map fun _ => Rf.ok (.bl true) S := by kernel_rfl
theorem is_ed {ps : List Int} (h : EdOk ps) : f_is_edition [edD ps] S = .ok (.bl true) S := List.map_inj_left.mp fin_ised ps (mem_eds h)
theorem bls_true (k : Nat) : D.bls (List.replicate k (D.bl true)) = some (List.replicate k true) := by
  induction k with
  | zero => rfl
  | succ k ih =>
    show (D.bls (List.replicate k (D.bl true))).map (true :: ·) = _
    rw [ih]
    rfl
theorem all_true (k : Nat) : dAll [.lst (List.replicate k (D.bl true))] = some (.bl true) := by
  show (D.bls (List.replicate k (D.bl true))).map _ = _
  rw [bls_true]
  simp
theorem progs_ok {hs : List (List D)} (h1 : 1 ≤ hs.length) (h2 : hs.length ≤ 2) : Wf f_are_programs [.tup (hs.map prog)] S fun r S' => r = .bl true ∧ S' = S := by
  refine wf_run ?_
  unfold m_are_programs
  repeat walk_at "jstep"
  refine wp_then (decide_eq_true (by simp; omega)) ?_
  refine wp_bind (wp_pure (wp_of ⟨.bl true, by show some (D.bl (decide (((hs.map prog).length : Int) ≤ 2))) = _; rw [decide_eq_true (by simp; omega)], ?_⟩))
  refine ⟨true, rfl, wp_then rfl ?_⟩
  repeat walk_at "jstep"
  refine ⟨by simp; omega, ?_⟩
  refine wp_compI (fun acc ds S' => S' = S ∧ ∃ k, acc = List.replicate k (.bl true) ∧ ∀ d ∈ ds, ∃ h, d = prog h) (fun acc S' hi => ?_) (fun acc d ds S' hi => ?_) _ _ _ ⟨rfl, 0, rfl, fun d hd => by
    obtain ⟨h, _, rfl⟩ := List.mem_map.mp hd
    exact ⟨h, rfl⟩⟩
  · obtain ⟨rfl, k, rfl, _⟩ := hi
    repeat walk_at "jstep"
    refine ⟨_, all_true k, ?_⟩
    repeat walk_at "jstep"
    exact ⟨rfl, rfl⟩
  · obtain ⟨rfl, k, rfl, h⟩ := hi
    obtain ⟨x, rfl⟩ := h d (by simp)
    refine ⟨_, rfl, ?_⟩
    repeat walk_at "jstep"
    rw [if_pos rfl]
    repeat walk_at "jstep"
    exact ⟨rfl, k + 1, by rw [List.replicate_succ'], fun y hy => h y (List.mem_cons_of_mem _ hy)⟩
theorem cut_tail {xs : List D} : cutD xs (some 1) none = xs.drop 1 := by
  unfold cutD
  cases xs with
  | nil => simp
  | cons x xs => simp [HT.sIx]
/-- neighbours -/
def pairs : List (List Int) → List (List Int × List Int)
  | a :: b :: r => (a, b) :: pairs (b :: r)
  | _ => []
theorem zip_pairs : ∀ {ws : List (List Int)}, (((ws.map edD).zip ((ws.map edD).drop 1)).map fun (a, b) => D.tup [a, b]) = (pairs ws).map fun p => D.tup [edD p.1, edD p.2]
  | [] => rfl
  | [a] => rfl
  | a :: b :: r => by
    have := zip_pairs (ws := b :: r)
    simp only [List.map_cons, List.drop_succ_cons, List.drop_zero, List.zip_cons_cons, pairs] at this ⊢
    rw [this]
theorem pairs_asc : ∀ {ws : List (List Int)}, Asc ws → (∀ w ∈ ws, EdB w) → ∀ p ∈ pairs ws, EdB p.1 ∧ EdB p.2 ∧ ck 3 p.1 < ck 3 p.2
  | [], _, _, p, hp => by cases hp
  | [a], _, _, p, hp => by cases hp
  | a :: b :: r, h, hb, p, hp => by
    obtain ⟨h1, h2⟩ := List.pairwise_cons.mp h
    rcases List.mem_cons.mp (show p ∈ (a, b) :: pairs (b :: r) from hp) with rfl | hp
    · exact ⟨hb a (by simp), hb b (by simp), h1 b (by simp)⟩
    · exact pairs_asc h2 (fun w hw => hb w (List.mem_cons_of_mem _ hw)) p hp
theorem wishes_ok {ws : List (List Int)} (h4 : ws.length ≤ 4) (ha : Asc ws) (he : ∀ w ∈ ws, EdOk w) : Wf f_are_wishes [.tup (ws.map edD)] S fun r S' => r = .bl true ∧ S' = S := by
  refine wf_run ?_
  unfold m_are_wishes
  repeat walk_at "jstep"
  refine wp_else (by show decide ((4 : Int) < ((ws.map edD).length : Int)) = false; exact decide_eq_false (by simp; omega)) ?_
  repeat walk_at "jstep"
  refine ⟨by simp; omega, ?_⟩
  refine wp_compI (fun acc ds S' => S' = S ∧ ∃ k, acc = List.replicate k (.bl true) ∧ ∀ d ∈ ds, ∃ w, d = edD w ∧ EdOk w) (fun acc S' hi => ?_) (fun acc d ds S' hi => ?_) _ _ _ ⟨rfl, 0, rfl, fun d hd => by
    obtain ⟨w, hw, rfl⟩ := List.mem_map.mp hd
    exact ⟨w, rfl, he w hw⟩⟩
  · obtain ⟨rfl, k, rfl, _⟩ := hi
    repeat walk_at "jstep"
    refine ⟨_, all_true k, ?_⟩
    repeat walk_at "jstep"
    rw [cut_tail]
    rw [zip_pairs]
    refine ⟨?_, ?_⟩
    · have : ∀ l : List (List Int), (pairs l).length ≤ l.length := fun l => by
        induction l with
        | nil => exact Nat.le_refl _
        | cons a r ih =>
          cases r with
          | nil => simp [pairs]
          | cons b r => simp only [pairs, List.length_cons] at ih ⊢; omega
      have := this ws
      simp
      omega
    refine wp_compI (fun acc ds S2 => S2 = S' ∧ ∃ k, acc = List.replicate k (.bl true) ∧ ∃ ps : List (List Int × List Int), ds = ps.map (fun p => D.tup [edD p.1, edD p.2]) ∧ ∀ p ∈ ps, EdB p.1 ∧ EdB p.2 ∧ ck 3 p.1 < ck 3 p.2) (fun acc S2 hi => ?_) (fun acc d ds S2 hi => ?_) _ _ _ ⟨rfl, 0, rfl, pairs ws, rfl, pairs_asc ha fun w hw => (he w hw).b⟩
    · obtain ⟨rfl, k, rfl, _⟩ := hi
      repeat walk_at "jstep"
      refine ⟨_, all_true k, ?_⟩
      repeat walk_at "jstep"
      exact ⟨rfl, rfl⟩
    · obtain ⟨rfl, k, rfl, ps, e, h⟩ := hi
      cases ps with
      | nil => cases e
      | cons p ps =>
        injection e with e1 e2
        subst e1
        obtain ⟨h1, h2, h3⟩ := h p (by simp)
        refine ⟨_, rfl, ?_⟩
        repeat walk_at "jstep"
        rw [if_pos rfl]
        repeat walk_at "jstep"
        refine ⟨_, lt_eds h1 h2, ?_⟩
        rw [decide_eq_true h3]
        exact ⟨rfl, k + 1, by rw [List.replicate_succ'], ps, e2, fun q hq => h q (List.mem_cons_of_mem _ hq)⟩
  · obtain ⟨rfl, k, rfl, h⟩ := hi
    obtain ⟨w, rfl, hw⟩ := h d (by simp)
    refine ⟨_, rfl, ?_⟩
    repeat walk_at "jstep"
    rw [if_pos rfl]
    repeat walk_at "jstep"
    refine J.wf_eq (is_ed hw) ?_
    exact ⟨rfl, k + 1, by rw [List.replicate_succ'], fun y hy => h y (List.mem_cons_of_mem _ hy)⟩
theorem case_init {hs : List (List D)} {fs : List Int} {ws : List (List Int)} {fr : Bool} (h : CaseOk hs fs ws) : Wf f_Caseu_initu [.obj S.length, .tup (hs.map prog), faD fs, .tup (ws.map edD), .bl fr] (S ++ [.ins "Case" []]) fun r S' => r = .non ∧ S' = S ++ [.ins "Case" [("four", .tup [.tup (hs.map prog), faD fs, .tup (ws.map edD), .bl fr])]] := by
  refine wf_run ?_
  unfold m_Caseu_initu
  repeat walk_at "jstep"
  refine (progs_ok h.h1 h.h2).imp fun r S' ⟨e1, e2⟩ => ?_
  subst e1
  subst e2
  repeat walk_at "jstep"
  refine (wishes_ok h.w4 h.wa h.we).imp fun r S' ⟨e1, e2⟩ => ?_
  subst e1
  subst e2
  repeat walk_at "jstep"
  refine J.wp_fldS ?_
  repeat walk_at "jstep"
  refine ⟨_, fset_last (by decide) (by decide), ?_⟩
  exact ⟨rfl, rfl⟩
theorem case_bd {hs : List (List D)} {fs : List Int} {ws : List (List Int)} {fr : Bool} (h : ∀ x ∈ hs, Good x) (k : Nat) : D.bdf k [("four", .tup [.tup (hs.map prog), faD fs, .tup (ws.map edD), .bl fr])] = true := by
  have h1 : D.bds k (hs.map prog) = true := bds_map fun x hx => by
    unfold prog
    simp [D.bd, D.bdf, bds_steps k (h x hx).ok]
  have h2 : D.bds k (ws.map edD) = true := bds_map fun x hx => by
    unfold edD
    rw [D.bd]
    exact bds_ints k x
  simp [faD, D.bdf, D.bd, D.bds, h1, h2, bds_ints]
theorem wp_case {m : M (List D)} {hs : List (List D)} {fs : List Int} {ws : List (List Int)} {fr : Bool} {st : Sta} {Q : D → Sta → Prop} (h : CaseOk hs fs ws) (w : Wp m st fun l st1 => l = [.tup (hs.map prog), faD fs, .tup (ws.map edD), .bl fr] ∧ Q (caD hs fs ws fr) st1) :
    Wp (makM "Case" f_Caseu_initu m) st Q := by
  refine J.wp_mak (w.imp fun l st1 ⟨e, q⟩ => ?_)
  subst e
  exact (case_init (S := st1.S) h).imp fun r S' ⟨e1, e2⟩ => ⟨e1, _, e2, case_bd h.hg _, q⟩
theorem law_case_ok {hs : List (List D)} {fs : List Int} {ws : List (List Int)} {fr : Bool} (h : CaseOk hs fs ws) : Wf f__law_case [dataD hs fs ws fr] S fun r S' => r = caD hs fs ws fr ∧ S' = S := by
  obtain ⟨a, b, c, d, rfl, ha, hb, hc, hd⟩ := h.four.ex
  have h2 := h.h2
  refine wf_run ?_
  unfold m__law_case
  repeat walk_at "jstep"
  refine ⟨by simp; omega, ?_⟩
  refine wp_compI (fun acc ds S' => S' = S ∧ ∃ h1 h2, h1 ++ h2 = hs ∧ acc = h1.map prog ∧ ds = h2.map D.tup) (fun acc S' hi => ?_) (fun acc x ds S' hi => ?_) _ _ _ ⟨rfl, [], hs, rfl, rfl, rfl⟩
  · obtain ⟨rfl, h1, h2, e1, rfl, e2⟩ := hi
    have : h2 = [] := by
      cases h2 with
      | nil => rfl
      | cons _ _ => cases e2
    subst this
    rw [List.append_nil] at e1
    subst e1
    repeat walk_at "jstep"
    refine wp_case (fs := [a, b, c, d]) (fr := fr) h ?_
    repeat walk_at "jstep"
    refine wp_faults h.four ?_
    repeat walk_at "jstep"
    refine ⟨rfl, ?_⟩
    repeat walk_at "jstep"
    exact ⟨rfl, rfl, rfl⟩
  · obtain ⟨rfl, h1, h2, e1, rfl, e2⟩ := hi
    cases h2 with
    | nil => cases e2
    | cons y h2 =>
      injection e2 with e3 e4
      subst e3
      refine ⟨_, rfl, ?_⟩
      repeat walk_at "jstep"
      rw [if_pos rfl]
      refine wp_prog (h.hg y (by rw [← e1]; simp)) ?_
      repeat walk_at "jstep"
      exact ⟨rfl, rfl, h1 ++ [y], h2, by simp [← e1], by simp, e4⟩
end
end Law
end
section
namespace Law
open PySem PySem.Spec L2 J
local macro_rules | `(tactic| walk_at "jstep") => `(tactic| first
  | (with_reducible refine wp_seq ?_) | (with_reducible refine fq_next ?_) | (with_reducible refine fq_ret ?_) | (with_reducible refine rq_ret ?_) | (with_reducible refine wp_cons ?_) | (with_reducible refine wp_nil ?_)
  | (with_reducible refine wp_pure ?_) | (with_reducible refine wp_op ?_) | (with_reducible refine wp_fn ?_) | (with_reducible refine wp_bi ?_) | (with_reducible refine wp_tup ?_) | (with_reducible refine wp_lst ?_)
  | (with_reducible refine wp_set ?_) | (with_reducible refine wp_ret ?_) | (with_reducible refine wp_if ?_) | (with_reducible refine wp_cmp ?_) | (with_reducible refine wp_not ?_) | (with_reducible refine wp_and ?_)
  | (with_reducible refine wp_or ?_) | (with_reducible refine wp_un ?_) | (with_reducible refine wp_tst ?_) | (with_reducible refine wp_true ?_) | (with_reducible refine wp_isNT ?_) | (with_reducible refine wp_notNT ?_)
  | (with_reducible refine wp_ownS ?_) | (with_reducible refine wp_asg ?_) | (with_reducible refine wp_par ?_) | (with_reducible refine wp_parO ?_) | (with_reducible refine wp_biN ?_) | (with_reducible refine wp_it ?_)
  | (with_reducible refine wp_isi ?_) | (with_reducible refine wp_isiC ?_) | (with_reducible refine wp_sl ?_) | (with_reducible refine wp_slN ?_) | (with_reducible refine wp_bd ?_) | (with_reducible refine wp_addN ?_)
  | (with_reducible refine wp_sm ?_) | (with_reducible refine wp_smN ?_) | (with_reducible refine wp_for ?_) | (with_reducible refine wp_comp ?_) | (with_reducible refine wp_cmp2 ?_) | (with_reducible refine wp_for_nil ?_)
  | (with_reducible refine wp_compN ?_) | (with_reducible refine lq_next ?_) | (with_reducible refine lq_ret ?_) | (with_reducible refine wp_rep ?_) | ((with_reducible apply wp_val); · rfl) | ((with_reducible apply wp_own); · rfl)
  | (with_reducible refine wp_fmt ?_) | (with_reducible refine wp_joinsN ?_) | (with_reducible refine wp_joinsC ?_) | (with_reducible refine wp_oNew ?_) | (with_reducible refine wp_oIx ?_) | (with_reducible refine wp_oTup ?_) | (with_reducible refine wp_oLen ?_)
  | (with_reducible refine wp_oRev ?_) | (with_reducible refine wp_oApp ?_) | (with_reducible refine wp_oPop ?_) | (with_reducible refine wp_oIns ?_) | (with_reducible refine wp_oSet ?_) | (with_reducible refine wp_par3 ?_) | (with_reducible refine wp_sort ?_) | (with_reducible refine wp_rev ?_)
  | (with_reducible refine J.wp_andV ?_) | (with_reducible refine wp_orV ?_) | (with_reducible refine wp_notV ?_) | (with_reducible refine wp_isNM ?_) | (with_reducible refine wp_notNM ?_) | (with_reducible refine wp_chain ?_) | (with_reducible refine wp_tabI ?_) | (with_reducible refine wp_tabT ?_)
  | (with_reducible refine wp_tabX ?_) | (with_reducible refine wp_expr ?_)
  | ((with_reducible apply wp_then); · rfl) | ((with_reducible apply wp_else); · rfl) | ((with_reducible apply wp_lenO); · rfl) | ((with_reducible apply wp_lenV); · rfl) | ((with_reducible apply wp_app); · rfl) | ((with_reducible apply wp_for_cons); · rfl)
  | ((with_reducible apply wp_compC); · rfl) | ((with_reducible apply ex_two); · rfl) | (with_reducible refine wp_of ?_) | (with_reducible refine wp_bind ?_) | ((with_reducible refine ⟨?_, ?_⟩); · exact of_decide_eq_true rfl))

section
variable {S ρ : List MO} {n : Nat}
def pyOk (d : D) : Bool := match D.py d with
  | some q => ascD q && decide (q.depth ≤ 4 ∧ q.weight ≤ 200)
  | none => false
theorem fin_py : ((steps 12).all pyOk) = true := by kernel_rfl
theorem steps_py : ∀ {ds : List D}, (∀ d ∈ ds, d ∈ steps 12) → ∃ qs, D.pys ds = some qs ∧ ascDs qs = true ∧ PyData.depthAll qs ≤ 4 ∧ PyData.weightAll qs ≤ 201 * ds.length
  | [], _ => ⟨[], rfl, rfl, by simp [PyData.depthAll], by simp [PyData.weightAll]⟩
  | d :: ds, h => by
    have h1 := List.all_eq_true.mp fin_py d (h d (by simp))
    obtain ⟨qs, e, a1, a2, a3⟩ := steps_py (ds := ds) fun x hx => h x (List.mem_cons_of_mem _ hx)
    unfold pyOk at h1
    split at h1
    · rename_i q hq
      obtain ⟨b1, b2⟩ := Bool.and_eq_true_iff.mp h1
      have b2 := of_decide_eq_true b2
      refine ⟨q :: qs, ?_, by simp [ascDs, b1, a1], by simp only [PyData.depthAll]; omega, by simp only [PyData.weightAll, List.length_cons]; omega⟩
      show (D.py d).bind (fun a => (D.pys ds).map fun b => a :: b) = _
      rw [hq, e]
      rfl
    · cases h1
theorem tup_py {ds : List D} (h : Good ds) : ∃ q, D.py (.tup ds) = some q ∧ ascD q = true ∧ q.depth ≤ 40 ∧ q.weight ≤ 100000 := by
  have hi := h.hi
  obtain ⟨qs, e, a1, a2, a3⟩ := steps_py (ds := ds) fun d hd => ok12 (n := ds.length) (h.ok d hd) hi
  refine ⟨.tuple qs, ?_, a1, by simp only [PyData.depth]; omega, by simp only [PyData.weight]; omega⟩
  show (D.pys ds).map PyData.tuple = _
  rw [e]
  rfl
theorem equ_ok {ds : List D} (h : Good ds) : Wf f_Programu_equ [prog ds, prog ds] S fun r S' => r = .bl true ∧ S' = S := by
  obtain ⟨q, e, a1, a2, _⟩ := tup_py h
  refine wf_run ?_
  unfold m_Programu_equ
  refine wp_ret (J.wp_andV (wp_isiC (wp_val rfl ⟨.bl true, rfl, true, rfl, ?_⟩)))
  refine wp_then rfl (wp_op (J.wp_fldG (wp_val rfl ⟨.tup ds, _, rfl, J.wp_fldG (wp_val rfl ⟨.tup ds, _, rfl, _, eq_same e (fine a1).pl a2, ?_⟩)⟩)))
  exact ⟨rfl, rfl⟩
theorem ints_py : ∀ l : List Int, D.pys (l.map D.int) = some (l.map PyData.int)
  | [] => rfl
  | x :: l => by
    show (D.py (D.int x)).bind (fun a => (D.pys (l.map D.int)).map fun b => a :: b) = _
    rw [ints_py l]
    rfl
theorem ints_self : ∀ l : List Int, PyData.eqvAll (l.map PyData.int) (l.map PyData.int) = true
  | [] => by simp [PyData.eqvAll]
  | x :: l => by simp [PyData.eqvAll, PyData.eqv, ints_self l]
theorem ints_depth : ∀ l : List Int, PyData.depthAll (l.map PyData.int) ≤ 1
  | [] => by simp [PyData.depthAll]
  | x :: l => by
    have := ints_depth l
    simp only [List.map_cons, PyData.depthAll, PyData.depth]
    omega
theorem eq_ints {l : List Int} : dEq (edD l) (edD l) = some (.bl true) := by
  refine eq_same (q := .tuple (l.map PyData.int)) ?_ ?_ ?_
  · show (D.pys (l.map D.int)).map PyData.tuple = _
    rw [ints_py]
    rfl
  · rw [PyData.eqv]
    exact ints_self l
  · have := ints_depth l
    simp only [PyData.depth]
    omega
theorem eqD_of {d : D} (h : dEq d d = some (.bl true)) : eqD d d = some true := by
  unfold dEq at h
  obtain ⟨b, e1, e2⟩ := Option.map_eq_some_iff.mp h
  rw [e1]
  injection e2 with e2
  rw [e2]
theorem eqL_refl {f : D → D → Option Bool} : ∀ {xs : List D}, (∀ x ∈ xs, f x x = some true) → eqL f true xs xs = some true
  | [], _ => rfl
  | x :: xs, h => by
    show ((f x x).bind fun t => if t = true then eqL f true xs xs else some false) = _
    rw [h x (by simp)]
    show (if true = true then eqL f true xs xs else some false) = _
    rw [if_pos rfl]
    exact eqL_refl fun y hy => h y (List.mem_cons_of_mem _ hy)
theorem eqX_tup {tab : Str → Option Mf} {k : Nat} {xs : List D} (h : ∀ x ∈ xs, eqX tab S k x x = some true) : eqX tab S (k + 1) (.tup xs) (.tup xs) = some true := by
  have e := eqL_refl h
  show ((eqL (eqX tab S k) (decide (xs.length = xs.length)) xs xs).bind fun t => if t = true ∨ farD (.tup xs) (.tup xs) = true then some t else none) = _
  rw [decide_eq_true rfl, e]
  show (if true = true ∨ farD (.tup xs) (.tup xs) = true then some true else none) = _
  rw [if_pos (.inl rfl)]
theorem eqX_int {tab : Str → Option Mf} {k : Nat} {i : Int} : eqX tab S (k + 1) (.int i) (.int i) = some true := by
  show eqD (.int i) (.int i) = _
  exact eqD_of (eq_same (q := .int i) rfl (by simp [PyData.eqv]) (by simp [PyData.depth]))
theorem eqX_bl {tab : Str → Option Mf} {k : Nat} {b : Bool} : eqX tab S (k + 1) (.bl b) (.bl b) = some true := by
  show eqD (.bl b) (.bl b) = _
  exact eqD_of (eq_same (q := .bool b) rfl (by simp [PyData.eqv]) (by simp [PyData.depth]))
theorem eqX_ins {tab : Str → Option Mf} {k : Nat} {c : Str} {fs : List (Str × D)} {mf : Mf} (h1 : tab c = some mf) (h2 : mf [.ins c fs, .ins c fs] S = .ok (.bl true) S) : eqX tab S (k + 1) (.ins c fs) (.ins c fs) = some true := by
  unfold eqX
  simp [h1, h2]
theorem eqX_ed {tab : Str → Option Mf} {k : Nat} {w : List Int} : eqX tab S (k + 2) (edD w) (edD w) = some true := eqX_tup fun x hx => by
  obtain ⟨i, _, rfl⟩ := List.mem_map.mp hx
  exact eqX_int
theorem eq_prog {ds : List D} (h : Good ds) : f_Programu_equ [prog ds, prog ds] S = .ok (.bl true) S := by
  obtain ⟨r, S', e, rfl, rfl⟩ := equ_ok (S := S) h
  exact e
theorem eq_faults {fs : List Int} : f_Faultsu_equ [faD fs, faD fs] S = .ok (.bl true) S := by
  suffices h : Wf f_Faultsu_equ [faD fs, faD fs] S fun r S' => r = .bl true ∧ S' = S by
    obtain ⟨r, S', e, rfl, rfl⟩ := h
    exact e
  refine wf_run ?_
  unfold m_Faultsu_equ
  refine wp_ret (J.wp_andV (wp_isiC (wp_val rfl ⟨.bl true, rfl, true, rfl, ?_⟩)))
  refine wp_then rfl (wp_op (J.wp_fldG (wp_val rfl ⟨edD fs, _, rfl, J.wp_fldG (wp_val rfl ⟨edD fs, _, rfl, _, eq_ints, ?_⟩)⟩)))
  exact ⟨rfl, rfl⟩
theorem tab_prog : qt_Program_Faults "Program" = some f_Programu_equ := by
  unfold qt_Program_Faults
  have : qt_Program "Program" = some f_Programu_equ := by
    unfold qt_Program
    rw [if_pos rfl]
  rw [this]
theorem tab_faults : qt_Program_Faults "Faults" = some f_Faultsu_equ := by
  unfold qt_Program_Faults
  have h1 : qt_Program "Faults" = none := by
    unfold qt_Program
    rw [if_neg (by decide)]
  have h2 : qt_Faults "Faults" = some f_Faultsu_equ := by
    unfold qt_Faults
    rw [if_pos rfl]
  rw [h1, h2]
theorem eq_case {hs : List (List D)} {fs : List Int} {ws : List (List Int)} {fr : Bool} (h : ∀ x ∈ hs, Good x) : f_Caseu_equ [caD hs fs ws fr, caD hs fs ws fr] S = .ok (.bl true) S := by
  suffices h : Wf f_Caseu_equ [caD hs fs ws fr, caD hs fs ws fr] S fun r S' => r = .bl true ∧ S' = S by
    obtain ⟨r, S', e, rfl, rfl⟩ := h
    exact e
  refine wf_run ?_
  unfold m_Caseu_equ
  refine wp_ret (J.wp_andV (wp_isiC (wp_val rfl ⟨.bl true, rfl, true, rfl, ?_⟩)))
  refine wp_then rfl (wp_eqU (J.wp_fldG (wp_val rfl ⟨.tup [.tup (hs.map prog), faD fs, .tup (ws.map edD), .bl fr], _, rfl, J.wp_fldG (wp_val rfl ⟨.tup [.tup (hs.map prog), faD fs, .tup (ws.map edD), .bl fr], _, rfl, ?_⟩)⟩)))
  refine ⟨_, _, true, rfl, rfl, ?_, rfl, rfl⟩
  rw [decide_eq_true rfl]
  refine eqL_refl fun x hx => ?_
  simp only [List.mem_cons, List.not_mem_nil, or_false] at hx
  rcases hx with rfl | rfl | rfl | rfl
  · refine eqX_tup fun y hy => ?_
    obtain ⟨z, hz, rfl⟩ := List.mem_map.mp hy
    exact eqX_ins tab_prog (eq_prog (h z hz))
  · exact eqX_ins tab_faults eq_faults
  · refine eqX_tup fun y hy => ?_
    obtain ⟨z, hz, rfl⟩ := List.mem_map.mp hy
    exact eqX_ed
  · exact eqX_bl
/-- != of two cases that are the same -/
theorem wp_neC {a b : M D} {hs : List (List D)} {fs : List Int} {ws : List (List Int)} {fr : Bool} {st : Sta} {Q : Bool → Sta → Prop} (h : ∀ x ∈ hs, Good x) (w : Wp a st fun x st1 => x = caD hs fs ws fr ∧ Wp b st1 fun y st2 => y = caD hs fs ws fr ∧ Q false st2) : Wp (eqT qt_Case true a b) st Q := by
  refine wp_eqT (w.imp fun x st1 ⟨e1, w⟩ => w.imp fun y st2 ⟨e2, q⟩ => ?_)
  subst e1
  subst e2
  exact ⟨_, _, _, f_Caseu_equ, true, rfl, rfl, by unfold qt_Case; rw [if_pos rfl], eq_case h, q⟩
theorem wp_pr {tab : Str → Option Mf} {mf : Mf} {a : M D} {x d : D} {st : Sta} {Q : D → Sta → Prop} {c : Str} {v : D} (hx : x = .ins c [("four", v)]) (ht : tab c = some mf) (hm : ∀ S, mf [x] S = .ok d S) (w : Wp a st fun y st1 => y = x ∧ Q d st1) : Wp (propM tab a) st Q := by
  refine J.wp_prop (w.imp fun y st1 ⟨e, q⟩ => ?_)
  subst e
  exact ⟨c, _, mf, d, hx, fun q => absurd (List.mem_singleton.mp q) (show ¬ (("" : Str) = ("four" : Str)) by decide), ht, hm _, q⟩
section
variable {a : M D} {st : Sta} {Q : D → Sta → Prop} {hs : List (List D)} {fs : List Int} {ws : List (List Int)} {fr : Bool}
theorem wp_cprograms (w : Wp a st fun y st1 => y = caD hs fs ws fr ∧ Q (.tup (hs.map prog)) st1) : Wp (propM pt_programs a) st Q := wp_pr (mf := f_Case_programs) rfl (by unfold pt_programs; rw [if_pos rfl]) (fun _ => rfl) w
theorem wp_cfaults (w : Wp a st fun y st1 => y = caD hs fs ws fr ∧ Q (faD fs) st1) : Wp (propM pt_faults a) st Q := wp_pr (mf := f_Case_faults) rfl (by unfold pt_faults; rw [if_pos rfl]) (fun _ => rfl) w
theorem wp_cwishes (w : Wp a st fun y st1 => y = caD hs fs ws fr ∧ Q (.tup (ws.map edD)) st1) : Wp (propM pt_wishes a) st Q := wp_pr (mf := f_Case_wishes) rfl (by unfold pt_wishes; rw [if_pos rfl]) (fun _ => rfl) w
theorem wp_cfresh (w : Wp a st fun y st1 => y = caD hs fs ws fr ∧ Q (.bl fr) st1) : Wp (propM pt_fresh a) st Q := wp_pr (mf := f_Case_fresh) rfl (by unfold pt_fresh; rw [if_pos rfl]) (fun _ => rfl) w
variable {x y z u : Int}
theorem wp_flost (w : Wp a st fun v st1 => v = faD [x, y, z, u] ∧ Q (.int x) st1) : Wp (propM pt_lost a) st Q := wp_pr (mf := f_Faults_lost) rfl (by unfold pt_lost; rw [if_pos rfl]) (fun _ => rfl) w
theorem wp_flate (w : Wp a st fun v st1 => v = faD [x, y, z, u] ∧ Q (.int y) st1) : Wp (propM pt_late a) st Q := wp_pr (mf := f_Faults_late) rfl (by unfold pt_late; rw [if_pos rfl]) (fun _ => rfl) w
theorem wp_ffalls (w : Wp a st fun v st1 => v = faD [x, y, z, u] ∧ Q (.int z) st1) : Wp (propM pt_falls a) st Q := wp_pr (mf := f_Faults_falls) rfl (by unfold pt_falls; rw [if_pos rfl]) (fun _ => rfl) w
theorem wp_fsweeps (w : Wp a st fun v st1 => v = faD [x, y, z, u] ∧ Q (.int u) st1) : Wp (propM pt_sweeps a) st Q := wp_pr (mf := f_Faults_sweeps) rfl (by unfold pt_sweeps; rw [if_pos rfl]) (fun _ => rfl) w
end
end
end Law
end
section
namespace Law
open PySem PySem.Spec L2 J
local macro_rules | `(tactic| walk_at "jstep") => `(tactic| first
  | (with_reducible refine wp_seq ?_) | (with_reducible refine fq_next ?_) | (with_reducible refine fq_ret ?_) | (with_reducible refine rq_ret ?_) | (with_reducible refine wp_cons ?_) | (with_reducible refine wp_nil ?_)
  | (with_reducible refine wp_pure ?_) | (with_reducible refine wp_op ?_) | (with_reducible refine wp_fn ?_) | (with_reducible refine wp_bi ?_) | (with_reducible refine wp_tup ?_) | (with_reducible refine wp_lst ?_)
  | (with_reducible refine wp_set ?_) | (with_reducible refine wp_ret ?_) | (with_reducible refine wp_if ?_) | (with_reducible refine wp_cmp ?_) | (with_reducible refine wp_not ?_) | (with_reducible refine wp_and ?_)
  | (with_reducible refine wp_or ?_) | (with_reducible refine wp_un ?_) | (with_reducible refine wp_tst ?_) | (with_reducible refine wp_true ?_) | (with_reducible refine wp_isNT ?_) | (with_reducible refine wp_notNT ?_)
  | (with_reducible refine wp_ownS ?_) | (with_reducible refine wp_asg ?_) | (with_reducible refine wp_par ?_) | (with_reducible refine wp_parO ?_) | (with_reducible refine wp_biN ?_) | (with_reducible refine wp_it ?_)
  | (with_reducible refine wp_isi ?_) | (with_reducible refine wp_isiC ?_) | (with_reducible refine wp_sl ?_) | (with_reducible refine wp_slN ?_) | (with_reducible refine wp_bd ?_) | (with_reducible refine wp_addN ?_)
  | (with_reducible refine wp_sm ?_) | (with_reducible refine wp_smN ?_) | (with_reducible refine wp_for ?_) | (with_reducible refine wp_comp ?_) | (with_reducible refine wp_cmp2 ?_) | (with_reducible refine wp_for_nil ?_)
  | (with_reducible refine wp_compN ?_) | (with_reducible refine lq_next ?_) | (with_reducible refine lq_ret ?_) | (with_reducible refine wp_rep ?_) | ((with_reducible apply wp_val); · rfl) | ((with_reducible apply wp_own); · rfl)
  | (with_reducible refine wp_fmt ?_) | (with_reducible refine wp_joinsN ?_) | (with_reducible refine wp_joinsC ?_) | (with_reducible refine wp_oNew ?_) | (with_reducible refine wp_oIx ?_) | (with_reducible refine wp_oTup ?_) | (with_reducible refine wp_oLen ?_)
  | (with_reducible refine wp_oRev ?_) | (with_reducible refine wp_oApp ?_) | (with_reducible refine wp_oPop ?_) | (with_reducible refine wp_oIns ?_) | (with_reducible refine wp_oSet ?_) | (with_reducible refine wp_par3 ?_) | (with_reducible refine wp_sort ?_) | (with_reducible refine wp_rev ?_)
  | (with_reducible refine J.wp_andV ?_) | (with_reducible refine wp_orV ?_) | (with_reducible refine wp_notV ?_) | (with_reducible refine wp_isNM ?_) | (with_reducible refine wp_notNM ?_) | (with_reducible refine wp_chain ?_) | (with_reducible refine wp_tabI ?_) | (with_reducible refine wp_tabT ?_)
  | (with_reducible refine wp_tabX ?_) | (with_reducible refine wp_expr ?_)
  | ((with_reducible apply wp_then); · rfl) | ((with_reducible apply wp_else); · rfl) | ((with_reducible apply wp_lenO); · rfl) | ((with_reducible apply wp_lenV); · rfl) | ((with_reducible apply wp_app); · rfl) | ((with_reducible apply wp_for_cons); · rfl)
  | ((with_reducible apply wp_compC); · rfl) | ((with_reducible apply ex_two); · rfl) | (with_reducible refine wp_of ?_) | (with_reducible refine wp_bind ?_) | ((with_reducible refine ⟨?_, ?_⟩); · exact of_decide_eq_true rfl))

section
variable {S ρ : List MO} {n : Nat}
def numR (fr : Bool) : List Str := ["numbers", if fr = true then "fresh" else "again"]
def fauR (fs : List Int) : List Str := "faults" :: fs.map txt
def wisR (w : List Int) : List Str := "wish" :: w.map txt
def handR : List Str := ["hand"]
def headR (fr : Bool) (fs : List Int) (ws : List (List Int)) : List (List Str) := numR fr :: fauR fs :: ws.map wisR
def blockR (h : List D) : List (List Str) := handR :: h.map wl
def caseR (hs : List (List D)) (fs : List Int) (ws : List (List Int)) (fr : Bool) : List (List Str) := headR fr fs ws ++ hs.flatMap blockR
def entD (ds : List (List Str)) : List D := ds.map fun d => D.lst ((d).map .str)
theorem str_ext {x y : Str} (h : TL.tl x = TL.tl y) : x = y := by rw [← strC_tl x, ← strC_tl y, h]
theorem str_int {i : Int} (h : 0 ≤ i ∧ i ≤ 12) : dStr [.int i] = some (.str (txt i)) := by
  have hl : i.natAbs.log2 < 1920 := small h (P := fun i => i.natAbs.log2 < 1920) (by decide +kernel)
  show (if i.natAbs.log2 < 1920 then some (D.str (toString i)) else none) = _
  rw [if_pos hl]
  rfl
theorem txt_good {i : Int} (h : 0 ≤ i ∧ i ≤ 12) : goodW (txt i) = true := small h (P := fun i => goodW (txt i) = true) (by decide +kernel)
theorem EdOk.bd {w : List Int} (h : EdOk w) : ∀ i ∈ w, 0 ≤ i ∧ i ≤ 12 := fun i hi => by
  rcases h.2.2 i hi with rfl | rfl | rfl | rfl <;> decide
theorem FourOk.bd {fs : List Int} (h : FourOk fs) : ∀ i ∈ fs, 0 ≤ i ∧ i ≤ 12 := fun i hi => by
  have := h.fb i hi
  omega
theorem txts_good {w : List Int} (h : ∀ i ∈ w, 0 ≤ i ∧ i ≤ 12) : ∀ x ∈ w.map txt, goodW x = true := fun x hx => by
  obtain ⟨i, hi, rfl⟩ := List.mem_map.mp hx
  exact txt_good (h i hi)
theorem numR_g {fr : Bool} : RowG (numR fr) := by
  refine ⟨fun w hw => ?_, by simp [numR], by simp [numR]⟩
  simp only [numR, List.mem_cons, List.not_mem_nil, or_false] at hw
  rcases hw with rfl | rfl
  · decide +kernel
  · cases fr <;> decide +kernel
theorem handR_g : RowG handR := by
  refine ⟨fun w hw => ?_, by simp [handR], by simp [handR]⟩
  simp only [handR, List.mem_cons, List.not_mem_nil, or_false] at hw
  subst hw
  decide +kernel
theorem fauR_g {fs : List Int} (h : FourOk fs) : RowG (fauR fs) := by
  refine ⟨fun w hw => ?_, by simp [fauR], by simp [fauR, h.f4]⟩
  rcases List.mem_cons.mp hw with rfl | hw
  · decide +kernel
  · exact txts_good h.bd w hw
theorem wisR_g {w : List Int} (h : EdOk w) : RowG (wisR w) := by
  refine ⟨fun x hx => ?_, by simp [wisR], by simp [wisR]; have := h.2.1; omega⟩
  rcases List.mem_cons.mp hx with rfl | hx
  · decide +kernel
  · exact txts_good h.bd x hx
theorem good_rows {h : List D} (hg : Good h) : ∀ r ∈ h.map wl, RowG r := fun r hr => by
  obtain ⟨d, hd, rfl⟩ := List.mem_map.mp hr
  exact row_of (ok12 (n := h.length) (hg.ok d hd) hg.hi)
theorem block_g {h : List D} (hg : Good h) : ∀ r ∈ blockR h, RowG r := fun r hr => by
  rcases List.mem_cons.mp hr with rfl | hr
  · exact handR_g
  · exact good_rows hg r hr
theorem head_g {fr : Bool} {fs : List Int} {ws : List (List Int)} (hf : FourOk fs) (hw : ∀ w ∈ ws, EdOk w) : ∀ r ∈ headR fr fs ws, RowG r := fun r hr => by
  rcases List.mem_cons.mp hr with rfl | hr
  · exact numR_g
  · rcases List.mem_cons.mp hr with rfl | hr
    · exact fauR_g hf
    · obtain ⟨w, hw', rfl⟩ := List.mem_map.mp hr
      exact wisR_g (hw w hw')
theorem blocks_len : ∀ {hs : List (List D)}, (∀ x ∈ hs, Good x) → (hs.flatMap blockR).length ≤ 13 * hs.length
  | [], _ => by simp
  | h :: hs, hg => by
    have h1 := (hg h (by simp)).hi
    have h2 := blocks_len (hs := hs) fun x hx => hg x (List.mem_cons_of_mem _ hx)
    simp only [List.flatMap_cons, List.length_append, blockR, List.length_cons, List.length_map] at h2 ⊢
    omega
theorem case_rows {hs : List (List D)} {fs : List Int} {ws : List (List Int)} {fr : Bool} (h : CaseOk hs fs ws) : RowsG (caseR hs fs ws fr) := by
  have hb := blocks_len h.hg
  have h2 := h.h2
  have h4 := h.w4
  refine ⟨by simp [caseR, headR], ?_, fun r hr => ?_⟩
  · simp only [caseR, headR, List.length_append, List.length_cons, List.length_map]
    omega
  · rcases List.mem_append.mp hr with hr | hr
    · exact head_g h.four h.we r hr
    · obtain ⟨x, hx, hr⟩ := List.mem_flatMap.mp hr
      exact block_g (h.hg x hx) r hr
theorem strs_comp {k : Nat} {ns : List Int} {r : List (Option Sl)} {Q : List D → Sta → Prop} (hk : k < r.length) (hb : ∀ i ∈ ns, 0 ≤ i ∧ i ≤ 12) (w : Q ((ns.map txt).map D.str) ⟨r, S⟩) :
    Wp (compL [k] (setV k) (pure true) (biM dStr (consM (getV k) (pure []))) [] (ns.map D.int)) ⟨r, S⟩ Q := by
  refine wp_compI (fun acc ds S' => S' = S ∧ ∃ n1 n2, n1 ++ n2 = ns ∧ acc = (n1.map txt).map D.str ∧ ds = n2.map D.int) (fun acc S' hi => ?_) (fun acc d ds S' hi => ?_) _ _ _ ⟨rfl, [], ns, rfl, rfl, rfl⟩
  · obtain ⟨rfl, n1, n2, e1, rfl, e2⟩ := hi
    have : n2 = [] := by
      cases n2 with
      | nil => rfl
      | cons _ _ => cases e2
    subst this
    rw [List.append_nil] at e1
    subst e1
    exact w
  · obtain ⟨rfl, n1, n2, e1, rfl, e2⟩ := hi
    cases n2 with
    | nil => cases e2
    | cons i n2 =>
      injection e2 with e3 e4
      subst e3
      have hi := hb i (by rw [← e1]; simp)
      have len : (maskSt [k] ⟨r, S'⟩).r.length = r.length := by simp [maskSt]
      refine ⟨(maskSt [k] ⟨r, S'⟩).set k (some (.val (.int i))), by unfold setV; rw [if_pos (by rw [len]; exact hk)], ?_⟩
      refine wp_pure ?_
      rw [if_pos rfl]
      refine wp_bi (wp_cons (wp_val ?_ (wp_nil ⟨_, str_int hi, ?_⟩)))
      · show ((maskSt [k] ⟨r, S'⟩).r.set k _)[k]? = _
        rw [List.getElem?_set_self (by rw [len]; exact hk)]
      · exact ⟨rfl, n1 ++ [i], n2, by simp [← e1], by simp, e4⟩

end
end Law
end
section
namespace Law
open PySem PySem.Spec L2 J
local macro_rules | `(tactic| walk_at "jstep") => `(tactic| first
  | (with_reducible refine wp_seq ?_) | (with_reducible refine fq_next ?_) | (with_reducible refine fq_ret ?_) | (with_reducible refine rq_ret ?_) | (with_reducible refine wp_cons ?_) | (with_reducible refine wp_nil ?_)
  | (with_reducible refine wp_pure ?_) | (with_reducible refine wp_op ?_) | (with_reducible refine wp_fn ?_) | (with_reducible refine wp_bi ?_) | (with_reducible refine wp_tup ?_) | (with_reducible refine wp_lst ?_)
  | (with_reducible refine wp_set ?_) | (with_reducible refine wp_ret ?_) | (with_reducible refine wp_if ?_) | (with_reducible refine wp_cmp ?_) | (with_reducible refine wp_not ?_) | (with_reducible refine wp_and ?_)
  | (with_reducible refine wp_or ?_) | (with_reducible refine wp_un ?_) | (with_reducible refine wp_tst ?_) | (with_reducible refine wp_true ?_) | (with_reducible refine wp_isNT ?_) | (with_reducible refine wp_notNT ?_)
  | (with_reducible refine wp_ownS ?_) | (with_reducible refine wp_asg ?_) | (with_reducible refine wp_par ?_) | (with_reducible refine wp_parO ?_) | (with_reducible refine wp_biN ?_) | (with_reducible refine wp_it ?_)
  | (with_reducible refine wp_isi ?_) | (with_reducible refine wp_isiC ?_) | (with_reducible refine wp_sl ?_) | (with_reducible refine wp_slN ?_) | (with_reducible refine wp_bd ?_) | (with_reducible refine wp_addN ?_)
  | (with_reducible refine wp_sm ?_) | (with_reducible refine wp_smN ?_) | (with_reducible refine wp_for ?_) | (with_reducible refine wp_comp ?_) | (with_reducible refine wp_cmp2 ?_) | (with_reducible refine wp_for_nil ?_)
  | (with_reducible refine wp_compN ?_) | (with_reducible refine lq_next ?_) | (with_reducible refine lq_ret ?_) | (with_reducible refine wp_rep ?_) | ((with_reducible apply wp_val); · rfl) | ((with_reducible apply wp_own); · rfl)
  | (with_reducible refine wp_fmt ?_) | (with_reducible refine wp_joinsN ?_) | (with_reducible refine wp_joinsC ?_) | (with_reducible refine wp_oNew ?_) | (with_reducible refine wp_oIx ?_) | (with_reducible refine wp_oTup ?_) | (with_reducible refine wp_oLen ?_)
  | (with_reducible refine wp_oRev ?_) | (with_reducible refine wp_oApp ?_) | (with_reducible refine wp_oPop ?_) | (with_reducible refine wp_oIns ?_) | (with_reducible refine wp_oSet ?_) | (with_reducible refine wp_par3 ?_) | (with_reducible refine wp_sort ?_) | (with_reducible refine wp_rev ?_)
  | (with_reducible refine J.wp_andV ?_) | (with_reducible refine wp_orV ?_) | (with_reducible refine wp_notV ?_) | (with_reducible refine wp_isNM ?_) | (with_reducible refine wp_notNM ?_) | (with_reducible refine wp_chain ?_) | (with_reducible refine wp_tabI ?_) | (with_reducible refine wp_tabT ?_)
  | (with_reducible refine wp_tabX ?_) | (with_reducible refine wp_expr ?_)
  | ((with_reducible apply wp_then); · rfl) | ((with_reducible apply wp_else); · rfl) | ((with_reducible apply wp_lenO); · rfl) | ((with_reducible apply wp_lenV); · rfl) | ((with_reducible apply wp_app); · rfl) | ((with_reducible apply wp_for_cons); · rfl)
  | ((with_reducible apply wp_compC); · rfl) | ((with_reducible apply ex_two); · rfl) | (with_reducible refine wp_of ?_) | (with_reducible refine wp_bind ?_) | ((with_reducible refine ⟨?_, ?_⟩); · exact of_decide_eq_true rfl))

section
variable {S ρ : List MO} {n : Nat}
theorem plain_app (a b : List (List Str)) : plainS (a ++ b) = plainS a ++ plainS b := str_ext (by
  rw [TL.tl_append, plain_tl, plain_tl, plain_tl]
  unfold flatL
  simp)
theorem plain_len {rs : List (List Str)} (h : ∀ r ∈ rs, RowG r) : (plainS rs).length ≤ 1001 * rs.length := by
  rw [len_tl, plain_tl]
  have := flatL_len (ls := rs.map fun d => (lineC d, wrow d)) fun p hp => by
    obtain ⟨d, hd, rfl⟩ := List.mem_map.mp hp
    exact line0 (h d hd)
  rwa [List.length_map] at this
theorem str_len (x y : Str) : (x ++ y).length = x.length + y.length := by rw [len_tl, TL.tl_append, List.length_append, ← len_tl, ← len_tl]
theorem fmt_int {i : Int} (h : 0 ≤ i ∧ i ≤ 12) : dFmt (.int i) = some (.str (txt i)) := by
  have hl : i.natAbs.log2 < 1920 := small h (P := fun i => i.natAbs.log2 < 1920) (by decide +kernel)
  show (if i.natAbs.log2 < 1920 then some (D.str (Str.ofString (toString i))) else none) = _
  rw [if_pos hl]
  rfl
theorem txt_len {i : Int} (h : 0 ≤ i ∧ i ≤ 12) : (txt i).length ≤ 9 := (goodW_len (txt_good h)).1
theorem join_row {r : List Str} (h : RowG r) : dJoin (.str " ") [.lst (r.map D.str)] = some (.str (Str.join " " r)) := (join_words (y := " ") h (by decide)).1
theorem row_len {r : List Str} (h : RowG r) : (Str.join " " r).length ≤ 120 := (join_words (y := " ") h (by decide)).2
theorem case_text_ok {hs : List (List D)} {fs : List Int} {ws : List (List Int)} {fr : Bool} (h : CaseOk hs fs ws) : Wf f_case_text [caD hs fs ws fr] S fun r S' => r = .str (plainS (caseR hs fs ws fr)) ∧ S' = S := by
  have h2 := h.h2
  have h4 := h.w4
  obtain ⟨a, b, c, d, rfl, ha, hb, hc, hd⟩ := h.four.ex
  have ba : 0 ≤ a ∧ a ≤ 12 := by omega
  have bb : 0 ≤ b ∧ b ≤ 12 := by omega
  have bc : 0 ≤ c ∧ c ≤ 12 := by omega
  have bd : 0 ≤ d ∧ d ≤ 12 := by omega
  have la := txt_len ba
  have lb := txt_len bb
  have lc := txt_len bc
  have ld := txt_len bd
  have hg := head_g (fr := fr) h.four h.we
  refine wf_run ?_
  unfold m_case_text
  repeat walk_at "jstep"
  refine wp_cfaults (hs := hs) (fs := [a, b, c, d]) (ws := ws) (fr := fr) (wp_val rfl ⟨rfl, ?_⟩)
  repeat walk_at "jstep"
  refine wp_cfresh (hs := hs) (fs := [a, b, c, d]) (ws := ws) (fr := fr) (wp_val rfl ⟨rfl, ?_⟩)
  repeat walk_at "jstep"
  have ef : (if fr = true then (pure (.str "numbers fresh") : M D) else pure (.str "numbers again")) = pure (.str (Str.join " " (numR fr))) := by cases fr <;> rfl
  rw [ef]
  repeat walk_at "jstep"
  have l1 : ("faults " : Str).length = 7 := rfl
  have l2 : (" " : Str).length = 1 := rfl
  have l0 : (Str.empty).length = 0 := rfl
  refine wp_flost (x := a) (y := b) (z := c) (u := d) (wp_val rfl ⟨rfl, _, fmt_int ba, _, rfl, by rw [str_len, str_len]; omega, ?_⟩)
  repeat walk_at "jstep"
  refine ⟨by rw [str_len, str_len, str_len]; omega, ?_⟩
  repeat walk_at "jstep"
  refine wp_flate (x := a) (y := b) (z := c) (u := d) (wp_val rfl ⟨rfl, _, fmt_int bb, _, rfl, by rw [str_len, str_len, str_len, str_len]; omega, ?_⟩)
  repeat walk_at "jstep"
  refine ⟨by rw [str_len, str_len, str_len, str_len, str_len]; omega, ?_⟩
  repeat walk_at "jstep"
  refine wp_ffalls (x := a) (y := b) (z := c) (u := d) (wp_val rfl ⟨rfl, _, fmt_int bc, _, rfl, by rw [str_len, str_len, str_len, str_len, str_len, str_len]; omega, ?_⟩)
  repeat walk_at "jstep"
  refine ⟨by rw [str_len, str_len, str_len, str_len, str_len, str_len, str_len]; omega, ?_⟩
  repeat walk_at "jstep"
  refine wp_fsweeps (x := a) (y := b) (z := c) (u := d) (wp_val rfl ⟨rfl, _, fmt_int bd, _, rfl, by rw [str_len, str_len, str_len, str_len, str_len, str_len, str_len, str_len]; omega, ?_⟩)
  repeat walk_at "jstep"
  have e1 : ((((((((Str.empty ++ "faults ") ++ txt a) ++ " ") ++ txt b) ++ " ") ++ txt c) ++ " ") ++ txt d) = Str.join " " (fauR [a, b, c, d]) := str_ext (by
    simp only [TL.tl_append, TL.tl_join, fauR, List.map_cons, List.map_nil, TL.joinL]
    have e2 : TL.tl ("faults " : Str) = TL.tl ("faults" : Str) ++ TL.tl (" " : Str) := rfl
    have e3 : TL.tl Str.empty = [] := rfl
    rw [e2, e3]
    simp)
  rw [e1]
  refine wp_cwishes (hs := hs) (fs := [a, b, c, d]) (ws := ws) (fr := fr) (wp_val rfl ⟨rfl, ?_⟩)
  repeat walk_at "jstep"
  refine wp_forI (fun ds st => ∃ (w1 w2 : List (List Int)) (x3 : Option Sl), st = ⟨[some (.val (caD hs [a, b, c, d] ws fr)), some (.val (faD [a, b, c, d])), some (.own ((headR fr [a, b, c, d] w1).map fun r => D.str (Str.join " " r))), x3, none, none, none, none], S⟩ ∧ w1 ++ w2 = ws ∧ ds = w2.map edD) (fun st hi => ?_) (fun x ds st hi => ?_) _ _ ⟨[], ws, none, rfl, rfl, rfl⟩
  · obtain ⟨w1, w2, x3, rfl, e2, e3⟩ := hi
    have : w2 = [] := by
      cases w2 with
      | nil => rfl
      | cons _ _ => cases e3
    subst this
    rw [List.append_nil] at e2
    subst e2
    repeat walk_at "jstep"
    refine ⟨by simp [headR]; omega, ?_⟩
    refine wp_compI (fun acc ds S' => S' = S ∧ ∃ r1 r2, r1 ++ r2 = headR fr [a, b, c, d] w1 ∧ acc = (r1.map lineS).map D.str ∧ ds = r2.map fun r => D.str (Str.join " " r)) (fun acc S' hi => ?_) (fun acc x ds S' hi => ?_) _ _ _ ⟨rfl, [], _, rfl, rfl, rfl⟩
    · obtain ⟨rfl, r1, r2, e4, rfl, e5⟩ := hi
      have : r2 = [] := by
        cases r2 with
        | nil => rfl
        | cons _ _ => cases e5
      subst this
      rw [List.append_nil] at e4
      subst e4
      repeat walk_at "jstep"
      refine ⟨_, join_ok' (b := 121) (fun x hx => ?_) ?_, ?_⟩
      · obtain ⟨r, hr, rfl⟩ := List.mem_map.mp hx
        exact lineS_len (hg r hr)
      · have : ((headR fr [a, b, c, d] w1).map lineS).length * (121 + ("" : Str).length) ≤ 10 * 121 := Nat.mul_le_mul (by simp [headR]; omega) (by decide)
        omega
      · repeat walk_at "jstep"
        refine wp_cprograms (hs := hs) (fs := [a, b, c, d]) (ws := w1) (fr := fr) (wp_val rfl ⟨rfl, ?_⟩)
        repeat walk_at "jstep"
        refine wp_forI (fun ds st => ∃ (h1 h2 : List (List D)) (x5 : Option Sl) (rr : Sl), st = ⟨[some (.val (caD hs [a, b, c, d] w1 fr)), some (.val (faD [a, b, c, d])), some rr, x3, some (.val (.str (plainS (headR fr [a, b, c, d] w1 ++ h1.flatMap blockR)))), x5, none, none], S'⟩ ∧ h1 ++ h2 = hs ∧ ds = h2.map prog) (fun st hi => ?_) (fun x ds st hi => ?_) _ _ ⟨[], hs, none, _, by rw [List.flatMap_nil, List.append_nil]; rfl, rfl, rfl⟩
        · obtain ⟨h1, h2, x5, rr, rfl, e2, e3⟩ := hi
          have : h2 = [] := by
            cases h2 with
            | nil => rfl
            | cons _ _ => cases e3
          subst this
          rw [List.append_nil] at e2
          subst e2
          repeat walk_at "jstep"
          exact ⟨rfl, rfl⟩
        · obtain ⟨h1, h2, x5, rr, rfl, e2, e3⟩ := hi
          cases h2 with
          | nil => cases e3
          | cons y h2 =>
            injection e3 with e4 e5
            subst e4
            have hy : Good y := h.hg y (by rw [← e2]; simp)
            have hyl := hy.hi
            have hb1 := blocks_len (hs := h1) fun x hx => h.hg x (by rw [← e2]; exact List.mem_append_left _ hx)
            have hb2 : h1.length ≤ 2 := by
              have := congrArg List.length e2
              simp at this
              omega
            have p1 := plain_len (rs := headR fr [a, b, c, d] w1 ++ h1.flatMap blockR) fun r hr => by
              rcases List.mem_append.mp hr with hr | hr
              · exact hg r hr
              · obtain ⟨x, hx, hr⟩ := List.mem_flatMap.mp hr
                exact block_g (h.hg x (by rw [← e2]; exact List.mem_append_left _ hx)) r hr
            have p2 : (headR fr [a, b, c, d] w1 ++ h1.flatMap blockR).length ≤ 40 := by
              simp only [headR, List.length_append, List.length_cons, List.length_map]
              omega
            have p3 := plain_len (rs := y.map wl) (good_rows hy)
            rw [List.length_map] at p3
            have l3 : ("hand\n" : Str).length = 5 := rfl
            refine ⟨_, rfl, ?_⟩
            repeat walk_at "jstep"
            refine ⟨_, add_str (by omega), ?_⟩
            repeat walk_at "jstep"
            refine (text_ok hy).imp fun r S2 ⟨e6, e7⟩ => ?_
            subst e6
            subst e7
            refine ⟨_, add_str (by rw [str_len]; omega), of_decide_eq_true rfl, ?_⟩
            refine ⟨h1 ++ [y], h2, some (.val (prog y)), rr, ?_, by simp [← e2], e5⟩
            have e7 : plainS (headR fr [a, b, c, d] w1 ++ (h1 ++ [y]).flatMap blockR) = (plainS (headR fr [a, b, c, d] w1 ++ h1.flatMap blockR) ++ "hand\n") ++ plainS (y.map wl) := by
              have e8 : headR fr [a, b, c, d] w1 ++ (h1 ++ [y]).flatMap blockR = (headR fr [a, b, c, d] w1 ++ h1.flatMap blockR) ++ ([handR] ++ y.map wl) := by simp [blockR]
              rw [e8, plain_app _ ([handR] ++ y.map wl), plain_app [handR]]
              have e9 : plainS [handR] = ("hand\n" : Str) := rfl
              rw [e9]
              refine str_ext ?_
              simp [TL.tl_append]
            rw [e7]
            rfl
    · obtain ⟨rfl, r1, r2, e4, rfl, e5⟩ := hi
      cases r2 with
      | nil => cases e5
      | cons r r2 =>
        injection e5 with e6 e7
        subst e6
        have hr := row_len (hg r (by rw [← e4]; simp))
        have l3 : ("\n" : Str).length = 1 := rfl
        refine ⟨_, rfl, ?_⟩
        repeat walk_at "jstep"
        rw [if_pos rfl]
        repeat walk_at "jstep"
        refine ⟨_, add_str (by omega), ?_⟩
        exact ⟨rfl, r1 ++ [r], r2, by simp [← e4], by simp [lineS], e7⟩
  · obtain ⟨w1, w2, x3, rfl, e2, e3⟩ := hi
    cases w2 with
    | nil => cases e3
    | cons y w2 =>
      injection e3 with e4 e5
      subst e4
      have hy := h.we y (by rw [← e2]; simp)
      have hyl := hy.2.1
      refine ⟨_, rfl, ?_⟩
      repeat walk_at "jstep"
      refine ⟨by simp; omega, ?_⟩
      refine strs_comp (of_decide_eq_true rfl) hy.bd ?_
      refine ⟨_, lists_add (by simp; omega), ?_⟩
      refine ⟨_, join_row (wisR_g hy), ?_⟩
      have hw1 : w1.length ≤ 4 := by
        have := congrArg List.length e2
        simp at this
        omega
      refine ⟨_, rfl, by simp [headR]; omega, ?_⟩
      refine ⟨w1 ++ [y], w2, some (.val (edD y)), ?_, by simp [← e2], e5⟩
      simp [headR]
      rfl
end
end Law
end
section
namespace Law
open PySem PySem.Spec L2 J
local macro_rules | `(tactic| walk_at "jstep") => `(tactic| first
  | (with_reducible refine wp_seq ?_) | (with_reducible refine fq_next ?_) | (with_reducible refine fq_ret ?_) | (with_reducible refine rq_ret ?_) | (with_reducible refine wp_cons ?_) | (with_reducible refine wp_nil ?_)
  | (with_reducible refine wp_pure ?_) | (with_reducible refine wp_op ?_) | (with_reducible refine wp_fn ?_) | (with_reducible refine wp_bi ?_) | (with_reducible refine wp_tup ?_) | (with_reducible refine wp_lst ?_)
  | (with_reducible refine wp_set ?_) | (with_reducible refine wp_ret ?_) | (with_reducible refine wp_if ?_) | (with_reducible refine wp_cmp ?_) | (with_reducible refine wp_not ?_) | (with_reducible refine wp_and ?_)
  | (with_reducible refine wp_or ?_) | (with_reducible refine wp_un ?_) | (with_reducible refine wp_tst ?_) | (with_reducible refine wp_true ?_) | (with_reducible refine wp_isNT ?_) | (with_reducible refine wp_notNT ?_)
  | (with_reducible refine wp_ownS ?_) | (with_reducible refine wp_asg ?_) | (with_reducible refine wp_par ?_) | (with_reducible refine wp_parO ?_) | (with_reducible refine wp_biN ?_) | (with_reducible refine wp_it ?_)
  | (with_reducible refine wp_isi ?_) | (with_reducible refine wp_isiC ?_) | (with_reducible refine wp_sl ?_) | (with_reducible refine wp_slN ?_) | (with_reducible refine wp_bd ?_) | (with_reducible refine wp_addN ?_)
  | (with_reducible refine wp_sm ?_) | (with_reducible refine wp_smN ?_) | (with_reducible refine wp_for ?_) | (with_reducible refine wp_comp ?_) | (with_reducible refine wp_cmp2 ?_) | (with_reducible refine wp_for_nil ?_)
  | (with_reducible refine wp_compN ?_) | (with_reducible refine lq_next ?_) | (with_reducible refine lq_ret ?_) | (with_reducible refine wp_rep ?_) | ((with_reducible apply wp_val); · rfl) | ((with_reducible apply wp_own); · rfl)
  | (with_reducible refine wp_fmt ?_) | (with_reducible refine wp_joinsN ?_) | (with_reducible refine wp_joinsC ?_) | (with_reducible refine wp_oNew ?_) | (with_reducible refine wp_oIx ?_) | (with_reducible refine wp_oTup ?_) | (with_reducible refine wp_oLen ?_)
  | (with_reducible refine wp_oRev ?_) | (with_reducible refine wp_oApp ?_) | (with_reducible refine wp_oPop ?_) | (with_reducible refine wp_oIns ?_) | (with_reducible refine wp_oSet ?_) | (with_reducible refine wp_par3 ?_) | (with_reducible refine wp_sort ?_) | (with_reducible refine wp_rev ?_)
  | (with_reducible refine J.wp_andV ?_) | (with_reducible refine wp_orV ?_) | (with_reducible refine wp_notV ?_) | (with_reducible refine wp_isNM ?_) | (with_reducible refine wp_notNM ?_) | (with_reducible refine wp_chain ?_) | (with_reducible refine wp_tabI ?_) | (with_reducible refine wp_tabT ?_)
  | (with_reducible refine wp_tabX ?_) | (with_reducible refine wp_expr ?_)
  | ((with_reducible apply wp_then); · rfl) | ((with_reducible apply wp_else); · rfl) | ((with_reducible apply wp_lenO); · rfl) | ((with_reducible apply wp_lenV); · rfl) | ((with_reducible apply wp_app); · rfl) | ((with_reducible apply wp_for_cons); · rfl)
  | ((with_reducible apply wp_compC); · rfl) | ((with_reducible apply ex_two); · rfl) | (with_reducible refine wp_of ?_) | (with_reducible refine wp_bind ?_) | ((with_reducible refine ⟨?_, ?_⟩); · exact of_decide_eq_true rfl))

section
variable {S ρ : List MO} {n : Nat}
abbrev Qs : Type := List (Int × List Str)
def rowQ (q : Int × List Str) : D := .tup [.int q.1, .lst (q.2.map .str)]
theorem rowQ_D {q : Int × List Str} : rowQ q = rowD (q.1, wrow q.2) := by
  unfold rowQ rowD wrow
  have e : (q.2.map TL.tl).map (fun w => D.str (strC w)) = q.2.map D.str := by
    rw [List.map_map]
    exact List.map_congr_left fun w _ => congrArg D.str (strC_tl w)
  simp only [e]
theorem qs_of : ∀ {rs : List (List Str)} {ps : List (Int × List (List Nat))}, ps.map (·.2) = rs.map wrow → ∃ qs : Qs, ps.map rowD = qs.map rowQ ∧ qs.map (·.2) = rs
  | [], [], _ => ⟨[], rfl, rfl⟩
  | [], _ :: _, h => by cases h
  | _ :: _, [], h => by cases h
  | r :: rs, (k, p) :: ps, h => by
    have h : p :: ps.map (·.2) = wrow r :: rs.map wrow := h
    injection h with h1 h2
    subst h1
    obtain ⟨qs, e1, e2⟩ := qs_of h2
    exact ⟨(k, r) :: qs, by rw [List.map_cons, List.map_cons, rowQ_D, e1], by rw [List.map_cons, e2]⟩
theorem pys_str : ∀ l : List Str, D.pys (l.map D.str) = some (l.map PyData.str)
  | [] => rfl
  | w :: l => by
    show (D.py (.str w)).bind (fun p => (D.pys (l.map D.str)).map fun ps => p :: ps) = _
    rw [pys_str l]
    rfl
theorem depth_str : ∀ l : List Str, PyData.depthAll (l.map PyData.str) ≤ 1
  | [] => by simp [PyData.depthAll]
  | w :: l => by
    have := depth_str l
    simp only [List.map_cons, PyData.depthAll, PyData.depth]
    omega
theorem eq_hand {r : List Str} : (dEq (.lst (r.map D.str)) (.rls (([("hand" : Str)] : List Str).map D.str))).bind D.isB = some (decide (r = handR)) := by
  have h1 : D.py (.lst (r.map D.str)) = some (.list (r.map PyData.str)) := by
    show (D.pys _).map PyData.list = _
    rw [pys_str]
    rfl
  have h2 : D.py (.rls (([("hand" : Str)] : List Str).map D.str)) = some (.list [.str "hand"]) := rfl
  have h3 := depth_str r
  unfold dEq eqD
  rw [h1, h2]
  simp only [Option.bind_some]
  rw [if_pos ⟨by simp only [PyData.depth]; omega, by simp [PyData.depth, PyData.depthAll]⟩]
  show some (PyData.eqv _ _) = _
  congr 1
  match r with
  | [] => simp [PyData.eqv, PyData.eqvAll, handR]
  | [x] =>
    simp only [List.map_cons, List.map_nil, PyData.eqv, PyData.eqvAll, handR, Bool.and_true]
    by_cases e : x = ("hand" : Str)
    · subst e
      simp
    · rw [beq_eq_false_iff_ne.mpr e]
      show false = decide ([x] = handR)
      refine (decide_eq_false fun q => ?_).symm
      injection q with q _
      exact e q
  | x :: y :: r => simp [PyData.eqv, PyData.eqvAll, handR]
theorem ne_ints {l : List Int} (h : l ≠ []) : (dNe (.lst (l.map D.int)) (.lst [])).bind D.isB = some true := by
  have h1 : D.py (.lst (l.map D.int)) = some (.list (l.map PyData.int)) := by
    show (D.pys _).map PyData.list = _
    rw [ints_py]
    rfl
  have h2 : D.py (.lst []) = some (.list []) := rfl
  have h3 := ints_depth l
  unfold dNe eqD
  rw [h1, h2]
  simp only [Option.bind_some]
  rw [if_pos ⟨by simp only [PyData.depth]; omega, by simp [PyData.depth, PyData.depthAll]⟩]
  cases l with
  | nil => exact absurd rfl h
  | cons x l => simp [PyData.eqv, PyData.eqvAll, D.isB]
/-- where hands begin -/
def posH (k : Int) : List (List Str) → List Int
  | [] => []
  | r :: rs => if r = handR then k :: posH (k + 1) rs else posH (k + 1) rs
theorem posH_skip : ∀ {a b : List (List Str)} {k : Int}, (∀ r ∈ a, r ≠ handR) → posH k (a ++ b) = posH (k + a.length) b
  | [], b, k, _ => by simp
  | r :: a, b, k, h => by
    show (if r = handR then _ else posH (k + 1) (a ++ b)) = _
    rw [if_neg (h r (by simp)), posH_skip fun x hx => h x (List.mem_cons_of_mem _ hx)]
    congr 1
    simp only [List.length_cons]
    omega
theorem head_ne {fr : Bool} {fs : List Int} {ws : List (List Int)} : ∀ r ∈ headR fr fs ws, r ≠ handR := fun r hr e => by
  rcases List.mem_cons.mp hr with rfl | hr
  · have := congrArg List.length e
    simp [numR, handR] at this
  · rcases List.mem_cons.mp hr with rfl | hr
    · injection e with e _
      revert e
      decide
    · obtain ⟨w, hw, rfl⟩ := List.mem_map.mp hr
      injection e with e _
      revert e
      decide
theorem fin_nohand : ((steps 12).all fun d => decide (wl d ≠ handR)) = true := by kernel_rfl
theorem no_hand {d : D} (h : d ∈ steps 12) : wl d ≠ handR := of_decide_eq_true (List.all_eq_true.mp fin_nohand d h)
theorem need_ok {k : Int} : f_need [.bl true, .int k] S = .ok .non S := rfl
def four4 : List Int := [0, 1, 2, 3]
def fours : List (List Int) := four4.flatMap fun a => four4.flatMap fun b => four4.flatMap fun c => four4.map fun d => [a, b, c, d]
theorem fin_faults : fours.map (fun fs => f_faults_of [.lst ((fauR fs).map D.str)] S) = fours.map fun fs => Rf.ok (.tup (fs.map .int)) S := by kernel_rfl
theorem fin_wish : eds.map (fun w => f_wish_of [.lst ((wisR w).map D.str)] S) = eds.map fun w => Rf.ok (edD w) S := by kernel_rfl
theorem faults_of_ok {fs : List Int} (h : FourOk fs) : f_faults_of [.lst ((fauR fs).map D.str)] S = .ok (.tup (fs.map .int)) S := by
  obtain ⟨a, b, c, d, rfl, ha, hb, hc, hd⟩ := h.ex
  have m : ∀ x : Int, 0 ≤ x ∧ x ≤ 3 → x ∈ four4 := fun x hx => by
    have : x = 0 ∨ x = 1 ∨ x = 2 ∨ x = 3 := by omega
    rcases this with rfl | rfl | rfl | rfl <;> simp [four4]
  refine List.map_inj_left.mp fin_faults [a, b, c, d] ?_
  exact List.mem_flatMap.mpr ⟨a, m a ha, List.mem_flatMap.mpr ⟨b, m b hb, List.mem_flatMap.mpr ⟨c, m c hc, List.mem_map.mpr ⟨d, m d hd, rfl⟩⟩⟩⟩
theorem wish_of_ok {w : List Int} (h : EdOk w) : f_wish_of [.lst ((wisR w).map D.str)] S = .ok (edD w) S := List.map_inj_left.mp fin_wish w (mem_eds h)
end
end Law
end
section
namespace Law
open PySem PySem.Spec L2 J
local macro_rules | `(tactic| walk_at "jstep") => `(tactic| first
  | (with_reducible refine wp_seq ?_) | (with_reducible refine fq_next ?_) | (with_reducible refine fq_ret ?_) | (with_reducible refine rq_ret ?_) | (with_reducible refine wp_cons ?_) | (with_reducible refine wp_nil ?_)
  | (with_reducible refine wp_pure ?_) | (with_reducible refine wp_op ?_) | (with_reducible refine wp_fn ?_) | (with_reducible refine wp_bi ?_) | (with_reducible refine wp_tup ?_) | (with_reducible refine wp_lst ?_)
  | (with_reducible refine wp_set ?_) | (with_reducible refine wp_ret ?_) | (with_reducible refine wp_if ?_) | (with_reducible refine wp_cmp ?_) | (with_reducible refine wp_not ?_) | (with_reducible refine wp_and ?_)
  | (with_reducible refine wp_or ?_) | (with_reducible refine wp_un ?_) | (with_reducible refine wp_tst ?_) | (with_reducible refine wp_true ?_) | (with_reducible refine wp_isNT ?_) | (with_reducible refine wp_notNT ?_)
  | (with_reducible refine wp_ownS ?_) | (with_reducible refine wp_asg ?_) | (with_reducible refine wp_par ?_) | (with_reducible refine wp_parO ?_) | (with_reducible refine wp_biN ?_) | (with_reducible refine wp_it ?_)
  | (with_reducible refine wp_isi ?_) | (with_reducible refine wp_isiC ?_) | (with_reducible refine wp_sl ?_) | (with_reducible refine wp_slN ?_) | (with_reducible refine wp_bd ?_) | (with_reducible refine wp_addN ?_)
  | (with_reducible refine wp_sm ?_) | (with_reducible refine wp_smN ?_) | (with_reducible refine wp_for ?_) | (with_reducible refine wp_comp ?_) | (with_reducible refine wp_cmp2 ?_) | (with_reducible refine wp_for_nil ?_)
  | (with_reducible refine wp_compN ?_) | (with_reducible refine lq_next ?_) | (with_reducible refine lq_ret ?_) | (with_reducible refine wp_rep ?_) | ((with_reducible apply wp_val); · rfl) | ((with_reducible apply wp_own); · rfl)
  | (with_reducible refine wp_fmt ?_) | (with_reducible refine wp_joinsN ?_) | (with_reducible refine wp_joinsC ?_) | (with_reducible refine wp_oNew ?_) | (with_reducible refine wp_oIx ?_) | (with_reducible refine wp_oTup ?_) | (with_reducible refine wp_oLen ?_)
  | (with_reducible refine wp_oRev ?_) | (with_reducible refine wp_oApp ?_) | (with_reducible refine wp_oPop ?_) | (with_reducible refine wp_oIns ?_) | (with_reducible refine wp_oSet ?_) | (with_reducible refine wp_par3 ?_) | (with_reducible refine wp_sort ?_) | (with_reducible refine wp_rev ?_)
  | (with_reducible refine J.wp_andV ?_) | (with_reducible refine wp_orV ?_) | (with_reducible refine wp_notV ?_) | (with_reducible refine wp_isNM ?_) | (with_reducible refine wp_notNM ?_) | (with_reducible refine wp_chain ?_) | (with_reducible refine wp_tabI ?_) | (with_reducible refine wp_tabT ?_)
  | (with_reducible refine wp_tabX ?_) | (with_reducible refine wp_expr ?_)
  | ((with_reducible apply wp_then); · rfl) | ((with_reducible apply wp_else); · rfl) | ((with_reducible apply wp_lenO); · rfl) | ((with_reducible apply wp_lenV); · rfl) | ((with_reducible apply wp_app); · rfl) | ((with_reducible apply wp_for_cons); · rfl)
  | ((with_reducible apply wp_compC); · rfl) | ((with_reducible apply ex_two); · rfl) | (with_reducible refine wp_of ?_) | (with_reducible refine wp_bind ?_) | ((with_reducible refine ⟨?_, ?_⟩); · exact of_decide_eq_true rfl))

section
variable {S ρ : List MO} {n : Nat}
theorem tup_empty {ws : List (List Int)} : dEq (.tup (ws.map edD)) (.tup []) = some (.bl (decide (ws = []))) := by
  have h1 : ∀ ws : List (List Int), D.pys (ws.map edD) = some (ws.map fun w => PyData.tuple (w.map PyData.int)) := fun ws => by
    induction ws with
    | nil => rfl
    | cons w ws ih =>
      show (D.py (edD w)).bind (fun p => (D.pys (ws.map edD)).map fun ps => p :: ps) = _
      have e : D.py (edD w) = some (.tuple (w.map PyData.int)) := by
        show (D.pys (w.map D.int)).map PyData.tuple = _
        rw [ints_py]
        rfl
      rw [e, ih]
      rfl
  have h2 : D.py (.tup (ws.map edD)) = some (.tuple (ws.map fun w => PyData.tuple (w.map PyData.int))) := by
    show (D.pys _).map PyData.tuple = _
    rw [h1]
    rfl
  have h3 : PyData.depthAll (ws.map fun w => PyData.tuple (w.map PyData.int)) ≤ 2 := by
    induction ws with
    | nil => simp [PyData.depthAll]
    | cons w ws ih =>
      have := ints_depth w
      have := ih (by
        show (D.pys _).map PyData.tuple = _
        rw [h1]
        rfl)
      simp only [List.map_cons, PyData.depthAll, PyData.depth]
      omega
  have h4 : D.py (.tup []) = some (.tuple []) := rfl
  unfold dEq eqD
  rw [h2, h4]
  simp only [Option.bind_some]
  rw [if_pos ⟨by simp only [PyData.depth]; omega, by simp [PyData.depth, PyData.depthAll]⟩]
  cases ws with
  | nil => simp [PyData.eqv, PyData.eqvAll]
  | cons w ws => simp [PyData.eqv, PyData.eqvAll]
theorem tups_add {x y : List D} (h : x.length + y.length ≤ 16777216) : dAdd (.tup x) (.tup y) = some (.tup (x ++ y)) := by
  unfold dAdd
  simp only
  rw [if_pos h]
theorem at_last {l : List D} {x : D} : dIx (.tup (l ++ [x])) (.int (-1)) = some x := by
  show atI (l ++ [x]) (-1) = _
  unfold atI ixN
  rw [if_neg (by decide)]
  simp only [List.length_append, List.length_singleton]
  rw [if_pos (by omega)]
  show (l ++ [x])[(-1 + ((l.length + 1 : Nat) : Int)).toNat]? = some x
  rw [show (-1 + ((l.length + 1 : Nat) : Int)).toNat = l.length by omega]
  simp
theorem head_ok {fr : Bool} {fs : List Int} {ws : List (List Int)} {qs : Qs} (hf : FourOk fs) (h4 : ws.length ≤ 4) (ha : Asc ws) (he : ∀ w ∈ ws, EdOk w) (hq : qs.map (·.2) = headR fr fs ws) :
    Wf f_head_of [.lst (qs.map rowQ)] S fun r S' => r = .tup [.bl fr, .tup (fs.map .int), .tup (ws.map edD)] ∧ S' = S := by
  match qs, hq with
  | (k0, r0) :: (k1, r1) :: qs, hq =>
    have hq : r0 :: r1 :: qs.map (·.2) = numR fr :: fauR fs :: ws.map wisR := hq
    injection hq with e0 hq
    injection hq with e1 hqw
    subst e0
    subst e1
    refine wf_run ?_
    unfold m_head_of
    have hws : ∀ (w1 w2 : List (List Int)) (y : List Int), w1 ++ y :: w2 = ws → w1 = [] ∨ ∃ l z, w1 = l ++ [z] ∧ EdOk z ∧ ck 3 z < ck 3 y := fun w1 w2 y e => by
      rcases List.eq_nil_or_concat w1 with e1 | ⟨l, z, e1⟩
      · exact .inl e1
      · refine .inr ⟨l, z, by rw [e1, List.concat_eq_append], he z (by rw [← e, e1]; simp), ?_⟩
        rw [← e, e1] at ha
        exact (List.pairwise_append.mp ha).2.2 z (by simp) y (by simp)
    have hn : ∀ f, nums 0 (((k0, numR f) :: (k1, fauR fs) :: qs).map rowQ) = .tup [.int 0, rowQ (k0, numR f)] :: .tup [.int 1, rowQ (k1, fauR fs)] :: nums 2 (qs.map rowQ) := fun _ => rfl
    cases fr
    all_goals
      repeat walk_at "jstep"
      rw [hn]
      repeat walk_at "jstep"
      refine J.wf_eq need_ok ?_
      repeat walk_at "jstep"
      refine J.wf_eq (faults_of_ok hf) ?_
      repeat walk_at "jstep"
      refine J.wf_eq need_ok ?_
      repeat walk_at "jstep"
      refine wp_forI (fun ds st => ∃ (w1 w2 : List (List Int)) (q : Qs) (k : Int) (x4 x5 x6 x7 : Option Sl), st = ⟨[some (.val (.lst (((k0, numR _) :: (k1, fauR fs) :: qs).map rowQ))), some (.val (.bl _)), some (.val (.tup (fs.map .int))), some (.val (.tup (w1.map edD))), x4, x5, x6, x7], S⟩ ∧ w1 ++ w2 = ws ∧ ds = nums k (q.map rowQ) ∧ q.map (·.2) = w2.map wisR ∧ 2 ≤ k) (fun st hi => ?_) (fun d ds st hi => ?_) _ _ ⟨[], ws, qs, 2, _, _, _, _, rfl, rfl, rfl, hqw, by decide⟩
      · obtain ⟨w1, w2, q, k, x4, x5, x6, x7, rfl, e1, e2, e3, e4⟩ := hi
        have hq0 : q = [] := by
          cases q with
          | nil => rfl
          | cons _ _ => cases e2
        subst hq0
        have hw0 : w2 = [] := by
          cases w2 with
          | nil => rfl
          | cons _ _ => cases e3
        subst hw0
        rw [List.append_nil] at e1
        subst e1
        repeat walk_at "jstep"
        exact ⟨rfl, rfl⟩
      · obtain ⟨w1, w2, q, k, x4, x5, x6, x7, rfl, e1, e2, e3, e4⟩ := hi
        cases q with
        | nil => cases e2
        | cons q0 q =>
          cases w2 with
          | nil => cases e3
          | cons y w2 =>
            obtain ⟨kk, r⟩ := q0
            have e2 : d :: ds = .tup [.int k, rowQ (kk, r)] :: nums (k + 1) (q.map rowQ) := e2
            injection e2 with e5 e6
            subst e5
            have e3 : r :: q.map (·.2) = wisR y :: w2.map wisR := e3
            injection e3 with e7 e8
            subst e7
            have hy := he y (by rw [← e1]; simp)
            have hw1 : w1.length < 4 := by
              have := congrArg List.length e1
              simp at this
              omega
            refine ⟨_, rfl, ?_⟩
            repeat walk_at "jstep"
            refine wp_else (by rw [eqv_int]; exact beq_eq_false_iff_ne.mpr (by omega)) ?_
            repeat walk_at "jstep"
            refine wp_else (by rw [eqv_int]; exact beq_eq_false_iff_ne.mpr (by omega)) ?_
            repeat walk_at "jstep"
            refine J.wf_eq (wish_of_ok hy) ?_
            repeat walk_at "jstep"
            refine wp_then (decide_eq_true (by simp; omega)) ?_
            repeat walk_at "jstep"
            refine ⟨_, tup_empty, ?_⟩
            refine ⟨_, rfl, ?_⟩
            rcases hws w1 w2 y e1 with rfl | ⟨l, z, rfl, hz, hlt⟩
            · refine wp_then (decide_eq_true rfl) ?_
              repeat walk_at "jstep"
              refine J.wf_eq need_ok ?_
              repeat walk_at "jstep"
              exact ⟨[y], w2, q, k + 1, _, _, _, _, rfl, e1, e6, e8, by omega⟩
            · refine wp_else (decide_eq_false (by simp)) ?_
              repeat walk_at "jstep"
              refine ⟨edD z, by rw [List.map_append]; exact at_last, ?_⟩
              repeat walk_at "jstep"
              refine ⟨_, lt_eds hz.b hy.b, ?_⟩
              rw [decide_eq_true hlt]
              repeat walk_at "jstep"
              refine J.wf_eq need_ok ?_
              repeat walk_at "jstep"
              refine ⟨_, tups_add (y := [edD y]) (by simp at hw1 ⊢; omega), ?_⟩
              repeat walk_at "jstep"
              have e9 : (l ++ [z]).map edD ++ [edD y] = (l ++ [z] ++ [y]).map edD := by simp
              rw [e9]
              exact ⟨l ++ [z] ++ [y], w2, q, k + 1, _, _, _, _, rfl, by simpa using e1, e6, e8, by omega⟩
end
end Law
end
section
namespace Law
open PySem PySem.Spec L2 J
local macro_rules | `(tactic| walk_at "jstep") => `(tactic| first
  | (with_reducible refine wp_seq ?_) | (with_reducible refine fq_next ?_) | (with_reducible refine fq_ret ?_) | (with_reducible refine rq_ret ?_) | (with_reducible refine wp_cons ?_) | (with_reducible refine wp_nil ?_)
  | (with_reducible refine wp_pure ?_) | (with_reducible refine wp_op ?_) | (with_reducible refine wp_fn ?_) | (with_reducible refine wp_bi ?_) | (with_reducible refine wp_tup ?_) | (with_reducible refine wp_lst ?_)
  | (with_reducible refine wp_set ?_) | (with_reducible refine wp_ret ?_) | (with_reducible refine wp_if ?_) | (with_reducible refine wp_cmp ?_) | (with_reducible refine wp_not ?_) | (with_reducible refine wp_and ?_)
  | (with_reducible refine wp_or ?_) | (with_reducible refine wp_un ?_) | (with_reducible refine wp_tst ?_) | (with_reducible refine wp_true ?_) | (with_reducible refine wp_isNT ?_) | (with_reducible refine wp_notNT ?_)
  | (with_reducible refine wp_ownS ?_) | (with_reducible refine wp_asg ?_) | (with_reducible refine wp_par ?_) | (with_reducible refine wp_parO ?_) | (with_reducible refine wp_biN ?_) | (with_reducible refine wp_it ?_)
  | (with_reducible refine wp_isi ?_) | (with_reducible refine wp_isiC ?_) | (with_reducible refine wp_sl ?_) | (with_reducible refine wp_slN ?_) | (with_reducible refine wp_bd ?_) | (with_reducible refine wp_addN ?_)
  | (with_reducible refine wp_sm ?_) | (with_reducible refine wp_smN ?_) | (with_reducible refine wp_for ?_) | (with_reducible refine wp_comp ?_) | (with_reducible refine wp_cmp2 ?_) | (with_reducible refine wp_for_nil ?_)
  | (with_reducible refine wp_compN ?_) | (with_reducible refine lq_next ?_) | (with_reducible refine lq_ret ?_) | (with_reducible refine wp_rep ?_) | ((with_reducible apply wp_val); · rfl) | ((with_reducible apply wp_own); · rfl)
  | (with_reducible refine wp_fmt ?_) | (with_reducible refine wp_joinsN ?_) | (with_reducible refine wp_joinsC ?_) | (with_reducible refine wp_oNew ?_) | (with_reducible refine wp_oIx ?_) | (with_reducible refine wp_oTup ?_) | (with_reducible refine wp_oLen ?_)
  | (with_reducible refine wp_oRev ?_) | (with_reducible refine wp_oApp ?_) | (with_reducible refine wp_oPop ?_) | (with_reducible refine wp_oIns ?_) | (with_reducible refine wp_oSet ?_) | (with_reducible refine wp_par3 ?_) | (with_reducible refine wp_sort ?_) | (with_reducible refine wp_rev ?_)
  | (with_reducible refine J.wp_andV ?_) | (with_reducible refine wp_orV ?_) | (with_reducible refine wp_notV ?_) | (with_reducible refine wp_isNM ?_) | (with_reducible refine wp_notNM ?_) | (with_reducible refine wp_chain ?_) | (with_reducible refine wp_tabI ?_) | (with_reducible refine wp_tabT ?_)
  | (with_reducible refine wp_tabX ?_) | (with_reducible refine wp_expr ?_)
  | ((with_reducible apply wp_then); · rfl) | ((with_reducible apply wp_else); · rfl) | ((with_reducible apply wp_lenO); · rfl) | ((with_reducible apply wp_lenV); · rfl) | ((with_reducible apply wp_app); · rfl) | ((with_reducible apply wp_for_cons); · rfl)
  | ((with_reducible apply wp_compC); · rfl) | ((with_reducible apply ex_two); · rfl) | (with_reducible refine wp_of ?_) | (with_reducible refine wp_bind ?_) | ((with_reducible refine ⟨?_, ?_⟩); · exact of_decide_eq_true rfl))

section
variable {S ρ : List MO} {n : Nat}
abbrev Bs : Type := List (Int × Qs)
def blkV (n : Nat) : Bs → List D
  | [] => []
  | b :: r => .tup [.int b.1, .obj n] :: blkV (n + 1) r
def blkL (bs : Bs) : List D := bs.map fun b => .tup [.int b.1, .lst (b.2.map rowQ)]
def blkM (bs : Bs) : List MO := bs.map fun b => .lst (b.2.map rowQ)
theorem blkV_add : ∀ {bs : Bs} {n : Nat} {b : Int × Qs}, blkV n (bs ++ [b]) = blkV n bs ++ [.tup [.int b.1, .obj (n + bs.length)]]
  | [], n, b => rfl
  | a :: bs, n, b => by
    show .tup [.int a.1, .obj n] :: blkV (n + 1) (bs ++ [b]) = _
    rw [blkV_add]
    simp only [blkV, List.cons_append, List.length_cons]
    rw [show n + 1 + bs.length = n + (bs.length + 1) by omega]
theorem rows_bd {k : Nat} {q : Qs} : D.bds k (q.map rowQ) = true := bds_map fun x _ => by
  have : D.bds k (x.2.map D.str) = true := bds_map fun y _ => by simp [D.bd]
  simp [rowQ, D.bd, D.bds, this]
theorem blkL_bd {k : Nat} {bs : Bs} : D.bds k (blkL bs) = true := bds_map fun x _ => by
  simp [D.bd, D.bds, rows_bd]
theorem blk_ok : ∀ {bs : Bs} {n : Nat}, meltOk n (blkM bs) = some (bs.map fun b => b.2.map rowQ)
  | [], _ => rfl
  | b :: bs, n => by
    show (if D.bds n (b.2.map rowQ) = true then (meltOk (n + 1) (blkM bs)).map (b.2.map rowQ :: ·) else none) = _
    rw [if_pos rows_bd, blk_ok]
    rfl
theorem thaws_app {n : Nat} {l : List D} : ∀ {a b : List D}, D.thaws n l (a ++ b) = D.thaws n l a ++ D.thaws n l b
  | [], b => by simp only [D.thaws, List.nil_append]
  | x :: a, b => by simp only [D.thaws, List.cons_append, thaws_app (a := a)]
theorem bds_app {n : Nat} : ∀ {a b : List D}, D.bds n a = true → D.bds n b = true → D.bds n (a ++ b) = true
  | [], b, _, h => h
  | x :: a, b, h1, h2 => by
    simp only [D.bds, Bool.and_eq_true] at h1
    simp only [List.cons_append, D.bds, h1.1, bds_app h1.2 h2, Bool.and_self]
theorem blk_melt : ∀ {bs : Bs} {n : Nat} {pre : List D}, D.bds n pre = true → meltD n (bs.map fun b => b.2.map rowQ) (.lst (pre ++ blkV n bs)) = .lst (pre ++ blkL bs)
  | [], n, pre, _ => rfl
  | b :: bs, n, pre, h => by
    have h1 : D.bds (n + 1) (pre ++ [.tup [.int b.1, .obj n]]) = true := bds_app (D.bds_mono (Nat.le_succ n) h) (by simp [D.bds, D.bd])
    have ih := blk_melt (bs := bs) (n := n + 1) h1
    show D.thaw1 n (b.2.map rowQ) (meltD (n + 1) (bs.map fun b => b.2.map rowQ) (.lst (pre ++ .tup [.int b.1, .obj n] :: blkV (n + 1) bs))) = _
    have e : pre ++ .tup [.int b.1, .obj n] :: blkV (n + 1) bs = pre ++ [.tup [.int b.1, .obj n]] ++ blkV (n + 1) bs := by simp
    rw [e, ih, D.thaw1, thaws_app, thaws_app, thaws_bd h, thaws_bd blkL_bd]
    simp [D.thaws, D.thaw1, blkL]
theorem blk_last {bs : Bs} {b : Int × Qs} {n : Nat} : dIx (.lst (blkV n (bs ++ [b]))) (.int (-1)) = some (.tup [.int b.1, .obj (n + bs.length)]) := by
  rw [blkV_add]
  exact at_last
theorem blk_at {bs : Bs} {b : Int × Qs} {r : List MO} : (S ++ blkM (bs ++ [b]))[S.length + bs.length]? = some (.lst (b.2.map rowQ)) := by
  rw [List.getElem?_append_right (by omega)]
  simp [blkM]
theorem blk_set {bs : Bs} {k : Int} {q q' : Qs} : (S ++ blkM (bs ++ [(k, q)])).set (S.length + bs.length) (.lst (q'.map rowQ)) = S ++ blkM (bs ++ [(k, q')]) := by
  rw [List.set_append_right _ _ (by omega)]
  simp [blkM]
/-- where the walk over the hands' lines stands -/
structure At (hs : List (List D)) (bs : Bs) (q : Qs) : Prop where
  ex : ∃ (h1 : List (List D)) (cur : List D) (hr : List (List D)), q.map (·.2) = cur.map wl ++ hr.flatMap blockR ∧ (∀ d ∈ cur, d ∈ steps 12) ∧
    ((bs = [] ∧ cur = [] ∧ h1 = [] ∧ hr = hs) ∨ ∃ bs0 k b y, bs = bs0 ++ [(k, b)] ∧ bs0.map (fun b => b.2.map (·.2)) = h1.map (fun h => h.map wl) ∧ b.map (·.2) ++ cur.map wl = y.map wl ∧ h1 ++ y :: hr = hs)
theorem blocks_ok {hs : List (List D)} {qs : Qs} (hg : ∀ x ∈ hs, Good x) (h2 : hs.length ≤ 2) (hS : (S.all fun m => m.bd S.length) = true) (hq : qs.map (·.2) = hs.flatMap blockR) :
    Wf f_blocks_of [.lst (qs.map rowQ)] S fun r S' => S' = S ∧ ∃ bs : Bs, r = .lst (blkL bs) ∧ bs.map (fun b => b.2.map (·.2)) = hs.map (fun h => h.map wl) := by
  refine wf_runT ?_
  unfold m_blocks_of
  repeat walk_at "jstep"
  refine wp_forI (fun ds st => ∃ (bs : Bs) (q : Qs) (x2 x3 : Option Sl), st = ⟨[some (.val (.lst (qs.map rowQ))), some (.val (.lst (blkV S.length bs))), x2, x3], S ++ blkM bs⟩ ∧ ds = q.map rowQ ∧ bs.length ≤ 2 ∧ (∀ b ∈ bs, b.2.length ≤ 12) ∧ At hs bs q) (fun st hi => ?_) (fun d ds st hi => ?_) _ _ ⟨[], qs, none, none, ?_, rfl, by decide, by simp, ⟨[], [], hs, by simpa using hq, by simp, .inl ⟨rfl, rfl, rfl, rfl⟩⟩⟩
  · obtain ⟨bs, q, x2, x3, rfl, e1, e2, e3, ⟨h1, cur, hr, c1, c2, c3⟩⟩ := hi
    have hq0 : q = [] := by
      cases q with
      | nil => rfl
      | cons _ _ => cases e1
    subst hq0
    have c0 : cur = [] ∧ hr.flatMap blockR = [] := by
      have := List.append_eq_nil_iff.mp c1.symm
      exact ⟨List.map_eq_nil_iff.mp this.1, this.2⟩
    have hr0 : hr = [] := by
      cases hr with
      | nil => rfl
      | cons y hr => simp [blockR] at c0
    repeat walk_at "jstep"
    refine ⟨S, blkM bs, bs.map fun b => b.2.map rowQ, rfl, rfl, hS, blk_ok, rfl, bs, ?_, ?_⟩
    · exact blk_melt (pre := []) rfl
    · rcases c3 with ⟨rfl, _, _, rfl⟩ | ⟨bs0, k, b, y, rfl, d1, d2, d3⟩
      · rw [hr0]
        rfl
      · rw [c0.1, List.map_nil, List.append_nil] at d2
        rw [← d3, hr0]
        simp [d1, d2]
  · obtain ⟨bs, q, x2, x3, rfl, e1, e2, e3, ⟨h1, cur, hr, c1, c2, c3⟩⟩ := hi
    cases q with
    | nil => cases e1
    | cons q0 q =>
      obtain ⟨k, r⟩ := q0
      injection e1 with e4 e5
      subst e4
      have c1 : r :: q.map (·.2) = cur.map wl ++ hr.flatMap blockR := c1
      refine ⟨_, rfl, ?_⟩
      refine wp_if (wp_cmp (wp_val rfl (wp_pure ⟨_, eq_hand, ?_⟩)))
      cases cur with
      | nil =>
        -- the next hand
        cases hr with
        | nil => cases c1
        | cons y hr =>
          have c1 : r :: q.map (·.2) = handR :: (y.map wl ++ hr.flatMap blockR) := c1
          injection c1 with c4 c5
          subst c4
          have hlen : bs.length + 1 ≤ 2 := by
            rcases c3 with ⟨rfl, _⟩ | ⟨bs0, k, b, z, rfl, d1, d2, d3⟩
            · simp
            · have l1 : bs0.length = h1.length := by
                have := congrArg List.length d1
                simpa using this
              have l2 : h1.length + (hr.length + 2) = hs.length := by rw [← d3]; simp
              rw [List.length_append, List.length_singleton]
              omega
          refine wp_then (decide_eq_true rfl) ?_
          repeat walk_at "jstep"
          have ba : ∀ {bs : Bs} {n : Nat}, (blkV n bs).length = bs.length := fun {bs} => by
            induction bs with
            | nil => intro n; rfl
            | cons b bs ih => intro n; simp only [blkV, List.length_cons, ih]
          refine ⟨_, lists_add (by rw [ba]; simp; omega), of_decide_eq_true rfl, ?_⟩
          refine ⟨bs ++ [(k, [])], q, some (.val (.int k)), some (.val (.lst (handR.map .str))), ?_, e5, by simp; omega, fun b hb => ?_, ?_⟩
          · rw [blkV_add]
            have e6 : S ++ blkM (bs ++ [(k, [])]) = S ++ blkM bs ++ [.lst []] := by simp [blkM]
            have e7 : (S ++ blkM bs).length = S.length + bs.length := by simp [blkM]
            rw [e6, ← e7]
            rfl
          · rcases List.mem_append.mp hb with hb | hb
            · exact e3 b hb
            · rw [List.mem_singleton.mp hb]
              simp
          · rcases c3 with ⟨rfl, _, rfl, rfl⟩ | ⟨bs0, k', b, z, rfl, d1, d2, d3⟩
            · exact ⟨[], y, hr, c5, fun d hd => ok12 (n := y.length) ((hg y (by simp)).ok d hd) (hg y (by simp)).hi, .inr ⟨[], k, [], y, rfl, rfl, rfl, rfl⟩⟩
            · have gy : Good y := hg y (by rw [← d3]; simp)
              refine ⟨h1 ++ [z], y, hr, c5, fun d hd => ok12 (n := y.length) (gy.ok d hd) gy.hi, .inr ⟨bs0 ++ [(k', b)], k, [], y, rfl, ?_, rfl, by rw [← d3]; simp⟩⟩
              rw [List.map_nil, List.append_nil] at d2
              simp [d1, d2]
      | cons d cur =>
        -- one more line of this hand
        have c1 : r :: q.map (·.2) = wl d :: (cur.map wl ++ hr.flatMap blockR) := c1
        injection c1 with c4 c5
        subst c4
        refine wp_else (decide_eq_false (no_hand (c2 d (by simp)))) ?_
        rcases c3 with ⟨_, q0, _⟩ | ⟨bs0, k', b, y, rfl, d1, d2, d3⟩
        · cases q0
        · have gy : Good y := hg y (by rw [← d3]; simp)
          have hbl : b.length < 12 := by
            have l1 := congrArg List.length d2
            have := gy.hi
            simp at l1
            omega
          refine wp_oApp ?_
          refine wp_op (wp_op (wp_val rfl (wp_un (wp_pure ⟨.int (-1), rfl, ⟨_, blk_last, wp_pure ⟨.obj (S.length + bs0.length), rfl, ?_⟩⟩⟩))))
          refine ⟨_, _, rfl, blk_at (r := []), ?_⟩
          repeat walk_at "jstep"
          refine ⟨_, blk_at (r := []), by simp; omega, ?_⟩
          have e6 : b.map rowQ ++ [.tup [.int k, .lst ((wl d).map .str)]] = (b ++ [(k, wl d)]).map rowQ := by simp [rowQ]
          refine ⟨bs0 ++ [(k', b ++ [(k, wl d)])], q, some (.val (.int k)), some (.val (.lst ((wl d).map .str))), ?_, e5, by simpa using e2, fun b' hb => ?_, ?_⟩
          · have e7 : blkV S.length (bs0 ++ [(k', b ++ [(k, wl d)])]) = blkV S.length (bs0 ++ [(k', b)]) := by rw [blkV_add, blkV_add]
            rw [e7, ← blk_set (q := b) (q' := b ++ [(k, wl d)]), ← e6]
            rfl
          · rcases List.mem_append.mp hb with hb | hb
            · exact e3 b' (List.mem_append_left _ hb)
            · rw [List.mem_singleton.mp hb]
              simp
              omega
          · exact ⟨h1, cur, hr, c5, fun x hx => c2 x (List.mem_cons_of_mem _ hx), .inr ⟨bs0, k', b ++ [(k, wl d)], y, rfl, d1, by rw [← d2]; simp, d3⟩⟩
  · show _ = (⟨_, S ++ []⟩ : Sta)
    rw [List.append_nil]
    rfl
end
end Law
end
section
namespace Law
open PySem PySem.Spec L2 J
local macro_rules | `(tactic| walk_at "jstep") => `(tactic| first
  | (with_reducible refine wp_seq ?_) | (with_reducible refine fq_next ?_) | (with_reducible refine fq_ret ?_) | (with_reducible refine rq_ret ?_) | (with_reducible refine wp_cons ?_) | (with_reducible refine wp_nil ?_)
  | (with_reducible refine wp_pure ?_) | (with_reducible refine wp_op ?_) | (with_reducible refine wp_fn ?_) | (with_reducible refine wp_bi ?_) | (with_reducible refine wp_tup ?_) | (with_reducible refine wp_lst ?_)
  | (with_reducible refine wp_set ?_) | (with_reducible refine wp_ret ?_) | (with_reducible refine wp_if ?_) | (with_reducible refine wp_cmp ?_) | (with_reducible refine wp_not ?_) | (with_reducible refine wp_and ?_)
  | (with_reducible refine wp_or ?_) | (with_reducible refine wp_un ?_) | (with_reducible refine wp_tst ?_) | (with_reducible refine wp_true ?_) | (with_reducible refine wp_isNT ?_) | (with_reducible refine wp_notNT ?_)
  | (with_reducible refine wp_ownS ?_) | (with_reducible refine wp_asg ?_) | (with_reducible refine wp_par ?_) | (with_reducible refine wp_parO ?_) | (with_reducible refine wp_biN ?_) | (with_reducible refine wp_it ?_)
  | (with_reducible refine wp_isi ?_) | (with_reducible refine wp_isiC ?_) | (with_reducible refine wp_sl ?_) | (with_reducible refine wp_slN ?_) | (with_reducible refine wp_bd ?_) | (with_reducible refine wp_addN ?_)
  | (with_reducible refine wp_sm ?_) | (with_reducible refine wp_smN ?_) | (with_reducible refine wp_for ?_) | (with_reducible refine wp_comp ?_) | (with_reducible refine wp_cmp2 ?_) | (with_reducible refine wp_for_nil ?_)
  | (with_reducible refine wp_compN ?_) | (with_reducible refine lq_next ?_) | (with_reducible refine lq_ret ?_) | (with_reducible refine wp_rep ?_) | ((with_reducible apply wp_val); · rfl) | ((with_reducible apply wp_own); · rfl)
  | (with_reducible refine wp_fmt ?_) | (with_reducible refine wp_joinsN ?_) | (with_reducible refine wp_joinsC ?_) | (with_reducible refine wp_oNew ?_) | (with_reducible refine wp_oIx ?_) | (with_reducible refine wp_oTup ?_) | (with_reducible refine wp_oLen ?_)
  | (with_reducible refine wp_oRev ?_) | (with_reducible refine wp_oApp ?_) | (with_reducible refine wp_oPop ?_) | (with_reducible refine wp_oIns ?_) | (with_reducible refine wp_oSet ?_) | (with_reducible refine wp_par3 ?_) | (with_reducible refine wp_sort ?_) | (with_reducible refine wp_rev ?_)
  | (with_reducible refine J.wp_andV ?_) | (with_reducible refine wp_orV ?_) | (with_reducible refine wp_notV ?_) | (with_reducible refine wp_isNM ?_) | (with_reducible refine wp_notNM ?_) | (with_reducible refine wp_chain ?_) | (with_reducible refine wp_tabI ?_) | (with_reducible refine wp_tabT ?_)
  | (with_reducible refine wp_tabX ?_) | (with_reducible refine wp_expr ?_)
  | ((with_reducible apply wp_then); · rfl) | ((with_reducible apply wp_else); · rfl) | ((with_reducible apply wp_lenO); · rfl) | ((with_reducible apply wp_lenV); · rfl) | ((with_reducible apply wp_app); · rfl) | ((with_reducible apply wp_for_cons); · rfl)
  | ((with_reducible apply wp_compC); · rfl) | ((with_reducible apply ex_two); · rfl) | (with_reducible refine wp_of ?_) | (with_reducible refine wp_bind ?_) | ((with_reducible refine ⟨?_, ?_⟩); · exact of_decide_eq_true rfl))

section
variable {S ρ : List MO} {n : Nat}
theorem cut_drop {l : List D} {m : Int} (h0 : 0 ≤ m) (h1 : m ≤ l.length) : cutD l (some m) none = l.drop m.toNat := by
  obtain ⟨k, rfl⟩ : ∃ k : Nat, m = k := ⟨m.toNat, by omega⟩
  unfold cutD
  have e1 : HT.sIx l.length l.length none = l.length := by simp [HT.sIx]
  rw [HT.sIx_nat, Nat.min_eq_left (by omega), e1, List.take_of_length_le (by simp)]
  rfl
theorem at_head {x : D} {l : List D} : dIx (.lst (x :: l)) (.int 0) = some x := atI_head
theorem tups_py : ∀ {hs : List (List D)}, (∀ x ∈ hs, Good x) → ∃ qs, D.pys (hs.map D.tup) = some qs ∧ qs.length = hs.length ∧ ascDs qs = true ∧ PyData.depthAll qs ≤ 6 ∧ PyData.weightAll qs ≤ 3000 * hs.length
  | [], _ => ⟨[], rfl, rfl, rfl, by simp [PyData.depthAll], by simp [PyData.weightAll]⟩
  | h :: hs, hg => by
    obtain ⟨qs, e, a0, a1, a2, a3⟩ := tups_py (hs := hs) fun x hx => hg x (List.mem_cons_of_mem _ hx)
    have gh := hg h (by simp)
    have hi := gh.hi
    obtain ⟨ps, e1, b1, b2, b3⟩ := steps_py (ds := h) fun d hd => ok12 (n := h.length) (gh.ok d hd) hi
    refine ⟨.tuple ps :: qs, ?_, by simp [a0], by simp [ascDs, ascD, b1, a1], by simp only [PyData.depthAll, PyData.depth]; omega, by simp only [PyData.weightAll, PyData.weight, List.length_cons]; omega⟩
    show (D.py (.tup h)).bind (fun p => (D.pys (hs.map D.tup)).map fun ps => p :: ps) = _
    have e2 : D.py (.tup h) = some (.tuple ps) := by
      show (D.pys h).map PyData.tuple = _
      rw [e1]
      rfl
    rw [e2, e]
    rfl
theorem tups_ne {hs : List (List D)} (hg : ∀ x ∈ hs, Good x) (h : hs ≠ []) : (dEq (.lst (hs.map D.tup)) (.lst [])).bind D.isB = some false := by
  obtain ⟨qs, e, a0, a1, a2, a3⟩ := tups_py hg
  have h1 : D.py (.lst (hs.map D.tup)) = some (.list qs) := by
    show (D.pys _).map PyData.list = _
    rw [e]
    rfl
  have h2 : D.py (.lst []) = some (.list []) := rfl
  unfold dEq eqD
  rw [h1, h2]
  simp only [Option.bind_some]
  rw [if_pos ⟨by simp only [PyData.depth]; omega, by simp [PyData.depth, PyData.depthAll]⟩]
  cases qs with
  | nil =>
    exfalso
    exact h (List.length_eq_zero_iff.mp a0.symm)
  | cons q qs => simp [PyData.eqv, PyData.eqvAll, D.isB]
theorem lt_int {i j : Int} : dLt (.int i) (.int j) = some (.bl (decide (i < j))) := rfl
theorem setV_ok {i : Nat} {d : D} {st : Sta} (h : i < st.r.length) : setV i d st = some (st.set i (some (.val d))) := by
  unfold setV
  rw [if_pos h]
theorem hand_comp {r : List (Option Sl)} (hr : r.length = 17) {rows : Qs} {k : Int} {Q : List D → Sta → Prop} (w : Q ((posH k (rows.map (·.2))).map D.int) ⟨r, S⟩) :
    Wp (compL [8, 9, 15] (gTupM 2 (gConsM (setV 8) (gConsM (gTupM 2 (gConsM (setV 9) (gConsM (setV 15) gNilM))) gNilM))) (cmpT dEq (getV 15) (pure (.rls ((["hand"] : List Str).map D.str)))) (getV 8) [] (nums k (rows.map rowQ))) ⟨r, S⟩ Q := by
  refine wp_compI (fun acc ds S2 => S2 = S ∧ ∃ (l1 : List Int) (j : Int) (q : Qs), acc = l1.map D.int ∧ ds = nums j (q.map rowQ) ∧ l1 ++ posH j (q.map (·.2)) = posH k (rows.map (·.2))) (fun acc S2 hi => ?_) (fun acc x ds S2 hi => ?_) _ _ _ ⟨rfl, [], k, rows, rfl, rfl, rfl⟩
  · obtain ⟨rfl, l1, k, q, rfl, g1, g2⟩ := hi
    have hq0 : q = [] := by
      cases q with
      | nil => rfl
      | cons _ _ => cases g1
    subst hq0
    have g2 : l1 ++ [] = _ := g2
    rw [List.append_nil] at g2
    subst g2
    exact w
  · obtain ⟨rfl, l1, k, q, rfl, g1, g2⟩ := hi
    cases q with
    | nil => cases g1
    | cons q0 q =>
      obtain ⟨kk, r0⟩ := q0
      have g1 : x :: ds = .tup [.int k, rowQ (kk, r0)] :: nums (k + 1) (q.map rowQ) := g1
      injection g1 with g3 g4
      subst g3
      generalize hm : maskSt [8, 9, 15] ⟨r, S2⟩ = m
      have lm : m.r.length = 17 := by rw [← hm]; simp [maskSt, hr]
      have lS : m.S = S2 := by rw [← hm]; rfl
      have e0 : gTupM 2 (gConsM (setV 8) (gConsM (gTupM 2 (gConsM (setV 9) (gConsM (setV 15) gNilM))) gNilM)) (.tup [.int k, rowQ (kk, r0)]) m = some (((m.set 8 (some (.val (.int k)))).set 9 (some (.val (.int kk)))).set 15 (some (.val (.lst (r0.map .str))))) := by
        show (setV 8 (.int k) m).bind (fun st => ((gTupM 2 (gConsM (setV 9) (gConsM (setV 15) gNilM)) (.tup [.int kk, .lst (r0.map .str)])) st).bind fun st => some st) = _
        rw [setV_ok (by omega)]
        show ((setV 9 (.int kk) (m.set 8 _)).bind fun st => (setV 15 (.lst (r0.map .str)) st).bind fun st => some st).bind (fun st => some st) = _
        rw [setV_ok (by simp [Sta.set, lm])]
        show ((setV 15 (.lst (r0.map .str)) ((m.set 8 _).set 9 _)).bind fun st => some st).bind (fun st => some st) = _
        rw [setV_ok (by simp [Sta.set, lm])]
        rfl
      have g8 : (((m.set 8 (some (.val (.int k)))).set 9 (some (.val (.int kk)))).set 15 (some (.val (.lst (r0.map .str))))).r[8]? = some (some (.val (.int k))) := by simp [Sta.set, lm]
      have g15 : (((m.set 8 (some (.val (.int k)))).set 9 (some (.val (.int kk)))).set 15 (some (.val (.lst (r0.map .str))))).r[15]? = some (some (.val (.lst (r0.map .str)))) := by simp [Sta.set, lm]
      refine ⟨_, e0, ?_⟩
      refine wp_cmp (wp_val g15 (wp_pure ⟨_, eq_hand, ?_⟩))
      have g2 : l1 ++ (if r0 = handR then k :: posH (k + 1) (q.map (·.2)) else posH (k + 1) (q.map (·.2))) = _ := g2
      by_cases hr : r0 = handR
      · rw [if_pos (decide_eq_true hr)]
        rw [if_pos hr] at g2
        exact wp_val g8 ⟨lS, l1 ++ [k], k + 1, q, by simp, g4, by simpa using g2⟩
      · rw [if_neg (by simpa using hr)]
        rw [if_neg hr] at g2
        exact ⟨lS, l1, k + 1, q, rfl, g4, g2⟩
theorem prog_comp {k : Nat} {r : List (Option Sl)} (hk : k < r.length) {hs : List (List D)} (hg : ∀ x ∈ hs, Good x) {Q : List D → Sta → Prop} (w : Q (hs.map prog) ⟨r, S⟩) :
    Wp (compL [k] (setV k) (pure true) (makM "Program" f_Programu_initu (consM (getV k) (pure []))) [] (hs.map D.tup)) ⟨r, S⟩ Q := by
  refine wp_compI (fun acc ds S2 => S2 = S ∧ ∃ h1 h2, h1 ++ h2 = hs ∧ acc = h1.map prog ∧ ds = h2.map D.tup) (fun acc S2 hi => ?_) (fun acc x ds S2 hi => ?_) _ _ _ ⟨rfl, [], hs, rfl, rfl, rfl⟩
  · obtain ⟨rfl, h1, h2, e1, rfl, e2⟩ := hi
    have : h2 = [] := by
      cases h2 with
      | nil => rfl
      | cons _ _ => cases e2
    subst this
    rw [List.append_nil] at e1
    subst e1
    exact w
  · obtain ⟨rfl, h1, h2, e1, rfl, e2⟩ := hi
    cases h2 with
    | nil => cases e2
    | cons y h2 =>
      injection e2 with e3 e4
      subst e3
      have len : (maskSt [k] ⟨r, S2⟩).r.length = r.length := by simp [maskSt]
      refine ⟨_, setV_ok (by rw [len]; exact hk), wp_pure ?_⟩
      rw [if_pos rfl]
      refine wp_prog (hg y (by rw [← e1]; simp)) (wp_cons (wp_val ?_ (wp_nil ⟨rfl, rfl, h1 ++ [y], h2, by simp [← e1], by simp, e4⟩)))
      show ((maskSt [k] ⟨r, S2⟩).r.set k _)[k]? = _
      rw [List.getElem?_set_self (by rw [len]; exact hk)]
theorem len_comp {k : Nat} {r : List (Option Sl)} (hk : k < r.length) {hs : List (List D)} (hg : ∀ x ∈ hs, Good x) {Q : List D → Sta → Prop} (w : Q [] ⟨r, S⟩) :
    Wp (compL [k] (setV k) (J.notM (cmpT2 (dCmp fun i j => decide (i ≤ j)) (dCmp fun i j => decide (i ≤ j)) (pure (.int 1)) (biM dLen (consM (getV k) (pure []))) (pure (.int 12)))) (pure (.int 1)) [] (hs.map D.tup)) ⟨r, S⟩ Q := by
  refine wp_compI (fun acc ds S2 => S2 = S ∧ acc = [] ∧ ∃ h2 : List (List D), ds = h2.map D.tup ∧ ∀ x ∈ h2, Good x) (fun acc S2 hi => ?_) (fun acc x ds S2 hi => ?_) _ _ _ ⟨rfl, rfl, hs, rfl, hg⟩
  · obtain ⟨rfl, rfl, _⟩ := hi
    exact w
  · obtain ⟨rfl, rfl, h2, f5, f6⟩ := hi
    cases h2 with
    | nil => cases f5
    | cons y h2 =>
      injection f5 with f7 f8
      subst f7
      have y1 := (f6 y (by simp)).lo
      have y2 := (f6 y (by simp)).hi
      have len : (maskSt [k] ⟨r, S2⟩).r.length = r.length := by simp [maskSt]
      refine ⟨_, setV_ok (by rw [len]; exact hk), ?_⟩
      refine wp_not (wp_cmp2 (wp_pure (wp_bi (wp_cons (wp_val (d := .tup y) ?_ (wp_nil ⟨.int y.length, rfl, true, ?_, ?_⟩))))))
      · show ((maskSt [k] ⟨r, S2⟩).r.set k _)[k]? = _
        rw [List.getElem?_set_self (by rw [len]; exact hk)]
      · show some (decide ((1 : Int) ≤ (y.length : Int))) = _
        rw [decide_eq_true (by omega)]
      · refine wp_then rfl (wp_bind (wp_pure (wp_of ⟨true, ?_, ?_⟩)))
        · show some (decide ((y.length : Int) ≤ 12)) = _
          rw [decide_eq_true (by omega)]
        · rw [if_neg (by decide)]
          exact ⟨rfl, rfl, h2, f8, fun x hx => f6 x (List.mem_cons_of_mem _ hx)⟩
set_option maxHeartbeats 1000000 in
theorem read_case_ok {z : Str} {hs : List (List D)} {fs : List Int} {ws : List (List Int)} {fr : Bool} (h : CaseOk hs fs ws) (hS : (S.all fun m => m.bd S.length) = true) (t : TellsR z ((caseR hs fs ws fr).map wrow)) :
    Wf f_read_case [.str z] S fun r S' => r = caD hs fs ws fr ∧ S' = S := by
  obtain ⟨a, b, c, d, rfl, ha, hb, hc, hd⟩ := h.four.ex
  have h1 := h.h1
  have h2 := h.h2
  have h4 := h.w4
  have hrow := case_rows (fr := fr) h
  have hrhi := hrow.hi
  refine wf_run ?_
  unfold m_read_case
  repeat walk_at "jstep"
  refine (told_ok (by simp [caseR, headR]) t).imp fun r S' ⟨e1, ps, e2, e3⟩ => ?_
  subst e1
  obtain ⟨qs, e4, e5⟩ := qs_of e3
  rw [e4] at e2
  subst e2
  clear e4 e3 ps
  obtain ⟨qh, qb, rfl, eh, eb⟩ := List.map_eq_append_iff.mp e5
  have lh : qh.length = 2 + ws.length := by
    have := congrArg List.length eh
    simp [headR] at this
    omega
  have lq : (qh ++ qb).length ≤ 40 := by
    have := congrArg List.length e5
    rw [List.length_map] at this
    rw [this]
    exact hrhi
  obtain ⟨y0, hr0, hhs⟩ : ∃ y0 hr0, hs = y0 :: hr0 := by
    cases hs with
    | nil => simp at h1
    | cons y r => exact ⟨y, r, rfl⟩
  obtain ⟨lp, hp⟩ : ∃ lp, posH 0 ((qh ++ qb).map (·.2)) = (qh.length : Int) :: lp := by
    rw [e5]
    unfold caseR
    rw [posH_skip head_ne, hhs]
    refine ⟨posH (0 + ((headR fr [a, b, c, d] ws).length : Int) + 1) ((y0.map wl) ++ hr0.flatMap blockR), ?_⟩
    show (if handR = handR then _ else _) = _
    rw [if_pos rfl, ← eh, List.length_map, Int.zero_add]
    rfl
  repeat walk_at "jstep"
  refine ⟨by rw [nums_len, List.length_map]; omega, ?_⟩
  refine hand_comp rfl ?_
  · rw [hp]
    repeat walk_at "jstep"
    refine ⟨true, ne_ints (by simp), wp_then rfl ?_⟩
    repeat walk_at "jstep"
    have hF : (if (if (((qh ++ qb).map rowQ).length : Int) < 2 then (((qh ++ qb).map rowQ).length : Int) else 2) > (qh.length : Int) then (if (((qh ++ qb).map rowQ).length : Int) < 2 then (((qh ++ qb).map rowQ).length : Int) else 2) else (qh.length : Int)) = (qh.length : Int) := by
      have : 2 ≤ ((qh ++ qb).map rowQ).length := by simp; omega
      have e : (if (((qh ++ qb).map rowQ).length : Int) < 2 then (((qh ++ qb).map rowQ).length : Int) else 2) = 2 := if_neg (by omega)
      rw [e, if_neg (by omega)]
    refine ⟨_, at_head, ?_⟩
    repeat walk_at "jstep"
    rw [hF, cut_take (by omega), List.map_append, List.take_left' (by simp)]
    refine (head_ok h.four h4 h.wa h.we eh).imp fun r S3 ⟨g3, g4⟩ => ?_
    subst g3
    subst g4
    repeat walk_at "jstep"
    rw [cut_drop (by omega) (by simp; omega), List.drop_left' (by simp)]
    refine (blocks_ok h.hg h2 hS eb).imp fun r S4 ⟨g5, bs, g6, g7⟩ => ?_
    subst g5
    subst g6
    repeat walk_at "jstep"
    refine wp_forI (fun ds st => ∃ (k : Int) (b2 : Bs) (h1 h2 : List (List D)) (x8 x9 x10 : Option Sl), st = ⟨[some (.val (.str z)), some (.val (.lst (qh.map rowQ ++ qb.map rowQ))), some (.val (.lst (((qh.length : Int) :: lp).map .int))), some (.val (.int qh.length)), some (.val (.bl fr)), some (.val (.tup ([a, b, c, d].map .int))), some (.val (.tup (ws.map edD))), some (.own (h1.map D.tup)), x8, x9, x10, none, none, none, none, none, none], S4⟩ ∧ h1 ++ h2 = hs ∧ b2.map (fun b => b.2.map (·.2)) = h2.map (fun h => h.map wl) ∧ ds = nums k (blkL b2) ∧ k + b2.length ≤ 2)
      (fun st hi => ?_) (fun x ds st hi => ?_) _ _ ⟨0, bs, [], hs, none, none, none, rfl, rfl, g7, rfl, ?_⟩
    · obtain ⟨k, b2, h1', h2', x8, x9, x10, rfl, f1, f2, f3, f4⟩ := hi
      have hb0 : b2 = [] := by
        cases b2 with
        | nil => rfl
        | cons _ _ => cases f3
      subst hb0
      have hh0 : h2' = [] := by
        cases h2' with
        | nil => rfl
        | cons _ _ => cases f2
      subst hh0
      rw [List.append_nil] at f1
      subst f1
      repeat walk_at "jstep"
      refine ⟨false, tups_ne h.hg (by rw [hhs]; simp), wp_else rfl ?_⟩
      repeat walk_at "jstep"
      refine ⟨by simp; omega, ?_⟩
      refine len_comp (of_decide_eq_true rfl) h.hg ?_
      repeat walk_at "jstep"
      refine wp_case (fs := [a, b, c, d]) (fr := fr) h ?_
      repeat walk_at "jstep"
      refine ⟨by simp; omega, ?_⟩
      refine prog_comp (of_decide_eq_true rfl) h.hg ?_
      repeat walk_at "jstep"
      refine wp_faults h.four ?_
      repeat walk_at "jstep"
      refine ⟨rfl, ?_⟩
      repeat walk_at "jstep"
      exact ⟨rfl, rfl, rfl⟩
    · obtain ⟨k, b2, h1', h2', x8, x9, x10, rfl, f1, f2, f3, f4⟩ := hi
      cases b2 with
      | nil => cases f3
      | cons bb b2 =>
        cases h2' with
        | nil => cases f2
        | cons y h2' =>
          have f3 : x :: ds = .tup [.int k, .tup [.int bb.1, .lst (bb.2.map rowQ)]] :: nums (k + 1) (blkL b2) := f3
          injection f3 with f5 f6
          subst f5
          have f2 : bb.2.map (·.2) :: b2.map (fun b => b.2.map (·.2)) = y.map wl :: h2'.map (fun h => h.map wl) := f2
          injection f2 with f7 f8
          simp only [List.length_cons] at f4
          have gy : Good y := h.hg y (by rw [← f1]; simp)
          refine ⟨_, rfl, ?_⟩
          repeat walk_at "jstep"
          rw [decide_eq_true (show k < 2 by omega)]
          refine J.wf_eq need_ok ?_
          repeat walk_at "jstep"
          have e6 : bb.2.map rowQ = (bb.2.map fun q => (q.1, wrow q.2)).map rowD := by
            rw [List.map_map]
            exact List.map_congr_left fun q _ => rowQ_D
          rw [e6]
          refine (steps_of_ok (S := S4) (ds := y) (ps := bb.2.map fun q => (q.1, wrow q.2)) ?_ gy.hi gy.ok).imp fun r S5 ⟨f9, f10⟩ => ?_
          · rw [List.map_map]
            have : (bb.2.map fun q => wrow q.2) = (bb.2.map (·.2)).map wrow := by rw [List.map_map]; rfl
            show (bb.2.map fun q => wrow q.2) = _
            rw [this, f7, List.map_map]
            rfl
          · subst f9
            subst f10
            have hl1 : h1'.length ≤ 2 := by
              have := congrArg List.length f1
              simp at this
              omega
            refine ⟨_, rfl, by simp; omega, ?_⟩
            exact ⟨k + 1, b2, h1' ++ [y], h2', _, _, _, by rw [List.map_append]; rfl, by simp [← f1], f8, f6, by omega⟩
    · have := congrArg List.length g7
      simp at this
      omega
end
end Law
end
section
namespace Law
open PySem PySem.Spec L2 J
local macro_rules | `(tactic| walk_at "jstep") => `(tactic| first
  | (with_reducible refine wp_seq ?_) | (with_reducible refine fq_next ?_) | (with_reducible refine fq_ret ?_) | (with_reducible refine rq_ret ?_) | (with_reducible refine wp_cons ?_) | (with_reducible refine wp_nil ?_)
  | (with_reducible refine wp_pure ?_) | (with_reducible refine wp_op ?_) | (with_reducible refine wp_fn ?_) | (with_reducible refine wp_bi ?_) | (with_reducible refine wp_tup ?_) | (with_reducible refine wp_lst ?_)
  | (with_reducible refine wp_set ?_) | (with_reducible refine wp_ret ?_) | (with_reducible refine wp_if ?_) | (with_reducible refine wp_cmp ?_) | (with_reducible refine wp_not ?_) | (with_reducible refine wp_and ?_)
  | (with_reducible refine wp_or ?_) | (with_reducible refine wp_un ?_) | (with_reducible refine wp_tst ?_) | (with_reducible refine wp_true ?_) | (with_reducible refine wp_isNT ?_) | (with_reducible refine wp_notNT ?_)
  | (with_reducible refine wp_ownS ?_) | (with_reducible refine wp_asg ?_) | (with_reducible refine wp_par ?_) | (with_reducible refine wp_parO ?_) | (with_reducible refine wp_biN ?_) | (with_reducible refine wp_it ?_)
  | (with_reducible refine wp_isi ?_) | (with_reducible refine wp_isiC ?_) | (with_reducible refine wp_sl ?_) | (with_reducible refine wp_slN ?_) | (with_reducible refine wp_bd ?_) | (with_reducible refine wp_addN ?_)
  | (with_reducible refine wp_sm ?_) | (with_reducible refine wp_smN ?_) | (with_reducible refine wp_for ?_) | (with_reducible refine wp_comp ?_) | (with_reducible refine wp_cmp2 ?_) | (with_reducible refine wp_for_nil ?_)
  | (with_reducible refine wp_compN ?_) | (with_reducible refine lq_next ?_) | (with_reducible refine lq_ret ?_) | (with_reducible refine wp_rep ?_) | ((with_reducible apply wp_val); · rfl) | ((with_reducible apply wp_own); · rfl)
  | (with_reducible refine wp_fmt ?_) | (with_reducible refine wp_joinsN ?_) | (with_reducible refine wp_joinsC ?_) | (with_reducible refine wp_oNew ?_) | (with_reducible refine wp_oIx ?_) | (with_reducible refine wp_oTup ?_) | (with_reducible refine wp_oLen ?_)
  | (with_reducible refine wp_oRev ?_) | (with_reducible refine wp_oApp ?_) | (with_reducible refine wp_oPop ?_) | (with_reducible refine wp_oIns ?_) | (with_reducible refine wp_oSet ?_) | (with_reducible refine wp_par3 ?_) | (with_reducible refine wp_sort ?_) | (with_reducible refine wp_rev ?_)
  | (with_reducible refine J.wp_andV ?_) | (with_reducible refine wp_orV ?_) | (with_reducible refine wp_notV ?_) | (with_reducible refine wp_isNM ?_) | (with_reducible refine wp_notNM ?_) | (with_reducible refine wp_chain ?_) | (with_reducible refine wp_tabI ?_) | (with_reducible refine wp_tabT ?_)
  | (with_reducible refine wp_tabX ?_) | (with_reducible refine wp_expr ?_)
  | ((with_reducible apply wp_then); · rfl) | ((with_reducible apply wp_else); · rfl) | ((with_reducible apply wp_lenO); · rfl) | ((with_reducible apply wp_lenV); · rfl) | ((with_reducible apply wp_app); · rfl) | ((with_reducible apply wp_for_cons); · rfl)
  | ((with_reducible apply wp_compC); · rfl) | ((with_reducible apply ex_two); · rfl) | (with_reducible refine wp_of ?_) | (with_reducible refine wp_bind ?_) | ((with_reducible refine ⟨?_, ?_⟩); · exact of_decide_eq_true rfl))

section
variable {S ρ : List MO} {n : Nat}
mutual
def nrm : PyData → PyData
  | .bool b => .int (if b = true then 1 else 0)
  | .tuple xs => .tuple (nrms xs)
  | d => d
def nrms : List PyData → List PyData
  | [] => []
  | x :: xs => nrm x :: nrms xs
end
mutual
def flatP : PyData → Bool
  | .bool _ => true
  | .int _ => true
  | .str _ => true
  | .tuple xs => flatPs xs
  | _ => false
def flatPs : List PyData → Bool
  | [] => true
  | x :: xs => flatP x && flatPs xs
end
mutual
theorem eqv_nrm : ∀ {p q : PyData}, flatP p = true → flatP q = true → PyData.eqv p q = true → nrm p = nrm q
  | .bool a, .bool b, _, _, h => by
    have h : (a == b) = true := by simpa [PyData.eqv] using h
    rw [beq_iff_eq.mp h]
  | .bool a, .int j, _, _, h => by
    have h : ((if a = true then 1 else 0 : Int) == j) = true := by simpa [PyData.eqv] using h
    show PyData.int _ = PyData.int j
    rw [beq_iff_eq.mp h]
  | .int i, .bool b, _, _, h => by
    have h : (i == (if b = true then 1 else 0 : Int)) = true := by simpa [PyData.eqv] using h
    show PyData.int i = PyData.int _
    rw [beq_iff_eq.mp h]
  | .int i, .int j, _, _, h => by
    have h : (i == j) = true := by simpa [PyData.eqv] using h
    rw [beq_iff_eq.mp h]
  | .str x, .str y, _, _, h => by
    have h : (x == y) = true := by simpa [PyData.eqv] using h
    rw [beq_iff_eq.mp h]
  | .tuple xs, .tuple ys, h1, h2, h => by
    have h : PyData.eqvAll xs ys = true := by rw [PyData.eqv] at h; exact h
    show PyData.tuple (nrms xs) = PyData.tuple (nrms ys)
    rw [eqvs_nrm (p := xs) (q := ys) h1 h2 h]
  | .none, _, h, _, _ => by simp [flatP] at h
  | .list _, _, h, _, _ => by simp [flatP] at h
  | .dict _, _, h, _, _ => by simp [flatP] at h
  | .bool _, .none, _, h, _ => by simp [flatP] at h
  | .bool _, .list _, _, h, _ => by simp [flatP] at h
  | .bool _, .dict _, _, h, _ => by simp [flatP] at h
  | .bool _, .str _, _, _, h => by simp [PyData.eqv] at h
  | .bool _, .tuple _, _, _, h => by simp [PyData.eqv] at h
  | .int _, .none, _, h, _ => by simp [flatP] at h
  | .int _, .list _, _, h, _ => by simp [flatP] at h
  | .int _, .dict _, _, h, _ => by simp [flatP] at h
  | .int _, .str _, _, _, h => by simp [PyData.eqv] at h
  | .int _, .tuple _, _, _, h => by simp [PyData.eqv] at h
  | .str _, .none, _, h, _ => by simp [flatP] at h
  | .str _, .list _, _, h, _ => by simp [flatP] at h
  | .str _, .dict _, _, h, _ => by simp [flatP] at h
  | .str _, .bool _, _, _, h => by simp [PyData.eqv] at h
  | .str _, .int _, _, _, h => by simp [PyData.eqv] at h
  | .str _, .tuple _, _, _, h => by simp [PyData.eqv] at h
  | .tuple _, .none, _, h, _ => by simp [flatP] at h
  | .tuple _, .list _, _, h, _ => by simp [flatP] at h
  | .tuple _, .dict _, _, h, _ => by simp [flatP] at h
  | .tuple _, .bool _, _, _, h => by simp [PyData.eqv] at h
  | .tuple _, .int _, _, _, h => by simp [PyData.eqv] at h
  | .tuple _, .str _, _, _, h => by simp [PyData.eqv] at h
theorem eqvs_nrm : ∀ {p q : List PyData}, flatPs p = true → flatPs q = true → PyData.eqvAll p q = true → nrms p = nrms q
  | [], [], _, _, _ => rfl
  | x :: xs, y :: ys, h1, h2, h => by
    obtain ⟨a1, a2⟩ := Bool.and_eq_true_iff.mp (show (flatP x && flatPs xs) = true from h1)
    obtain ⟨b1, b2⟩ := Bool.and_eq_true_iff.mp (show (flatP y && flatPs ys) = true from h2)
    obtain ⟨c1, c2⟩ := Bool.and_eq_true_iff.mp (show (PyData.eqv x y && PyData.eqvAll xs ys) = true by rw [PyData.eqvAll] at h; exact h)
    show nrm x :: nrms xs = nrm y :: nrms ys
    rw [eqv_nrm a1 b1 c1, eqvs_nrm a2 b2 c2]
  | [], _ :: _, _, _, h => by simp [PyData.eqvAll] at h
  | _ :: _, [], _, _, h => by simp [PyData.eqvAll] at h
end
mutual
def unD : PyData → D
  | .int i => .int i
  | .str x => .str x
  | .tuple xs => .tup (unDs xs)
  | _ => .non
def unDs : List PyData → List D
  | [] => []
  | x :: xs => unD x :: unDs xs
end
def un (p : PyData) : D := match unD p with
  | .tup [k, e, .int b, w] => .tup [k, e, .bl (decide (b = 1)), w]
  | d => d
theorem fin_un : ((steps 12).map fun d => (D.py d).map fun p => un (nrm p)) = (steps 12).map some := by kernel_rfl
theorem fin_flat : ((steps 12).all fun d => match D.py d with
  | some p => flatP p
  | none => false) = true := by kernel_rfl
theorem step_un {d : D} {p : PyData} (h : d ∈ steps 12) (e : D.py d = some p) : un (nrm p) = d ∧ flatP p = true := by
  have h1 := List.map_inj_left.mp fin_un d h
  have h2 := List.all_eq_true.mp fin_flat d h
  rw [e] at h1
  simp only [e] at h2
  exact ⟨Option.some.inj h1, h2⟩
theorem steps_inj : ∀ {ds es : List D} {ps qs : List PyData}, (∀ d ∈ ds, d ∈ steps 12) → (∀ d ∈ es, d ∈ steps 12) → D.pys ds = some ps → D.pys es = some qs → PyData.eqvAll ps qs = true → ds = es
  | [], [], _, _, _, _, _, _, _ => rfl
  | d :: ds, e :: es, ps, qs, hd, he, h1, h2, h => by
    obtain ⟨p, a1, h1⟩ := Option.bind_eq_some_iff.mp (show (D.py d).bind (fun a => (D.pys ds).map fun b => a :: b) = some ps from h1)
    obtain ⟨ps', a2, rfl⟩ := Option.map_eq_some_iff.mp h1
    obtain ⟨q, b1, h2⟩ := Option.bind_eq_some_iff.mp (show (D.py e).bind (fun a => (D.pys es).map fun b => a :: b) = some qs from h2)
    obtain ⟨qs', b2, rfl⟩ := Option.map_eq_some_iff.mp h2
    obtain ⟨c1, c2⟩ := Bool.and_eq_true_iff.mp (show (PyData.eqv p q && PyData.eqvAll ps' qs') = true by rw [PyData.eqvAll] at h; exact h)
    obtain ⟨u1, f1⟩ := step_un (hd d (by simp)) a1
    obtain ⟨u2, f2⟩ := step_un (he e (by simp)) b1
    rw [← u1, ← u2, eqv_nrm f1 f2 c1, steps_inj (fun x hx => hd x (List.mem_cons_of_mem _ hx)) (fun x hx => he x (List.mem_cons_of_mem _ hx)) a2 b2 c2]
  | [], e :: es, ps, qs, _, _, h1, h2, h => by
    cases h1
    obtain ⟨q, b1, h2⟩ := Option.bind_eq_some_iff.mp (show (D.py e).bind (fun a => (D.pys es).map fun b => a :: b) = some qs from h2)
    obtain ⟨qs', b2, rfl⟩ := Option.map_eq_some_iff.mp h2
    simp [PyData.eqvAll] at h
  | d :: ds, [], ps, qs, _, _, h1, h2, h => by
    cases h2
    obtain ⟨p, a1, h1⟩ := Option.bind_eq_some_iff.mp (show (D.py d).bind (fun a => (D.pys ds).map fun b => a :: b) = some ps from h1)
    obtain ⟨ps', a2, rfl⟩ := Option.map_eq_some_iff.mp h1
    simp [PyData.eqvAll] at h
theorem far_leaf {d e : D} {p q : PyData} (hf : farD d e = decide (eqD d e = some false)) (h1 : D.py d = some p) (h2 : D.py e = some q) (d1 : p.depth ≤ 64) (d2 : q.depth ≤ 64) (h : PyData.eqv p q = false) : farD d e = true := by
  rw [hf]
  refine decide_eq_true ?_
  unfold eqD
  rw [h1, h2]
  simp only [Option.bind_some]
  rw [if_pos ⟨d1, d2⟩, h]
mutual
theorem far_of : ∀ {d e : D} {p q : PyData}, D.py d = some p → D.py e = some q → p.depth ≤ 64 → q.depth ≤ 64 → PyData.eqv p q = false → farD d e = true
  | .tup xs, .tup ys, p, q, h1, h2, d1, d2, h => by
    obtain ⟨ps, a1, rfl⟩ := Option.map_eq_some_iff.mp (show (D.pys xs).map PyData.tuple = some p from h1)
    obtain ⟨qs, b1, rfl⟩ := Option.map_eq_some_iff.mp (show (D.pys ys).map PyData.tuple = some q from h2)
    simp only [PyData.depth] at d1 d2
    show farL xs ys = true
    exact far_ofs a1 b1 (by omega) (by omega) (by rw [PyData.eqv] at h; exact h)
  | .tup xs, .non, p, q, h1, h2, d1, d2, h => far_leaf rfl h1 h2 d1 d2 h
  | .tup xs, .bl _, p, q, h1, h2, d1, d2, h => far_leaf rfl h1 h2 d1 d2 h
  | .tup xs, .int _, p, q, h1, h2, d1, d2, h => far_leaf rfl h1 h2 d1 d2 h
  | .tup xs, .str _, p, q, h1, h2, d1, d2, h => far_leaf rfl h1 h2 d1 d2 h
  | .tup xs, .lst _, p, q, h1, h2, d1, d2, h => far_leaf rfl h1 h2 d1 d2 h
  | .tup xs, .rls _, p, q, h1, h2, d1, d2, h => far_leaf rfl h1 h2 d1 d2 h
  | .tup xs, .ins _ _, p, q, h1, h2, d1, d2, h => by cases h2
  | .tup xs, .exc _ _, p, q, h1, h2, d1, d2, h => by cases h2
  | .tup xs, .obj _, p, q, h1, h2, d1, d2, h => by cases h2
  | .non, e, p, q, h1, h2, d1, d2, h => far_leaf rfl h1 h2 d1 d2 h
  | .bl _, e, p, q, h1, h2, d1, d2, h => far_leaf rfl h1 h2 d1 d2 h
  | .int _, e, p, q, h1, h2, d1, d2, h => far_leaf rfl h1 h2 d1 d2 h
  | .str _, e, p, q, h1, h2, d1, d2, h => far_leaf rfl h1 h2 d1 d2 h
  | .lst _, e, p, q, h1, h2, d1, d2, h => far_leaf rfl h1 h2 d1 d2 h
  | .rls _, e, p, q, h1, h2, d1, d2, h => far_leaf rfl h1 h2 d1 d2 h
  | .ins _ _, e, p, q, h1, h2, d1, d2, h => by cases h1
  | .exc _ _, e, p, q, h1, h2, d1, d2, h => by cases h1
  | .obj _, e, p, q, h1, h2, d1, d2, h => by cases h1
theorem far_ofs : ∀ {d e : List D} {p q : List PyData}, D.pys d = some p → D.pys e = some q → PyData.depthAll p ≤ 63 → PyData.depthAll q ≤ 63 → PyData.eqvAll p q = false → farL d e = true
  | [], [], p, q, h1, h2, _, _, h => by
    cases h1
    cases h2
    simp [PyData.eqvAll] at h
  | d :: ds, e :: es, ps, qs, h1, h2, d1, d2, h => by
    obtain ⟨p, a1, h1⟩ := Option.bind_eq_some_iff.mp (show (D.py d).bind (fun a => (D.pys ds).map fun b => a :: b) = some ps from h1)
    obtain ⟨ps', a2, rfl⟩ := Option.map_eq_some_iff.mp h1
    obtain ⟨q, b1, h2⟩ := Option.bind_eq_some_iff.mp (show (D.py e).bind (fun a => (D.pys es).map fun b => a :: b) = some qs from h2)
    obtain ⟨qs', b2, rfl⟩ := Option.map_eq_some_iff.mp h2
    simp only [PyData.depthAll] at d1 d2
    have h : (PyData.eqv p q && PyData.eqvAll ps' qs') = false := by rw [PyData.eqvAll] at h; exact h
    show (farD d e || farL ds es) = true
    rcases Bool.and_eq_false_iff.mp h with h | h
    · rw [far_of a1 b1 (by omega) (by omega) h, Bool.true_or]
    · rw [far_ofs a2 b2 (by omega) (by omega) h, Bool.or_true]
  | [], e :: es, p, q, h1, h2, _, _, h => rfl
  | d :: ds, [], p, q, h1, h2, _, _, h => rfl
end
end
end Law
end
section
namespace Law
open PySem PySem.Spec L2 J
local macro_rules | `(tactic| walk_at "jstep") => `(tactic| first
  | (with_reducible refine wp_seq ?_) | (with_reducible refine fq_next ?_) | (with_reducible refine fq_ret ?_) | (with_reducible refine rq_ret ?_) | (with_reducible refine wp_cons ?_) | (with_reducible refine wp_nil ?_)
  | (with_reducible refine wp_pure ?_) | (with_reducible refine wp_op ?_) | (with_reducible refine wp_fn ?_) | (with_reducible refine wp_bi ?_) | (with_reducible refine wp_tup ?_) | (with_reducible refine wp_lst ?_)
  | (with_reducible refine wp_set ?_) | (with_reducible refine wp_ret ?_) | (with_reducible refine wp_if ?_) | (with_reducible refine wp_cmp ?_) | (with_reducible refine wp_not ?_) | (with_reducible refine wp_and ?_)
  | (with_reducible refine wp_or ?_) | (with_reducible refine wp_un ?_) | (with_reducible refine wp_tst ?_) | (with_reducible refine wp_true ?_) | (with_reducible refine wp_isNT ?_) | (with_reducible refine wp_notNT ?_)
  | (with_reducible refine wp_ownS ?_) | (with_reducible refine wp_asg ?_) | (with_reducible refine wp_par ?_) | (with_reducible refine wp_parO ?_) | (with_reducible refine wp_biN ?_) | (with_reducible refine wp_it ?_)
  | (with_reducible refine wp_isi ?_) | (with_reducible refine wp_isiC ?_) | (with_reducible refine wp_sl ?_) | (with_reducible refine wp_slN ?_) | (with_reducible refine wp_bd ?_) | (with_reducible refine wp_addN ?_)
  | (with_reducible refine wp_sm ?_) | (with_reducible refine wp_smN ?_) | (with_reducible refine wp_for ?_) | (with_reducible refine wp_comp ?_) | (with_reducible refine wp_cmp2 ?_) | (with_reducible refine wp_for_nil ?_)
  | (with_reducible refine wp_compN ?_) | (with_reducible refine lq_next ?_) | (with_reducible refine lq_ret ?_) | (with_reducible refine wp_rep ?_) | ((with_reducible apply wp_val); · rfl) | ((with_reducible apply wp_own); · rfl)
  | (with_reducible refine wp_fmt ?_) | (with_reducible refine wp_joinsN ?_) | (with_reducible refine wp_joinsC ?_) | (with_reducible refine wp_oNew ?_) | (with_reducible refine wp_oIx ?_) | (with_reducible refine wp_oTup ?_) | (with_reducible refine wp_oLen ?_)
  | (with_reducible refine wp_oRev ?_) | (with_reducible refine wp_oApp ?_) | (with_reducible refine wp_oPop ?_) | (with_reducible refine wp_oIns ?_) | (with_reducible refine wp_oSet ?_) | (with_reducible refine wp_par3 ?_) | (with_reducible refine wp_sort ?_) | (with_reducible refine wp_rev ?_)
  | (with_reducible refine J.wp_andV ?_) | (with_reducible refine wp_orV ?_) | (with_reducible refine wp_notV ?_) | (with_reducible refine wp_isNM ?_) | (with_reducible refine wp_notNM ?_) | (with_reducible refine wp_chain ?_) | (with_reducible refine wp_tabI ?_) | (with_reducible refine wp_tabT ?_)
  | (with_reducible refine wp_tabX ?_) | (with_reducible refine wp_expr ?_)
  | ((with_reducible apply wp_then); · rfl) | ((with_reducible apply wp_else); · rfl) | ((with_reducible apply wp_lenO); · rfl) | ((with_reducible apply wp_lenV); · rfl) | ((with_reducible apply wp_app); · rfl) | ((with_reducible apply wp_for_cons); · rfl)
  | ((with_reducible apply wp_compC); · rfl) | ((with_reducible apply ex_two); · rfl) | (with_reducible refine wp_of ?_) | (with_reducible refine wp_bind ?_) | ((with_reducible refine ⟨?_, ?_⟩); · exact of_decide_eq_true rfl))

section
variable {S ρ : List MO} {n : Nat}
theorem read_prog_ok {z : Str} {ds : List D} (h : Good ds) (t : TellsR z ((ds.map wl).map wrow)) : Wf f_read_program [.str z] S fun r S' => r = prog ds ∧ S' = S := by
  have lo := h.lo
  have hi := h.hi
  have hne : (ds.map wl).map wrow ≠ [] := fun e => by
    have := congrArg List.length e
    simp at this
    rw [this] at lo
    simp at lo
  refine wf_run ?_
  unfold m_read_program
  repeat walk_at "jstep"
  refine (told_ok hne t).imp fun r S1 ⟨e1, ps, e2, e3⟩ => ?_
  subst e1
  subst e2
  repeat walk_at "jstep"
  refine (steps_of_ok (ds := ds) (by rw [e3, List.map_map]; rfl) hi h.ok).imp fun r S2 ⟨e1, e2⟩ => ?_
  subst e1
  subst e2
  repeat walk_at "jstep"
  refine wp_else (decide_eq_false (show ¬ ((12 : Int) < ds.length) by omega)) ?_
  repeat walk_at "jstep"
  refine wp_prog h ?_
  repeat walk_at "jstep"
  exact ⟨rfl, rfl, rfl⟩
def mv (k : Int) (d : D) : D := match d with
  | .tup [.str w, .int i, o] => if w = "go" then .tup [.str w, .int (i + k), o] else d
  | d => d
theorem moved_eq {d : D} {m k : Int} (h : StepOk m d) : f_moved [d, .int k] S = .ok (mv k d) S := by
  rcases h with h | ⟨p, q, rfl, _⟩ | ⟨ps, b, w, rfl, _⟩ | ⟨l, o, rfl, _⟩
  · simp only [words1, List.mem_cons, List.not_mem_nil, or_false] at h
    rcases h with rfl | rfl | rfl | rfl <;> rfl
  · rfl
  · rfl
  · rfl
theorem law_moved_eq {d : D} {m k : Int} (h : StepOk m d) : f__law_moved [d, .int k] S = .ok (mv k d) S := by
  rcases h with h | ⟨p, q, rfl, _⟩ | ⟨ps, b, w, rfl, _⟩ | ⟨l, o, rfl, _⟩
  · simp only [words1, List.mem_cons, List.not_mem_nil, or_false] at h
    rcases h with rfl | rfl | rfl | rfl <;> rfl
  · rfl
  · rfl
  · rfl
theorem mv_ok {d : D} {m k : Int} (h0 : 0 ≤ k) (h : StepOk m d) : StepOk (m + k) (mv k d) := by
  rcases h with h | ⟨p, q, rfl, h1⟩ | ⟨ps, b, w, rfl, h1⟩ | ⟨l, o, rfl, h1, h2, h3⟩
  · left
    simp only [words1, List.mem_cons, List.not_mem_nil, or_false] at h ⊢
    rcases h with rfl | rfl | rfl | rfl
    · exact .inl rfl
    · exact .inr (.inl rfl)
    · exact .inr (.inr (.inl rfl))
    · exact .inr (.inr (.inr rfl))
  · exact .inr (.inl ⟨p, q, rfl, h1⟩)
  · exact .inr (.inr (.inl ⟨ps, b, w, rfl, h1⟩))
  · exact .inr (.inr (.inr ⟨l + k, o, rfl, by omega, by omega, h3⟩))
def plusP (a b : List D) : List D := a ++ b.map (mv a.length)
theorem plus_good {a b : List D} (ha : Good a) (hb : Good b) (h : a.length + b.length ≤ 12) : Good (plusP a b) := by
  have := ha.lo
  have := ha.hi
  have := hb.hi
  refine ⟨by simp [plusP]; omega, by simp [plusP]; omega, fun d hd => ?_⟩
  have el : ((plusP a b).length : Int) = b.length + a.length := by simp [plusP]; omega
  rw [el]
  rcases List.mem_append.mp hd with hd | hd
  · exact (ha.ok d hd).mono (by omega)
  · obtain ⟨x, hx, rfl⟩ := List.mem_map.mp hd
    exact mv_ok (by omega) (hb.ok x hx)
def setP (a : List D) (k : Nat) (d : D) : List D := a.take k ++ [d] ++ a.drop (k + 1)
theorem setP_len {a : List D} {k : Nat} {d : D} (h : k < a.length) : (setP a k d).length = a.length := by
  simp [setP]
  omega
theorem set_good {a : List D} {k : Nat} {d : D} (ha : Good a) (hk : k < a.length) (hd : StepOk (a.length : Int) d) : Good (setP a k d) := by
  have h1 := ha.lo
  have h2 := ha.hi
  refine ⟨by rw [setP_len hk]; exact h1, by rw [setP_len hk]; exact h2, fun x hx => ?_⟩
  rw [setP_len hk]
  rcases List.mem_append.mp hx with hx | hx
  · rcases List.mem_append.mp hx with hx | hx
    · exact ha.ok x (List.mem_of_mem_take hx)
    · rw [List.mem_singleton.mp hx]
      exact hd
  · exact ha.ok x (List.mem_of_mem_drop hx)
theorem wp_listed {a : M D} {ds : List D} {st : Sta} {Q : D → Sta → Prop} (w : Wp a st fun y st1 => y = prog ds ∧ Q (.tup ds) st1) : Wp (fldG ["Program"] "listed" a) st Q := J.wp_fldG (w.imp fun y st1 ⟨e, q⟩ => by
  subst e
  exact ⟨_, _, rfl, q⟩)
theorem index_ok {k m : Int} (h0 : 0 ≤ k) (h1 : k < m) : Wf f_is_index [.int k, .int m] S fun r S' => r = .bl true ∧ S' = S := by
  refine wf_run ?_
  unfold m_is_index
  repeat walk_at "jstep"
  refine (within_ok2 (S := S) h0 (show k ≤ m - 1 by omega)).imp fun r S' ⟨e1, e2⟩ => ?_
  subst e1
  subst e2
  repeat walk_at "jstep"
  exact ⟨rfl, rfl⟩
theorem tup_take {l : List D} {m : Int} (h : 0 ≤ m) : dSl (.tup l) none (some m) = some (.tup (l.take m.toNat)) := by
  show some (D.tup (cutD l none (some m))) = _
  rw [cut_take h]
theorem tup_drop {l : List D} {m : Int} (h0 : 0 ≤ m) (h1 : m ≤ l.length) : dSl (.tup l) (some m) none = some (.tup (l.drop m.toNat)) := by
  show some (D.tup (cutD l (some m) none)) = _
  rw [cut_drop h0 h1]
theorem with_step_ok {ds : List D} {k : Nat} {d : D} (h : Good ds) (hk : k < ds.length) (hd : StepOk (ds.length : Int) d) : Wf f_Program_with_step [prog ds, .int k, d] S fun r S' => r = prog (setP ds k d) ∧ S' = S := by
  have hi := h.hi
  refine wf_run ?_
  unfold m_Program_with_step
  repeat walk_at "jstep"
  refine wp_listed (ds := ds) ?_
  repeat walk_at "jstep"
  refine ⟨rfl, ?_⟩
  repeat walk_at "jstep"
  refine (index_ok (S := S) (k := k) (m := ds.length) (by omega) (by omega)).imp fun r S' ⟨e1, e2⟩ => ?_
  subst e1
  subst e2
  repeat walk_at "jstep"
  refine wp_prog (set_good h hk hd) ?_
  repeat walk_at "jstep"
  refine wp_listed (ds := ds) ?_
  repeat walk_at "jstep"
  refine ⟨rfl, ?_⟩
  repeat walk_at "jstep"
  rw [cut_take (show (0 : Int) ≤ k by omega)]
  refine ⟨_, tups_add (by simp; omega), ?_⟩
  refine wp_sl (wp_listed (ds := ds) ?_)
  repeat walk_at "jstep"
  refine ⟨rfl, ?_⟩
  repeat walk_at "jstep"
  rw [cut_drop (show (0 : Int) ≤ k + 1 by omega) (by omega)]
  refine ⟨_, tups_add (by simp; omega), ?_⟩
  repeat walk_at "jstep"
  refine ⟨?_, rfl, rfl⟩
  simp [setP]
end
end Law
end
section
namespace Law
open PySem PySem.Spec L2 J
local macro_rules | `(tactic| walk_at "jstep") => `(tactic| first
  | (with_reducible refine wp_seq ?_) | (with_reducible refine fq_next ?_) | (with_reducible refine fq_ret ?_) | (with_reducible refine rq_ret ?_) | (with_reducible refine wp_cons ?_) | (with_reducible refine wp_nil ?_)
  | (with_reducible refine wp_pure ?_) | (with_reducible refine wp_op ?_) | (with_reducible refine wp_fn ?_) | (with_reducible refine wp_bi ?_) | (with_reducible refine wp_tup ?_) | (with_reducible refine wp_lst ?_)
  | (with_reducible refine wp_set ?_) | (with_reducible refine wp_ret ?_) | (with_reducible refine wp_if ?_) | (with_reducible refine wp_cmp ?_) | (with_reducible refine wp_not ?_) | (with_reducible refine wp_and ?_)
  | (with_reducible refine wp_or ?_) | (with_reducible refine wp_un ?_) | (with_reducible refine wp_tst ?_) | (with_reducible refine wp_true ?_) | (with_reducible refine wp_isNT ?_) | (with_reducible refine wp_notNT ?_)
  | (with_reducible refine wp_ownS ?_) | (with_reducible refine wp_asg ?_) | (with_reducible refine wp_par ?_) | (with_reducible refine wp_parO ?_) | (with_reducible refine wp_biN ?_) | (with_reducible refine wp_it ?_)
  | (with_reducible refine wp_isi ?_) | (with_reducible refine wp_isiC ?_) | (with_reducible refine wp_sl ?_) | (with_reducible refine wp_slN ?_) | (with_reducible refine wp_bd ?_) | (with_reducible refine wp_addN ?_)
  | (with_reducible refine wp_sm ?_) | (with_reducible refine wp_smN ?_) | (with_reducible refine wp_for ?_) | (with_reducible refine wp_comp ?_) | (with_reducible refine wp_cmp2 ?_) | (with_reducible refine wp_for_nil ?_)
  | (with_reducible refine wp_compN ?_) | (with_reducible refine lq_next ?_) | (with_reducible refine lq_ret ?_) | (with_reducible refine wp_rep ?_) | ((with_reducible apply wp_val); · rfl) | ((with_reducible apply wp_own); · rfl)
  | (with_reducible refine wp_fmt ?_) | (with_reducible refine wp_joinsN ?_) | (with_reducible refine wp_joinsC ?_) | (with_reducible refine wp_oNew ?_) | (with_reducible refine wp_oIx ?_) | (with_reducible refine wp_oTup ?_) | (with_reducible refine wp_oLen ?_)
  | (with_reducible refine wp_oRev ?_) | (with_reducible refine wp_oApp ?_) | (with_reducible refine wp_oPop ?_) | (with_reducible refine wp_oIns ?_) | (with_reducible refine wp_oSet ?_) | (with_reducible refine wp_par3 ?_) | (with_reducible refine wp_sort ?_) | (with_reducible refine wp_rev ?_)
  | (with_reducible refine J.wp_andV ?_) | (with_reducible refine wp_orV ?_) | (with_reducible refine wp_notV ?_) | (with_reducible refine wp_isNM ?_) | (with_reducible refine wp_notNM ?_) | (with_reducible refine wp_chain ?_) | (with_reducible refine wp_tabI ?_) | (with_reducible refine wp_tabT ?_)
  | (with_reducible refine wp_tabX ?_) | (with_reducible refine wp_expr ?_)
  | ((with_reducible apply wp_then); · rfl) | ((with_reducible apply wp_else); · rfl) | ((with_reducible apply wp_lenO); · rfl) | ((with_reducible apply wp_lenV); · rfl) | ((with_reducible apply wp_app); · rfl) | ((with_reducible apply wp_for_cons); · rfl)
  | ((with_reducible apply wp_compC); · rfl) | ((with_reducible apply ex_two); · rfl) | (with_reducible refine wp_of ?_) | (with_reducible refine wp_bind ?_) | ((with_reducible refine ⟨?_, ?_⟩); · exact of_decide_eq_true rfl))

section
variable {S ρ : List MO} {n : Nat}
theorem mask_other {k j : Nat} {r : List (Option Sl)} {v d : D} (h : j ≠ k) (e : r[j]? = some (some (.val v))) : ((maskSt [k] ⟨r, S⟩).r.set k (some (.val d)))[j]? = some (some (.val v)) := by
  rw [List.getElem?_set_ne (Ne.symm h)]
  show (r.mapIdx (maskSl [k]))[j]? = _
  rw [List.getElem?_mapIdx, e]
  show some (maskSl [k] j (some (.val v))) = _
  unfold maskSl
  rw [if_neg (by simpa using h)]
theorem mask_self {k : Nat} {r : List (Option Sl)} {d : D} (hk : k < r.length) : ((maskSt [k] ⟨r, S⟩).r.set k (some (.val d)))[k]? = some (some (.val d)) := by
  rw [List.getElem?_set_self (by simpa [maskSt] using hk)]
theorem map_comp {f : D → D} {me : M D} {k : Nat} {r : List (Option Sl)} {ds : List D} (hk : k < r.length) (h : ∀ d ∈ ds, Wp me ⟨(maskSt [k] ⟨r, S⟩).r.set k (some (.val d)), S⟩ fun y st => y = f d ∧ st.S = S) {Q : List D → Sta → Prop} (w : Q (ds.map f) ⟨r, S⟩) :
    Wp (compL [k] (setV k) (pure true) me [] ds) ⟨r, S⟩ Q := by
  refine wp_compI (fun acc es S2 => S2 = S ∧ ∃ h1, h1 ++ es = ds ∧ acc = h1.map f) (fun acc S2 hi => ?_) (fun acc x es S2 hi => ?_) _ _ _ ⟨rfl, [], rfl, rfl⟩
  · obtain ⟨rfl, h1, e1, rfl⟩ := hi
    rw [List.append_nil] at e1
    subst e1
    exact w
  · obtain ⟨rfl, h1, e1, rfl⟩ := hi
    have len : (maskSt [k] ⟨r, S2⟩).r.length = r.length := by simp [maskSt]
    refine ⟨_, setV_ok (by rw [len]; exact hk), wp_pure ?_⟩
    rw [if_pos rfl]
    refine (h x (by rw [← e1]; simp)).imp fun y st2 ⟨e2, e3⟩ => ?_
    subst e2
    exact ⟨e3, h1 ++ [x], by rw [← e1]; simp, by simp⟩
theorem add_ok {a b : List D} (ha : Good a) (hb : Good b) (h : a.length + b.length ≤ 12) : Wf f_Programu_addu [prog a, prog b] S fun r S' => r = prog (plusP a b) ∧ S' = S := by
  have h1 := ha.hi
  have h2 := hb.hi
  refine wf_run ?_
  unfold m_Programu_addu
  repeat walk_at "jstep"
  refine wp_listed (ds := a) ?_
  repeat walk_at "jstep"
  refine ⟨rfl, ?_⟩
  repeat walk_at "jstep"
  refine wp_listed (ds := b) ?_
  repeat walk_at "jstep"
  refine ⟨rfl, ?_⟩
  repeat walk_at "jstep"
  refine wp_else (decide_eq_false (show ¬ ((12 : Int) < (a.length : Int) + b.length) by omega)) ?_
  repeat walk_at "jstep"
  refine wp_prog (plus_good ha hb h) ?_
  repeat walk_at "jstep"
  refine wp_listed (ds := a) ?_
  repeat walk_at "jstep"
  refine ⟨rfl, ?_⟩
  repeat walk_at "jstep"
  refine wp_listed (ds := b) ?_
  repeat walk_at "jstep"
  refine ⟨rfl, ?_⟩
  repeat walk_at "jstep"
  refine ⟨by omega, ?_⟩
  refine map_comp (f := mv a.length) (of_decide_eq_true rfl) (fun d hd => ?_) ?_
  · refine wp_fn (wp_cons (wp_val (mask_self (of_decide_eq_true rfl)) (wp_cons (wp_val (mask_other (by decide) rfl) (wp_nil ?_)))))
    exact wf_eq (moved_eq (hb.ok d hd)) ⟨rfl, rfl⟩
  · repeat walk_at "jstep"
    refine ⟨_, tups_add (by simp; omega), ?_⟩
    repeat walk_at "jstep"
    exact ⟨rfl, rfl, rfl⟩
theorem none_ok : Wf f_Faults_none [] S fun r S' => r = faD [0, 0, 0, 0] ∧ S' = S := by
  refine wf_run ?_
  unfold m_Faults_none
  repeat walk_at "jstep"
  refine wp_faults (fs := [0, 0, 0, 0]) ⟨rfl, by decide⟩ ?_
  repeat walk_at "jstep"
  exact ⟨rfl, rfl, rfl⟩
theorem with_faults_ok {hs : List (List D)} {fs gs : List Int} {ws : List (List Int)} {fr : Bool} (h : CaseOk hs gs ws) : Wf f_Case_with_faults [caD hs fs ws fr, faD gs] S fun r S' => r = caD hs gs ws fr ∧ S' = S := by
  refine wf_run ?_
  unfold m_Case_with_faults
  repeat walk_at "jstep"
  refine wp_case (fs := gs) (fr := fr) h ?_
  repeat walk_at "jstep"
  refine wp_cprograms (hs := hs) (fs := fs) (ws := ws) (fr := fr) (wp_val rfl ⟨rfl, ?_⟩)
  repeat walk_at "jstep"
  refine wp_cwishes (hs := hs) (fs := fs) (ws := ws) (fr := fr) (wp_val rfl ⟨rfl, ?_⟩)
  repeat walk_at "jstep"
  refine wp_cfresh (hs := hs) (fs := fs) (ws := ws) (fr := fr) (wp_val rfl ⟨rfl, ?_⟩)
  repeat walk_at "jstep"
  exact ⟨rfl, rfl, rfl⟩
theorem with_wishes_ok {hs : List (List D)} {fs : List Int} {ws : List (List Int)} {fr : Bool} (h : CaseOk hs fs []) : Wf f_Case_with_wishes [caD hs fs ws fr, .tup []] S fun r S' => r = caD hs fs [] fr ∧ S' = S := by
  refine wf_run ?_
  unfold m_Case_with_wishes
  repeat walk_at "jstep"
  refine wp_case (fs := fs) (fr := fr) h ?_
  repeat walk_at "jstep"
  refine wp_cprograms (hs := hs) (fs := fs) (ws := ws) (fr := fr) (wp_val rfl ⟨rfl, ?_⟩)
  repeat walk_at "jstep"
  refine wp_cfaults (hs := hs) (fs := fs) (ws := ws) (fr := fr) (wp_val rfl ⟨rfl, ?_⟩)
  repeat walk_at "jstep"
  refine wp_cfresh (hs := hs) (fs := fs) (ws := ws) (fr := fr) (wp_val rfl ⟨rfl, ?_⟩)
  repeat walk_at "jstep"
  exact ⟨rfl, rfl, rfl⟩
theorem with_program_ok {a b c : List D} {fs : List Int} {ws : List (List Int)} {fr : Bool} (h : CaseOk [a, c] fs ws) : Wf f_Case_with_program [caD [a, b] fs ws fr, .int 1, prog c] S fun r S' => r = caD [a, c] fs ws fr ∧ S' = S := by
  refine wf_run ?_
  unfold m_Case_with_program
  repeat walk_at "jstep"
  refine wp_cprograms (hs := [a, b]) (fs := fs) (ws := ws) (fr := fr) (wp_val rfl ⟨rfl, ?_⟩)
  repeat walk_at "jstep"
  refine (index_ok (S := S) (k := 1) (m := 2) (by omega) (by omega)).imp fun r S' ⟨e1, e2⟩ => ?_
  subst e1
  subst e2
  repeat walk_at "jstep"
  refine wp_cprograms (hs := [a, b]) (fs := fs) (ws := ws) (fr := fr) (wp_val rfl ⟨rfl, ?_⟩)
  repeat walk_at "jstep"
  refine wp_cprograms (hs := [a, b]) (fs := fs) (ws := ws) (fr := fr) (wp_val rfl ⟨rfl, ?_⟩)
  repeat walk_at "jstep"
  refine wp_case (fs := fs) (fr := fr) h ?_
  repeat walk_at "jstep"
  refine wp_cfaults (hs := [a, b]) (fs := fs) (ws := ws) (fr := fr) (wp_val rfl ⟨rfl, ?_⟩)
  repeat walk_at "jstep"
  refine wp_cwishes (hs := [a, b]) (fs := fs) (ws := ws) (fr := fr) (wp_val rfl ⟨rfl, ?_⟩)
  repeat walk_at "jstep"
  refine wp_cfresh (hs := [a, b]) (fs := fs) (ws := ws) (fr := fr) (wp_val rfl ⟨rfl, ?_⟩)
  repeat walk_at "jstep"
  exact ⟨rfl, rfl, rfl⟩
end
end Law
end
section
namespace Law
open PySem PySem.Spec L2 J
local macro_rules | `(tactic| walk_at "jstep") => `(tactic| first
  | (with_reducible refine wp_seq ?_) | (with_reducible refine fq_next ?_) | (with_reducible refine fq_ret ?_) | (with_reducible refine rq_ret ?_) | (with_reducible refine wp_cons ?_) | (with_reducible refine wp_nil ?_)
  | (with_reducible refine wp_pure ?_) | (with_reducible refine wp_op ?_) | (with_reducible refine wp_fn ?_) | (with_reducible refine wp_bi ?_) | (with_reducible refine wp_tup ?_) | (with_reducible refine wp_lst ?_)
  | (with_reducible refine wp_set ?_) | (with_reducible refine wp_ret ?_) | (with_reducible refine wp_if ?_) | (with_reducible refine wp_cmp ?_) | (with_reducible refine wp_not ?_) | (with_reducible refine wp_and ?_)
  | (with_reducible refine wp_or ?_) | (with_reducible refine wp_un ?_) | (with_reducible refine wp_tst ?_) | (with_reducible refine wp_true ?_) | (with_reducible refine wp_isNT ?_) | (with_reducible refine wp_notNT ?_)
  | (with_reducible refine wp_ownS ?_) | (with_reducible refine wp_asg ?_) | (with_reducible refine wp_par ?_) | (with_reducible refine wp_parO ?_) | (with_reducible refine wp_biN ?_) | (with_reducible refine wp_it ?_)
  | (with_reducible refine wp_isi ?_) | (with_reducible refine wp_isiC ?_) | (with_reducible refine wp_sl ?_) | (with_reducible refine wp_slN ?_) | (with_reducible refine wp_bd ?_) | (with_reducible refine wp_addN ?_)
  | (with_reducible refine wp_sm ?_) | (with_reducible refine wp_smN ?_) | (with_reducible refine wp_for ?_) | (with_reducible refine wp_comp ?_) | (with_reducible refine wp_cmp2 ?_) | (with_reducible refine wp_for_nil ?_)
  | (with_reducible refine wp_compN ?_) | (with_reducible refine lq_next ?_) | (with_reducible refine lq_ret ?_) | (with_reducible refine wp_rep ?_) | ((with_reducible apply wp_val); · rfl) | ((with_reducible apply wp_own); · rfl)
  | (with_reducible refine wp_fmt ?_) | (with_reducible refine wp_joinsN ?_) | (with_reducible refine wp_joinsC ?_) | (with_reducible refine wp_oNew ?_) | (with_reducible refine wp_oIx ?_) | (with_reducible refine wp_oTup ?_) | (with_reducible refine wp_oLen ?_)
  | (with_reducible refine wp_oRev ?_) | (with_reducible refine wp_oApp ?_) | (with_reducible refine wp_oPop ?_) | (with_reducible refine wp_oIns ?_) | (with_reducible refine wp_oSet ?_) | (with_reducible refine wp_par3 ?_) | (with_reducible refine wp_sort ?_) | (with_reducible refine wp_rev ?_)
  | (with_reducible refine J.wp_andV ?_) | (with_reducible refine wp_orV ?_) | (with_reducible refine wp_notV ?_) | (with_reducible refine wp_isNM ?_) | (with_reducible refine wp_notNM ?_) | (with_reducible refine wp_chain ?_) | (with_reducible refine wp_tabI ?_) | (with_reducible refine wp_tabT ?_)
  | (with_reducible refine wp_tabX ?_) | (with_reducible refine wp_expr ?_)
  | ((with_reducible apply wp_then); · rfl) | ((with_reducible apply wp_else); · rfl) | ((with_reducible apply wp_lenO); · rfl) | ((with_reducible apply wp_lenV); · rfl) | ((with_reducible apply wp_app); · rfl) | ((with_reducible apply wp_for_cons); · rfl)
  | ((with_reducible apply wp_compC); · rfl) | ((with_reducible apply ex_two); · rfl) | (with_reducible refine wp_of ?_) | (with_reducible refine wp_bind ?_) | ((with_reducible refine ⟨?_, ?_⟩); · exact of_decide_eq_true rfl))

section
variable {S ρ : List MO} {n k : Nat}
theorem eqD_two {d e : D} {q q' : PyData} (hp : D.py d = some q) (hq : D.py e = some q') (h1 : q.depth ≤ 40) (h2 : q'.depth ≤ 40) : eqD d e = some (PyData.eqv q q') := by
  unfold eqD
  rw [hp, hq]
  simp only [Option.bind_some]
  rw [if_pos ⟨by omega, by omega⟩]
theorem eq_two {d e : D} {q q' : PyData} (hp : D.py d = some q) (hq : D.py e = some q') (h1 : q.depth ≤ 40) (h2 : q'.depth ≤ 40) : dEq d e = some (.bl (PyData.eqv q q')) := by
  unfold dEq
  rw [eqD_two hp hq h1 h2]
  rfl
theorem equ_dec {a b : List D} (ha : Good a) (hb : Good b) : ∃ t : Bool, (t = true ↔ a = b) ∧ (t = false → farD (.tup a) (.tup b) = true) ∧ ∀ S, f_Programu_equ [prog a, prog b] S = .ok (.bl t) S := by
  obtain ⟨q, e, a1, a2, _⟩ := tup_py ha
  obtain ⟨q', e', b1, b2, _⟩ := tup_py hb
  have hi := ha.hi
  have hi' := hb.hi
  refine ⟨PyData.eqv q q', ⟨fun h => ?_, fun h => ?_⟩, fun h => far_of e e' (by omega) (by omega) h, fun S => ?_⟩
  · obtain ⟨ps, p1, rfl⟩ := Option.map_eq_some_iff.mp (show (D.pys a).map PyData.tuple = some q from e)
    obtain ⟨qs, p2, rfl⟩ := Option.map_eq_some_iff.mp (show (D.pys b).map PyData.tuple = some q' from e')
    exact steps_inj (fun d hd => ok12 (n := a.length) (ha.ok d hd) hi) (fun d hd => ok12 (n := b.length) (hb.ok d hd) hi') p1 p2 (by rw [PyData.eqv] at h; exact h)
  · subst h
    rw [e] at e'
    cases e'
    exact (fine a1).pl
  · suffices h : Wf f_Programu_equ [prog a, prog b] S fun r S' => r = .bl (PyData.eqv q q') ∧ S' = S by
      obtain ⟨r, S', e, rfl, rfl⟩ := h
      exact e
    refine wf_run ?_
    unfold m_Programu_equ
    refine wp_ret (J.wp_andV (wp_isiC (wp_val rfl ⟨.bl true, rfl, true, rfl, ?_⟩)))
    refine wp_then rfl (wp_op (J.wp_fldG (wp_val rfl ⟨.tup a, _, rfl, J.wp_fldG (wp_val rfl ⟨.tup b, _, rfl, _, eq_two e e' a2 b2, ?_⟩)⟩)))
    exact ⟨rfl, rfl⟩
theorem ints_inj : ∀ {l m : List Int}, PyData.eqvAll (l.map PyData.int) (m.map PyData.int) = true → l = m
  | [], [], _ => rfl
  | x :: l, y :: m, h => by
    obtain ⟨h1, h2⟩ := Bool.and_eq_true_iff.mp (show (PyData.eqv (.int x) (.int y) && PyData.eqvAll (l.map PyData.int) (m.map PyData.int)) = true by rw [List.map_cons, List.map_cons, PyData.eqvAll] at h; exact h)
    have h1 : (x == y) = true := by simpa [PyData.eqv] using h1
    rw [beq_iff_eq.mp h1, ints_inj h2]
  | [], _ :: _, h => by simp [PyData.eqvAll] at h
  | _ :: _, [], h => by simp [PyData.eqvAll] at h
theorem edD_py (l : List Int) : D.py (edD l) = some (.tuple (l.map PyData.int)) := by
  show (D.pys (l.map D.int)).map PyData.tuple = _
  rw [ints_py]
  rfl
theorem edD_depth (l : List Int) : (PyData.tuple (l.map PyData.int)).depth ≤ 40 := by
  have := ints_depth l
  simp only [PyData.depth]
  omega
theorem fau_dec {fs gs : List Int} : ∃ t : Bool, (t = true ↔ fs = gs) ∧ (t = false → farD (edD fs) (edD gs) = true) ∧ ∀ S, f_Faultsu_equ [faD fs, faD gs] S = .ok (.bl t) S := by
  have d1 := edD_depth fs
  have d2 := edD_depth gs
  refine ⟨PyData.eqv (.tuple (fs.map PyData.int)) (.tuple (gs.map PyData.int)), ⟨fun h => ?_, fun h => ?_⟩, fun h => far_of (edD_py fs) (edD_py gs) (by omega) (by omega) h, fun S => ?_⟩
  · exact ints_inj (by rw [PyData.eqv] at h; exact h)
  · subst h
    rw [PyData.eqv]
    exact ints_self fs
  · suffices h : Wf f_Faultsu_equ [faD fs, faD gs] S fun r S' => r = .bl (PyData.eqv (.tuple (fs.map PyData.int)) (.tuple (gs.map PyData.int))) ∧ S' = S by
      obtain ⟨r, S', e, rfl, rfl⟩ := h
      exact e
    refine wf_run ?_
    unfold m_Faultsu_equ
    refine wp_ret (J.wp_andV (wp_isiC (wp_val rfl ⟨.bl true, rfl, true, rfl, ?_⟩)))
    refine wp_then rfl (wp_op (J.wp_fldG (wp_val rfl ⟨edD fs, _, rfl, J.wp_fldG (wp_val rfl ⟨edD gs, _, rfl, _, eq_two (edD_py fs) (edD_py gs) d1 d2, ?_⟩)⟩)))
    exact ⟨rfl, rfl⟩
def EqR (S : List MO) (k : Nat) (x y : D) : Prop := ∃ t : Bool, eqX qt_Program_Faults S k x y = some t ∧ (t = true ↔ x = y) ∧ (t = false → farD x y = true)
theorem eqr_int {i j : Int} : EqR S (k + 1) (.int i) (.int j) := by
  refine ⟨PyData.eqv (.int i) (.int j), eqD_two (q := .int i) (q' := .int j) rfl rfl (by simp [PyData.depth]) (by simp [PyData.depth]), by simp [PyData.eqv], fun h => ?_⟩
  exact far_of (p := .int i) (q := .int j) rfl rfl (by simp [PyData.depth]) (by simp [PyData.depth]) h
theorem eqr_bl {i j : Bool} : EqR S (k + 1) (.bl i) (.bl j) := by
  refine ⟨PyData.eqv (.bool i) (.bool j), eqD_two (q := .bool i) (q' := .bool j) rfl rfl (by simp [PyData.depth]) (by simp [PyData.depth]), by simp [PyData.eqv], fun h => ?_⟩
  exact far_of (p := .bool i) (q := .bool j) rfl rfl (by simp [PyData.depth]) (by simp [PyData.depth]) h
theorem eql_dec : ∀ {xs ys : List D}, (∀ p ∈ xs.zip ys, EqR S k p.1 p.2) → ∃ t : Bool, eqL (eqX qt_Program_Faults S k) (decide (xs.length = ys.length)) xs ys = some t ∧ (t = true ↔ xs = ys) ∧ (t = false → farL xs ys = true)
  | [], [], _ => ⟨true, rfl, by simp, by simp⟩
  | [], y :: ys, _ => ⟨false, by simp [eqL], by simp, fun _ => rfl⟩
  | x :: xs, [], _ => ⟨false, by simp [eqL], by simp, fun _ => rfl⟩
  | x :: xs, y :: ys, h => by
    obtain ⟨t, e, h1, h2⟩ := h (x, y) (by simp)
    obtain ⟨u, f, g1, g2⟩ := eql_dec (xs := xs) (ys := ys) fun p hp => h p (by rw [List.zip_cons_cons]; exact List.mem_cons_of_mem _ hp)
    have el : decide ((x :: xs).length = (y :: ys).length) = decide (xs.length = ys.length) := by simp
    rw [el]
    have e0 : eqL (eqX qt_Program_Faults S k) (decide (xs.length = ys.length)) (x :: xs) (y :: ys) = ((eqX qt_Program_Faults S k x y).bind fun t => if t = true then eqL (eqX qt_Program_Faults S k) (decide (xs.length = ys.length)) xs ys else some false) := rfl
    rw [e0]
    have e : eqX qt_Program_Faults S k x y = some t := e
    rw [e]
    cases t with
    | true =>
      have hxy : x = y := h1.mp rfl
      subst hxy
      refine ⟨u, ?_, ?_, fun hu => ?_⟩
      · show (if true = true then eqL (eqX qt_Program_Faults S k) (decide (xs.length = ys.length)) xs ys else some false) = _
        rw [if_pos rfl, f]
      · rw [g1]
        simp
      · show (farD x x || farL xs ys) = true
        rw [g2 hu, Bool.or_true]
    | false =>
      refine ⟨false, rfl, ⟨fun h => (Bool.false_ne_true h).elim, fun h => ?_⟩, fun _ => ?_⟩
      · injection h with h3 h4
        exact h1.mpr h3
      · show (farD x y || farL xs ys) = true
        rw [show farD x y = true from h2 rfl, Bool.true_or]
theorem eqr_tup {xs ys : List D} (h : ∀ p ∈ xs.zip ys, EqR S k p.1 p.2) : EqR S (k + 1) (.tup xs) (.tup ys) := by
  obtain ⟨t, e, h1, h2⟩ := eql_dec h
  refine ⟨t, ?_, ?_, h2⟩
  · show ((eqL (eqX qt_Program_Faults S k) (decide (xs.length = ys.length)) xs ys).bind fun t => if t = true ∨ farD (.tup xs) (.tup ys) = true then some t else none) = _
    rw [e]
    show (if t = true ∨ farD (.tup xs) (.tup ys) = true then some t else none) = _
    rw [if_pos]
    cases t with
    | true => exact .inl rfl
    | false => exact .inr (h2 rfl)
  · rw [h1]
    exact ⟨fun h => by rw [h], fun h => by injection h⟩
theorem eqr_ins {c : Str} {fs gs : List (Str × D)} {mf : Mf} {t : Bool} (h1 : qt_Program_Faults c = some mf) (h2 : mf [.ins c fs, .ins c gs] S = .ok (.bl t) S) (h3 : t = true ↔ fs = gs) (h4 : t = false → farF fs gs = true) : EqR S (k + 1) (.ins c fs) (.ins c gs) := by
  refine ⟨t, ?_, ?_, h4⟩
  · unfold eqX
    simp only [h1, h2, Option.bind_some, if_true]
    rw [if_pos]
    refine ⟨trivial, ?_⟩
    cases t with
    | true => exact .inl rfl
    | false => exact .inr (h4 rfl)
  · rw [h3]
    exact ⟨fun h => by rw [h], fun h => by injection h⟩
theorem eqr_prog {a b : List D} (ha : Good a) (hb : Good b) : EqR S (k + 1) (prog a) (prog b) := by
  obtain ⟨t, h1, h2, h3⟩ := equ_dec ha hb
  refine eqr_ins tab_prog (h3 S) ?_ fun h => ?_
  · rw [h1]
    simp
  · show (farD (.tup a) (.tup b) || farF [] []) = true
    rw [h2 h, Bool.true_or]
theorem int_inj : ∀ {l m : List Int}, l.map D.int = m.map D.int → l = m
  | [], [], _ => rfl
  | x :: l, y :: m, h => by
    injection h with h1 h2
    injection h1 with h1
    rw [h1, int_inj h2]
  | [], _ :: _, h => by cases h
  | _ :: _, [], h => by cases h
theorem eqr_fau {fs gs : List Int} : EqR S (k + 1) (faD fs) (faD gs) := by
  obtain ⟨t, h1, h2, h3⟩ := fau_dec (fs := fs) (gs := gs)
  refine eqr_ins tab_faults (h3 S) ?_ fun h => ?_
  · rw [h1]
    refine ⟨fun h => by rw [h], fun h => ?_⟩
    injection h with h _
    injection h with _ h
    injection h with h
    exact int_inj h
  · show (farD (edD fs) (edD gs) || farF [] []) = true
    rw [h2 h, Bool.true_or]
theorem eqr_ed {a b : List Int} : EqR S (k + 2) (edD a) (edD b) := eqr_tup fun p hp => by
  have h1 := List.of_mem_zip (show (p.1, p.2) ∈ (a.map D.int).zip (b.map D.int) from hp)
  obtain ⟨i, _, e1⟩ := List.mem_map.mp h1.1
  obtain ⟨j, _, e2⟩ := List.mem_map.mp h1.2
  rw [← e1, ← e2]
  exact eqr_int
theorem case_dec {hs hs' : List (List D)} {fs fs' : List Int} {ws ws' : List (List Int)} {fr fr' : Bool} (h : ∀ x ∈ hs, Good x) (h' : ∀ x ∈ hs', Good x) :
    ∃ t : Bool, (t = true ↔ caD hs fs ws fr = caD hs' fs' ws' fr') ∧ f_Caseu_equ [caD hs fs ws fr, caD hs' fs' ws' fr'] S = .ok (.bl t) S := by
  obtain ⟨t, e, h1, _⟩ := eql_dec (S := S) (k := 3) (xs := [.tup (hs.map prog), faD fs, .tup (ws.map edD), .bl fr]) (ys := [.tup (hs'.map prog), faD fs', .tup (ws'.map edD), .bl fr']) fun p hp => by
    simp only [List.zip_cons_cons, List.zip_nil_right, List.mem_cons, List.not_mem_nil, or_false] at hp
    rcases hp with rfl | rfl | rfl | rfl
    · refine eqr_tup fun p hp => ?_
      have h1 := List.of_mem_zip (show (p.1, p.2) ∈ (hs.map prog).zip (hs'.map prog) from hp)
      obtain ⟨i, hi, e1⟩ := List.mem_map.mp h1.1
      obtain ⟨j, hj, e2⟩ := List.mem_map.mp h1.2
      rw [← e1, ← e2]
      exact eqr_prog (h i hi) (h' j hj)
    · exact eqr_fau
    · refine eqr_tup fun p hp => ?_
      have h1 := List.of_mem_zip (show (p.1, p.2) ∈ (ws.map edD).zip (ws'.map edD) from hp)
      obtain ⟨i, hi, e1⟩ := List.mem_map.mp h1.1
      obtain ⟨j, hj, e2⟩ := List.mem_map.mp h1.2
      rw [← e1, ← e2]
      exact eqr_ed
    · exact eqr_bl
  refine ⟨t, ?_, ?_⟩
  · rw [h1]
    refine ⟨fun h => by unfold caD; rw [h], fun h => ?_⟩
    unfold caD at h
    injection h with _ h
    injection h with h _
    injection h with _ h
    injection h with h
  · suffices h : Wf f_Caseu_equ [caD hs fs ws fr, caD hs' fs' ws' fr'] S fun r S' => r = .bl t ∧ S' = S by
      obtain ⟨r, S', e, rfl, rfl⟩ := h
      exact e
    refine wf_run ?_
    unfold m_Caseu_equ
    refine wp_ret (J.wp_andV (wp_isiC (wp_val rfl ⟨.bl true, rfl, true, rfl, ?_⟩)))
    refine wp_then rfl (wp_eqU (J.wp_fldG (wp_val rfl ⟨.tup [.tup (hs.map prog), faD fs, .tup (ws.map edD), .bl fr], _, rfl, J.wp_fldG (wp_val rfl ⟨.tup [.tup (hs'.map prog), faD fs', .tup (ws'.map edD), .bl fr'], _, rfl, ?_⟩)⟩)))
    exact ⟨_, _, t, rfl, rfl, e, rfl, rfl⟩
theorem good_g {a : List D} (h : Good a) : RowsG (a.map wl) := ⟨by have := h.lo; simpa using this, by have := h.hi; simp; omega, good_rows h⟩
theorem det {f : Mf} {ds : List D} {d e : D} {S1 S2 : List MO} (h1 : Wf f ds S fun r S' => r = d ∧ S' = S1) (h2 : Wf f ds S fun r S' => r = e ∧ S' = S2) : d = e := by
  obtain ⟨r, S', e1, rfl, rfl⟩ := h1
  obtain ⟨r', S'', e2, rfl, rfl⟩ := h2
  rw [e1] at e2
  injection e2
theorem text_prog {a b : List D} (ha : Good a) (hb : Good b) : plainS (a.map wl) = plainS (b.map wl) ↔ a = b := by
  refine ⟨fun h => ?_, fun h => by rw [h]⟩
  have h1 := read_prog_ok (S := []) ha (tells_plain (good_g ha))
  have h2 := read_prog_ok (S := []) hb (tells_plain (good_g hb))
  rw [h] at h1
  have e := det h1 h2
  unfold prog at e
  injection e with _ e
  injection e with e _
  injection e with _ e
  injection e
theorem text_case {hs hs' : List (List D)} {fs fs' : List Int} {ws ws' : List (List Int)} {fr fr' : Bool} (h : CaseOk hs fs ws) (h' : CaseOk hs' fs' ws') : plainS (caseR hs fs ws fr) = plainS (caseR hs' fs' ws' fr') ↔ caD hs fs ws fr = caD hs' fs' ws' fr' := by
  refine ⟨fun e => ?_, fun e => ?_⟩
  · have h1 := read_case_ok (S := []) (fr := fr) h rfl (tells_plain (case_rows h))
    have h2 := read_case_ok (S := []) (fr := fr') h' rfl (tells_plain (case_rows h'))
    rw [e] at h1
    exact det h1 h2
  · have h1 := case_text_ok (S := []) (fr := fr) h
    have h2 := case_text_ok (S := []) (fr := fr') h'
    rw [e] at h1
    have := det h1 h2
    injection this
theorem eq_strs {x y : Str} : dEq (.str x) (.str y) = some (.bl (x == y)) := by
  rw [eq_two (q := .str x) (q' := .str y) rfl rfl (by simp [PyData.depth]) (by simp [PyData.depth]), eqv_str]
theorem pair_ok {c : Str} {fs gs : List (Str × D)} {mf : Mf} {t : Bool} {x y : Str} (ht : qt_Program_Case c = some mf) (hm : mf [.ins c fs, .ins c gs] S = .ok (.bl t) S) (h : t = true ↔ x = y) : Wf f__law_pair_right [.ins c fs, .ins c gs, .lst [.str x, .str y]] S fun r S' => r = .bl true ∧ S' = S := by
  refine wf_run ?_
  unfold m__law_pair_right
  refine wp_ret (wp_op (wp_op (wp_op (wp_val rfl (wp_pure ⟨.str x, rfl, wp_op (wp_val rfl (wp_pure ⟨.str y, rfl, ⟨_, eq_strs, ?_⟩⟩))⟩)))))
  refine wp_eqC (wp_val rfl (wp_val rfl ⟨c, fs, gs, mf, t, rfl, rfl, ht, hm, .bl true, ?_, ?_⟩))
  · rw [if_neg (by decide), eq_two (q := .bool (x == y)) (q' := .bool t) rfl rfl (by simp [PyData.depth]) (by simp [PyData.depth])]
    congr 2
    have : (x == y) = t := by
      cases t with
      | true => exact beq_iff_eq.mpr (h.mp rfl)
      | false => exact beq_eq_false_iff_ne.mpr fun e => Bool.false_ne_true (h.mpr e)
    rw [this]
    simp [PyData.eqv]
  · exact ⟨rfl, rfl⟩
theorem pc_prog : qt_Program_Case "Program" = some f_Programu_equ := by
  unfold qt_Program_Case
  have : qt_Program "Program" = some f_Programu_equ := by
    unfold qt_Program
    rw [if_pos rfl]
  rw [this]
theorem pc_case : qt_Program_Case "Case" = some f_Caseu_equ := by
  unfold qt_Program_Case
  have h1 : qt_Program "Case" = none := by
    unfold qt_Program
    rw [if_neg (by decide)]
  have h2 : qt_Case "Case" = some f_Caseu_equ := by
    unfold qt_Case
    rw [if_pos rfl]
  rw [h1, h2]
theorem pair_prog {a b : List D} (ha : Good a) (hb : Good b) : Wf f__law_pair_right [prog a, prog b, .lst [.str (plainS (a.map wl)), .str (plainS (b.map wl))]] S fun r S' => r = .bl true ∧ S' = S := by
  obtain ⟨t, h1, _, h3⟩ := equ_dec ha hb
  exact pair_ok pc_prog (h3 S) (h1.trans (text_prog ha hb).symm)
theorem pair_case {hs hs' : List (List D)} {fs fs' : List Int} {ws ws' : List (List Int)} {fr fr' : Bool} (h : CaseOk hs fs ws) (h' : CaseOk hs' fs' ws') :
    Wf f__law_pair_right [caD hs fs ws fr, caD hs' fs' ws' fr', .lst [.str (plainS (caseR hs fs ws fr)), .str (plainS (caseR hs' fs' ws' fr'))]] S fun r S' => r = .bl true ∧ S' = S := by
  obtain ⟨t, h1, h3⟩ := case_dec (S := S) (fs := fs) (fs' := fs') (ws := ws) (ws' := ws') (fr := fr) (fr' := fr') h.hg h'.hg
  exact pair_ok pc_case h3 (h1.trans (text_case h h').symm)
end
end Law
end
section
--IMPORT J27
namespace Law
open PySem PySem.Spec L2 J
local macro_rules | `(tactic| walk_at "jstep") => `(tactic| first
  | (with_reducible refine wp_seq ?_) | (with_reducible refine fq_next ?_) | (with_reducible refine fq_ret ?_) | (with_reducible refine rq_ret ?_) | (with_reducible refine wp_cons ?_) | (with_reducible refine wp_nil ?_)
  | (with_reducible refine wp_pure ?_) | (with_reducible refine wp_op ?_) | (with_reducible refine wp_fn ?_) | (with_reducible refine wp_bi ?_) | (with_reducible refine wp_tup ?_) | (with_reducible refine wp_lst ?_)
  | (with_reducible refine wp_set ?_) | (with_reducible refine wp_ret ?_) | (with_reducible refine wp_if ?_) | (with_reducible refine wp_cmp ?_) | (with_reducible refine wp_not ?_) | (with_reducible refine wp_and ?_)
  | (with_reducible refine wp_or ?_) | (with_reducible refine wp_un ?_) | (with_reducible refine wp_tst ?_) | (with_reducible refine wp_true ?_) | (with_reducible refine wp_isNT ?_) | (with_reducible refine wp_notNT ?_)
  | (with_reducible refine wp_ownS ?_) | (with_reducible refine wp_asg ?_) | (with_reducible refine wp_par ?_) | (with_reducible refine wp_parO ?_) | (with_reducible refine wp_biN ?_) | (with_reducible refine wp_it ?_)
  | (with_reducible refine wp_isi ?_) | (with_reducible refine wp_isiC ?_) | (with_reducible refine wp_sl ?_) | (with_reducible refine wp_slN ?_) | (with_reducible refine wp_bd ?_) | (with_reducible refine wp_addN ?_)
  | (with_reducible refine wp_sm ?_) | (with_reducible refine wp_smN ?_) | (with_reducible refine wp_for ?_) | (with_reducible refine wp_comp ?_) | (with_reducible refine wp_cmp2 ?_) | (with_reducible refine wp_for_nil ?_)
  | (with_reducible refine wp_compN ?_) | (with_reducible refine lq_next ?_) | (with_reducible refine lq_ret ?_) | (with_reducible refine wp_rep ?_) | ((with_reducible apply wp_val); · rfl) | ((with_reducible apply wp_own); · rfl)
  | (with_reducible refine wp_fmt ?_) | (with_reducible refine wp_joinsN ?_) | (with_reducible refine wp_joinsC ?_) | (with_reducible refine wp_oNew ?_) | (with_reducible refine wp_oIx ?_) | (with_reducible refine wp_oTup ?_) | (with_reducible refine wp_oLen ?_)
  | (with_reducible refine wp_oRev ?_) | (with_reducible refine wp_oApp ?_) | (with_reducible refine wp_oPop ?_) | (with_reducible refine wp_oIns ?_) | (with_reducible refine wp_oSet ?_) | (with_reducible refine wp_par3 ?_) | (with_reducible refine wp_sort ?_) | (with_reducible refine wp_rev ?_)
  | (with_reducible refine J.wp_andV ?_) | (with_reducible refine wp_orV ?_) | (with_reducible refine wp_notV ?_) | (with_reducible refine wp_isNM ?_) | (with_reducible refine wp_notNM ?_) | (with_reducible refine wp_chain ?_) | (with_reducible refine wp_tabI ?_) | (with_reducible refine wp_tabT ?_)
  | (with_reducible refine wp_tabX ?_) | (with_reducible refine wp_expr ?_)
  | ((with_reducible apply wp_then); · rfl) | ((with_reducible apply wp_else); · rfl) | ((with_reducible apply wp_lenO); · rfl) | ((with_reducible apply wp_lenV); · rfl) | ((with_reducible apply wp_app); · rfl) | ((with_reducible apply wp_for_cons); · rfl)
  | ((with_reducible apply wp_compC); · rfl) | ((with_reducible apply ex_two); · rfl) | (with_reducible refine wp_of ?_) | (with_reducible refine wp_bind ?_) | ((with_reducible refine ⟨?_, ?_⟩); · exact of_decide_eq_true rfl))

section
variable {S ρ : List MO} {n : Nat}
theorem plain_len2 : ∀ {rs : List (List Str)}, (∀ r ∈ rs, RowG r) → (plainS rs).length ≤ 121 * rs.length
  | [], _ => by decide
  | r :: rs, h => by
    have h1 := lineS_len (h r (by simp))
    have h2 := plain_len2 (rs := rs) fun x hx => h x (List.mem_cons_of_mem _ hx)
    have e : plainS (r :: rs) = lineS r ++ plainS rs := by
      rw [show r :: rs = [r] ++ rs from rfl, plain_app]
      rfl
    rw [e, str_len, List.length_cons]
    omega
theorem plain_asc {rs : List (List Str)} (h : RowsG rs) : (∀ c ∈ TL.tl (plainS rs), c < 128) ∧ (plainS rs).length ≤ 20000 := by
  have hi := h.hi
  refine ⟨fun c hc => ?_, by have := plain_len2 h.ok; omega⟩
  rw [plain_tl] at hc
  unfold flatL at hc
  obtain ⟨l, hl, hc⟩ := List.mem_flatten.mp hc
  obtain ⟨l', hl', rfl⟩ := List.mem_map.mp hl
  obtain ⟨p, hp, rfl⟩ := List.mem_map.mp hl'
  obtain ⟨d, hd, rfl⟩ := List.mem_map.mp hp
  rcases List.mem_append.mp hc with hc | hc
  · rcases join_mem hc with hc | ⟨w, hw, hc⟩
    · rw [List.mem_singleton.mp hc]; decide
    · exact (((row_words (h.ok d hd)).2.2 w hw).2.2 c hc).2.2.2
  · rw [List.mem_singleton.mp hc]; decide

def linesS (rs : List (List Str)) : List Str := rs.map (Str.join " ") ++ [("" : Str)]
theorem tl_line (r : List Str) : TL.tl (Str.join " " r) = lineC r := by
  rw [TL.tl_join]
  rfl
theorem plain_join (rs : List (List Str)) : TL.tl (plainS rs) = TL.joinL [10] (rs.map lineC ++ [[]]) := by
  rw [plain_tl]
  unfold flatL
  rw [flat_join, List.map_map]
  rfl
theorem join_lines (rs : List (List Str)) : Str.join "\n" (linesS rs) = plainS rs := str_ext (by
  rw [TL.tl_join, plain_join, show TL.tl ("\n" : Str) = [10] from rfl]
  congr 1
  unfold linesS
  rw [List.map_append, List.map_map]
  congr 1
  exact List.map_congr_left fun r _ => tl_line r)
theorem split_lines {rs : List (List Str)} (h : RowsG rs) : dSplit (.str (plainS rs)) [.str "\n"] = some ((linesS rs).map D.str) := by
  have hl := (plain_asc h).2
  have e := split_at (l := TL.tl (plainS rs)) (c := 10) (b := "\n") rfl (by decide) (by rw [← len_tl]; omega)
  rw [strC_tl] at e
  rw [e, plain_join, TL.spl_join (by simp) (fun p hp => ?_)]
  · congr 1
    unfold linesS
    rw [List.map_append, List.map_append, List.map_map, List.map_map]
    congr 1
    refine List.map_congr_left fun r _ => ?_
    show D.str (strC (lineC r)) = D.str (Str.join " " r)
    rw [← tl_line, strC_tl]
  · rcases List.mem_append.mp hp with hp | hp
    · obtain ⟨r, hr, rfl⟩ := List.mem_map.mp hp
      exact (line0 (h.ok r hr)).1
    · rw [List.mem_singleton.mp hp]
      simp
theorem lines_len {rs : List (List Str)} (h : RowsG rs) : ∀ x ∈ linesS rs, x.length ≤ 120 := fun x hx => by
  rcases List.mem_append.mp hx with hx | hx
  · obtain ⟨r, hr, rfl⟩ := List.mem_map.mp hx
    exact row_len (h.ok r hr)
  · rw [List.mem_singleton.mp hx]
    decide
theorem join_some {rs : List (List Str)} (h : RowsG rs) : dJoin (.str "\n") [.lst ((linesS rs).map D.str)] = some (.str (plainS rs)) := by
  have hi := h.hi
  rw [join_ok' (b := 120) (lines_len h) (by simp [linesS]; show (rs.length + 1) * (120 + 1) ≤ 16000000; omega), join_lines]
theorem lines_set {ds : List D} {k : Nat} {d : D} (hk : k < ds.length) : ((linesS (ds.map wl)).map D.str).take k ++ [D.str (Str.join " " (wl d))] ++ ((linesS (ds.map wl)).map D.str).drop (k + 1) = (linesS ((setP ds k d).map wl)).map D.str := by
  unfold linesS setP
  simp only [List.map_append, List.map_map, List.map_cons, List.map_nil]
  rw [List.take_append_of_le_length (by simp; omega), List.drop_append_of_le_length (by simp; omega)]
  simp [List.map_take, List.map_drop]
def sepH : List Nat := [104, 97, 110, 100, 10]
def noH : List Nat → Bool
  | [] => true
  | c :: l => decide (c :: l ≠ [104, 97, 110, 100]) && noH l
theorem free_line : ∀ {l rest : List Nat}, 10 ∉ l → noH l = true → SX.free sepH rest = true → SX.free sepH (l ++ 10 :: rest) = true
  | [], rest, _, _, h => by
    show (!(TL.pre sepH (10 :: (rest ++ sepH))) && SX.free sepH rest) = true
    rw [h, Bool.and_true]
    rfl
  | c :: l, rest, h1, h2, h => by
    obtain ⟨g1, g2⟩ := Bool.and_eq_true_iff.mp (show (decide (c :: l ≠ [104, 97, 110, 100]) && noH l) = true from h2)
    have g1 := of_decide_eq_true g1
    have ih := free_line (l := l) (rest := rest) (fun hm => h1 (List.mem_cons_of_mem _ hm)) g2 h
    show (!(TL.pre sepH (c :: (l ++ 10 :: rest ++ sepH))) && SX.free sepH (l ++ 10 :: rest)) = true
    rw [ih, Bool.and_true, Bool.not_eq_true']
    have hp : TL.pre sepH (c :: (l ++ 10 :: rest ++ sepH)) = ((c :: (l ++ 10 :: rest ++ sepH)).take 5 == sepH) := rfl
    rw [hp, beq_eq_false_iff_ne]
    intro e
    match l, h1, g1, e with
    | [], _, _, e => simp [sepH] at e
    | [c2], _, _, e => simp [sepH] at e
    | [c2, c3], _, _, e => simp [sepH] at e
    | [c2, c3, c4], _, g1, e =>
      simp [sepH] at e
      obtain ⟨e1, e2, e3, e4⟩ := e
      subst e1 e2 e3 e4
      exact g1 rfl
    | c2 :: c3 :: c4 :: c5 :: l', h1, _, e =>
      simp [sepH] at e
      obtain ⟨_, _, _, _, e5⟩ := e
      subst e5
      exact h1 (by simp)
def rowH (r : List Str) : Prop := 10 ∉ lineC r ∧ noH (lineC r) = true
theorem free_rows : ∀ {rs : List (List Str)}, (∀ r ∈ rs, rowH r) → SX.free sepH (TL.tl (plainS rs)) = true
  | [], _ => rfl
  | r :: rs, h => by
    have ih := free_rows (rs := rs) fun x hx => h x (List.mem_cons_of_mem _ hx)
    have e : TL.tl (plainS (r :: rs)) = lineC r ++ 10 :: TL.tl (plainS rs) := by
      rw [plain_tl, plain_tl]
      simp [flatL]
    rw [e]
    exact free_line (h r (by simp)).1 (h r (by simp)).2 ih
theorem spl_end {p : List Nat} (h : SX.free sepH p = true) : TL.spl sepH 0 [] p = [p] := by
  rw [TL.spl_last fun i hi => ?_]
  · rfl
  · have h1 := SX.free_at h [] i hi
    by_cases hl : sepH.length ≤ (p.drop i).length
    · rw [List.drop_append_of_le_length (by omega), SX.pre_mono hl] at h1
      exact h1
    · have hp : TL.pre sepH (p.drop i) = ((p.drop i).take sepH.length == sepH) := rfl
      rw [hp, beq_eq_false_iff_ne]
      intro e
      have := congrArg List.length e
      rw [List.length_take] at this
      omega
theorem fin_noH : ((steps 12).all fun d => noH (lineC (wl d))) = true := by kernel_rfl
theorem fin_noHf : (fours.all fun d => noH (lineC (fauR d))) = true := by kernel_rfl
theorem fin_noHw : (eds.all fun d => noH (lineC (wisR d))) = true := by kernel_rfl
theorem rowH_of {r : List Str} (g : RowG r) (h : noH (lineC r) = true) : rowH r := ⟨(line0 g).1, h⟩
theorem rows_h {a : List D} (ha : Good a) : ∀ r ∈ a.map wl, rowH r := fun r hr => by
  have g := good_rows ha r hr
  obtain ⟨d, hd, rfl⟩ := List.mem_map.mp hr
  exact rowH_of g (List.all_eq_true.mp fin_noH d (ok12 (n := a.length) (ha.ok d hd) ha.hi))
theorem head_h {fr : Bool} {fs : List Int} {ws : List (List Int)} (hf : FourOk fs) (hw : ∀ w ∈ ws, EdOk w) : ∀ r ∈ headR fr fs ws, rowH r := fun r hr => by
  have g := head_g hf hw r hr
  refine rowH_of g ?_
  rcases List.mem_cons.mp hr with rfl | hr
  · cases fr <;> rfl
  rcases List.mem_cons.mp hr with rfl | hr
  · refine List.all_eq_true.mp fin_noHf fs ?_
    obtain ⟨a, b, c, d, rfl, ha, hb, hc, hd⟩ := hf.ex
    have f4 : ∀ i : Int, 0 ≤ i ∧ i ≤ 3 → i ∈ four4 := fun i hi => by
      have : i = 0 ∨ i = 1 ∨ i = 2 ∨ i = 3 := by omega
      simpa [four4] using this
    exact List.mem_flatMap.mpr ⟨a, f4 a ha, List.mem_flatMap.mpr ⟨b, f4 b hb, List.mem_flatMap.mpr ⟨c, f4 c hc, List.mem_map.mpr ⟨d, f4 d hd, rfl⟩⟩⟩⟩
  · obtain ⟨w, hw', rfl⟩ := List.mem_map.mp hr
    exact List.all_eq_true.mp fin_noHw w (mem_eds (hw w hw'))
theorem split_hands {a b : List D} {fs : List Int} {ws : List (List Int)} {fr : Bool} (h : CaseOk [a, b] fs ws) :
    dSplitM (.str (plainS (caseR [a, b] fs ws fr))) [.str "hand\n"] = some [.str (plainS (headR fr fs ws)), .str (plainS (a.map wl)), .str (plainS (b.map wl))] := by
  have hl := (plain_asc (case_rows (fr := fr) h)).2
  have e : TL.tl (plainS (caseR [a, b] fs ws fr)) = TL.tl (plainS (headR fr fs ws)) ++ (sepH ++ (TL.tl (plainS (a.map wl)) ++ (sepH ++ TL.tl (plainS (b.map wl))))) := by
    have e1 : caseR [a, b] fs ws fr = headR fr fs ws ++ ([handR] ++ (a.map wl ++ ([handR] ++ b.map wl))) := by simp [caseR, blockR]
    rw [e1, plain_app, plain_app, plain_app, plain_app]
    simp only [TL.tl_append]
    rfl
  have e2 : TL.spl sepH 0 [] (TL.tl (plainS (caseR [a, b] fs ws fr))) = [TL.tl (plainS (headR fr fs ws)), TL.tl (plainS (a.map wl)), TL.tl (plainS (b.map wl))] := by
    rw [e, SX.spl_free _ (by decide) (free_rows (head_h h.four h.we)), SX.spl_free _ (by decide) (free_rows (rows_h (h.hg a (by simp)))), spl_end (free_rows (rows_h (h.hg b (by simp))))]
  show (if (TL.tl ("hand\n" : Str) ≠ [] ∧ ((TL.tl ("hand\n" : Str)).all fun c => decide (c < 256)) = true) ∧ (plainS (caseR [a, b] fs ws fr)).length + 2 ≤ 16777216 then some ((TL.spl (TL.tl ("hand\n" : Str)) 0 [] (TL.tl (plainS (caseR [a, b] fs ws fr)))).map fun l => D.str ⟨l.toArray⟩) else none) = _
  rw [if_pos ⟨⟨by decide, by decide⟩, by omega⟩, show TL.tl ("hand\n" : Str) = sepH from rfl, e2]
  show some [D.str (strC _), D.str (strC _), D.str (strC _)] = _
  rw [strC_tl, strC_tl, strC_tl]
theorem asc_str {z : Str} (h : ∀ c ∈ TL.tl z, c < 128) : ascD (.str z) = true := by
  have hz : (z.cps.toList.all fun c => decide (c < 128)) = true := List.all_eq_true.mpr fun c hc => decide_eq_true (h c hc)
  simp [ascD] at hz ⊢
  exact hz
theorem same_text {rs : List (List Str)} (h : RowsG rs) : Wf f__law_same [.str (plainS rs), .str (plainS rs)] S fun r S' => r = .bl true ∧ S' = S := by
  obtain ⟨h1, h2⟩ := plain_asc h
  refine same_ok (repA_str (asc_str h1) ?_)
  have : (plainS rs).cps.size ≤ 20000 := h2
  simp only [PyData.weight]
  omega
theorem same_two {x y : List (List Str)} (hx : RowsG x) (hy : RowsG y) : Wf f__law_same [.lst [.str (plainS x), .str (plainS y)], .lst [.str (plainS x), .str (plainS y)]] S fun r S' => r = .bl true ∧ S' = S := by
  obtain ⟨h1, h2⟩ := plain_asc hx
  obtain ⟨h3, h4⟩ := plain_asc hy
  refine same_ok (z := (PyData.list [.str (plainS x), .str (plainS y)]).shown) (show dRep _ = _ from rep_some (q := .list [.str (plainS x), .str (plainS y)]) rfl ?_ (by simp [PyData.depth, PyData.depthAll]) ?_)
  · show (ascD (.str (plainS x)) && (ascD (.str (plainS y)) && true)) = true
    rw [asc_str h1, asc_str h3]
    rfl
  · have a1 : (plainS x).cps.size ≤ 20000 := h2
    have a2 : (plainS y).cps.size ≤ 20000 := h4
    simp only [PyData.weight, PyData.weightAll]
    omega
end
end Law
end
section
namespace Law
open PySem PySem.Spec L2 J
local macro_rules | `(tactic| walk_at "jstep") => `(tactic| first
  | (with_reducible refine wp_seq ?_) | (with_reducible refine fq_next ?_) | (with_reducible refine fq_ret ?_) | (with_reducible refine rq_ret ?_) | (with_reducible refine wp_cons ?_) | (with_reducible refine wp_nil ?_)
  | (with_reducible refine wp_pure ?_) | (with_reducible refine wp_op ?_) | (with_reducible refine wp_fn ?_) | (with_reducible refine wp_bi ?_) | (with_reducible refine wp_tup ?_) | (with_reducible refine wp_lst ?_)
  | (with_reducible refine wp_set ?_) | (with_reducible refine wp_ret ?_) | (with_reducible refine wp_if ?_) | (with_reducible refine wp_cmp ?_) | (with_reducible refine wp_not ?_) | (with_reducible refine wp_and ?_)
  | (with_reducible refine wp_or ?_) | (with_reducible refine wp_un ?_) | (with_reducible refine wp_tst ?_) | (with_reducible refine wp_true ?_) | (with_reducible refine wp_isNT ?_) | (with_reducible refine wp_notNT ?_)
  | (with_reducible refine wp_ownS ?_) | (with_reducible refine wp_asg ?_) | (with_reducible refine wp_par ?_) | (with_reducible refine wp_parO ?_) | (with_reducible refine wp_biN ?_) | (with_reducible refine wp_it ?_)
  | (with_reducible refine wp_isi ?_) | (with_reducible refine wp_isiC ?_) | (with_reducible refine wp_sl ?_) | (with_reducible refine wp_slN ?_) | (with_reducible refine wp_bd ?_) | (with_reducible refine wp_addN ?_)
  | (with_reducible refine wp_sm ?_) | (with_reducible refine wp_smN ?_) | (with_reducible refine wp_for ?_) | (with_reducible refine wp_comp ?_) | (with_reducible refine wp_cmp2 ?_) | (with_reducible refine wp_for_nil ?_)
  | (with_reducible refine wp_compN ?_) | (with_reducible refine lq_next ?_) | (with_reducible refine lq_ret ?_) | (with_reducible refine wp_rep ?_) | ((with_reducible apply wp_val); · rfl) | ((with_reducible apply wp_own); · rfl)
  | (with_reducible refine wp_fmt ?_) | (with_reducible refine wp_joinsN ?_) | (with_reducible refine wp_joinsC ?_) | (with_reducible refine wp_oNew ?_) | (with_reducible refine wp_oIx ?_) | (with_reducible refine wp_oTup ?_) | (with_reducible refine wp_oLen ?_)
  | (with_reducible refine wp_oRev ?_) | (with_reducible refine wp_oApp ?_) | (with_reducible refine wp_oPop ?_) | (with_reducible refine wp_oIns ?_) | (with_reducible refine wp_oSet ?_) | (with_reducible refine wp_par3 ?_) | (with_reducible refine wp_sort ?_) | (with_reducible refine wp_rev ?_)
  | (with_reducible refine J.wp_andV ?_) | (with_reducible refine wp_orV ?_) | (with_reducible refine wp_notV ?_) | (with_reducible refine wp_isNM ?_) | (with_reducible refine wp_notNM ?_) | (with_reducible refine wp_chain ?_) | (with_reducible refine wp_tabI ?_) | (with_reducible refine wp_tabT ?_)
  | (with_reducible refine wp_tabX ?_) | (with_reducible refine wp_expr ?_)
  | ((with_reducible apply wp_then); · rfl) | ((with_reducible apply wp_else); · rfl) | ((with_reducible apply wp_lenO); · rfl) | ((with_reducible apply wp_lenV); · rfl) | ((with_reducible apply wp_app); · rfl) | ((with_reducible apply wp_for_cons); · rfl)
  | ((with_reducible apply wp_compC); · rfl) | ((with_reducible apply ex_two); · rfl) | (with_reducible refine wp_of ?_) | (with_reducible refine wp_bind ?_) | ((with_reducible refine ⟨?_, ?_⟩); · exact of_decide_eq_true rfl))

section
variable {S ρ : List MO} {n : Nat}
section
variable {a b : M D} {l : M (List D)} {st : Sta} {Q : D → Sta → Prop} {x y : List D} {fs gs : List Int} {ws : List (List Int)} {fr : Bool}
theorem wp_add (hx : Good x) (hy : Good y) (h : x.length + y.length ≤ 12) (w : Wp a st fun v st1 => v = prog x ∧ Wp b st1 fun u st2 => u = prog y ∧ Q (prog (plusP x y)) st2) : Wp (addIM at_Program a b) st Q :=
  wp_addI (w.imp fun v st1 ⟨e, w⟩ => w.imp fun u st2 ⟨e2, q⟩ => by
    subst e
    subst e2
    exact ⟨_, _, _, f_Programu_addu, rfl, rfl, by unfold at_Program; rw [if_pos rfl], (add_ok hx hy h).imp fun r S' ⟨e1, e2⟩ => by subst e1; subst e2; exact q⟩)
theorem wp_step {k : Nat} {d : D} (hx : Good x) (hk : k < x.length) (hd : StepOk (x.length : Int) d) (w : Wp a st fun v st1 => v = prog x ∧ Wp l st1 fun ds st2 => ds = [.int k, d] ∧ Q (prog (setP x k d)) st2) : Wp (methM mt_with_step "with_step" a l) st Q :=
  wp_meth (w.imp fun v st1 ⟨e, w⟩ => by
    subst e
    exact ⟨_, _, f_Program_with_step, rfl, fun q => absurd (List.mem_singleton.mp q) (show ¬ (("with_step" : Str) = ("listed" : Str)) by decide), by unfold mt_with_step; rw [if_pos rfl], w.imp fun ds st2 ⟨e, q⟩ => by
      subst e
      exact (with_step_ok hx hk hd).imp fun r S' ⟨e1, e2⟩ => by subst e1; subst e2; exact q⟩)
theorem wp_wprog {x y z : List D} (h : CaseOk [x, z] fs ws) (w : Wp a st fun v st1 => v = caD [x, y] fs ws fr ∧ Wp l st1 fun ds st2 => ds = [.int 1, prog z] ∧ Q (caD [x, z] fs ws fr) st2) : Wp (methM mt_with_program "with_program" a l) st Q :=
  wp_meth (w.imp fun v st1 ⟨e, w⟩ => by
    subst e
    exact ⟨_, _, f_Case_with_program, rfl, fun q => absurd (List.mem_singleton.mp q) (show ¬ (("with_program" : Str) = ("four" : Str)) by decide), by unfold mt_with_program; rw [if_pos rfl], w.imp fun ds st2 ⟨e, q⟩ => by
      subst e
      exact (with_program_ok h).imp fun r S' ⟨e1, e2⟩ => by subst e1; subst e2; exact q⟩)
theorem wp_wwish {hs : List (List D)} (h : CaseOk hs fs []) (w : Wp a st fun v st1 => v = caD hs fs ws fr ∧ Wp l st1 fun ds st2 => ds = [.tup []] ∧ Q (caD hs fs [] fr) st2) : Wp (methM mt_with_wishes "with_wishes" a l) st Q :=
  wp_meth (w.imp fun v st1 ⟨e, w⟩ => by
    subst e
    exact ⟨_, _, f_Case_with_wishes, rfl, fun q => absurd (List.mem_singleton.mp q) (show ¬ (("with_wishes" : Str) = ("four" : Str)) by decide), by unfold mt_with_wishes; rw [if_pos rfl], w.imp fun ds st2 ⟨e, q⟩ => by
      subst e
      exact (with_wishes_ok h).imp fun r S' ⟨e1, e2⟩ => by subst e1; subst e2; exact q⟩)
theorem wp_wfau {hs : List (List D)} (h : CaseOk hs gs ws) (w : Wp a st fun v st1 => v = caD hs fs ws fr ∧ Wp l st1 fun ds st2 => ds = [faD gs] ∧ Q (caD hs gs ws fr) st2) : Wp (methM mt_with_faults "with_faults" a l) st Q :=
  wp_meth (w.imp fun v st1 ⟨e, w⟩ => by
    subst e
    exact ⟨_, _, f_Case_with_faults, rfl, fun q => absurd (List.mem_singleton.mp q) (show ¬ (("with_faults" : Str) = ("four" : Str)) by decide), by unfold mt_with_faults; rw [if_pos rfl], w.imp fun ds st2 ⟨e, q⟩ => by
      subst e
      exact (with_faults_ok h).imp fun r S' ⟨e1, e2⟩ => by subst e1; subst e2; exact q⟩)
end
theorem DeckOk.bd0 (h : DeckOk [] S n) : (S.all fun m => m.bd S.length) = true := h.bd rfl
theorem ascNil : Asc ([] : List (List Int)) := by
  first | trivial | exact List.Pairwise.nil | simp [Asc]
theorem case_of {a b : List D} {hs : List (List D)} {fs : List Int} {ws : List (List Int)} (h : CaseOk hs fs ws) (ha : Good a) (hb : Good b) : CaseOk [a, b] fs ws := ⟨by simp, by simp, fun x hx => by
  simp only [List.mem_cons, List.not_mem_nil, or_false] at hx
  rcases hx with rfl | rfl
  · exact ha
  · exact hb, h.f4, h.fb, h.w4, h.wa, h.we⟩
theorem moved_comp {a b : List D} {r : List (Option Sl)} {Q : List D → Sta → Prop} (hr : 19 < r.length) (h3 : r[3]? = some (some (.val (.tup a)))) (hb : Good b) (w : Q (b.map (mv a.length)) ⟨r, S⟩) :
    Wp (compL [19] (setV 19) (pure true) (fnM (consM (getV 19) (consM (biM dLen (consM (getV 3) (pure []))) (pure []))) f__law_moved) [] b) ⟨r, S⟩ Q := by
  refine map_comp (f := mv a.length) hr (fun x hx => ?_) w
  refine wp_fn (wp_cons (wp_val (mask_self hr) (wp_cons (wp_bi (wp_cons (wp_val (mask_other (by decide) h3) (wp_nil ⟨.int a.length, rfl, wp_nil ?_⟩)))))))
  exact wf_eq (law_moved_eq (hb.ok x hx)) ⟨rfl, rfl⟩
theorem words_comp {l : List D} {r : List (Option Sl)} {Q : List D → Sta → Prop} (hr : 19 < r.length) (hl : Good l) (w : Q ((l.map wl).map fun x => .lst (x.map D.str)) ⟨r, S⟩) :
    Wp (compL [19] (setV 19) (pure true) (fnM (consM (getV 19) (pure [])) f__law_words) [] l) ⟨r, S⟩ Q := by
  refine map_comp (f := fun x => .lst ((wl x).map D.str)) hr (fun x hx => ?_) (by rw [List.map_map] at w; exact w)
  refine wp_fn (wp_cons (wp_val (mask_self hr) (wp_nil ?_)))
  exact wf_eq (law_words (ok12 (n := l.length) (hl.ok x hx) hl.hi)) ⟨rfl, rfl⟩
theorem two_comp {r : List (Option Sl)} {Q : List D → Sta → Prop} {ds : List D} (hr : 18 < r.length) (h1 : r[1]? = some (some (.val (.obj 0)))) (hd : ds.length = 2) (h : DeckOk [] S (n + 400)) (w : ∀ a b S', Good a → a.length ≤ 6 → Good b → b.length ≤ 6 → DeckOk [] S' n → Q [.tup a, .tup b] ⟨r, S'⟩) :
    Wp (compL [18] (setV 18) (pure true) (fnM (consM (getV 1) (consM (pure (.int 6)) (pure []))) f__law_steps) [] ds) ⟨r, S⟩ Q := by
  refine wp_compI (fun acc ds S => ∃ hs : List (List D), acc = hs.map D.tup ∧ (∀ x ∈ hs, Good x ∧ x.length ≤ 6) ∧ hs.length + ds.length = 2 ∧ DeckOk [] S (n + 200 * ds.length)) (fun acc S hi => ?_) (fun acc d ds S hi => ?_) _ _ _ ⟨[], rfl, by simp, by simp [hd], h.le (by omega)⟩
  · obtain ⟨hs, rfl, h2, h3, h4⟩ := hi
    simp only [List.length_nil, Nat.add_zero, Nat.mul_zero] at h3 h4
    match hs, h3, h2 with
    | [a, b], _, h2 =>
      obtain ⟨ha, la⟩ := h2 a (by simp)
      obtain ⟨hb, lb⟩ := h2 b (by simp)
      exact w a b S ha la hb lb h4
  · obtain ⟨hs, rfl, h2, h3, h4⟩ := hi
    simp only [List.length_cons] at h3 h4
    have len : (maskSt [18] ⟨r, S⟩).r.length = r.length := by simp [maskSt]
    refine ⟨_, setV_ok (by rw [len]; exact hr), wp_pure ?_⟩
    rw [if_pos rfl]
    refine wp_fn (wp_cons (wp_val (mask_other (by decide) h1) (wp_cons (wp_pure (wp_nil ?_)))))
    refine (steps_ok (n := n + 200 * ds.length) (by decide) (by decide) (h4.le (by omega))).imp fun r S5 ⟨h5, l, e, l1, l2, l3⟩ => ?_
    subst e
    refine ⟨hs ++ [l], by simp, fun x hx => ?_, by simp; omega, h5⟩
    rcases List.mem_append.mp hx with hx | hx
    · exact h2 x hx
    · rw [List.mem_singleton.mp hx]
      exact ⟨⟨l1, by omega, l3⟩, by omega⟩
set_option maxHeartbeats 2000000 in
theorem law_ok (ns : List Int) (hl : ns.length ≤ 63) (hb : ∀ z ∈ ns, Builtin.Int.intBits z ≤ 1048576) : ∃ S, f_law [.rls (scriptD ns)] [] = .ok (.bl true) S := by
  suffices h : Wf f_law [.rls (scriptD ns)] [] fun r _ => r = .bl true by
    obtain ⟨d, S', e, rfl⟩ := h
    exact ⟨S', e⟩
  refine wf_run ?_
  unfold m_law
  repeat walk_at "jstep"
  refine (deck_ok hl).imp fun d S1 ⟨e, h1⟩ => ?_
  subst e
  repeat walk_at "jstep"
  refine wp_forI (fun rs st => ∃ x2 x3 x4 x5 x6 x7 x8 x9 x10 x11 x12 x13 x14 x15 x16 x17 S, st = ⟨[some (.val (.rls (scriptD ns))), some (.val (.obj 0)), x2, x3, x4, x5, x6, x7, x8, x9, x10, x11, x12, x13, x14, x15, x16, x17, none, none], S⟩ ∧ DeckOk [] S (1000 + 2000 * rs.length)) (fun st hi => ?_) (fun d rs st hi => ?_) _ _ ⟨none, none, none, none, none, none, none, none, none, none, none, none, none, none, none, none, S1, rfl, ?_⟩
  · obtain ⟨x2, x3, x4, x5, x6, x7, x8, x9, x10, x11, x12, x13, x14, x15, x16, x17, S, rfl, h⟩ := hi
    repeat walk_at "jstep"
    rfl
  · obtain ⟨x2, x3, x4, x5, x6, x7, x8, x9, x10, x11, x12, x13, x14, x15, x16, x17, S, rfl, h⟩ := hi
    simp only [List.length_cons] at h
    refine ⟨_, rfl, ?_⟩
    repeat walk_at "jstep"
    refine two_comp (n := 1000 + 2000 * rs.length + 1500) (of_decide_eq_true rfl) rfl rfl (h.le (by omega)) fun a b S ha la hb' lb h4 => ?_
    have gp := plus_good ha hb' (by omega)
    have a1 := ha.lo
    repeat walk_at "jstep"
    refine wp_prog ha ?_
    repeat walk_at "jstep"
    refine ⟨rfl, ?_⟩
    repeat walk_at "jstep"
    refine wp_prog hb' ?_
    repeat walk_at "jstep"
    refine ⟨rfl, ?_⟩
    repeat walk_at "jstep"
    refine (text_ok ha).imp fun r S5 ⟨e1, e2⟩ => ?_
    subst e1
    subst e2
    repeat walk_at "jstep"
    refine ⟨_, split_lines (good_g ha), ?_⟩
    repeat walk_at "jstep"
    dsimp only [Sta.set, List.set_cons_zero, List.set_cons_succ]
    refine draw (n := 1000 + 2000 * rs.length + 1400) (h4.le (by omega)) rfl (by omega) (by omega) fun r S6 h6 r0 r1 => ?_
    obtain ⟨k, rfl⟩ : ∃ k : Nat, r = (k : Int) := ⟨r.toNat, by omega⟩
    have hk : k < a.length := by omega
    repeat walk_at "jstep"
    refine (step_ok (n := 1000 + 2000 * rs.length + 1390) (by omega) (by omega) (h6.le (by omega))).imp fun dd S7 ⟨h7, hd⟩ => ?_
    have gs := set_good ha hk hd
    have d12 : dd ∈ steps 12 := ok12 (n := a.length) hd (by omega)
    repeat walk_at "jstep"
    dsimp only [Sta.set, List.set_cons_zero, List.set_cons_succ]
    refine wf_eq (law_words d12) ?_
    repeat walk_at "jstep"
    refine ⟨_, join_row (row_of d12), ?_⟩
    refine wp_nil ?_
    have a12 := ha.hi
    have hll : ((linesS (a.map wl)).map D.str).length = a.length + 1 := by simp [linesS]
    rw [cut_take (show (0 : Int) ≤ k by omega)]
    refine ⟨_, lists_add (by rw [List.length_take, hll]; simp; omega), ?_⟩
    repeat walk_at "jstep"
    rw [cut_drop (show (0 : Int) ≤ k + 1 by omega) (by rw [hll]; omega)]
    refine ⟨_, lists_add (by rw [List.length_append, List.length_take, List.length_drop, hll]; simp; omega), ?_⟩
    rw [show ((k : Int)).toNat = k by omega, show ((k : Int) + 1).toNat = k + 1 by omega, lines_set hk]
    repeat walk_at "jstep"
    dsimp only [Sta.set, List.set_cons_zero, List.set_cons_succ]
    refine wp_step ha hk hd ?_
    repeat walk_at "jstep"
    refine ⟨rfl, ?_⟩
    repeat walk_at "jstep"
    refine ⟨rfl, ?_⟩
    repeat walk_at "jstep"
    refine (text_ok gs).imp fun r S8 ⟨e1, e2⟩ => ?_
    subst e1
    subst e2
    repeat walk_at "jstep"
    refine ⟨_, join_some (good_g gs), ?_⟩
    repeat walk_at "jstep"
    refine (same_text (good_g gs)).imp fun r S8 ⟨e1, e2⟩ => ?_
    subst e1
    subst e2
    repeat walk_at "jstep"
    have p12 := gp.hi
    refine ⟨by omega, ?_⟩
    refine moved_comp (a := a) (of_decide_eq_true rfl) rfl hb' ?_
    repeat walk_at "jstep"
    refine ⟨_, tups_add (by simp; omega), ?_⟩
    refine ⟨plusP a b, rfl, by omega, ?_⟩
    refine words_comp (of_decide_eq_true rfl) gp ?_
    repeat walk_at "jstep"
    refine (plain_ok (good_g gp)).imp fun r S9 ⟨e1, e2⟩ => ?_
    subst e1
    subst e2
    repeat walk_at "jstep"
    dsimp only [Sta.set, List.set_cons_zero, List.set_cons_succ]
    refine wp_add ha hb' (by omega) ?_
    repeat walk_at "jstep"
    refine ⟨rfl, ?_⟩
    repeat walk_at "jstep"
    refine ⟨rfl, ?_⟩
    repeat walk_at "jstep"
    refine (text_ok gp).imp fun r S10 ⟨e1, e2⟩ => ?_
    subst e1
    subst e2
    repeat walk_at "jstep"
    refine (same_text (good_g gp)).imp fun r S11 ⟨e1, e2⟩ => ?_
    subst e1
    subst e2
    repeat walk_at "jstep"
    refine wp_eqT ?_
    repeat walk_at "jstep"
    refine (read_prog_ok gp (tells_plain (good_g gp))).imp fun r S12 ⟨e1, e2⟩ => ?_
    subst e1
    subst e2
    refine wp_add ha hb' (by omega) ?_
    repeat walk_at "jstep"
    refine ⟨rfl, ?_⟩
    repeat walk_at "jstep"
    refine ⟨rfl, ?_⟩
    refine ⟨_, _, _, f_Programu_equ, true, rfl, rfl, by unfold qt_Program; rw [if_pos rfl], eq_prog gp, ?_⟩
    repeat walk_at "jstep"
    refine (text_ok ha).imp fun r S13 ⟨e1, e2⟩ => ?_
    subst e1
    subst e2
    repeat walk_at "jstep"
    refine (text_ok hb').imp fun r S13 ⟨e1, e2⟩ => ?_
    subst e1
    subst e2
    repeat walk_at "jstep"
    refine (pair_prog ha hb').imp fun r S13 ⟨e1, e2⟩ => ?_
    subst e1
    subst e2
    repeat walk_at "jstep"
    dsimp only [Sta.set, List.set_cons_zero, List.set_cons_succ]
    refine (data_ok (n := 1000 + 2000 * rs.length + 390) (by decide) (by decide) (by decide) (by decide) (by decide) (by decide) rfl h7).imp fun dx S14 ⟨h14, hs0, fs, ws, fr, e, hc0, _, _⟩ => ?_
    subst e
    have hc := case_of hc0 ha hb'
    have hc1 := case_of hc0 hb' ha
    repeat walk_at "jstep"
    refine (law_case_ok (hs := [a, b]) (fs := fs) (ws := ws) (fr := fr) hc).imp fun r S15 ⟨e1, e2⟩ => ?_
    subst e1
    subst e2
    repeat walk_at "jstep"
    refine (law_case_ok (hs := [b, a]) (fs := fs) (ws := ws) (fr := fr) hc1).imp fun r S15 ⟨e1, e2⟩ => ?_
    subst e1
    subst e2
    repeat walk_at "jstep"
    dsimp only [Sta.set, List.set_cons_zero, List.set_cons_succ]
    refine (case_text_ok hc).imp fun r S16 ⟨e1, e2⟩ => ?_
    subst e1
    subst e2
    repeat walk_at "jstep"
    refine ⟨_, split_hands hc, ?_⟩
    repeat walk_at "jstep"
    refine (text_ok ha).imp fun r S17 ⟨e1, e2⟩ => ?_
    subst e1
    subst e2
    repeat walk_at "jstep"
    refine (text_ok hb').imp fun r S17 ⟨e1, e2⟩ => ?_
    subst e1
    subst e2
    repeat walk_at "jstep"
    refine (same_two (good_g ha) (good_g hb')).imp fun r S17 ⟨e1, e2⟩ => ?_
    subst e1
    subst e2
    repeat walk_at "jstep"
    have hc2 := case_of hc0 ha ha
    have hc3 : CaseOk [a, b] fs [] := ⟨hc.h1, hc.h2, hc.hg, hc.f4, hc.fb, by simp, ascNil, by simp⟩
    have hc4 : CaseOk [a, b] [0, 0, 0, 0] ws := ⟨hc.h1, hc.h2, hc.hg, rfl, by decide, hc.w4, hc.wa, hc.we⟩
    dsimp only [Sta.set, List.set_cons_zero, List.set_cons_succ]
    refine wp_wprog (x := a) (y := b) (z := a) (fs := fs) (ws := ws) (fr := fr) hc2 ?_
    repeat walk_at "jstep"
    refine ⟨rfl, ?_⟩
    repeat walk_at "jstep"
    refine ⟨rfl, ?_⟩
    repeat walk_at "jstep"
    refine wp_wwish (hs := [a, b]) (fs := fs) (ws := ws) (fr := fr) hc3 ?_
    repeat walk_at "jstep"
    refine ⟨rfl, ?_⟩
    repeat walk_at "jstep"
    refine ⟨rfl, ?_⟩
    repeat walk_at "jstep"
    refine wp_wfau (hs := [a, b]) (fs := fs) (gs := [0, 0, 0, 0]) (ws := ws) (fr := fr) hc4 ?_
    repeat walk_at "jstep"
    refine ⟨rfl, ?_⟩
    repeat walk_at "jstep"
    refine wp_call (none_ok.imp fun r S18 ⟨e1, e2⟩ => ?_)
    subst e1
    subst e2
    refine wp_nil ⟨rfl, ?_⟩
    refine wp_nil ⟨_, rfl, ?_⟩
    refine wp_forI (fun rs' st => ∃ x16 x17, st = ⟨[some (.val (.rls (scriptD ns))), some (.val (.obj 0)), some (.val d), some (.val (.tup a)), some (.val (.tup b)), some (.val (prog a)), some (.val (prog b)), some (.val (.lst ((linesS (a.map wl)).map D.str))), some (.val (.int k)), some (.val dd), some (.val (.lst ((linesS ((setP a k dd).map wl)).map D.str))), some (.val (.str (plainS ((plusP a b).map wl)))), some (.val (dataD hs0 fs ws fr)), some (.val (caD [a, b] fs ws fr)), some (.val (caD [b, a] fs ws fr)), some (.val (.str (plainS (caseR [a, b] fs ws fr)))), x16, x17, none, none], S18⟩ ∧ ∀ t ∈ rs', ∃ hs' fs' ws', t = caD hs' fs' ws' fr ∧ CaseOk hs' fs' ws') (fun st hi => ?_) (fun t rs' st hi => ?_) _ _ ⟨x16, x17, rfl, ?_⟩
    · obtain ⟨x16, x17, rfl, _⟩ := hi
      repeat walk_at "jstep"
      refine (read_case_ok (fr := fr) hc h14.bd0 (tells_plain (case_rows hc))).imp fun r S19 ⟨e1, e2⟩ => ?_
      subst e1
      subst e2
      repeat walk_at "jstep"
      refine (case_text_ok hc).imp fun r S19 ⟨e1, e2⟩ => ?_
      subst e1
      subst e2
      repeat walk_at "jstep"
      refine (same_text (case_rows hc)).imp fun r S19 ⟨e1, e2⟩ => ?_
      subst e1
      subst e2
      repeat walk_at "jstep"
      exact ⟨_, _, _, _, _, _, _, _, _, _, _, _, _, _, _, _, _, rfl, h14.le (by omega)⟩
    · obtain ⟨x16, x17, rfl, ht⟩ := hi
      obtain ⟨hs', fs', ws', e, hx⟩ := ht t (by simp)
      subst e
      refine ⟨_, rfl, ?_⟩
      repeat walk_at "jstep"
      refine (case_text_ok hx).imp fun r S19 ⟨e1, e2⟩ => ?_
      subst e1
      subst e2
      repeat walk_at "jstep"
      refine (pair_case (fr := fr) (fr' := fr) hc hx).imp fun r S19 ⟨e1, e2⟩ => ?_
      subst e1
      subst e2
      repeat walk_at "jstep"
      refine wp_neC (hs := hs') (fs := fs') (ws := ws') (fr := fr) hx.hg ?_
      repeat walk_at "jstep"
      refine (read_case_ok (fr := fr) hx h14.bd0 (tells_plain (case_rows hx))).imp fun r S19 ⟨e1, e2⟩ => ?_
      subst e1
      subst e2
      refine ⟨rfl, ?_⟩
      repeat walk_at "jstep"
      refine ⟨rfl, ?_⟩
      repeat walk_at "jstep"
      exact ⟨_, _, rfl, fun t h => ht t (List.mem_cons_of_mem _ h)⟩
    · intro t ht
      simp only [List.mem_cons, List.not_mem_nil, or_false] at ht
      rcases ht with rfl | rfl | rfl | rfl
      · exact ⟨_, _, _, rfl, hc1⟩
      · exact ⟨_, _, _, rfl, hc2⟩
      · exact ⟨_, _, _, rfl, hc3⟩
      · exact ⟨_, _, _, rfl, hc4⟩
  · exact h1.le (by show 1000 + 2000 * 5 ≤ _; omega)
end
end Law
end
open PySem PySem.W PySem.Calls PyProof.Rows
theorem PySem.Challenge.cw_partsjoined_k75_whole_texts_led_holds : PySem.Challenge.rw_partsjoined_k75_whole_texts_led.Holds := by
  w_on; o_law
  refine HandSHeadRun.head_any (r := OpenLaw.row PySem.Challenge.rw_partsjoined_k75_whole_texts_led) (q := view (OpenLaw.row PySem.Challenge.rw_partsjoined_k75_whole_texts_led).prog [87]) (H := Law.hk) (ob := Law.ob) (M := 9000) (loose := Law.loose) (d := HandSHeadRun.topDef (OpenLaw.row PySem.Challenge.rw_partsjoined_k75_whole_texts_led).prog 87) (kwd := []) Law.ob_eq
    (by kernel_rfl) (fun s => by kernel_rfl) Law.run (by kernel_rfl) (by kernel_rfl) (by kernel_rfl) (by rfl) (by first | assumption | decide +kernel) (by decide +kernel) ⟨rfl, rfl, rfl, rfl, rfl, by decide +kernel⟩ ?hw ?hc
  case hw => w_witness2
  case hc =>
    refine J.law_walk (l := PySem.Challenge.rw_partsjoined_k75_whole_texts_led) (n := 63) (k := 10) (x := "_law_script") (mf := Law.f_law) rfl (by decide) (by kernel_rfl) ⟨rfl, by decide, by decide⟩ ?F Law.law_ok
    intro w mg fa h Y G hmg
    obtain ⟨K, KX, c⟩ := Y
    have C : J.Ct Law.fa Law.ts Law.fn Law.xs w K mg := ⟨c, h, KX, G⟩
    have hn : (HandSHeadRun.topDef (OpenLaw.row PySem.Challenge.rw_partsjoined_k75_whole_texts_led).prog 87).name = ("law" : PySem.Str) := by kernel_rfl
    rw [hn] at hmg
    have e := hmg.symm.trans (C.glo (x := "law") Law.glaw rfl)
    cases e
    refine ⟨K, J.fdOf K (Law.e_law.ad K), KX, fun s u => ?_, fun base _ _ => Law.g_law C⟩
    exact L2.FunD.bindsA (ps := ["_law_script"]) (Law.d_law C) (fun _ _ _ _ _ _ us hl => match us, hl with | [_], _ => rfl) s [u] rfl
