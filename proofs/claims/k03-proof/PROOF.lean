import PyProof.Rows.All
import Wide.All
import OpenK.AllK
import Wide.FinOn
import HandS.ForMost
import HandS.Deep
import HandS.ForExc
import HandS.TupAny
import HandS.IsInst
import HandS.Wide
import HandS.Style
import HandS.Defaults
import HandS.HeadEnd
import HandS.HeadHook2
import KE.SortData
import HandS.Star
import HandS.MakeKwOnly
import HandS.HeadHook4
import HandS.SetKeys
import KE.KDictKeyed
import KE.KStateDown
import HandS.Base
import HandS.Call
import HandS.Ends
import HandS.More
import HandS.Words
import HandS.WordsExc
import HandS.Head0
import HandS.Head1
import HandS.Head2
import HandS.HeadHook1
import PySem.Challenge.RW_fewsyncs_k03_rows_names_and_what_is_with
section
set_option Elab.async false
set_option linter.all false
set_option maxRecDepth 100000
set_option maxHeartbeats 2000000
namespace Fy
open PySem PySem.Spec PyProof.Rows L2

/-- a value by what it is: tuples and lists that no one changes, all the way in -/
inductive D where
  | non
  | bl (b : Bool)
  | int (i : Int)
  | str (x : Str)
  | tup (l : List D)
  | lst (l : List D)
  | ins (c : Nat) (l : List D)
  | scr (l : List Int)

/-- classes by number: where the class stands, its instances' fields in order -/
structure Kit where
  CA : Nat → Addr
  FN : Nat → List Str

section
variable (K : PySem.W.Frag) (G : Kit) (H : Hp)
mutual
inductive Dv : V → D → Prop
  | non : Dv .non .non
  | bl (b : Bool) : Dv (.bl b) (.bl b)
  | int (i : Int) : Dv (.int i) (.int i)
  | str (x : Str) : Dv (.str x) (.str x)
  | tup {a : Addr} {xs : List V} {ds : List D} : SqT K H a xs → DvA xs ds → Dv (.ref a) (.tup ds)
  | lst {a : Addr} {xs : List V} {ds : List D} : H a = some (.lst xs) → DvA xs ds → Dv (.ref a) (.lst ds)
  | ins {a dx : Addr} {c : Nat} {fs : List (Str × V)} {ds : List D} : H a = some (.ins (G.CA c) dx fs) → fs.map (·.1) = G.FN c → DvA (fs.map (·.2)) ds → Dv (.ref a) (.ins c ds)
  | scr {a : Addr} {ns : List Int} : SqL K H a (ns.map V.int) → Dv (.ref a) (.scr ns)
inductive DvA : List V → List D → Prop
  | nil : DvA [] []
  | cons {v : V} {vs : List V} {d : D} {ds : List D} : Dv v d → DvA vs ds → DvA (v :: vs) (d :: ds)
end
end

def Ext (H H' : Hp) : Prop := ∀ a o, H a = some o → H' a = some o
theorem Ext.refl (H : Hp) : Ext H H := fun _ _ h => h
theorem Ext.trans {H H1 H2 : Hp} (a : Ext H H1) (b : Ext H1 H2) : Ext H H2 := fun x o h => b x o (a x o h)
theorem Ext.new {H : Hp} {p : Addr} {o : HO} (h : H p = none) : Ext H (upd H p o) := fun a u e => by
  rw [upd_ne (ne_of_none e h)]
  exact e
theorem Ext.rd {H H' : Hp} {a : Addr} {u : HO} (e : Ext H H') (h : Rd H a u) : Rd H' a u := by
  rcases h with h | ⟨o, h⟩
  · exact .inl (e a _ h)
  · exact .inr ⟨o, e a _ h⟩
theorem Ext.l {K : PySem.W.Frag} {H H' : Hp} {a : Addr} {xs : List V} (e : Ext H H') (h : SqL K H a xs) : SqL K H' a xs := by
  rcases h with h | h
  · exact .inl (e.rd h)
  · exact .inr h
theorem Ext.t {K : PySem.W.Frag} {H H' : Hp} {a : Addr} {xs : List V} (e : Ext H H') (h : SqT K H a xs) : SqT K H' a xs := by
  rcases h with h | h
  · exact .inl (e.rd h)
  · exact .inr h
section
variable {K : PySem.W.Frag} {G : Kit} {H H' : Hp}
mutual
theorem Dv.mono (e : Ext H H') : ∀ {d : D} {v : V}, Dv K G H v d → Dv K G H' v d
  | .non, _, .non => .non
  | .bl _, _, .bl b => .bl b
  | .int _, _, .int i => .int i
  | .str _, _, .str x => .str x
  | .tup _, _, .tup h r => .tup (e.t h) (DvA.mono e r)
  | .lst _, _, .lst h r => .lst (e _ _ h) (DvA.mono e r)
  | .ins _ _, _, .ins h n r => .ins (e _ _ h) n (DvA.mono e r)
  | .scr _, _, .scr h => .scr (e.l h)
theorem DvA.mono (e : Ext H H') : ∀ {ds : List D} {vs : List V}, DvA K G H vs ds → DvA K G H' vs ds
  | [], _, .nil => .nil
  | _ :: _, _, .cons h r => .cons (Dv.mono e h) (DvA.mono e r)
end
theorem DvA.length : ∀ {ds : List D} {vs : List V}, DvA K G H vs ds → vs.length = ds.length
  | [], _, .nil => rfl
  | _ :: _, _, .cons _ r => by rw [List.length_cons, List.length_cons, DvA.length r]
theorem DvA.get : ∀ {ds : List D} {vs : List V} {i : Nat} {d : D}, DvA K G H vs ds → ds[i]? = some d → ∃ v, vs[i]? = some v ∧ Dv K G H v d
  | [], _, _, _, .nil, e => by cases e
  | _ :: _, _, 0, _, .cons h _, e => by cases e; exact ⟨_, rfl, h⟩
  | _ :: _, _, i + 1, _, .cons _ r, e => by
    obtain ⟨v, h1, h2⟩ := DvA.get (i := i) r e
    exact ⟨v, h1, h2⟩
theorem DvA.append : ∀ {ds es : List D} {vs us : List V}, DvA K G H vs ds → DvA K G H us es → DvA K G H (vs ++ us) (ds ++ es)
  | [], _, _, _, .nil, s => s
  | _ :: _, _, _, _, .cons h r, s => .cons h (DvA.append r s)
theorem DvA.take : ∀ {ds : List D} {vs : List V} (n : Nat), DvA K G H vs ds → DvA K G H (vs.take n) (ds.take n)
  | [], _, n, .nil => by simp; exact .nil
  | _ :: _, _, 0, .cons _ _ => .nil
  | _ :: _, _, n + 1, .cons h r => .cons h (DvA.take n r)
theorem DvA.drop : ∀ {ds : List D} {vs : List V} (n : Nat), DvA K G H vs ds → DvA K G H (vs.drop n) (ds.drop n)
  | [], _, n, .nil => by simp; exact .nil
  | _ :: _, _, 0, .cons h r => .cons h r
  | _ :: _, _, n + 1, .cons _ r => DvA.drop n r
theorem DvA.set : ∀ {ds : List D} {vs : List V} {v : V} {d : D} (n : Nat), DvA K G H vs ds → Dv K G H v d → DvA K G H (vs.set n v) (ds.set n d)
  | [], _, _, _, n, .nil, _ => by simp; exact .nil
  | _ :: _, _, _, _, 0, .cons _ r, h => .cons h r
  | _ :: _, _, _, _, n + 1, .cons h r, q => .cons h (DvA.set n r q)
theorem DvA.rev : ∀ {ds : List D} {vs : List V}, DvA K G H vs ds → DvA K G H vs.reverse ds.reverse
  | [], _, .nil => .nil
  | _ :: _, _, .cons h r => by
    rw [List.reverse_cons, List.reverse_cons]
    exact DvA.append (DvA.rev r) (.cons h .nil)
theorem DvA.dropLast : ∀ {ds : List D} {vs : List V}, DvA K G H vs ds → DvA K G H vs.dropLast ds.dropLast := fun {ds vs} h => by
  rw [List.dropLast_eq_take, List.dropLast_eq_take, h.length]
  exact h.take _
end

/-! ### data as the library says it -/
mutual
def toPy : D → Option PyData
  | .non => some .none
  | .bl b => some (.bool b)
  | .int i => some (.int i)
  | .str x => some (.str x)
  | .tup l => (toPyA l).map .tuple
  | .lst l => (toPyA l).map .list
  | .ins _ _ => none
  | .scr _ => none
def toPyA : List D → Option (List PyData)
  | [] => some []
  | d :: r => match toPy d, toPyA r with
    | some p, some q => some (p :: q)
    | _, _ => none
end
section
variable {K : PySem.W.Frag} {G : Kit} {H : Hp}
mutual
theorem Dv.dp : ∀ {d : D} {v : V} {p : PyData}, Dv K G H v d → toPy d = some p → Dp K H v p
  | .non, _, _, .non, e => by cases e; exact .non
  | .bl _, _, _, .bl b, e => by cases e; exact .bl b
  | .int _, _, _, .int i, e => by cases e; exact .int i
  | .str _, _, _, .str x, e => by cases e; exact .str x
  | .tup l, _, p, .tup h r, e => by
    simp only [toPy] at e
    cases q : toPyA l with
    | none => rw [q] at e; cases e
    | some ps => rw [q] at e; cases e; exact .tup h (DvA.dp r q)
  | .lst l, _, p, .lst h r, e => by
    simp only [toPy] at e
    cases q : toPyA l with
    | none => rw [q] at e; cases e
    | some ps => rw [q] at e; cases e; exact .lst (SqL.of h) (DvA.dp r q)
  | .ins _ _, _, _, _, e => by simp only [toPy] at e; cases e
  | .scr _, _, _, _, e => by simp only [toPy] at e; cases e
theorem DvA.dp : ∀ {ds : List D} {vs : List V} {ps : List PyData}, DvA K G H vs ds → toPyA ds = some ps → DpAll K H vs ps
  | [], _, _, .nil, e => by simp only [toPyA] at e; cases e; exact .nil
  | d :: r, _, ps, .cons h t, e => by
    simp only [toPyA] at e
    cases q1 : toPy d with
    | none => rw [q1] at e; cases e
    | some p =>
      cases q2 : toPyA r with
      | none => rw [q1, q2] at e; cases e
      | some ps' =>
        rw [q1, q2] at e
        cases e
        exact .cons (Dv.dp h q1) (DvA.dp t q2)
end
end
end Fy
end
section
set_option Elab.async false
set_option linter.all false
set_option maxRecDepth 100000
set_option maxHeartbeats 2000000
namespace Fy
open PySem PySem.Spec PyProof.Rows L2
open Classical in
/-- the heap without what stands at some places -/
noncomputable def hide (B : Addr → Prop) (H : Hp) : Hp := fun a => if B a then none else H a
theorem hide_at {B : Addr → Prop} {H : Hp} {a : Addr} (h : ¬ B a) : hide B H a = H a := by unfold hide; rw [if_neg h]
theorem hide_some {B : Addr → Prop} {H : Hp} {a : Addr} {o : HO} (h : hide B H a = some o) : ¬ B a ∧ H a = some o := by
  unfold hide at h
  split at h
  · cases h
  · rename_i n; exact ⟨n, h⟩
theorem hide_ext {B : Addr → Prop} {H : Hp} : Ext (hide B H) H := fun _ _ e => (hide_some e).2

/-- what a slot holds: nothing, a value, a list of its own -/
inductive SV where
  | un
  | va (d : D)
  | ow (l : List D)
abbrev SS := List SV
def isOw (S : SS) (i : Nat) : Prop := ∃ l, S[i]? = some (SV.ow l)

/-- what stands round a def's run: places that are foreign, the base, slots whose lists are the caller's -/
structure Fm where
  O : Addr → Prop
  Hb : Hp
  I : List (Nat × Addr)

def Msk (F : Fm) (α : Nat → Addr) (S : SS) (a : Addr) : Prop := F.O a ∨ ∃ i, isOw S i ∧ α i = a
noncomputable abbrev PH (F : Fm) (α : Nat → Addr) (S : SS) (H : Hp) : Hp := hide (Msk F α S) H

/-- the slots are as told -/
structure Rl (K : PySem.W.Frag) (G : Kit) (F : Fm) (α : Nat → Addr) (S : SS) (σ : L2.St) (H : Hp) : Prop where
  len : σ.length = S.length
  va : ∀ (i : Nat) (d : D), S[i]? = some (SV.va d) → ∃ v, σ[i]? = some (some v) ∧ Dv K G (PH F α S H) v d
  ow : ∀ (i : Nat) (l : List D), S[i]? = some (SV.ow l) → σ[i]? = some (some (.ref (α i))) ∧ ¬ F.O (α i) ∧ F.Hb (α i) = none ∧ ∃ vs, H (α i) = some (.lst vs) ∧ DvA K G (PH F α S H) vs l
  inj : ∀ (i j : Nat), isOw S i → isOw S j → α i = α j → i = j
  ext : Ext F.Hb H
  ob : ∀ a, F.O a → H a ≠ none
  pin : ∀ p ∈ F.I, α p.1 = p.2 ∧ isOw S p.1

/-- an error that is raised: its class, its fields -/
structure Ex where
  c : Nat
  l : List D
def ExOk (K : PySem.W.Frag) (G : Kit) (H : Hp) (e : Ex) (cls : Value) (dx : Option Addr) : Prop :=
  cls = .ref (G.CA e.c) ∧ match dx with
    | none => e.l = []
    | some a => ∃ fs, H a = some (.xd fs) ∧ fs.map (·.1) = G.FN e.c ∧ DvA K G H (fs.map (·.2)) e.l

/-- what an expression comes to -/
inductive R (α : Type) where
  | ok (a : α) (S : SS)
  | ex (e : Ex) (S : SS)
  | bad
def R.bind {α β : Type} (r : R α) (k : α → SS → R β) : R β := match r with
  | .ok a S => k a S
  | .ex e S => .ex e S
  | .bad => .bad
def R.post {α : Type} (r : R α) (P : α → SS → Prop) (E : Ex → SS → Prop) : Prop := match r with
  | .ok a S => P a S
  | .ex e S => E e S
  | .bad => False
theorem R.post_bind {α β : Type} {r : R α} {k : α → SS → R β} {P : β → SS → Prop} {E : Ex → SS → Prop} : (r.bind k).post P E = r.post (fun a S => (k a S).post P E) E := by
  cases r <;> rfl
theorem R.post_mono {α : Type} {r : R α} {P P' : α → SS → Prop} {E E' : Ex → SS → Prop} (h : r.post P E) (hp : ∀ a S, P a S → P' a S) (he : ∀ e S, E e S → E' e S) : r.post P' E' := by
  cases r with
  | ok a S => exact hp a S h
  | ex e S => exact he e S h
  | bad => exact h
/-- what is not there is bad -/
def R.of {α : Type} (o : Option α) (S : SS) : R α := match o with
  | some a => .ok a S
  | none => .bad
theorem R.post_of {α : Type} {o : Option α} {S : SS} {P : α → SS → Prop} {E : Ex → SS → Prop} (h : (R.of o S).post P E) : ∃ a, o = some a ∧ P a S := by
  cases o with
  | none => exact h.elim
  | some a => exact ⟨a, rfl, h⟩

abbrev EF := SS → R D
abbrev TF := SS → R Bool
abbrev AF := SS → R (List D)

section
variable (X : Cx) (G : Kit) (W : WX) (io : List Nat)
/-- behind an expression -/
structure Aft (F : Fm) (α : Nat → Addr) (S : SS) (σ : L2.St) (H : Hp) (S' : SS) (H' : Hp) : Prop where
  rl : Rl X.K G F α S' σ H'
  ext : Ext (PH F α S H) (PH F α S' H')
  dom : ∀ a, H' a = none → H a = none
/-- the wish where it raises -/
def Er (F : Fm) (α : Nat → Addr) (S : SS) (σ : L2.St) (H : Hp) (e : Ex) (S' : SS) : Prop :=
  ∀ cls dx H', Aft X G F α S σ H S' H' → ExOk X.K G (PH F α S' H') e cls dx → W cls dx σ H'
/-- an expression comes to a value -/
def JE (e : Expr) (f : EF) : Prop := ∃ t, PE X e t ∧ ∀ F α S σ H, F.I.map (·.1) = io → Rl X.K G F α S σ H → ∀ Q : VK,
  (f S).post (fun d S' => ∀ v H', Aft X G F α S σ H S' H' → Dv X.K G (PH F α S' H') v d → Q v H') (Er X G W F α S σ H) → t σ H Q
def JT (e : Expr) (f : TF) : Prop := ∃ t, PT X e t ∧ ∀ F α S σ H, F.I.map (·.1) = io → Rl X.K G F α S σ H → ∀ Q : Bool → Hp → Prop,
  (f S).post (fun b S' => ∀ H', Aft X G F α S σ H S' H' → Q b H') (Er X G W F α S σ H) → t σ H Q
def JA (es : List Expr) (f : AF) : Prop := ∃ t, PA X es t ∧ ∀ F α S σ H, F.I.map (·.1) = io → Rl X.K G F α S σ H → ∀ Q : List V → Hp → Prop,
  (f S).post (fun ds S' => ∀ vs H', Aft X G F α S σ H S' H' → DvA X.K G (PH F α S' H') vs ds → Q vs H') (Er X G W F α S σ H) → t σ H Q
/-- an expression comes to a new list -/
def Fm.with (F : Fm) (p : Addr) : Fm := { F with O := fun a => F.O a ∨ a = p }
def JL (e : Expr) (f : AF) : Prop := ∃ t, PE X e t ∧ ∀ F α S σ H, F.I.map (·.1) = io → Rl X.K G F α S σ H → ∀ Q : VK,
  (f S).post (fun ds S' => ∀ p vs H', H p = none → (∀ i : Nat, isOw S' i → α i ≠ p) → Aft X G (F.with p) α S σ H S' H' → H' p = some (.lst vs) → DvA X.K G (PH (F.with p) α S' H') vs ds → Q (.ref p) H') (Er X G W F α S σ H) → t σ H Q
/-- an expression that ends with a new list -/
def JN (e : Expr) (f : AF) : Prop := ∃ t, PE X e t ∧ ∀ F α S σ H, F.I.map (·.1) = io → Rl X.K G F α S σ H → ∀ Q : VK,
  (f S).post (fun ds S' => ∀ vs H', Aft X G F α S σ H S' H' → DvA X.K G (PH F α S' H') vs ds → ∀ p, H' p = none → Q (.ref p) (upd H' p (.lst vs))) (Er X G W F α S σ H) → t σ H Q
end

section
variable {X : Cx} {G : Kit} {W : WX} {io : List Nat} {F : Fm} {α : Nat → Addr} {S S' S1 S2 : SS} {σ : L2.St} {H H' H1 H2 : Hp}
theorem Aft.refl (r : Rl X.K G F α S σ H) : Aft X G F α S σ H S H := ⟨r, Ext.refl _, fun _ h => h⟩
theorem Aft.trans (a : Aft X G F α S σ H S1 H1) (b : Aft X G F α S1 σ H1 S2 H2) : Aft X G F α S σ H S2 H2 := ⟨b.1, a.2.trans b.2, fun x h => a.3 x (b.3 x h)⟩
theorem Er.step (a : Aft X G F α S σ H S1 H1) {e : Ex} (h : Er X G W F α S σ H e S2) : Er X G W F α S1 σ H1 e S2 := fun cls dx H' b x => h cls dx H' (a.trans b) x
/-- what is new is seen by nobody -/
theorem Rl.fresh (r : Rl X.K G F α S σ H) {p : Addr} (h : H p = none) : ¬ Msk F α S p := by
  rintro (o | ⟨i, ⟨l, hl⟩, e⟩)
  · exact r.ob p o h
  · obtain ⟨_, _, _, vs, hv, _⟩ := r.ow i l hl
    rw [e, h] at hv
    cases hv
theorem Rl.freshB (r : Rl X.K G F α S σ H) {p : Addr} (h : H p = none) : F.Hb p = none := by
  cases e : F.Hb p with
  | none => rfl
  | some o => rw [r.ext p o e] at h; cases h
/-- more objects -/
theorem Rl.grow (r : Rl X.K G F α S σ H) (e : Ext H H') : Rl X.K G F α S σ H' := by
  have q : Ext (PH F α S H) (PH F α S H') := fun a o h => by
    obtain ⟨n, h⟩ := hide_some h
    exact (hide_at n).trans (e a o h)
  refine ⟨r.len, fun i d h => ?_, fun i l h => ?_, r.inj, r.ext.trans e, fun a o z => ?_, r.pin⟩
  · obtain ⟨v, h1, h2⟩ := r.va i d h
    exact ⟨v, h1, h2.mono q⟩
  · obtain ⟨h1, h2, h3, vs, h4, h5⟩ := r.ow i l h
    exact ⟨h1, h2, h3, vs, e _ _ h4, h5.mono q⟩
  · cases h : H a with
    | none => exact r.ob a o h
    | some u => rw [e a u h] at z; cases z
theorem Rl.growA (r : Rl X.K G F α S σ H) (e : Ext H H') : Aft X G F α S σ H S H' := by
  refine ⟨r.grow e, fun a o h => ?_, fun a h => ?_⟩
  · obtain ⟨n, h⟩ := hide_some h
    exact (hide_at n).trans (e a o h)
  · cases q : H a with
    | none => rfl
    | some u => rw [e a u q] at h; cases h
end
end Fy
end
section
set_option Elab.async false
set_option linter.all false
set_option maxRecDepth 100000
set_option maxHeartbeats 2000000
namespace Fy
open PySem PySem.Spec PyProof.Rows L2

/-! ### names and constants -/
def eVar (io : List Nat) (i : Nat) : EF := fun S => match S[i]? with
  | some (.va d) => .ok d S
  | some (.ow l) => if io.contains i then .bad else .ok (.lst l) (S.set i (.va (.lst l)))
  | _ => .bad
def eC (d : D) : EF := fun S => .ok d S

section
variable {X : Cx} {G : Kit} {W : WX} {io : List Nat}
/-- a list of one's own becomes a value -/
theorem Rl.freeze {F : Fm} {α : Nat → Addr} {S : SS} {σ : L2.St} {H : Hp} (hI : F.I.map (·.1) = io) (r : Rl X.K G F α S σ H) {i : Nat} {l : List D} (h : S[i]? = some (SV.ow l)) (hi : io.contains i = false) :
    Aft X G F α S σ H (S.set i (.va (.lst l))) H ∧ Dv X.K G (PH F α (S.set i (.va (.lst l))) H) (.ref (α i)) (.lst l) := by
  have hil : i < S.length := (List.getElem?_eq_some_iff.mp h).1
  have own : ∀ j, isOw (S.set i (.va (.lst l))) j → isOw S j ∧ j ≠ i := fun j ⟨m, e⟩ => by
    by_cases hj : i = j
    · subst hj
      rw [List.getElem?_set_self hil] at e
      cases e
    · rw [List.getElem?_set_ne hj] at e
      exact ⟨⟨m, e⟩, fun z => hj z.symm⟩
  have msk : ∀ a, Msk F α (S.set i (.va (.lst l))) a → Msk F α S a := fun a z => by
    rcases z with z | ⟨j, z, e⟩
    · exact .inl z
    · exact .inr ⟨j, (own j z).1, e⟩
  have q : Ext (PH F α S H) (PH F α (S.set i (.va (.lst l))) H) := fun a o z => by
    obtain ⟨n, z⟩ := hide_some z
    exact (hide_at fun w => n (msk a w)).trans z
  obtain ⟨h1, h2, h3, vs, h4, h5⟩ := r.ow i l h
  have vis : ¬ Msk F α (S.set i (.va (.lst l))) (α i) := by
    rintro (z | ⟨j, z, e⟩)
    · exact h2 z
    · exact (own j z).2 (r.inj j i (own j z).1 ⟨l, h⟩ e)
  have dv : Dv X.K G (PH F α (S.set i (.va (.lst l))) H) (.ref (α i)) (.lst l) := .lst ((hide_at vis).trans h4) (h5.mono q)
  refine ⟨⟨⟨by rw [List.length_set]; exact r.len, fun j d e => ?_, fun j m e => ?_, fun j k hj hk e => r.inj j k (own j hj).1 (own k hk).1 e, r.ext, r.ob, fun p hp => ?_⟩, q, fun _ h => h⟩, dv⟩
  · by_cases hj : i = j
    · subst hj
      rw [List.getElem?_set_self hil] at e
      cases e
      exact ⟨_, h1, dv⟩
    · rw [List.getElem?_set_ne hj] at e
      obtain ⟨v, e1, e2⟩ := r.va j d e
      exact ⟨v, e1, e2.mono q⟩
  · have hj := (own j ⟨m, e⟩).2
    rw [List.getElem?_set_ne (Ne.symm hj)] at e
    obtain ⟨g1, g2, g3, us, g4, g5⟩ := r.ow j m e
    exact ⟨g1, g2, g3, us, g4, g5.mono q⟩
  · obtain ⟨p1, m, p2⟩ := r.pin p hp
    have hne : i ≠ p.1 := by
      rintro rfl
      have : io.contains p.1 = true := by
        rw [← hI]
        simp only [List.contains_eq_mem, List.mem_map, decide_eq_true_eq]
        exact ⟨p, hp, rfl⟩
      rw [this] at hi
      cases hi
    exact ⟨p1, m, by rw [List.getElem?_set_ne hne]; exact p2⟩
theorem je_var {i : Nat} {x : Str} {pos : Pos} (hN : X.N[i]? = some x) (hv : Vis X.env.scope x) (hd : (x == ("__debug__" : Str)) = false := by decide) (hcd : (x == ("__classdict__" : Str)) = false := by decide) : JE X G W io (.Name x pos) (eVar io i) := by
  refine ⟨_, pe_var hN hv hd hcd, fun F α S σ H hI r Q h => ?_⟩
  unfold eVar at h
  cases e : S[i]? with
  | none => rw [e] at h; exact h.elim
  | some sv =>
    rw [e] at h
    cases sv with
    | un => exact h.elim
    | va d =>
      obtain ⟨v, h1, h2⟩ := r.va i d e
      exact ⟨v, h1, h v H (Aft.refl r) h2⟩
    | ow l =>
      obtain ⟨h1, _⟩ := r.ow i l e
      cases c : io.contains i with
      | true => simp only [c, if_true] at h; exact h.elim
      | false =>
        simp only [c] at h
        obtain ⟨a, dv⟩ := r.freeze hI e c
        exact ⟨_, h1, h _ H a dv⟩
theorem je_c {e : Expr} {v : V} {d : D} (h : PE X e (tC v)) (hd : ∀ H, Dv X.K G H v d) : JE X G W io e (eC d) := ⟨_, h, fun F α S σ H _ r Q q => q v H (Aft.refl r) (hd _)⟩
theorem je_int {i j pos} : JE X G W io (.Constant (.int i) j pos) (eC (.int i)) := je_c pe_int fun _ => .int i
theorem je_bl {b j pos} : JE X G W io (.Constant (.bool b) j pos) (eC (.bl b)) := je_c pe_bl fun _ => .bl b
theorem je_non {j pos} : JE X G W io (.Constant .none j pos) (eC .non) := je_c pe_non fun _ => .non
theorem je_str {x j pos} : JE X G W io (.Constant (.str x) j pos) (eC (.str x)) := je_c pe_str fun _ => .str x
/-- a module's constant -/
theorem je_glob {x : Str} {v : V} {u : Value} {d : D} {pos : Pos} (hg : Gl X x) (hm : X.mg x = some u) (r : RelV v u) (hd : ∀ H, Dv X.K G H v d) (hdb : (x == ("__debug__" : Str)) = false := by decide) : JE X G W io (.Name x pos) (eC d) := je_c (pe_glob hg hm r hdb) hd

/-! ### operands: a value, or a list of one's own as it stands -/
inductive P where
  | val (d : D)
  | slot (i : Nat)
def P.get (S : SS) : P → Option D
  | .val d => some d
  | .slot i => match S[i]? with
    | some (.ow l) => some (.lst l)
    | _ => none
abbrev PF := SS → R P
/-- a value that is told, or a list of one's own that holds such -/
def Dw (K : PySem.W.Frag) (G : Kit) (B : Addr → Prop) (H : Hp) (v : V) (d : D) : Prop :=
  Dv K G (hide B H) v d ∨ ∃ a vs l, v = .ref a ∧ d = .lst l ∧ H a = some (.lst vs) ∧ DvA K G (hide B H) vs l
def PkR (K : PySem.W.Frag) (G : Kit) (F : Fm) (α : Nat → Addr) (S : SS) (H : Hp) (v : V) : P → Prop
  | .val d => Dv K G (PH F α S H) v d
  | .slot i => v = .ref (α i)
theorem PkR.mono {K : PySem.W.Frag} {G : Kit} {F : Fm} {α : Nat → Addr} {S S' : SS} {H H' : Hp} (e : Ext (PH F α S H) (PH F α S' H')) {v : V} : ∀ {p : P}, PkR K G F α S H v p → PkR K G F α S' H' v p
  | .val _, h => Dv.mono e h
  | .slot _, h => h
theorem PkR.dw {K : PySem.W.Frag} {G : Kit} {F : Fm} {α : Nat → Addr} {S : SS} {σ : L2.St} {H : Hp} (r : Rl K G F α S σ H) {v : V} : ∀ {p : P} {d : D}, PkR K G F α S H v p → p.get S = some d → Dw K G (Msk F α S) H v d
  | .val _, _, h, e => by cases e; exact .inl h
  | .slot i, d, h, e => by
    rcases q : S[i]? with _ | sv
    · simp [P.get, q] at e
    · cases sv with
      | ow l =>
        simp only [P.get, q, Option.some.injEq] at e
        subst e
        obtain ⟨_, _, _, vs, h1, h2⟩ := r.ow i l q
        exact .inr ⟨_, vs, l, h, rfl, h1, h2⟩
      | un => simp [P.get, q] at e
      | va d => simp [P.get, q] at e
/-- an operand -/
def JP (X : Cx) (G : Kit) (W : WX) (io : List Nat) (e : Expr) (f : PF) : Prop := ∃ t, PE X e t ∧ ∀ F α S σ H, F.I.map (·.1) = io → Rl X.K G F α S σ H → ∀ Q : VK,
  (f S).post (fun p S' => ∀ v H', Aft X G F α S σ H S' H' → PkR X.K G F α S' H' v p → Q v H') (Er X G W F α S σ H) → t σ H Q
def pV (f : EF) : PF := fun S => (f S).bind fun d S1 => .ok (.val d) S1
theorem jp_v {e : Expr} {f : EF} (h : JE X G W io e f) : JP X G W io e (pV f) := by
  obtain ⟨t, p, q⟩ := h
  refine ⟨t, p, fun F α S σ H hI rl Q h => ?_⟩
  unfold pV at h
  rw [R.post_bind] at h
  exact q F α S σ H hI rl _ (R.post_mono h (fun d S1 h1 v H1 a1 d1 => h1 v H1 a1 d1) fun e S1 z => z)
def pVar (i : Nat) : PF := fun S => match S[i]? with
  | some (.va d) => .ok (.val d) S
  | some (.ow _) => .ok (.slot i) S
  | _ => .bad
theorem jp_var {i : Nat} {x : Str} {pos : Pos} (hN : X.N[i]? = some x) (hv : Vis X.env.scope x) (hd : (x == ("__debug__" : Str)) = false := by decide) (hcd : (x == ("__classdict__" : Str)) = false := by decide) : JP X G W io (.Name x pos) (pVar i) := by
  refine ⟨_, pe_var hN hv hd hcd, fun F α S σ H hI r Q h => ?_⟩
  unfold pVar at h
  cases e : S[i]? with
  | none => rw [e] at h; exact h.elim
  | some sv =>
    rw [e] at h
    cases sv with
    | un => exact h.elim
    | va d =>
      obtain ⟨v, h1, h2⟩ := r.va i d e
      exact ⟨v, h1, h v H (Aft.refl r) h2⟩
    | ow l =>
      obtain ⟨h1, _⟩ := r.ow i l e
      exact ⟨_, h1, h _ H (Aft.refl r) rfl⟩

/-! ### operators by values -/
/-- f(x, y) by values is g -/
def OpD (X : Cx) (G : Kit) (f : Value → Value → Sem Value) (g : D → D → Option D) : Prop := ∃ r, OpR X f r ∧ ∀ (B : Addr → Prop) (H : Hp), (∀ a, B a → H a ≠ none) → ∀ (v u : V) (a b d : D), Dw X.K G B H v a → Dw X.K G B H u b → g a b = some d →
  ∀ Q : VK, (∀ w H', Ext H H' → Dv X.K G (hide B H') w d → Q w H') → r v u H Q
def get2 (g : D → D → Option D) (a b : P) (S : SS) : Option D := match a.get S, b.get S with
  | some x, some y => g x y
  | _, _ => none
theorem get2_some {g : D → D → Option D} {a b : P} {S : SS} {d : D} (h : get2 g a b S = some d) : ∃ x y, a.get S = some x ∧ b.get S = some y ∧ g x y = some d := by
  unfold get2 at h
  split at h
  · exact ⟨_, _, by assumption, by assumption, h⟩
  · cases h
def eBin (g : D → D → Option D) (fa fb : PF) : EF := fun S => (fa S).bind fun a S1 => (fb S1).bind fun b S2 => R.of (get2 g a b S2) S2
theorem Rl.nB {F : Fm} {α : Nat → Addr} {S : SS} {σ : L2.St} {H : Hp} (r : Rl X.K G F α S σ H) : ∀ a, Msk F α S a → H a ≠ none := fun a m e => r.fresh e m
theorem op_run {r : R2} {g : D → D → Option D} {a b : Expr} {fa fb : PF} (hr : ∀ (B : Addr → Prop) (H : Hp), (∀ a, B a → H a ≠ none) → ∀ (v u : V) (a b d : D), Dw X.K G B H v a → Dw X.K G B H u b → g a b = some d →
    ∀ Q : VK, (∀ w H', Ext H H' → Dv X.K G (hide B H') w d → Q w H') → r v u H Q) (ha : JP X G W io a fa) (hb : JP X G W io b fb) :
    ∃ ta tb, PE X a ta ∧ PE X b tb ∧ ∀ F α S σ H, F.I.map (·.1) = io → Rl X.K G F α S σ H → ∀ Q : VK,
      (eBin g fa fb S).post (fun d S' => ∀ v H', Aft X G F α S σ H S' H' → Dv X.K G (PH F α S' H') v d → Q v H') (Er X G W F α S σ H) → tOp r ta tb σ H Q := by
  obtain ⟨ta, pa, qa⟩ := ha
  obtain ⟨tb, pb, qb⟩ := hb
  refine ⟨ta, tb, pa, pb, fun F α S σ H hI rl Q h => ?_⟩
  unfold eBin at h
  rw [R.post_bind] at h
  refine qa F α S σ H hI rl _ (R.post_mono h (fun a S1 h1 v H1 a1 d1 => ?_) fun e S1 z => z)
  rw [R.post_bind] at h1
  refine qb F α S1 σ H1 hI a1.1 _ (R.post_mono h1 (fun b S2 h2 u H2 a2 d2 => ?_) fun e S2 z => z.step a1)
  obtain ⟨d, hd, h3⟩ := R.post_of h2
  obtain ⟨x, y, g1, g2, g3⟩ := get2_some hd
  exact hr _ H2 a2.1.nB v u x y d ((d1.mono a2.2).dw a2.1 g1) (d2.dw a2.1 g2) g3 Q fun w H3 e3 d3 => h3 w H3 ((a1.trans a2).trans (a2.1.growA e3)) d3
theorem je_op {op : Operator} {g : D → D → Option D} {a b : Expr} {fa fb : PF} {pos : Pos} (ho : OpD X G (binaryOp op) g) (ha : JP X G W io a fa) (hb : JP X G W io b fb) : JE X G W io (.BinOp a op b pos) (eBin g fa fb) := by
  obtain ⟨r, ho, hr⟩ := ho
  obtain ⟨ta, tb, pa, pb, q⟩ := op_run hr ha hb
  exact ⟨_, pe_op ho pa pb, q⟩
theorem je_cmp {op : CmpOp} {g : D → D → Option D} {a b : Expr} {fa fb : PF} {pos : Pos} (ho : OpD X G (compareOp op) g) (hm : behindInMarks op b = false) (ha : JP X G W io a fa) (hb : JP X G W io b fb) : JE X G W io (.Compare a [op] [b] pos) (eBin g fa fb) := by
  obtain ⟨r, ho, hr⟩ := ho
  obtain ⟨ta, tb, pa, pb, q⟩ := op_run hr ha hb
  exact ⟨_, pe_cmpR ho pa pb hm, q⟩
/-- a truth value as a test -/
def tBl (f : EF) : TF := fun S => (f S).bind fun d S1 => match d with
  | .bl b => .ok b S1
  | _ => .bad
theorem bl_run {t : TE} {f : EF} (q : ∀ F α S σ H, F.I.map (·.1) = io → Rl X.K G F α S σ H → ∀ Q : VK, (f S).post (fun d S' => ∀ v H', Aft X G F α S σ H S' H' → Dv X.K G (PH F α S' H') v d → Q v H') (Er X G W F α S σ H) → t σ H Q) :
    ∀ F α S σ H, F.I.map (·.1) = io → Rl X.K G F α S σ H → ∀ Q : Bool → Hp → Prop, (tBl f S).post (fun b S' => ∀ H', Aft X G F α S σ H S' H' → Q b H') (Er X G W F α S σ H) → t σ H fun x H' => ∃ k, x = .bl k ∧ Q k H' := by
  intro F α S σ H hI rl Q h
  unfold tBl at h
  rw [R.post_bind] at h
  refine q F α S σ H hI rl _ (R.post_mono h (fun d S1 h1 v H1 a1 d1 => ?_) fun e S1 z => z)
  cases d with
  | bl b => cases d1; exact ⟨b, rfl, h1 H1 a1⟩
  | _ => exact h1.elim
theorem jt_cmp {op : CmpOp} {g : D → D → Option D} {a b : Expr} {fa fb : PF} {pos : Pos} (ho : OpD X G (compareOp op) g) (hm : behindInMarks op b = false) (ha : JP X G W io a fa) (hb : JP X G W io b fb) : JT X G W io (.Compare a [op] [b] pos) (tBl (eBin g fa fb)) := by
  obtain ⟨r, ho, hr⟩ := ho
  obtain ⟨ta, tb, pa, pb, q⟩ := op_run hr ha hb
  exact ⟨_, pt_cmpR ho pa pb hm, bl_run q⟩
/-- an expression whose value is a truth value, as a test -/
theorem jt_val {e : Expr} {f : EF} (h : JE X G W io e f) (he : ∀ whole, isTrue e X.env whole = (do let v ← whole; standAt e.pos; holding [v] (truthy v)) := by intro _; rfl) : JT X G W io e (tBl f) := by
  obtain ⟨t, p, q⟩ := h
  exact ⟨_, pt_val p he, bl_run q⟩

/-! ### and, or, not, if -/
def tAnd2 (fa fb : TF) : TF := fun S => (fa S).bind fun a S1 => match a with
  | true => fb S1
  | false => .ok false S1
def tOr2 (fa fb : TF) : TF := fun S => (fa S).bind fun a S1 => match a with
  | true => .ok true S1
  | false => fb S1
def tNot1 (fa : TF) : TF := fun S => (fa S).bind fun a S1 => .ok (!a) S1
def JW (X : Cx) (G : Kit) (W : WX) (io : List Nat) (e : Expr) (f : TF) : Prop := ∃ t, PW X e t ∧ ∀ F α S σ H, F.I.map (·.1) = io → Rl X.K G F α S σ H → ∀ Q : Bool → Hp → Prop,
  (f S).post (fun b S' => ∀ H', Aft X G F α S σ H S' H' → Q b H') (Er X G W F α S σ H) → t σ H Q
theorem JW.jt {e : Expr} {f : TF} (h : JW X G W io e f) : JT X G W io e f := by
  obtain ⟨t, p, q⟩ := h
  exact ⟨t, p.pt, q⟩
theorem jw_and1 {a : Expr} {fa : TF} {pos : Pos} (ha : JT X G W io a fa) : JW X G W io (.BoolOp .And [a] pos) fa := by
  obtain ⟨t, p, q⟩ := ha
  exact ⟨t, pw_and1 p, q⟩
theorem jw_or1 {a : Expr} {fa : TF} {pos : Pos} (ha : JT X G W io a fa) : JW X G W io (.BoolOp .Or [a] pos) fa := by
  obtain ⟨t, p, q⟩ := ha
  exact ⟨t, pw_or1 p, q⟩
theorem jw_and {a b : Expr} {rest : List Expr} {fa fb : TF} {pos : Pos} (ha : JT X G W io a fa) (hb : JW X G W io (.BoolOp .And (b :: rest) pos) fb) : JW X G W io (.BoolOp .And (a :: b :: rest) pos) (tAnd2 fa fb) := by
  obtain ⟨ta, pa, qa⟩ := ha
  obtain ⟨tb, pb, qb⟩ := hb
  refine ⟨_, pw_and pa pb, fun F α S σ H hI rl Q h => ?_⟩
  unfold tAnd2 at h
  rw [R.post_bind] at h
  refine qa F α S σ H hI rl _ (R.post_mono h (fun a S1 h1 H1 a1 => ?_) fun e S1 z => z)
  cases a with
  | true =>
    show if true = true then _ else _
    rw [if_pos rfl]
    exact qb F α S1 σ H1 hI a1.1 _ (R.post_mono h1 (fun b S2 h2 H2 a2 => h2 H2 (a1.trans a2)) fun e S2 z => z.step a1)
  | false =>
    show if false = true then _ else _
    rw [if_neg Bool.false_ne_true]
    exact h1 H1 a1
theorem jw_or {a b : Expr} {rest : List Expr} {fa fb : TF} {pos : Pos} (ha : JT X G W io a fa) (hb : JW X G W io (.BoolOp .Or (b :: rest) pos) fb) : JW X G W io (.BoolOp .Or (a :: b :: rest) pos) (tOr2 fa fb) := by
  obtain ⟨ta, pa, qa⟩ := ha
  obtain ⟨tb, pb, qb⟩ := hb
  refine ⟨_, pw_or pa pb, fun F α S σ H hI rl Q h => ?_⟩
  unfold tOr2 at h
  rw [R.post_bind] at h
  refine qa F α S σ H hI rl _ (R.post_mono h (fun a S1 h1 H1 a1 => ?_) fun e S1 z => z)
  cases a with
  | true =>
    show if true = true then _ else _
    rw [if_pos rfl]
    exact h1 H1 a1
  | false =>
    show if false = true then _ else _
    rw [if_neg Bool.false_ne_true]
    exact qb F α S1 σ H1 hI a1.1 _ (R.post_mono h1 (fun b S2 h2 H2 a2 => h2 H2 (a1.trans a2)) fun e S2 z => z.step a1)
theorem jt_not {a : Expr} {fa : TF} {pos : Pos} (ha : JT X G W io a fa) : JT X G W io (.UnaryOp .Not a pos) (tNot1 fa) := by
  obtain ⟨ta, pa, qa⟩ := ha
  refine ⟨_, pt_not pa, fun F α S σ H hI rl Q h => ?_⟩
  unfold tNot1 at h
  rw [R.post_bind] at h
  exact qa F α S σ H hI rl _ (R.post_mono h (fun a S1 h1 H1 a1 => h1 H1 a1) fun e S1 z => z)
def eIf (fc : TF) (fa fb : EF) : EF := fun S => (fc S).bind fun c S1 => match c with
  | true => fa S1
  | false => fb S1
theorem je_if {c a b : Expr} {fc : TF} {fa fb : EF} {pos : Pos} (hc : JT X G W io c fc) (ha : JE X G W io a fa) (hb : JE X G W io b fb) : JE X G W io (.IfExp c a b pos) (eIf fc fa fb) := by
  obtain ⟨tc, pc, qc⟩ := hc
  obtain ⟨ta, pa, qa⟩ := ha
  obtain ⟨tb, pb, qb⟩ := hb
  refine ⟨_, pe_ifExp pc pa pb, fun F α S σ H hI rl Q h => ?_⟩
  unfold eIf at h
  rw [R.post_bind] at h
  refine qc F α S σ H hI rl _ (R.post_mono h (fun c S1 h1 H1 a1 => ?_) fun e S1 z => z)
  cases c with
  | true =>
    show if true = true then _ else _
    rw [if_pos rfl]
    exact qa F α S1 σ H1 hI a1.1 _ (R.post_mono h1 (fun b S2 h2 v H2 a2 d2 => h2 v H2 (a1.trans a2) d2) fun e S2 z => z.step a1)
  | false =>
    show if false = true then _ else _
    rw [if_neg Bool.false_ne_true]
    exact qb F α S1 σ H1 hI a1.1 _ (R.post_mono h1 (fun b S2 h2 v H2 a2 d2 => h2 v H2 (a1.trans a2) d2) fun e S2 z => z.step a1)

/-! ### arguments, displays -/
def aNil : AF := fun S => .ok [] S
def aCons (fa : EF) (fr : AF) : AF := fun S => (fa S).bind fun a S1 => (fr S1).bind fun r S2 => .ok (a :: r) S2
theorem ja_nil : JA X G W io [] aNil := ⟨_, pa_nil, fun F α S σ H _ r Q q => q [] H (Aft.refl r) .nil⟩
theorem ja_cons {e : Expr} {es : List Expr} {fa : EF} {fr : AF} (ha : JE X G W io e fa) (hr : JA X G W io es fr) (hs : starEach (e :: es) X.env = (false, eval e X.env) :: starEach es X.env := by rfl) : JA X G W io (e :: es) (aCons fa fr) := by
  obtain ⟨ta, pa, qa⟩ := ha
  obtain ⟨tr, pr, qr⟩ := hr
  refine ⟨_, pa_cons pa pr hs, fun F α S σ H hI rl Q h => ?_⟩
  unfold aCons at h
  rw [R.post_bind] at h
  refine qa F α S σ H hI rl _ (R.post_mono h (fun a S1 h1 v H1 a1 d1 => ?_) fun e S1 z => z)
  rw [R.post_bind] at h1
  refine qr F α S1 σ H1 hI a1.1 _ (R.post_mono h1 (fun r S2 h2 vs H2 a2 d2 => ?_) fun e S2 z => z.step a1)
  exact h2 (v :: vs) H2 (a1.trans a2) (.cons (d1.mono a2.2) d2)
def fits (l : List D) : Bool := decide (l.length ≤ 1000000)
theorem fits_ok {l : List D} (h : fits l = true) : l.length ≤ sizeLine := by
  have := of_decide_eq_true h
  rw [sizeLine_eq]
  omega
def eTup (fa : AF) : EF := fun S => (fa S).bind fun l S1 => if fits l then .ok (.tup l) S1 else .bad
/-- a new object at p -/
theorem Rl.new {F : Fm} {α : Nat → Addr} {S : SS} {σ : L2.St} {H : Hp} (r : Rl X.K G F α S σ H) {p : Addr} {o : HO} (hp : H p = none) : Aft X G F α S σ H S (upd H p o) ∧ PH F α S (upd H p o) p = some o :=
  ⟨r.growA (Ext.new hp), (hide_at (r.fresh hp)).trans upd_same⟩
theorem je_tup {es : List Expr} {fa : AF} {pos : Pos} {k} (ha : JA X G W io es fa) : JE X G W io (.Tuple es k pos) (eTup fa) := by
  obtain ⟨ta, pa, qa⟩ := ha
  refine ⟨_, pe_tup pa, fun F α S σ H hI rl Q h => ?_⟩
  unfold eTup at h
  rw [R.post_bind] at h
  refine qa F α S σ H hI rl _ (R.post_mono h (fun l S1 h1 vs H1 a1 d1 => ?_) fun e S1 z => z)
  cases c : fits l with
  | false => rw [c] at h1; exact h1.elim
  | true =>
    rw [c] at h1
    refine ⟨by rw [d1.length]; exact fits_ok c, fun p hp => ?_⟩
    obtain ⟨a2, e2⟩ := a1.1.new (o := .tup vs) hp
    exact h1 _ _ (a1.trans a2) (.tup (SqT.of e2) (d1.mono a2.2))
end
end Fy
end
section
set_option Elab.async false
set_option linter.all false
set_option maxRecDepth 100000
set_option maxHeartbeats 2000000
namespace Fy
open PySem PySem.Spec PyProof.Rows L2

theorem opr_or {X : Cx} {f : Value → Value → Sem Value} {r r' : R2} (a : OpR X f r) (b : OpR X f r') : OpR X f (fun x y H Q => r x y H Q ∨ r' x y H Q) := fun pins s σ H x y v u Q I hx hy h => by
  rcases h with h | h
  · exact a pins s σ H x y v u Q I hx hy h
  · exact b pins s σ H x y v u Q I hx hy h
def okLen (n : Nat) : Bool := decide (n ≤ 1000000)
theorem okLen_ok {n : Nat} (h : okLen n = true) : n ≤ sizeLine := by
  have := of_decide_eq_true h
  rw [sizeLine_eq]
  omega
theorem hide_new {B : Addr → Prop} {H : Hp} {p : Addr} {o : HO} (nB : ∀ a, B a → H a ≠ none) (hp : H p = none) : Ext (hide B H) (hide B (upd H p o)) ∧ hide B (upd H p o) p = some o := by
  have nb : ¬ B p := fun h => nB p h hp
  refine ⟨fun a u h => ?_, (hide_at nb).trans upd_same⟩
  obtain ⟨n, h⟩ := hide_some h
  exact (hide_at n).trans (Ext.new hp a u h)
section
variable {K : PySem.W.Frag} {G : Kit} {H : Hp} {B : Addr → Prop} {v : V}
theorem Dv.tupE {l : List D} (h : Dv K G (hide B H) v (.tup l)) : ∃ a xs, v = .ref a ∧ SqT K H a xs ∧ SqT K (hide B H) a xs ∧ DvA K G (hide B H) xs l := by
  cases h with
  | tup h r => exact ⟨_, _, rfl, hide_ext.t h, h, r⟩
theorem Dv.lstE {l : List D} (h : Dv K G (hide B H) v (.lst l)) : ∃ a xs, v = .ref a ∧ H a = some (.lst xs) ∧ ¬ B a ∧ DvA K G (hide B H) xs l := by
  cases h with
  | lst h r => exact ⟨_, _, rfl, (hide_some h).2, (hide_some h).1, r⟩
theorem Dv.scrE {l : List Int} (h : Dv K G (hide B H) v (.scr l)) : ∃ a, v = .ref a ∧ SqL K H a (l.map V.int) := by
  cases h with
  | scr h => exact ⟨_, rfl, hide_ext.l h⟩
theorem DvA.ints : ∀ (l : List Int), DvA K G H (l.map V.int) (l.map D.int)
  | [] => .nil
  | i :: r => .cons (.int i) (DvA.ints r)
end

section
variable {K : PySem.W.Frag} {G : Kit} {H : Hp} {B : Addr → Prop} {v : V}
theorem Dw.asV {d : D} (h : Dw K G B H v d) (n : ∀ l, d ≠ .lst l) : Dv K G (hide B H) v d := by
  rcases h with h | ⟨_, _, l, _, e, _⟩
  · exact h
  · exact (n l e).elim
theorem Dw.intE {i : Int} (h : Dw K G B H v (.int i)) : v = .int i := by
  have := h.asV (by intro l e; cases e)
  cases this
  rfl
theorem Dw.blE {i : Bool} (h : Dw K G B H v (.bl i)) : v = .bl i := by
  have := h.asV (by intro l e; cases e)
  cases this
  rfl
theorem Dw.strE {i : Str} (h : Dw K G B H v (.str i)) : v = .str i := by
  have := h.asV (by intro l e; cases e)
  cases this
  rfl
theorem Dw.tupE {l : List D} (h : Dw K G B H v (.tup l)) : ∃ a xs, v = .ref a ∧ SqT K H a xs ∧ SqT K (hide B H) a xs ∧ DvA K G (hide B H) xs l := (h.asV (by intro l e; cases e)).tupE
theorem Dw.lstE {l : List D} (h : Dw K G B H v (.lst l)) : ∃ a xs, v = .ref a ∧ H a = some (.lst xs) ∧ DvA K G (hide B H) xs l := by
  rcases h with h | ⟨a, vs, l', e1, e2, e3, e4⟩
  · obtain ⟨a, xs, h1, h2, h3, h4⟩ := h.lstE
    exact ⟨a, xs, h1, h2, h4⟩
  · cases e2
    exact ⟨a, vs, e1, e3, e4⟩
theorem Dw.scrE {l : List Int} (h : Dw K G B H v (.scr l)) : ∃ a, v = .ref a ∧ SqL K H a (l.map V.int) := (h.asV (by intro l e; cases e)).scrE
end

/-! ### arithmetic -/
def dAdd : D → D → Option D
  | .int i, .int j => some (.int (i + j))
  | .str a, .str b => if okLen (a.length + b.length) then some (.str (a ++ b)) else none
  | .tup a, .tup b => if okLen (a.length + b.length) then some (.tup (a ++ b)) else none
  | .lst a, .lst b => if okLen (a.length + b.length) then some (.lst (a ++ b)) else none
  | _, _ => none
theorem od_add {X : Cx} {G : Kit} : OpD X G (binaryOp .Add) dAdd := by
  refine ⟨_, opr_or op_add (opr_or op_add_str (opr_or op_catA op_cat)), fun B H nB v u a b d hv hu he Q h => ?_⟩
  unfold dAdd at he
  split at he
  · cases he
    cases hv.intE
    cases hu.intE
    exact .inl ⟨_, _, rfl, rfl, h _ H (Ext.refl _) (.int _)⟩
  · split at he
    · rename_i c
      cases he
      cases hv.strE
      cases hu.strE
      exact .inr (.inl ⟨_, _, rfl, rfl, okLen_ok c, h _ H (Ext.refl _) (.str _)⟩)
    · cases he
  · split at he
    · rename_i c
      cases he
      obtain ⟨p, xs, rfl, e1, e1', r1⟩ := hv.tupE
      obtain ⟨q, ys, rfl, e2, e2', r2⟩ := hu.tupE
      refine .inr (.inr (.inl ⟨p, q, xs, ys, rfl, rfl, e1, e2, by rw [r1.length, r2.length]; exact okLen_ok c, fun z => ?_, fun z1 z2 => ?_, fun z1 z2 m hm => ?_⟩))
      · subst z
        cases r1
        exact h _ H (Ext.refl _) (.tup e2' r2)
      · subst z2
        cases r2
        rw [List.append_nil] at h
        exact h _ H (Ext.refl _) (.tup e1' r1)
      · obtain ⟨x1, x2⟩ := hide_new (o := .tup (xs ++ ys)) nB hm
        exact h _ _ (Ext.new hm) (.tup (SqT.of x2) ((r1.append r2).mono x1))
    · cases he
  · split at he
    · rename_i c
      cases he
      obtain ⟨p, xs, rfl, e1, r1⟩ := hv.lstE
      obtain ⟨q, ys, rfl, e2, r2⟩ := hu.lstE
      refine .inr (.inr (.inr ⟨p, q, xs, ys, rfl, rfl, e1, e2, by rw [r1.length, r2.length]; exact okLen_ok c, fun m hm => ?_⟩))
      obtain ⟨x1, x2⟩ := hide_new (o := .lst (xs ++ ys)) nB hm
      exact h _ _ (Ext.new hm) (.lst x2 ((r1.append r2).mono x1))
    · cases he
  · cases he
/-- an operator of two whole numbers -/
def dII (c : Int → Int → Bool) (g : Int → Int → D) : D → D → Option D
  | .int i, .int j => if c i j then some (g i j) else none
  | _, _ => none
theorem od_ii {X : Cx} {G : Kit} {f : Value → Value → Sem Value} {C : Int → Int → Prop} {c : Int → Int → Bool} {w : Int → Int → V} {g : Int → Int → D} (ho : OpR X f (rI C w)) (hc : ∀ i j, c i j = true → C i j) (hg : ∀ i j H, Dv X.K G H (w i j) (g i j)) : OpD X G f (dII c g) := by
  refine ⟨_, ho, fun B H nB v u a b d hv hu he Q h => ?_⟩
  unfold dII at he
  split at he
  · split at he
    · rename_i z
      cases he
      cases hv.intE
      cases hu.intE
      exact ⟨_, _, rfl, rfl, hc _ _ z, h _ H (Ext.refl _) (hg _ _ _)⟩
    · cases he
  · cases he
theorem od_ii0 {X : Cx} {G : Kit} {f : Value → Value → Sem Value} {w : Int → Int → V} {g : Int → Int → D} (ho : OpR X f (rI0 w)) (hg : ∀ i j H, Dv X.K G H (w i j) (g i j)) : OpD X G f (dII (fun _ _ => true) g) := by
  refine ⟨_, ho, fun B H nB v u a b d hv hu he Q h => ?_⟩
  unfold dII at he
  split at he
  · rw [if_pos rfl] at he
    cases he
    cases hv.intE
    cases hu.intE
    exact ⟨_, _, rfl, rfl, h _ H (Ext.refl _) (hg _ _ _)⟩
  · cases he
def dSub := dII (fun _ _ => true) fun i j => .int (i - j)
theorem od_sub {X : Cx} {G : Kit} : OpD X G (binaryOp .Sub) dSub := od_ii0 op_sub fun _ _ _ => .int _
def small64 (i : Int) : Bool := decide (i.natAbs < 2 ^ 64)
def dMul := dII (fun i j => small64 i || small64 j) fun i j => .int (i * j)
theorem od_mul {X : Cx} {G : Kit} : OpD X G (binaryOp .Mult) dMul := od_ii op_mul (fun i j h => by
  rcases (Bool.or_eq_true _ _).mp h with h | h
  · have := of_decide_eq_true h
    exact .inl (by constructor <;> omega)
  · have := of_decide_eq_true h
    exact .inr (by constructor <;> omega)) fun _ _ _ => .int _
def dMod := dII (fun _ j => j != 0) fun i j => .int (i.fmod j)
theorem od_mod {X : Cx} {G : Kit} : OpD X G (binaryOp .Mod) dMod := od_ii op_modN (fun i j h => by simpa using h) fun _ _ _ => .int _
def dFdiv := dII (fun _ j => j != 0 && decide (j.natAbs < 1073741824)) fun i j => .int (i.fdiv j)
theorem od_fdiv {X : Cx} {G : Kit} : OpD X G (binaryOp .FloorDiv) dFdiv := od_ii op_fdivN (fun i j h => by
  obtain ⟨h1, h2⟩ := (Bool.and_eq_true _ _).mp h
  exact ⟨by simpa using h1, of_decide_eq_true h2⟩) fun _ _ _ => .int _
def dPow := dII (fun i j => decide (0 ≤ j) && decide (j ≤ 1000000) && decide (i.natAbs < 2 ^ 64)) fun i j => .int (i ^ j.toNat)
theorem od_pow {X : Cx} {G : Kit} : OpD X G (binaryOp .Pow) dPow := od_ii op_pow (fun i j h => by
  obtain ⟨h1, h2⟩ := (Bool.and_eq_true _ _).mp h
  obtain ⟨h3, h4⟩ := (Bool.and_eq_true _ _).mp h1
  exact ⟨of_decide_eq_true h3, of_decide_eq_true h4, of_decide_eq_true h2⟩) fun _ _ _ => .int _
/-! ### comparisons -/
def dCmpS (g : Int → Int → Bool) (t : Str → Str → Bool) : D → D → Option D
  | .int i, .int j => some (.bl (g i j))
  | .str a, .str b => some (.bl (t a b))
  | _, _ => none
theorem od_cmpS {X : Cx} {G : Kit} {f : Value → Value → Sem Value} {g : Int → Int → Bool} {t : Str → Str → Bool} (ho : OpR X f (rI0 fun i j => .bl (g i j))) (hs : OpR X f (fun x y H Q => ∃ i j, x = V.str i ∧ y = V.str j ∧ Q (V.bl (t i j)) H)) : OpD X G f (dCmpS g t) := by
  refine ⟨_, opr_or ho hs, fun B H nB v u a b d hv hu he Q h => ?_⟩
  unfold dCmpS at he
  split at he
  · cases he
    cases hv.intE
    cases hu.intE
    exact .inl ⟨_, _, rfl, rfl, h _ H (Ext.refl _) (.bl _)⟩
  · cases he
    cases hv.strE
    cases hu.strE
    exact .inr ⟨_, _, rfl, rfl, h _ H (Ext.refl _) (.bl _)⟩
  · cases he
def dLt := dCmpS (fun i j => decide (i < j)) fun a b => decide (a.cps.toList < b.cps.toList)
theorem od_lt {X : Cx} {G : Kit} : OpD X G (compareOp .Lt) dLt := od_cmpS op_lt op_lt_str
def dCmp (g : Int → Int → Bool) := dII (fun _ _ => true) fun i j => .bl (g i j)
def dLe := dCmp fun i j => decide (i ≤ j)
theorem od_le {X : Cx} {G : Kit} : OpD X G (compareOp .LtE) dLe := od_ii0 op_le fun _ _ _ => .bl _
def dGt := dCmp fun i j => decide (j < i)
theorem od_gt {X : Cx} {G : Kit} : OpD X G (compareOp .Gt) dGt := od_ii0 op_gt fun _ _ _ => .bl _
def dGe := dCmp fun i j => decide (j ≤ i)
theorem od_ge {X : Cx} {G : Kit} : OpD X G (compareOp .GtE) dGe := od_ii0 op_ge fun _ _ _ => .bl _
/-- data that can be compared -/
def dPy (d : D) : Option PyData := match toPy d with
  | some p => if SeqAt.shaped p then some p else none
  | none => none
theorem dPy_some {d : D} {p : PyData} (h : dPy d = some p) : toPy d = some p ∧ SeqAt.shaped p = true := by
  unfold dPy at h
  split at h
  · split at h
    · rename_i c
      cases h
      exact ⟨by assumption, c⟩
    · cases h
  · cases h
def dEqG (g : PyData → PyData → Bool) (a b : D) : Option D := match dPy a, dPy b with
  | some p, some q => some (.bl (g p q))
  | _, _ => none
theorem dEqG_some {g : PyData → PyData → Bool} {a b d : D} (h : dEqG g a b = some d) : ∃ p q, dPy a = some p ∧ dPy b = some q ∧ d = .bl (g p q) := by
  unfold dEqG at h
  split at h
  · cases h
    exact ⟨_, _, by assumption, by assumption, rfl⟩
  · cases h
section
variable {K : PySem.W.Frag} {H H' : Hp}
mutual
theorem Ext.dp (e : Ext H H') : ∀ {p : PyData} {v : V}, Dp K H v p → Dp K H' v p
  | .none, _, .non => .non
  | .bool _, _, .bl b => .bl b
  | .int _, _, .int i => .int i
  | .str _, _, .str x => .str x
  | .list _, _, .lst h r => .lst (e.l h) (Ext.dpA e r)
  | .tuple _, _, .tup h r => .tup (e.t h) (Ext.dpA e r)
theorem Ext.dpA (e : Ext H H') : ∀ {ps : List PyData} {vs : List V}, DpAll K H vs ps → DpAll K H' vs ps
  | [], _, .nil => .nil
  | _ :: _, _, .cons h r => .cons (Ext.dp e h) (Ext.dpA e r)
end
end
theorem Dw.dp {K : PySem.W.Frag} {G : Kit} {B : Addr → Prop} {H : Hp} {v : V} {d : D} {p : PyData} (h : Dw K G B H v d) (e : toPy d = some p) : Dp K H v p := by
  rcases h with h | ⟨a, vs, l, rfl, rfl, e3, e4⟩
  · exact hide_ext.dp (h.dp e)
  · simp only [toPy] at e
    cases q : toPyA l with
    | none => rw [q] at e; cases e
    | some ps => rw [q] at e; cases e; exact .lst (SqL.of e3) (hide_ext.dpA (e4.dp q))
theorem Dw.dpy {K : PySem.W.Frag} {G : Kit} {B : Addr → Prop} {H : Hp} {v : V} {d : D} {p : PyData} (h : Dw K G B H v d) (e : dPy d = some p) : Dp K H v p ∧ SeqAt.shaped p = true :=
  ⟨h.dp (dPy_some e).1, (dPy_some e).2⟩
def dEq := dEqG fun p q => p.eqv q
def dNe := dEqG fun p q => !p.eqv q
theorem od_eq {X : Cx} {G : Kit} (hu : X.A.units + 64 < cLine) : OpD X G (compareOp .Eq) dEq := by
  refine ⟨_, op_eqD hu, fun B H nB v u a b d hv hu he Q h => ?_⟩
  obtain ⟨p, q, h1, h2, rfl⟩ := dEqG_some he
  obtain ⟨x1, s1⟩ := hv.dpy h1
  obtain ⟨x2, s2⟩ := hu.dpy h2
  exact ⟨p, q, x1, x2, s1, s2, h _ H (Ext.refl _) (.bl _)⟩
theorem od_ne {X : Cx} {G : Kit} (hu : X.A.units + 64 < cLine) : OpD X G (compareOp .NotEq) dNe := by
  refine ⟨_, op_neD hu, fun B H nB v u a b d hv hu he Q h => ?_⟩
  obtain ⟨p, q, h1, h2, rfl⟩ := dEqG_some he
  obtain ⟨x1, s1⟩ := hv.dpy h1
  obtain ⟨x2, s2⟩ := hu.dpy h2
  exact ⟨p, q, x1, x2, s1, s2, h _ H (Ext.refl _) (.bl _)⟩
/-- no parts -/
def flatP : PyData → Bool
  | .none => true
  | .bool _ => true
  | .int _ => true
  | .str _ => true
  | _ => false
theorem flat_v {K : PySem.W.Frag} {H : Hp} {v : V} {p : PyData} (h : Dp K H v p) (f : flatP p = true) : flatV v = true := by
  cases h <;> first | rfl | cases f
theorem flat_eq {K : PySem.W.Frag} {H : Hp} {v u : V} {p q : PyData} (h : Dp K H v p) (f : flatP p = true) (h' : Dp K H u q) (f' : flatP q = true) : eqV v u = p.eqv q := by
  cases h <;> cases h' <;> first | rfl | cases f | cases f' | skip
  all_goals simp only [eqV, PyData.eqv]
theorem flat_all {K : PySem.W.Frag} {H : Hp} : ∀ {ps : List PyData} {vs : List V}, DpAll K H vs ps → ps.all flatP = true → vs.all flatV = true
  | [], _, .nil, _ => rfl
  | p :: ps, _, .cons h r, f => by
    rw [List.all_cons, Bool.and_eq_true] at f
    rw [List.all_cons, Bool.and_eq_true]
    exact ⟨flat_v h f.1, flat_all r f.2⟩
theorem flat_in {K : PySem.W.Frag} {H : Hp} {x : V} {d : PyData} (h : Dp K H x d) (f : flatP d = true) : ∀ {ps : List PyData} {vs : List V}, DpAll K H vs ps → ps.all flatP = true → inV x vs = ps.any fun z => z.eqv d
  | [], _, .nil, _ => rfl
  | p :: ps, _, .cons h' r, f' => by
    rw [List.all_cons, Bool.and_eq_true] at f'
    have ih := flat_in h f r f'.2
    unfold inV at ih ⊢
    rw [List.any_cons, List.any_cons, ih, flat_eq h' f'.1 h f]
/-- in: nested data in a list, flat data in a list, a tuple; a text in a text -/
def dInG (g : Bool → Bool) (a b : D) : Option D := match a, b with
  | .str i, .str j => some (.bl (g !(Builtin.Str.occurrences j i 0 j.length 1).isEmpty))
  | a, .lst l => match dPy a, dPy (.lst l) with
    | some d, some (.list ds) => some (.bl (g (ds.any fun z => z.eqv d)))
    | _, _ => none
  | a, .tup l => match toPy a, toPyA l with
    | some d, some ds => if flatP d && ds.all flatP then some (.bl (g (ds.any fun z => z.eqv d))) else none
    | _, _ => none
  | _, _ => none
def dIn := dInG id
def dNotIn := dInG not
theorem od_inG {X : Cx} {G : Kit} {f : Value → Value → Sem Value} {neg : Bool} {g : Bool → Bool} (hg : ∀ b, g b = if neg = true then !b else b)
    (hs : OpR X f fun x y H Q => ∃ i j, x = V.str i ∧ y = V.str j ∧ Q (V.bl (g !(Builtin.Str.occurrences j i 0 j.length 1).isEmpty)) H)
    (hf : OpR X f (rIn X.K neg))
    (hn : OpR X f fun x y H Q => ∃ d ds, Dp X.K H x d ∧ Dp X.K H y (PyData.list ds) ∧ SeqAt.shaped d = true ∧ SeqAt.shaped (PyData.list ds) = true ∧ Q (V.bl (g (ds.any fun z => z.eqv d))) H) : OpD X G f (dInG g) := by
  refine ⟨_, opr_or hs (opr_or hf hn), fun B H nB v u a b d hv hu he Q h => ?_⟩
  unfold dInG at he
  split at he
  · cases he
    cases hv.strE
    cases hu.strE
    exact .inl ⟨_, _, rfl, rfl, h _ H (Ext.refl _) (.bl _)⟩
  · split at he
    · rename_i e1 e2
      cases he
      obtain ⟨x1, s1⟩ := hv.dpy e1
      obtain ⟨x2, s2⟩ := hu.dpy e2
      exact .inr (.inr ⟨_, _, x1, x2, s1, s2, h _ H (Ext.refl _) (.bl _)⟩)
    · cases he
  · split at he
    · rename_i e1 e2
      split at he
      · rename_i c
        cases he
        obtain ⟨c1, c2⟩ := (Bool.and_eq_true _ _).mp c
        obtain ⟨p, xs, rfl, z1, z2, r⟩ := hu.tupE
        have x1 := hv.dp e1
        have x2 := hide_ext.dpA (r.dp e2)
        refine .inr (.inl ⟨p, xs, rfl, .inr z1, flat_v x1 c1, flat_all x2 c2, ?_⟩)
        have := h (.bl (g (inV v xs))) H (Ext.refl _) (by rw [flat_in x1 c1 x2 c2]; exact .bl _)
        rw [hg] at this
        exact this
      · cases he
    · cases he
  · cases he
theorem od_in {X : Cx} {G : Kit} (hu : X.A.units + 65 < cLine) : OpD X G (compareOp .In) dIn := od_inG (neg := false) (fun b => rfl) op_in_str op_in_seq (op_inD hu)
theorem od_notIn {X : Cx} {G : Kit} (hu : X.A.units + 65 < cLine) : OpD X G (compareOp .NotIn) dNotIn := od_inG (neg := true) (fun b => rfl) (by
  intro pins s σ H x y v u Q I hx hy h
  obtain ⟨i, j, rfl, rfl, h⟩ := h
  exact op_notIn_str pins s σ H _ _ v u Q I hx hy ⟨i, j, rfl, rfl, h⟩) op_notIn_seq (op_notInD hu)
def dIsG (g : Bool → Bool) : D → D → Option D
  | .non, .non => some (.bl (g true))
  | _, .non => some (.bl (g false))
  | _, _ => none
def dIs := dIsG id
def dIsNot := dIsG not
def isNon : D → Bool
  | .non => true
  | _ => false
theorem dIsG_some {g : Bool → Bool} {a b d : D} (h : dIsG g a b = some d) : b = .non ∧ d = .bl (g (isNon a)) := by
  unfold dIsG at h
  split at h
  · cases h; exact ⟨rfl, rfl⟩
  · cases h
    rename_i n
    cases a <;> first | exact ⟨rfl, rfl⟩ | exact (n rfl).elim
  · cases h
theorem Dw.isN {K : PySem.W.Frag} {G : Kit} {B : Addr → Prop} {H : Hp} {v : V} {d : D} (h : Dw K G B H v d) : decide (v = .non) = isNon d := by
  rcases h with h | ⟨a, vs, l, rfl, rfl, _⟩
  · cases h <;> simp [isNon]
  · simp [isNon]
theorem od_isG {X : Cx} {G : Kit} {f : Value → Value → Sem Value} {g : Bool → Bool} (ho : OpR X f fun x y H Q => y = V.non ∧ Q (V.bl (g (decide (x = V.non)))) H) : OpD X G f (dIsG g) := by
  refine ⟨_, ho, fun B H nB v u a b d hv hu he Q h => ?_⟩
  obtain ⟨rfl, rfl⟩ := dIsG_some he
  have q := hu.asV (by intro l e; cases e)
  cases q
  refine ⟨rfl, h _ H (Ext.refl _) ?_⟩
  rw [hv.isN]
  exact .bl _
theorem od_is {X : Cx} {G : Kit} : OpD X G (compareOp .Is) dIs := od_isG op_isN
theorem od_isNot {X : Cx} {G : Kit} : OpD X G (compareOp .IsNot) dIsNot := od_isG op_notN
/-! ### items, parts -/
def dIx (a b : D) : Option D := match a, b with
  | .tup l, .int i => atI l i
  | .lst l, .int i => atI l i
  | .scr l, .int i => (atI l i).map D.int
  | .str z, .int i => if okLen z.length then (atI z.cps.toList i).map fun c => .str ⟨#[c]⟩ else none
  | _, _ => none
theorem DvA.atI {K : PySem.W.Frag} {G : Kit} {H : Hp} {vs : List V} {ds : List D} {i : Int} {d : D} (h : DvA K G H vs ds) (e : L2.atI ds i = some d) : ∃ v, L2.atI vs i = some v ∧ Dv K G H v d := by
  unfold L2.atI at e ⊢
  rw [h.length]
  cases q : ixN ds.length i with
  | none => rw [q] at e; cases e
  | some j =>
    rw [q] at e
    exact h.get e
theorem ix_run {X : Cx} {G : Kit} (B : Addr → Prop) (H : Hp) (nB : ∀ a, B a → H a ≠ none) (v u : V) (a b d : D) (hv : Dw X.K G B H v a) (hu : Dw X.K G B H u b) (he : dIx a b = some d)
    (Q : VK) (h : ∀ w H', Ext H H' → Dv X.K G (hide B H') w d → Q w H') : rIx X.K v u H Q := by
  unfold dIx at he
  split at he
  · obtain ⟨p, xs, rfl, z1, z2, r⟩ := hv.tupE
    cases hu.intE
    obtain ⟨w, e1, e2⟩ := r.atI he
    exact .inr (.inl ⟨p, xs, _, w, rfl, rfl, z1, e1, h w H (Ext.refl _) e2⟩)
  · obtain ⟨p, xs, rfl, z1, r⟩ := hv.lstE
    cases hu.intE
    obtain ⟨w, e1, e2⟩ := r.atI he
    exact .inl ⟨p, xs, _, w, rfl, rfl, SqL.of z1, e1, h w H (Ext.refl _) e2⟩
  · rename_i l i
    obtain ⟨p, rfl, z1⟩ := hv.scrE
    cases hu.intE
    cases e : atI l i with
    | none => rw [e] at he; cases he
    | some k =>
      rw [e] at he
      cases he
      refine .inl ⟨p, _, i, .int k, rfl, rfl, z1, ?_, h _ H (Ext.refl _) (.int k)⟩
      unfold L2.atI at e ⊢
      rw [List.length_map]
      cases q : ixN l.length i with
      | none => rw [q] at e; cases e
      | some j =>
        rw [q] at e
        show (l.map V.int)[j]? = _
        rw [List.getElem?_map]
        have e : l[j]? = some k := e
        rw [e]
        rfl
  · split at he
    · rename_i z i c
      cases hv.strE
      cases hu.intE
      cases e : atI z.cps.toList i with
      | none => rw [e] at he; cases he
      | some k =>
        rw [e] at he
        cases he
        exact .inr (.inr ⟨z, i, k, rfl, rfl, okLen_ok c, e, h _ H (Ext.refl _) (.str _)⟩)
    · cases he
  · cases he
theorem je_ix {X : Cx} {G : Kit} {W : WX} {io : List Nat} {a b : Expr} {fa fb : PF} {pos : Pos} (ha : JP X G W io a fa) (hb : JP X G W io b fb) (hs : PlainIx b) : JE X G W io (.Subscript a b pos) (eBin dIx fa fb) := by
  obtain ⟨ta, tb, pa, pb, q⟩ := op_run ix_run ha hb
  exact ⟨_, pe_ix ix_seq pa pb hs, q⟩
end Fy
end
section
set_option Elab.async false
set_option linter.all false
set_option maxRecDepth 100000
set_option maxHeartbeats 2000000
namespace Fy
open PySem PySem.Spec PyProof.Rows L2
section
variable {X : Cx} {G : Kit} {W : WX} {io : List Nat} {F : Fm} {α : Nat → Addr} {S S' : SS} {σ : L2.St} {H H' H'' : Hp} {p : Addr}
/-! ### one more foreign place -/
theorem msk_with {a : Addr} : Msk (F.with p) α S a ↔ Msk F α S a ∨ a = p := by
  constructor
  · rintro ((h | h) | h)
    · exact .inl (.inl h)
    · exact .inr h
    · exact .inl (.inr h)
  · rintro ((h | h) | h)
    · exact .inl (.inl h)
    · exact .inr h
    · exact .inl (.inr h)
theorem with_ext : Ext (PH (F.with p) α S H) (PH F α S H) := fun a o h => by
  obtain ⟨n, h⟩ := hide_some h
  exact (hide_at fun m => n (msk_with.mpr (.inl m))).trans h
theorem Rl.unwith (r : Rl X.K G (F.with p) α S σ H) : Rl X.K G F α S σ H := by
  refine ⟨r.len, fun i d h => ?_, fun i l h => ?_, r.inj, r.ext, fun a h => r.ob a (.inl h), r.pin⟩
  · obtain ⟨v, h1, h2⟩ := r.va i d h
    exact ⟨v, h1, h2.mono with_ext⟩
  · obtain ⟨h1, h2, h3, vs, h4, h5⟩ := r.ow i l h
    exact ⟨h1, fun z => h2 (.inl z), h3, vs, h4, h5.mono with_ext⟩
/-- the heap at a new place, seen without it -/
theorem new_ext {o : HO} (hp : H p = none) : Ext (PH F α S H) (PH (F.with p) α S (upd H p o)) := fun a u h => by
  obtain ⟨n, h⟩ := hide_some h
  have hn : a ≠ p := fun z => by rw [z, hp] at h; cases h
  refine (hide_at fun m => ?_).trans ((upd_ne hn).trans h)
  rcases msk_with.mp m with m | m
  · exact n m
  · exact hn m
theorem Rl.withNew {o : HO} (r : Rl X.K G F α S σ H) (hp : H p = none) : Rl X.K G (F.with p) α S σ (upd H p o) := by
  refine ⟨r.len, fun i d h => ?_, fun i l h => ?_, r.inj, r.ext.trans (Ext.new hp), fun a h => ?_, r.pin⟩
  · obtain ⟨v, h1, h2⟩ := r.va i d h
    exact ⟨v, h1, h2.mono (new_ext hp)⟩
  · obtain ⟨h1, h2, h3, vs, h4, h5⟩ := r.ow i l h
    have hn : α i ≠ p := fun z => by rw [z, hp] at h4; cases h4
    refine ⟨h1, fun z => ?_, h3, vs, (upd_ne hn).trans h4, h5.mono (new_ext hp)⟩
    rcases z with z | z
    · exact h2 z
    · exact hn z
  · by_cases e : a = p
    · rw [e, upd_same]; intro z; cases z
    · rw [upd_ne e]
      rcases h with h | h
      · exact r.ob a h
      · exact (e h).elim
theorem Rl.notp (r : Rl X.K G F α S σ H) (hp : H p = none) : ∀ i : Nat, isOw S i → α i ≠ p := fun i ⟨l, h⟩ z => by
  obtain ⟨_, _, _, vs, h4, _⟩ := r.ow i l h
  rw [z, hp] at h4
  cases h4
theorem JN.jl {e : Expr} {f : AF} (h : JN X G W io e f) : JL X G W io e f := by
  obtain ⟨t, pt, q⟩ := h
  refine ⟨t, pt, fun F α S σ H hI rl Q h => q F α S σ H hI rl Q (R.post_mono h (fun ds S1 h1 vs H1 a1 d1 p hp => ?_) fun e S1 z => z)⟩
  refine h1 p vs _ (a1.3 p hp) (a1.1.notp hp) ⟨a1.1.withNew hp, fun a o z => ?_, fun a z => ?_⟩ upd_same (d1.mono (new_ext hp))
  · obtain ⟨n, z⟩ := hide_some z
    have : hide (Msk F α S) H a = some o := (hide_at fun m => n (msk_with.mpr (.inl m))).trans z
    exact new_ext hp a o (a1.2 a o this)
  · by_cases e : a = p
    · rw [e, upd_same] at z; cases z
    · rw [upd_ne e] at z
      exact a1.3 a z
/-- a new list that nobody changes any more -/
def eLst (f : AF) : EF := fun S => (f S).bind fun ds S1 => .ok (.lst ds) S1
theorem lst_run {t : TE} {f : AF} (q : ∀ F α S σ H, F.I.map (·.1) = io → Rl X.K G F α S σ H → ∀ Q : VK,
    (f S).post (fun ds S' => ∀ p vs H', H p = none → (∀ i : Nat, isOw S' i → α i ≠ p) → Aft X G (F.with p) α S σ H S' H' → H' p = some (.lst vs) → DvA X.K G (PH (F.with p) α S' H') vs ds → Q (.ref p) H') (Er X G W F α S σ H) → t σ H Q) :
    ∀ F α S σ H, F.I.map (·.1) = io → Rl X.K G F α S σ H → ∀ Q : VK, (eLst f S).post (fun d S' => ∀ v H', Aft X G F α S σ H S' H' → Dv X.K G (PH F α S' H') v d → Q v H') (Er X G W F α S σ H) → t σ H Q := by
  intro F α S σ H hI rl Q h
  unfold eLst at h
  rw [R.post_bind] at h
  refine q F α S σ H hI rl Q (R.post_mono h (fun ds S1 h1 p vs H1 hp hn a1 hv d1 => ?_) fun e S1 z => z)
  have np : ¬ Msk F α S1 p := by
    rintro (z | ⟨i, z, e⟩)
    · exact rl.ob p z hp
    · exact hn i z e
  refine h1 (.ref p) H1 ⟨a1.1.unwith, fun a o z => ?_, a1.3⟩ (.lst ((hide_at np).trans hv) (d1.mono with_ext))
  obtain ⟨n, z⟩ := hide_some z
  have na : a ≠ p := fun e => by rw [e, hp] at z; cases z
  refine with_ext a o (a1.2 a o ((hide_at fun m => ?_).trans z))
  rcases msk_with.mp m with m | m
  · exact n m
  · exact na m
theorem JL.je {e : Expr} {f : AF} (h : JL X G W io e f) : JE X G W io e (eLst f) := by
  obtain ⟨t, pt, q⟩ := h
  exact ⟨t, pt, lst_run q⟩
/-! ### new lists -/
def aFit (fa : AF) : AF := fun S => (fa S).bind fun l S1 => if fits l then .ok l S1 else .bad
theorem jn_lst {es : List Expr} {fa : AF} {pos : Pos} (ha : JA X G W io es fa) : JN X G W io (.List es pos) (aFit fa) := by
  obtain ⟨ta, pa, qa⟩ := ha
  refine ⟨_, pe_lst pa, fun F α S σ H hI rl Q h => ?_⟩
  unfold aFit at h
  rw [R.post_bind] at h
  refine qa F α S σ H hI rl _ (R.post_mono h (fun l S1 h1 vs H1 a1 d1 => ?_) fun e S1 z => z)
  cases c : fits l with
  | false => rw [c] at h1; exact h1.elim
  | true =>
    rw [c] at h1
    exact ⟨by rw [d1.length]; exact fits_ok c, fun p hp => h1 vs H1 a1 d1 p hp⟩
/-! ### parts -/
abbrev OF := SS → R (Option Int)
def JO (X : Cx) (G : Kit) (W : WX) (io : List Nat) (e : Option Expr) (f : OF) : Prop := ∃ t, PO X e t ∧ ∀ F α S σ H, F.I.map (·.1) = io → Rl X.K G F α S σ H → ∀ Q : Option Int → Hp → Prop,
  (f S).post (fun o S' => ∀ H', Aft X G F α S σ H S' H' → Q o H') (Er X G W F α S σ H) → t σ H Q
def oNone : OF := fun S => .ok none S
def oSome (f : EF) : OF := fun S => (f S).bind fun d S1 => match d with
  | .int i => .ok (some i) S1
  | _ => .bad
theorem jo_none : JO X G W io none oNone := ⟨_, po_none, fun F α S σ H _ r Q q => q H (Aft.refl r)⟩
theorem jo_some {e : Expr} {f : EF} (h : JE X G W io e f) : JO X G W io (some e) (oSome f) := by
  obtain ⟨t, p, q⟩ := h
  refine ⟨_, po_some p, fun F α S σ H hI rl Q h => ?_⟩
  unfold oSome at h
  rw [R.post_bind] at h
  refine q F α S σ H hI rl _ (R.post_mono h (fun d S1 h1 v H1 a1 d1 => ?_) fun e S1 z => z)
  cases d with
  | int i => cases d1; exact ⟨i, rfl, h1 H1 a1⟩
  | _ => exact h1.elim
def cutL {β : Type} (xs : List β) (lo hi : Option Int) : List β := (xs.drop (HT.sIx xs.length 0 lo)).take (HT.sIx xs.length xs.length hi - HT.sIx xs.length 0 lo)
theorem DvA.cut {K : PySem.W.Frag} {vs : List V} {ds : List D} {lo hi : Option Int} (h : DvA K G H vs ds) : DvA K G H (cutV vs lo hi) (cutL ds lo hi) := by
  unfold cutV cutL
  rw [h.length]
  exact (h.drop _).take _
/-- a slice -/
def dSl (lo hi : Option Int) : D → Option D
  | .tup l => some (.tup (cutL l lo hi))
  | .lst l => some (.lst (cutL l lo hi))
  | .scr l => some (.lst ((cutL l lo hi).map D.int))
  | .str z => if okLen z.length then some (.str (cutS z lo hi)) else none
  | _ => none
/-- a reading with parts, by values -/
theorem opr3_or {f : V → Option Int → Option Int → Hp → VK → Prop} {f' : V → Option Int → Option Int → Hp → VK → Prop} (a : SlR X f) (b : SlR X f') : SlR X fun x lo hi H Q => f x lo hi H Q ∨ f' x lo hi H Q := fun pins s σ H x v vl vu lo hi sl Q I hx hs h1 h2 h => by
  rcases h with h | h
  · exact a pins s σ H x v vl vu lo hi sl Q I hx hs h1 h2 h
  · exact b pins s σ H x v vl vu lo hi sl Q I hx hs h1 h2 h
theorem cutV_map {l : List Int} {lo hi : Option Int} : cutV (l.map V.int) lo hi = (cutL l lo hi).map V.int := by
  unfold cutV cutL
  rw [List.length_map, List.map_take, List.map_drop]
theorem cut_all {β : Type} {l : List β} {lo hi : Option Int} (h : HT.sIx l.length 0 lo = 0 ∧ HT.sIx l.length l.length hi = l.length) : cutL l lo hi = l := by
  unfold cutL
  rw [h.1, h.2]
  simp
def eSl (fe : PF) (fl fh : OF) : EF := fun S => (fe S).bind fun a S1 => (fl S1).bind fun lo S2 => (fh S2).bind fun hi S3 => match a.get S3 with
  | some d => R.of (dSl lo hi d) S3
  | none => .bad
theorem je_sl {e : Expr} {lo hi : Option Expr} {fe : PF} {fl fh : OF} {pos p2 : Pos} (he : JP X G W io e fe) (hl : JO X G W io lo fl) (hh : JO X G W io hi fh) : JE X G W io (.Subscript e (.Slice lo hi none p2) pos) (eSl fe fl fh) := by
  obtain ⟨te, pe, qe⟩ := he
  obtain ⟨tl, pl, ql⟩ := hl
  obtain ⟨th, ph, qh⟩ := hh
  refine ⟨_, pe_slice (opr3_or sl_list (opr3_or sl_tupA sl_str)) pe pl ph, fun F α S σ H hI rl Q h => ?_⟩
  unfold eSl at h
  rw [R.post_bind] at h
  refine qe F α S σ H hI rl _ (R.post_mono h (fun a S1 h1 v H1 a1 d1 => ?_) fun e S1 z => z)
  rw [R.post_bind] at h1
  refine ql F α S1 σ H1 hI a1.1 _ (R.post_mono h1 (fun lo S2 h2 H2 a2 => ?_) fun e S2 z => z.step a1)
  rw [R.post_bind] at h2
  refine qh F α S2 σ H2 hI a2.1 _ (R.post_mono h2 (fun hi S3 h3 H3 a3 => ?_) fun e S2 z => z.step (a1.trans a2))
  cases g : a.get S3 with
  | none => rw [g] at h3; exact h3.elim
  | some d =>
    rw [g] at h3
    obtain ⟨d', e', h4⟩ := R.post_of h3
    have w := ((d1.mono a2.2).mono a3.2).dw a3.1 g
    have A := (a1.trans a2).trans a3
    have nB := a3.1.nB
    unfold dSl at e'
    split at e'
    · cases e'
      obtain ⟨p, xs, rfl, z1, z2, r⟩ := w.tupE
      refine .inr (.inl ⟨p, xs, rfl, z1, fun c => ?_, fun c m hm => ?_⟩)
      · rw [r.length] at c
        refine h4 _ H3 A ?_
        rw [cut_all c]
        exact .tup z2 r
      · obtain ⟨x1, x2⟩ := hide_new (o := .tup (cutV xs lo hi)) nB hm
        exact h4 _ _ (A.trans (a3.1.growA (Ext.new hm))) (.tup (SqT.of x2) (r.cut.mono x1))
    · cases e'
      obtain ⟨p, xs, rfl, z1, r⟩ := w.lstE
      refine .inl ⟨p, xs, rfl, SqL.of z1, fun m hm => ?_⟩
      obtain ⟨x1, x2⟩ := hide_new (o := .lst (cutV xs lo hi)) nB hm
      exact h4 _ _ (A.trans (a3.1.growA (Ext.new hm))) (.lst x2 (r.cut.mono x1))
    · cases e'
      obtain ⟨p, rfl, z1⟩ := w.scrE
      refine .inl ⟨p, _, rfl, z1, fun m hm => ?_⟩
      obtain ⟨x1, x2⟩ := hide_new (o := .lst (cutV _ lo hi)) nB hm
      refine h4 _ _ (A.trans (a3.1.growA (Ext.new hm))) (.lst x2 ?_)
      rw [cutV_map]
      exact DvA.ints _
    · split at e'
      · rename_i c
        cases e'
        cases w.strE
        exact .inr (.inr ⟨_, rfl, okLen_ok c, h4 _ H3 A (.str _)⟩)
      · cases e'
    · cases e'
/-- a slice of a list is a new list -/
def aSl (fe : PF) (fl fh : OF) : AF := fun S => (eSl fe fl fh S).bind fun d S1 => match d with
  | .lst l => .ok l S1
  | _ => .bad
/-- e[::-1] of a list -/
def aRev (fe : PF) : AF := fun S => (fe S).bind fun a S1 => match a.get S1 with
  | some (.lst l) => .ok l.reverse S1
  | _ => .bad
theorem jn_rev {e : Expr} {fe : PF} {k : Nat} {p1 p2 p3 pos : Pos} (he : JP X G W io e fe) : JN X G W io (.Subscript e (.Slice none none (some (.UnaryOp .USub (.Constant (.int 1) k p1) p2)) p3) pos) (aRev fe) := by
  obtain ⟨te, pe, qe⟩ := he
  refine ⟨_, pe_revL pe, fun F α S σ H hI rl Q h => ?_⟩
  unfold aRev at h
  rw [R.post_bind] at h
  refine qe F α S σ H hI rl _ (R.post_mono h (fun a S1 h1 v H1 a1 d1 => ?_) fun e S1 z => z)
  split at h1
  · rename_i l g
    obtain ⟨p, xs, rfl, z1, r⟩ := (d1.dw a1.1 g).lstE
    exact ⟨p, xs, rfl, SqL.of z1, fun m hm => h1 _ H1 a1 r.rev m hm⟩
  · exact h1.elim
/-! ### one sign ahead -/
def eNeg (fe : EF) : EF := fun S => (fe S).bind fun d S1 => match d with
  | .int i => .ok (.int (-i)) S1
  | _ => .bad
theorem je_neg {e : Expr} {fe : EF} {pos : Pos} (he : JE X G W io e fe) : JE X G W io (.UnaryOp .USub e pos) (eNeg fe) := by
  obtain ⟨te, pe, qe⟩ := he
  refine ⟨_, pe_un un_neg pe, fun F α S σ H hI rl Q h => ?_⟩
  unfold eNeg at h
  rw [R.post_bind] at h
  refine qe F α S σ H hI rl _ (R.post_mono h (fun d S1 h1 v H1 a1 d1 => ?_) fun e S1 z => z)
  cases d with
  | int i => cases d1; exact ⟨i, rfl, h1 _ H1 a1 (.int _)⟩
  | _ => exact h1.elim
/-! ### builtin calls -/
abbrev LF := SS → R (List P)
def PkA (K : PySem.W.Frag) (G : Kit) (F : Fm) (α : Nat → Addr) (S : SS) (H : Hp) : List V → List P → Prop
  | [], [] => True
  | v :: vs, p :: ps => PkR K G F α S H v p ∧ PkA K G F α S H vs ps
  | _, _ => False
theorem PkA.mono {K : PySem.W.Frag} {F : Fm} {α : Nat → Addr} {S S' : SS} {H H' : Hp} (e : Ext (PH F α S H) (PH F α S' H')) : ∀ {vs : List V} {ps : List P}, PkA K G F α S H vs ps → PkA K G F α S' H' vs ps
  | [], [], _ => trivial
  | _ :: _, _ :: _, ⟨h, r⟩ => ⟨h.mono e, PkA.mono e r⟩
  | _ :: _, [], h => h.elim
  | [], _ :: _, h => h.elim
def getA (S : SS) : List P → Option (List D)
  | [] => some []
  | p :: ps => match p.get S, getA S ps with
    | some d, some ds => some (d :: ds)
    | _, _ => none
def DwA (K : PySem.W.Frag) (G : Kit) (B : Addr → Prop) (H : Hp) : List V → List D → Prop
  | [], [] => True
  | v :: vs, d :: ds => Dw K G B H v d ∧ DwA K G B H vs ds
  | _, _ => False
theorem PkA.dw {K : PySem.W.Frag} {F : Fm} {α : Nat → Addr} {S : SS} {σ : L2.St} {H : Hp} (r : Rl K G F α S σ H) : ∀ {vs : List V} {ps : List P} {ds : List D}, PkA K G F α S H vs ps → getA S ps = some ds → DwA K G (Msk F α S) H vs ds
  | [], [], _, _, e => by cases e; exact trivial
  | _ :: _, p :: ps, ds, ⟨h, t⟩, e => by
    simp only [getA] at e
    split at e
    · rename_i d ds' e1 e2
      cases e
      exact ⟨h.dw r e1, PkA.dw r t e2⟩
    · cases e
  | _ :: _, [], _, h, _ => h.elim
  | [], _ :: _, _, h, _ => h.elim
def JLs (X : Cx) (G : Kit) (W : WX) (io : List Nat) (es : List Expr) (f : LF) : Prop := ∃ t, PA X es t ∧ ∀ F α S σ H, F.I.map (·.1) = io → Rl X.K G F α S σ H → ∀ Q : List V → Hp → Prop,
  (f S).post (fun ps S' => ∀ vs H', Aft X G F α S σ H S' H' → PkA X.K G F α S' H' vs ps → Q vs H') (Er X G W F α S σ H) → t σ H Q
def lNil : LF := fun S => .ok [] S
def lCons (fa : PF) (fr : LF) : LF := fun S => (fa S).bind fun a S1 => (fr S1).bind fun r S2 => .ok (a :: r) S2
theorem jls_nil : JLs X G W io [] lNil := ⟨_, pa_nil, fun F α S σ H _ r Q q => q [] H (Aft.refl r) trivial⟩
theorem jls_cons {e : Expr} {es : List Expr} {fa : PF} {fr : LF} (ha : JP X G W io e fa) (hr : JLs X G W io es fr) (hs : starEach (e :: es) X.env = (false, eval e X.env) :: starEach es X.env := by rfl) : JLs X G W io (e :: es) (lCons fa fr) := by
  obtain ⟨ta, pa, qa⟩ := ha
  obtain ⟨tr, pr, qr⟩ := hr
  refine ⟨_, pa_cons pa pr hs, fun F α S σ H hI rl Q h => ?_⟩
  unfold lCons at h
  rw [R.post_bind] at h
  refine qa F α S σ H hI rl _ (R.post_mono h (fun a S1 h1 v H1 a1 d1 => ?_) fun e S1 z => z)
  rw [R.post_bind] at h1
  refine qr F α S1 σ H1 hI a1.1 _ (R.post_mono h1 (fun r S2 h2 vs H2 a2 d2 => ?_) fun e S2 z => z.step a1)
  exact h2 (v :: vs) H2 (a1.trans a2) ⟨d1.mono a2.2, d2⟩
/-- a built-in, by values -/
def CallD (X : Cx) (G : Kit) (f : Value) (g : List D → Option D) : Prop := ∃ r, CallR X f r ∧ ∀ (B : Addr → Prop) (H : Hp), (∀ a, B a → H a ≠ none) → ∀ (vs : List V) (ds : List D) (d : D), DwA X.K G B H vs ds → g ds = some d →
  ∀ Q : VK, (∀ w H', Ext H H' → Dv X.K G (hide B H') w d → Q w H') → r vs H Q
/-- a built-in that gives a new list -/
def CallN (X : Cx) (G : Kit) (f : Value) (g : List D → Option (List D)) : Prop := ∃ r, CallR X f r ∧ ∀ (B : Addr → Prop) (H : Hp), (∀ a, B a → H a ≠ none) → ∀ (vs : List V) (ds : List D) (d : List D), DwA X.K G B H vs ds → g ds = some d →
  ∀ Q : VK, (∀ ws H', Ext H H' → DvA X.K G (hide B H') ws d → ∀ p, H' p = none → Q (.ref p) (upd H' p (.lst ws))) → r vs H Q
def eCB (g : List D → Option D) (fa : LF) : EF := fun S => (fa S).bind fun ps S1 => R.of ((getA S1 ps).bind g) S1
def aCB (g : List D → Option (List D)) (fa : LF) : AF := fun S => (fa S).bind fun ps S1 => R.of ((getA S1 ps).bind g) S1
theorem bind_some {β γ : Type} {o : Option β} {g : β → Option γ} {d : γ} (h : o.bind g = some d) : ∃ b, o = some b ∧ g b = some d := by
  cases o with
  | none => cases h
  | some b => exact ⟨b, rfl, h⟩
theorem cb_run {r : List V → Hp → VK → Prop} {es : List Expr} {fa : LF} {g : List D → Option D} (hr : ∀ (B : Addr → Prop) (H : Hp), (∀ a, B a → H a ≠ none) → ∀ (vs : List V) (ds : List D) (d : D), DwA X.K G B H vs ds → g ds = some d →
    ∀ Q : VK, (∀ w H', Ext H H' → Dv X.K G (hide B H') w d → Q w H') → r vs H Q) (ha : JLs X G W io es fa) :
    ∃ t, PA X es t ∧ ∀ F α S σ H, F.I.map (·.1) = io → Rl X.K G F α S σ H → ∀ Q : VK,
      (eCB g fa S).post (fun d S' => ∀ v H', Aft X G F α S σ H S' H' → Dv X.K G (PH F α S' H') v d → Q v H') (Er X G W F α S σ H) → tCB r t σ H Q := by
  obtain ⟨ta, pa, qa⟩ := ha
  refine ⟨ta, pa, fun F α S σ H hI rl Q h => ?_⟩
  unfold eCB at h
  rw [R.post_bind] at h
  refine qa F α S σ H hI rl _ (R.post_mono h (fun ps S1 h1 vs H1 a1 d1 => ?_) fun e S1 z => z)
  obtain ⟨d, hd, h2⟩ := R.post_of h1
  obtain ⟨ds, e1, e2⟩ := bind_some hd
  exact hr _ H1 a1.1.nB vs ds d (d1.dw a1.1 e1) e2 Q fun w H2 x2 d2 => h2 w H2 (a1.trans (a1.1.growA x2)) d2
theorem cn_run {r : List V → Hp → VK → Prop} {es : List Expr} {fa : LF} {g : List D → Option (List D)} (hr : ∀ (B : Addr → Prop) (H : Hp), (∀ a, B a → H a ≠ none) → ∀ (vs : List V) (ds d : List D), DwA X.K G B H vs ds → g ds = some d →
    ∀ Q : VK, (∀ ws H', Ext H H' → DvA X.K G (hide B H') ws d → ∀ p, H' p = none → Q (.ref p) (upd H' p (.lst ws))) → r vs H Q) (ha : JLs X G W io es fa) :
    ∃ t, PA X es t ∧ ∀ F α S σ H, F.I.map (·.1) = io → Rl X.K G F α S σ H → ∀ Q : VK,
      (aCB g fa S).post (fun ds S' => ∀ vs H', Aft X G F α S σ H S' H' → DvA X.K G (PH F α S' H') vs ds → ∀ p, H' p = none → Q (.ref p) (upd H' p (.lst vs))) (Er X G W F α S σ H) → tCB r t σ H Q := by
  obtain ⟨ta, pa, qa⟩ := ha
  refine ⟨ta, pa, fun F α S σ H hI rl Q h => ?_⟩
  unfold aCB at h
  rw [R.post_bind] at h
  refine qa F α S σ H hI rl _ (R.post_mono h (fun ps S1 h1 vs H1 a1 d1 => ?_) fun e S1 z => z)
  obtain ⟨d, hd, h2⟩ := R.post_of h1
  obtain ⟨ds, e1, e2⟩ := bind_some hd
  exact hr _ H1 a1.1.nB vs ds d (d1.dw a1.1 e1) e2 Q fun ws H2 x2 d2 p hp => h2 ws H2 (a1.trans (a1.1.growA x2)) d2 p hp
theorem je_callB {x : Str} {p pos : Pos} {e : Expr} {es : List Expr} {fa : LF} {id : String} {g : List D → Option D} (hc : CallD X G (.builtin id) g) (hg : Gl X x) (hm : X.mg x = none) (hv : bootBuiltins x = some (.builtin id)) (ha : JLs X G W io (e :: es) fa)
    (h1 : x ≠ Str.ofString "__name__" := by decide) (h2 : (x == Str.ofString "__debug__") = false := by decide) (h3 : starEach (e :: es) X.env = (false, eval e X.env) :: starEach es X.env := by rfl) (h4 : ((backTo pos (starEach es X.env)).any fun x => x.fst) = false := by rfl) : JE X G W io (.Call (.Name x p) (e :: es) [] pos) (eCB g fa) := by
  obtain ⟨r, hr, hq⟩ := hc
  obtain ⟨t, pa, q⟩ := cb_run hq ha
  exact ⟨_, pe_callB hr hg hm hv pa h1 h2 h3 h4, q⟩
theorem je_callTy {x : Str} {p pos : Pos} {e : Expr} {es : List Expr} {fa : LF} {T : String} {g : List D → Option D} (hc : CallD X G (.type T) g) (hg : Gl X x) (hm : X.mg x = none) (hv : bootBuiltins x = some (.type T)) (ha : JLs X G W io (e :: es) fa)
    (h1 : x ≠ Str.ofString "__name__" := by decide) (h2 : (x == Str.ofString "__debug__") = false := by decide) (h3 : starEach (e :: es) X.env = (false, eval e X.env) :: starEach es X.env := by rfl) (h4 : ((backTo pos (starEach es X.env)).any fun x => x.fst) = false := by rfl) : JE X G W io (.Call (.Name x p) (e :: es) [] pos) (eCB g fa) := by
  obtain ⟨r, hr, hq⟩ := hc
  obtain ⟨t, pa, q⟩ := cb_run hq ha
  exact ⟨_, pe_callTy hr hg hm hv pa h1 h2 h3 h4, q⟩
theorem jn_callB {x : Str} {p pos : Pos} {e : Expr} {es : List Expr} {fa : LF} {id : String} {g : List D → Option (List D)} (hc : CallN X G (.builtin id) g) (hg : Gl X x) (hm : X.mg x = none) (hv : bootBuiltins x = some (.builtin id)) (ha : JLs X G W io (e :: es) fa)
    (h1 : x ≠ Str.ofString "__name__" := by decide) (h2 : (x == Str.ofString "__debug__") = false := by decide) (h3 : starEach (e :: es) X.env = (false, eval e X.env) :: starEach es X.env := by rfl) (h4 : ((backTo pos (starEach es X.env)).any fun x => x.fst) = false := by rfl) : JN X G W io (.Call (.Name x p) (e :: es) [] pos) (aCB g fa) := by
  obtain ⟨r, hr, hq⟩ := hc
  obtain ⟨t, pa, q⟩ := cn_run hq ha
  exact ⟨_, pe_callB hr hg hm hv pa h1 h2 h3 h4, q⟩
theorem jn_callTy {x : Str} {p pos : Pos} {e : Expr} {es : List Expr} {fa : LF} {T : String} {g : List D → Option (List D)} (hc : CallN X G (.type T) g) (hg : Gl X x) (hm : X.mg x = none) (hv : bootBuiltins x = some (.type T)) (ha : JLs X G W io (e :: es) fa)
    (h1 : x ≠ Str.ofString "__name__" := by decide) (h2 : (x == Str.ofString "__debug__") = false := by decide) (h3 : starEach (e :: es) X.env = (false, eval e X.env) :: starEach es X.env := by rfl) (h4 : ((backTo pos (starEach es X.env)).any fun x => x.fst) = false := by rfl) : JN X G W io (.Call (.Name x p) (e :: es) [] pos) (aCB g fa) := by
  obtain ⟨r, hr, hq⟩ := hc
  obtain ⟨t, pa, q⟩ := cn_run hq ha
  exact ⟨_, pe_callTy hr hg hm hv pa h1 h2 h3 h4, q⟩
end
end Fy
end
section
set_option Elab.async false
set_option linter.all false
set_option maxRecDepth 100000
set_option maxHeartbeats 2000000
namespace Fy
open PySem PySem.Spec PyProof.Rows L2
section
variable {X : Cx} {G : Kit}
theorem callR_or {f : Value} {r r' : List V → Hp → VK → Prop} (a : CallR X f r) (b : CallR X f r') : CallR X f fun xs H Q => r xs H Q ∨ r' xs H Q := fun pins s σ H xs us Q I hv h => by
  rcases h with h | h
  · exact a pins s σ H xs us Q I hv h
  · exact b pins s σ H xs us Q I hv h
theorem DwA.one {K : PySem.W.Frag} {B : Addr → Prop} {H : Hp} : ∀ {vs : List V} {d : D}, DwA K G B H vs [d] → ∃ v, vs = [v] ∧ Dw K G B H v d
  | [v], _, ⟨h, _⟩ => ⟨v, rfl, h⟩
  | [], _, h => h.elim
  | _ :: _ :: _, _, ⟨_, h⟩ => h.elim
theorem DwA.two {K : PySem.W.Frag} {B : Addr → Prop} {H : Hp} : ∀ {vs : List V} {d e : D}, DwA K G B H vs [d, e] → ∃ v u, vs = [v, u] ∧ Dw K G B H v d ∧ Dw K G B H u e
  | [v, u], _, _, ⟨h, h', _⟩ => ⟨v, u, rfl, h, h'⟩
  | [], _, _, h => h.elim
  | [_], _, _, ⟨_, h⟩ => h.elim
  | _ :: _ :: _ :: _, _, _, ⟨_, _, h⟩ => h.elim
/-- a sequence and its items -/
theorem Dw.seq {K : PySem.W.Frag} {B : Addr → Prop} {H : Hp} {v : V} {d : D} {l : List D} (h : Dw K G B H v d) (e : d = .lst l ∨ d = .tup l) : ∃ a xs, v = .ref a ∧ (SqL K H a xs ∨ SqT K H a xs) ∧ DvA K G (hide B H) xs l := by
  rcases e with rfl | rfl
  · obtain ⟨a, xs, h1, h2, h3⟩ := h.lstE
    exact ⟨a, xs, h1, .inl (SqL.of h2), h3⟩
  · obtain ⟨a, xs, h1, h2, _, h3⟩ := h.tupE
    exact ⟨a, xs, h1, .inr h2, h3⟩
def g1 {β : Type} (g : D → Option β) : List D → Option β
  | [d] => g d
  | _ => none
theorem g1_some {β : Type} {g : D → Option β} {ds : List D} {d : β} (h : g1 g ds = some d) : ∃ x, ds = [x] ∧ g x = some d := by
  unfold g1 at h
  split at h
  · exact ⟨_, rfl, h⟩
  · cases h
def g2 {β : Type} (g : D → D → Option β) : List D → Option β
  | [d, e] => g d e
  | _ => none
theorem g2_some {β : Type} {g : D → D → Option β} {ds : List D} {d : β} (h : g2 g ds = some d) : ∃ x y, ds = [x, y] ∧ g x y = some d := by
  unfold g2 at h
  split at h
  · exact ⟨_, _, rfl, h⟩
  · cases h
/-! ### len, int, abs, bool -/
def dLen : D → Option D
  | .tup l => some (.int l.length)
  | .lst l => some (.int l.length)
  | .scr l => some (.int l.length)
  | .str z => if okLen z.length then some (.int z.length) else none
  | _ => none
theorem cd_len : CallD X G (.builtin "len") (g1 dLen) := by
  refine ⟨_, call_len, fun B H nB vs ds d hv he Q h => ?_⟩
  obtain ⟨x, rfl, he'⟩ := g1_some he
  obtain ⟨v, rfl, hv'⟩ := hv.one
  clear he hv; have he := he'; have hv := hv'; clear he' hv'
  unfold dLen at he
  split at he
  · cases he
    obtain ⟨p, xs, rfl, z1, z2, r⟩ := hv.tupE
    exact ⟨_, _, rfl, .inr ⟨xs, z1, rfl⟩, h _ H (Ext.refl _) (by rw [r.length]; exact .int _)⟩
  · cases he
    obtain ⟨p, xs, rfl, z1, r⟩ := hv.lstE
    exact ⟨_, _, rfl, .inl ⟨xs, SqL.of z1, rfl⟩, h _ H (Ext.refl _) (by rw [r.length]; exact .int _)⟩
  · cases he
    obtain ⟨p, rfl, z1⟩ := hv.scrE
    exact ⟨_, _, rfl, .inl ⟨_, z1, rfl⟩, h _ H (Ext.refl _) (by rw [List.length_map]; exact .int _)⟩
  · split at he
    · rename_i c
      cases he
      cases hv.strE
      exact ⟨_, _, rfl, ⟨okLen_ok c, rfl⟩, h _ H (Ext.refl _) (.int _)⟩
    · cases he
  · cases he
def dInt : D → Option D
  | .int i => some (.int i)
  | .bl b => some (.int (if b = true then 1 else 0))
  | _ => none
theorem cd_int : CallD X G (.type "int") (g1 dInt) := by
  refine ⟨_, call_int1, fun B H nB vs ds d hv he Q h => ?_⟩
  obtain ⟨x, rfl, he'⟩ := g1_some he
  obtain ⟨v, rfl, hv'⟩ := hv.one
  clear he hv; have he := he'; have hv := hv'; clear he' hv'
  unfold dInt at he
  split at he
  · cases he
    cases hv.intE
    exact .inl ⟨_, rfl, h _ H (Ext.refl _) (.int _)⟩
  · cases he
    cases hv.blE
    exact .inr ⟨_, rfl, h _ H (Ext.refl _) (.int _)⟩
  · cases he
def dAbs : D → Option D
  | .int i => some (.int (if i < 0 then -i else i))
  | _ => none
theorem cd_abs : CallD X G (.builtin "abs") (g1 dAbs) := by
  refine ⟨_, call_abs, fun B H nB vs ds d hv he Q h => ?_⟩
  obtain ⟨x, rfl, he'⟩ := g1_some he
  obtain ⟨v, rfl, hv'⟩ := hv.one
  clear he hv; have he := he'; have hv := hv'; clear he' hv'
  unfold dAbs at he
  split at he
  · cases he
    cases hv.intE
    exact ⟨_, rfl, h _ H (Ext.refl _) (.int _)⟩
  · cases he
/-! ### list(), tuple() -/
def dItems : D → Option (List D)
  | .tup l => some l
  | .lst l => some l
  | .scr l => some (l.map D.int)
  | _ => none
theorem Dw.items {K : PySem.W.Frag} {B : Addr → Prop} {H : Hp} {v : V} {d : D} {l : List D} (h : Dw K G B H v d) (e : dItems d = some l) : ∃ a xs, v = .ref a ∧ (SqL K H a xs ∨ SqT K H a xs) ∧ DvA K G (hide B H) xs l := by
  unfold dItems at e
  split at e
  · cases e; exact h.seq (.inr rfl)
  · cases e; exact h.seq (.inl rfl)
  · cases e
    obtain ⟨p, rfl, z1⟩ := h.scrE
    exact ⟨p, _, rfl, .inl z1, DvA.ints _⟩
  · cases e
theorem cn_list : CallN X G (.type "list") (g1 dItems) := by
  refine ⟨_, call_list_of, fun B H nB vs ds d hv he Q h => ?_⟩
  obtain ⟨x, rfl, he'⟩ := g1_some he
  obtain ⟨v, rfl, hv'⟩ := hv.one
  clear he hv; have he := he'; have hv := hv'; clear he' hv'
  obtain ⟨a, xs, rfl, e1, e2⟩ := hv.items he
  exact ⟨a, xs, rfl, e1, fun p hp => h xs H (Ext.refl _) e2 p hp⟩
def dTuple : D → Option D := fun d => (dItems d).map .tup
theorem cd_tuple : CallD X G (.type "tuple") (g1 dTuple) := by
  refine ⟨_, call_tuple_of, fun B H nB vs ds d hv he Q h => ?_⟩
  obtain ⟨x, rfl, he'⟩ := g1_some he
  obtain ⟨v, rfl, hv'⟩ := hv.one
  clear he hv; have he := he'; have hv := hv'; clear he' hv'
  unfold dTuple at he
  cases q : dItems x with
  | none => rw [q] at he; cases he
  | some l =>
    rw [q] at he
    cases he
    cases x with
    | tup l' =>
      cases q
      obtain ⟨p, xs, rfl, z1, z2, r⟩ := hv.tupE
      exact ⟨p, xs, rfl, .inr ⟨z1, h _ H (Ext.refl _) (.tup z2 r)⟩⟩
    | lst l' =>
      cases q
      obtain ⟨p, xs, rfl, z1, r⟩ := hv.lstE
      refine ⟨p, xs, rfl, .inl ⟨SqL.of z1, fun m hm => ?_⟩⟩
      obtain ⟨x1, x2⟩ := hide_new (o := .tup xs) nB hm
      exact h _ _ (Ext.new hm) (.tup (SqT.of x2) (r.mono x1))
    | scr l' =>
      cases q
      obtain ⟨p, rfl, z1⟩ := hv.scrE
      refine ⟨p, _, rfl, .inl ⟨z1, fun m hm => ?_⟩⟩
      obtain ⟨x1, x2⟩ := hide_new (o := .tup (l'.map V.int)) nB hm
      exact h _ _ (Ext.new hm) (.tup (SqT.of x2) (DvA.ints _))
    | _ => cases q
end
end Fy
end
section
set_option Elab.async false
set_option linter.all false
set_option maxRecDepth 100000
set_option maxHeartbeats 2000000
namespace Fy
open PySem PySem.Spec PyProof.Rows L2

/-- what a statement comes to -/
inductive Oc where
  | nx (S : SS)
  | rt (d : D) (S : SS)
  | rl (l : List D) (S : SS)
  | bk (S : SS)
  | ct (S : SS)
  | ex (e : Ex) (S : SS)
  | bad
structure Po where
  nx : SS → Prop
  rt : D → SS → Prop
  rl : List D → SS → Prop
  bk : SS → Prop
  ct : SS → Prop
  ex : Ex → SS → Prop
def Oc.post (o : Oc) (P : Po) : Prop := match o with
  | .nx S => P.nx S
  | .rt d S => P.rt d S
  | .rl l S => P.rl l S
  | .bk S => P.bk S
  | .ct S => P.ct S
  | .ex e S => P.ex e S
  | .bad => False
structure Po.Le (P P' : Po) : Prop where
  nx : ∀ S, P.nx S → P'.nx S
  rt : ∀ d S, P.rt d S → P'.rt d S
  rl : ∀ l S, P.rl l S → P'.rl l S
  bk : ∀ S, P.bk S → P'.bk S
  ct : ∀ S, P.ct S → P'.ct S
  ex : ∀ e S, P.ex e S → P'.ex e S
theorem Oc.post_mono {o : Oc} {P P' : Po} (h : o.post P) (l : P.Le P') : o.post P' := by
  cases o with
  | nx S => exact l.nx S h
  | rt d S => exact l.rt d S h
  | rl d S => exact l.rl d S h
  | bk S => exact l.bk S h
  | ct S => exact l.ct S h
  | ex e S => exact l.ex e S h
  | bad => exact h
abbrev SF := SS → Oc
def R.oc {β : Type} (r : R β) (k : β → SS → Oc) : Oc := match r with
  | .ok a S => k a S
  | .ex e S => .ex e S
  | .bad => .bad
theorem R.post_oc {β : Type} {r : R β} {k : β → SS → Oc} {P : Po} : (r.oc k).post P = r.post (fun a S => (k a S).post P) P.ex := by
  cases r <;> rfl

section
variable (X : Cx) (G : Kit) (W : WX) (io : List Nat)
/-- behind a statement -/
structure AftS (F : Fm) (α : Nat → Addr) (S : SS) (H : Hp) (α' : Nat → Addr) (S' : SS) (σ' : L2.St) (H' : Hp) : Prop where
  rl : Rl X.K G F α' S' σ' H'
  ext : Ext (PH F α S H) (PH F α' S' H')
  dom : ∀ a, H' a = none → H a = none
/-- a list that is handed out -/
structure Out (F : Fm) (α : Nat → Addr) (S : SS) (H : Hp) (α' : Nat → Addr) (S' : SS) (σ' : L2.St) (H' : Hp) (p : Addr) (vs : List V) (l : List D) : Prop where
  aft : AftS X G (F.with p) α S H α' S' σ' H'
  base : F.Hb p = none
  out : ¬ F.O p
  own : ∀ i : Nat, isOw S' i → α' i ≠ p
  at_ : H' p = some (.lst vs)
  dv : DvA X.K G (PH (F.with p) α' S' H') vs l
def Po.of (E : Ends) (F : Fm) (α : Nat → Addr) (S : SS) (H : Hp) : Po where
  nx S' := ∀ α' σ' H', AftS X G F α S H α' S' σ' H' → E.nx σ' H'
  rt d S' := ∀ v α' σ' H', AftS X G F α S H α' S' σ' H' → Dv X.K G (PH F α' S' H') v d → E.rt v H'
  rl l S' := ∀ p vs α' σ' H', Out X G F α S H α' S' σ' H' p vs l → E.rt (.ref p) H'
  bk S' := ∀ α' σ' H', AftS X G F α S H α' S' σ' H' → E.bk σ' H'
  ct S' := ∀ α' σ' H', AftS X G F α S H α' S' σ' H' → E.ct σ' H'
  ex e S' := ∀ cls dx α' σ' H', AftS X G F α S H α' S' σ' H' → ExOk X.K G (PH F α' S' H') e cls dx → W cls dx σ' H'
def JS (st : Stmt) (f : SF) : Prop := ∃ t, PS X st t ∧ ∀ F α S σ H, F.I.map (·.1) = io → Rl X.K G F α S σ H → ∀ E : Ends, (f S).post (Po.of X G W E F α S H) → t E σ H
def JB (st : List Stmt) (f : SF) : Prop := ∃ t, PSs X st t ∧ ∀ F α S σ H, F.I.map (·.1) = io → Rl X.K G F α S σ H → ∀ E : Ends, (f S).post (Po.of X G W E F α S H) → t E σ H
end
section
variable {X : Cx} {G : Kit} {W : WX} {io : List Nat} {F : Fm} {α α1 α' : Nat → Addr} {S S' S1 S2 : SS} {σ σ1 σ' : L2.St} {H H' H1 H2 : Hp}
theorem AftS.refl (r : Rl X.K G F α S σ H) : AftS X G F α S H α S σ H := ⟨r, Ext.refl _, fun _ h => h⟩
theorem Aft.s (a : Aft X G F α S σ H S1 H1) : AftS X G F α S H α S1 σ H1 := ⟨a.1, a.2, a.3⟩
theorem AftS.trans (a : AftS X G F α S H α1 S1 σ1 H1) (b : AftS X G F α1 S1 H1 α' S' σ' H') : AftS X G F α S H α' S' σ' H' := ⟨b.1, a.2.trans b.2, fun x h => a.3 x (b.3 x h)⟩
/-- what stands visibly, seen with one more foreign place -/
theorem ext_with {p : Addr} (e : Ext (PH F α S H) (PH F α1 S1 H1)) (hp : H p = none) (dom : True) : Ext (PH (F.with p) α S H) (PH F α1 S1 H1) := fun a o z => e a o (with_ext a o z)
theorem Po.step {E : Ends} (a : AftS X G F α S H α1 S1 σ1 H1) : (Po.of X G W E F α S H).Le (Po.of X G W E F α1 S1 H1) where
  nx S' h α' σ' H' b := h α' σ' H' (a.trans b)
  rt d S' h v α' σ' H' b dv := h v α' σ' H' (a.trans b) dv
  rl l S' h p vs α' σ' H' b := h p vs α' σ' H' ⟨⟨b.aft.rl, fun x o z => by
      obtain ⟨n, z⟩ := hide_some z
      have n1 : ¬ Msk F α S x := fun m => n (msk_with.mpr (.inl m))
      have n2 : x ≠ p := fun m => n (msk_with.mpr (.inr m))
      obtain ⟨n3, z3⟩ := hide_some (a.2 x o ((hide_at n1).trans z))
      refine b.aft.ext x o ((hide_at fun m => ?_).trans z3)
      rcases msk_with.mp m with m | m
      · exact n3 m
      · exact n2 m, fun x z => a.3 x (b.aft.dom x z)⟩, b.base, b.out, b.own, b.at_, b.dv⟩
  bk S' h α' σ' H' b := h α' σ' H' (a.trans b)
  ct S' h α' σ' H' b := h α' σ' H' (a.trans b)
  ex e S' h cls dx α' σ' H' b x := h cls dx α' σ' H' (a.trans b) x
theorem Po.exS {E : Ends} {e : Ex} (h : (Po.of X G W E F α S H).ex e S1) : Er X G W F α S σ H e S1 := fun cls dx H' a x => h cls dx α σ H' a.s x

/-! ### blocks -/
def sNil : SF := fun S => .nx S
def sSeq (f g : SF) : SF := fun S => match f S with
  | .nx S1 => g S1
  | o => o
theorem jb_nil : JB X G W io [] sNil := ⟨_, pss_nil, fun F α S σ H _ r E h => h α σ H (AftS.refl r)⟩
theorem jb_one {st : Stmt} {f : SF} (h : JS X G W io st f) : JB X G W io [st] f := by
  obtain ⟨t, p, q⟩ := h
  exact ⟨t, pss_one p, q⟩
theorem jb_cons {st : Stmt} {rest : List Stmt} {f g : SF} (h : JS X G W io st f) (hr : JB X G W io rest g) : JB X G W io (st :: rest) (sSeq f g) := by
  obtain ⟨t, p, q⟩ := h
  obtain ⟨u, pu, qu⟩ := hr
  refine ⟨_, pss_cons p pu, fun F α S σ H hI r E h => ?_⟩
  show t { nx := u E, rt := E.rt, bk := E.bk, ct := E.ct } σ H
  refine q F α S σ H hI r _ ?_
  unfold sSeq at h
  revert h
  cases f S with
  | nx S1 =>
    intro h α1 σ1 H1 a
    exact qu F α1 S1 σ1 H1 hI a.1 E (Oc.post_mono (show (g S1).post _ from h) (Po.step a))
  | rt d S1 => exact id
  | rl l S1 => exact id
  | bk S1 => exact id
  | ct S1 => exact id
  | ex e S1 => exact id
  | bad => exact id
/-! ### slots that change -/
theorem own_set {i j : Nat} {d : D} (hi : i < S.length) (h : isOw (S.set i (.va d)) j) : isOw S j ∧ j ≠ i := by
  obtain ⟨m, e⟩ := h
  by_cases hj : i = j
  · subst hj
    rw [List.getElem?_set_self hi] at e
    cases e
  · rw [List.getElem?_set_ne hj] at e
    exact ⟨⟨m, e⟩, fun z => hj z.symm⟩
theorem lt_of_not_un {i : Nat} {sv : SV} (h : S[i]? = some sv) : i < S.length := (List.getElem?_eq_some_iff.mp h).1
theorem not_pin {p : Nat × Addr} {i : Nat} (hI : F.I.map (·.1) = io) (hi : io.contains i = false) (hp : p ∈ F.I) : i ≠ p.1 := by
  rintro rfl
  have : io.contains p.1 = true := by
    rw [← hI]
    simp only [List.contains_eq_mem, List.mem_map, decide_eq_true_eq]
    exact ⟨p, hp, rfl⟩
  rw [this] at hi
  cases hi
theorem Rl.setVa (hI : F.I.map (·.1) = io) (r : Rl X.K G F α S σ H) {i : Nat} {v : V} {d : D} (dv : Dv X.K G (PH F α S H) v d) (hl : i < S.length) (hi : io.contains i = false) :
    AftS X G F α S H α (S.set i (.va d)) (σ.set i (some v)) H := by
  have msk : ∀ a, Msk F α (S.set i (.va d)) a → Msk F α S a := fun a z => by
    rcases z with z | ⟨j, z, e⟩
    · exact .inl z
    · exact .inr ⟨j, (own_set hl z).1, e⟩
  have q : Ext (PH F α S H) (PH F α (S.set i (.va d)) H) := fun a o z => by
    obtain ⟨n, z⟩ := hide_some z
    exact (hide_at fun w => n (msk a w)).trans z
  refine ⟨⟨by rw [List.length_set, List.length_set]; exact r.len, fun j e h => ?_, fun j m e => ?_, fun j k hj hk e => r.inj j k (own_set hl hj).1 (own_set hl hk).1 e, r.ext, r.ob, fun p hp => ?_⟩, q, fun _ h => h⟩
  · by_cases hj : i = j
    · subst hj
      rw [List.getElem?_set_self hl] at h
      cases h
      refine ⟨v, List.getElem?_set_self ?_, dv.mono q⟩
      rw [r.len]; exact hl
    · rw [List.getElem?_set_ne hj] at h
      obtain ⟨w, h1, h2⟩ := r.va j e h
      exact ⟨w, (List.getElem?_set_ne hj).trans h1, h2.mono q⟩
  · have hj := (own_set hl ⟨m, e⟩).2
    rw [List.getElem?_set_ne (Ne.symm hj)] at e
    obtain ⟨g1, g2, g3, us, g4, g5⟩ := r.ow j m e
    exact ⟨(List.getElem?_set_ne (Ne.symm hj)).trans g1, g2, g3, us, g4, g5.mono q⟩
  · obtain ⟨p1, m, p2⟩ := r.pin p hp
    exact ⟨p1, m, (List.getElem?_set_ne (not_pin hI hi hp)).trans p2⟩
/-- a new list gets a slot -/
theorem Rl.setOw (hI : F.I.map (·.1) = io) (r : Rl X.K G F α S σ H) {i : Nat} {p : Addr} {vs : List V} {ds : List D} (hp : H p = none) (hn : ∀ j : Nat, isOw S1 j → α j ≠ p) (a : Aft X G (F.with p) α S σ H S1 H1) (hv : H1 p = some (.lst vs)) (dv : DvA X.K G (PH (F.with p) α S1 H1) vs ds) (hl : i < S1.length) (hi : io.contains i = false) :
    AftS X G F α S H (fun j => if j = i then p else α j) (S1.set i (.ow ds)) (σ.set i (some (.ref p))) H1 := by
  have own : ∀ j, isOw (S1.set i (.ow ds)) j → j ≠ i → isOw S1 j := fun j ⟨m, e⟩ hj => by
    rw [List.getElem?_set_ne (Ne.symm hj)] at e
    exact ⟨m, e⟩
  have msk : ∀ b, Msk F (fun j => if j = i then p else α j) (S1.set i (.ow ds)) b → Msk (F.with p) α S1 b := fun b z => by
    rcases z with z | ⟨j, z, e⟩
    · exact .inl (.inl z)
    · by_cases hj : j = i
      · simp only [hj, if_true] at e
        exact .inl (.inr e.symm)
      · simp only [hj, if_false] at e
        exact .inr ⟨j, own j z hj, e⟩
  have q : Ext (PH (F.with p) α S1 H1) (PH F (fun j => if j = i then p else α j) (S1.set i (.ow ds)) H1) := fun b o z => by
    obtain ⟨n, z⟩ := hide_some z
    exact (hide_at fun w => n (msk b w)).trans z
  have r1 := a.1
  refine ⟨⟨by rw [List.length_set, List.length_set]; exact r1.len, fun j e h => ?_, fun j m e => ?_, fun j k hj hk e => ?_, r1.ext, fun b z => r1.ob b (.inl z), fun c hc => ?_⟩, fun b o z => ?_, a.3⟩
  · have hj : i ≠ j := fun hj => by
      subst hj
      rw [List.getElem?_set_self hl] at h
      cases h
    rw [List.getElem?_set_ne hj] at h
    obtain ⟨w, h1, h2⟩ := r1.va j e h
    exact ⟨w, (List.getElem?_set_ne hj).trans h1, h2.mono q⟩
  · by_cases hj : i = j
    · subst hj
      rw [List.getElem?_set_self hl] at e
      cases e
      simp only [if_true]
      refine ⟨List.getElem?_set_self (by rw [r1.len]; exact hl), fun z => r.ob p z hp, r.freshB hp, vs, hv, dv.mono q⟩
    · rw [List.getElem?_set_ne hj] at e
      obtain ⟨g1, g2, g3, us, g4, g5⟩ := r1.ow j m e
      simp only [Ne.symm hj, if_false]
      exact ⟨(List.getElem?_set_ne hj).trans g1, fun z => g2 (.inl z), g3, us, g4, g5.mono q⟩
  · by_cases h1 : j = i
    · by_cases h2 : k = i
      · rw [h1, h2]
      · simp only [h1, h2, if_true, if_false] at e
        exact (hn k (own k hk h2) e.symm).elim
    · by_cases h2 : k = i
      · simp only [h1, h2, if_true, if_false] at e
        exact (hn j (own j hj h1) e).elim
      · simp only [h1, h2, if_false] at e
        exact r1.inj j k (own j hj h1) (own k hk h2) e
  · obtain ⟨p1, m, p2⟩ := r1.pin c hc
    have hne := not_pin hI hi hc
    refine ⟨?_, m, (List.getElem?_set_ne hne).trans p2⟩
    simp only [Ne.symm hne, if_false]
    exact p1
  · obtain ⟨n, z⟩ := hide_some z
    have nb : b ≠ p := fun e => by rw [e, hp] at z; cases z
    refine q b o (a.2 b o ((hide_at fun m => ?_).trans z))
    rcases msk_with.mp m with m | m
    · exact n m
    · exact nb m
/-- a list of one's own is changed where it stands -/
theorem Rl.inPlace (r : Rl X.K G F α S σ H) {i : Nat} {l : List D} (h : S[i]? = some (SV.ow l)) {ws : List V} {es : List D} (dv : DvA X.K G (PH F α S H) ws es) : Aft X G F α S σ H (S.set i (.ow es)) (upd H (α i) (.lst ws)) := by
  have hl := lt_of_not_un h
  have own : ∀ j, isOw (S.set i (.ow es)) j ↔ isOw S j := fun j => by
    by_cases hj : i = j
    · subst hj
      constructor
      · intro _; exact ⟨l, h⟩
      · intro _; exact ⟨es, List.getElem?_set_self hl⟩
    · unfold isOw
      rw [List.getElem?_set_ne hj]
  have msk : ∀ a, Msk F α (S.set i (.ow es)) a ↔ Msk F α S a := fun a => by
    constructor
    · rintro (z | ⟨j, z, e⟩)
      · exact .inl z
      · exact .inr ⟨j, (own j).mp z, e⟩
    · rintro (z | ⟨j, z, e⟩)
      · exact .inl z
      · exact .inr ⟨j, (own j).mpr z, e⟩
  obtain ⟨h1, h2, h3, vs, h4, h5⟩ := r.ow i l h
  have q : Ext (PH F α S H) (PH F α (S.set i (.ow es)) (upd H (α i) (.lst ws))) := fun a o z => by
    obtain ⟨n, z⟩ := hide_some z
    have na : a ≠ α i := fun e => n (.inr ⟨i, ⟨l, h⟩, e.symm⟩)
    exact (hide_at fun w => n ((msk a).mp w)).trans ((upd_ne na).trans z)
  refine ⟨⟨by rw [List.length_set]; exact r.len, fun j d e => ?_, fun j m e => ?_, fun j k hj hk e => r.inj j k ((own j).mp hj) ((own k).mp hk) e, fun a o z => ?_, fun a z => ?_, fun p hp => ?_⟩, q, fun a z => ?_⟩
  · have hj : i ≠ j := fun hj => by
      subst hj
      rw [List.getElem?_set_self hl] at e
      cases e
    rw [List.getElem?_set_ne hj] at e
    obtain ⟨w, e1, e2⟩ := r.va j d e
    exact ⟨w, e1, e2.mono q⟩
  · by_cases hj : i = j
    · subst hj
      rw [List.getElem?_set_self hl] at e
      cases e
      exact ⟨h1, h2, h3, ws, upd_same, dv.mono q⟩
    · rw [List.getElem?_set_ne hj] at e
      obtain ⟨g1, g2, g3, us, g4, g5⟩ := r.ow j m e
      have na : α j ≠ α i := fun z => hj (r.inj j i ⟨m, e⟩ ⟨l, h⟩ z).symm
      exact ⟨g1, g2, g3, us, (upd_ne na).trans g4, g5.mono q⟩
  · have na : a ≠ α i := fun e => by rw [e, h3] at z; cases z
    exact (upd_ne na).trans (r.ext a o z)
  · by_cases e : a = α i
    · rw [e, upd_same]; intro w; cases w
    · rw [upd_ne e]; exact r.ob a z
  · obtain ⟨p1, p2⟩ := r.pin p hp
    exact ⟨p1, (own _).mpr p2⟩
  · by_cases e : a = α i
    · rw [e, upd_same] at z; cases z
    · rw [upd_ne e] at z; exact z
end
end Fy
end
section
set_option Elab.async false
set_option linter.all false
set_option maxRecDepth 100000
set_option maxHeartbeats 2000000
namespace Fy
open PySem PySem.Spec PyProof.Rows L2
section
variable {X : Cx} {G : Kit} {W : WX} {io : List Nat} {F : Fm} {α α1 α' : Nat → Addr} {S S' S1 S2 : SS} {σ σ1 σ' : L2.St} {H H' H1 H2 : Hp}
/-! ### targets -/
abbrev GF := D → SS → Option SS
/-- slots besides those told are as they were -/
structure Off (ts : List Nat) (σ σ' : L2.St) : Prop where
  len : σ'.length = σ.length
  at_ : ∀ j : Nat, j ∉ ts → σ'[j]? = σ[j]?
theorem Off.refl {ts : List Nat} : Off ts σ σ := ⟨rfl, fun _ _ => rfl⟩
theorem Off.trans {ts us : List Nat} {σ2 : L2.St} (a : Off ts σ σ1) (b : Off us σ1 σ2) : Off (ts ++ us) σ σ2 := ⟨b.1.trans a.1, fun j h => (b.2 j fun z => h (List.mem_append_right _ z)).trans (a.2 j fun z => h (List.mem_append_left _ z))⟩
def JG (X : Cx) (G : Kit) (io : List Nat) (tg : Expr) (ts : List Nat) (f : GF) : Prop := ∃ g, PG X tg g ∧ ∀ F α S σ H v d S', F.I.map (·.1) = io → Rl X.K G F α S σ H → Dv X.K G (PH F α S H) v d → f d S = some S' → ∀ Q : L2.St → Hp → Prop,
  (∀ σ', AftS X G F α S H α S' σ' H → Off ts σ σ' → Q σ' H) → g v σ H Q
abbrev GsF := List D → SS → Option SS
def JGs (X : Cx) (G : Kit) (io : List Nat) (tg : List Expr) (ts : List Nat) (f : GsF) : Prop := ∃ g, PGs X tg g ∧ ∀ F α S σ H vs ds S', F.I.map (·.1) = io → Rl X.K G F α S σ H → DvA X.K G (PH F α S H) vs ds → f ds S = some S' → ∀ Q : L2.St → Hp → Prop,
  (∀ σ', AftS X G F α S H α S' σ' H → Off ts σ σ' → Q σ' H) → g vs σ H Q
def gSlot (io : List Nat) (i : Nat) : GF := fun d S => if i < S.length ∧ io.contains i = false then some (S.set i (.va d)) else none
theorem jg_name {i : Nat} {x : Str} {pos : Pos} (hn : X.N.Nodup) (hN : X.N[i]? = some x) (hl : L2.Loc X.env.scope x) (hf : X.fn x = true ∨ List.lookup x X.env.scope.names = some NameKind.local := by exact .inl rfl) : JG X G io (.Name x pos) [i] (gSlot io i) := by
  refine ⟨_, pg_name hn hN hl hf, fun F α S σ H v d S' hI r dv h Q q => ?_⟩
  unfold gSlot at h
  split at h
  · rename_i c
    cases h
    refine q _ (r.setVa hI dv c.1 c.2) ⟨List.length_set, fun j hj => ?_⟩
    exact List.getElem?_set_ne fun z => hj (by rw [z]; exact List.mem_singleton.mpr rfl)
  · cases h
def gsNil : GsF := fun ds S => match ds with
  | [] => some S
  | _ => none
def gsCons (f : GF) (g : GsF) : GsF := fun ds S => match ds with
  | d :: r => (f d S).bind fun S1 => g r S1
  | [] => none
theorem jgs_nil : JGs X G io [] [] gsNil := by
  refine ⟨_, pgs_nil, fun F α S σ H vs ds S' hI r dv h Q q => ?_⟩
  cases ds with
  | nil => cases h; cases dv; exact ⟨rfl, q σ (AftS.refl r) Off.refl⟩
  | cons d r => cases h
theorem jgs_cons {e : Expr} {es : List Expr} {ts us : List Nat} {f : GF} {g : GsF} (h : JG X G io e ts f) (hr : JGs X G io es us g) (hm : List.map (fun x => x.snd) (assignEach (e :: es) X.env) = assign e X.env :: List.map (fun x => x.snd) (assignEach es X.env) := by rfl) : JGs X G io (e :: es) (ts ++ us) (gsCons f g) := by
  obtain ⟨t, p, q⟩ := h
  obtain ⟨u, pu, qu⟩ := hr
  refine ⟨_, pgs_cons p pu hm, fun F α S σ H vs ds S' hI r dv h Q w => ?_⟩
  cases ds with
  | nil => cases h
  | cons d rest =>
    cases dv with
    | cons d1 d2 =>
      obtain ⟨S1, e1, e2⟩ := bind_some h
      exact ⟨_, _, rfl, q F α S σ H _ d S1 hI r d1 e1 _ fun σ1 a1 o1 => qu F α S1 σ1 H _ rest S' hI a1.1 (d2.mono a1.2) e2 _ fun σ2 a2 o2 => w σ2 (a1.trans a2) (o1.trans o2)⟩
def gTupD (n : Nat) (g : GsF) : GF := fun d S => match d with
  | .tup l => if l.length = n then g l S else none
  | _ => none
theorem jg_tup {es : List Expr} {ts : List Nat} {g : GsF} {k n : Nat} {pos : Pos} (hc : X.calm = true) (h : JGs X G io es ts g) (h1 : (assignEach es X.env).length = n := by rfl) (h2 : List.findIdx? (fun x => x.fst) (assignEach es X.env) = none := by rfl) : JG X G io (.Tuple es k pos) ts (gTupD n g) := by
  obtain ⟨t, p, q⟩ := h
  refine ⟨_, pg_tup hc p h1 h2, fun F α S σ H v d S' hI r dv h Q w => ?_⟩
  cases d with
  | tup l =>
    simp only [gTupD] at h
    split at h
    · rename_i c
      obtain ⟨a, xs, rfl, z1, z2, z3⟩ := dv.tupE
      exact ⟨a, xs, rfl, z1, by rw [z3.length]; exact c, q F α S σ H xs l S' hI r z3 h Q w⟩
    · cases h
  | _ => cases h

/-! ### statements -/
def sAsg (f : EF) (g : GF) : SF := fun S => (f S).oc fun d S1 => match g d S1 with
  | some S2 => .nx S2
  | none => .bad
theorem js_asg {tg e : Expr} {ts : List Nat} {f : EF} {g : GF} {pos : Pos} (he : JE X G W io e f) (hg : JG X G io tg ts g) (h1 : swapsWithSole [tg] e pos.line X.env = pure false := by rfl) (h2 : swappedStores [tg] e X.env = pure none := by rfl) (h3 : List.map (fun x => x.snd) (assignEach [tg] X.env) = [assign tg X.env] := by rfl) : JS X G W io (.Assign [tg] e pos) (sAsg f g) := by
  obtain ⟨t, p, q⟩ := he
  obtain ⟨u, pu, qu⟩ := hg
  refine ⟨_, ps_asg p pu h1 h2 h3, fun F α S σ H hI r E h => ?_⟩
  unfold sAsg at h
  rw [R.post_oc] at h
  refine q F α S σ H hI r _ (R.post_mono h (fun d S1 h1 v H1 a1 d1 => ?_) fun e S1 z => Po.exS z)
  cases c : g d S1 with
  | none => rw [c] at h1; exact h1.elim
  | some S2 =>
    rw [c] at h1
    exact qu F α S1 σ H1 v d S2 hI a1.1 d1 c _ fun σ2 a2 _ => h1 α σ2 H1 (a1.s.trans a2)
/-- x = e, e anything -/
theorem js_set {i : Nat} {x : Str} {e : Expr} {f : EF} {p1 pos : Pos} (he : JE X G W io e f) (hn : X.N.Nodup) (hN : X.N[i]? = some x) (hl : L2.Loc X.env.scope x) (h1 : swapsWith e (some (.Name x p1)) pos.line X.env = pure false := by rfl) (h2 : X.fn x = true ∨ List.lookup x X.env.scope.names = some NameKind.local := by exact .inl rfl) : JS X G W io (.Assign [.Name x p1] e pos) (sAsg f (gSlot io i)) := by
  obtain ⟨t, p, q⟩ := he
  refine ⟨_, ps_set hn hN hl p h1 h2, fun F α S σ H hI r E h => ?_⟩
  unfold sAsg at h
  rw [R.post_oc] at h
  refine q F α S σ H hI r _ (R.post_mono h (fun d S1 h1 v H1 a1 d1 => ?_) fun e S1 z => Po.exS z)
  cases c : gSlot io i d S1 with
  | none => rw [c] at h1; exact h1.elim
  | some S2 =>
    rw [c] at h1
    unfold gSlot at c
    split at c
    · rename_i c'
      cases c
      exact h1 α _ H1 (a1.s.trans (a1.1.setVa hI d1 c'.1 c'.2))
    · cases c
/-- x = a new list -/
def sOwn (io : List Nat) (i : Nat) (f : AF) : SF := fun S => (f S).oc fun ds S1 => if i < S1.length ∧ io.contains i = false then .nx (S1.set i (.ow ds)) else .bad
theorem js_own {i : Nat} {x : Str} {e : Expr} {f : AF} {p1 pos : Pos} (he : JL X G W io e f) (hn : X.N.Nodup) (hN : X.N[i]? = some x) (hl : L2.Loc X.env.scope x) (h1 : swapsWith e (some (.Name x p1)) pos.line X.env = pure false := by rfl) (h2 : X.fn x = true ∨ List.lookup x X.env.scope.names = some NameKind.local := by exact .inl rfl) : JS X G W io (.Assign [.Name x p1] e pos) (sOwn io i f) := by
  obtain ⟨t, p, q⟩ := he
  refine ⟨_, ps_set hn hN hl p h1 h2, fun F α S σ H hI r E h => ?_⟩
  unfold sOwn at h
  rw [R.post_oc] at h
  refine q F α S σ H hI r _ (R.post_mono h (fun ds S1 h1 p vs H1 hp hn a1 hv d1 => ?_) fun e S1 z => Po.exS z)
  split at h1
  · rename_i c
    exact h1 _ _ H1 (r.setOw hI hp hn a1 hv d1 c.1 c.2)
  · exact h1.elim
def sExpr (f : EF) : SF := fun S => (f S).oc fun _ S1 => .nx S1
theorem js_expr {e : Expr} {f : EF} {pos : Pos} (he : JE X G W io e f) (h1 : swapsWith e none pos.line X.env = pure false := by rfl) : JS X G W io (.Expr e pos) (sExpr f) := by
  obtain ⟨t, p, q⟩ := he
  refine ⟨_, ps_expr p h1, fun F α S σ H hI r E h => ?_⟩
  unfold sExpr at h
  rw [R.post_oc] at h
  exact q F α S σ H hI r _ (R.post_mono h (fun d S1 h1 v H1 a1 d1 => h1 α σ H1 a1.s) fun e S1 z => Po.exS z)
def sRet (f : EF) : SF := fun S => (f S).oc fun d S1 => .rt d S1
theorem js_ret {e : Expr} {f : EF} {pos : Pos} (he : JE X G W io e f) : JS X G W io (.Return (some e) pos) (sRet f) := by
  obtain ⟨t, p, q⟩ := he
  refine ⟨_, ps_ret p, fun F α S σ H hI r E h => ?_⟩
  unfold sRet at h
  rw [R.post_oc] at h
  exact q F α S σ H hI r _ (R.post_mono h (fun d S1 h1 v H1 a1 d1 => h1 v α σ H1 a1.s d1) fun e S1 z => Po.exS z)
/-- return a new list, for the caller to change -/
def sRetL (f : AF) : SF := fun S => (f S).oc fun d S1 => .rl d S1
theorem js_retL {e : Expr} {f : AF} {pos : Pos} (he : JL X G W io e f) : JS X G W io (.Return (some e) pos) (sRetL f) := by
  obtain ⟨t, p, q⟩ := he
  refine ⟨_, ps_ret p, fun F α S σ H hI r E h => ?_⟩
  unfold sRetL at h
  rw [R.post_oc] at h
  refine q F α S σ H hI r _ (R.post_mono h (fun ds S1 h1 p vs H1 hp hn a1 hv d1 => ?_) fun e S1 z => Po.exS z)
  exact h1 p vs α σ H1 ⟨⟨a1.1, a1.2, a1.3⟩, r.freshB hp, fun z => r.ob p z hp, hn, hv, d1⟩
def sRetN : SF := fun S => .rt .non S
theorem js_retN {pos : Pos} : JS X G W io (.Return none pos) sRetN := ⟨_, ps_retN, fun F α S σ H hI r E h => h _ α σ H (AftS.refl r) .non⟩
def sBk : SF := fun S => .bk S
theorem js_bk {pos : Pos} : JS X G W io (.Break pos) sBk := ⟨_, ps_break, fun F α S σ H hI r E h => h α σ H (AftS.refl r)⟩
def sCt : SF := fun S => .ct S
theorem js_ct {pos : Pos} : JS X G W io (.Continue pos) sCt := ⟨_, ps_continue, fun F α S σ H hI r E h => h α σ H (AftS.refl r)⟩
theorem js_pass {pos : Pos} : JS X G W io (.Pass pos) sNil := ⟨_, ps_pass, fun F α S σ H hI r E h => h α σ H (AftS.refl r)⟩
def sIf (c : TF) (a b : SF) : SF := fun S => (c S).oc fun k S1 => match k with
  | true => a S1
  | false => b S1
theorem js_if {c : Expr} {a b : List Stmt} {fc : TF} {fa fb : SF} {pos : Pos} (hc : JT X G W io c fc) (ha : JB X G W io a fa) (hb : JB X G W io b fb) : JS X G W io (.If c a b pos) (sIf fc fa fb) := by
  obtain ⟨tc, pc, qc⟩ := hc
  obtain ⟨ta, pa, qa⟩ := ha
  obtain ⟨tb, pb, qb⟩ := hb
  refine ⟨_, ps_if pc pa pb, fun F α S σ H hI r E h => ?_⟩
  unfold sIf at h
  rw [R.post_oc] at h
  refine qc F α S σ H hI r _ (R.post_mono h (fun k S1 h1 H1 a1 => ?_) fun e S1 z => Po.exS z)
  cases k with
  | true =>
    show if true = true then _ else _
    rw [if_pos rfl]
    exact qa F α S1 σ H1 hI a1.1 E (Oc.post_mono h1 (Po.step a1.s))
  | false =>
    show if false = true then _ else _
    rw [if_neg Bool.false_ne_true]
    exact qb F α S1 σ H1 hI a1.1 E (Oc.post_mono h1 (Po.step a1.s))
/-! ### while -/
def Oc.loop (o : Oc) (k : SF) : Oc := match o with
  | .nx S => k S
  | .ct S => k S
  | .bk S => .nx S
  | .rt d S => .rt d S
  | .rl l S => .rl l S
  | .ex e S => .ex e S
  | .bad => .bad
def sWhile (c : TF) (b : SF) : Nat → SF
  | 0 => fun _ => .bad
  | n + 1 => fun S => (c S).oc fun k S1 => match k with
    | true => (b S1).loop (sWhile c b n)
    | false => .nx S1
theorem js_while {c : Expr} {body : List Stmt} {fc : TF} {fb : SF} {pos : Pos} (n : Nat) (po : PassesOwn (model X.prog X.w) X.A X.env X.xe) (hc : JT X G W io c fc) (hb : JB X G W io body fb) : JS X G W io (.While c body [] pos) (sWhile fc fb n) := by
  obtain ⟨tc, pc, qc⟩ := hc
  obtain ⟨tb, pb, qb⟩ := hb
  refine ⟨_, ps_while po pc pb, fun F α S σ H hI r E h => ?_⟩
  refine ⟨fun m σ1 H1 => ∃ α1 S1, AftS X G F α S H α1 S1 σ1 H1 ∧ (sWhile fc fb m S1).post (Po.of X G W E F α S H), ⟨n, α, S, AftS.refl r, h⟩, fun m σ1 H1 ⟨α1, S1, a1, h1⟩ => ?_⟩
  cases m with
  | zero => exact h1.elim
  | succ m =>
    unfold sWhile at h1
    rw [R.post_oc] at h1
    refine qc F α1 S1 σ1 H1 hI a1.1 _ (R.post_mono h1 (fun k S2 h2 H2 a2 => ?_) fun e S1 z => Po.exS ((Po.step a1).ex _ _ z))
    have A2 := a1.trans a2.s
    cases k with
    | false =>
      show if false = true then _ else _
      rw [if_neg Bool.false_ne_true]
      exact h2 α1 σ1 H2 A2
    | true =>
      show if true = true then _ else _
      rw [if_pos rfl]
      refine ⟨fun σ3 H3 => ∃ α3 S3, AftS X G F α S H α3 S3 σ3 H3 ∧ (sWhile fc fb m S3).post (Po.of X G W E F α S H), fun σ3 H3 q => ⟨m, Nat.lt_succ_self m, q⟩, ?_⟩
      refine qb F α1 S2 σ1 H2 hI a2.1 _ ?_
      revert h2
      cases fb S2 with
      | nx S3 => exact fun h3 α3 σ3 H3 a3 => ⟨α3, S3, A2.trans a3, h3⟩
      | ct S3 => exact fun h3 α3 σ3 H3 a3 => ⟨α3, S3, A2.trans a3, h3⟩
      | bk S3 => exact fun h3 α3 σ3 H3 a3 => h3 α3 σ3 H3 (A2.trans a3)
      | rt d S3 => exact fun h3 => (Po.step A2).rt d S3 h3
      | rl l S3 => exact fun h3 => (Po.step A2).rl l S3 h3
      | ex e S3 => exact fun h3 => (Po.step A2).ex e S3 h3
      | bad => exact fun h3 => h3
/-! ### for -/
def sFor (g : GF) (b : SF) : List D → SF
  | [] => fun S => .nx S
  | d :: r => fun S => match g d S with
    | some S1 => (b S1).loop (sFor g b r)
    | none => .bad
/-- the turns of a walk: its items are ds as long as what was seen at its start is seen -/
def Turns (K : PySem.W.Frag) (G : Kit) (H0 : Hp) (ds : List D) (J : It) : Prop := ∀ (i : Nat) (B : Addr → Prop) (H1 : Hp), Ext H0 (hide B H1) → (ds[i]? = none → J.stop i H1) ∧ ∀ d, ds[i]? = some d → J.go i H1 ∧ ∀ x H2, J.yld i H1 x H2 → Ext H1 H2 ∧ ((∀ a, B a → H1 a ≠ none) → Dv K G (hide B H2) x d)
def JI (X : Cx) (G : Kit) (W : WX) (io : List Nat) (tg e : Expr) (f : AF) : Prop := ∃ wi, PI X tg e wi ∧ ∀ F α S σ H, F.I.map (·.1) = io → Rl X.K G F α S σ H → ∀ R : It → Hp → Prop,
  (f S).post (fun ds S' => ∀ H', Aft X G F α S σ H S' H' → ∀ J : It, Turns X.K G (PH F α S' H') ds J → R J H') (Er X G W F α S σ H) → wi σ H R
def sForE (f : AF) (g : GF) (b : SF) : SF := fun S => (f S).oc fun ds S1 => sFor g b ds S1
theorem drop_cons {β : Type} {l : List β} {i : Nat} {x : β} {r : List β} (h : l.drop i = x :: r) : l[i]? = some x ∧ l.drop (i + 1) = r := by
  have h0 : (l.drop i)[0]? = some x := by rw [h]; rfl
  rw [List.getElem?_drop] at h0
  refine ⟨h0, ?_⟩
  have : (l.drop i).drop 1 = r := by rw [h]; rfl
  rw [List.drop_drop] at this
  exact this
theorem js_for {tg e : Expr} {body : List Stmt} {f : AF} {g : GF} {fb : SF} {pos : Pos} (po : PassesOwn (model X.prog X.w) X.A X.env X.xe) (hc : X.calm = true) (he : JI X G W io tg e f) {ts : List Nat} (hg : JG X G io tg ts g) (hb : JB X G W io body fb) (h1 : ∀ x : Value, foldedSetIterable e X.env x = pure x := by intro _; rfl) : JS X G W io (.For tg e body [] pos) (sForE f g fb) := by
  obtain ⟨wi, pi, qi⟩ := he
  obtain ⟨tg', pg, qg⟩ := hg
  obtain ⟨tb, pb, qb⟩ := hb
  refine ⟨_, ps_for po hc pi pg pb h1, fun F α S σ H hI r E h => ?_⟩
  unfold sForE at h
  rw [R.post_oc] at h
  refine qi F α S σ H hI r _ (R.post_mono h (fun ds S1 h1 H1 a1 J hJ => ?_) fun e S1 z => Po.exS z)
  refine ⟨fun i m σ2 H2 => m = ds.length + 1 - i ∧ i ≤ ds.length ∧ ∃ α2 S2, AftS X G F α S1 H1 α2 S2 σ2 H2 ∧ (sFor g fb (ds.drop i) S2).post (Po.of X G W E F α S H), ⟨_, rfl, Nat.zero_le _, α, S1, AftS.refl a1.1, h1⟩, ?_⟩
  rintro i m σ2 H2 ⟨rfl, hle, α2, S2, a2, h2⟩
  obtain ⟨j1, j2⟩ := hJ i (Msk F α2 S2) H2 a2.2
  cases c : ds.drop i with
  | nil =>
    rw [c] at h2
    have hn : ds[i]? = none := by
      rw [List.getElem?_eq_none_iff]
      exact List.drop_eq_nil_iff.mp c
    exact .inl ⟨j1 hn, h2 α2 σ2 H2 (a1.s.trans a2)⟩
  | cons d rest =>
    rw [c] at h2
    obtain ⟨hd, hr⟩ := drop_cons c
    have hlt : i < ds.length := (List.getElem?_eq_some_iff.mp hd).1
    obtain ⟨jg, jy⟩ := j2 d hd
    refine .inr ⟨jg, fun σ3 H3 => ∃ α3 S3, AftS X G F α S1 H1 α3 S3 σ3 H3 ∧ (sFor g fb rest S3).post (Po.of X G W E F α S H), fun σ3 H3 q => ⟨ds.length + 1 - (i + 1), by omega, rfl, hlt, ?_⟩, fun x H3 hy => ?_⟩
    · rw [hr]
      exact q
    · obtain ⟨e3, dv⟩ := jy x H3 hy
      have a3 := (a2.1.growA e3).s
      have dv := dv a2.1.nB
      unfold sFor at h2
      cases cg : g d S2 with
      | none => rw [cg] at h2; exact h2.elim
      | some S4 =>
        rw [cg] at h2
        refine qg F α2 S2 σ2 H3 x d S4 hI a3.1 dv cg _ fun σ4 a4 _ => ?_
        have A4 := a2.trans (a3.trans a4)
        have A := a1.s.trans A4
        refine qb F α2 S4 σ4 H3 hI a4.1 _ ?_
        have h2 : ((fb S4).loop (sFor g fb rest)).post (Po.of X G W E F α S H) := h2
        revert h2
        cases fb S4 with
        | nx S3 => exact fun h3 α3 σ3 H5 a5 => ⟨α3, S3, A4.trans a5, h3⟩
        | ct S3 => exact fun h3 α3 σ3 H5 a5 => ⟨α3, S3, A4.trans a5, h3⟩
        | bk S3 => exact fun h3 α3 σ3 H5 a5 => h3 α3 σ3 H5 (A.trans a5)
        | rt d S3 => exact fun h3 => (Po.step A).rt d S3 h3
        | rl l S3 => exact fun h3 => (Po.step A).rl l S3 h3
        | ex e S3 => exact fun h3 => (Po.step A).ex e S3 h3
        | bad => exact fun h3 => h3
/-! ### walked things -/
theorem pi_or {tg e : Expr} {a b : TI} (ha : PI X tg e a) (hb : PI X tg e b) : PI X tg e fun σ H R => a σ H R ∨ b σ H R := ⟨fun pins s σ H R I h => by
  rcases h with h | h
  · exact ha.run pins s σ H R I h
  · exact hb.run pins s σ H R I h⟩
/-- the items of a value -/
def aIt (fe : EF) : AF := fun S => (fe S).bind fun d S1 => match d with
  | .tup l => .ok l S1
  | .lst l => .ok l S1
  | .scr l => .ok (l.map D.int) S1
  | _ => .bad
theorem it_of {ds : List D} {xs : List V} {x : V} {i : Nat} (r : DvA X.K G H xs ds) {d : D} (hd : ds[i]? = some d) (hx : xs[i]? = some x) : Dv X.K G H x d := by
  obtain ⟨v, e, h⟩ := r.get hd
  rw [hx] at e
  cases e
  exact h
theorem ji_val {tg e : Expr} {fe : EF} (he : JE X G W io e fe) : JI X G W io tg e (aIt fe) := by
  obtain ⟨te, pe, qe⟩ := he
  refine ⟨_, pi_or (pi_list pe) (pi_tup pe), fun F α S σ H hI r Rr h => ?_⟩
  unfold aIt at h
  rw [R.post_bind] at h
  cases hf : fe S with
  | bad => rw [hf] at h; exact h.elim
  | ex e S1 =>
    rw [hf] at h
    refine .inl (qe F α S σ H hI r _ ?_)
    rw [hf]
    exact h
  | ok d S1 =>
    rw [hf] at h
    have lcase : ∀ (ds : List D), (∀ v H1, Dv X.K G (PH F α S1 H1) v d → ∃ a xs, v = .ref a ∧ SqL X.K (PH F α S1 H1) a xs ∧ DvA X.K G (PH F α S1 H1) xs ds) →
        (∀ H', Aft X G F α S σ H S1 H' → ∀ J : It, Turns X.K G (PH F α S1 H') ds J → Rr J H') → iList X.K te σ H Rr := fun ds hds hJ => by
      refine qe F α S σ H hI r _ ?_
      rw [hf]
      intro v H1 a1 d1
      obtain ⟨a, xs, rfl, sq, dv⟩ := hds v H1 d1
      refine ⟨a, rfl, ⟨xs, hide_ext.l sq⟩, hJ H1 a1 _ fun i B H2 a2 => ?_⟩
      have sq2 : SqL X.K H2 a xs := hide_ext.l (a2.l sq)
      have dv2 := dv.mono a2
      refine ⟨fun hn => ⟨xs, sq2, ?_⟩, fun d hd => ?_⟩
      · rw [dv2.length]
        exact List.getElem?_eq_none_iff.mp hn
      · obtain ⟨x, ex, dx⟩ := dv2.get hd
        refine ⟨⟨xs, x, sq2, ex⟩, ?_⟩
        rintro y H3 ⟨rfl, hy⟩
        exact ⟨Ext.refl _, fun _ => it_of dv2 hd (hy xs sq2)⟩
    have tcase : ∀ (ds : List D), (∀ v H1, Dv X.K G (PH F α S1 H1) v d → ∃ a xs, v = .ref a ∧ SqT X.K (PH F α S1 H1) a xs ∧ DvA X.K G (PH F α S1 H1) xs ds) →
        (∀ H', Aft X G F α S σ H S1 H' → ∀ J : It, Turns X.K G (PH F α S1 H') ds J → Rr J H') → iTup X.K te σ H Rr := fun ds hds hJ => by
      refine qe F α S σ H hI r _ ?_
      rw [hf]
      intro v H1 a1 d1
      obtain ⟨a, xs, rfl, sq, dv⟩ := hds v H1 d1
      refine ⟨a, rfl, ⟨xs, hide_ext.t sq⟩, hJ H1 a1 _ fun i B H2 a2 => ?_⟩
      have sq2 : SqT X.K H2 a xs := hide_ext.t (a2.t sq)
      have dv2 := dv.mono a2
      refine ⟨fun hn => ⟨xs, sq2, ?_⟩, fun d hd => ?_⟩
      · rw [dv2.length]
        exact List.getElem?_eq_none_iff.mp hn
      · obtain ⟨x, ex, dx⟩ := dv2.get hd
        refine ⟨⟨xs, x, sq2, ex⟩, ?_⟩
        rintro y H3 ⟨rfl, hy⟩
        exact ⟨Ext.refl _, fun _ => it_of dv2 hd (hy xs sq2)⟩
    cases d with
    | tup l => exact .inr (tcase l (fun v H1 dv => by cases dv with | tup s t => exact ⟨_, _, rfl, s, t⟩) h)
    | lst l => exact .inl (lcase l (fun v H1 dv => by cases dv with | lst s t => exact ⟨_, _, rfl, SqL.of s, t⟩) h)
    | scr l => exact .inl (lcase (l.map D.int) (fun v H1 dv => by cases dv with | scr s => exact ⟨_, _, rfl, s, DvA.ints _⟩) h)
    | _ => exact h.elim
/-- whole numbers from lo, n of them -/
def upto (lo : Int) : Nat → List D
  | 0 => []
  | n + 1 => .int lo :: upto (lo + 1) n
theorem upto_get : ∀ (n : Nat) (lo : Int) (i : Nat), (upto lo n)[i]? = if i < n then some (.int (lo + i)) else none
  | 0, _, i => by simp [upto]
  | n + 1, lo, 0 => by simp [upto]
  | n + 1, lo, i + 1 => by
    have := upto_get n (lo + 1) i
    simp only [upto, List.getElem?_cons_succ, this]
    by_cases h : i < n
    · rw [if_pos h, if_pos (by omega)]
      congr 2
      push_cast
      omega
    · rw [if_neg h, if_neg (by omega)]
def small62 (i : Int) : Bool := decide (-2 ^ 62 ≤ i) && decide (i < 2 ^ 62)
theorem small62_ok {i : Int} (h : small62 i = true) : -2 ^ 62 ≤ i ∧ i < 2 ^ 62 := by
  obtain ⟨a, b⟩ := (Bool.and_eq_true _ _).mp h
  exact ⟨of_decide_eq_true a, of_decide_eq_true b⟩
def aRg1 (fa : AF) : AF := fun S => (fa S).bind fun ds S1 => match ds with
  | [.int j] => if small62 j then .ok (upto 0 j.toNat) S1 else .bad
  | _ => .bad
def aRg2 (fa : AF) : AF := fun S => (fa S).bind fun ds S1 => match ds with
  | [.int i, .int j] => if small62 i && small62 j then .ok (upto i (j - i).toNat) S1 else .bad
  | _ => .bad
theorem itr_ok {K : PySem.W.Frag} {lo : Int} {n : Nat} {H0 : Hp} : Turns K G H0 (upto lo n) (Itr lo n) := fun i B H1 a => by
  rw [upto_get]
  by_cases c : i < n
  · rw [if_pos c]
    refine ⟨fun z => (by cases z), fun d e => ?_⟩
    cases e
    refine ⟨c, ?_⟩
    rintro x H2 ⟨rfl, rfl⟩
    exact ⟨Ext.refl _, fun _ => .int _⟩
  · rw [if_neg c]
    refine ⟨fun _ => ?_, fun d e => (by cases e)⟩
    show n ≤ i
    omega
theorem ji_rg1 {tg e : Expr} {fa : AF} {p pos : Pos} (hg : Gl X "range") (hm : X.mg "range" = none) (ha : JA X G W io [e] fa) (h1 : starEach [e] X.env = [(false, eval e X.env)] := by rfl) : JI X G W io tg (.Call (.Name "range" p) [e] [] pos) (aRg1 fa) := by
  obtain ⟨ta, pa, qa⟩ := ha
  refine ⟨_, pi_range1 hg hm pa h1, fun F α S σ H hI r Rr h => ?_⟩
  unfold aRg1 at h
  rw [R.post_bind] at h
  refine qa F α S σ H hI r _ (R.post_mono h (fun ds S1 h1 vs H1 a1 d1 => ?_) fun e S1 z => z)
  split at h1
  · rename_i j
    cases c : small62 j with
    | false => rw [c] at h1; exact h1.elim
    | true =>
      rw [c, if_pos rfl] at h1
      obtain ⟨c1, c2⟩ := small62_ok c
      cases d1 with
      | cons d2 d3 =>
        cases d2
        cases d3
        exact ⟨j, rfl, c1, c2, h1 H1 a1 _ itr_ok⟩
  · exact h1.elim
theorem ji_rg2 {tg e e' : Expr} {fa : AF} {p pos : Pos} (hg : Gl X "range") (hm : X.mg "range" = none) (ha : JA X G W io [e, e'] fa) (h1 : starEach [e, e'] X.env = [(false, eval e X.env), (false, eval e' X.env)] := by rfl) (h2 : starEach [e'] X.env = [(false, eval e' X.env)] := by rfl) : JI X G W io tg (.Call (.Name "range" p) [e, e'] [] pos) (aRg2 fa) := by
  obtain ⟨ta, pa, qa⟩ := ha
  refine ⟨_, pi_range2 hg hm pa h1 h2, fun F α S σ H hI r Rr h => ?_⟩
  unfold aRg2 at h
  rw [R.post_bind] at h
  refine qa F α S σ H hI r _ (R.post_mono h (fun ds S1 h1 vs H1 a1 d1 => ?_) fun e S1 z => z)
  split at h1
  · rename_i i j
    cases c : small62 i && small62 j with
    | false => rw [c] at h1; exact h1.elim
    | true =>
      rw [c, if_pos rfl] at h1
      obtain ⟨c1, c2⟩ := (Bool.and_eq_true _ _).mp c
      obtain ⟨c3, c4⟩ := small62_ok c1
      obtain ⟨c5, c6⟩ := small62_ok c2
      cases d1 with
      | cons d2 d3 =>
        cases d2
        cases d3 with
        | cons d4 d5 =>
          cases d4
          cases d5
          exact ⟨i, j, rfl, ⟨c3, c4, c5, c6⟩, h1 H1 a1 _ itr_ok⟩
  · exact h1.elim
/-- the signs of a text -/
def signs (x : Str) : List D := x.cps.toList.map fun c => .str ⟨#[c]⟩
def aStr (fe : EF) : AF := fun S => (fe S).bind fun d S1 => match d with
  | .str x => .ok (signs x) S1
  | _ => .bad
theorem ji_str {tg e : Expr} {fe : EF} (he : JE X G W io e fe) : JI X G W io tg e (aStr fe) := by
  obtain ⟨te, pe, qe⟩ := he
  refine ⟨_, pi_str pe, fun F α S σ H hI r Rr h => ?_⟩
  unfold aStr at h
  rw [R.post_bind] at h
  refine qe F α S σ H hI r _ (R.post_mono h (fun d S1 h1 v H1 a1 d1 => ?_) fun e S1 z => z)
  cases d with
  | str x =>
    cases d1
    refine ⟨x, rfl, h1 H1 a1 _ fun i B H2 a2 => ?_⟩
    have e : (signs x)[i]? = (x.cps[i]?).map fun c => D.str ⟨#[c]⟩ := by
      unfold signs
      rw [List.getElem?_map, Array.getElem?_toList]
    rw [e]
    constructor
    · intro z
      show x.cps.size ≤ i
      cases q : x.cps[i]? with
      | none => exact Array.getElem?_eq_none_iff.mp q
      | some c => rw [q] at z; cases z
    · intro d hd
      cases q : x.cps[i]? with
      | none => rw [q] at hd; cases hd
      | some c =>
        rw [q] at hd
        cases hd
        refine ⟨?_, ?_⟩
        · show i < x.cps.size
          exact (Array.getElem?_eq_some_iff.mp q).1
        · rintro y H3 ⟨rfl, c', hc, rfl⟩
          rw [q] at hc
          cases hc
          exact ⟨Ext.refl _, fun _ => .str _⟩
  | _ => exact h1.elim
end
end Fy
end
section
set_option Elab.async false
set_option linter.all false
set_option maxRecDepth 100000
set_option maxHeartbeats 2000000
namespace Fy
open PySem PySem.Spec PyProof.Rows L2
section
variable {X : Cx} {G : Kit} {W : WX} {io : List Nat} {F : Fm} {α α1 α' : Nat → Addr} {S S' S1 S2 : SS} {σ σ1 σ' : L2.St} {H H' H1 H2 : Hp}
theorem DvA.eraseIdx {K : PySem.W.Frag} : ∀ {ds : List D} {vs : List V} (n : Nat), DvA K G H vs ds → DvA K G H (vs.eraseIdx n) (ds.eraseIdx n)
  | [], _, n, .nil => by simp; exact .nil
  | _ :: _, _, 0, .cons _ r => r
  | _ :: _, _, n + 1, .cons h r => .cons h (DvA.eraseIdx n r)
/-- the list that a slot owns -/
def owAt (S : SS) (i : Nat) : Option (List D) := match S[i]? with
  | some (.ow l) => some l
  | _ => none
theorem owAt_some {i : Nat} {l : List D} (h : owAt S i = some l) : S[i]? = some (.ow l) := by
  unfold owAt at h
  split at h
  · cases h; assumption
  · cases h
/-- the receiver of a method: a name whose slot owns a list -/
theorem recv_run {i : Nat} {x : Str} {pos : Pos} (hN : X.N[i]? = some x) (hv : Vis X.env.scope x) (hd : (x == ("__debug__" : Str)) = false := by decide) (hcd : (x == ("__classdict__" : Str)) = false := by decide) : PE X (.Name x pos) (tVar i) := pe_var hN hv hd hcd
theorem recv_ty {i : Nat} {l : List D} (r : Rl X.K G F α S σ H) (h : owAt S i = some l) : σ[i]? = some (some (.ref (α i))) ∧ tyV X.K "list" (.ref (α i)) H := by
  obtain ⟨h1, _, _, vs, h4, _⟩ := r.ow i l (owAt_some h)
  exact ⟨h1, .inl ⟨rfl, vs, SqL.of h4⟩⟩
def eAppend (i : Nat) (fe : EF) : EF := fun S => match owAt S i with
  | none => .bad
  | some _ => (fe S).bind fun d S1 => match owAt S1 i with
    | some l => if okLen (l.length + 1) then .ok .non (S1.set i (.ow (l ++ [d]))) else .bad
    | none => .bad
theorem je_append {i : Nat} {x : Str} {e : Expr} {fe : EF} {p1 apos cpos : Pos} (hN : X.N[i]? = some x) (hv : Vis X.env.scope x) (he : JE X G W io e fe) (hd : (x == ("__debug__" : Str)) = false := by decide) (hcd : (x == ("__classdict__" : Str)) = false := by decide)
    (h1 : attributeBase (.Name x p1) "append" X.env (eval (.Name x p1) X.env) = eval (.Name x p1) X.env := by rfl)
    (h2 : (((backTo cpos (starEach (e :: []) X.env)).all (fun x => !x.fst) && (backToKw cpos (keywordEach [] X.env)).all fun x => x.fst.isSome) && decide (((e :: ([] : List Expr)).length + ([] : List Keyword).length + if ([] : List Keyword).isEmpty = true then 0 else 1) < 30)) = true := by rfl)
    (h3 : (apos.endLine == cpos.line) = true := by rfl) (h4 : starEach (e :: []) X.env = (false, eval e X.env) :: starEach [] X.env := by rfl) (h5 : ((backTo cpos (starEach [] X.env)).any fun x => x.fst) = false := by rfl) :
    JE X G W io (.Call (.Attribute (.Name x p1) "append" apos) [e] [] cpos) (eAppend i fe) := by
  obtain ⟨te, pe, qe⟩ := he
  refine ⟨_, pe_bm PySem.F.plainAttrs_list PySem.F.slot_list_append PySem.F.type_list_append mt_append (pe_var hN hv hd hcd) (pa_cons pe pa_nil h4) h1 h2 h3 h4 h5, fun F α S σ H hI r Q h => ?_⟩
  unfold eAppend at h
  cases c : owAt S i with
  | none => rw [c] at h; exact h.elim
  | some l0 =>
    rw [c] at h
    obtain ⟨g1, g2⟩ := recv_ty r c
    refine ⟨_, g1, g2, ?_⟩
    have h : ((fe S).bind _).post _ _ := h
    rw [R.post_bind] at h
    refine qe F α S σ H hI r _ (R.post_mono h (fun d S1 h1 v H1 a1 d1 => ?_) fun e S1 z => z)
    cases c1 : owAt S1 i with
    | none => rw [c1] at h1; exact h1.elim
    | some l =>
      rw [c1] at h1
      obtain ⟨_, _, _, vs, h4, h5⟩ := a1.1.ow i l (owAt_some c1)
      cases c2 : okLen (l.length + 1) with
      | false => simp only [c2] at h1; exact h1.elim
      | true =>
        simp only [c2, if_true] at h1
        refine ⟨α i, vs, v, rfl, rfl, h4, ?_, h1 _ _ (a1.trans (a1.1.inPlace (owAt_some c1) (h5.append (.cons d1 .nil)))) .non⟩
        have := okLen_ok c2
        rw [h5.length]
        omega
/-- x.pop() -/
def ePop (i : Nat) : EF := fun S => match owAt S i with
  | some l => match l[l.length - 1]? with
    | some d => .ok d (S.set i (.ow l.dropLast))
    | none => .bad
  | none => .bad
theorem je_pop {i : Nat} {x : Str} {p1 apos cpos : Pos} (hN : X.N[i]? = some x) (hv : Vis X.env.scope x) (hd : (x == ("__debug__" : Str)) = false := by decide) (hcd : (x == ("__classdict__" : Str)) = false := by decide)
    (h1 : attributeBase (.Name x p1) "pop" X.env (eval (.Name x p1) X.env) = eval (.Name x p1) X.env := by rfl) (h3 : (apos.endLine == cpos.line) = true := by rfl) :
    JE X G W io (.Call (.Attribute (.Name x p1) "pop" apos) [] [] cpos) (ePop i) := by
  refine ⟨_, pe_bm0 PySem.F.plainAttrs_list PySem.F.slot_list_pop PySem.F.type_list_pop mt_pop (pe_var hN hv hd hcd) h1 h3, fun F α S σ H hI r Q h => ?_⟩
  unfold ePop at h
  cases c : owAt S i with
  | none => rw [c] at h; exact h.elim
  | some l =>
    rw [c] at h
    obtain ⟨g1, g2⟩ := recv_ty r c
    obtain ⟨_, _, _, vs, h4, h5⟩ := r.ow i l (owAt_some c)
    refine ⟨_, g1, g2, ?_⟩
    cases q : l[l.length - 1]? with
    | none => simp only [q] at h; exact h.elim
    | some d =>
      simp only [q] at h
      obtain ⟨v, e1, e2⟩ := h5.get q
      rw [← h5.length] at e1
      have a := r.inPlace (owAt_some c) h5.dropLast
      exact ⟨α i, vs, v, rfl, rfl, h4, e1, h _ _ a (e2.mono a.2)⟩
/-- x.pop(k) -/
def ePopAt (i : Nat) (fe : EF) : EF := fun S => match owAt S i with
  | none => .bad
  | some _ => (fe S).bind fun d S1 => match owAt S1 i, d with
    | some l, .int k => if decide (-2 ^ 63 ≤ k) && decide (k < 2 ^ 63) then match seqIndex? k l.length with
      | some j => match l[j]? with
        | some d => .ok d (S1.set i (.ow (l.eraseIdx j)))
        | none => .bad
      | none => .bad
      else .bad
    | _, _ => .bad
theorem je_popAt {i : Nat} {x : Str} {e : Expr} {fe : EF} {p1 apos cpos : Pos} (hN : X.N[i]? = some x) (hv : Vis X.env.scope x) (he : JE X G W io e fe) (hd : (x == ("__debug__" : Str)) = false := by decide) (hcd : (x == ("__classdict__" : Str)) = false := by decide)
    (h1 : attributeBase (.Name x p1) "pop" X.env (eval (.Name x p1) X.env) = eval (.Name x p1) X.env := by rfl)
    (h2 : (((backTo cpos (starEach (e :: []) X.env)).all (fun x => !x.fst) && (backToKw cpos (keywordEach [] X.env)).all fun x => x.fst.isSome) && decide (((e :: ([] : List Expr)).length + ([] : List Keyword).length + if ([] : List Keyword).isEmpty = true then 0 else 1) < 30)) = true := by rfl)
    (h3 : (apos.endLine == cpos.line) = true := by rfl) (h4 : starEach (e :: []) X.env = (false, eval e X.env) :: starEach [] X.env := by rfl) (h5 : ((backTo cpos (starEach [] X.env)).any fun x => x.fst) = false := by rfl) :
    JE X G W io (.Call (.Attribute (.Name x p1) "pop" apos) [e] [] cpos) (ePopAt i fe) := by
  obtain ⟨te, pe, qe⟩ := he
  refine ⟨_, pe_bm PySem.F.plainAttrs_list PySem.F.slot_list_pop PySem.F.type_list_pop mt_popAt (pe_var hN hv hd hcd) (pa_cons pe pa_nil h4) h1 h2 h3 h4 h5, fun F α S σ H hI r Q h => ?_⟩
  unfold ePopAt at h
  cases c : owAt S i with
  | none => rw [c] at h; exact h.elim
  | some l0 =>
    rw [c] at h
    obtain ⟨g1, g2⟩ := recv_ty r c
    refine ⟨_, g1, g2, ?_⟩
    have h : ((fe S).bind _).post _ _ := h
    rw [R.post_bind] at h
    refine qe F α S σ H hI r _ (R.post_mono h (fun d S1 h1 v H1 a1 d1 => ?_) fun e S1 z => z)
    cases c1 : owAt S1 i with
    | none => rw [c1] at h1; exact h1.elim
    | some l =>
      rw [c1] at h1
      cases d with
      | int k =>
        cases d1
        obtain ⟨_, _, _, vs, h4, h5⟩ := a1.1.ow i l (owAt_some c1)
        cases c2 : decide (-2 ^ 63 ≤ k) && decide (k < 2 ^ 63) with
        | false => simp only [c2] at h1; exact h1.elim
        | true =>
          simp only [c2, if_true] at h1
          obtain ⟨b1, b2⟩ := (Bool.and_eq_true _ _).mp c2
          cases q : seqIndex? k l.length with
          | none => simp only [q] at h1; exact h1.elim
          | some j =>
            simp only [q] at h1
            cases q2 : l[j]? with
            | none => simp only [q2] at h1; exact h1.elim
            | some d =>
              simp only [q2] at h1
              obtain ⟨v, e1, e2⟩ := h5.get q2
              have a := a1.1.inPlace (owAt_some c1) (h5.eraseIdx j)
              exact ⟨α i, vs, k, j, v, rfl, rfl, h4, of_decide_eq_true b1, of_decide_eq_true b2, by rw [h5.length]; exact q, e1, h1 _ _ (a1.trans a) (e2.mono a.2)⟩
      | _ => exact h1.elim
/-- x.extend(e), e a list -/
def eExtend (i : Nat) (fe : PF) : EF := fun S => match owAt S i with
  | none => .bad
  | some _ => (fe S).bind fun a S1 => match owAt S1 i, a.get S1 with
    | some l, some (.lst m) => if okLen (l.length + m.length) then .ok .non (S1.set i (.ow (l ++ m))) else .bad
    | _, _ => .bad
theorem je_extend {i : Nat} {x : Str} {e : Expr} {fe : PF} {p1 apos cpos : Pos} (hN : X.N[i]? = some x) (hv : Vis X.env.scope x) (he : JP X G W io e fe) (hd : (x == ("__debug__" : Str)) = false := by decide) (hcd : (x == ("__classdict__" : Str)) = false := by decide)
    (h1 : attributeBase (.Name x p1) "extend" X.env (eval (.Name x p1) X.env) = eval (.Name x p1) X.env := by rfl)
    (h2 : (((backTo cpos (starEach (e :: []) X.env)).all (fun x => !x.fst) && (backToKw cpos (keywordEach [] X.env)).all fun x => x.fst.isSome) && decide (((e :: ([] : List Expr)).length + ([] : List Keyword).length + if ([] : List Keyword).isEmpty = true then 0 else 1) < 30)) = true := by rfl)
    (h3 : (apos.endLine == cpos.line) = true := by rfl) (h4 : starEach (e :: []) X.env = (false, eval e X.env) :: starEach [] X.env := by rfl) (h5 : ((backTo cpos (starEach [] X.env)).any fun x => x.fst) = false := by rfl) :
    JE X G W io (.Call (.Attribute (.Name x p1) "extend" apos) [e] [] cpos) (eExtend i fe) := by
  obtain ⟨te, pe, qe⟩ := he
  refine ⟨_, pe_bm PySem.F.plainAttrs_list PySem.F.slot_list_extend PySem.F.type_list_extend mt_extend (pe_var hN hv hd hcd) (pa_cons pe pa_nil h4) h1 h2 h3 h4 h5, fun F α S σ H hI r Q h => ?_⟩
  unfold eExtend at h
  cases c : owAt S i with
  | none => rw [c] at h; exact h.elim
  | some l0 =>
    rw [c] at h
    obtain ⟨g1, g2⟩ := recv_ty r c
    refine ⟨_, g1, g2, ?_⟩
    have h : ((fe S).bind _).post _ _ := h
    rw [R.post_bind] at h
    refine qe F α S σ H hI r _ (R.post_mono h (fun a S1 h1 v H1 a1 d1 => ?_) fun e S1 z => z)
    cases c1 : owAt S1 i with
    | none => simp only [c1] at h1; exact h1.elim
    | some l =>
      simp only [c1] at h1
      cases e2 : a.get S1 with
      | none => simp only [e2] at h1; exact h1.elim
      | some dd =>
        simp only [e2] at h1
        cases dd with
        | lst m =>
          obtain ⟨_, _, _, vs, h4, h5⟩ := a1.1.ow i _ (owAt_some c1)
          obtain ⟨b, zs, rfl, z1, z2⟩ := (d1.dw a1.1 e2).lstE
          cases c2 : okLen (l.length + m.length) with
          | false => simp only [c2] at h1; exact h1.elim
          | true =>
            simp only [c2, if_true] at h1
            refine ⟨α i, b, vs, zs, rfl, rfl, h4, z1, ?_, h1 _ _ (a1.trans (a1.1.inPlace (owAt_some c1) (h5.append z2))) .non⟩
            rw [h5.length, z2.length]
            exact okLen_ok c2
        | _ => exact h1.elim
/-- x[k] = e, x a list of one's own -/
def sSetI (i : Nat) (fe : EF) (fk : EF) : SF := fun S => (fe S).oc fun d S1 => match owAt S1 i with
  | none => .bad
  | some _ => (fk S1).oc fun k S2 => match owAt S2 i, k with
    | some l, .int k => match ixN l.length k with
      | some j => .nx (S2.set i (.ow (l.set j d)))
      | none => .bad
    | _, _ => .bad
theorem js_setI {i : Nat} {x : Str} {e k : Expr} {fe fk : EF} {p1 p2 pos : Pos} (hN : X.N[i]? = some x) (hv : Vis X.env.scope x) (he : JE X G W io e fe) (hk : JE X G W io k fk) (hd : (x == ("__debug__" : Str)) = false := by decide) (hcd : (x == ("__classdict__" : Str)) = false := by decide)
    (h0 : ∀ (v : Value), assign ((Expr.Name x p1).Subscript k p2) X.env v = (do
        let ov ← holding [v] (eval (.Name x p1) X.env)
        let iv ← holding [v, ov] (eval k X.env)
        standAt p2
        holding [v, ov, iv] (setItem ov iv v)
        release [v, ov, iv] []) := by intro _; rfl)
    (h1 : swapsWithSole [(Expr.Name x p1).Subscript k p2] e pos.line X.env = pure false := by rfl) (h2 : swappedStores [(Expr.Name x p1).Subscript k p2] e X.env = pure none := by rfl) (h3 : List.map (fun x => x.snd) (assignEach [(Expr.Name x p1).Subscript k p2] X.env) = [assign ((Expr.Name x p1).Subscript k p2) X.env] := by rfl) :
    JS X G W io (.Assign [.Subscript (.Name x p1) k p2] e pos) (sSetI i fe fk) := by
  obtain ⟨te, pe, qe⟩ := he
  obtain ⟨tk, pk, qk⟩ := hk
  refine ⟨_, ps_asg pe (pg_sub (pe_var hN hv hd hcd) pk set_list h0) h1 h2 h3, fun F α S σ H hI r E h => ?_⟩
  unfold sSetI at h
  rw [R.post_oc] at h
  refine qe F α S σ H hI r _ (R.post_mono h (fun d S1 h1 v H1 a1 d1 => ?_) fun e S1 z => Po.exS z)
  cases c : owAt S1 i with
  | none => simp only [c] at h1; exact h1.elim
  | some l0 =>
    simp only [c] at h1
    obtain ⟨g1, _⟩ := a1.1.ow i l0 (owAt_some c)
    refine ⟨_, g1, ?_⟩
    rw [R.post_oc] at h1
    refine qk F α S1 σ H1 hI a1.1 _ (R.post_mono h1 (fun kd S2 h2 u H2 a2 d2 => ?_) fun e S1 z => (Po.exS z).step a1)
    cases c1 : owAt S2 i with
    | none => simp only [c1] at h2; exact h2.elim
    | some l =>
      simp only [c1] at h2
      cases kd with
      | int k =>
        cases d2
        obtain ⟨_, _, _, vs, h4, h5⟩ := a2.1.ow i l (owAt_some c1)
        cases q : ixN l.length k with
        | none => simp only [q] at h2; exact h2.elim
        | some j =>
          simp only [q] at h2
          have a := a2.1.inPlace (owAt_some c1) (h5.set j (d1.mono a2.2))
          exact ⟨α i, vs, k, j, rfl, rfl, h4, by rw [h5.length]; exact q, h2 α σ _ ((a1.trans a2).trans a).s⟩
      | _ => exact h2.elim
end
end Fy
end
section
set_option Elab.async false
set_option linter.all false
set_option maxRecDepth 100000
set_option maxHeartbeats 2000000
namespace Fy
open PySem PySem.Spec PyProof.Rows L2
/-- a def keeps its promise wherever no repr is under way -/
structure FnG (P : Program) (w : World) (K : PySem.W.Frag) (mg : Str → Option Value) (base : Heap) (CX : CXT) (k : Nat) (f : Addr) (fd : FuncData) (ps : List Str) (sp : Sp) : Prop where
  len : ∀ (vs : List V) (H : Hp) (Q : VK) (E : XK), sp vs H Q E → vs.length = ps.length
  run : ∀ (A : Around) (outer : List Env) (s : Shared) (H : Hp) (args : Args) (us : List Value) (vs : List V) (Q : VK) (E : XK),
    Room k A → A.guards = some [] → Env0 P w K mg base A outer s H → BindsTo s fd args (ps.zip us) → Vals vs us → sp vs H Q E → codeAny (model P w) A (Code.call (Value.ref f) args) (CR CX outer P w H s Q E) s
section
variable {P : Program} {w : World} {K : PySem.W.Frag} {mg : Str → Option Value} {base : Heap} {CX : CXT}
theorem FnOk.g {k : Nat} {f : Addr} {fd : FuncData} {ps : List Str} {sp : Sp} (h : FnOk P w K mg base CX k f fd ps sp) : FnG P w K mg base CX k f fd ps sp := ⟨h.len, fun A outer s H args us vs Q E hr _ e0 hb r hs => h.run A outer s H args us vs Q E hr e0 hb r hs⟩
theorem fnG_of {k : Nat} {f : Addr} {name qual : Str} {params : Arguments} {body : List Stmt} {scope : Scope} {dV kV doc pm cdv ct oc : Value} {an od : Option Addr} {osl : Array (Option Value)} {N ps : List Str} {sp : Sp}
    (lk : List.lookup f K = some { cls := oc, dict := od, data := Data.func (PySem.W.fnOf name qual params body scope dV kV doc pm an cdv ct), slots := osl }) (hcd : PySem.W.codeIn K cdv qual = true) (S : FnScope N ps scope) (len : ∀ vs H Q E, sp vs H Q E → vs.length = ps.length)
    (hbody : ∀ (A : Around) (outer : List Env) (s : Shared) (H : Hp) (vs : List V) (Q : VK) (E : XK), Room k (A.deeper (envOfC qual scope s.heap.objs.size f cdv)) → A.guards = some [] → sp vs H Q E →
      ∃ t, PSs (cxOf CX P w K mg base N qual scope f cdv A outer s H E) body t ∧ t { nx := fun _ H' => Q .non H', rt := Q } (L2.start N vs) H) :
    FnG P w K mg base CX (k + 1) f (PySem.W.fnOf name qual params body scope dV kV doc pm an cdv ct) ps sp := by
  refine ⟨len, fun A outer s H args us vs Q E hr hgd e0 hb r hsp => ?_⟩
  have hl := len vs H Q E hsp
  have KX := e0.mod.kin.keeps fun b o e => (e0.bs b o e).1
  have lim := e0.mod.nolimit.keeps fun b o e => (e0.bs b o e).1
  refine codeAny_call_function hr.depth (KX f _ lk) rfl S.co S.gen rfl (PySem.W.codeRec_of KX hcd) (hb (model P w) A.in1 (fun e s' => CR CX outer P w H s Q E (.error e) s') (fun binds s₁ => wpAny (model P w) A.in1 (newFunctionEnv scope _ _ binds _ (some f) _ none _) (fun env s₂ => s₂.heap.NoLimit ∧ codeAny (model P w) A (.func body env) (CR CX outer P w H s Q E) s₂) (fun e s' => CR CX outer P w H s Q E (.error e) s') s₁) ?_)
  refine wpAny_newFunctionEnv_cells S.kind (fun x hy => (S.par x.1 (List.of_mem_zip (show (x.1, x.2) ∈ ps.zip us from hy)).1).elim (fun q => .inl q) fun q => .inr ⟨q, PySem.W.cellsFrom_some scope.names (s.heap.objs.size + 1) [] (.inl q)⟩) fun env he s1 x => ?_
  subst he
  refine ⟨lim.keeps x.toInCall.keep, codeAny_func ?_⟩
  obtain ⟨t, ht, hq⟩ := hbody A outer s H vs Q E (hr.deeper (envOfC qual scope s.heap.objs.size f cdv)) hgd hsp
  have I := inv_start (CX := CX) (E := E) (mg := mg) (base := base) (K := K) (w := w) (P := P) S hr.hd e0 hl r x
  refine wpAny_mono (ht.run [] s1 (L2.start N vs) H _ I hq) (fun fl s' hs => ?_) fun e s' hs => hs
  have fin : ∀ {σ' : L2.St} {H' : Hp} {v : V} {u : Value}, L2.Inv (cxOf CX P w K mg base N qual scope f cdv A outer s H E) [] σ' H' s' → L2.RelV v u → Q v H' → CR CX outer P w H s Q E (.ok (.ret u)) s' := fun {σ' H' v u} J rv q => ⟨v, H', J.os, J.bare, J.base, J.hok, rv, q⟩
  cases fl with
  | ret u => 
    obtain ⟨v, σ', H', J, rv, q⟩ := hs
    exact fin J rv q
  | next =>
    obtain ⟨σ', H', J, q⟩ := hs
    exact fin (v := .non) (u := Value.none) J rfl q
  | _ => 
    obtain ⟨_, _, _, q⟩ := hs
    exact q.elim
end
theorem run_gS {X : Cx} {CX : CXT} {k : Nat} {f : Addr} {fd : FuncData} {ps : List Str} {sp : Sp} {E : L2.St → XK} {pins : List (Addr × Obj)} {σ : L2.St} {H : Hp} {s : Shared} {Q : VK} {us : List Value} {vs : List V}
    (F : FnG X.prog X.w X.K X.mg X.base CX k f fd ps sp) (hr : Room k X.A) (hgd : X.A.guards = some []) (hb : L2.Binds X.K fd ps []) (hx : PassesAt CX X σ (E σ)) (I : L2.Inv X pins σ H s) (r : Vals vs us) (h : sp vs H Q (E σ)) : wpAny (model X.prog X.w) X.A (call (Value.ref f) us) (EP X pins σ Q) X.xe s := by
  have hl : us.length = ps.length := by rw [← r.length]; exact F.len vs H Q (E σ) h
  have b := hb s us I.kIn (by rw [List.append_nil]; exact hl)
  rw [List.append_nil] at b
  refine wpAny_call (codeAny_mono (F.run X.A X.stack s H { pos := us } us vs Q (E σ) hr hgd I.env0 b r h) fun r s' hq => ?_)
  cases r with
  | error e => exact hx pins H s e s' I hq
  | ok fl =>
    cases fl with
    | ret u => exact I.after hq
    | _ => exact hq.elim
theorem pe_callG {X : Cx} {CX : CXT} {k : Nat} {f : Addr} {fd : FuncData} {ps : List Str} {sp : Sp} {E : L2.St → XK} {x : Str} {p pos : Pos} {e : Expr} {es : List Expr} {t : TA} (F : FnG X.prog X.w X.K X.mg X.base CX k f fd ps sp) (hr : Room k X.A) (hgd : X.A.guards = some []) (hg : Gl X x) (hm : X.mg x = some (Value.ref f)) (hk : PySem.W.keepIn X.K (Value.ref f) = true) (hb : L2.Binds X.K fd ps []) (hx : ∀ σ : L2.St, PassesAt CX X σ (E σ)) (ha : PA X (e :: es) t)
    (hdb : (x == ("__debug__" : Str)) = false := by decide) (he : starEach (e :: es) X.env = (false, eval e X.env) :: starEach es X.env := by rfl) (hpl : ((backTo pos (starEach es X.env)).any fun x => x.fst) = false := by rfl) : PE X (.Call (.Name x p) (e :: es) [] pos) (tCallS sp E t) := ⟨fun pins s σ H Q I h =>
  wpAny_Call_Name_kw (ld_glob I hg hm (PySem.W.callWith_K I.ok.mod.kin hk (thn (ha.run pos pins s σ H (fun vs H1 => sp vs H1 Q (E σ)) I h) fun us s1 hh => (by
    obtain ⟨vs, H1, I1, r, q⟩ := hh
    exact ⟨I1.kIn, run_gS F hr hgd hb (hx σ) I1 r q⟩)) he hpl) hdb)⟩
end Fy
end
section
set_option Elab.async false
set_option linter.all false
set_option maxRecDepth 100000
set_option maxHeartbeats 2000000
namespace Fy
open PySem PySem.Spec PyProof.Rows L2
/-! ### what a def's run comes to, as its caller sees it -/
inductive Fo where
  | va (d : D) (ls : List SV)
  | li (l : List D) (ls : List SV)
  | ex (e : Ex) (ls : List SV)
  | bad
def outs (io : List Nat) (S : SS) : List SV := io.map fun i => S.getD i .un
def fin (io : List Nat) : Oc → Fo
  | .nx S => .va .non (outs io S)
  | .rt d S => .va d (outs io S)
  | .rl l S => .li l (outs io S)
  | .ex e S => .ex e (outs io S)
  | _ => .bad
def Pin (F : Fm) (a : Addr) : Prop := F.O a ∨ ∃ p ∈ F.I, p.2 = a
section
variable (K : PySem.W.Frag) (G : Kit)
/-- behind a def's run -/
structure Fin (F : Fm) (H : Hp) (ls : List SV) (H' : Hp) : Prop where
  ext : Ext F.Hb H'
  vis : Ext (hide (Pin F) H) (hide (Pin F) H')
  dom : ∀ a, H' a = none → H a = none
  out : ∀ (k i : Nat) (a : Addr), F.I[k]? = some (i, a) → ∃ l vs, ls[k]? = some (.ow l) ∧ H' a = some (.lst vs) ∧ DvA K G (hide (Pin F) H') vs l
def Fo.post (F : Fm) (H : Hp) (Q : VK) (E : XK) : Fo → Prop := fun o => match o with
  | .va d ls => ∀ v H', Fin K G F H ls H' → Dv K G (hide (Pin F) H') v d → Q v H'
  | .li l ls => ∀ p vs H', Fin K G (F.with p) H ls H' → F.Hb p = none → ¬ Pin F p → H' p = some (.lst vs) → DvA K G (hide (Pin (F.with p)) H') vs l → Q (.ref p) H'
  | .ex e ls => ∀ cls dx H', Fin K G F H ls H' → ExOk K G (hide (Pin F) H') e cls dx → E cls dx H'
  | .bad => False
/-- what a def promises -/
def FSp (io : List Nat) (n : Nat) (f : SS → Fo) : Sp := fun vs H Q E => vs.length = n ∧ ∃ F α S, F.I.map (·.1) = io ∧ Rl K G F α S (vs.map some) H ∧ (∀ i, isOw S i → i ∈ io) ∧ Fo.post K G F H Q E (f S)
end
theorem Fo.mono {K : PySem.W.Frag} {G : Kit} {F : Fm} {H : Hp} {Q Q' : VK} {E E' : XK} {o : Fo} (h : Fo.post K G F H Q E o) (hQ : ∀ v H', Q v H' → Q' v H') (hE : ∀ c d H', E c d H' → E' c d H') : Fo.post K G F H Q' E' o := by
  cases o with
  | va d ls => exact fun v H' a b => hQ _ _ (h v H' a b)
  | li l ls => exact fun p vs H' a b c d e => hQ _ _ (h p vs H' a b c d e)
  | ex e ls => exact fun c d H' a b => hE _ _ _ (h c d H' a b)
  | bad => exact h
theorem pin_with {F : Fm} {p a : Addr} : Pin (F.with p) a ↔ Pin F a ∨ a = p := by
  constructor
  · rintro ((h | h) | h)
    · exact .inl (.inl h)
    · exact .inr h
    · exact .inl (.inr h)
  · rintro ((h | h) | h)
    · exact .inl (.inl h)
    · exact .inr h
    · exact .inl (.inr h)
section
variable {K : PySem.W.Frag} {G : Kit} {F : Fm} {α α' : Nat → Addr} {S S' : SS} {σ σ' : L2.St} {H H' : Hp}
theorem pin_msk (r : Rl K G F α S σ H) {a : Addr} (h : Pin F a) : Msk F α S a := by
  rcases h with h | ⟨p, hp, e⟩
  · exact .inl h
  · obtain ⟨h1, h2⟩ := r.pin p hp
    exact .inr ⟨p.1, h2, h1.trans e⟩
theorem pin_ext (r : Rl K G F α S σ H) : Ext (PH F α S H) (hide (Pin F) H) := fun a o h => by
  obtain ⟨n, h⟩ := hide_some h
  exact (hide_at fun m => n (pin_msk r m)).trans h
theorem msk_pin {io : List Nat} (hI : F.I.map (·.1) = io) (r : Rl K G F α S σ H) (ho : ∀ i, isOw S i → i ∈ io) {a : Addr} (h : Msk F α S a) : Pin F a := by
  rcases h with h | ⟨i, hi, e⟩
  · exact .inl h
  · have := ho i hi
    rw [← hI] at this
    obtain ⟨p, hp, rfl⟩ := List.mem_map.mp this
    obtain ⟨h1, _⟩ := r.pin p hp
    exact .inr ⟨p, hp, h1.symm.trans e⟩
theorem Fin.of {X : Cx} (hX : X.K = K) {io : List Nat} (hI : F.I.map (·.1) = io) {σ0 : L2.St} (r : Rl X.K G F α S σ0 H) (ho : ∀ i, isOw S i → i ∈ io) (a : AftS X G F α S H α' S' σ' H') : Fin X.K G F H (outs io S') H' := by
  refine ⟨a.1.ext, fun x o z => ?_, a.3, fun k i x e => ?_⟩
  · obtain ⟨n, z⟩ := hide_some z
    exact pin_ext a.1 x o (a.2 x o ((hide_at fun m => n (msk_pin hI r ho m)).trans z))
  · have hm : (i, x) ∈ F.I := List.mem_of_getElem? e
    obtain ⟨h1, l, h2⟩ := a.1.pin _ hm
    obtain ⟨_, _, _, vs, h4, h5⟩ := a.1.ow i l h2
    have h1 : α' i = x := h1
    rw [h1] at h4
    refine ⟨l, vs, ?_, h4, h5.mono (pin_ext a.1)⟩
    have hio : io[k]? = some i := by
      rw [← hI, List.getElem?_map, e]
      rfl
    have h2 : S'[i]? = some (SV.ow l) := h2
    simp only [outs, List.getElem?_map, hio, Option.map_some, List.getD_eq_getElem?_getD, h2, Option.getD_some]
end
section
variable {P : Program} {w : World} {K : PySem.W.Frag} {G : Kit} {mg : Str → Option Value} {base : Heap} {io : List Nat}
theorem isOw_append {S : SS} {m i : Nat} (h : isOw (S ++ List.replicate m .un) i) : isOw S i := by
  obtain ⟨l, h⟩ := h
  rw [List.getElem?_append] at h
  split at h
  · exact ⟨l, h⟩
  · have := List.mem_of_getElem? h
    rw [List.mem_replicate] at this
    cases this.2
theorem get_append {S : SS} {m i : Nat} {sv : SV} (h : S[i]? = some sv) : (S ++ List.replicate m .un)[i]? = some sv := by
  rw [List.getElem?_append_left (lt_of_not_un h), h]
theorem un_append {S : SS} {m i : Nat} {sv : SV} (h : (S ++ List.replicate m .un)[i]? = some sv) (n : sv ≠ .un) : S[i]? = some sv := by
  rw [List.getElem?_append] at h
  split at h
  · exact h
  · have := List.mem_of_getElem? h
    rw [List.mem_replicate] at this
    exact (n this.2).elim
/-- the slots of a def at its start -/
theorem Rl.start {F : Fm} {α : Nat → Addr} {S : SS} {vs : List V} {H : Hp} {N : List Str} (r : Rl K G F α S (vs.map some) H) : Rl K G F α (S ++ List.replicate (N.length - vs.length) .un) (L2.start N vs) H ∧ Ext (PH F α S H) (PH F α (S ++ List.replicate (N.length - vs.length) .un) H) ∧ Ext (PH F α (S ++ List.replicate (N.length - vs.length) .un) H) (PH F α S H) := by
  have msk : ∀ a, Msk F α (S ++ List.replicate (N.length - vs.length) .un) a ↔ Msk F α S a := fun a => by
    constructor
    · rintro (z | ⟨j, z, e⟩)
      · exact .inl z
      · exact .inr ⟨j, isOw_append z, e⟩
    · rintro (z | ⟨j, ⟨l, z⟩, e⟩)
      · exact .inl z
      · exact .inr ⟨j, ⟨l, get_append z⟩, e⟩
  have q : Ext (PH F α S H) (PH F α (S ++ List.replicate (N.length - vs.length) .un) H) := fun a o z => by
    obtain ⟨n, z⟩ := hide_some z
    exact (hide_at fun m => n ((msk a).mp m)).trans z
  have q' : Ext (PH F α (S ++ List.replicate (N.length - vs.length) .un) H) (PH F α S H) := fun a o z => by
    obtain ⟨n, z⟩ := hide_some z
    exact (hide_at fun m => n ((msk a).mpr m)).trans z
  have sg : ∀ i u, (vs.map some)[i]? = some (some u) → (L2.start N vs)[i]? = some (some u) := fun i u e => by
    unfold L2.start
    rw [List.getElem?_append_left (List.getElem?_eq_some_iff.mp e).1]
    exact e
  refine ⟨⟨?_, fun i d h => ?_, fun i l h => ?_, fun i j hi hj e => r.inj i j (isOw_append hi) (isOw_append hj) e, r.ext, r.ob, fun p hp => ?_⟩, q, q'⟩
  · have := r.len
    rw [List.length_map] at this
    unfold L2.start
    rw [List.length_append, List.length_append, List.length_replicate, List.length_replicate, List.length_map, this]
  · obtain ⟨v, h1, h2⟩ := r.va i d (un_append h (by intro z; cases z))
    exact ⟨v, sg i v h1, h2.mono q⟩
  · obtain ⟨h1, h2, h3, us, h4, h5⟩ := r.ow i l (un_append h (by intro z; cases z))
    exact ⟨sg i _ h1, h2, h3, us, h4, h5.mono q⟩
  · obtain ⟨h1, l, h2⟩ := r.pin p hp
    exact ⟨h1, l, get_append h2⟩
/-- what a body comes to, for the caller -/
def fnF (io : List Nat) (m : Nat) (f : SF) : SS → Fo := fun S => fin io (f (S ++ List.replicate m .un))
theorem fn_ok {x qual : Str} {params : Arguments} {body : List Stmt} {scope : Scope} {dvs : List V} {kws : List (Str × V)} {f : Addr} {fd : FuncData} {N ps : List Str} {k m : Nat} {g : SF} (F : FunD K x qual params body scope dvs kws f fd) (Sc : FnScope N ps scope) (hm : N.length = ps.length + m)
    (hb : ∀ (cdv : Value) (A : Around) (outer : List Env) (s : Shared) (H : Hp) (E : XK), Room k (A.deeper (envOfC qual scope s.heap.objs.size f cdv)) → A.guards = some [] → JB (cxOf (CX P w) P w K mg base N qual scope f cdv A outer s H E) G (fun cls d _ H => E cls d H) io body g) :
    FnG P w K mg base (CX P w) (k + 1) f fd ps (FSp K G io ps.length (fnF io m g)) := by
  obtain ⟨oc, od, dV, kV, doc, pm, an, cdv0, ct, osl, rfl, lk, hcd, _, _⟩ := F.ex
  refine fnG_of lk hcd Sc (fun vs H Q E h => h.1) (fun A outer s H vs Q E hr hgd h => ?_)
  obtain ⟨hl, F0, α, S, hI, r, ho, hp⟩ := h
  obtain ⟨t, pt, q⟩ := hb cdv0 A outer s H E hr hgd
  refine ⟨t, pt, ?_⟩
  have hm' : N.length - vs.length = m := by omega
  obtain ⟨r1, x1, x2⟩ := r.start (N := N)
  rw [hm'] at r1 x1 x2
  have ho1 : ∀ i, isOw (S ++ List.replicate m .un) i → i ∈ io := fun i h => ho i (isOw_append h)
  refine q F0 α _ _ H hI r1 _ ?_
  unfold fnF at hp
  generalize hX : cxOf (CX P w) P w K mg base N qual scope f cdv0 A outer s H E = X
  have eK : X.K = K := by rw [← hX]; rfl
  subst eK
  have fo : ∀ {α' : Nat → Addr} {S' : SS} {σ' : L2.St} {H' : Hp}, AftS X G F0 α (S ++ List.replicate m .un) H α' S' σ' H' → Fin X.K G F0 H (outs io S') H' := fun a => Fin.of rfl hI r1 ho1 a
  revert hp
  cases g (S ++ List.replicate m .un) with
  | nx S1 => exact fun hp α' σ' H' a => hp .non H' (fo a) .non
  | rt d S1 => exact fun hp v α' σ' H' a dv => hp v H' (fo a) (dv.mono (pin_ext a.1))
  | rl l S1 =>
    intro hp p us α' σ' H' o
    refine hp p us H' ⟨o.aft.rl.ext, fun a u z => ?_, o.aft.dom, fun k i a e => ?_⟩ o.base (fun z => ?_) o.at_ (o.dv.mono (pin_ext o.aft.rl))
    · obtain ⟨n, z⟩ := hide_some z
      have n2 : ¬ Pin F0 a := fun m => n (pin_with.mpr (.inl m))
      have n3 : a ≠ p := fun m => n (pin_with.mpr (.inr m))
      refine pin_ext o.aft.rl a u (o.aft.ext a u ((hide_at fun m => ?_).trans z))
      rcases msk_with.mp m with m | m
      · exact n2 (msk_pin hI r1 ho1 m)
      · exact n3 m
    · have e : F0.I[k]? = some (i, a) := e
      have hm : (i, a) ∈ F0.I := List.mem_of_getElem? e
      obtain ⟨h1, l, h2⟩ := o.aft.rl.pin _ hm
      obtain ⟨_, _, _, vs, h4, h5⟩ := o.aft.rl.ow i l h2
      have h1 : α' i = a := h1
      rw [h1] at h4
      refine ⟨l, vs, ?_, h4, h5.mono (pin_ext o.aft.rl)⟩
      have hio : io[k]? = some i := by
        rw [← hI, List.getElem?_map, e]
        rfl
      have h2 : S1[i]? = some (SV.ow l) := h2
      simp only [outs, List.getElem?_map, hio, Option.map_some, List.getD_eq_getElem?_getD, h2, Option.getD_some]
    · rcases z with z | ⟨c, hc, e⟩
      · exact o.out z
      · obtain ⟨h1, h2⟩ := o.aft.rl.pin c hc
        exact o.own c.1 h2 (h1.trans e)
  | ex e S1 => exact fun hp cls dx α' σ' H' a xo => hp cls dx H' (fo a) (by
      obtain ⟨c1, c2⟩ := xo
      refine ⟨c1, ?_⟩
      cases dx with
      | none => exact c2
      | some x =>
        obtain ⟨fs, f1, f2, f3⟩ := c2
        exact ⟨fs, pin_ext a.1 _ _ f1, f2, f3.mono (pin_ext a.1)⟩)
  | bk S1 => exact fun hp => hp.elim
  | ct S1 => exact fun hp => hp.elim
  | bad => exact fun hp => hp.elim
end
end Fy
end
section
set_option Elab.async false
set_option linter.all false
set_option maxRecDepth 100000
set_option maxHeartbeats 2000000
namespace Fy
open PySem PySem.Spec PyProof.Rows L2
section
variable {X : Cx} {G : Kit} {W : WX} {io : List Nat} {F : Fm} {α α1 α' : Nat → Addr} {S S' S1 S2 : SS} {σ σ1 σ' : L2.St} {H H' H1 H2 : Hp}
/-! ### calls without lists to change -/
def Fo.r (o : Fo) (S : SS) : R D := match o with
  | .va d _ => .ok d S
  | .li l _ => .ok (.lst l) S
  | .ex e _ => .ex e S
  | .bad => .bad
def Fo.rl (o : Fo) (S : SS) : R (List D) := match o with
  | .li l _ => .ok l S
  | .ex e _ => .ex e S
  | _ => .bad
def eCall (f : SS → Fo) (fa : AF) : EF := fun S => (fa S).bind fun ds S1 => (f (ds.map SV.va)).r S1
def aCall (f : SS → Fo) (fa : AF) : AF := fun S => (fa S).bind fun ds S1 => (f (ds.map SV.va)).rl S1
/-- the frame of a callee -/
def Fm.call (F : Fm) (α : Nat → Addr) (S : SS) (H : Hp) : Fm := ⟨Msk F α S, H, []⟩
theorem no_ow {ds : List D} {i : Nat} : ¬ isOw (ds.map SV.va) i := by
  rintro ⟨l, h⟩
  rw [List.getElem?_map] at h
  cases q : ds[i]? with
  | none => rw [q] at h; cases h
  | some d => rw [q] at h; cases h
theorem call_msk {ds : List D} {a : Addr} : Msk (F.call α S H) α1 (ds.map SV.va) a ↔ Msk F α S a := by
  constructor
  · rintro (h | ⟨i, h, _⟩)
    · exact h
    · exact (no_ow h).elim
  · exact .inl
theorem call_pin {a : Addr} : Pin (F.call α S H) a ↔ Msk F α S a := by
  constructor
  · rintro (h | ⟨i, h, _⟩)
    · exact h
    · cases h
  · exact .inl
theorem hide_iff {B B' : Addr → Prop} (h : ∀ a, B a ↔ B' a) : Ext (hide B H) (hide B' H) := fun a o z => by
  obtain ⟨n, z⟩ := hide_some z
  exact (hide_at fun m => n ((h a).mpr m)).trans z
theorem call_rl (r : Rl X.K G F α S σ H) {vs : List V} {ds : List D} (dv : DvA X.K G (PH F α S H) vs ds) : Rl X.K G (F.call α S H) α (ds.map SV.va) (vs.map some) H := by
  refine ⟨by rw [List.length_map, List.length_map, dv.length], fun i d h => ?_, fun i l h => (no_ow ⟨l, h⟩).elim, fun i j h => (no_ow h).elim, Ext.refl _, fun a h => r.nB a h, fun p hp => (by cases hp)⟩
  rw [List.getElem?_map] at h
  cases q : ds[i]? with
  | none => rw [q] at h; cases h
  | some e =>
    rw [q] at h
    cases h
    obtain ⟨v, e1, e2⟩ := dv.get q
    refine ⟨v, by rw [List.getElem?_map, e1]; rfl, e2.mono (hide_iff fun a => call_msk.symm)⟩
theorem exOk_mono {K : PySem.W.Frag} (q : Ext H H') {e : Ex} {cls : Value} {dx : Option Addr} (h : ExOk K G H e cls dx) : ExOk K G H' e cls dx := by
  obtain ⟨c1, c2⟩ := h
  refine ⟨c1, ?_⟩
  cases dx with
  | none => exact c2
  | some x =>
    obtain ⟨fs, f1, f2, f3⟩ := c2
    exact ⟨fs, q _ _ f1, f2, f3.mono q⟩
/-- behind a call -/
theorem call_aft (r : Rl X.K G F α S σ H) {ls : List SV} (f : Fin X.K G (F.call α S H) H ls H') : Aft X G F α S σ H S H' := r.growA f.ext
theorem call_run {n : Nat} {f : SS → Fo} (r : Rl X.K G F α S σ H) {vs : List V} {ds : List D} (dv : DvA X.K G (PH F α S H) vs ds) (hn : ds.length = n) {Q : VK} (h : ((f (ds.map SV.va)).r S).post (fun d S' => ∀ v H', Aft X G F α S σ H S' H' → Dv X.K G (PH F α S' H') v d → Q v H') (Er X G W F α S σ H)) :
    FSp X.K G [] n f vs H Q (WE W σ) := by
  refine ⟨by rw [dv.length]; exact hn, F.call α S H, α, _, rfl, call_rl r dv, fun i h => (no_ow h).elim, ?_⟩
  revert h
  cases f (ds.map SV.va) with
  | va d ls => exact fun h v H' fn dv' => h v H' (call_aft r fn) (dv'.mono (hide_iff fun a => call_pin))
  | li l ls =>
    intro h p us H' fn hb hp hat dv'
    have np : ¬ Msk F α S p := fun m => hp (.inl m)
    have x1 : Ext (hide (Pin ((F.call α S H).with p)) H') (PH F α S H') := fun a o z => by
      obtain ⟨n, z⟩ := hide_some z
      exact (hide_at fun m => n (pin_with.mpr (.inl (.inl m)))).trans z
    exact h (.ref p) H' (r.growA fn.ext) (.lst ((hide_at np).trans hat) (dv'.mono x1))
  | ex e ls => exact fun h cls dx H' fn x => h cls dx H' (call_aft r fn) (exOk_mono (hide_iff fun a => call_pin) x)
  | bad => exact fun h => h.elim
theorem call_runL {n : Nat} {f : SS → Fo} (r : Rl X.K G F α S σ H) {vs : List V} {ds : List D} (dv : DvA X.K G (PH F α S H) vs ds) (hn : ds.length = n) {Q : VK} (h : ((f (ds.map SV.va)).rl S).post (fun ds S' => ∀ p vs H', H p = none → (∀ i : Nat, isOw S' i → α i ≠ p) → Aft X G (F.with p) α S σ H S' H' → H' p = some (.lst vs) → DvA X.K G (PH (F.with p) α S' H') vs ds → Q (.ref p) H') (Er X G W F α S σ H)) :
    FSp X.K G [] n f vs H Q (WE W σ) := by
  refine ⟨by rw [dv.length]; exact hn, F.call α S H, α, _, rfl, call_rl r dv, fun i h => (no_ow h).elim, ?_⟩
  revert h
  cases f (ds.map SV.va) with
  | va d ls => exact fun h => h.elim
  | li l ls =>
    intro h p us H' fn hb hp hat dv'
    have np : ¬ Msk F α S p := fun m => hp (.inl m)
    have hp0 : H p = none := hb
    have x1 : Ext (PH F α S H) (PH (F.with p) α S H') := fun a o z => by
      obtain ⟨n, z⟩ := hide_some z
      refine (hide_at fun m => ?_).trans (fn.ext a o z)
      rcases msk_with.mp m with m | m
      · exact n m
      · rw [m, hp0] at z; cases z
    have x2 : Ext (hide (Pin ((F.call α S H).with p)) H') (PH (F.with p) α S H') := fun a o z => by
      obtain ⟨n, z⟩ := hide_some z
      refine (hide_at fun m => n (pin_with.mpr ?_)).trans z
      rcases msk_with.mp m with m | m
      · exact .inl (.inl m)
      · exact .inr m
    have r2 := r.grow (H' := H') fn.ext
    refine h p us H' hp0 (r.notp hp0) ⟨⟨r2.len, fun i d e => ?_, fun i l e => ?_, r2.inj, r2.ext, fun a z => ?_, r2.pin⟩, fun a o z => x1 a o (with_ext a o z), fn.dom⟩ hat (dv'.mono x2)
    · obtain ⟨v, e1, e2⟩ := r.va i d e
      exact ⟨v, e1, e2.mono x1⟩
    · obtain ⟨e1, e2, e3, ws, e4, e5⟩ := r.ow i l e
      refine ⟨e1, fun z => ?_, e3, ws, fn.ext _ _ e4, e5.mono x1⟩
      rcases z with z | z
      · exact e2 z
      · rw [z, hp0] at e4; cases e4
    · rcases z with z | z
      · exact r2.ob a z
      · rw [z, hat]; intro w; cases w
  | ex e ls => exact fun h cls dx H' fn x => h cls dx H' (call_aft r fn) (exOk_mono (hide_iff fun a => call_pin) x)
  | bad => exact fun h => h.elim
def lenIs (n : Nat) (fa : AF) : Prop := ∀ S, (fa S).post (fun ds _ => ds.length = n) (fun _ _ => True) ∨ fa S = .bad
theorem len_nil : lenIs 0 aNil := fun S => .inl rfl
theorem len_cons {n : Nat} {fe : EF} {fa : AF} (h : lenIs n fa) : lenIs (n + 1) (aCons fe fa) := fun S => by
  unfold aCons
  cases fe S with
  | bad => exact .inr rfl
  | ex e S1 => exact .inl trivial
  | ok d S1 =>
    rcases h S1 with h | h
    · revert h
      cases q : fa S1 with
      | bad => exact fun h => h.elim
      | ex e S2 => exact fun h => .inl (by simp only [R.bind, q]; exact trivial)
      | ok ds S2 =>
        intro h
        refine .inl ?_
        simp only [R.bind, q, R.post, List.length_cons]
        exact congrArg (· + 1) h
    · exact .inr (by simp only [R.bind, h])
theorem je_call {k n : Nat} {f : Addr} {fd : FuncData} {ps : List Str} {g : SS → Fo} {x : Str} {p pos : Pos} {e : Expr} {es : List Expr} {fa : AF} (F : FnG X.prog X.w X.K X.mg X.base (CX X.prog X.w) k f fd ps (FSp X.K G [] n g)) (hr : Room k X.A) (hgd : X.A.guards = some []) (hg : Gl X x) (hm : X.mg x = some (.ref f)) (hk : PySem.W.keepIn X.K (.ref f) = true) (hb : L2.Binds X.K fd ps []) (tk : Takes X W) (ha : JA X G W io (e :: es) fa) (hl : lenIs n fa)
    (h1 : (x == ("__debug__" : Str)) = false := by decide) (h2 : starEach (e :: es) X.env = (false, eval e X.env) :: starEach es X.env := by rfl) (h3 : ((backTo pos (starEach es X.env)).any fun x => x.fst) = false := by rfl) : JE X G W io (.Call (.Name x p) (e :: es) [] pos) (eCall g fa) := by
  obtain ⟨t, pa, q⟩ := ha
  refine ⟨_, pe_callG F hr hgd hg hm hk hb (fun σ => passAt tk σ) pa h1 h2 h3, fun F α S σ H hI r Q h => ?_⟩
  unfold eCall at h
  rw [R.post_bind] at h
  have hlS := hl S
  refine q F α S σ H hI r _ ?_
  revert h hlS
  cases fa S with
  | bad => exact fun h _ => h.elim
  | ex e S1 => exact fun h _ => h
  | ok ds S1 =>
    intro h hn vs H1 a1 d1
    have hn : ds.length = n := by
      rcases hn with hn | hn
      · exact hn
      · cases hn
    refine call_run a1.1 d1 hn (R.post_mono h (fun d S2 h2 v H2 a2 d2 => h2 v H2 (a1.trans a2) d2) fun e S2 z => z.step a1)
theorem jl_call {k n : Nat} {f : Addr} {fd : FuncData} {ps : List Str} {g : SS → Fo} {x : Str} {p pos : Pos} {e : Expr} {es : List Expr} {fa : AF} (F : FnG X.prog X.w X.K X.mg X.base (CX X.prog X.w) k f fd ps (FSp X.K G [] n g)) (hr : Room k X.A) (hgd : X.A.guards = some []) (hg : Gl X x) (hm : X.mg x = some (.ref f)) (hk : PySem.W.keepIn X.K (.ref f) = true) (hb : L2.Binds X.K fd ps []) (tk : Takes X W) (ha : JA X G W io (e :: es) fa) (hl : lenIs n fa)
    (h1 : (x == ("__debug__" : Str)) = false := by decide) (h2 : starEach (e :: es) X.env = (false, eval e X.env) :: starEach es X.env := by rfl) (h3 : ((backTo pos (starEach es X.env)).any fun x => x.fst) = false := by rfl) : JL X G W io (.Call (.Name x p) (e :: es) [] pos) (aCall g fa) := by
  obtain ⟨t, pa, q⟩ := ha
  refine ⟨_, pe_callG F hr hgd hg hm hk hb (fun σ => passAt tk σ) pa h1 h2 h3, fun F α S σ H hI r Q h => ?_⟩
  unfold aCall at h
  rw [R.post_bind] at h
  have hlS := hl S
  refine q F α S σ H hI r _ ?_
  revert h hlS
  cases fa S with
  | bad => exact fun h _ => h.elim
  | ex e S1 => exact fun h _ => h
  | ok ds S1 =>
    intro h hn vs H1 a1 d1
    have hn : ds.length = n := by
      rcases hn with hn | hn
      · exact hn
      · cases hn
    refine call_runL a1.1 d1 hn (R.post_mono h (fun d S2 h2 p vs H2 hp hno a2 hat d2 => ?_) fun e S2 z => z.step a1)
    have np : ¬ Msk F α S1 p := a1.1.fresh hp
    refine h2 p vs H2 (a1.3 p hp) hno ⟨a2.1, fun b o z => ?_, fun b z => a1.3 b (a2.3 b z)⟩ hat d2
    obtain ⟨n1, z⟩ := hide_some z
    have n2 : ¬ Msk F α S b := fun m => n1 (msk_with.mpr (.inl m))
    obtain ⟨n3, z3⟩ := hide_some (a1.2 b o ((hide_at n2).trans z))
    refine a2.2 b o ((hide_at fun m => ?_).trans z3)
    rcases msk_with.mp m with m | m
    · exact n3 m
    · rw [m, hp] at z3; cases z3
end
end Fy
end
section
set_option Elab.async false
set_option linter.all false
set_option maxRecDepth 100000
set_option maxHeartbeats 2000000
namespace Fy
open PySem PySem.Spec PyProof.Rows L2
section
variable {X : Cx} {G : Kit} {W : WX} {io : List Nat} {F : Fm} {α α1 α' : Nat → Addr} {S S' S1 S2 : SS} {σ σ1 σ' : L2.St} {H H' H1 H2 : Hp}
/-! ### calls that hand on a list to change, as the first argument -/
def Fm.callP (F : Fm) (α : Nat → Addr) (S : SS) (H : Hp) (i : Nat) : Fm := ⟨fun a => Msk F α S a ∧ a ≠ α i, fun a => if a = α i then none else H a, [(0, α i)]⟩
theorem pOw {l : List D} {ds : List D} {j : Nat} (h : isOw (SV.ow l :: ds.map SV.va) j) : j = 0 := by
  cases j with
  | zero => rfl
  | succ j =>
    obtain ⟨m, h⟩ := h
    exact (no_ow ⟨m, h⟩).elim
theorem callP_pin {i : Nat} {l : List D} (h : S[i]? = some (SV.ow l)) {a : Addr} : Pin (F.callP α S H i) a ↔ Msk F α S a := by
  constructor
  · rintro (z | ⟨p, z, e⟩)
    · exact z.1
    · simp only [Fm.callP, List.mem_singleton] at z
      subst z
      exact .inr ⟨i, ⟨l, h⟩, e⟩
  · intro z
    by_cases e : a = α i
    · exact .inr ⟨(0, α i), by simp [Fm.callP], e.symm⟩
    · exact .inl ⟨z, e⟩
theorem callP_msk {i : Nat} {l : List D} (h : S[i]? = some (SV.ow l)) {ds : List D} {a : Addr} : Msk (F.callP α S H i) (fun _ => α i) (SV.ow l :: ds.map SV.va) a ↔ Msk F α S a := by
  constructor
  · rintro (z | ⟨j, z, e⟩)
    · exact z.1
    · exact .inr ⟨i, ⟨l, h⟩, e⟩
  · intro z
    by_cases e : a = α i
    · exact .inr ⟨0, ⟨l, rfl⟩, e.symm⟩
    · exact .inl ⟨z, e⟩
theorem callP_rl (r : Rl X.K G F α S σ H) {i : Nat} {l : List D} (h : S[i]? = some (SV.ow l)) {vs : List V} {ds : List D} (dv : DvA X.K G (PH F α S H) vs ds) : Rl X.K G (F.callP α S H i) (fun _ => α i) (SV.ow l :: ds.map SV.va) ((V.ref (α i) :: vs).map some) H := by
  refine ⟨by simp only [List.length_map, List.length_cons, dv.length], fun j d e => ?_, fun j m e => ?_, fun j k hj hk _ => (pOw hj).trans (pOw hk).symm, fun a o z => ?_, fun a z => r.nB a z.1, fun p hp => ?_⟩
  · cases j with
    | zero => cases e
    | succ j =>
      have e : (ds.map SV.va)[j]? = some (SV.va d) := e
      rw [List.getElem?_map] at e
      cases q : ds[j]? with
      | none => rw [q] at e; cases e
      | some e' =>
        rw [q] at e
        cases e
        obtain ⟨v, e1, e2⟩ := dv.get q
        refine ⟨v, ?_, e2.mono (hide_iff fun a => (callP_msk h).symm)⟩
        show (vs.map some)[j]? = _
        rw [List.getElem?_map, e1]
        rfl
  · obtain rfl := pOw ⟨m, e⟩
    cases e
    obtain ⟨h1, h2, h3, us, h4, h5⟩ := r.ow i l h
    exact ⟨rfl, fun z => z.2 rfl, if_pos rfl, us, h4, h5.mono (hide_iff fun a => (callP_msk h).symm)⟩
  · simp only [Fm.callP] at z
    split at z
    · cases z
    · exact z
  · simp only [Fm.callP, List.mem_singleton] at hp
    subst hp
    exact ⟨rfl, l, rfl⟩
theorem set_msk {i : Nat} {l m : List D} (h : S[i]? = some (SV.ow l)) {a : Addr} : Msk F α (S.set i (.ow m)) a ↔ Msk F α S a := by
  have own : ∀ j, isOw (S.set i (.ow m)) j ↔ isOw S j := fun j => by
    by_cases hj : i = j
    · subst hj
      constructor
      · intro _; exact ⟨l, h⟩
      · intro _; exact ⟨m, List.getElem?_set_self (lt_of_not_un h)⟩
    · unfold isOw
      rw [List.getElem?_set_ne hj]
  constructor
  · rintro (z | ⟨j, z, e⟩)
    · exact .inl z
    · exact .inr ⟨j, (own j).mp z, e⟩
  · rintro (z | ⟨j, z, e⟩)
    · exact .inl z
    · exact .inr ⟨j, (own j).mpr z, e⟩
/-- behind such a call: F' is F, perhaps with one more foreign place that is new -/
theorem callP_aft (r : Rl X.K G F α S σ H) {i : Nat} {l l' : List D} (h : S[i]? = some (SV.ow l)) {vs' : List V} (e : Ext (F.callP α S H i).Hb H') (hv : H' (α i) = some (.lst vs')) (dv : DvA X.K G (PH F α S H') vs' l') : Aft X G F α S σ H (S.set i (.ow l')) H' := by
  obtain ⟨h1, h2, h3, us, h4, h5⟩ := r.ow i l h
  have e0 : Ext H (upd H' (α i) (.lst us)) := fun a o z => by
    by_cases c : a = α i
    · subst c
      rw [h4] at z
      cases z
      exact upd_same
    · rw [upd_ne c]
      exact e a o (by simp only [Fm.callP, c, if_false]; exact z)
  have a := r.growA e0
  have x : Ext (PH F α S H') (PH F α S (upd H' (α i) (.lst us))) := fun b o z => by
    obtain ⟨n, z⟩ := hide_some z
    have nb : b ≠ α i := fun c => n (.inr ⟨i, ⟨l, h⟩, c.symm⟩)
    exact (hide_at n).trans ((upd_ne nb).trans z)
  have b := a.1.inPlace h (dv.mono x)
  have eq : upd (upd H' (α i) (.lst us)) (α i) (.lst vs') = H' := by
    funext b
    by_cases c : b = α i
    · subst c
      rw [upd_same, hv]
    · rw [upd_ne c, upd_ne c]
  rw [eq] at b
  exact a.trans b
def Fo.rP (o : Fo) (i : Nat) (S : SS) : R D := match o with
  | .va d [.ow l'] => .ok d (S.set i (.ow l'))
  | .li m [.ow l'] => .ok (.lst m) (S.set i (.ow l'))
  | .ex e [.ow l'] => .ex e (S.set i (.ow l'))
  | _ => .bad
def Fo.rlP (o : Fo) (i : Nat) (S : SS) : R (List D) := match o with
  | .li m [.ow l'] => .ok m (S.set i (.ow l'))
  | .ex e [.ow l'] => .ex e (S.set i (.ow l'))
  | _ => .bad
def eCallP (i : Nat) (f : SS → Fo) (fa : AF) : EF := fun S => match owAt S i with
  | none => .bad
  | some _ => (fa S).bind fun ds S1 => match owAt S1 i with
    | some l => (f (.ow l :: ds.map SV.va)).rP i S1
    | none => .bad
def aCallP (i : Nat) (f : SS → Fo) (fa : AF) : AF := fun S => match owAt S i with
  | none => .bad
  | some _ => (fa S).bind fun ds S1 => match owAt S1 i with
    | some l => (f (.ow l :: ds.map SV.va)).rlP i S1
    | none => .bad
theorem out_one {io : List Nat} {F : Fm} {ls : List SV} {a : Addr} (hI : F.I = [(0, a)]) (f : Fin X.K G F H ls H') : ∃ l vs, ls[0]? = some (.ow l) ∧ H' a = some (.lst vs) ∧ DvA X.K G (hide (Pin F) H') vs l := f.out 0 0 a (by rw [hI]; rfl)
theorem callP_run {n i : Nat} {f : SS → Fo} (r : Rl X.K G F α S σ H) {l : List D} (hi : S[i]? = some (SV.ow l)) {vs : List V} {ds : List D} (dv : DvA X.K G (PH F α S H) vs ds) (hn : ds.length = n) {Q : VK} (h : ((f (.ow l :: ds.map SV.va)).rP i S).post (fun d S' => ∀ v H', Aft X G F α S σ H S' H' → Dv X.K G (PH F α S' H') v d → Q v H') (Er X G W F α S σ H)) :
    FSp X.K G [0] (n + 1) f (.ref (α i) :: vs) H Q (WE W σ) := by
  refine ⟨by rw [List.length_cons, dv.length, hn], F.callP α S H i, fun _ => α i, _, rfl, callP_rl r hi dv, fun j hj => (by rw [pOw hj]; exact List.mem_singleton.mpr rfl), ?_⟩
  have pin : ∀ {H' : Hp}, Ext (hide (Pin (F.callP α S H i)) H') (PH F α S H') := hide_iff fun a => callP_pin hi
  have pin2 : ∀ {H' : Hp} {m : List D}, Ext (hide (Pin (F.callP α S H i)) H') (PH F α (S.set i (.ow m)) H') := hide_iff fun a => (callP_pin hi).trans (set_msk hi).symm
  revert h
  generalize f (.ow l :: ds.map SV.va) = o
  intro h
  cases o with
  | bad => exact h.elim
  | va d ls =>
    unfold Fo.rP at h
    split at h <;> rename_i e1 <;> first | (cases e1; done) | skip
    · cases e1
      intro v H' fn dv'
      obtain ⟨l2, vs', e2, e3, e4⟩ := out_one (io := []) rfl fn
      cases e2
      exact h v H' (callP_aft r hi fn.ext e3 (e4.mono pin)) (dv'.mono pin2)
    · exact h.elim
  | li m ls =>
    unfold Fo.rP at h
    split at h <;> rename_i e1 <;> first | (cases e1; done) | skip
    · cases e1
      intro p us H' fn hb hp hat dv'
      obtain ⟨l2, vs', e2, e3, e4⟩ := out_one (io := []) rfl fn
      cases e2
      have np : ¬ Msk F α S p := fun z => hp ((callP_pin hi).mpr z)
      have x1 : Ext (hide (Pin ((F.callP α S H i).with p)) H') (hide (Pin (F.callP α S H i)) H') := fun a o z => by
        obtain ⟨n, z⟩ := hide_some z
        exact (hide_at fun m => n (pin_with.mpr (.inl m))).trans z
      exact h (.ref p) H' (callP_aft r hi fn.ext e3 ((e4.mono x1).mono pin)) (.lst ((hide_at fun z => np ((set_msk hi).mp z)).trans hat) ((dv'.mono x1).mono pin2))
    · exact h.elim
  | ex e ls =>
    unfold Fo.rP at h
    split at h <;> rename_i e1 <;> first | (cases e1; done) | skip
    · cases e1
      intro cls dx H' fn x
      obtain ⟨l2, vs', e2, e3, e4⟩ := out_one (io := []) rfl fn
      cases e2
      exact h cls dx H' (callP_aft r hi fn.ext e3 (e4.mono pin)) (exOk_mono pin2 x)
    · exact h.elim
theorem callP_runL {n i : Nat} {f : SS → Fo} (r : Rl X.K G F α S σ H) {l : List D} (hi : S[i]? = some (SV.ow l)) {vs : List V} {ds : List D} (dv : DvA X.K G (PH F α S H) vs ds) (hn : ds.length = n) {Q : VK} (h : ((f (.ow l :: ds.map SV.va)).rlP i S).post (fun ds S' => ∀ p vs H', H p = none → (∀ i : Nat, isOw S' i → α i ≠ p) → Aft X G (F.with p) α S σ H S' H' → H' p = some (.lst vs) → DvA X.K G (PH (F.with p) α S' H') vs ds → Q (.ref p) H') (Er X G W F α S σ H)) :
    FSp X.K G [0] (n + 1) f (.ref (α i) :: vs) H Q (WE W σ) := by
  refine ⟨by rw [List.length_cons, dv.length, hn], F.callP α S H i, fun _ => α i, _, rfl, callP_rl r hi dv, fun j hj => (by rw [pOw hj]; exact List.mem_singleton.mpr rfl), ?_⟩
  have pin : ∀ {H' : Hp}, Ext (hide (Pin (F.callP α S H i)) H') (PH F α S H') := hide_iff fun a => callP_pin hi
  have pin2 : ∀ {H' : Hp} {m : List D}, Ext (hide (Pin (F.callP α S H i)) H') (PH F α (S.set i (.ow m)) H') := hide_iff fun a => (callP_pin hi).trans (set_msk hi).symm
  revert h
  generalize f (.ow l :: ds.map SV.va) = o
  intro h
  cases o with
  | bad => exact h.elim
  | va d ls => exact h.elim
  | li m ls =>
    unfold Fo.rlP at h
    split at h <;> rename_i e1 <;> first | (cases e1; done) | skip
    · rename_i mx l2
      cases e1
      intro p us H' fn hb hp hat dv'
      obtain ⟨l3, vs', e2, e3, e4⟩ := out_one (io := []) rfl fn
      cases e2
      obtain ⟨_, _, _, ws, h4, _⟩ := r.ow i l hi
      have npi : p ≠ α i := fun z => hp ((callP_pin hi).mpr (.inr ⟨i, ⟨l, hi⟩, z.symm⟩))
      have hp0 : H p = none := by
        have hb : (if p = α i then none else H p) = none := hb
        rw [if_neg npi] at hb
        exact hb
      -- as if p were foreign from the start
      have no : ∀ j : Nat, isOw S j → α j ≠ p := r.notp hp0
      have A := callP_aft (F := F) (l' := l2) r hi fn.ext e3 (?_ : DvA X.K G (PH F α S H') vs' l2)
      · have no2 : ∀ j : Nat, isOw (S.set i (.ow l2)) j → α j ≠ p := fun j hj => by
          by_cases c : i = j
          · subst c; exact fun z => npi z.symm
          · obtain ⟨m', hm⟩ := hj
            rw [List.getElem?_set_ne c] at hm
            exact no j ⟨m', hm⟩
        have msk2 : ∀ a, Msk (F.with p) α (S.set i (.ow l2)) a ↔ Pin ((F.callP α S H i).with p) a := fun a => by
          rw [msk_with, pin_with]
          constructor
          · rintro (z | z)
            · exact .inl ((callP_pin hi).mpr ((set_msk hi).mp z))
            · exact .inr z
          · rintro (z | z)
            · exact .inl ((set_msk hi).mpr ((callP_pin hi).mp z))
            · exact .inr z
        -- values of before don't see p
        have x0 : Ext (PH F α S H) (PH (F.with p) α (S.set i (.ow l2)) H') := fun a o z => by
          have na : a ≠ p := fun c => by
            obtain ⟨_, z⟩ := hide_some z
            rw [c, hp0] at z; cases z
          obtain ⟨n, z'⟩ := hide_some (A.2 a o z)
          refine (hide_at fun m => ?_).trans z'
          rcases msk_with.mp m with m | m
          · exact n m
          · exact na m
        refine h p us H' hp0 no2 ⟨⟨A.1.len, fun j d e => ?_, fun j m e => ?_, A.1.inj, A.1.ext, fun a z => ?_, A.1.pin⟩, fun a o z => x0 a o (with_ext a o z), A.3⟩ hat (dv'.mono (hide_iff fun a => (msk2 a).symm))
        · have hj : i ≠ j := fun hj => by
            subst hj
            rw [List.getElem?_set_self (lt_of_not_un hi)] at e
            cases e
          rw [List.getElem?_set_ne hj] at e
          obtain ⟨v, e1, e2⟩ := r.va j d e
          exact ⟨v, e1, e2.mono x0⟩
        · by_cases hj : i = j
          · subst hj
            rw [List.getElem?_set_self (lt_of_not_un hi)] at e
            cases e
            obtain ⟨g1, g2, g3, _⟩ := r.ow i l hi
            refine ⟨g1, fun z => ?_, g3, vs', e3, e4.mono (hide_iff fun a => (msk2 a).symm)⟩
            rcases z with z | z
            · exact g2 z
            · exact npi z.symm
          · rw [List.getElem?_set_ne hj] at e
            obtain ⟨g1, g2, g3, ws', g4, g5⟩ := r.ow j m e
            have nj : α j ≠ α i := fun z => hj (r.inj j i ⟨m, e⟩ ⟨l, hi⟩ z).symm
            refine ⟨g1, fun z => ?_, g3, ws', fn.ext _ _ (by show (if α j = α i then none else H (α j)) = _; rw [if_neg nj]; exact g4), g5.mono x0⟩
            rcases z with z | z
            · exact g2 z
            · exact no j ⟨m, e⟩ z
        · rcases z with z | z
          · exact A.1.ob a z
          · rw [z, hat]; intro w; cases w
      · refine e4.mono fun a o z => ?_
        obtain ⟨n, z⟩ := hide_some z
        exact (hide_at fun m => n (pin_with.mpr (.inl ((callP_pin hi).mpr m)))).trans z
    · exact h.elim
  | ex e ls =>
    unfold Fo.rlP at h
    split at h <;> rename_i e1 <;> first | (cases e1; done) | skip
    · cases e1
      intro cls dx H' fn x
      obtain ⟨l2, vs', e2, e3, e4⟩ := out_one (io := []) rfl fn
      cases e2
      exact h cls dx H' (callP_aft r hi fn.ext e3 (e4.mono pin)) (exOk_mono pin2 x)
    · exact h.elim
theorem je_callP {k n i : Nat} {f : Addr} {fd : FuncData} {ps : List Str} {g : SS → Fo} {x y : Str} {p py pos : Pos} {es : List Expr} {fa : AF} (F : FnG X.prog X.w X.K X.mg X.base (CX X.prog X.w) k f fd ps (FSp X.K G [0] (n + 1) g)) (hr : Room k X.A) (hgd : X.A.guards = some []) (hg : Gl X x) (hm : X.mg x = some (.ref f)) (hk : PySem.W.keepIn X.K (.ref f) = true) (hb : L2.Binds X.K fd ps []) (tk : Takes X W)
    (hN : X.N[i]? = some y) (hv : Vis X.env.scope y) (ha : JA X G W io es fa) (hl : lenIs n fa)
    (h1 : (x == ("__debug__" : Str)) = false := by decide) (h2 : starEach (.Name y py :: es) X.env = (false, eval (.Name y py) X.env) :: starEach es X.env := by rfl) (h3 : ((backTo pos (starEach es X.env)).any fun x => x.fst) = false := by rfl) (hd : (y == ("__debug__" : Str)) = false := by decide) (hcd : (y == ("__classdict__" : Str)) = false := by decide) : JE X G W io (.Call (.Name x p) (.Name y py :: es) [] pos) (eCallP i g fa) := by
  obtain ⟨t, pa, q⟩ := ha
  refine ⟨_, pe_callG F hr hgd hg hm hk hb (fun σ => passAt tk σ) (pa_cons (pe_var hN hv hd hcd) pa h2) h1 h2 h3, fun F α S σ H hI r Q h => ?_⟩
  unfold eCallP at h
  cases c : owAt S i with
  | none => rw [c] at h; exact h.elim
  | some l0 =>
    simp only [c] at h
    obtain ⟨g1, _⟩ := r.ow i l0 (owAt_some c)
    refine ⟨_, g1, ?_⟩
    rw [R.post_bind] at h
    have hlS := hl S
    refine q F α S σ H hI r _ ?_
    revert h hlS
    cases fa S with
    | bad => exact fun h _ => h.elim
    | ex e S1 => exact fun h _ => h
    | ok ds S1 =>
      intro h hn vs H1 a1 d1
      have hn : ds.length = n := by
        rcases hn with hn | hn
        · exact hn
        · cases hn
      cases c1 : owAt S1 i with
      | none => simp only [R.post, c1] at h
      | some l =>
        simp only [R.post, c1] at h
        exact callP_run a1.1 (owAt_some c1) d1 hn (R.post_mono (show ((g (.ow l :: ds.map SV.va)).rP i S1).post _ _ from h) (fun d S2 h2 v H2 a2 d2 => h2 v H2 (a1.trans a2) d2) fun e S2 z => z.step a1)
theorem jl_callP {k n i : Nat} {f : Addr} {fd : FuncData} {ps : List Str} {g : SS → Fo} {x y : Str} {p py pos : Pos} {es : List Expr} {fa : AF} (F : FnG X.prog X.w X.K X.mg X.base (CX X.prog X.w) k f fd ps (FSp X.K G [0] (n + 1) g)) (hr : Room k X.A) (hgd : X.A.guards = some []) (hg : Gl X x) (hm : X.mg x = some (.ref f)) (hk : PySem.W.keepIn X.K (.ref f) = true) (hb : L2.Binds X.K fd ps []) (tk : Takes X W)
    (hN : X.N[i]? = some y) (hv : Vis X.env.scope y) (ha : JA X G W io es fa) (hl : lenIs n fa)
    (h1 : (x == ("__debug__" : Str)) = false := by decide) (h2 : starEach (.Name y py :: es) X.env = (false, eval (.Name y py) X.env) :: starEach es X.env := by rfl) (h3 : ((backTo pos (starEach es X.env)).any fun x => x.fst) = false := by rfl) (hd : (y == ("__debug__" : Str)) = false := by decide) (hcd : (y == ("__classdict__" : Str)) = false := by decide) : JL X G W io (.Call (.Name x p) (.Name y py :: es) [] pos) (aCallP i g fa) := by
  obtain ⟨t, pa, q⟩ := ha
  refine ⟨_, pe_callG F hr hgd hg hm hk hb (fun σ => passAt tk σ) (pa_cons (pe_var hN hv hd hcd) pa h2) h1 h2 h3, fun F α S σ H hI r Q h => ?_⟩
  unfold aCallP at h
  cases c : owAt S i with
  | none => rw [c] at h; exact h.elim
  | some l0 =>
    simp only [c] at h
    obtain ⟨g1, _⟩ := r.ow i l0 (owAt_some c)
    refine ⟨_, g1, ?_⟩
    rw [R.post_bind] at h
    have hlS := hl S
    refine q F α S σ H hI r _ ?_
    revert h hlS
    cases fa S with
    | bad => exact fun h _ => h.elim
    | ex e S1 => exact fun h _ => h
    | ok ds S1 =>
      intro h hn vs H1 a1 d1
      have hn : ds.length = n := by
        rcases hn with hn | hn
        · exact hn
        · cases hn
      cases c1 : owAt S1 i with
      | none => simp only [R.post, c1] at h
      | some l =>
        simp only [R.post, c1] at h
        refine callP_runL a1.1 (owAt_some c1) d1 hn (R.post_mono (show ((g (.ow l :: ds.map SV.va)).rlP i S1).post _ _ from h) (fun d S2 h2 p vs H2 hp hno a2 hat d2 => ?_) fun e S2 z => z.step a1)
        have np : ¬ Msk F α S1 p := a1.1.fresh hp
        refine h2 p vs H2 (a1.3 p hp) hno ⟨a2.1, fun b o z => ?_, fun b z => a1.3 b (a2.3 b z)⟩ hat d2
        obtain ⟨n1, z⟩ := hide_some z
        have n2 : ¬ Msk F α S b := fun m => n1 (msk_with.mpr (.inl m))
        obtain ⟨n3, z3⟩ := hide_some (a1.2 b o ((hide_at n2).trans z))
        refine a2.2 b o ((hide_at fun m => ?_).trans z3)
        rcases msk_with.mp m with m | m
        · exact n3 m
        · rw [m, hp] at z3; cases z3
/-- return of a list of one's own, for the caller to change -/
def sRetO (io : List Nat) (i : Nat) : SF := fun S => match owAt S i with
  | some l => if io.contains i then .bad else .rl l (S.set i .un)
  | none => .bad
theorem js_retO {i : Nat} {x : Str} {p pos : Pos} (hN : X.N[i]? = some x) (hv : Vis X.env.scope x) (hd : (x == ("__debug__" : Str)) = false := by decide) (hcd : (x == ("__classdict__" : Str)) = false := by decide) : JS X G W io (.Return (some (.Name x p)) pos) (sRetO io i) := by
  refine ⟨_, ps_ret (pe_var hN hv hd hcd), fun F α S σ H hI r E h => ?_⟩
  unfold sRetO at h
  cases c : owAt S i with
  | none => simp only [c] at h; exact h.elim
  | some l =>
    simp only [c] at h
    cases ci : io.contains i with
    | true => simp only [ci, if_true] at h; exact h.elim
    | false =>
      simp only [ci] at h
      have hi := owAt_some c
      have hl := lt_of_not_un hi
      obtain ⟨h1, h2, h3, vs, h4, h5⟩ := r.ow i l hi
      refine ⟨_, h1, ?_⟩
      have own : ∀ j, isOw (S.set i .un) j → isOw S j ∧ j ≠ i := fun j ⟨m, e⟩ => by
        by_cases hj : i = j
        · subst hj
          rw [List.getElem?_set_self hl] at e
          cases e
        · rw [List.getElem?_set_ne hj] at e
          exact ⟨⟨m, e⟩, fun z => hj z.symm⟩
      have msk : ∀ a, Msk (F.with (α i)) α (S.set i .un) a → Msk F α S a := fun a z => by
        rcases z with (z | z) | ⟨j, z, e⟩
        · exact .inl z
        · exact .inr ⟨i, ⟨l, hi⟩, z.symm⟩
        · exact .inr ⟨j, (own j z).1, e⟩
      have q : Ext (PH F α S H) (PH (F.with (α i)) α (S.set i .un) H) := fun a o z => by
        obtain ⟨n, z⟩ := hide_some z
        exact (hide_at fun w => n (msk a w)).trans z
      have oo : ∀ j, isOw (S.set i .un) j → α j ≠ α i := fun j hj e => (own j hj).2 (r.inj j i (own j hj).1 ⟨l, hi⟩ e)
      refine h (α i) vs α σ H ⟨⟨⟨by rw [List.length_set]; exact r.len, fun j d e => ?_, fun j m e => ?_, fun j k hj hk e => r.inj j k (own j hj).1 (own k hk).1 e, r.ext, fun a z => ?_, fun p hp => ?_⟩, fun a o z => q a o (with_ext a o z), fun _ z => z⟩, h3, h2, oo, h4, h5.mono q⟩
      · have hj : i ≠ j := fun hj => by
          subst hj
          rw [List.getElem?_set_self hl] at e
          cases e
        rw [List.getElem?_set_ne hj] at e
        obtain ⟨v, e1, e2⟩ := r.va j d e
        exact ⟨v, e1, e2.mono q⟩
      · have hj := (own j ⟨m, e⟩).2
        have hj' := oo j ⟨m, e⟩
        rw [List.getElem?_set_ne (Ne.symm hj)] at e
        obtain ⟨g1, g2, g3, us, g4, g5⟩ := r.ow j m e
        refine ⟨g1, fun z => ?_, g3, us, g4, g5.mono q⟩
        rcases z with z | z
        · exact g2 z
        · exact hj' z
      · rcases z with z | z
        · exact r.ob a z
        · rw [z, h4]; intro w; cases w
      · obtain ⟨p1, m, p2⟩ := r.pin p hp
        exact ⟨p1, m, (List.getElem?_set_ne (not_pin hI ci hp)).trans p2⟩
end
end Fy
end
section
set_option Elab.async false
set_option linter.all false
set_option maxRecDepth 100000
set_option maxHeartbeats 2000000
namespace Fy
open PySem PySem.Spec PyProof.Rows L2
section
variable {X : Cx} {G : Kit} {W : WX} {io : List Nat} {F : Fm} {α α1 α' : Nat → Addr} {S S' S1 S2 : SS} {σ σ1 σ' : L2.St} {H H' H1 H2 : Hp}
/-! ### comprehensions -/
theorem wipe_get : ∀ (vs : List Nat) (σ : L2.St) (j : Nat), (wipe σ vs)[j]? = if j ∈ vs then σ[j]?.map (fun _ => none) else σ[j]?
  | [], σ, j => by simp [wipe]
  | i :: r, σ, j => by
    have ih := wipe_get r σ j
    simp only [wipe, List.mem_cons]
    by_cases h : i = j
    · subst h
      rw [List.getElem?_set]
      have hl : (wipe σ r).length = σ.length := wipe_len r σ
      simp only [true_or, if_true, hl]
      by_cases c : i < σ.length
      · rw [if_pos c, List.getElem?_eq_getElem c]; rfl
      · rw [if_neg c, List.getElem?_eq_none (by omega)]; rfl
    · rw [List.getElem?_set_ne h, ih]
      have h' : ¬ j = i := fun z => h z.symm
      simp only [h', false_or]
where
  wipe_len : ∀ (vs : List Nat) (σ : L2.St), (wipe σ vs).length = σ.length
    | [], σ => by simp [wipe]
    | i :: r, σ => by simp only [wipe, List.length_set, wipe_len r σ]
theorem wipe_len (vs : List Nat) (σ : L2.St) : (wipe σ vs).length = σ.length := wipe_get.wipe_len vs σ
def wipeS (S : SS) : List Nat → SS
  | [] => S
  | i :: r => (wipeS S r).set i .un
theorem wipeS_len : ∀ (vs : List Nat) (S : SS), (wipeS S vs).length = S.length
  | [], S => rfl
  | i :: r, S => by simp only [wipeS, List.length_set, wipeS_len r S]
theorem wipeS_get : ∀ (vs : List Nat) (S : SS) (j : Nat), (wipeS S vs)[j]? = if j ∈ vs then S[j]?.map (fun _ => .un) else S[j]?
  | [], S, j => by simp [wipeS]
  | i :: r, S, j => by
    have ih := wipeS_get r S j
    simp only [wipeS, List.mem_cons]
    by_cases h : i = j
    · subst h
      rw [List.getElem?_set]
      simp only [true_or, if_true, wipeS_len]
      by_cases c : i < S.length
      · rw [if_pos c, List.getElem?_eq_getElem c]; rfl
      · rw [if_neg c, List.getElem?_eq_none (by omega)]; rfl
    · rw [List.getElem?_set_ne h, ih]
      have h' : ¬ j = i := fun z => h z.symm
      simp only [h', false_or]
def putS (S0 S : SS) : List Nat → SS
  | [] => S
  | i :: r => (putS S0 S r).set i (S0.getD i .un)
theorem putS_len : ∀ (vs : List Nat) (S0 S : SS), (putS S0 S vs).length = S.length
  | [], S0, S => rfl
  | i :: r, S0, S => by simp only [putS, List.length_set, putS_len r S0 S]
theorem putS_get : ∀ (vs : List Nat) (S0 S : SS) (j : Nat), (putS S0 S vs)[j]? = if j ∈ vs then S[j]?.map (fun _ => S0.getD j .un) else S[j]?
  | [], S0, S, j => by simp [putS]
  | i :: r, S0, S, j => by
    have ih := putS_get r S0 S j
    simp only [putS, List.mem_cons]
    by_cases h : i = j
    · subst h
      rw [List.getElem?_set]
      simp only [true_or, if_true, putS_len]
      by_cases c : i < S.length
      · rw [if_pos c, List.getElem?_eq_getElem c]; rfl
      · rw [if_neg c, List.getElem?_eq_none (by omega)]; rfl
    · rw [List.getElem?_set_ne h, ih]
      have h' : ¬ j = i := fun z => h z.symm
      simp only [h', false_or]
def noOw (own : List Nat) (S : SS) : Bool := own.all fun i => match S[i]? with
  | some (.ow _) => false
  | _ => true
theorem noOw_ok {own : List Nat} (h : noOw own S = true) {j : Nat} (hj : j ∈ own) : ¬ isOw S j := by
  rintro ⟨l, e⟩
  have := List.all_eq_true.mp h j hj
  rw [e] at this
  cases this
theorem wipe_ow {own : List Nat} (h : noOw own S = true) {j : Nat} : isOw (wipeS S own) j ↔ isOw S j := by
  by_cases hj : j ∈ own
  · constructor
    · rintro ⟨l, e⟩
      rw [wipeS_get, if_pos hj] at e
      cases q : S[j]? with
      | none => rw [q] at e; cases e
      | some x => rw [q] at e; cases e
    · exact fun z => (noOw_ok h hj z).elim
  · unfold isOw
    rw [wipeS_get, if_neg hj]
theorem msk_of {a : Addr} (h : ∀ j, isOw S j ↔ isOw S' j) : Msk F α S a ↔ Msk F α S' a := by
  constructor
  · rintro (z | ⟨j, z, e⟩)
    · exact .inl z
    · exact .inr ⟨j, (h j).mp z, e⟩
  · rintro (z | ⟨j, z, e⟩)
    · exact .inl z
    · exact .inr ⟨j, (h j).mpr z, e⟩
/-- slots that are forgotten -/
theorem Rl.wipe {own : List Nat} (r : Rl X.K G F α S σ H) (h : noOw own S = true) : Rl X.K G F α (wipeS S own) (L2.wipe σ own) H := by
  have ow : ∀ j, isOw (wipeS S own) j ↔ isOw S j := fun j => wipe_ow h
  have q : Ext (PH F α S H) (PH F α (wipeS S own) H) := hide_iff fun a => (msk_of ow).symm
  have nown : ∀ j (x : SV), (wipeS S own)[j]? = some x → x ≠ .un → j ∉ own ∧ S[j]? = some x := fun j x e n => by
    rw [wipeS_get] at e
    split at e
    · cases q : S[j]? with
      | none => rw [q] at e; cases e
      | some y => rw [q] at e; cases e; exact (n rfl).elim
    · exact ⟨by assumption, e⟩
  refine ⟨by rw [wipe_len, wipeS_len]; exact r.len, fun j d e => ?_, fun j l e => ?_, fun j k hj hk => r.inj j k ((ow j).mp hj) ((ow k).mp hk), r.ext, r.ob, fun p hp => ?_⟩
  · obtain ⟨n, e⟩ := nown j _ e (by intro z; cases z)
    obtain ⟨v, e1, e2⟩ := r.va j d e
    exact ⟨v, by rw [wipe_get, if_neg n]; exact e1, e2.mono q⟩
  · obtain ⟨n, e⟩ := nown j _ e (by intro z; cases z)
    obtain ⟨e1, e2, e3, vs, e4, e5⟩ := r.ow j l e
    exact ⟨by rw [wipe_get, if_neg n]; exact e1, e2, e3, vs, e4, e5.mono q⟩
  · obtain ⟨e1, e2⟩ := r.pin p hp
    exact ⟨e1, (ow _).mpr e2⟩
/-- what is masked may change -/
theorem hide_upd {B : Addr → Prop} {p : Addr} {o : HO} (hp : B p) : hide B (upd H p o) = hide B H := by
  funext a
  unfold hide
  by_cases c : B a
  · rw [if_pos c, if_pos c]
  · rw [if_neg c, if_neg c]
    exact upd_ne fun z => c (by rw [z]; exact hp)
theorem Rl.updF {p : Addr} {o : HO} (r : Rl X.K G (F.with p) α S σ H) (hb : F.Hb p = none) : Rl X.K G (F.with p) α S σ (upd H p o) := by
  have m : Msk (F.with p) α S p := .inl (.inr rfl)
  have e : PH (F.with p) α S (upd H p o) = PH (F.with p) α S H := hide_upd m
  refine ⟨r.len, fun i d h => ?_, fun i l h => ?_, r.inj, fun a u z => ?_, fun a z => ?_, r.pin⟩
  · rw [e]; exact r.va i d h
  · obtain ⟨h1, h2, h3, vs, h4, h5⟩ := r.ow i l h
    have n : α i ≠ p := fun z => h2 (.inr z)
    rw [e]
    exact ⟨h1, h2, h3, vs, (upd_ne n).trans h4, h5⟩
  · have n : a ≠ p := fun z' => by
      have z : F.Hb a = some u := z
      rw [z', hb] at z; cases z
    exact (upd_ne n).trans (r.ext a u z)
  · by_cases c : a = p
    · rw [c, upd_same]; intro w; cases w
    · rw [upd_ne c]; exact r.ob a z
/-- the frame of a turn: the list that is made stands still -/
def Fm.turn (F : Fm) (p : Addr) (o : HO) : Fm := ⟨fun a => F.O a ∨ a = p, fun a => if a = p then some o else F.Hb a, F.I⟩
theorem turn_msk {p a : Addr} {o : HO} : Msk (F.turn p o) α S a ↔ Msk (F.with p) α S a := Iff.rfl
theorem Rl.turn {p : Addr} {o : HO} (r : Rl X.K G (F.with p) α S σ H) (hp : H p = some o) : Rl X.K G (F.turn p o) α S σ H := by
  refine ⟨r.len, r.va, fun i l h => ?_, r.inj, fun a u z => ?_, r.ob, r.pin⟩
  · obtain ⟨h1, h2, h3, vs, h4, h5⟩ := r.ow i l h
    have n : α i ≠ p := fun z => h2 (.inr z)
    refine ⟨h1, h2, ?_, vs, h4, h5⟩
    show (if α i = p then some o else F.Hb (α i)) = none
    rw [if_neg n]
    exact h3
  · have z : (if a = p then some o else F.Hb a) = some u := z
    split at z
    · rename_i c
      cases z
      rw [c]; exact hp
    · exact r.ext a u z
theorem Rl.unturn {p : Addr} {o : HO} (r : Rl X.K G (F.turn p o) α S σ H) (hb : F.Hb p = none) : Rl X.K G (F.with p) α S σ H ∧ H p = some o := by
  refine ⟨⟨r.len, r.va, fun i l h => ?_, r.inj, fun a u z => ?_, r.ob, r.pin⟩, r.ext p o (if_pos rfl)⟩
  · obtain ⟨h1, h2, h3, vs, h4, h5⟩ := r.ow i l h
    have n : α i ≠ p := fun z => h2 (.inr z)
    have h3 : (if α i = p then some o else F.Hb (α i)) = none := h3
    rw [if_neg n] at h3
    exact ⟨h1, h2, h3, vs, h4, h5⟩
  · refine r.ext a u ?_
    show (if a = p then some o else F.Hb a) = some u
    have n : a ≠ p := fun z' => by
      have z : F.Hb a = some u := z
      rw [z', hb] at z; cases z
    rw [if_neg n]
    exact z
/-- tests of a comprehension -/
def JTs (X : Cx) (G : Kit) (W : WX) (io : List Nat) (es : List Expr) (f : TF) : Prop := ∃ t, PTs X es t ∧ ∀ F α S σ H, F.I.map (·.1) = io → Rl X.K G F α S σ H → ∀ Q : Bool → Hp → Prop,
  (f S).post (fun b S' => ∀ H', Aft X G F α S σ H S' H' → Q b H') (Er X G W F α S σ H) → t σ H Q
def tsYes : TF := fun S => .ok true S
theorem jts_nil : JTs X G W io [] tsYes := ⟨_, pts_nil, fun F α S σ H _ r Q h => h H (Aft.refl r)⟩
theorem jts_one {c : Expr} {f : TF} (h : JT X G W io c f) : JTs X G W io [c] f := by
  obtain ⟨t, p, q⟩ := h
  exact ⟨t, pts_one p, q⟩
def comp (own : List Nat) (g : GF) (tt : TF) (fe : EF) : List D → SS → List D → R (List D)
  | [], S, acc => .ok acc S
  | d :: r, S, acc => match g d S with
    | none => .bad
    | some S1 => match tt S1 with
      | .ok true S2 => match fe S2 with
        | .ok y S3 => if okLen (acc.length + 1) && noOw own S3 then comp own g tt fe r (wipeS S3 own) (acc ++ [y]) else .bad
        | _ => .bad
      | .ok false S2 => if noOw own S2 then comp own g tt fe r (wipeS S2 own) acc else .bad
      | _ => .bad
def compAt (own : List Nat) (g : GF) (tt : TF) (fe : EF) (ds : List D) : AF := fun S1 => if noOw own S1 then match comp own g tt fe ds (wipeS S1 own) [] with
    | .ok l S2 => .ok l (putS S1 S2 own)
    | _ => .bad
  else .bad
def aComp (own : List Nat) (f : AF) (g : GF) (tt : TF) (fe : EF) : AF := fun S => (f S).bind (compAt own g tt fe)
def W0 : WX := fun _ _ _ _ => False
theorem wipe_same {ts vs : List Nat} (o : Off ts σ σ') (h : ∀ j ∈ ts, j ∈ vs) : L2.wipe σ' vs = L2.wipe σ vs := by
  apply List.ext_getElem?
  intro j
  rw [wipe_get, wipe_get]
  by_cases c : j ∈ vs
  · rw [if_pos c, if_pos c]
    by_cases d : j < σ.length
    · rw [List.getElem?_eq_getElem d, List.getElem?_eq_getElem (by rw [o.len]; exact d)]; rfl
    · rw [List.getElem?_eq_none (show σ'.length ≤ j by rw [o.len]; omega), List.getElem?_eq_none (show σ.length ≤ j by omega)]
  · rw [if_neg c, if_neg c]
    exact o.at_ j fun z => c (h j z)
theorem comp_run {elt tg iter : Expr} {ifs : List Expr} {scope : Scope} {own : List (Str × Nat)} {ts : List Nat} {f : AF} {g : GF} {tt : TF} {fe : EF} (hi : JI X G W io tg iter f)
    (hg : ∀ (s : Shared) (H : Hp) (C : Addr) (cl : List (Str × Addr)) (fp : List Addr), JG (X.blk s H scope (compEnvC scope cl C X.env) fp) G io tg ts g)
    (ht : ∀ (s : Shared) (H : Hp) (C : Addr) (cl : List (Str × Addr)) (fp : List Addr), JTs (X.blk s H scope (compEnvC scope cl C X.env) fp) G W0 io ifs tt)
    (he : ∀ (s : Shared) (H : Hp) (C : Addr) (cl : List (Str × Addr)) (fp : List Addr), JE (X.blk s H scope (compEnvC scope cl C X.env) fp) G W0 io elt fe)
    (hts : ts.all (fun j => (own.map (·.2)).contains j) = true) :
    ∃ wi tg' tt' te', PI X tg iter wi ∧ (∀ (s : Shared) (H : Hp) (C : Addr) (cl : List (Str × Addr)) (fp : List Addr), PG (X.blk s H scope (compEnvC scope cl C X.env) fp) tg tg') ∧
      (∀ (s : Shared) (H : Hp) (C : Addr) (cl : List (Str × Addr)) (fp : List Addr), PTs (X.blk s H scope (compEnvC scope cl C X.env) fp) ifs tt') ∧
      (∀ (s : Shared) (H : Hp) (C : Addr) (cl : List (Str × Addr)) (fp : List Addr), PE (X.blk s H scope (compEnvC scope cl C X.env) fp) elt te') ∧
      ∀ F α S σ H, F.I.map (·.1) = io → Rl X.K G F α S σ H → ∀ Q : VK,
        (aComp (own.map (·.2)) f g tt fe S).post (fun ds S' => ∀ p vs H', H p = none → (∀ i : Nat, isOw S' i → α i ≠ p) → Aft X G (F.with p) α S σ H S' H' → H' p = some (.lst vs) → DvA X.K G (PH (F.with p) α S' H') vs ds → Q (.ref p) H') (Er X G W F α S σ H) → tLc wi tg' tt' te' (own.map (·.2)) σ H Q := by
  obtain ⟨wi, pi, qi⟩ := hi
  have hg' : ∃ tg' : (Shared × Hp × Addr × List (Str × Addr) × List Addr) → TG, ∀ z, _ := Classical.axiomOfChoice fun z : Shared × Hp × Addr × List (Str × Addr) × List Addr => hg z.1 z.2.1 z.2.2.1 z.2.2.2.1 z.2.2.2.2
  have ht' : ∃ tt' : (Shared × Hp × Addr × List (Str × Addr) × List Addr) → TT, ∀ z, _ := Classical.axiomOfChoice fun z : Shared × Hp × Addr × List (Str × Addr) × List Addr => ht z.1 z.2.1 z.2.2.1 z.2.2.2.1 z.2.2.2.2
  have he' : ∃ te' : (Shared × Hp × Addr × List (Str × Addr) × List Addr) → TE, ∀ z, _ := Classical.axiomOfChoice fun z : Shared × Hp × Addr × List (Str × Addr) × List Addr => he z.1 z.2.1 z.2.2.1 z.2.2.2.1 z.2.2.2.2
  obtain ⟨tg', hg'⟩ := hg'
  obtain ⟨tt', ht'⟩ := ht'
  obtain ⟨te', he'⟩ := he'
  refine ⟨wi, fun v σ H Q => ∀ z, tg' z v σ H Q, fun σ H Q => ∀ z, tt' z σ H Q, fun σ H Q => ∀ z, te' z σ H Q, pi,
    (fun s H C cl fp => ⟨fun pins s' σ H' v u Q I r q => (hg' (s, H, C, cl, fp)).1.run pins s' σ H' v u Q I r (q _)⟩),
    (fun s H C cl fp => ⟨fun pins s' σ H' Q I q => (ht' (s, H, C, cl, fp)).1.run pins s' σ H' Q I (q _)⟩),
    (fun s H C cl fp => ⟨fun pins s' σ H' Q I q => (he' (s, H, C, cl, fp)).1.run pins s' σ H' Q I (q _)⟩), fun F α S σ H hI rl Q h => ?_⟩
  generalize ho : own.map (·.2) = ow at h hts ⊢
  unfold aComp at h
  rw [R.post_bind] at h
  refine qi F α S σ H hI rl _ (R.post_mono h (fun ds S1 h1 H1 a1 J hJ D hD => ?_) fun e S1 z => z)
  unfold compAt at h1
  cases c0 : noOw ow S1 with
  | false => rw [c0] at h1; exact h1.elim
  | true =>
    rw [c0, if_pos rfl] at h1
    have hb0 : F.Hb D = none := a1.1.freshB hD
    have hDO : ¬ F.O D := fun z => a1.1.ob D z hD
    have r0 : Rl X.K G (F.with D) α (wipeS S1 ow) (L2.wipe σ ow) (upd H1 D (.lst [])) := (a1.1.withNew hD).wipe c0
    have x0 : Ext (PH F α S1 H1) (PH (F.with D) α (wipeS S1 ow) (upd H1 D (.lst []))) := fun a o z => by
      have z := new_ext (F := F) (α := α) (o := .lst []) hD a o z
      obtain ⟨n, z⟩ := hide_some z
      exact (hide_at fun m => n ((msk_of fun j => wipe_ow c0).mp m)).trans z
    have hpost : (comp ow g tt fe ds (wipeS S1 ow) []).post (fun l S2 => ∀ p vs H', H p = none → (∀ i : Nat, isOw (putS S1 S2 ow) i → α i ≠ p) → Aft X G (F.with p) α S σ H (putS S1 S2 ow) H' → H' p = some (.lst vs) → DvA X.K G (PH (F.with p) α (putS S1 S2 ow) H') vs l → Q (.ref p) H') (fun _ _ => False) := by
      revert h1
      cases comp ow g tt fe ds (wipeS S1 ow) [] with
      | ok l S2 => exact fun h => h
      | ex e S2 => exact fun h => h.elim
      | bad => exact fun h => h.elim
    refine ⟨fun i m H2 => m = ds.length + 1 - i ∧ i ≤ ds.length ∧ ∃ S2 acc accV, Rl X.K G (F.with D) α S2 (L2.wipe σ ow) H2 ∧ Ext (PH F α S1 H1) (PH (F.with D) α S2 H2) ∧ (∀ a, H2 a = none → H1 a = none) ∧ H2 D = some (.lst accV) ∧ DvA X.K G (PH (F.with D) α S2 H2) accV acc ∧
      (comp ow g tt fe (ds.drop i) S2 acc).post (fun l S2 => ∀ p vs H', H p = none → (∀ i : Nat, isOw (putS S1 S2 ow) i → α i ≠ p) → Aft X G (F.with p) α S σ H (putS S1 S2 ow) H' → H' p = some (.lst vs) → DvA X.K G (PH (F.with p) α (putS S1 S2 ow) H') vs l → Q (.ref p) H') (fun _ _ => False), ⟨_, rfl, Nat.zero_le _, wipeS S1 ow, [], [], r0, x0, fun a z => ?_, upd_same, .nil, hpost⟩, ?_⟩
    · by_cases c : a = D
      · rw [c]; exact hD
      · rw [upd_ne c] at z; exact z
    rintro i m H2 ⟨rfl, hle, S2, acc, accV, r2, x2, dm2, hat, dva, hp⟩
    have hun : ∀ j ∈ ow, ∀ x, S2[j]? = some x → x = .un := fun j hj x e => by
      cases x with
      | un => rfl
      | va d =>
        obtain ⟨v, e1, _⟩ := r2.va j d e
        rw [wipe_get, if_pos hj] at e1
        cases q : σ[j]? with
        | none => rw [q] at e1; cases e1
        | some y => rw [q] at e1; cases e1
      | ow l =>
        obtain ⟨e1, _⟩ := r2.ow j l e
        rw [wipe_get, if_pos hj] at e1
        cases q : σ[j]? with
        | none => rw [q] at e1; cases e1
        | some y => rw [q] at e1; cases e1
    obtain ⟨j1, j2⟩ := hJ i (Msk (F.with D) α S2) H2 x2
    cases c : ds.drop i with
    | nil =>
      rw [c] at hp
      have hn : ds[i]? = none := by
        rw [List.getElem?_eq_none_iff]
        exact List.drop_eq_nil_iff.mp c
      refine .inl ⟨j1 hn, ?_⟩
      -- the slots of the comprehension get what they held
      have own2 : ∀ j, isOw (putS S1 S2 ow) j ↔ isOw S2 j := fun j => by
        unfold isOw
        by_cases cj : j ∈ ow
        · constructor
          · rintro ⟨l, e⟩
            rw [putS_get, if_pos cj] at e
            cases q : S2[j]? with
            | none => rw [q] at e; cases e
            | some y =>
              rw [q] at e
              have e : S1.getD j .un = SV.ow l := Option.some.inj e
              rw [List.getD_eq_getElem?_getD] at e
              cases q2 : S1[j]? with
              | none => rw [q2] at e; cases e
              | some y2 =>
                rw [q2] at e
                have e : y2 = SV.ow l := e
                rw [e] at q2
                exact (noOw_ok c0 cj ⟨l, q2⟩).elim
          · rintro ⟨l, e⟩
            have := hun j cj _ e
            cases this
        · rw [putS_get, if_neg cj]
      have q : Ext (PH (F.with D) α S2 H2) (PH (F.with D) α (putS S1 S2 ow) H2) := hide_iff fun a => (msk_of own2).symm
      have no2 : ∀ j : Nat, isOw (putS S1 S2 ow) j → α j ≠ D := fun j hj => by
        obtain ⟨l, e⟩ := (own2 j).mp hj
        obtain ⟨_, e2, _⟩ := r2.ow j l e
        exact fun z => e2 (.inr z)
      refine hp D accV H2 (a1.3 D hD) no2 ⟨⟨by rw [putS_len]; have := r2.len; rw [wipe_len] at this; exact this, fun j d e => ?_, fun j l e => ?_, fun j k hj hk => r2.inj j k ((own2 j).mp hj) ((own2 k).mp hk), r2.ext, r2.ob, fun p hp => ?_⟩, fun a o z => ?_, fun a z => a1.3 a (dm2 a z)⟩ hat (dva.mono q)
      · by_cases cj : j ∈ ow
        · rw [putS_get, if_pos cj] at e
          cases q3 : S2[j]? with
          | none => rw [q3] at e; cases e
          | some y =>
            rw [q3] at e
            have e : S1.getD j .un = SV.va d := Option.some.inj e
            rw [List.getD_eq_getElem?_getD] at e
            cases q2 : S1[j]? with
            | none => rw [q2] at e; cases e
            | some y2 =>
              rw [q2] at e
              have e : y2 = SV.va d := e
              rw [e] at q2
              obtain ⟨v, e1, e2⟩ := a1.1.va j d q2
              exact ⟨v, e1, (e2.mono x2).mono q⟩
        · rw [putS_get, if_neg cj] at e
          obtain ⟨v, e1, e2⟩ := r2.va j d e
          rw [wipe_get, if_neg cj] at e1
          exact ⟨v, e1, e2.mono q⟩
      · obtain ⟨l', e'⟩ := (own2 j).mp ⟨l, e⟩
        have cj : j ∉ ow := fun cj => by have := hun j cj _ e'; cases this
        rw [putS_get, if_neg cj] at e
        obtain ⟨e1, e2, e3, us, e4, e5⟩ := r2.ow j l e
        rw [wipe_get, if_neg cj] at e1
        exact ⟨e1, e2, e3, us, e4, e5.mono q⟩
      · obtain ⟨e1, e2⟩ := r2.pin p hp
        exact ⟨e1, (own2 _).mpr e2⟩
      · obtain ⟨n, z⟩ := hide_some z
        have n1 : ¬ Msk F α S a := fun m => n (msk_with.mpr (.inl m))
        exact q a o (x2 a o (a1.2 a o ((hide_at n1).trans z)))
    | cons d rest =>
      rw [c] at hp
      obtain ⟨hd, hr⟩ := drop_cons c
      have hlt : i < ds.length := (List.getElem?_eq_some_iff.mp hd).1
      obtain ⟨jg, jy⟩ := j2 d hd
      refine .inr ⟨jg, fun H3 => ∃ S3 acc3 accV3, Rl X.K G (F.with D) α S3 (L2.wipe σ ow) H3 ∧ Ext (PH F α S1 H1) (PH (F.with D) α S3 H3) ∧ (∀ a, H3 a = none → H1 a = none) ∧ H3 D = some (.lst accV3) ∧ DvA X.K G (PH (F.with D) α S3 H3) accV3 acc3 ∧
        (comp ow g tt fe rest S3 acc3).post (fun l S2 => ∀ p vs H', H p = none → (∀ i : Nat, isOw (putS S1 S2 ow) i → α i ≠ p) → Aft X G (F.with p) α S σ H (putS S1 S2 ow) H' → H' p = some (.lst vs) → DvA X.K G (PH (F.with p) α (putS S1 S2 ow) H') vs l → Q (.ref p) H') (fun _ _ => False), fun H3 q => ⟨ds.length + 1 - (i + 1), by omega, rfl, hlt, ?_⟩, fun x H3 hy => ?_⟩
      · obtain ⟨S3, acc3, accV3, q1, q2, q3, q4, q5, q6⟩ := q
        exact ⟨S3, acc3, accV3, q1, q2, q3, q4, q5, by rw [hr]; exact q6⟩
      · obtain ⟨e3, dv⟩ := jy x H3 hy
        have dv := dv r2.nB
        have a3 := r2.growA e3
        have r3 := (a3.1.turn (o := .lst accV) (e3 _ _ hat))
        unfold comp at hp
        intro z
        cases cg : g d S2 with
        | none => rw [cg] at hp; exact hp.elim
        | some S4 =>
          simp only [cg] at hp
          refine (hg' z).2 (F.turn D (.lst accV)) α S2 (L2.wipe σ ow) H3 x d S4 hI r3 dv cg _ fun σ4 a4 o4 => ⟨?_, ?_⟩
          · refine (wipe_same o4 fun j hj => ?_).trans ?_
            · have := List.all_eq_true.mp hts j hj
              exact List.mem_of_elem_eq_true this
            · apply List.ext_getElem?
              intro j
              rw [wipe_get, wipe_get]
              by_cases cj : j ∈ ow
              · simp only [cj, if_true]; cases σ[j]? <;> rfl
              · simp only [cj, if_false]
          have wσ : L2.wipe σ4 ow = L2.wipe σ ow := by
            refine (wipe_same o4 fun j hj => ?_).trans ?_
            · have := List.all_eq_true.mp hts j hj
              exact List.mem_of_elem_eq_true this
            · apply List.ext_getElem?
              intro j
              rw [wipe_get, wipe_get]
              by_cases cj : j ∈ ow
              · simp only [cj, if_true]; cases σ[j]? <;> rfl
              · simp only [cj, if_false]
          intro z2
          refine (ht' z2).2 (F.turn D (.lst accV)) α S4 σ4 H3 hI a4.1 _ ?_
          cases ct : tt S4 with
          | bad => simp only [ct] at hp; exact hp.elim
          | ex e S5 => simp only [ct] at hp; exact hp.elim
          | ok b S5 =>
            intro H5 a5
            cases b with
            | false =>
              simp only [ct] at hp
              show if false = true then _ else _
              rw [if_neg Bool.false_ne_true]
              cases cn : noOw ow S5 with
              | false => simp only [cn] at hp; exact hp.elim
              | true =>
                simp only [cn, if_true] at hp
                obtain ⟨r5, hat5⟩ := a5.1.unturn hb0
                have rr := r5.wipe cn
                rw [wσ] at rr
                have q : Ext (PH (F.with D) α S5 H5) (PH (F.with D) α (wipeS S5 ow) H5) := hide_iff fun a => (msk_of fun j => wipe_ow cn).symm
                have x5 : Ext (PH (F.with D) α S2 H2) (PH (F.with D) α S5 H5) := (a3.2.trans a4.2).trans a5.2
                exact ⟨wipeS S5 ow, acc, accV, rr, (x2.trans x5).trans q, fun a z => dm2 a (a3.3 a (a4.3 a (a5.3 a z))), hat5, (dva.mono x5).mono q, hp⟩
            | true =>
              simp only [ct] at hp
              show if true = true then _ else _
              rw [if_pos rfl]
              intro z3
              refine (he' z3).2 (F.turn D (.lst accV)) α S5 σ4 H5 hI a5.1 _ ?_
              cases ce : fe S5 with
              | bad => simp only [ce] at hp; exact hp.elim
              | ex e S6 => simp only [ce] at hp; exact hp.elim
              | ok y S6 =>
                intro v H6 a6 d6
                simp only [ce] at hp
                cases cn : okLen (acc.length + 1) && noOw ow S6 with
                | false => simp only [cn] at hp; exact hp.elim
                | true =>
                  simp only [cn, if_true] at hp
                  obtain ⟨cn1, cn2⟩ := (Bool.and_eq_true _ _).mp cn
                  obtain ⟨r6, hat6⟩ := a6.1.unturn hb0
                  have rr := (r6.wipe cn2).updF (o := .lst (accV ++ [v])) hb0
                  rw [wσ] at rr
                  have m : Msk (F.with D) α (wipeS S6 ow) D := .inl (.inr rfl)
                  have q : Ext (PH (F.with D) α S6 H6) (PH (F.with D) α (wipeS S6 ow) (upd H6 D (.lst (accV ++ [v])))) := by
                    unfold PH
                    rw [hide_upd m]
                    exact hide_iff fun a => (msk_of fun j => wipe_ow cn2).symm
                  have x6 : Ext (PH (F.with D) α S2 H2) (PH (F.with D) α S6 H6) := ((a3.2.trans a4.2).trans a5.2).trans a6.2
                  refine ⟨accV, hat6, ?_, wipeS S6 ow, acc ++ [y], accV ++ [v], rr, (x2.trans x6).trans q, fun a z => ?_, upd_same, ((dva.mono x6).mono q).append (.cons (d6.mono q) .nil), hp⟩
                  · have := okLen_ok cn1
                    rw [dva.length]
                    omega
                  · by_cases c : a = D
                    · rw [c]; exact hD
                    · rw [upd_ne c] at z
                      exact dm2 a (a3.3 a (a4.3 a (a5.3 a (a6.3 a z))))
theorem jl_comp {pos : Pos} {elt tg iter : Expr} {ifs : List Expr} {scope : Scope} {own : List (Str × Nat)} {ts : List Nat} {f : AF} {g : GF} {tt : TF} {fe : EF} (hc : X.calm = true) (hn : X.N.Nodup) (hi : JI X G W io tg iter f) (hb : BlkOk X.N X.env.scope scope own)
    (hg : ∀ (s : Shared) (H : Hp) (C : Addr) (cl : List (Str × Addr)) (fp : List Addr), JG (X.blk s H scope (compEnvC scope cl C X.env) fp) G io tg ts g)
    (ht : ∀ (s : Shared) (H : Hp) (C : Addr) (cl : List (Str × Addr)) (fp : List Addr), JTs (X.blk s H scope (compEnvC scope cl C X.env) fp) G W0 io ifs tt)
    (he : ∀ (s : Shared) (H : Hp) (C : Addr) (cl : List (Str × Addr)) (fp : List Addr), JE (X.blk s H scope (compEnvC scope cl C X.env) fp) G W0 io elt fe)
    (hts : ts.all (fun j => (own.map (·.2)).contains j) = true) (h1 : ∀ (x : Value), foldedSetIterable iter X.env x = pure x := by intro _; rfl) : JL X G W io (.ListComp elt [⟨tg, iter, ifs, 0⟩] scope pos) (aComp (own.map (·.2)) f g tt fe) := by
  obtain ⟨wi, tg', tt', te', pi, pg, pt, pe, q⟩ := comp_run (own := own) hi hg ht he hts
  exact ⟨_, pe_lc hc hn pi hb pg pt pe h1, q⟩
/-- y = a comprehension, y a plain local name -/
theorem js_compO {i : Nat} {y : Str} {py pos spos : Pos} {elt tg iter : Expr} {ifs : List Expr} {scope : Scope} {own : List (Str × Nat)} {ts : List Nat} {f : AF} {g : GF} {tt : TF} {fe : EF} (hc : X.calm = true) (hn : X.N.Nodup) (hi : JI X G W io tg iter f) (hb : BlkOk X.N X.env.scope scope own)
    (hg : ∀ (s : Shared) (H : Hp) (C : Addr) (cl : List (Str × Addr)) (fp : List Addr), JG (X.blk s H scope (compEnvC scope cl C X.env) fp) G io tg ts g)
    (ht : ∀ (s : Shared) (H : Hp) (C : Addr) (cl : List (Str × Addr)) (fp : List Addr), JTs (X.blk s H scope (compEnvC scope cl C X.env) fp) G W0 io ifs tt)
    (he : ∀ (s : Shared) (H : Hp) (C : Addr) (cl : List (Str × Addr)) (fp : List Addr), JE (X.blk s H scope (compEnvC scope cl C X.env) fp) G W0 io elt fe)
    (hts : ts.all (fun j => (own.map (·.2)).contains j) = true) (hN : X.N[i]? = some y) (hl : List.lookup y X.env.scope.names = some .local)
    (hw : swapsWith (.ListComp elt [⟨tg, iter, ifs, 0⟩] scope pos) (some (.Name y py)) spos.line X.env = pure true) (h1 : ∀ (x : Value), foldedSetIterable iter X.env x = pure x := by intro _; rfl) : JS X G W io (.Assign [.Name y py] (.ListComp elt [⟨tg, iter, ifs, 0⟩] scope pos) spos) (sOwn io i (aComp (own.map (·.2)) f g tt fe)) := by
  obtain ⟨wi, tg', tt', te', pi, pg, pt, pe, q⟩ := comp_run (own := own) hi hg ht he hts
  refine ⟨_, ps_setLc hc hn hN hl hw pi hb pg pt pe h1, fun F α S σ H hI r E h => ?_⟩
  unfold sOwn at h
  rw [R.post_oc] at h
  refine q F α S σ H hI r _ (R.post_mono h (fun ds S1 h1 p vs H1 hp hn a1 hv d1 => ?_) fun e S1 z => Po.exS z)
  split at h1
  · rename_i c
    exact h1 _ _ H1 (r.setOw hI hp hn a1 hv d1 c.1 c.2)
  · exact h1.elim
theorem js_compV {i : Nat} {y : Str} {py pos spos : Pos} {elt tg iter : Expr} {ifs : List Expr} {scope : Scope} {own : List (Str × Nat)} {ts : List Nat} {f : AF} {g : GF} {tt : TF} {fe : EF} (hc : X.calm = true) (hn : X.N.Nodup) (hi : JI X G W io tg iter f) (hb : BlkOk X.N X.env.scope scope own)
    (hg : ∀ (s : Shared) (H : Hp) (C : Addr) (cl : List (Str × Addr)) (fp : List Addr), JG (X.blk s H scope (compEnvC scope cl C X.env) fp) G io tg ts g)
    (ht : ∀ (s : Shared) (H : Hp) (C : Addr) (cl : List (Str × Addr)) (fp : List Addr), JTs (X.blk s H scope (compEnvC scope cl C X.env) fp) G W0 io ifs tt)
    (he : ∀ (s : Shared) (H : Hp) (C : Addr) (cl : List (Str × Addr)) (fp : List Addr), JE (X.blk s H scope (compEnvC scope cl C X.env) fp) G W0 io elt fe)
    (hts : ts.all (fun j => (own.map (·.2)).contains j) = true) (hN : X.N[i]? = some y) (hl : List.lookup y X.env.scope.names = some .local)
    (hw : swapsWith (.ListComp elt [⟨tg, iter, ifs, 0⟩] scope pos) (some (.Name y py)) spos.line X.env = pure true) (h1 : ∀ (x : Value), foldedSetIterable iter X.env x = pure x := by intro _; rfl) : JS X G W io (.Assign [.Name y py] (.ListComp elt [⟨tg, iter, ifs, 0⟩] scope pos) spos) (sAsg (eLst (aComp (own.map (·.2)) f g tt fe)) (gSlot io i)) := by
  obtain ⟨wi, tg', tt', te', pi, pg, pt, pe, q⟩ := comp_run (own := own) hi hg ht he hts
  refine ⟨_, ps_setLc hc hn hN hl hw pi hb pg pt pe h1, fun F α S σ H hI r E h => ?_⟩
  have je : ∀ F α S σ H, F.I.map (·.1) = io → Rl X.K G F α S σ H → ∀ Q : VK, (eLst (aComp (own.map (·.2)) f g tt fe) S).post (fun d S' => ∀ v H', Aft X G F α S σ H S' H' → Dv X.K G (PH F α S' H') v d → Q v H') (Er X G W F α S σ H) → tLc wi tg' tt' te' (own.map (·.2)) σ H Q := lst_run q
  unfold sAsg at h
  rw [R.post_oc] at h
  refine je F α S σ H hI r _ (R.post_mono h (fun d S1 h1 v H1 a1 d1 => ?_) fun e S1 z => Po.exS z)
  cases c : gSlot io i d S1 with
  | none => rw [c] at h1; exact h1.elim
  | some S2 =>
    rw [c] at h1
    unfold gSlot at c
    split at c
    · rename_i c'
      cases c
      exact h1 α _ H1 (a1.s.trans (a1.1.setVa hI d1 c'.1 c'.2))
    · cases c
end
end Fy
end
section
set_option Elab.async false
set_option linter.all false
set_option maxRecDepth 100000
set_option maxHeartbeats 2000000
namespace Fy
open PySem PySem.Spec PyProof.Rows L2
/-! ### repr -/
/-- data that repr writes -/
def dShow (d : D) : Option PyData := match d with
  | .tup _ => toPy d
  | .lst _ => toPy d
  | _ => none
def showOk (p : PyData) : Bool := p.showable && !p.hasDict && decide (p.shown.length ≤ 1000000) && decide (p.depth ≤ 64)
def dRepr (d : D) : Option D := match dShow d with
  | some p => if showOk p then some (.str p.shown) else none
  | none => none
theorem cd_repr {X : Cx} {G : Kit} (hg : X.A.guards = some []) (hu : X.A.units + 66 < cLine) : CallD X G (.builtin "repr") (g1 dRepr) := by
  refine ⟨fun xs H Q => ∃ a p, xs = [.ref a] ∧ Dp X.K H (.ref a) p ∧ showOk p = true ∧ Q (.str p.shown) H, fun pins s σ H xs us Q I r h => ?_, fun B H nB vs ds d hv he Q h => ?_⟩
  · obtain ⟨a, p, rfl, hd, ho, q⟩ := h
    cases r with
    | cons r1 r2 =>
      cases r2
      rename_i u
      obtain rfl : u = Value.ref a := r1
      obtain ⟨as, rd⟩ := Dp.reads I p (.ref a) (.ref a) hd rfl
      unfold showOk at ho
      obtain ⟨o1, o2⟩ := (Bool.and_eq_true _ _).mp ho
      obtain ⟨o3, o4⟩ := (Bool.and_eq_true _ _).mp o1
      obtain ⟨o5, o6⟩ := (Bool.and_eq_true _ _).mp o3
      have l1 := of_decide_eq_true o4
      have l2 := of_decide_eq_true o2
      refine repr_of_reads' rd o5 (fun z => ?_) hg (by omega) (fun _ _ e => e) (fun h' u tk k => ?_) (by rw [sizeLine_eq]; omega)
      · rw [z] at o6; cases o6
      · exact ⟨.str p.shown, H, I.kept k, ⟨u, rfl⟩, q⟩
  · obtain ⟨x, rfl, he'⟩ := g1_some he
    obtain ⟨v, rfl, hv'⟩ := hv.one
    clear he hv; have he := he'; have hv := hv'; clear he' hv'
    unfold dRepr at he
    cases e : dShow x with
    | none => rw [e] at he; cases he
    | some p =>
      rw [e] at he
      cases c : showOk p with
      | false => simp only [c] at he; cases he
      | true =>
        simp only [c, if_true] at he
        cases he
        cases x with
        | tup l =>
          have e : toPy (.tup l) = some p := e
          have hp := hv.dp e
          obtain ⟨a, xs, rfl, _⟩ := hv.tupE
          exact ⟨a, p, rfl, hp, c, h _ H (Ext.refl _) (.str _)⟩
        | lst l =>
          have e : toPy (.lst l) = some p := e
          have hp := hv.dp e
          obtain ⟨a, xs, rfl, _⟩ := hv.lstE
          exact ⟨a, p, rfl, hp, c, h _ H (Ext.refl _) (.str _)⟩
        | _ => cases e
/-! ### sorted, of data of one kind -/
def pyOf (d : D) : PyData := (toPy d).getD .none
def sortOk (ps : List PyData) : Bool :=
  ps.all (fun p => ps.all fun q => W.alike p q) && (ps.all (fun p => match p with
    | .tuple (_ :: _) => true
    | _ => false) || ps.all fun p => match p with
    | .none => false
    | .tuple _ => false
    | _ => true) && ps.all fun p => decide (p.depth ≤ 60)
def dSorted (d : D) : Option (List D) := match d with
  | .lst l => match toPyA l with
    | some ps => if sortOk ps then some (l.mergeSort (W.dataLe false pyOf)) else none
    | none => none
  | _ => none
theorem toPyA_map : ∀ {l : List D} {ps : List PyData}, toPyA l = some ps → l.map pyOf = ps
  | [], ps, e => by simp only [toPyA] at e; cases e; rfl
  | d :: r, ps, e => by
    simp only [toPyA] at e
    cases q1 : toPy d with
    | none => rw [q1] at e; cases e
    | some p =>
      cases q2 : toPyA r with
      | none => rw [q1, q2] at e; cases e
      | some ps' =>
        rw [q1, q2] at e
        cases e
        rw [List.map_cons, toPyA_map q2]
        simp [pyOf, q1]
section
variable {X : Cx} {G : Kit} {H : Hp}
theorem sort_each : ∀ {xs : List V} {us : List Value} {l : List D}, Vals xs us → xs.length = l.length → W.EachIs (fun u (b : V × D) => RelV b.1 u) us (xs.zip l)
  | [], [], [], _, _ => .nil
  | x :: xs, u :: us, d :: l, .cons h r, e => .cons h (sort_each r (by simpa using e))
  | [], _, _ :: _, _, e => by cases e
  | _ :: _, _, [], _, e => by cases e
theorem sort_reads {pins : List (Addr × Obj)} {σ : L2.St} {s : Shared} (I : L2.Inv X pins σ H s) : ∀ {xs : List V} {us : List Value} {l : List D} {ps : List PyData}, Vals xs us → DpAll X.K H xs ps → l.map pyOf = ps → W.EachIs (fun u (b : V × D) => ∃ as, Reads s.heap u (pyOf b.2) as) us (xs.zip l)
  | [], [], [], _, _, _, _ => .nil
  | x :: xs, u :: us, d :: l, p :: ps, .cons h r, .cons h' r', e => by
    rw [List.map_cons] at e
    cases e
    refine .cons ?_ (sort_reads I r r' rfl)
    exact Dp.reads I _ x u h' h
  | [], _, _ :: _, _, _, .nil, e => by cases e
  | _ :: _, _, [], _, _, .cons _ _, e => by cases e
theorem each_vals : ∀ {us : List Value} {bs : List (V × D)}, W.EachIs (fun u (b : V × D) => RelV b.1 u) us bs → Vals (bs.map (·.1)) us
  | [], [], .nil => .nil
  | _ :: _, _ :: _, .cons h r => .cons h (each_vals r)
theorem zip_dva : ∀ {K : PySem.W.Frag} {bs : List (V × D)}, (∀ b ∈ bs, Dv K G H b.1 b.2) → DvA K G H (bs.map (·.1)) (bs.map (·.2))
  | _, [], _ => .nil
  | _, b :: bs, h => .cons (h b List.mem_cons_self) (zip_dva fun c hc => h c (List.mem_cons_of_mem _ hc))
theorem zip_dv : ∀ {K : PySem.W.Frag} {xs : List V} {l : List D}, DvA K G H xs l → ∀ b ∈ xs.zip l, Dv K G H b.1 b.2
  | _, [], [], .nil, b, hb => by cases hb
  | _, x :: xs, d :: l, .cons h r, b, hb => by
    rw [List.zip_cons_cons, List.mem_cons] at hb
    rcases hb with rfl | hb
    · exact h
    · exact zip_dv r b hb
theorem zip_snd : ∀ {xs : List V} {l : List D}, xs.length = l.length → (xs.zip l).map (·.2) = l
  | [], [], _ => rfl
  | x :: xs, d :: l, e => by rw [List.zip_cons_cons, List.map_cons, zip_snd (by simpa using e)]
  | [], _ :: _, e => by cases e
  | _ :: _, [], e => by cases e
def rSortD (X : Cx) (G : Kit) : List V → Hp → VK → Prop := fun vs H Q => ∃ a xs l ps, vs = [.ref a] ∧ SqL X.K H a xs ∧ xs.length = l.length ∧ DpAll X.K H xs ps ∧ l.map pyOf = ps ∧ sortOk ps = true ∧
  ∀ bs : List (V × D), bs.Perm (xs.zip l) → bs.map (·.2) = l.mergeSort (W.dataLe false pyOf) → ∀ p, H p = none → Q (.ref p) (upd H p (.lst (bs.map (·.1))))
theorem call_sortD (hu : X.A.units + 66 < cLine) : CallR X (.builtin "sorted") (rSortD X G) := by
  intro pins s σ H xs us Q I r h
  obtain ⟨a, xs, l, ps, rfl, sq, hl, dp, hp, ok, q⟩ := h
  cases r with
  | cons r1 r2 =>
    cases r2
    rename_i u
    obtain rfl : u = Value.ref a := r1
    obtain ⟨its, rv, hpl, hsz⟩ := I.list sq
    obtain ⟨k12, k3⟩ := (Bool.and_eq_true _ _).mp ok
    obtain ⟨k1, k2⟩ := (Bool.and_eq_true _ _).mp k12
    have enc : (xs.zip l).map (fun b => pyOf b.2) = ps := by
      have : (xs.zip l).map (fun b => pyOf b.2) = ((xs.zip l).map (·.2)).map pyOf := by rw [List.map_map]; rfl
      rw [this, zip_snd hl, hp]
    refine W.sorted_data (β := V × D) (bs := xs.zip l) (enc := fun b => pyOf b.2) (R := fun u b => RelV b.1 u) hpl.isList (sort_each rv hl) (sort_reads I rv dp hp) ?_ ?_ ?_ ?_ fun out hlen hout => ?_
    · rw [enc]
      intro d hd d' hd'
      exact List.all_eq_true.mp (List.all_eq_true.mp k1 d hd) d' hd'
    · rw [enc]
      rcases (Bool.or_eq_true _ _).mp k2 with k2 | k2
      · refine .inl fun d hd => ?_
        have := List.all_eq_true.mp k2 d hd
        split at this
        · exact ⟨_, _, rfl⟩
        · cases this
      · refine .inr fun d hd => ?_
        have := List.all_eq_true.mp k2 d hd
        constructor
        · rintro rfl; cases this
        · rintro xs rfl; cases this
    · rw [List.length_zip, hl, Nat.min_self, ← hl]; exact hsz
    · intro b hb
      have hm : pyOf b.2 ∈ ps := by rw [← enc]; exact List.mem_map.mpr ⟨b, hb, rfl⟩
      have := of_decide_eq_true (List.all_eq_true.mp k3 _ hm)
      omega
    · obtain ⟨ep, he⟩ := sortedAll_at s.heap its out.toArray
      have hv := each_vals hout
      have hpm : ((xs.zip l).mergeSort (W.dataLe false fun b => pyOf b.2)).Perm (xs.zip l) := List.mergeSort_perm _ _
      have hs : ((xs.zip l).mergeSort (W.dataLe false fun b => pyOf b.2)).map (·.2) = l.mergeSort (W.dataLe false pyOf) := by
        have z := zip_snd hl
        generalize xs.zip l = bs at z
        subst z
        exact List.map_mergeSort (f := fun b : V × D => b.2) (r := W.dataLe false fun b : V × D => pyOf b.2) (s := W.dataLe false pyOf) (fun a _ b _ => rfl)
      refine ⟨.ref (s.heap.objs.size + 1), upd H (s.heap.objs.size + 1) (.lst (((xs.zip l).mergeSort (W.dataLe false fun b => pyOf b.2)).map (·.1))), ?_, rfl, q _ hpm hs _ (HOk.fresh I.hok (Nat.le_succ _))⟩
      refine I.laid (fun _ _ => sortedAll_old) (Nat.le_succ _) ⟨?_, out, ep, hv, he⟩
      rw [List.length_map, hpm.length_eq, List.length_zip, hl, Nat.min_self, ← hl]; exact hsz
theorem cn_sorted (hu : X.A.units + 66 < cLine) : CallN X G (.builtin "sorted") (g1 dSorted) := by
  refine ⟨_, call_sortD (G := G) hu, fun B H nB vs ds d hv he Q h => ?_⟩
  obtain ⟨x, rfl, he'⟩ := g1_some he
  obtain ⟨v, rfl, hv'⟩ := hv.one
  clear he hv; have he := he'; have hv := hv'; clear he' hv'
  unfold dSorted at he
  split at he
  · rename_i l
    cases e : toPyA l with
    | none => rw [e] at he; cases he
    | some ps =>
      simp only [e] at he
      cases c : sortOk ps with
      | false => rw [c] at he; cases he
      | true =>
        rw [c, if_pos rfl] at he
        cases he
        obtain ⟨a, xs, rfl, z1, r⟩ := hv.lstE
        refine ⟨a, xs, l, ps, rfl, SqL.of z1, r.length, hide_ext.dpA (r.dp e), toPyA_map e, c, fun bs hp hs p hpn => ?_⟩
        refine h _ H (Ext.refl _) ?_ p hpn
        rw [← hs]
        exact zip_dva fun b hb => zip_dv r b (hp.mem_iff.mp hb)
  · cases he
end
/-! ### isinstance of one of the language's own kinds -/
def tyD : D → Option String
  | .non => some "NoneType"
  | .bl _ => some "bool"
  | .int _ => some "int"
  | .str _ => some "str"
  | .tup _ => some "tuple"
  | .lst _ => some "list"
  | .scr _ => some "list"
  | .ins _ _ => none
end Fy
end
section
set_option Elab.async false
set_option linter.all false
set_option maxRecDepth 100000
set_option maxHeartbeats 2000000
namespace Fy
open PySem PySem.Spec PyProof.Rows L2
section
variable {X : Cx} {G : Kit} {W : WX} {io : List Nat}
theorem sqt_ty {K : PySem.W.Frag} {H : Hp} {a : Addr} {xs : List V} (h : SqT K H a xs) : TyX K H (.ref a) (.type "tuple") := by
  rcases h with (h | ⟨o, h⟩) | ⟨o, its, n, h1, h2, _⟩
  · exact .base (.tup h)
  · exact .fTuple h
  · exact .kTuple h1 h2
theorem sql_ty {K : PySem.W.Frag} {H : Hp} {a : Addr} {xs : List V} (h : SqL K H a xs) : TyX K H (.ref a) (.type "list") := by
  rcases h with (h | ⟨o, h⟩) | ⟨o, its, n, h1, h2, _⟩
  · exact .base (.lst h)
  · exact .base (.frz h)
  · exact .kList h1 h2
theorem Dw.ty {K : PySem.W.Frag} {B : Addr → Prop} {H : Hp} {v : V} {d : D} {t : String} (h : Dw K G B H v d) (e : tyD d = some t) : TyX K H v (.type t) := by
  unfold tyD at e
  split at e <;> cases e
  · have := h.asV (by intro l e; cases e)
    cases this
    exact .base .non
  · cases h.blE; exact .base (.bl _)
  · cases h.intE; exact .base (.int _)
  · cases h.strE; exact .base (.str _)
  · obtain ⟨a, xs, rfl, h1, _⟩ := h.tupE
    exact sqt_ty h1
  · obtain ⟨a, xs, rfl, h1, _⟩ := h.lstE
    exact .base (.lst h1)
  · obtain ⟨a, rfl, h1⟩ := h.scrE
    exact sql_ty h1
def dIsi (T : String) (d : D) : Option Bool := (tyD d).bind fun t => kitB t T
def dIsiT (Ts : List String) (d : D) : Option Bool := match tyD d with
  | some t => go t Ts
  | none => none
where
  go (t : String) : List String → Option Bool
    | [] => some false
    | T :: r => match kitB t T with
      | some true => some true
      | some false => go t r
      | none => none
/-- names of the language's own kinds -/
def PTy (X : Cx) (es : List Expr) (Ts : List String) : Prop := ∃ t, PA X es t ∧ ∀ σ H (Q : List V → Hp → Prop), Q (Ts.map V.ty) H → t σ H Q
theorem pty_nil : PTy X [] [] := ⟨_, pa_nil, fun σ H Q q => q⟩
theorem pty_cons {x : Str} {T : String} {pos : Pos} {es : List Expr} {Ts : List String} (hg : Gl X x) (hm : X.mg x = none) (hv : bootBuiltins x = some (.type T)) (hr : PTy X es Ts) (h1 : x ≠ Str.ofString "__name__" := by decide) (h2 : (x == Str.ofString "__debug__") = false := by decide)
    (hs : starEach (.Name x pos :: es) X.env = (false, eval (.Name x pos) X.env) :: starEach es X.env := by rfl) : PTy X (.Name x pos :: es) (T :: Ts) := by
  obtain ⟨t, p, q⟩ := hr
  exact ⟨_, pa_cons (pe_bltn hg hm hv (v := .ty T) rfl h1 h2) p hs, fun σ H Q h => q σ H _ h⟩
def tIsi (g : D → Option Bool) (fe : PF) : EF := fun S => (fe S).bind fun p S1 => match p.get S1 with
  | some d => match g d with
    | some b => .ok (.bl b) S1
    | none => .bad
  | none => .bad
theorem je_isi {x : Str} {T : String} {p p1 pos : Pos} {e : Expr} {fe : PF} (hg : Gl X "isinstance") (hm : X.mg "isinstance" = none) (hgT : Gl X x) (hmT : X.mg x = none) (hvT : bootBuiltins x = some (.type T)) (he : JP X G W io e fe)
    (h1 : x ≠ Str.ofString "__name__" := by decide) (h2 : (x == Str.ofString "__debug__") = false := by decide)
    (h3 : starEach (e :: [.Name x p1]) X.env = (false, eval e X.env) :: starEach [.Name x p1] X.env := by rfl) (h4 : ((backTo pos (starEach [.Name x p1] X.env)).any fun x => x.fst) = false := by rfl)
    (h5 : starEach (.Name x p1 :: []) X.env = (false, eval (.Name x p1) X.env) :: starEach [] X.env := by rfl) : JE X G W io (.Call (.Name "isinstance" p) [e, .Name x p1] [] pos) (tIsi (dIsi T) fe) := by
  obtain ⟨t, pe, qe⟩ := he
  refine ⟨_, pe_callB call_isi hg hm (by decide +kernel) (pa_cons pe (pa_cons (pe_bltn hgT hmT hvT (v := .ty T) rfl h1 h2) pa_nil h5) h3) (by decide) (by decide) h3 h4, fun F α S σ H hI r Q h => ?_⟩
  unfold tIsi at h
  rw [R.post_bind] at h
  refine qe F α S σ H hI r _ (R.post_mono h (fun a S1 h1 v H1 a1 d1 => ?_) fun e S1 z => z)
  cases c : a.get S1 with
  | none => simp only [c] at h1; exact h1.elim
  | some d =>
    simp only [c] at h1
    cases c2 : dIsi T d with
    | none => simp only [c2] at h1; exact h1.elim
    | some b =>
      simp only [c2] at h1
      obtain ⟨t, e1, e2⟩ := bind_some c2
      exact ⟨v, .ty T, .type t, .type T, b, rfl, .ty T, (d1.dw a1.1 c).ty e1, kit_ty e2, h1 _ H1 a1 (.bl b)⟩
theorem kit_go {K : PySem.W.Frag} {t : String} : ∀ {Ts : List String} {b : Bool}, dIsiT.go t Ts = some b → PySem.W.kitAny K (.type t) (Ts.map Value.type) = some b
  | [], b, e => by simp only [dIsiT.go] at e; cases e; exact kitAny_nil
  | T :: r, b, e => by
    simp only [dIsiT.go] at e
    rw [List.map_cons]
    split at e
    · rename_i c
      cases e
      exact kitAny_cons (kit_ty c) (fun z => by cases z) fun _ => rfl
    · rename_i c
      exact kitAny_cons (kit_ty c) (fun _ => kit_go e) fun z => by cases z
    · cases e
theorem cls_all : ∀ (Ts : List String), Paired ClsV (Ts.map V.ty) (Ts.map Value.type)
  | [] => .nil
  | T :: r => .cons (.ty T) (cls_all r)
theorem je_isiT {Ts : List String} {p p1 pos : Pos} {k} {e : Expr} {es : List Expr} {fe : PF} (hg : Gl X "isinstance") (hm : X.mg "isinstance" = none) (ht : PTy X es Ts) (he : JP X G W io e fe) (hl : okLen Ts.length = true)
    (h3 : starEach (e :: [.Tuple es k p1]) X.env = (false, eval e X.env) :: starEach [.Tuple es k p1] X.env := by rfl) (h4 : ((backTo pos (starEach [.Tuple es k p1] X.env)).any fun x => x.fst) = false := by rfl)
    (h5 : starEach (.Tuple es k p1 :: []) X.env = (false, eval (.Tuple es k p1) X.env) :: starEach [] X.env := by rfl) : JE X G W io (.Call (.Name "isinstance" p) [e, .Tuple es k p1] [] pos) (tIsi (dIsiT Ts) fe) := by
  obtain ⟨t, pe, qe⟩ := he
  obtain ⟨t2, p2, q2⟩ := ht
  refine ⟨_, pe_callB call_isiT hg hm (by decide +kernel) (pa_cons pe (pa_cons (pe_tup p2) pa_nil h5) h3) (by decide) (by decide) h3 h4, fun F α S σ H hI r Q h => ?_⟩
  unfold tIsi at h
  rw [R.post_bind] at h
  refine qe F α S σ H hI r _ (R.post_mono h (fun a S1 h1 v H1 a1 d1 => ?_) fun e S1 z => z)
  cases c : a.get S1 with
  | none => simp only [c] at h1; exact h1.elim
  | some d =>
    simp only [c] at h1
    cases c2 : dIsiT Ts d with
    | none => simp only [c2] at h1; exact h1.elim
    | some b =>
      simp only [c2] at h1
      unfold dIsiT at c2
      split at c2
      · rename_i t e1
        refine q2 σ H1 _ ⟨by rw [List.length_map]; exact okLen_ok hl, fun m hm => ?_⟩
        have a2 := a1.1.growA (Ext.new (o := .tup (Ts.map V.ty)) hm)
        have w := (d1.mono a2.2).dw a2.1 c
        exact ⟨v, m, Ts.map V.ty, .type t, Ts.map Value.type, b, rfl, upd_same, cls_all Ts, w.ty e1, kit_go c2, h1 _ _ (a1.trans a2) (.bl b)⟩
      · cases c2
/-! ### list + list -/
def aCat (fa fb : PF) : AF := fun S => (fa S).bind fun a S1 => (fb S1).bind fun b S2 => match a.get S2, b.get S2 with
  | some (.lst x), some (.lst y) => if okLen (x.length + y.length) then .ok (x ++ y) S2 else .bad
  | _, _ => .bad
theorem jn_cat {a b : Expr} {fa fb : PF} {pos : Pos} (ha : JP X G W io a fa) (hb : JP X G W io b fb) : JN X G W io (.BinOp a .Add b pos) (aCat fa fb) := by
  obtain ⟨ta, pa, qa⟩ := ha
  obtain ⟨tb, pb, qb⟩ := hb
  refine ⟨_, pe_op op_cat pa pb, fun F α S σ H hI rl Q h => ?_⟩
  unfold aCat at h
  rw [R.post_bind] at h
  refine qa F α S σ H hI rl _ (R.post_mono h (fun a S1 h1 v H1 a1 d1 => ?_) fun e S1 z => z)
  rw [R.post_bind] at h1
  refine qb F α S1 σ H1 hI a1.1 _ (R.post_mono h1 (fun b S2 h2 u H2 a2 d2 => ?_) fun e S2 z => z.step a1)
  split at h2
  · rename_i x y e1 e2
    split at h2
    · rename_i c
      obtain ⟨p, xs, rfl, z1, r1⟩ := ((d1.mono a2.2).dw a2.1 e1).lstE
      obtain ⟨q, ys, rfl, z2, r2⟩ := (d2.dw a2.1 e2).lstE
      exact ⟨p, q, xs, ys, rfl, rfl, z1, z2, by rw [r1.length, r2.length]; exact okLen_ok c, fun m hm => h2 _ H2 (a1.trans a2) (r1.append r2) m hm⟩
    · exact h2.elim
  · exact h2.elim
/-! ### * in a display -/
def aStar (fe : PF) (fr : AF) : AF := fun S => (fe S).bind fun a S1 => match a.get S1 with
  | some d => match dItems d with
    | some l => (fr S1).bind fun r S2 => .ok (l ++ r) S2
    | none => .bad
  | none => .bad
theorem ja_star {e : Expr} {es : List Expr} {fe : PF} {fr : AF} {p : Pos} (he : JP X G W io e fe) (hr : JA X G W io es fr) (hs : starEach (.Starred e p :: es) X.env = (true, eval e X.env) :: starEach es X.env := by rfl) : JA X G W io (.Starred e p :: es) (aStar fe fr) := by
  obtain ⟨te, pe, qe⟩ := he
  obtain ⟨tr, pr, qr⟩ := hr
  refine ⟨_, StX.pa_star pe pr hs, fun F α S σ H hI rl Q h => ?_⟩
  unfold aStar at h
  rw [R.post_bind] at h
  refine qe F α S σ H hI rl _ (R.post_mono h (fun a S1 h1 v H1 a1 d1 => ?_) fun e S1 z => z)
  cases c : a.get S1 with
  | none => simp only [c] at h1; exact h1.elim
  | some d =>
    simp only [c] at h1
    cases c2 : dItems d with
    | none => simp only [c2] at h1; exact h1.elim
    | some l =>
      simp only [c2] at h1
      rw [R.post_bind] at h1
      obtain ⟨q, xs, rfl, sq, dv⟩ := (d1.dw a1.1 c).items c2
      refine ⟨q, xs, rfl, sq.symm, ?_⟩
      exact qr F α S1 σ H1 hI a1.1 _ (R.post_mono h1 (fun r S2 h2 ys H2 a2 d2 => h2 _ H2 (a1.trans a2) ((dv.mono a2.2).append d2)) fun e S2 z => z.step a1)
end
end Fy
end
section
set_option Elab.async false
set_option linter.all false
set_option maxRecDepth 100000
set_option maxHeartbeats 2000000
namespace Fy
open PySem PySem.Spec PyProof.Rows L2
/-! ### calls with keywords alone, in the order of the parameters -/
theorem run_gK {X : Cx} {CX : CXT} {k : Nat} {f : Addr} {fd : FuncData} {ps ks : List Str} {sp : Sp} {E : L2.St → XK} {g : List Value → List Value → List Value} {gV : List V → List V → List V} {pins : List (Addr × Obj)} {σ : L2.St} {H : Hp} {s : Shared} {Q : VK} {us ws : List Value} {vs zs : List V}
    (F : FnG X.prog X.w X.K X.mg X.base CX k f fd ps sp) (hr : Room k X.A) (hgd : X.A.guards = some []) (hb : KBinds X.K fd ps ks g gV) (hx : PassesAt CX X σ (E σ)) (I : L2.Inv X pins σ H s) (r : Vals vs us) (rz : Vals zs ws) (h : sp (gV vs zs) H Q (E σ)) : wpAny (model X.prog X.w) X.A (call (Value.ref f) us (ks.zip ws)) (EP X pins σ Q) X.xe s := by
  have rr := hb.rel r rz
  have hl : (g us ws).length = ps.length := by rw [← rr.length]; exact F.len _ H Q (E σ) h
  have b := hb.to s us ws I.kIn hl
  refine wpAny_call (codeAny_mono (F.run X.A X.stack s H { pos := us, kw := ks.zip ws } (g us ws) (gV vs zs) Q (E σ) hr hgd I.env0 b rr h) fun r s' hq => ?_)
  cases r with
  | error e => exact hx pins H s e s' I hq
  | ok fl =>
    cases fl with
    | ret u => exact I.after hq
    | _ => exact hq.elim
theorem pe_callGK {X : Cx} {CX : CXT} {k : Nat} {f : Addr} {fd : FuncData} {ps ks : List Str} {sp : Sp} {E : L2.St → XK} {g : List Value → List Value → List Value} {gV : List V → List V → List V} {x : Str} {p pos : Pos} {kws : List Keyword} {tk : TA} (F : FnG X.prog X.w X.K X.mg X.base CX k f fd ps sp) (hr : Room k X.A) (hgd : X.A.guards = some []) (hg : Gl X x) (hm : X.mg x = some (Value.ref f)) (hk : PySem.W.keepIn X.K (Value.ref f) = true) (hb : KBinds X.K fd ps ks g gV) (hx : ∀ σ : L2.St, PassesAt CX X σ (E σ)) (hkw : PK X kws tk)
    (hall : ((backToKw pos (keywordEach kws X.env)).all fun x => x.fst.isSome) = true := by rfl) (hks : List.filterMap (fun x => x.fst) (backToKw pos (keywordEach kws X.env)) = ks := by rfl) (hdb : (x == ("__debug__" : Str)) = false := by decide)
    (hpl : (((backTo pos (starEach [] X.env)).any fun x => x.fst) || (backToKw pos (keywordEach kws X.env)).any fun x => x.fst.isNone) = false := by rfl) : PE X (.Call (.Name x p) [] kws pos) (fun σ H Q => tk σ H fun zs H2 => sp (gV [] zs) H2 Q (E σ)) := ⟨fun pins s σ H Q I h =>
  wpAny_Call_Name_kw (ld_glob I hg hm (PySem.W.callWith_KW0 I.ok.mod.kin hk hall (thn (hkw.run pos pins s σ H _ I h) fun ws s2 hh => (by
    obtain ⟨zs, H2, I2, rz, q2⟩ := hh
    refine ⟨I2.kIn, ?_⟩
    rw [hks]
    exact run_gK F hr hgd hb (hx σ) I2 .nil rz q2)) hpl) hdb)⟩
/-- parameters by their names, in order -/
def kwG {β : Type} (us ws : List β) : List β := match us with
  | [] => ws
  | _ => []
theorem funD_kw {K : PySem.W.Frag} {x qual : Str} {params : Arguments} {body : List Stmt} {scope : Scope} {kws : List (Str × V)} {f : Addr} {fd : FuncData} {ps : List Str} (F : FunD K x qual params body scope [] kws f fd) (hp : ps ≠ [])
    (h : ∀ (kV doc pm : Value) (an : Option Addr) (cdv ct : Value) (us : List Value), us.length = ps.length → bindArgs (PySem.W.fnOf x qual params body scope Value.none kV doc pm an cdv ct) { pos := [], kw := ps.zip us } = pure (ps.zip us)) : KBinds K fd ps ps kwG kwG := by
  obtain ⟨oc, od, dV, kV, doc, pm, an, cdv, ct, osl, rfl, lk, hcd, hd, _⟩ := F.ex
  rcases hd with ⟨_, rfl⟩ | ⟨z, _⟩
  · refine ⟨fun s us ws _ hl => ?_, fun {vs us zs ws} r rz => ?_⟩
    · cases us with
      | nil => exact BindsTo.of_eq (h kV doc pm an cdv ct ws hl)
      | cons u r =>
        have hl : 0 = ps.length := hl
        exact (hp (List.eq_nil_of_length_eq_zero hl.symm)).elim
    · cases r with
      | nil => exact rz
      | cons a b => exact .nil
  · exact (z rfl).elim
section
variable {X : Cx} {G : Kit} {W : WX} {io : List Nat}
def JK (X : Cx) (G : Kit) (W : WX) (io : List Nat) (ks : List Keyword) (f : AF) : Prop := ∃ t, PK X ks t ∧ ∀ F α S σ H, F.I.map (·.1) = io → Rl X.K G F α S σ H → ∀ Q : List V → Hp → Prop,
  (f S).post (fun ds S' => ∀ vs H', Aft X G F α S σ H S' H' → DvA X.K G (PH F α S' H') vs ds → Q vs H') (Er X G W F α S σ H) → t σ H Q
theorem jk_nil : JK X G W io [] aNil := ⟨_, pk_nil, fun F α S σ H _ r Q q => q [] H (Aft.refl r) .nil⟩
theorem jk_cons {kpos : Pos} {nm : Option Str} {e : Expr} {es : List Keyword} {fa : EF} {fr : AF} (ha : JE X G W io e fa) (hr : JK X G W io es fr) : JK X G W io ({ arg := nm, value := e, pos := kpos } :: es) (aCons fa fr) := by
  obtain ⟨ta, pa, qa⟩ := ha
  obtain ⟨tr, pr, qr⟩ := hr
  refine ⟨_, pk_cons pa pr, fun F α S σ H hI rl Q h => ?_⟩
  unfold aCons at h
  rw [R.post_bind] at h
  refine qa F α S σ H hI rl _ (R.post_mono h (fun a S1 h1 v H1 a1 d1 => ?_) fun e S1 z => z)
  rw [R.post_bind] at h1
  refine qr F α S1 σ H1 hI a1.1 _ (R.post_mono h1 (fun r S2 h2 vs H2 a2 d2 => ?_) fun e S2 z => z.step a1)
  exact h2 (v :: vs) H2 (a1.trans a2) (.cons (d1.mono a2.2) d2)
theorem je_callK {k n : Nat} {f : Addr} {fd : FuncData} {ps ks : List Str} {g : SS → Fo} {x : Str} {p pos : Pos} {kws : List Keyword} {fa : AF} (F : FnG X.prog X.w X.K X.mg X.base (CX X.prog X.w) k f fd ps (FSp X.K G [] n g)) (hr : Room k X.A) (hgd : X.A.guards = some []) (hg : Gl X x) (hm : X.mg x = some (.ref f)) (hk : PySem.W.keepIn X.K (.ref f) = true) (hb : KBinds X.K fd ps ks kwG kwG) (tk : Takes X W) (ha : JK X G W io kws fa) (hl : lenIs n fa)
    (hall : ((backToKw pos (keywordEach kws X.env)).all fun x => x.fst.isSome) = true := by rfl) (hks : List.filterMap (fun x => x.fst) (backToKw pos (keywordEach kws X.env)) = ks := by rfl) (hdb : (x == ("__debug__" : Str)) = false := by decide)
    (hpl : (((backTo pos (starEach [] X.env)).any fun x => x.fst) || (backToKw pos (keywordEach kws X.env)).any fun x => x.fst.isNone) = false := by rfl) : JE X G W io (.Call (.Name x p) [] kws pos) (eCall g fa) := by
  obtain ⟨t, pa, q⟩ := ha
  refine ⟨_, pe_callGK F hr hgd hg hm hk hb (fun σ => passAt tk σ) pa hall hks hdb hpl, fun F α S σ H hI r Q h => ?_⟩
  unfold eCall at h
  rw [R.post_bind] at h
  have hlS := hl S
  refine q F α S σ H hI r _ ?_
  revert h hlS
  cases fa S with
  | bad => exact fun h _ => h.elim
  | ex e S1 => exact fun h _ => h
  | ok ds S1 =>
    intro h hn vs H1 a1 d1
    have hn : ds.length = n := by
      rcases hn with hn | hn
      · exact hn
      · cases hn
    exact call_run a1.1 d1 hn (R.post_mono h (fun d S2 h2 v H2 a2 d2 => h2 v H2 (a1.trans a2) d2) fun e S2 z => z.step a1)
end
end Fy
end
section
set_option Elab.async false
set_option linter.all false
set_option maxRecDepth 100000
set_option maxHeartbeats 2000000
namespace Fy
open PySem PySem.Spec PyProof.Rows L2
/-! ### several targets at once: values, new lists -/
def Fm.withs (F : Fm) : List Addr → Fm
  | [] => F
  | q :: qs => (F.withs qs).with q
theorem withs_O {F : Fm} : ∀ {qs : List Addr} {a : Addr}, (F.withs qs).O a ↔ F.O a ∨ a ∈ qs
  | [], a => by simp [Fm.withs]
  | q :: qs, a => by
    show ((F.withs qs).O a ∨ a = q) ↔ _
    rw [withs_O, List.mem_cons]
    constructor
    · rintro ((h | h) | h)
      · exact .inl h
      · exact .inr (.inr h)
      · exact .inr (.inl h)
    · rintro (h | h | h)
      · exact .inl (.inl h)
      · exact .inr h
      · exact .inl (.inr h)
theorem withs_Hb {F : Fm} : ∀ {qs : List Addr}, (F.withs qs).Hb = F.Hb
  | [] => rfl
  | q :: qs => withs_Hb (qs := qs)
theorem withs_I {F : Fm} : ∀ {qs : List Addr}, (F.withs qs).I = F.I
  | [] => rfl
  | q :: qs => withs_I (qs := qs)
inductive EachP (K : PySem.W.Frag) (G : Kit) (Hv H : Hp) : List SV → List V → List Addr → Prop
  | nil : EachP K G Hv H [] [] []
  | va {d : D} {v : V} {svs : List SV} {vs : List V} {qs : List Addr} : Dv K G Hv v d → EachP K G Hv H svs vs qs → EachP K G Hv H (.va d :: svs) (v :: vs) qs
  | ow {l : List D} {q : Addr} {ws : List V} {svs : List SV} {vs : List V} {qs : List Addr} : H q = some (.lst ws) → DvA K G Hv ws l → q ∉ qs → EachP K G Hv H svs vs qs → EachP K G Hv H (.ow l :: svs) (.ref q :: vs) (q :: qs)
theorem EachP.mono {K : PySem.W.Frag} {G : Kit} {Hv Hv' H : Hp} (e : Ext Hv Hv') {svs : List SV} {vs : List V} {qs : List Addr} (h : EachP K G Hv H svs vs qs) : EachP K G Hv' H svs vs qs := by
  induction h with
  | nil => exact .nil
  | va h _ ih => exact .va (h.mono e) ih
  | ow h1 h2 h3 _ ih => exact .ow h1 (h2.mono e) h3 ih
section
variable {X : Cx} {G : Kit} {W : WX} {io : List Nat} {F F' : Fm} {α α1 α' : Nat → Addr} {S S' S1 S2 : SS} {σ σ1 σ' : L2.St} {H H' H1 H2 : Hp}
theorem msk_iff (h : ∀ a, F.O a ↔ F'.O a) {a : Addr} : Msk F α S a ↔ Msk F' α S a := by
  constructor
  · rintro (z | z)
    · exact .inl ((h a).mp z)
    · exact .inr z
  · rintro (z | z)
    · exact .inl ((h a).mpr z)
    · exact .inr z
theorem Rl.congr (r : Rl X.K G F α S σ H) (h : ∀ a, F.O a ↔ F'.O a) (hI : F'.I = F.I) (hb : Ext F'.Hb F.Hb) : Rl X.K G F' α S σ H := by
  have q : Ext (PH F α S H) (PH F' α S H) := hide_iff fun a => msk_iff h
  refine ⟨r.len, fun i d e => ?_, fun i l e => ?_, r.inj, hb.trans r.ext, fun a z => r.ob a ((h a).mpr z), by rw [hI]; exact r.pin⟩
  · obtain ⟨v, e1, e2⟩ := r.va i d e
    exact ⟨v, e1, e2.mono q⟩
  · obtain ⟨e1, e2, e3, vs, e4, e5⟩ := r.ow i l e
    refine ⟨e1, fun z => e2 ((h _).mpr z), ?_, vs, e4, e5.mono q⟩
    cases c : F'.Hb (α i) with
    | none => rfl
    | some o => rw [hb _ _ c] at e3; cases e3
/-- behind expressions whose values stand ready to be stored -/
structure Pend (X : Cx) (G : Kit) (F : Fm) (α : Nat → Addr) (S : SS) (σ : L2.St) (H : Hp) (svs : List SV) (vs : List V) (qs : List Addr) (S' : SS) (H' : Hp) : Prop where
  rl : Rl X.K G (F.withs qs) α S' σ H'
  ext : Ext (PH F α S H) (PH (F.withs qs) α S' H')
  dom : ∀ a, H' a = none → H a = none
  each : EachP X.K G (PH (F.withs qs) α S' H') H' svs vs qs
  fresh : ∀ q ∈ qs, H q = none
abbrev MF := SS → R (List SV)
def JM (X : Cx) (G : Kit) (W : WX) (io : List Nat) (es : List Expr) (f : MF) : Prop := ∃ t, PA X es t ∧ ∀ F α S σ H, F.I.map (·.1) = io → Rl X.K G F α S σ H → ∀ Q : List V → Hp → Prop,
  (f S).post (fun svs S' => ∀ vs qs H', Pend X G F α S σ H svs vs qs S' H' → Q vs H') (Er X G W F α S σ H) → t σ H Q
def mNil : MF := fun S => .ok [] S
def mVa (fa : EF) (fr : MF) : MF := fun S => (fa S).bind fun d S1 => (fr S1).bind fun r S2 => .ok (.va d :: r) S2
def mOw (fa : AF) (fr : MF) : MF := fun S => (fa S).bind fun l S1 => (fr S1).bind fun r S2 => .ok (.ow l :: r) S2
theorem jm_nil : JM X G W io [] mNil := ⟨_, pa_nil, fun F α S σ H _ r Q q => q [] [] H ⟨r, Ext.refl _, fun _ h => h, .nil, fun q h => by cases h⟩⟩
theorem jm_va {e : Expr} {es : List Expr} {fa : EF} {fr : MF} (ha : JE X G W io e fa) (hr : JM X G W io es fr) (hs : starEach (e :: es) X.env = (false, eval e X.env) :: starEach es X.env := by rfl) : JM X G W io (e :: es) (mVa fa fr) := by
  obtain ⟨ta, pa, qa⟩ := ha
  obtain ⟨tr, pr, qr⟩ := hr
  refine ⟨_, pa_cons pa pr hs, fun F α S σ H hI rl Q h => ?_⟩
  unfold mVa at h
  rw [R.post_bind] at h
  refine qa F α S σ H hI rl _ (R.post_mono h (fun d S1 h1 v H1 a1 d1 => ?_) fun e S1 z => z)
  rw [R.post_bind] at h1
  refine qr F α S1 σ H1 hI a1.1 _ (R.post_mono h1 (fun r S2 h2 vs qs H2 p => ?_) fun e S2 z => z.step a1)
  exact h2 (v :: vs) qs H2 ⟨p.rl, a1.2.trans p.ext, fun a z => a1.3 a (p.dom a z), .va (d1.mono p.ext) p.each, fun q hq => a1.3 q (p.fresh q hq)⟩
theorem jm_ow {e : Expr} {es : List Expr} {fa : AF} {fr : MF} (ha : JL X G W io e fa) (hr : JM X G W io es fr) (hs : starEach (e :: es) X.env = (false, eval e X.env) :: starEach es X.env := by rfl) : JM X G W io (e :: es) (mOw fa fr) := by
  obtain ⟨ta, pa, qa⟩ := ha
  obtain ⟨tr, pr, qr⟩ := hr
  refine ⟨_, pa_cons pa pr hs, fun F α S σ H hI rl Q h => ?_⟩
  unfold mOw at h
  rw [R.post_bind] at h
  refine qa F α S σ H hI rl _ (R.post_mono h (fun l S1 h1 p ws H1 hp hn a1 hat d1 => ?_) fun e S1 z => z)
  rw [R.post_bind] at h1
  have hb : F.Hb p = none := rl.freshB hp
  have s0 : Ext (PH F α S H) (PH (F.with p) α S1 H1) := fun a o z => by
    obtain ⟨n, z⟩ := hide_some z
    refine a1.2 a o ((hide_at fun m => ?_).trans z)
    rcases msk_with.mp m with m | m
    · exact n m
    · rw [m, hp] at z; cases z
  refine qr (F.turn p (.lst ws)) α S1 σ H1 hI (a1.1.turn hat) _ (R.post_mono h1 (fun r S2 h2 vs qs H2 q => ?_) fun e S2 z cls dx H3 b x => ?_)
  · have hO : ∀ a, ((F.turn p (.lst ws)).withs qs).O a ↔ (F.withs (p :: qs)).O a := fun a => by
      rw [withs_O, withs_O, List.mem_cons]
      constructor
      · rintro ((h | h) | h)
        · exact .inl h
        · exact .inr (.inl h)
        · exact .inr (.inr h)
      · rintro (h | h | h)
        · exact .inl (.inl h)
        · exact .inl (.inr h)
        · exact .inr h
    have x1 : Ext (PH ((F.turn p (.lst ws)).withs qs) α S2 H2) (PH (F.withs (p :: qs)) α S2 H2) := hide_iff fun a => msk_iff hO
    have hat2 : H2 p = some (.lst ws) := q.rl.ext p _ (by rw [withs_Hb]; exact if_pos rfl)
    have np : p ∉ qs := fun z => by
      have := q.fresh p z
      rw [hat] at this; cases this
    have sx : Ext (PH (F.with p) α S1 H1) (PH (F.withs (p :: qs)) α S2 H2) := q.ext.trans x1
    refine h2 (.ref p :: vs) (p :: qs) H2 ⟨q.rl.congr hO (by rw [withs_I, withs_I]; rfl) (fun a o z => ?_), s0.trans sx, fun a z => a1.3 a (q.dom a z), .ow hat2 (d1.mono sx) np (q.each.mono x1), fun c hc => ?_⟩
    · rw [withs_Hb] at z ⊢
      have na : a ≠ p := fun e => by rw [e, hb] at z; cases z
      exact (if_neg na).trans z
    · rcases List.mem_cons.mp hc with hc | hc
      · rw [hc]; exact hp
      · exact a1.3 c (q.fresh c hc)
  · obtain ⟨r3, _⟩ := b.1.unturn hb
    have xs : Ext (PH (F.with p) α S1 H1) (PH (F.with p) α S2 H3) := b.2
    exact z cls dx H3 ⟨r3.unwith, (s0.trans xs).trans with_ext, fun a y => a1.3 a (b.3 a y)⟩ (exOk_mono (K := X.K) (with_ext (F := F) (p := p)) x)
/-- a list that stands ready gets a slot -/
theorem Rl.putOw (hI : F.I.map (·.1) = io) {i : Nat} {p : Addr} {vs : List V} {ds : List D} (r1 : Rl X.K G (F.with p) α S1 σ H1) (hO : ¬ F.O p) (hb : F.Hb p = none) (hv : H1 p = some (.lst vs)) (dv : DvA X.K G (PH (F.with p) α S1 H1) vs ds) (hl : i < S1.length) (hi : io.contains i = false) :
    Rl X.K G F (fun j => if j = i then p else α j) (S1.set i (.ow ds)) (σ.set i (some (.ref p))) H1 ∧ Ext (PH (F.with p) α S1 H1) (PH F (fun j => if j = i then p else α j) (S1.set i (.ow ds)) H1) := by
  have hn : ∀ j : Nat, isOw S1 j → α j ≠ p := fun j ⟨l, e⟩ z => by
    obtain ⟨_, e2, _⟩ := r1.ow j l e
    exact e2 (.inr z)
  have own : ∀ j, isOw (S1.set i (.ow ds)) j → j ≠ i → isOw S1 j := fun j ⟨m, e⟩ hj => by
    rw [List.getElem?_set_ne (Ne.symm hj)] at e
    exact ⟨m, e⟩
  have msk : ∀ b, Msk F (fun j => if j = i then p else α j) (S1.set i (.ow ds)) b → Msk (F.with p) α S1 b := fun b z => by
    rcases z with z | ⟨j, z, e⟩
    · exact .inl (.inl z)
    · by_cases hj : j = i
      · simp only [hj, if_true] at e
        exact .inl (.inr e.symm)
      · simp only [hj, if_false] at e
        exact .inr ⟨j, own j z hj, e⟩
  have q : Ext (PH (F.with p) α S1 H1) (PH F (fun j => if j = i then p else α j) (S1.set i (.ow ds)) H1) := fun b o z => by
    obtain ⟨n, z⟩ := hide_some z
    exact (hide_at fun w => n (msk b w)).trans z
  refine ⟨⟨by rw [List.length_set, List.length_set]; exact r1.len, fun j e h => ?_, fun j m e => ?_, fun j k hj hk e => ?_, r1.ext, fun b z => r1.ob b (.inl z), fun c hc => ?_⟩, q⟩
  · have hj : i ≠ j := fun hj => by
      subst hj
      rw [List.getElem?_set_self hl] at h
      cases h
    rw [List.getElem?_set_ne hj] at h
    obtain ⟨w, h1, h2⟩ := r1.va j e h
    exact ⟨w, (List.getElem?_set_ne hj).trans h1, h2.mono q⟩
  · by_cases hj : i = j
    · subst hj
      rw [List.getElem?_set_self hl] at e
      cases e
      simp only [if_true]
      exact ⟨List.getElem?_set_self (by rw [r1.len]; exact hl), hO, hb, vs, hv, dv.mono q⟩
    · rw [List.getElem?_set_ne hj] at e
      obtain ⟨g1, g2, g3, us, g4, g5⟩ := r1.ow j m e
      simp only [Ne.symm hj, if_false]
      exact ⟨(List.getElem?_set_ne hj).trans g1, fun z => g2 (.inl z), g3, us, g4, g5.mono q⟩
  · by_cases h1 : j = i
    · by_cases h2 : k = i
      · rw [h1, h2]
      · simp only [h1, h2, if_true, if_false] at e
        exact (hn k (own k hk h2) e.symm).elim
    · by_cases h2 : k = i
      · simp only [h1, h2, if_true, if_false] at e
        exact (hn j (own j hj h1) e).elim
      · simp only [h1, h2, if_false] at e
        exact r1.inj j k (own j hj h1) (own k hk h2) e
  · obtain ⟨p1, m, p2⟩ := r1.pin c hc
    have hne := not_pin hI hi hc
    refine ⟨?_, m, (List.getElem?_set_ne hne).trans p2⟩
    simp only [Ne.symm hne, if_false]
    exact p1
def putAll (io : List Nat) : List Nat → List SV → SS → Option SS
  | [], [], S => some S
  | i :: is, sv :: svs, S => if i < S.length ∧ io.contains i = false then putAll io is svs (S.set i sv) else none
  | _, _, _ => none
def putσ : List Nat → List V → L2.St → L2.St
  | i :: is, v :: vs, σ => putσ is vs (σ.set i (some v))
  | _, _, σ => σ
theorem put_run (hI : F.I.map (·.1) = io) : ∀ {is : List Nat} {svs : List SV} {vs : List V} {qs : List Addr} {α : Nat → Addr} {S S' : SS} {σ : L2.St}, Rl X.K G (F.withs qs) α S σ H → EachP X.K G (PH (F.withs qs) α S H) H svs vs qs → (∀ q ∈ qs, ¬ F.O q ∧ F.Hb q = none) → putAll io is svs S = some S' →
    ∃ α', Rl X.K G F α' S' (putσ is vs σ) H ∧ Ext (PH (F.withs qs) α S H) (PH F α' S' H)
  | [], [], _, _, α, S, S', σ, r, e, _, h => by
    cases e
    cases h
    exact ⟨α, r, Ext.refl _⟩
  | i :: is, .va d :: svs, _, qs, α, S, S', σ, r, e, hq, h => by
    cases e with
    | va dv e' =>
      unfold putAll at h
      split at h
      · rename_i c
        have hI' : (F.withs qs).I.map (·.1) = io := by rw [withs_I]; exact hI
        have a := r.setVa hI' dv c.1 c.2
        obtain ⟨α', r', x'⟩ := put_run hI a.1 (e'.mono a.2) hq h
        exact ⟨α', r', a.2.trans x'⟩
      · cases h
  | i :: is, .ow l :: svs, _, _, α, S, S', σ, r, e, hq, h => by
    cases e with
    | ow hat dv hn e' =>
      rename_i q ws vs qs
      unfold putAll at h
      split at h
      · rename_i c
        have hI' : (F.withs qs).I.map (·.1) = io := by rw [withs_I]; exact hI
        obtain ⟨o1, o2⟩ := hq q List.mem_cons_self
        have r : Rl X.K G ((F.withs qs).with q) α S σ H := r
        obtain ⟨r1, x1⟩ := Rl.putOw (F := F.withs qs) hI' r (fun z => by
          rcases withs_O.mp z with z | z
          · exact o1 z
          · exact hn z) (by rw [withs_Hb]; exact o2) hat dv c.1 c.2
        obtain ⟨α', r', x'⟩ := put_run hI r1 (e'.mono x1) (fun q' hq' => hq q' (List.mem_cons_of_mem _ hq')) h
        exact ⟨α', r', x1.trans x'⟩
      · cases h
  | i :: is, .un :: svs, _, _, _, _, _, _, _, e, _, _ => by cases e
  | [], _ :: _, _, _, _, _, _, _, _, _, _, h => by cases h
  | _ :: _, [], _, _, _, _, _, _, _, _, _, h => by cases h
def sPar (io : List Nat) (is : List Nat) (f : MF) : SF := fun S => (f S).oc fun svs S1 => match putAll io is svs S1 with
  | some S2 => .nx S2
  | none => .bad
theorem par_run {t : TA} {f : MF} {is : List Nat} (q : ∀ F α S σ H, F.I.map (·.1) = io → Rl X.K G F α S σ H → ∀ Q : List V → Hp → Prop,
    (f S).post (fun svs S' => ∀ vs qs H', Pend X G F α S σ H svs vs qs S' H' → Q vs H') (Er X G W F α S σ H) → t σ H Q) (hI : F.I.map (·.1) = io) (r : Rl X.K G F α S σ H) {E : Ends} (h : (sPar io is f S).post (Po.of X G W E F α S H)) (T : List V → Hp → Prop) (hT : ∀ vs H1, vs.length = is.length → E.nx (putσ is vs σ) H1 → T vs H1) : t σ H T := by
  unfold sPar at h
  rw [R.post_oc] at h
  refine q F α S σ H hI r _ (R.post_mono h (fun svs S1 h1 vs qs H1 p => ?_) fun e S1 z => Po.exS z)
  cases c : putAll io is svs S1 with
  | none => simp only [c] at h1; exact h1.elim
  | some S2 =>
    simp only [c] at h1
    obtain ⟨α', r', x'⟩ := put_run hI p.rl p.each (fun q hq => ⟨fun z => r.ob q z (p.fresh q hq), r.freshB (p.fresh q hq)⟩) c
    have len : ∀ {is : List Nat} {svs : List SV} {S S' : SS}, putAll io is svs S = some S' → svs.length = is.length := by
      intro is
      induction is with
      | nil => intro svs S S' h; cases svs with
        | nil => rfl
        | cons a b => cases h
      | cons i is ih => intro svs S S' h; cases svs with
        | nil => cases h
        | cons a b =>
          unfold putAll at h
          split at h
          · rw [List.length_cons, List.length_cons, ih h]
          · cases h
    have len2 : ∀ {Hv Hw : Hp} {svs : List SV} {vs : List V} {qs : List Addr}, EachP X.K G Hv Hw svs vs qs → vs.length = svs.length := by
      intro Hv Hw svs vs qs e
      induction e with
      | nil => rfl
      | va _ _ ih => rw [List.length_cons, List.length_cons, ih]
      | ow _ _ _ _ ih => rw [List.length_cons, List.length_cons, ih]
    exact hT vs H1 ((len2 p.each).trans (len c)) (h1 α' _ H1 ⟨r', p.ext.trans x', p.dom⟩)
theorem js_par2 {i j : Nat} {x y : Str} {a b : Expr} {px py pt pos : Pos} {kt k2 : Nat} {pt2 : Pos} {f : MF} (hc : X.calm = true) (hn : X.N.Nodup) (h1 : X.N[i]? = some x) (h2 : X.N[j]? = some y) (hij : i ≠ j) (l1 : List.lookup x X.env.scope.names = some .local) (l2 : List.lookup y X.env.scope.names = some .local) (hm : JM X G W io [a, b] f)
    (hs : swappedStores [Expr.Tuple [Expr.Name x px, Expr.Name y py] kt pt] (Expr.Tuple [a, b] k2 pt2) X.env = pure (some [x, y]) := by rfl) (hw : swapsWithSole [Expr.Tuple [Expr.Name x px, Expr.Name y py] kt pt] (Expr.Tuple [a, b] k2 pt2) pos.line X.env = pure false := by rfl) :
    JS X G W io (.Assign [.Tuple [.Name x px, .Name y py] kt pt] (.Tuple [a, b] k2 pt2) pos) (sPar io [i, j] f) := by
  obtain ⟨t, pa, q⟩ := hm
  refine ⟨_, ps_par hc hn h1 h2 hij l1 l2 pa hs hw, fun F α S σ H hI r E h => par_run q hI r h _ fun vs H1 hl hE => ?_⟩
  match vs, hl with
  | [v, w], _ => exact ⟨v, w, rfl, hE⟩
theorem js_par3 {i j l : Nat} {x y z : Str} {a b c : Expr} {px py pz pt pos : Pos} {kt k2 : Nat} {pt2 : Pos} {f : MF} (hc : X.calm = true) (hn : X.N.Nodup) (h1 : X.N[i]? = some x) (h2 : X.N[j]? = some y) (h3 : X.N[l]? = some z) (hij : i ≠ j) (hil : i ≠ l) (hjl : j ≠ l) (l1 : List.lookup x X.env.scope.names = some .local) (l2 : List.lookup y X.env.scope.names = some .local) (l3 : List.lookup z X.env.scope.names = some .local) (hm : JM X G W io [a, b, c] f)
    (hs : swappedStores [Expr.Tuple [Expr.Name x px, Expr.Name y py, Expr.Name z pz] kt pt] (Expr.Tuple [a, b, c] k2 pt2) X.env = pure (some [x, y, z]) := by rfl) (hw : swapsWithSole [Expr.Tuple [Expr.Name x px, Expr.Name y py, Expr.Name z pz] kt pt] (Expr.Tuple [a, b, c] k2 pt2) pos.line X.env = pure false := by rfl) :
    JS X G W io (.Assign [.Tuple [.Name x px, .Name y py, .Name z pz] kt pt] (.Tuple [a, b, c] k2 pt2) pos) (sPar io [i, j, l] f) := by
  obtain ⟨t, pa, q⟩ := hm
  refine ⟨_, ps_par3 hc hn h1 h2 h3 hij hil hjl l1 l2 l3 pa hs hw, fun F α S σ H hI r E h => par_run q hI r h _ fun vs H1 hl hE => ?_⟩
  match vs, hl with
  | [v, w, u], _ => exact ⟨v, w, u, rfl, hE⟩
end
end Fy
end
section
set_option Elab.async false
set_option linter.all false
set_option maxRecDepth 100000
set_option maxHeartbeats 2000000
namespace Fy
open PySem PySem.Spec PyProof.Rows L2
theorem hu64 {k : Nat} {A : Around} (hr : Room k A) : A.units + 64 < cLine := by have := hr.un; omega
theorem hu65 {k : Nat} {A : Around} (hr : Room k A) : A.units + 65 < cLine := by have := hr.un; omega
theorem hu66 {k : Nat} {A : Around} (hr : Room k A) : A.units + 66 < cLine := by have := hr.un; omega
theorem room_le {k j : Nat} {A : Around} (hr : Room k A) (h : j ≤ k) : Room j A := ⟨hr.hd, by have := hr.dp; omega, by have := hr.un; omega⟩
section
variable {X : Cx} {G : Kit} {W : WX} {io : List Nat}
/-! ### and, or, not as values -/
def eAnd (fa fb : EF) : EF := fun S => (fa S).bind fun d S1 => match d with
  | .bl true => fb S1
  | .bl false => .ok (.bl false) S1
  | _ => .bad
def eOr (fa fb : EF) : EF := fun S => (fa S).bind fun d S1 => match d with
  | .bl true => .ok (.bl true) S1
  | .bl false => fb S1
  | _ => .bad
def eNot (fa : EF) : EF := fun S => (fa S).bind fun d S1 => match d with
  | .bl b => .ok (.bl (!b)) S1
  | _ => .bad
theorem je_one {op : BoolOp} {a : Expr} {fa : EF} {pos : Pos} (h : JE X G W io a fa) : JE X G W io (.BoolOp op [a] pos) fa := by
  obtain ⟨t, p, q⟩ := h
  exact ⟨t, pe_one p, q⟩
theorem je_and {a b : Expr} {rest : List Expr} {fa fb : EF} {pos : Pos} (ha : JE X G W io a fa) (hb : JE X G W io (.BoolOp .And (b :: rest) pos) fb) : JE X G W io (.BoolOp .And (a :: b :: rest) pos) (eAnd fa fb) := by
  obtain ⟨ta, pa, qa⟩ := ha
  obtain ⟨tb, pb, qb⟩ := hb
  refine ⟨_, pe_and pa pb, fun F α S σ H hI rl Q h => ?_⟩
  unfold eAnd at h
  rw [R.post_bind] at h
  refine qa F α S σ H hI rl _ (R.post_mono h (fun d S1 h1 v H1 a1 d1 => ?_) fun e S1 z => z)
  cases d with
  | bl c =>
    cases d1
    refine ⟨c, rfl, ?_⟩
    cases c with
    | true =>
      rw [if_pos rfl]
      exact qb F α S1 σ H1 hI a1.1 _ (R.post_mono h1 (fun d S2 h2 v H2 a2 d2 => h2 v H2 (a1.trans a2) d2) fun e S2 z => z.step a1)
    | false =>
      rw [if_neg Bool.false_ne_true]
      exact h1 _ H1 a1 (.bl false)
  | _ => exact h1.elim
theorem je_or {a b : Expr} {rest : List Expr} {fa fb : EF} {pos : Pos} (ha : JE X G W io a fa) (hb : JE X G W io (.BoolOp .Or (b :: rest) pos) fb) : JE X G W io (.BoolOp .Or (a :: b :: rest) pos) (eOr fa fb) := by
  obtain ⟨ta, pa, qa⟩ := ha
  obtain ⟨tb, pb, qb⟩ := hb
  refine ⟨_, pe_or pa pb, fun F α S σ H hI rl Q h => ?_⟩
  unfold eOr at h
  rw [R.post_bind] at h
  refine qa F α S σ H hI rl _ (R.post_mono h (fun d S1 h1 v H1 a1 d1 => ?_) fun e S1 z => z)
  cases d with
  | bl c =>
    cases d1
    refine ⟨c, rfl, ?_⟩
    cases c with
    | true =>
      rw [if_pos rfl]
      exact h1 _ H1 a1 (.bl true)
    | false =>
      rw [if_neg Bool.false_ne_true]
      exact qb F α S1 σ H1 hI a1.1 _ (R.post_mono h1 (fun d S2 h2 v H2 a2 d2 => h2 v H2 (a1.trans a2) d2) fun e S2 z => z.step a1)
  | _ => exact h1.elim
theorem je_not {a : Expr} {fa : EF} {pos : Pos} (ha : JE X G W io a fa) : JE X G W io (.UnaryOp .Not a pos) (eNot fa) := by
  obtain ⟨ta, pa, qa⟩ := ha
  refine ⟨_, pe_not pa, fun F α S σ H hI rl Q h => ?_⟩
  unfold eNot at h
  rw [R.post_bind] at h
  refine qa F α S σ H hI rl _ (R.post_mono h (fun d S1 h1 v H1 a1 d1 => ?_) fun e S1 z => z)
  cases d with
  | bl c => cases d1; exact ⟨c, rfl, h1 _ H1 a1 (.bl _)⟩
  | _ => exact h1.elim
/-! ### a module's constants, its defs -/
def GC (K : PySem.W.Frag) (G : Kit) (mg : Str → Option Value) (x : Str) (d : D) : Prop := ∃ v u, mg x = some u ∧ L2.RelV v u ∧ ∀ H, Dv K G H v d
theorem je_gc {x : Str} {d : D} {pos : Pos} (c : GC X.K G X.mg x d) (hg : Gl X x) (hdb : (x == ("__debug__" : Str)) = false := by decide) : JE X G W io (.Name x pos) (eC d) := by
  obtain ⟨v, u, h1, h2, h3⟩ := c
  exact je_glob hg h1 h2 h3 hdb
/-- a def of the module's top that keeps a promise -/
structure Df (P : Program) (w : World) (K : PySem.W.Frag) (G : Kit) (mg : Str → Option Value) (base : Heap) (x : Str) (io : List Nat) (ps : List Str) (k : Nat) (g : SS → Fo) : Prop where
  ex : ∃ f fd, mg x = some (.ref f) ∧ PySem.W.keepIn K (.ref f) = true ∧ L2.Binds K fd ps [] ∧ KBinds K fd ps ps kwG kwG ∧ FnG P w K mg base (CX P w) k f fd ps (FSp K G io ps.length g)
theorem je_cD {k j n : Nat} {ps : List Str} {g : SS → Fo} {x : Str} {p pos : Pos} {e : Expr} {es : List Expr} {fa : AF} (d : Df X.prog X.w X.K G X.mg X.base x [] ps k g) (hr : Room j X.A) (hkj : k ≤ j) (hgd : X.A.guards = some []) (hg : Gl X x) (tk : Takes X W) (ha : JA X G W io (e :: es) fa) (hl : lenIs n fa) (hn : ps.length = n)
    (h1 : (x == ("__debug__" : Str)) = false := by decide) (h2 : starEach (e :: es) X.env = (false, eval e X.env) :: starEach es X.env := by rfl) (h3 : ((backTo pos (starEach es X.env)).any fun x => x.fst) = false := by rfl) : JE X G W io (.Call (.Name x p) (e :: es) [] pos) (eCall g fa) := by
  obtain ⟨f, fd, hm, hk, hb, _, F⟩ := d.ex
  subst hn
  exact je_call F (room_le hr hkj) hgd hg hm hk hb tk ha hl h1 h2 h3
theorem jl_cD {k j n : Nat} {ps : List Str} {g : SS → Fo} {x : Str} {p pos : Pos} {e : Expr} {es : List Expr} {fa : AF} (d : Df X.prog X.w X.K G X.mg X.base x [] ps k g) (hr : Room j X.A) (hkj : k ≤ j) (hgd : X.A.guards = some []) (hg : Gl X x) (tk : Takes X W) (ha : JA X G W io (e :: es) fa) (hl : lenIs n fa) (hn : ps.length = n)
    (h1 : (x == ("__debug__" : Str)) = false := by decide) (h2 : starEach (e :: es) X.env = (false, eval e X.env) :: starEach es X.env := by rfl) (h3 : ((backTo pos (starEach es X.env)).any fun x => x.fst) = false := by rfl) : JL X G W io (.Call (.Name x p) (e :: es) [] pos) (aCall g fa) := by
  obtain ⟨f, fd, hm, hk, hb, _, F⟩ := d.ex
  subst hn
  exact jl_call F (room_le hr hkj) hgd hg hm hk hb tk ha hl h1 h2 h3
theorem je_cDP {k j n i : Nat} {ps : List Str} {g : SS → Fo} {x y : Str} {p py pos : Pos} {es : List Expr} {fa : AF} (d : Df X.prog X.w X.K G X.mg X.base x [0] ps k g) (hr : Room j X.A) (hkj : k ≤ j) (hgd : X.A.guards = some []) (hg : Gl X x) (tk : Takes X W) (hN : X.N[i]? = some y) (hv : Vis X.env.scope y) (ha : JA X G W io es fa) (hl : lenIs n fa) (hn : ps.length = n + 1)
    (h1 : (x == ("__debug__" : Str)) = false := by decide) (h2 : starEach (.Name y py :: es) X.env = (false, eval (.Name y py) X.env) :: starEach es X.env := by rfl) (h3 : ((backTo pos (starEach es X.env)).any fun x => x.fst) = false := by rfl) (hd : (y == ("__debug__" : Str)) = false := by decide) (hcd : (y == ("__classdict__" : Str)) = false := by decide) : JE X G W io (.Call (.Name x p) (.Name y py :: es) [] pos) (eCallP i g fa) := by
  obtain ⟨f, fd, hm, hk, hb, _, F⟩ := d.ex
  rw [hn] at F
  exact je_callP F (room_le hr hkj) hgd hg hm hk hb tk hN hv ha hl h1 h2 h3 hd hcd
theorem jl_cDP {k j n i : Nat} {ps : List Str} {g : SS → Fo} {x y : Str} {p py pos : Pos} {es : List Expr} {fa : AF} (d : Df X.prog X.w X.K G X.mg X.base x [0] ps k g) (hr : Room j X.A) (hkj : k ≤ j) (hgd : X.A.guards = some []) (hg : Gl X x) (tk : Takes X W) (hN : X.N[i]? = some y) (hv : Vis X.env.scope y) (ha : JA X G W io es fa) (hl : lenIs n fa) (hn : ps.length = n + 1)
    (h1 : (x == ("__debug__" : Str)) = false := by decide) (h2 : starEach (.Name y py :: es) X.env = (false, eval (.Name y py) X.env) :: starEach es X.env := by rfl) (h3 : ((backTo pos (starEach es X.env)).any fun x => x.fst) = false := by rfl) (hd : (y == ("__debug__" : Str)) = false := by decide) (hcd : (y == ("__classdict__" : Str)) = false := by decide) : JL X G W io (.Call (.Name x p) (.Name y py :: es) [] pos) (aCallP i g fa) := by
  obtain ⟨f, fd, hm, hk, hb, _, F⟩ := d.ex
  rw [hn] at F
  exact jl_callP F (room_le hr hkj) hgd hg hm hk hb tk hN hv ha hl h1 h2 h3 hd hcd
theorem je_cDK {k j n : Nat} {ps : List Str} {g : SS → Fo} {x : Str} {p pos : Pos} {kws : List Keyword} {fa : AF} (d : Df X.prog X.w X.K G X.mg X.base x [] ps k g) (hr : Room j X.A) (hkj : k ≤ j) (hgd : X.A.guards = some []) (hg : Gl X x) (tk : Takes X W) (ha : JK X G W io kws fa) (hl : lenIs n fa) (hn : ps.length = n)
    (hall : ((backToKw pos (keywordEach kws X.env)).all fun x => x.fst.isSome) = true := by rfl) (hks : List.filterMap (fun x => x.fst) (backToKw pos (keywordEach kws X.env)) = ps := by rfl) (hdb : (x == ("__debug__" : Str)) = false := by decide)
    (hpl : (((backTo pos (starEach [] X.env)).any fun x => x.fst) || (backToKw pos (keywordEach kws X.env)).any fun x => x.fst.isNone) = false := by rfl) : JE X G W io (.Call (.Name x p) [] kws pos) (eCall g fa) := by
  obtain ⟨f, fd, hm, hk, _, hb, F⟩ := d.ex
  subst hn
  exact je_callK F (room_le hr hkj) hgd hg hm hk hb tk ha hl hall hks hdb hpl
end
/-! ### what a def that never ends promises: nothing -/
theorem fn_bad {P : Program} {w : World} {K : PySem.W.Frag} {G : Kit} {mg : Str → Option Value} {base : Heap} {k : Nat} {f : Addr} {fd : FuncData} {ps : List Str} {io : List Nat} : FnG P w K mg base (CX P w) k f fd ps (FSp K G io ps.length fun _ => .bad) := by
  refine ⟨fun vs H Q E h => h.1, fun A outer s H args us vs Q E hr hgd e0 hb r h => ?_⟩
  obtain ⟨_, _, _, _, _, _, _, z⟩ := h
  exact z.elim
/-! ### constants read off the written part -/
def relD (K : PySem.W.Frag) : Nat → D → Value → Bool
  | _, .int i, .int j _ => decide (i = j)
  | _, .str x, .str y _ => decide (x = y)
  | _, .bl a, .bool b => decide (a = b)
  | _, .non, .none => true
  | n + 1, .tup l, .ref a => match List.lookup a K with
    | some { cls := .type c, dict := _, data := .seq its _, slots := _ } => decide (c = "tuple") && decide (its.size ≤ sizeLine) && go n l its.toList
    | _ => false
  | _, _, _ => false
where
  go (n : Nat) : List D → List Value → Bool
    | [], [] => true
    | d :: ds, v :: vs => relD K n d v && go n ds vs
    | _, _ => false
mutual
theorem relD_ok {K : PySem.W.Frag} {G : Kit} : ∀ {n : Nat} {d : D} {u : Value}, relD K n d u = true → ∃ v, L2.RelV v u ∧ ∀ H, Dv K G H v d
  | n, .int i, .int j t, h => by
    cases n <;> (simp only [relD, decide_eq_true_eq] at h; subst h; exact ⟨.int i, ⟨_, rfl⟩, fun _ => .int i⟩)
  | n, .str x, .str y t, h => by
    cases n <;> (simp only [relD, decide_eq_true_eq] at h; subst h; exact ⟨.str x, ⟨_, rfl⟩, fun _ => .str x⟩)
  | n, .bl a, .bool b, h => by
    cases n <;> (simp only [relD, decide_eq_true_eq] at h; subst h; exact ⟨.bl a, rfl, fun _ => .bl a⟩)
  | n, .non, .none, h => ⟨.non, rfl, fun _ => .non⟩
  | n + 1, .tup l, .ref a, h => by
    simp only [relD] at h
    split at h
    · rename_i c dd its ep sl e
      obtain ⟨h1, h2⟩ := (Bool.and_eq_true _ _).mp h
      obtain ⟨h3, h4⟩ := (Bool.and_eq_true _ _).mp h1
      have h3 := of_decide_eq_true h3
      have h4 := of_decide_eq_true h4
      subst h3
      obtain ⟨vs, r, dv⟩ := relDA_ok h2
      exact ⟨.ref a, rfl, fun H => .tup (.inr ⟨_, its, ep, e, rfl, rfl, h4, r⟩) (dv H)⟩
    · cases h
  | 0, .tup _, _, h => by simp [relD] at h
  | 0, .lst _, _, h => by simp [relD] at h
  | n + 1, .lst _, _, h => by simp [relD] at h
  | 0, .ins _ _, _, h => by simp [relD] at h
  | n + 1, .ins _ _, _, h => by simp [relD] at h
  | 0, .scr _, _, h => by simp [relD] at h
  | n + 1, .scr _, _, h => by simp [relD] at h
theorem relDA_ok {K : PySem.W.Frag} {G : Kit} : ∀ {n : Nat} {ds : List D} {us : List Value}, relD.go K n ds us = true → ∃ vs, Vals vs us ∧ ∀ H, DvA K G H vs ds
  | _, [], [], _ => ⟨[], .nil, fun _ => .nil⟩
  | n, d :: ds, u :: us, h => by
    simp only [relD.go] at h
    obtain ⟨h1, h2⟩ := (Bool.and_eq_true _ _).mp h
    obtain ⟨v, r1, d1⟩ := relD_ok h1
    obtain ⟨vs, r2, d2⟩ := relDA_ok h2
    exact ⟨v :: vs, .cons r1 r2, fun H => .cons (d1 H) (d2 H)⟩
  | _, [], _ :: _, h => by simp [relD.go] at h
  | _, _ :: _, [], h => by simp [relD.go] at h
end
def gcB (x : Str) (d : D) (K : PySem.W.Frag) : Bool := match PySem.W.nsIn K mainGlobals x with
  | some (some u) => relD K 9 d u
  | _ => false
theorem gc_ok {K : PySem.W.Frag} {G : Kit} {h : Heap} {mg : Str → Option Value} {x : Str} {d : D} (X : K.In h) (N : h.Ns mainGlobals mg) (c : gcB x d K = true) : GC K G mg x d := by
  unfold gcB at c
  split at c
  · rename_i u e
    obtain ⟨v, r, dv⟩ := relD_ok c
    exact ⟨v, u, PySem.W.mg_of X N e, r, dv⟩
  · cases c
end Fy
end
section
set_option Elab.async false
set_option linter.all false
set_option maxRecDepth 100000
set_option maxHeartbeats 2000000
namespace Fy
open PySem PySem.Spec PyProof.Rows L2
theorem law_callG {P : Program} {w : World} {K : PySem.W.Frag} {mg mb : Str → Option Value} {CX : CXT} {k : Nat} {fa a : Addr} {fd : FuncData} {x : Str} {sp : Sp} {s₁ : Shared} {vs : List Value} {ns : List Int}
    (KX : K.In s₁.heap) (hns : s₁.heap.Ns mainGlobals mg) (hb : s₁.heap.Ns builtinsNs mb) (hbb : ∀ x : Str, x ≠ Str.ofString "__name__" → mb x = bootBuiltins x) (hlim : s₁.heap.NoLimit) (hg : s₁.gens = #[])
    (ha : s₁.heap.get? a = some { cls := Value.type "list", data := Data.seq vs.toArray }) (hi : IntsAre vs ns) (hl : ns.length ≤ sizeLine) (hr : Room k callerA)
    (F : ∀ base : Heap, K.In base → base.Ns mainGlobals mg → FnG P w K mg base CX k fa fd [x] sp) (hbind : ∀ (s : Shared) (u : Value), BindsTo s fd { pos := [u] } [(x, u)])
    (hsp : ∀ H : Hp, Only H → SqL K H a (ns.map V.int) → sp [V.ref a] H (fun v _ => v = V.bl true) fun _ _ _ => False)
    (hCX : ∀ (H : Hp) (e : Value) (s' : Shared), CX [] H s₁ (fun _ _ _ => False) e s' → False) :
    codeAny (model P w) callerA (Code.call (Value.ref fa) { pos := [Value.ref a] }) (fun r s' => r = Except.ok (Flow.ret (Value.bool true)) ∧ OldK s₁.heap s'.heap ∧ s'.os = s₁.os ∧ AllBare s'.gens) s₁ := by
  have rv := vals_ints hi
  have lenV := IntsAre.length hi
  have core : ∀ H : Hp, Only H → SqL K H a (ns.map V.int) → HOk P w H s₁.heap → (∀ b, H b ≠ none → b = a) → (H a ≠ none → List.lookup a K = none) →
      codeAny (model P w) callerA (Code.call (Value.ref fa) { pos := [Value.ref a] }) (fun r s' => r = Except.ok (Flow.ret (Value.bool true)) ∧ OldK s₁.heap s'.heap ∧ s'.os = s₁.os ∧ AllBare s'.gens) s₁ := by
    intro H hO hS hok hA hK
    have noA : ∀ {b : Addr} {o : Obj} {es : Array DictEntry} {ep : Nat}, s₁.heap.get? b = some o → o.data = Data.dict es ep → H b = none := by
      intro b o es ep e d
      cases q : H b with
      | none => rfl
      | some u =>
        have e' := hA b (by rw [q]; intro z; cases z)
        subst e'
        rw [ha] at e
        cases e
        cases d
    have nsK : ∀ {b : Addr} {m : Str → Option Value}, s₁.heap.Ns b m → (hidT s₁.heap H).Ns b m := by
      rintro b m ⟨o, es, ep, e, d, r⟩
      exact ⟨o, es, ep, hidT_get e (noA e d), d, r⟩
    have hKb : K.In (hidT s₁.heap H) := fun b o e => hidT_get (KX b o e) (by
      cases q : H b with
      | none => rfl
      | some u =>
        have e' := hA b (by rw [q]; intro z; cases z)
        subst e'
        have := hK (by rw [q]; intro z; cases z)
        rw [this] at e
        cases e)
    have hM : L2.Mod K mg (hidT s₁.heap H) := { kin := hKb, glob := nsK hns, blt := ⟨mb, nsK hb, hbb⟩, nolimit := (by
      obtain ⟨mc, h1, h2⟩ := hlim
      exact ⟨mc, nsK h1, h2⟩) }
    have e0 : Env0 P w K mg (hidT s₁.heap H) callerA [] s₁ H := { frames := rfl, mod := hM, bs := fun b o e => of_hidT e, bsz := Nat.le_of_eq (hidT_size s₁.heap H), funs := trivial, frf := fun b hb => (by cases hb), hok := hok, bare := AllBare.of_eq hg }
    refine codeAny_mono ((F _ hKb (nsK hns)).run callerA [] s₁ H { pos := [Value.ref a] } [Value.ref a] [V.ref a] (fun v _ => v = V.bl true) (fun _ _ _ => False) hr rfl e0 (hbind s₁ (Value.ref a)) (.cons rfl .nil) (hsp H hO hS)) fun r s' h => ?_
    cases r with
    | error e => exact (hCX H e s' h).elim
    | ok fl =>
      cases fl with
      | ret u =>
        obtain ⟨v, H', os, bare, un, hok', r', q⟩ := h
        have q : v = V.bl true := q
        subst q
        have r' : u = Value.bool true := r'
        subst r'
        refine ⟨rfl, OldK.of_keep fun b o e => ?_, os, bare⟩
        cases q : H b with
        | none => exact un.keep b o e q (fun z => by cases z) (fun z => by cases z)
        | some u =>
          rcases hO b with z | ⟨ob, xs, z⟩
          · rw [q] at z; cases z
          · have h1 := hok b _ z
            have h2 := un.frzs b ob _ z
            have h3 := hok' b _ h2
            have h1 : s₁.heap.get? b = some ob := h1.1
            have h3 : s'.heap.get? b = some ob := h3.1
            rw [h1] at e
            rw [h3]
            exact e
      | _ => exact h.elim
  cases hk : List.lookup a K with
  | none =>
    refine core (fun b => if b = a then some (.frz { cls := Value.type "list", data := Data.seq vs.toArray } (.lst (ns.map V.int))) else none) (fun b => ?_) (.inl (.inr ⟨_, if_pos rfl⟩)) (fun b u z => ?_) (fun b z => ?_) (fun _ => hk)
    · by_cases c : b = a
      · exact .inr ⟨_, _, if_pos c⟩
      · exact .inl (if_neg c)
    · by_cases c : b = a
      · have z : some (HO.frz { cls := Value.type "list", data := Data.seq vs.toArray } (.lst (ns.map V.int))) = some u := (if_pos c).symm.trans z
        cases z
        subst c
        exact ⟨ha, by rw [List.length_map]; exact hl, vs, 0, rv, ha⟩
      · have z : none = some u := (if_neg c).symm.trans z
        cases z
    · by_cases c : b = a
      · exact c
      · exact (z (if_neg c)).elim
  | some o =>
    have e := KX a o hk
    rw [ha] at e
    cases e
    refine core (fun _ => none) (fun _ => .inl rfl) (.inr ⟨_, vs.toArray, 0, hk, rfl, rfl, rfl, ?_, rv⟩) (fun b u z => by cases z) (fun b z => (z rfl).elim) (fun z => (z rfl).elim)
    rw [List.size_toArray, lenV]
    exact hl
theorem walk_ofG {l : PySem.W.OpenLaw} {n k : Nat} {q : Program} {loose : List Str} {XP : (Str → Option Value) → Heap → Prop} {YP : World → Heap → Prop} {d : DefRec} {CX : World → CXT} {x : Str} (hn : l.most = some n) (hn2 : n ≤ sizeLine) (hdf : d.params.defaults = []) (hr : Room k callerA)
    (F : ∀ (w : World) (mg : Str → Option Value) (fa : Addr) (h : Heap), YP w h → h.Ns mainGlobals mg → mg d.name = some (Value.ref fa) →
      ∃ K fd sp, K.In h ∧ (∀ (s : Shared) (u : Value), BindsTo s fd { pos := [u] } [(x, u)]) ∧ (∀ (H : Hp) (a : Addr) (ns : List Int), ns.length ≤ n → Only H → SqL K H a (ns.map V.int) → sp [V.ref a] H (fun v _ => v = V.bl true) fun _ _ _ => False) ∧
        ∀ base : Heap, K.In base → base.Ns mainGlobals mg → FnG l.prog w K mg base (CX w) k fa fd [x] sp)
    (hCX : ∀ (w : World) (H : Hp) (s : Shared) (e : Value) (s' : Shared), CX w [] H s (fun _ _ _ => False) e s' → False) : PySem.W.WalkO q loose XP YP l.row.toRowW d [] fun f vs => call f vs := by
  refine _root_.Att.attach_call hn hdf fun w s₀ s₁ mg mb fa o pm cd doc a vs ns G Y ho hd hcd hmg hobj hints hlen hg => ?_
  obtain ⟨K, fd, sp, KX, hb, hsp, hF⟩ := F w mg fa s₁.heap Y G.T.g hmg
  exact law_callG (CX := CX w) KX G.T.g G.T.b G.T.builtins G.T.nolimit hg hobj hints (Nat.le_trans hlen hn2) hr hF hb (fun H hO hS => hsp H a ns hlen hO hS) fun H e s' => hCX w H s₁ e s'
def kit : Kit := ⟨fun _ => 0, fun _ => []⟩
/-- a law's function that is True keeps what is asked of the law -/
theorem law_sp {K : PySem.W.Frag} {G : Kit} {f : SS → Fo} {a : Addr} {ns : List Int} {H : Hp} (hS : SqL K H a (ns.map V.int)) (h : f [.va (.scr ns)] = .va (.bl true) []) : FSp K G [] 1 f [V.ref a] H (fun v _ => v = V.bl true) fun _ _ _ => False := by
  have no : ∀ i, ¬ isOw [SV.va (D.scr ns)] i := fun i ⟨l, e⟩ => by
    match i, e with
    | 0, e => cases e
    | i + 1, e => cases e
  have nm : ∀ a, ¬ Msk ⟨fun _ => False, fun _ => none, []⟩ (fun _ => 0) [SV.va (D.scr ns)] a := fun a m => by
    rcases m with m | ⟨i, m, _⟩
    · exact m
    · exact no i m
  refine ⟨rfl, ⟨fun _ => False, fun _ => none, []⟩, fun _ => 0, [.va (.scr ns)], rfl, ⟨rfl, fun i d e => ?_, fun i l e => (no i ⟨l, e⟩).elim, fun i j hi => (no i hi).elim, fun a o e => (by cases e), fun a e => e.elim, fun p hp => (by cases hp)⟩, fun i hi => (no i hi).elim, ?_⟩
  · match i, e with
    | 0, e =>
      cases e
      refine ⟨.ref a, rfl, .scr (Ext.l (fun b o z => (hide_at (nm b)).trans z) hS)⟩
    | i + 1, e => cases e
  · rw [h]
    intro v H' _ dv
    cases dv
    rfl
end Fy
end
section
set_option Elab.async false
set_option linter.all false
set_option maxRecDepth 100000
set_option maxHeartbeats 2000000
namespace Fy
open PySem PySem.Spec PyProof.Rows L2
/-! ### dicts whose keys are data: None, whole numbers, texts, tuples of such -/
mutual
def keyOf : PyData → Option NestedKey
  | .none => some .none
  | .int i => some (.num i)
  | .str x => some (.text x)
  | .tuple l => (keyOfA l).map .tup
  | _ => none
def keyOfA : List PyData → Option (List NestedKey)
  | [] => some []
  | d :: r => match keyOf d, keyOfA r with
    | some p, some q => some (p :: q)
    | _, _ => none
end
section
variable {X : Cx} {pins : List (Addr × Obj)} {σ : L2.St} {H : Hp} {s : Shared}
mutual
theorem key_is (I : L2.Inv X pins σ H s) : ∀ {p : PyData} {v : V} {u : Value} {k : NestedKey}, Dp X.K H v p → keyOf p = some k → L2.RelV v u → NestedIs s.heap k u
  | .none, _, u, _, .non, e, r => by
    cases e
    obtain rfl : u = Value.none := r
    exact .none
  | .int _, _, u, _, .int i, e, r => by
    cases e
    obtain ⟨t, rfl⟩ := r
    exact .int i t
  | .str _, _, u, _, .str x, e, r => by
    cases e
    obtain ⟨t, rfl⟩ := r
    exact .text x t
  | .tuple l, _, u, k, .tup h t, e, r => by
    simp only [keyOf] at e
    cases q : keyOfA l with
    | none => rw [q] at e; cases e
    | some ks =>
      rw [q] at e
      cases e
      obtain rfl : u = Value.ref _ := r
      obtain ⟨its, rv, ⟨o, h1, h2, n, h3⟩, _⟩ := I.tuple h
      exact .tup h1 h2 h3 (key_all I t q rv)
  | .bool _, _, _, _, _, e, _ => by simp only [keyOf] at e; cases e
  | .list _, _, _, _, _, e, _ => by simp only [keyOf] at e; cases e
  | .dict _, _, _, _, _, e, _ => by simp only [keyOf] at e; cases e
theorem key_all (I : L2.Inv X pins σ H s) : ∀ {ps : List PyData} {vs : List V} {us : List Value} {ks : List NestedKey}, DpAll X.K H vs ps → keyOfA ps = some ks → Vals vs us → NestedAll s.heap ks us
  | [], _, _, _, .nil, e, .nil => by simp only [keyOfA] at e; cases e; exact .nil
  | p :: ps, _, _, ks, .cons h t, e, .cons r rr => by
    simp only [keyOfA] at e
    cases q1 : keyOf p with
    | none => rw [q1] at e; cases e
    | some k =>
      cases q2 : keyOfA ps with
      | none => rw [q1, q2] at e; cases e
      | some ks' =>
        rw [q1, q2] at e
        cases e
        exact .cons (key_is I h q1 r) (key_all I t q2 rr)
end
end
/-- a key that stands in the heap: its place, what it is -/
def NKey (K : PySem.W.Frag) (H : Hp) (b : Addr) (k : NestedKey) : Prop := (∃ p, Dp K H (.ref b) p ∧ keyOf p = some k) ∧ k.depth ≤ 8
theorem NKey.mono {K : PySem.W.Frag} {H H' : Hp} {b : Addr} {k : NestedKey} (e : Ext H H') (h : NKey K H b k) : NKey K H' b k := by
  obtain ⟨⟨p, h1, h2⟩, h3⟩ := h
  exact ⟨⟨p, e.dp h1, h2⟩, h3⟩
/-- the dict itself, as it stands at d -/
def rawN (P : Program) (w : World) (d : Addr) (xs : List (NestedKey × Addr × Value)) : Heap → Prop := fun h => (d == sysModules) = false ∧ ∃ o es ep, h.get? d = some o ∧ o.ExactDict ∧ o.data = Data.dict es ep ∧ es.toList = xs.map (entryOfKey (nestedKind P w)) ∧ (xs.map (·.1)).Nodup
theorem rawN_stays {P : Program} {w : World} {d : Addr} {xs : List (NestedKey × Addr × Value)} (h1 h2 : Heap) (h : rawN P w d xs h1) (k : ∀ o, h1.get? d = some o → h2.get? d = some o) : rawN P w d xs h2 := by
  obtain ⟨a, o, es, ep, b, c⟩ := h
  exact ⟨a, o, es, ep, k o b, c⟩
section
variable {X : Cx} {pins : List (Addr × Obj)} {σ : L2.St} {H : Hp} {s : Shared}
theorem nd_of (I : L2.Inv X pins σ H s) {d : Addr} {xs : List (NestedKey × Addr × Value)} (h : H d = some (.ext (rawN X.prog X.w d xs))) (hk : ∀ x ∈ xs, NKey X.K H x.2.1 x.1) : (d == sysModules) = false ∧ Heap.DictOfH (nestedKind X.prog X.w) s.heap d xs := by
  obtain ⟨⟨h0, o, es, ep, h1, h2, h3, h4, h5⟩, _⟩ := I.hok d _ h
  refine ⟨h0, o, es, ep, h1, h2, h3, h4, fun x hx => ?_, h5⟩
  obtain ⟨⟨p, k1, k2⟩, k3⟩ := hk x hx
  exact ⟨key_is I k1 k2 rfl, k3⟩
theorem pe_dnewN {pos : Pos} : PE X (.Dict [] [] pos) (fun _ H Q => ∀ p, H p = none → Q (.ref p) (upd H p (.ext (rawN X.prog X.w p [])))) := ⟨fun pins s σ H Q I h =>
  wpAny_Dict_empty ⟨.ref s.heap.objs.size, upd H s.heap.objs.size (.ext (rawN X.prog X.w s.heap.objs.size [])), I.laid (fun _ _ q => Heap.get?_push_of_some { cls := Value.type "dict", data := Data.dict #[] } q) (Nat.le_refl _)
    ⟨⟨beq_eq_false_iff_ne.mpr (Ne.symm (Nat.ne_of_lt I.big)), { cls := Value.type "dict", data := Data.dict #[] }, #[], 0, Heap.get?_push_size s.heap rfl, ⟨rfl, rfl, rfl⟩, rfl, rfl, List.nodup_nil⟩, ⟨_, Heap.get?_push_size s.heap rfl⟩, fun h1 h2 a b => rawN_stays h1 h2 a b⟩, rfl, h _ (HOk.fresh I.hok (Nat.le_refl _))⟩⟩
theorem d_setdN (I : L2.Inv X pins σ H s) (hu : X.A.units + 64 < cLine) {d b q : Addr} {k : NestedKey} {xs : List (NestedKey × Addr × Value)} (h : H d = some (.ext (rawN X.prog X.w d xs))) (hk : ∀ x ∈ xs, NKey X.K H x.2.1 x.1) (hb : NKey X.K H b k) (hl : xs.length ≤ sizeLine) {Q : VK}
    (h1 : ∀ p : Addr × Addr, atKey xs k = some (p.1, .ref p.2) → Q (.ref p.2) H) (hv : ∀ x ∈ xs, ∃ c, x.2.2 = Value.ref c) (h2 : atKey xs k = none → Q (.ref q) (upd H d (.ext (rawN X.prog X.w d (xs ++ [(k, b, .ref q)]))))) :
    wpAny (model X.prog X.w) X.A (call (.builtin "dict.setdefault") [.ref d, .ref b, .ref q]) (EP X pins σ Q) X.xe s := by
  obtain ⟨h0, hd⟩ := nd_of I h hk
  have hkk : (nestedKind X.prog X.w).is s.heap k b := by
    obtain ⟨⟨p, k1, k2⟩, k3⟩ := hb
    exact ⟨key_is I k1 k2 rfl, k3⟩
  refine call_setdefault_heap (knd := nestedKind X.prog X.w) (show (X.A.units + 1) + 8 < cLine by omega) hkk h0 hd (fun p e => ?_) (fun e h' hd' sb => ?_) hl
  · have hm : (k, p) ∈ xs := by
      unfold atKey at e
      cases q : xs.find? (fun x => decide (x.1 = k)) with
      | none => rw [q] at e; cases e
      | some y =>
        rw [q] at e
        cases e
        have m1 := List.find?_some q
        have m2 := List.mem_of_find?_eq_some q
        have m1 : y.1 = k := of_decide_eq_true m1
        rw [← m1]
        exact m2
    obtain ⟨c, hc⟩ := hv _ hm
    have hc : p.2 = Value.ref c := hc
    have e' : atKey xs k = some (p.1, .ref c) := by rw [e, ← hc]
    rw [hc]
    exact ⟨.ref c, H, I.tok _, rfl, h1 (p.1, c) e'⟩
  · rw [storedH_new e] at hd'
    obtain ⟨o, es, ep, g1, g2, g3, g4, g5, g6⟩ := hd'
    refine ⟨.ref q, _, I.write (x := d) (e := d) (o := .ext (rawN X.prog X.w d (xs ++ [(k, b, .ref q)]))) (by rw [h]; exact trivial) (.inl rfl) (fun c u hc hu => ?_) ⟨o, g1⟩ ⟨⟨h0, o, es, ep, g1, g2, g3, g4, g6⟩, ⟨o, g1⟩, fun h1 h2 a b => rawN_stays h1 h2 a b⟩, rfl, h2 e⟩
    rw [sb.2 c hc]
    exact hu
/-- d.setdefault(key, a new object) -/
def tSetdN (X : Cx) (td ty tx : TE) : TE := fun σ H Q => td σ H fun x H1 => ∃ d xs, x = .ref d ∧ H1 d = some (.ext (rawN X.prog X.w d xs)) ∧ ty σ H1 fun y H2 => tx σ H2 fun z H3 => ∃ b q k xs, y = .ref b ∧ z = .ref q ∧ H3 d = some (.ext (rawN X.prog X.w d xs)) ∧ (∀ x ∈ xs, NKey X.K H3 x.2.1 x.1) ∧ NKey X.K H3 b k ∧ xs.length ≤ sizeLine ∧ (∀ x ∈ xs, ∃ c, x.2.2 = Value.ref c) ∧
  (∀ p : Addr × Addr, atKey xs k = some (p.1, .ref p.2) → Q (.ref p.2) H3) ∧ (atKey xs k = none → Q (.ref q) (upd H3 d (.ext (rawN X.prog X.w d (xs ++ [(k, b, .ref q)])))))
theorem pe_setdN (hu : X.A.units + 64 < cLine) {o e f : Expr} {td ty tx : TE} {apos cpos : Pos} (ho : PE X o td) (he : PE X e ty) (hf : PE X f tx) (m : M2 X o "setdefault" apos e f cpos) : PE X (.Call (.Attribute o "setdefault" apos) [e, f] [] cpos) (tSetdN X td ty tx) := by
  refine ⟨fun pins s σ H Q I h => ?_⟩
  refine wpAny_Call_method m.base m.few m.line PySem.F.plainAttrs_dict PySem.F.slot_dict_setdefault PySem.F.type_dict_setdefault (thn (ho.run pins s σ H _ I h) fun u s1 hh => ?_)
  obtain ⟨x, H1, I1, rx, d, xs, rfl, hd, q1⟩ := hh
  obtain rfl : u = Value.ref d := rx
  obtain ⟨⟨h0, ob, es, ep, g1, g2, g3, _⟩, _⟩ := I1.hok d _ hd
  refine ⟨⟨ob, g1, g2.1⟩, fun a ea => ?_, ?_⟩
  · cases ea
    exact ⟨ob, g1, g2.2.1⟩
  rw [m.trees]
  refine Calls.callWith_builtin rfl (Calls.evalArgs_plain (Calls.spliced_cons (thn (he.run pins s1 σ H1 _ I1 q1) fun iv s2 hh => ?_)))
  obtain ⟨y, H2, I2, ry, q2⟩ := hh
  refine Calls.spliced_cons (thn (hf.run pins s2 σ H2 _ I2 q2) fun fv s3 hh => ?_)
  obtain ⟨z, H3, I3, rz, b, q, k, xs3, rfl, rfl, hd3, hk3, hb3, hl3, hv3, w1, w2⟩ := hh
  obtain rfl : iv = Value.ref b := ry
  obtain rfl : fv = Value.ref q := rz
  exact Calls.spliced_nil (d_setdN I3 hu hd3 hk3 hb3 hl3 w1 hv3 w2)
end
end Fy
end
section
set_option Elab.async false
set_option linter.all false
set_option maxRecDepth 100000
set_option maxHeartbeats 2000000
namespace Fy
open PySem PySem.Spec PyProof.Rows L2
/-! ### objects that a def holds by hand: places that are told, foreign to the slots -/
def Fm.hold (F : Fm) (M : Hp) : Fm := ⟨fun a => F.O a ∨ M a ≠ none, fun a => match M a with
  | some o => some o
  | none => F.Hb a, F.I⟩
section
variable {X : Cx} {G : Kit} {W : WX} {io : List Nat} {F : Fm} {M : Hp} {α α1 α' : Nat → Addr} {S S' S1 S2 : SS} {σ σ1 σ' : L2.St} {H H' H1 H2 : Hp} {p : Addr} {o o' : HO}
theorem hold_msk {a : Addr} : Msk (F.hold M) α S a ↔ Msk F α S a ∨ M a ≠ none := by
  constructor
  · rintro ((h | h) | h)
    · exact .inl (.inl h)
    · exact .inr h
    · exact .inl (.inr h)
  · rintro ((h | h) | h)
    · exact .inl (.inl h)
    · exact .inr h
    · exact .inl (.inr h)
theorem hold_Hb_some (h : M p = some o) : (F.hold M).Hb p = some o := by
  show (match M p with
    | some o => some o
    | none => F.Hb p) = some o
  rw [h]
theorem hold_Hb_none (h : M p = none) : (F.hold M).Hb p = F.Hb p := by
  show (match M p with
    | some o => some o
    | none => F.Hb p) = F.Hb p
  rw [h]
/-- what is held stands -/
theorem Rl.held (r : Rl X.K G (F.hold M) α S σ H) (h : M p = some o) : H p = some o := r.ext p o (hold_Hb_some h)
theorem hold_none : Rl X.K G F α S σ H → Rl X.K G (F.hold fun _ => none) α S σ H := fun r => r.congr (fun a => by
  show F.O a ↔ (F.O a ∨ (none : Option HO) ≠ none)
  simp) rfl (fun a o h => h)
theorem with_ext2 {M : Hp} : Ext (PH (F.hold M) α S H) (PH F α S H) := fun a o h => by
  obtain ⟨n, h⟩ := hide_some h
  exact (hide_at fun m => n (hold_msk.mpr (.inl m))).trans h
/-- let go of all that is held -/
theorem Rl.drop (r : Rl X.K G (F.hold M) α S σ H) (hm : ∀ a, M a ≠ none → F.Hb a = none) : Rl X.K G F α S σ H := by
  refine ⟨r.len, fun i d h => ?_, fun i l h => ?_, r.inj, fun a u z => ?_, fun a h => r.ob a (.inl h), r.pin⟩
  · obtain ⟨v, h1, h2⟩ := r.va i d h
    exact ⟨v, h1, h2.mono with_ext2⟩
  · obtain ⟨h1, h2, h3, vs, h4, h5⟩ := r.ow i l h
    refine ⟨h1, fun z => h2 (.inl z), ?_, vs, h4, h5.mono with_ext2⟩
    have hn : M (α i) = none := by
      cases c : M (α i) with
      | none => rfl
      | some o => exact (h2 (.inr (by rw [c]; intro z; cases z))).elim
    rw [hold_Hb_none hn] at h3
    exact h3
  · refine r.ext a u ?_
    have hn : M a = none := by
      cases c : M a with
      | none => rfl
      | some o =>
        have := hm a (by rw [c]; intro z; cases z)
        rw [this] at z; cases z
    rw [hold_Hb_none hn]
    exact z
/-- a new object is held -/
theorem Rl.holdNew (r : Rl X.K G (F.hold M) α S σ H) (hp : H p = none) : Rl X.K G (F.hold (upd M p o)) α S σ (upd H p o) ∧ Ext (PH (F.hold M) α S H) (PH (F.hold (upd M p o)) α S (upd H p o)) := by
  have x : Ext (PH (F.hold M) α S H) (PH (F.hold (upd M p o)) α S (upd H p o)) := fun a u h => by
    obtain ⟨n, h⟩ := hide_some h
    have na : a ≠ p := fun e => by rw [e, hp] at h; cases h
    refine (hide_at fun m => ?_).trans ((upd_ne na).trans h)
    rcases hold_msk.mp m with m | m
    · exact n (hold_msk.mpr (.inl m))
    · rw [upd_ne na] at m
      exact n (hold_msk.mpr (.inr m))
  refine ⟨⟨r.len, fun i d h => ?_, fun i l h => ?_, r.inj, fun a u z => ?_, fun a h => ?_, r.pin⟩, x⟩
  · obtain ⟨v, h1, h2⟩ := r.va i d h
    exact ⟨v, h1, h2.mono x⟩
  · obtain ⟨h1, h2, h3, vs, h4, h5⟩ := r.ow i l h
    have na : α i ≠ p := fun e => by rw [e, hp] at h4; cases h4
    refine ⟨h1, fun z => ?_, ?_, vs, (upd_ne na).trans h4, h5.mono x⟩
    · rcases z with z | z
      · exact h2 (.inl z)
      · rw [upd_ne na] at z
        exact h2 (.inr z)
    · show (match upd M p o (α i) with
        | some o => some o
        | none => F.Hb (α i)) = none
      rw [upd_ne na]
      exact h3
  · by_cases c : a = p
    · subst c
      have z : (match upd M a o a with
        | some o => some o
        | none => F.Hb a) = some u := z
      rw [upd_same] at z
      cases z
      exact upd_same
    · rw [upd_ne c]
      refine r.ext a u ?_
      have z : (match upd M p o a with
        | some o => some o
        | none => F.Hb a) = some u := z
      rw [upd_ne c] at z
      exact z
  · by_cases c : a = p
    · rw [c, upd_same]; intro w; cases w
    · rw [upd_ne c]
      rcases h with h | h
      · exact r.ob a (.inl h)
      · rw [upd_ne c] at h
        exact r.ob a (.inr h)
/-- what is held is changed -/
theorem Rl.holdUpd (r : Rl X.K G (F.hold M) α S σ H) (hp : M p = some o) : Rl X.K G (F.hold (upd M p o')) α S σ (upd H p o') ∧ PH (F.hold (upd M p o')) α S (upd H p o') = PH (F.hold M) α S H := by
  have ne : ∀ a, upd M p o' a ≠ none ↔ M a ≠ none := fun a => by
    by_cases c : a = p
    · subst c
      rw [upd_same, hp]
      simp
    · rw [upd_ne c]
  have mk : ∀ a, Msk (F.hold (upd M p o')) α S a ↔ Msk (F.hold M) α S a := fun a => by
    rw [hold_msk, hold_msk, ne]
  have x : PH (F.hold (upd M p o')) α S (upd H p o') = PH (F.hold M) α S H := by
    funext a
    unfold PH hide
    by_cases c : Msk (F.hold M) α S a
    · rw [if_pos c, if_pos ((mk a).mpr c)]
    · rw [if_neg c, if_neg fun z => c ((mk a).mp z)]
      exact upd_ne fun e => c (hold_msk.mpr (.inr (by rw [e, hp]; intro z; cases z)))
  refine ⟨⟨r.len, fun i d h => ?_, fun i l h => ?_, r.inj, fun a u z => ?_, fun a h => ?_, r.pin⟩, x⟩
  · rw [x]; exact r.va i d h
  · obtain ⟨h1, h2, h3, vs, h4, h5⟩ := r.ow i l h
    have na : α i ≠ p := fun e => h2 (.inr (by rw [e, hp]; intro z; cases z))
    rw [x]
    refine ⟨h1, fun z => ?_, ?_, vs, (upd_ne na).trans h4, h5⟩
    · rcases z with z | z
      · exact h2 (.inl z)
      · exact h2 (.inr ((ne _).mp z))
    · show (match upd M p o' (α i) with
        | some o => some o
        | none => F.Hb (α i)) = none
      rw [upd_ne na]
      exact h3
  · by_cases c : a = p
    · subst c
      have z : (match upd M a o' a with
        | some o => some o
        | none => F.Hb a) = some u := z
      rw [upd_same] at z
      cases z
      exact upd_same
    · rw [upd_ne c]
      refine r.ext a u ?_
      have z : (match upd M p o' a with
        | some o => some o
        | none => F.Hb a) = some u := z
      rw [upd_ne c] at z
      exact z
  · by_cases c : a = p
    · rw [c, upd_same]; intro w; cases w
    · rw [upd_ne c]
      rcases h with h | h
      · exact r.ob a (.inl h)
      · exact r.ob a (.inr ((ne a).mp h))
/-- a new list, made by an expression of one's own, is held -/
theorem Rl.holdWith (r : Rl X.K G ((F.hold M).with p) α S σ H) (hp : H p = some o) (hM : M p = none) (hb : F.Hb p = none) : Rl X.K G (F.hold (upd M p o)) α S σ H ∧ PH (F.hold (upd M p o)) α S H = PH ((F.hold M).with p) α S H := by
  have oo : ∀ a, (F.hold (upd M p o)).O a ↔ ((F.hold M).with p).O a := fun a => by
    show (F.O a ∨ upd M p o a ≠ none) ↔ ((F.O a ∨ M a ≠ none) ∨ a = p)
    by_cases c : a = p
    · subst c
      simp [upd_same]
    · rw [upd_ne c]
      simp [c]
  have mk : ∀ a, Msk (F.hold (upd M p o)) α S a ↔ Msk ((F.hold M).with p) α S a := fun a => msk_iff oo
  have x : PH (F.hold (upd M p o)) α S H = PH ((F.hold M).with p) α S H := by
    funext a
    unfold PH hide
    by_cases c : Msk ((F.hold M).with p) α S a
    · rw [if_pos c, if_pos ((mk a).mpr c)]
    · rw [if_neg c, if_neg fun z => c ((mk a).mp z)]
  refine ⟨⟨r.len, fun i d h => ?_, fun i l h => ?_, r.inj, fun a u z => ?_, fun a h => r.ob a ((oo a).mp h), r.pin⟩, x⟩
  · rw [x]; exact r.va i d h
  · obtain ⟨h1, h2, h3, vs, h4, h5⟩ := r.ow i l h
    have na : α i ≠ p := fun e => h2 (.inr e)
    rw [x]
    refine ⟨h1, fun z => h2 ((oo _).mp z), ?_, vs, h4, h5⟩
    show (match upd M p o (α i) with
        | some o => some o
        | none => F.Hb (α i)) = none
    rw [upd_ne na]
    exact h3
  · by_cases c : a = p
    · subst c
      have z : (match upd M a o a with
        | some o => some o
        | none => F.Hb a) = some u := z
      rw [upd_same] at z
      cases z
      exact hp
    · refine r.ext a u ?_
      have z : (match upd M p o a with
        | some o => some o
        | none => F.Hb a) = some u := z
      rw [upd_ne c] at z
      exact z
/-- a slot of which nothing is told takes anything -/
theorem Rl.setUn (r : Rl X.K G F α S σ H) {i : Nat} {x : Option V} (h : S[i]? = some .un) : Rl X.K G F α S (σ.set i x) H := by
  refine ⟨by rw [List.length_set]; exact r.len, fun j d e => ?_, fun j l e => ?_, r.inj, r.ext, r.ob, r.pin⟩
  · have hj : i ≠ j := fun z => by rw [z, e] at h; cases h
    obtain ⟨v, e1, e2⟩ := r.va j d e
    exact ⟨v, (List.getElem?_set_ne hj).trans e1, e2⟩
  · have hj : i ≠ j := fun z => by rw [z, e] at h; cases h
    obtain ⟨e1, e2⟩ := r.ow j l e
    exact ⟨(List.getElem?_set_ne hj).trans e1, e2⟩
/-- a list that is held gets a slot -/
theorem Rl.holdPut (hI : F.I.map (·.1) = io) {i : Nat} {vs : List V} {ds : List D} (r : Rl X.K G (F.hold (upd M p o)) α S σ H) (ho : o = .lst vs) (hM : M p = none) (hO : ¬ F.O p) (hb : F.Hb p = none) (dv : DvA X.K G (PH (F.hold (upd M p o)) α S H) vs ds) (hl : i < S.length) (hi : io.contains i = false) :
    Rl X.K G (F.hold M) (fun j => if j = i then p else α j) (S.set i (.ow ds)) (σ.set i (some (.ref p))) H ∧ Ext (PH (F.hold (upd M p o)) α S H) (PH (F.hold M) (fun j => if j = i then p else α j) (S.set i (.ow ds)) H) := by
  have oo : ∀ a, (F.hold (upd M p o)).O a ↔ ((F.hold M).with p).O a := fun a => by
    show (F.O a ∨ upd M p o a ≠ none) ↔ ((F.O a ∨ M a ≠ none) ∨ a = p)
    by_cases c : a = p
    · subst c
      simp [upd_same]
    · rw [upd_ne c]
      simp [c]
  have r1 : Rl X.K G ((F.hold M).with p) α S σ H := r.congr oo rfl (fun a u z => by
    have na : a ≠ p := fun e => by
      have z : (match M a with
        | some o => some o
        | none => F.Hb a) = some u := z
      rw [e, hM] at z
      have z : F.Hb p = some u := z
      rw [hb] at z
      cases z
    show (match upd M p o a with
        | some o => some o
        | none => F.Hb a) = some u
    rw [upd_ne na]
    exact z)
  have q : Ext (PH (F.hold (upd M p o)) α S H) (PH ((F.hold M).with p) α S H) := hide_iff fun a => msk_iff oo
  have hv : H p = some (.lst vs) := by
    have := r.held (p := p) (o := o) upd_same
    rw [this, ho]
  obtain ⟨r2, x2⟩ := Rl.putOw (F := F.hold M) hI r1 (fun z => by
    rcases z with z | z
    · exact hO z
    · exact z hM) ((hold_Hb_none hM).trans hb) hv (dv.mono q) hl hi
  exact ⟨r2, q.trans x2⟩
end
end Fy
end
section
set_option Elab.async false
set_option linter.all false
set_option maxRecDepth 100000
set_option maxHeartbeats 2000000
namespace Fy
open PySem PySem.Spec PyProof.Rows L2
/-! ### rows.within: a dict whose values are lists that grow -/
def lookL (k : NestedKey) : List (NestedKey × List D) → Option (List D)
  | [] => none
  | e :: r => if e.1 = k then some e.2 else lookL k r
def putL (k : NestedKey) (v : List D) : List (NestedKey × List D) → List (NestedKey × List D)
  | [] => []
  | e :: r => if e.1 = k then (k, v) :: r else e :: putL k v r
/-- one row of the line: what is found, the line, what is seen behind it -/
def wStep (fp fq : SS → Fo) (row : D) (found line : List D) (seen : List (NestedKey × List D)) : Option (List D × List D × List (NestedKey × List D)) := match fp [.va row] with
  | .va (.tup pl) _ => match (toPy (.tup pl)).bind keyOf with
    | some k => if decide (k.depth ≤ 8) && okLen (seen.length + 1) then
        match dNotIn row (.lst ((lookL k seen).getD [])) with
        | some (.bl false) => some (found, line, if (lookL k seen).isSome then seen else seen ++ [(k, [])])
        | some (.bl true) => match fq [.va row] with
          | .li ps _ => if okLen (((lookL k seen).getD []).length + 1) && okLen (found.length + 1) && okLen (line.length + ps.length) then some (found ++ [row], line ++ ps.reverse, if (lookL k seen).isSome then putL k ((lookL k seen).getD [] ++ [row]) seen else seen ++ [(k, [row])]) else none
          | _ => none
        | _ => none
      else none
    | none => none
  | _ => none
def wLoop (fp fq : SS → Fo) : Nat → List D → List D → List (NestedKey × List D) → Option (List D)
  | 0, _, _, _ => none
  | m + 1, found, line, seen => match dNe (.lst line) (.lst []) with
    | some (.bl true) => match line[line.length - 1]? with
      | some row => (wStep fp fq row found line.dropLast seen).bind fun r => wLoop fp fq m r.1 r.2.1 r.2.2
      | none => none
    | some (.bl false) => some found
    | _ => none
inductive SeenR (K : PySem.W.Frag) (G : Kit) (Hv M : Hp) : List (NestedKey × Addr × Value) → List (NestedKey × List D) → List Addr → Prop
  | nil : SeenR K G Hv M [] [] []
  | cons {k : NestedKey} {b q : Addr} {vs : List V} {l : List D} {xs : List (NestedKey × Addr × Value)} {sn : List (NestedKey × List D)} {qs : List Addr} : NKey K Hv b k → M q = some (.lst vs) → DvA K G Hv vs l → q ∉ qs → SeenR K G Hv M xs sn qs → SeenR K G Hv M ((k, b, .ref q) :: xs) ((k, l) :: sn) (q :: qs)
section
variable {K : PySem.W.Frag} {G : Kit} {Hv Hv' M : Hp} {xs : List (NestedKey × Addr × Value)} {sn : List (NestedKey × List D)} {qs : List Addr}
theorem SeenR.mono (e : Ext Hv Hv') (h : SeenR K G Hv M xs sn qs) : SeenR K G Hv' M xs sn qs := by
  induction h with
  | nil => exact .nil
  | cons h1 h2 h3 h4 _ ih => exact .cons (h1.mono e) h2 (h3.mono e) h4 ih
theorem SeenR.updM {p : Addr} {o : HO} (h : SeenR K G Hv M xs sn qs) (hp : p ∉ qs) : SeenR K G Hv (upd M p o) xs sn qs := by
  induction h with
  | nil => exact .nil
  | cons h1 h2 h3 h4 _ ih =>
    rw [List.mem_cons, not_or] at hp
    exact .cons h1 ((upd_ne (Ne.symm hp.1)).trans h2) h3 h4 (ih hp.2)
theorem SeenR.len (h : SeenR K G Hv M xs sn qs) : xs.length = sn.length := by
  induction h with
  | nil => rfl
  | cons _ _ _ _ _ ih => rw [List.length_cons, List.length_cons, ih]
theorem SeenR.keys (h : SeenR K G Hv M xs sn qs) : (∀ x ∈ xs, NKey K Hv x.2.1 x.1) ∧ ∀ x ∈ xs, ∃ c, x.2.2 = Value.ref c := by
  induction h with
  | nil =>
    constructor
    · intro x h; cases h
    · intro x h; cases h
  | cons h1 h2 h3 h4 _ ih =>
    constructor
    · intro x hx
      rcases List.mem_cons.mp hx with rfl | hx
      · exact h1
      · exact ih.1 x hx
    · intro x hx
      rcases List.mem_cons.mp hx with rfl | hx
      · exact ⟨_, rfl⟩
      · exact ih.2 x hx
theorem SeenR.held (h : SeenR K G Hv M xs sn qs) : ∀ q ∈ qs, M q ≠ none := by
  induction h with
  | nil => intro q h; cases h
  | cons h1 h2 h3 h4 _ ih =>
    intro q hq
    rcases List.mem_cons.mp hq with rfl | hq
    · rw [h2]; intro z; cases z
    · exact ih q hq
theorem atKey_cons {e : NestedKey × Addr × Value} {xs : List (NestedKey × Addr × Value)} {k : NestedKey} : atKey (e :: xs) k = if e.1 = k then some e.2 else atKey xs k := by
  unfold atKey
  rw [List.find?_cons]
  by_cases c : e.1 = k
  · simp [c]
  · simp [c]
theorem SeenR.none (h : SeenR K G Hv M xs sn qs) {k : NestedKey} (e : atKey xs k = .none) : lookL k sn = .none := by
  induction h with
  | nil => rfl
  | cons h1 h2 h3 h4 _ ih =>
    rw [atKey_cons] at e
    unfold lookL
    split at e
    · cases e
    · rename_i c
      rw [if_neg c]
      exact ih e
theorem SeenR.find (h : SeenR K G Hv M xs sn qs) {k : NestedKey} {b q : Addr} (e : atKey xs k = some (b, .ref q)) : ∃ l vs, lookL k sn = some l ∧ M q = some (.lst vs) ∧ DvA K G Hv vs l ∧ q ∈ qs ∧ ∀ vs' l', DvA K G Hv vs' l' → SeenR K G Hv (upd M q (.lst vs')) xs (putL k l' sn) qs := by
  induction h with
  | nil => cases e
  | cons h1 h2 h3 h4 h5 ih =>
    rename_i k' b' q' vs l xs sn qs
    rw [atKey_cons] at e
    unfold lookL
    split at e
    · rename_i c
      have c : k' = k := c
      subst c
      cases e
      refine ⟨l, vs, if_pos rfl, h2, h3, List.mem_cons_self, fun vs' l' dv => ?_⟩
      unfold putL
      rw [if_pos rfl]
      exact .cons h1 upd_same dv h4 (h5.updM h4)
    · rename_i c
      obtain ⟨l2, vs2, g1, g2, g3, g4, g5⟩ := ih e
      refine ⟨l2, vs2, by rw [if_neg c]; exact g1, g2, g3, List.mem_cons_of_mem _ g4, fun vs' l' dv => ?_⟩
      unfold putL
      rw [if_neg c]
      have nq : q' ≠ q := fun z => h4 (by rw [z]; exact g4)
      exact .cons h1 ((upd_ne nq).trans h2) h3 h4 (g5 vs' l' dv)
theorem SeenR.append (h : SeenR K G Hv M xs sn qs) {k : NestedKey} {b q : Addr} {vs : List V} {l : List D} (h1 : NKey K Hv b k) (h2 : M q = some (.lst vs)) (h3 : DvA K G Hv vs l) (h4 : q ∉ qs) : SeenR K G Hv M (xs ++ [(k, b, .ref q)]) (sn ++ [(k, l)]) (qs ++ [q]) := by
  induction h with
  | nil => exact .cons h1 h2 h3 h4 .nil
  | cons g1 g2 g3 g4 _ ih =>
    rw [List.mem_cons, not_or] at h4
    refine .cons g1 g2 g3 (fun z => ?_) (ih h4.2)
    rcases List.mem_append.mp z with z | z
    · exact g4 z
    · exact h4.1 (List.mem_singleton.mp z).symm
end
theorem putL_append {k : NestedKey} {v w : List D} : ∀ {sn : List (NestedKey × List D)}, lookL k sn = none → putL k v (sn ++ [(k, w)]) = sn ++ [(k, v)]
  | [], _ => by simp [putL]
  | e :: r, h => by
    unfold lookL at h
    split at h
    · cases h
    · rename_i c
      rw [List.cons_append, putL, if_neg c, putL_append h, List.cons_append]
theorem lookL_append {k : NestedKey} {w : List D} : ∀ {sn : List (NestedKey × List D)}, lookL k sn = none → lookL k (sn ++ [(k, w)]) = some w
  | [], _ => by simp [lookL]
  | e :: r, h => by
    unfold lookL at h
    split at h
    · cases h
    · rename_i c
      rw [List.cons_append, lookL, if_neg c, lookL_append h]
end Fy
end
section
set_option Elab.async false
set_option linter.all false
set_option maxRecDepth 100000
set_option maxHeartbeats 2000000
namespace Fy
open PySem PySem.Spec PyProof.Rows L2
section
variable {X : Cx} {G : Kit} {W : WX} {F : Fm} {fp fq : SS → Fo}
theorem dNotIn_lst {row : D} {l : List D} {b : Bool} (h : dNotIn row (.lst l) = some (.bl b)) : ∃ dd ds, dPy row = some dd ∧ dPy (.lst l) = some (.list ds) ∧ b = !(ds.any fun z => z.eqv dd) := by
  have e : dNotIn row (.lst l) = (match dPy row, dPy (.lst l) with
    | some d, some (.list ds) => some (.bl (!(ds.any fun z => z.eqv d)))
    | _, _ => none) := by cases row <;> rfl
  rw [e] at h
  split at h
  · rename_i dd ds f1 f2
    cases h
    exact ⟨dd, ds, f1, f2, rfl⟩
  · cases h
/-- the slots in the loop: rows, found, seen, line, row, others -/
abbrev wS (d : D) (found line : List D) (sv : SV) : SS := [.va d, .ow found, .un, .ow line, sv, .un]
/-- what holds at each turn -/
structure WInv (X : Cx) (G : Kit) (F : Fm) (Hv0 H0 : Hp) (d : D) (found line : List D) (seen : List (NestedKey × List D)) (sv : SV) (α : Nat → Addr) (M : Hp) (p2 : Addr) (xs : List (NestedKey × Addr × Value)) (qs : List Addr) (σ : L2.St) (H : Hp) : Prop where
  rl : Rl X.K G (F.hold M) α (wS d found line sv) σ H
  vis : Ext Hv0 (PH (F.hold M) α (wS d found line sv) H)
  dom : ∀ a, H a = none → H0 a = none
  hm : ∀ a, M a ≠ none → F.Hb a = none
  s2 : σ[2]? = some (some (.ref p2))
  at2 : M p2 = some (.ext (rawN X.prog X.w p2 xs))
  seen : SeenR X.K G (PH (F.hold M) α (wS d found line sv) H) M xs seen qs
  p2n : p2 ∉ qs
theorem WInv.aft {Hv0 H0 : Hp} {d : D} {found line found' line' : List D} {seen : List (NestedKey × List D)} {sv sv' : SV} {α α' : Nat → Addr} {M : Hp} {p2 : Addr} {xs : List (NestedKey × Addr × Value)} {qs : List Addr} {σ σ' : L2.St} {H H' : Hp} (w : WInv X G F Hv0 H0 d found line seen sv α M p2 xs qs σ H) (a : AftS X G (F.hold M) α (wS d found line sv) H α' (wS d found' line' sv') σ' H') (h2 : σ'[2]? = σ[2]?) : WInv X G F Hv0 H0 d found' line' seen sv' α' M p2 xs qs σ' H' :=
  ⟨a.rl, w.vis.trans a.ext, fun x z => w.dom x (a.dom x z), w.hm, h2.trans w.s2, w.at2, w.seen.mono a.ext, w.p2n⟩

theorem d3 {α : Nat → Addr} {S : SS} {σ : L2.St} {H : Hp} (r : Rl X.K G F α S σ H) {i : Nat} {d : D} (h : S[i]? = some (.va d)) : ∃ v, σ[i]? = some (some v) ∧ Dv X.K G (PH F α S H) v d := r.va i d h
/-- a turn where the row is seen for the first time at its place, or not at all -/
theorem w_body {Hv0 H0 : Hp} {d row : D} {found line : List D} {seen : List (NestedKey × List D)} {res : List D × List D × List (NestedKey × List D)} {sv : SV} {α : Nat → Addr} {M : Hp} {p2 : Addr} {xs : List (NestedKey × Addr × Value)} {qs : List Addr} {σ : L2.St} {H : Hp}
    {tpop tp tap tex : TE} (hu : X.A.units + 65 < cLine) (hI : F.I.map (·.1) = []) (hext : Ext F.Hb H0)
    (qpop : ∀ F α S σ H, F.I.map (·.1) = [] → Rl X.K G F α S σ H → ∀ Q : VK, (ePop 3 S).post (fun d S' => ∀ v H', Aft X G F α S σ H S' H' → Dv X.K G (PH F α S' H') v d → Q v H') (Er X G W F α S σ H) → tpop σ H Q)
    (qp : ∀ F α S σ H, F.I.map (·.1) = [] → Rl X.K G F α S σ H → ∀ Q : VK, (eCall fp (aCons (eVar [] 4) aNil) S).post (fun d S' => ∀ v H', Aft X G F α S σ H S' H' → Dv X.K G (PH F α S' H') v d → Q v H') (Er X G W F α S σ H) → tp σ H Q)
    (qap : ∀ F α S σ H, F.I.map (·.1) = [] → Rl X.K G F α S σ H → ∀ Q : VK, (eAppend 1 (eVar [] 4) S).post (fun d S' => ∀ v H', Aft X G F α S σ H S' H' → Dv X.K G (PH F α S' H') v d → Q v H') (Er X G W F α S σ H) → tap σ H Q)
    (qex : ∀ F α S σ H, F.I.map (·.1) = [] → Rl X.K G F α S σ H → ∀ Q : VK, (eExtend 3 (pV (eLst (aRev (pV (eCall fq (aCons (eVar [] 4) aNil)))))) S).post (fun d S' => ∀ v H', Aft X G F α S σ H S' H' → Dv X.K G (PH F α S' H') v d → Q v H') (Er X G W F α S σ H) → tex σ H Q)
    (w : WInv X G F Hv0 H0 d found line seen sv α M p2 xs qs σ H) (hrow : line[line.length - 1]? = some row) (hs : wStep fp fq row found line.dropLast seen = some res) {E : Ends}
    (hE : ∀ sv' α' M' xs' qs' σ' H', WInv X G F Hv0 H0 d res.1 res.2.1 res.2.2 sv' α' M' p2 xs' qs' σ' H' → E.nx σ' H') :
    tSeq (tAsg tpop (gName 4)) (tSeq (tAsg (tSetdN X (tVar 2) tp (tLst tNil)) (gName 5)) (tIfS (tTest (tOp (rNotInD X.K) (tVar 4) (tVar 5))) (tSeq (tDrop (tBM X.K "list" rAppend (tVar 5) (tCons (tVar 4) tNil))) (tSeq (tDrop tap) (tDrop tex))) tNext)) E σ H := by
  have hIh : ∀ M, (F.hold M).I.map (·.1) = [] := fun M => hI
  -- row = line.pop()
  refine qpop (F.hold M) α _ σ H (hIh M) w.rl _ ?_
  have e1 : ePop 3 (wS d found line sv) = .ok row (wS d found line.dropLast sv) := by
    simp only [ePop, owAt, wS, List.getElem?_cons_succ, List.getElem?_cons_zero, hrow, List.set]
  rw [e1]
  intro v H1 a1 dv1
  have a1s : AftS X G (F.hold M) α (wS d found line sv) H α (wS d found line.dropLast sv) σ H1 := a1.s
  have w1 := w.aft a1s rfl
  have a2 := w1.rl.setVa (hIh M) (i := 4) dv1 (by show 4 < 6; decide) rfl
  have w2 : WInv X G F Hv0 H0 d found line.dropLast seen (.va row) α M p2 xs qs (σ.set 4 (some v)) H1 := w1.aft a2 (List.getElem?_set_ne (by decide))
  -- others = seen.setdefault(place_of(row), [])
  refine ⟨_, w2.s2, p2, xs, rfl, w2.rl.held w2.at2, ?_⟩
  unfold wStep at hs
  split at hs
  · rename_i pl ls epl
    cases ek : (toPy (.tup pl)).bind keyOf with
    | none => simp only [ek] at hs; cases hs
    | some k =>
      simp only [ek] at hs
      split at hs
      · rename_i cg
        obtain ⟨cg1, cg2⟩ := (Bool.and_eq_true _ _).mp cg
        have cg1 := of_decide_eq_true cg1
        obtain ⟨py, e2, e3⟩ := bind_some ek
        refine qp (F.hold M) α _ _ H1 (hIh M) w2.rl _ ?_
        have e4 : eCall fp (aCons (eVar [] 4) aNil) (wS d found line.dropLast (.va row)) = .ok (.tup pl) (wS d found line.dropLast (.va row)) := by
          simp only [eCall, aCons, aNil, eVar, wS, R.bind, List.getElem?_cons_succ, List.getElem?_cons_zero, List.map_cons, List.map_nil, epl, Fo.r]
        rw [e4]
        intro y H2 b2 dvy
        have w3 := w2.aft b2.s rfl
        obtain ⟨b, ys, rfl, _, _, _⟩ := Dv.tupE (B := Msk (F.hold M) α (wS d found line.dropLast (.va row))) dvy
        refine ⟨by show 0 ≤ sizeLine; exact Nat.zero_le _, fun q hq => ?_⟩
        -- the new empty list at q
        obtain ⟨r4, x4⟩ := w3.rl.holdNew (o := .lst []) hq
        have hqM : M q = none := by
          cases c : M q with
          | none => rfl
          | some o => have := w3.rl.held c; rw [hq] at this; cases this
        have p2q : p2 ≠ q := fun e => by have := w3.at2; rw [e, hqM] at this; cases this
        have qn : q ∉ qs := fun z => w3.seen.held q z hqM
        have bq : F.Hb q = none := by
          have := w3.rl.freshB hq
          rw [hold_Hb_none hqM] at this
          exact this
        have dvk : NKey X.K (PH (F.hold (upd M q (.lst []))) α (wS d found line.dropLast (.va row)) (upd H2 q (.lst []))) b k := ⟨⟨py, (dvy.mono x4).dp e2, e3⟩, cg1⟩
        have seen4 := (w3.seen.mono x4).updM (o := .lst []) qn
        have hlift : ∀ {c : Addr} {kk : NestedKey}, NKey X.K (PH (F.hold (upd M q (.lst []))) α (wS d found line.dropLast (.va row)) (upd H2 q (.lst []))) c kk → NKey X.K (upd H2 q (.lst [])) c kk := fun h => h.mono hide_ext
        have at4 : upd M q (.lst []) p2 = some (.ext (rawN X.prog X.w p2 xs)) := (upd_ne p2q).trans w3.at2
        -- what follows once others stands at slot 5, a list at q' that holds os
        have key : ∀ (xs' : List (NestedKey × Addr × Value)) (seen' : List (NestedKey × List D)) (qs' : List Addr) (q' : Addr) (os : List D) (vs : List V) (M' : Hp) (H3 : Hp),
            WInv X G F Hv0 H0 d found line.dropLast seen' (.va row) α M' p2 xs' qs' (((σ.set 4 (some v))).set 5 (some (.ref q'))) H3 → M' q' = some (.lst vs) → DvA X.K G (PH (F.hold M') α (wS d found line.dropLast (.va row)) H3) vs os → q' ≠ p2 →
            (∀ vs' l', DvA X.K G (PH (F.hold M') α (wS d found line.dropLast (.va row)) H3) vs' l' → SeenR X.K G (PH (F.hold M') α (wS d found line.dropLast (.va row)) H3) (upd M' q' (.lst vs')) xs' (putL k l' seen') qs') →
            os = (lookL k seen).getD [] → res.2.2 = (match dNotIn row (.lst os) with
              | some (.bl true) => putL k (os ++ [row]) seen'
              | _ => seen') →
            tIfS (tTest (tOp (rNotInD X.K) (tVar 4) (tVar 5))) (tSeq (tDrop (tBM X.K "list" rAppend (tVar 5) (tCons (tVar 4) tNil))) (tSeq (tDrop tap) (tDrop tex))) tNext E (((σ.set 4 (some v))).set 5 (some (.ref q'))) H3 := by
          intro xs' seen' qs' q' os vs M' H3 w5 hM' dvo nq hput hos hres
          subst hos
          have lσ : (((σ.set 4 (some v))).set 5 (some (V.ref q'))).length = 6 := w5.rl.len
          obtain ⟨vr, e5, dvr⟩ := w5.rl.va 4 row rfl
          have s5 : (((σ.set 4 (some v))).set 5 (some (V.ref q')))[5]? = some (some (V.ref q')) := by
            rw [List.length_set] at lσ
            exact List.getElem?_set_self (by omega)
          refine ⟨vr, e5, _, s5, ?_⟩
          have hq' : H3 q' = some (.lst vs) := w5.rl.held hM'
          have lw : Dw X.K G (Msk (F.hold M') α (wS d found line.dropLast (.va row))) H3 (.ref q') (.lst ((lookL k seen).getD [])) := .inr ⟨q', vs, _, rfl, rfl, hq', dvo⟩
          have rw' : Dw X.K G (Msk (F.hold M') α (wS d found line.dropLast (.va row))) H3 vr row := .inl dvr
          have fin : ∀ b, dNotIn row (.lst ((lookL k seen).getD [])) = some (.bl b) → ∃ dd ds, Dp X.K H3 vr dd ∧ Dp X.K H3 (.ref q') (.list ds) ∧ SeqAt.shaped dd = true ∧ SeqAt.shaped (.list ds) = true ∧ b = !(ds.any fun z => z.eqv dd) := by
            intro b hb
            obtain ⟨dd, ds, f1, f2, rfl⟩ := dNotIn_lst hb
            obtain ⟨x1, y1⟩ := rw'.dpy f1
            obtain ⟨x2, y2⟩ := lw.dpy f2
            exact ⟨dd, ds, x1, x2, y1, y2, rfl⟩
          split at hs
          · rename_i hb
            obtain ⟨dd, ds, x1, x2, y1, y2, z⟩ := fin false hb
            refine ⟨dd, ds, x1, x2, y1, y2, false, by rw [z], ?_⟩
            show if false = true then _ else _
            rw [if_neg Bool.false_ne_true]
            rw [hb] at hres
            cases hs
            refine hE _ _ _ _ _ _ _ (?_ : WInv X G F Hv0 H0 d found line.dropLast _ (.va row) α M' p2 xs' qs' _ H3)
            have hres : (if (lookL k seen).isSome = true then seen else seen ++ [(k, [])]) = seen' := hres
            rw [hres]
            exact w5
          · rename_i hb
            obtain ⟨dd, ds, x1, x2, y1, y2, z⟩ := fin true hb
            refine ⟨dd, ds, x1, x2, y1, y2, true, by rw [z], ?_⟩
            show if true = true then _ else _
            rw [if_pos rfl]
            rw [hb] at hres
            split at hs
            · rename_i ps ls2 eps
              split at hs
              · rename_i cz
                obtain ⟨cz12, cz3⟩ := (Bool.and_eq_true _ _).mp cz
                obtain ⟨cz1, cz2⟩ := (Bool.and_eq_true _ _).mp cz12
                cases hs
                -- others.append(row)
                refine ⟨_, s5, .inl ⟨rfl, vs, SqL.of hq'⟩, vr, e5, q', vs, vr, rfl, rfl, hq', ?_, ?_⟩
                · have := okLen_ok cz1
                  rw [dvo.length]
                  omega
                obtain ⟨r6, x6⟩ := w5.rl.holdUpd (o' := .lst (vs ++ [vr])) hM'
                have w6 : WInv X G F Hv0 H0 d found line.dropLast (putL k ((lookL k seen).getD [] ++ [row]) seen') (.va row) α (upd M' q' (.lst (vs ++ [vr]))) p2 xs' qs' (((σ.set 4 (some v))).set 5 (some (.ref q'))) (upd H3 q' (.lst (vs ++ [vr]))) := by
                  refine ⟨r6, by rw [x6]; exact w5.vis, fun a z => ?_, fun a z => ?_, w5.s2, (upd_ne (Ne.symm nq)).trans w5.at2, by rw [x6]; exact hput _ _ (dvo.append (.cons dvr .nil)), w5.p2n⟩
                  · by_cases c : a = q'
                    · rw [c, upd_same] at z; cases z
                    · rw [upd_ne c] at z; exact w5.dom a z
                  · by_cases c : a = q'
                    · rw [c]; exact w5.hm q' (by rw [hM']; intro z; cases z)
                    · rw [upd_ne c] at z; exact w5.hm a z
                -- found.append(row)
                refine qap (F.hold _) α _ _ _ (hIh _) w6.rl _ ?_
                have e7 : eAppend 1 (eVar [] 4) (wS d found line.dropLast (.va row)) = .ok .non (wS d (found ++ [row]) line.dropLast (.va row)) := by
                  simp only [eAppend, eVar, owAt, wS, R.bind, List.getElem?_cons_succ, List.getElem?_cons_zero, cz2, if_true, List.set]
                rw [e7]
                intro _ H7 a7 _
                have w7 := w6.aft a7.s rfl
                -- line.extend(parts_of(row)[::-1])
                refine qex (F.hold _) α _ _ _ (hIh _) w7.rl _ ?_
                have e8 : eExtend 3 (pV (eLst (aRev (pV (eCall fq (aCons (eVar [] 4) aNil)))))) (wS d (found ++ [row]) line.dropLast (.va row)) = .ok .non (wS d (found ++ [row]) (line.dropLast ++ ps.reverse) (.va row)) := by
                  have cz3' : okLen (line.dropLast.length + ps.reverse.length) = true := by rw [List.length_reverse]; exact cz3
                  simp only [eExtend, eVar, owAt, wS, R.bind, pV, eLst, aRev, eCall, aCons, aNil, P.get, List.map_cons, List.map_nil, eps, Fo.r, List.getElem?_cons_succ, List.getElem?_cons_zero, cz3', if_true, List.set]
                rw [e8]
                intro _ H8 a8 _
                have w8 := w7.aft a8.s rfl
                have hres : (if (lookL k seen).isSome = true then putL k ((lookL k seen).getD [] ++ [row]) seen else seen ++ [(k, [row])]) = putL k ((lookL k seen).getD [] ++ [row]) seen' := hres
                refine hE (.va row) α (upd M' q' (.lst (vs ++ [vr]))) xs' qs' _ H8 ?_
                show WInv X G F Hv0 H0 d (found ++ [row]) (line.dropLast ++ ps.reverse) (if (lookL k seen).isSome = true then putL k ((lookL k seen).getD [] ++ [row]) seen else seen ++ [(k, [row])]) _ _ _ _ _ _ _ _
                rw [hres]
                exact w8
              · cases hs
            · cases hs
          · cases hs
        have w4 : WInv X G F Hv0 H0 d found line.dropLast seen (.va row) α (upd M q (.lst [])) p2 xs qs (σ.set 4 (some v)) (upd H2 q (.lst [])) := by
          refine ⟨r4, w3.vis.trans x4, fun a z => ?_, fun a z => ?_, w3.s2, at4, seen4, w3.p2n⟩
          · by_cases c : a = q
            · rw [c, upd_same] at z; cases z
            · rw [upd_ne c] at z; exact w3.dom a z
          · by_cases c : a = q
            · rw [c]; exact bq
            · rw [upd_ne c] at z; exact w3.hm a z
        refine ⟨b, q, k, xs, rfl, rfl, r4.held at4, fun x hx => hlift (seen4.keys.1 x hx), hlift dvk, ?_, seen4.keys.2, fun p hp => ?_, fun hn => ?_⟩
        · have := okLen_ok cg2
          rw [seen4.len]
          omega
        · obtain ⟨l, vs, g1, g2, g3, g4, g5⟩ := seen4.find hp
          have np : p.2 ≠ p2 := fun e => w3.p2n (by rw [← e]; exact g4)
          have w5 : WInv X G F Hv0 H0 d found line.dropLast seen (.va row) α (upd M q (.lst [])) p2 xs qs ((σ.set 4 (some v)).set 5 (some (.ref p.2))) (upd H2 q (.lst [])) :=
            ⟨w4.rl.setUn (by rfl), w4.vis, w4.dom, w4.hm, (List.getElem?_set_ne (by decide)).trans w4.s2, w4.at2, w4.seen, w4.p2n⟩
          refine key xs seen qs p.2 l vs _ _ w5 g2 g3 np g5 (by rw [g1]; rfl) ?_
          split at hs
          · rename_i hb
            rw [g1] at hb hs
            have hb : dNotIn row (.lst l) = some (.bl false) := hb
            rw [hb]
            cases hs
            rfl
          · rename_i hb
            rw [g1] at hb hs
            have hb : dNotIn row (.lst l) = some (.bl true) := hb
            rw [hb]
            split at hs
            · split at hs
              · cases hs; rfl
              · cases hs
            · cases hs
          · cases hs
        · have hnone := seen4.none hn
          obtain ⟨r5, x5⟩ := w4.rl.holdUpd (o' := .ext (rawN X.prog X.w p2 (xs ++ [(k, b, .ref q)]))) at4
          have at5 : upd (upd M q (.lst [])) p2 (.ext (rawN X.prog X.w p2 (xs ++ [(k, b, .ref q)]))) q = some (.lst []) := (upd_ne (Ne.symm p2q)).trans upd_same
          have seen5 : SeenR X.K G (PH (F.hold (upd (upd M q (.lst [])) p2 (.ext (rawN X.prog X.w p2 (xs ++ [(k, b, .ref q)]))))) α (wS d found line.dropLast (.va row)) (upd (upd H2 q (.lst [])) p2 (.ext (rawN X.prog X.w p2 (xs ++ [(k, b, .ref q)]))))) (upd (upd M q (.lst [])) p2 (.ext (rawN X.prog X.w p2 (xs ++ [(k, b, .ref q)])))) (xs ++ [(k, b, .ref q)]) (seen ++ [(k, [])]) (qs ++ [q]) := by
            rw [x5]
            exact (seen4.updM w3.p2n).append dvk at5 .nil qn
          have hat : atKey (xs ++ [(k, b, Value.ref q)]) k = some (b, .ref q) := by
            have : ∀ ys : List (NestedKey × Addr × Value), atKey ys k = none → atKey (ys ++ [(k, b, Value.ref q)]) k = some (b, .ref q) := by
              intro ys
              induction ys with
              | nil => intro _; simp [atKey_cons]
              | cons e r ih =>
                intro h
                rw [atKey_cons] at h
                rw [List.cons_append, atKey_cons]
                split at h
                · cases h
                · rename_i c
                  rw [if_neg c]
                  exact ih h
            exact this xs hn
          obtain ⟨l, vs, g1, g2, g3, g4, g5⟩ := seen5.find hat
          rw [lookL_append hnone] at g1
          cases g1
          have w5 : WInv X G F Hv0 H0 d found line.dropLast (seen ++ [(k, [])]) (.va row) α (upd (upd M q (.lst [])) p2 (.ext (rawN X.prog X.w p2 (xs ++ [(k, b, .ref q)])))) p2 (xs ++ [(k, b, .ref q)]) (qs ++ [q]) ((σ.set 4 (some v)).set 5 (some (.ref q))) (upd (upd H2 q (.lst [])) p2 (.ext (rawN X.prog X.w p2 (xs ++ [(k, b, .ref q)])))) := by
            refine ⟨r5.setUn (by rfl), by rw [x5]; exact w4.vis, fun a z => ?_, fun a z => ?_, (List.getElem?_set_ne (by decide)).trans w4.s2, upd_same, seen5, fun z => ?_⟩
            · by_cases c : a = p2
              · rw [c, upd_same] at z; cases z
              · rw [upd_ne c] at z; exact w4.dom a z
            · by_cases c : a = p2
              · rw [c]; exact w3.hm p2 (by rw [w3.at2]; intro z; cases z)
              · rw [upd_ne c] at z; exact w4.hm a z
            · rcases List.mem_append.mp z with z | z
              · exact w3.p2n z
              · exact p2q (List.mem_singleton.mp z)
          refine key _ _ _ q [] vs _ _ w5 g2 g3 (Ne.symm p2q) g5 (by rw [hnone]; rfl) ?_
          split at hs
          · rename_i hb
            rw [hnone] at hb hs
            have hb : dNotIn row (.lst []) = some (.bl false) := hb
            rw [hb]
            cases hs
            rfl
          · rename_i hb
            rw [hnone] at hb hs
            have hb : dNotIn row (.lst []) = some (.bl true) := hb
            rw [hb]
            split at hs
            · split at hs
              · cases hs
                show seen ++ [(k, [row])] = putL k ([] ++ [row]) (seen ++ [(k, [])])
                rw [putL_append hnone]
                rfl
              · cases hs
            · cases hs
          · cases hs
      · cases hs
  · cases hs
end
end Fy
end
section
set_option Elab.async false
set_option linter.all false
set_option maxRecDepth 100000
set_option maxHeartbeats 2000000
namespace Fy
open PySem PySem.Spec PyProof.Rows L2
section
variable {X : Cx} {G : Kit} {W : WX} {F : Fm} {fp fq : SS → Fo} {α : Nat → Addr} {S S' : SS} {σ : L2.St} {H : Hp}
theorem Rl.forget (r : Rl X.K G F α S σ H) (hl : S'.length = S.length) (hs : ∀ (j : Nat) (sv : SV), S'[j]? = some sv → sv = .un ∨ S[j]? = some sv) (hI : F.I = []) : Rl X.K G F α S' σ H ∧ Ext (PH F α S H) (PH F α S' H) := by
  have ow : ∀ j, isOw S' j → isOw S j := fun j ⟨l, e⟩ => by
    rcases hs j _ e with h | h
    · cases h
    · exact ⟨l, h⟩
  have q : Ext (PH F α S H) (PH F α S' H) := fun a o z => by
    obtain ⟨n, z⟩ := hide_some z
    refine (hide_at fun m => n ?_).trans z
    rcases m with m | ⟨j, m, e⟩
    · exact .inl m
    · exact .inr ⟨j, ow j m, e⟩
  refine ⟨⟨r.len.trans hl.symm, fun j d e => ?_, fun j l e => ?_, fun j k hj hk => r.inj j k (ow j hj) (ow k hk), r.ext, r.ob, fun p hp => by rw [hI] at hp; cases hp⟩, q⟩
  · rcases hs j _ e with h | h
    · cases h
    · obtain ⟨v, e1, e2⟩ := r.va j d h
      exact ⟨v, e1, e2.mono q⟩
  · rcases hs j _ e with h | h
    · cases h
    · obtain ⟨e1, e2, e3, vs, e4, e5⟩ := r.ow j l h
      exact ⟨e1, e2, e3, vs, e4, e5.mono q⟩
abbrev w0 (d : D) : SS := [.va d, .un, .un, .un, .un, .un]
def bWithin (fp fq : SS → Fo) (n : Nat) : SF := fun S => match S with
  | [.va d, .un, .un, .un, .un, .un] => match dItems d with
    | some l => match wLoop fp fq n [] l.reverse [] with
      | some found => .rt (.tup found) (w0 d)
      | none => .bad
    | none => .bad
  | _ => .bad
abbrev tDN (X : Cx) : TE := fun _ H Q => ∀ p, H p = none → Q (.ref p) (upd H p (.ext (rawN X.prog X.w p [])))
abbrev tWBody (X : Cx) (tpop tp tap tex : TE) : TS := tSeq (tAsg tpop (gName 4)) (tSeq (tAsg (tSetdN X (tVar 2) tp (tLst tNil)) (gName 5)) (tIfS (tTest (tOp (rNotInD X.K) (tVar 4) (tVar 5))) (tSeq (tDrop (tBM X.K "list" rAppend (tVar 5) (tCons (tVar 4) tNil))) (tSeq (tDrop tap) (tDrop tex))) tNext))
theorem w_run {n : Nat} {t1 t3 tpop tp tap tex tr : TE} {tc : TT} (hu : X.A.units + 65 < cLine)
    (q1 : ∀ F α S σ H, F.I.map (·.1) = [] → Rl X.K G F α S σ H → ∀ Q : VK, (aFit aNil S).post (fun ds S' => ∀ p vs H', H p = none → (∀ i : Nat, isOw S' i → α i ≠ p) → Aft X G (F.with p) α S σ H S' H' → H' p = some (.lst vs) → DvA X.K G (PH (F.with p) α S' H') vs ds → Q (.ref p) H') (Er X G W F α S σ H) → t1 σ H Q)
    (q3 : ∀ F α S σ H, F.I.map (·.1) = [] → Rl X.K G F α S σ H → ∀ Q : VK, (aRev (pV (eLst (aCB (g1 dItems) (lCons (pVar 0) lNil)))) S).post (fun ds S' => ∀ p vs H', H p = none → (∀ i : Nat, isOw S' i → α i ≠ p) → Aft X G (F.with p) α S σ H S' H' → H' p = some (.lst vs) → DvA X.K G (PH (F.with p) α S' H') vs ds → Q (.ref p) H') (Er X G W F α S σ H) → t3 σ H Q)
    (qc : ∀ F α S σ H, F.I.map (·.1) = [] → Rl X.K G F α S σ H → ∀ Q : Bool → Hp → Prop, (tBl (eBin dNe (pVar 3) (pV (eLst (aFit aNil)))) S).post (fun b S' => ∀ H', Aft X G F α S σ H S' H' → Q b H') (Er X G W F α S σ H) → tc σ H Q)
    (qpop : ∀ F α S σ H, F.I.map (·.1) = [] → Rl X.K G F α S σ H → ∀ Q : VK, (ePop 3 S).post (fun d S' => ∀ v H', Aft X G F α S σ H S' H' → Dv X.K G (PH F α S' H') v d → Q v H') (Er X G W F α S σ H) → tpop σ H Q)
    (qp : ∀ F α S σ H, F.I.map (·.1) = [] → Rl X.K G F α S σ H → ∀ Q : VK, (eCall fp (aCons (eVar [] 4) aNil) S).post (fun d S' => ∀ v H', Aft X G F α S σ H S' H' → Dv X.K G (PH F α S' H') v d → Q v H') (Er X G W F α S σ H) → tp σ H Q)
    (qap : ∀ F α S σ H, F.I.map (·.1) = [] → Rl X.K G F α S σ H → ∀ Q : VK, (eAppend 1 (eVar [] 4) S).post (fun d S' => ∀ v H', Aft X G F α S σ H S' H' → Dv X.K G (PH F α S' H') v d → Q v H') (Er X G W F α S σ H) → tap σ H Q)
    (qex : ∀ F α S σ H, F.I.map (·.1) = [] → Rl X.K G F α S σ H → ∀ Q : VK, (eExtend 3 (pV (eLst (aRev (pV (eCall fq (aCons (eVar [] 4) aNil)))))) S).post (fun d S' => ∀ v H', Aft X G F α S σ H S' H' → Dv X.K G (PH F α S' H') v d → Q v H') (Er X G W F α S σ H) → tex σ H Q)
    (qr : ∀ F α S σ H, F.I.map (·.1) = [] → Rl X.K G F α S σ H → ∀ Q : VK, (eCB (g1 dTuple) (lCons (pVar 1) lNil) S).post (fun d S' => ∀ v H', Aft X G F α S σ H S' H' → Dv X.K G (PH F α S' H') v d → Q v H') (Er X G W F α S σ H) → tr σ H Q)
    (hI : F.I.map (·.1) = []) (r : Rl X.K G F α S σ H) {E : Ends} (h : (bWithin fp fq n S).post (Po.of X G W E F α S H)) :
    tSeq (tPar3 1 2 3 (tCons t1 (tCons (tDN X) (tCons t3 tNil)))) (tSeq (tWhile tc (tWBody X tpop tp tap tex)) (tRet tr)) E σ H := by
  unfold bWithin at h
  split at h
  case h_2 => exact h.elim
  rename_i d
  cases hd : dItems d with
  | none => simp only [hd] at h; exact h.elim
  | some l =>
    simp only [hd] at h
    cases hw : wLoop fp fq n [] l.reverse [] with
    | none => simp only [hw] at h; exact h.elim
    | some res =>
      simp only [hw] at h
      have hIh : ∀ M, (F.hold M).I.map (·.1) = [] := fun M => hI
      have hI0 : F.I = [] := List.map_eq_nil_iff.mp hI
      have r0 := hold_none r
      -- []
      refine q1 (F.hold fun _ => none) α _ σ H (hIh _) r0 _ ?_
      have e1 : aFit aNil (w0 d) = .ok [] (w0 d) := rfl
      rw [e1]
      intro p1 vs1 H1 hp1 hn1 a1 hat1 dv1
      cases dv1
      have b1 : F.Hb p1 = none := r.freshB hp1
      have o1 : ¬ F.O p1 := fun z => r.ob p1 z hp1
      obtain ⟨r1, x1⟩ := a1.rl.holdWith hat1 rfl b1
      -- {}
      intro p2 hp2
      have np12 : p1 ≠ p2 := fun e => by rw [e, hp2] at hat1; cases hat1
      have hp20 : H p2 = none := a1.dom p2 hp2
      have b2 : F.Hb p2 = none := r.freshB hp20
      obtain ⟨r2, x2⟩ := r1.holdNew (o := .ext (rawN X.prog X.w p2 [])) hp2
      -- list(rows)[::-1]
      refine q3 (F.hold _) α _ σ _ (hIh _) r2 _ ?_
      have e3 : aRev (pV (eLst (aCB (g1 dItems) (lCons (pVar 0) lNil)))) (w0 d) = .ok l.reverse (w0 d) := by
        simp only [aRev, pV, eLst, aCB, lCons, lNil, pVar, w0, R.bind, R.of, getA, P.get, g1, List.getElem?_cons_zero, Option.bind_some, hd]
      rw [e3]
      intro p3 vs3 H3 hp3 hn3 a3 hat3 dv3
      have hp31 : H1 p3 = none := by
        have z : p3 ≠ p2 := fun e => by rw [e, upd_same] at hp3; cases hp3
        rw [upd_ne z] at hp3
        exact hp3
      have hp30 : H p3 = none := a1.dom p3 hp31
      have b3 : F.Hb p3 = none := r.freshB hp30
      have o3 : ¬ F.O p3 := fun z => r.ob p3 z hp30
      have np13 : p1 ≠ p3 := fun e => by rw [e, hp31] at hat1; cases hat1
      have np23 : p2 ≠ p3 := fun e => by rw [← e, upd_same] at hp3; cases hp3
      have m23 : upd (upd (fun _ => none) p1 (HO.lst [])) p2 (.ext (rawN X.prog X.w p2 [])) p3 = none := by
        rw [upd_ne (Ne.symm np23), upd_ne (Ne.symm np13)]
      obtain ⟨r3, x3⟩ := a3.rl.holdWith hat3 m23 b3
      refine ⟨_, _, _, rfl, ?_⟩
      -- the slots
      obtain ⟨r4, x4⟩ := r3.holdPut (i := 3) (io := []) hI rfl m23 o3 b3 (by rw [x3]; exact dv3) (by show 3 < 6; decide) rfl
      have r5 := r4.setUn (i := 2) (x := some (.ref p2)) rfl
      have mc : upd (upd (fun _ => none) p1 (HO.lst [])) p2 (.ext (rawN X.prog X.w p2 [])) = upd (upd (fun _ => none) p2 (.ext (rawN X.prog X.w p2 []))) p1 (HO.lst []) := by
        funext a
        by_cases c1 : a = p1
        · subst c1; rw [upd_ne np12, upd_same, upd_same]
        · by_cases c2 : a = p2
          · subst c2; rw [upd_same, upd_ne c1, upd_same]
          · rw [upd_ne c2, upd_ne c1, upd_ne c1, upd_ne c2]
      rw [mc] at r5 x4
      obtain ⟨r6, x6⟩ := r5.holdPut (i := 1) (io := []) (ds := []) hI rfl (by rw [upd_ne np12]) o1 b1 .nil (by show 1 < 6; decide) rfl
      have sc : ((σ.set 3 (some (V.ref p3))).set 2 (some (V.ref p2))).set 1 (some (V.ref p1)) = ((σ.set 1 (some (V.ref p1))).set 2 (some (V.ref p2))).set 3 (some (V.ref p3)) := by
        rw [List.set_comm _ _ (show 3 ≠ 2 by decide), List.set_comm _ _ (show 3 ≠ 1 by decide), List.set_comm _ _ (show 2 ≠ 1 by decide)]
      rw [sc] at r6
      have lσ : σ.length = 6 := r.len
      have vis : Ext (PH F α (w0 d) H) (PH (F.hold (upd (fun _ => none) p2 (.ext (rawN X.prog X.w p2 [])))) (fun j => if j = 1 then p1 else if j = 3 then p3 else α j) (wS d [] l.reverse .un) H3) := by
        have y0 : Ext (PH F α (w0 d) H) (PH (F.hold fun _ => none) α (w0 d) H) := hide_iff fun a => by rw [hold_msk]; simp
        have y1 : Ext (PH (F.hold fun _ => none) α (w0 d) H) (PH ((F.hold fun _ => none).with p1) α (w0 d) H1) := fun a o z => by
          obtain ⟨n, z⟩ := hide_some z
          refine a1.ext a o ((hide_at fun m => ?_).trans z)
          rcases msk_with.mp m with m | m
          · exact n m
          · rw [m, hp1] at z; cases z
        rw [← x1] at y1
        have y3 : Ext (PH (F.hold (upd (upd (fun _ => none) p1 (HO.lst [])) p2 (.ext (rawN X.prog X.w p2 [])))) α (w0 d) (upd H1 p2 (.ext (rawN X.prog X.w p2 [])))) (PH ((F.hold (upd (upd (fun _ => none) p1 (HO.lst [])) p2 (.ext (rawN X.prog X.w p2 [])))).with p3) α (w0 d) H3) := fun a o z => by
          obtain ⟨n, z⟩ := hide_some z
          refine a3.ext a o ((hide_at fun m => ?_).trans z)
          rcases msk_with.mp m with m | m
          · exact n m
          · rw [m, hp3] at z; cases z
        rw [← x3] at y3
        rw [mc] at y3 x2
        exact ((((y0.trans y1).trans x2).trans y3).trans x4).trans x6
      have dom0 : ∀ a, H3 a = none → H a = none := fun a z => by
        have := a3.dom a z
        by_cases c : a = p2
        · rw [c, upd_same] at this; cases this
        · rw [upd_ne c] at this; exact a1.dom a this
      have w : WInv X G F (PH F α (w0 d) H) H d [] l.reverse [] .un (fun j => if j = 1 then p1 else if j = 3 then p3 else α j) (upd (fun _ => none) p2 (.ext (rawN X.prog X.w p2 []))) p2 [] [] (((σ.set 1 (some (V.ref p1))).set 2 (some (V.ref p2))).set 3 (some (V.ref p3))) H3 := by
        refine ⟨r6, vis, dom0, fun a z => ?_, ?_, upd_same, .nil, fun z => by cases z⟩
        · by_cases c : a = p2
          · rw [c]; exact b2
          · rw [upd_ne c] at z; exact (z rfl).elim
        · rw [List.getElem?_set_ne (by decide)]
          exact List.getElem?_set_self (by rw [List.length_set]; omega)
      -- the loop
      refine ⟨fun m σ1 H1 => ∃ found line seen sv α1 M xs qs, WInv X G F (PH F α (w0 d) H) H d found line seen sv α1 M p2 xs qs σ1 H1 ∧ wLoop fp fq m found line seen = some res, ⟨n, [], l.reverse, [], .un, _, _, [], [], w, hw⟩, ?_⟩
      rintro m σ1 H1 ⟨found, line, seen, sv, α1, M, xs, qs, w1, hl1⟩
      cases m with
      | zero => cases hl1
      | succ m =>
        refine qc (F.hold M) α1 _ σ1 H1 (hIh M) w1.rl _ ?_
        have ec : tBl (eBin dNe (pVar 3) (pV (eLst (aFit aNil)))) (wS d found line sv) = match dNe (.lst line) (.lst []) with
            | some (.bl b) => .ok b (wS d found line sv)
            | _ => .bad := by
          have e0 : aFit aNil (wS d found line sv) = .ok [] (wS d found line sv) := rfl
          simp only [tBl, eBin, pVar, pV, eLst, e0, R.bind, R.of, get2, P.get, wS, List.getElem?_cons_succ, List.getElem?_cons_zero]
          cases dNe (.lst line) (.lst []) with
          | none => rfl
          | some x => cases x <;> rfl
        rw [ec]
        unfold wLoop at hl1
        split at hl1
        · rename_i hb
          rw [hb]
          intro H2 a2
          show if true = true then _ else _
          rw [if_pos rfl]
          split at hl1
          · rename_i row hrow
            obtain ⟨res1, hs, hl2⟩ := bind_some hl1
            have w2 := w1.aft a2.s rfl
            refine ⟨fun σ' H' => ∃ found line seen sv α1 M xs qs, WInv X G F (PH F α (w0 d) H) H d found line seen sv α1 M p2 xs qs σ' H' ∧ wLoop fp fq m found line seen = some res, fun σ' H' q => ⟨m, Nat.lt_succ_self m, q⟩, ?_⟩
            exact w_body (fp := fp) (fq := fq) hu hI (r.ext) qpop qp qap qex w2 hrow hs fun sv' α' M' xs' qs' σ' H' w3 => ⟨_, _, _, sv', α', M', xs', qs', w3, hl2⟩
          · cases hl1
        · rename_i hb
          rw [hb]
          cases hl1
          intro H2 a2
          show if false = true then _ else _
          rw [if_neg Bool.false_ne_true]
          have w2 := w1.aft a2.s rfl
          refine qr (F.hold M) α1 _ σ1 H2 (hIh M) w2.rl _ ?_
          have er : eCB (g1 dTuple) (lCons (pVar 1) lNil) (wS d res line sv) = .ok (.tup res) (wS d res line sv) := rfl
          rw [er]
          intro v H4 a4 dv4
          have w4 := w2.aft a4.s rfl
          have rd := w4.rl.drop w4.hm
          obtain ⟨rf, xf⟩ := rd.forget (S' := w0 d) rfl (fun j sv' e => by
            match j, e with
            | 0, e => exact .inr e
            | 1, e => cases e; exact .inl rfl
            | 2, e => cases e; exact .inl rfl
            | 3, e => cases e; exact .inl rfl
            | 4, e => cases e; exact .inl rfl
            | 5, e => cases e; exact .inl rfl
            | j + 6, e => cases e) hI0
          exact h v α1 σ1 H4 ⟨rf, (w4.vis.trans with_ext2).trans xf, w4.dom⟩ ((dv4.mono with_ext2).mono xf)
        · cases hl1
theorem jb_within {n : Nat} {e1 e3 ec epop ep eap eex er : Expr} {ss : List Stmt} (hu : X.A.units + 65 < cLine)
    (hb : ∀ {t1 t3 tpop tp tap tex tr : TE} {tc : TT}, PE X e1 t1 → PE X e3 t3 → PT X ec tc → PE X epop tpop → PE X ep tp → PE X eap tap → PE X eex tex → PE X er tr → PSs X ss (tSeq (tPar3 1 2 3 (tCons t1 (tCons (tDN X) (tCons t3 tNil)))) (tSeq (tWhile tc (tWBody X tpop tp tap tex)) (tRet tr))))
    (j1 : JL X G W [] e1 (aFit aNil)) (j3 : JL X G W [] e3 (aRev (pV (eLst (aCB (g1 dItems) (lCons (pVar 0) lNil)))))) (jc : JT X G W [] ec (tBl (eBin dNe (pVar 3) (pV (eLst (aFit aNil)))))) (jpop : JE X G W [] epop (ePop 3)) (jp : JE X G W [] ep (eCall fp (aCons (eVar [] 4) aNil))) (jap : JE X G W [] eap (eAppend 1 (eVar [] 4))) (jex : JE X G W [] eex (eExtend 3 (pV (eLst (aRev (pV (eCall fq (aCons (eVar [] 4) aNil)))))))) (jr : JE X G W [] er (eCB (g1 dTuple) (lCons (pVar 1) lNil))) :
    JB X G W [] ss (bWithin fp fq n) := by
  obtain ⟨t1, p1, q1⟩ := j1
  obtain ⟨t3, p3, q3⟩ := j3
  obtain ⟨tc, pc, qc⟩ := jc
  obtain ⟨tpop, ppop, qpop⟩ := jpop
  obtain ⟨tp, pp, qp⟩ := jp
  obtain ⟨tap, pap, qap⟩ := jap
  obtain ⟨tex, pex, qex⟩ := jex
  obtain ⟨tr, pr, qr⟩ := jr
  exact ⟨_, hb p1 p3 pc ppop pp pap pex pr, fun F α S σ H hI r E h => w_run hu q1 q3 qc qpop qp qap qex qr hI r h⟩
end
end Fy
end
section
set_option Elab.async false
set_option linter.all false
namespace Fy
open PySem PySem.Spec PyProof.Rows L2
/-! ### how the functions go, step by step -/
section
variable {S S1 S2 S3 : SS} {d e : D} {l m : List D} {io : List Nat} {i : Nat}
theorem z_seq {f g : SF} {o : Oc} (h : f S = .nx S1) (h2 : g S1 = o) : sSeq f g S = o := by unfold sSeq; rw [h]; exact h2
theorem z_seqR {f g : SF} {o : Oc} (h : f S = o) (hn : ∀ T, o ≠ .nx T) : sSeq f g S = o := by
  unfold sSeq
  rw [h]
  cases o with
  | nx T => exact (hn T rfl).elim
  | _ => rfl
theorem z_ifT {c : TF} {a b : SF} {o : Oc} (h : c S = .ok true S1) (h2 : a S1 = o) : sIf c a b S = o := by unfold sIf R.oc; rw [h]; exact h2
theorem z_ifF {c : TF} {a b : SF} {o : Oc} (h : c S = .ok false S1) (h2 : b S1 = o) : sIf c a b S = o := by unfold sIf R.oc; rw [h]; exact h2
theorem z_expr {f : EF} (h : f S = .ok d S1) : sExpr f S = .nx S1 := by unfold sExpr R.oc; rw [h]
theorem z_asg {f : EF} {g : GF} (h : f S = .ok d S1) (h2 : g d S1 = some S2) : sAsg f g S = .nx S2 := by simp only [sAsg, R.oc, h, h2]
theorem z_own {f : AF} (h : f S = .ok l S1) (h1 : i < S1.length) (h2 : io.contains i = false) : sOwn io i f S = .nx (S1.set i (.ow l)) := by unfold sOwn R.oc; rw [h]; exact if_pos ⟨h1, h2⟩
theorem z_ret {f : EF} (h : f S = .ok d S1) : sRet f S = .rt d S1 := by unfold sRet R.oc; rw [h]
theorem z_retL {f : AF} (h : f S = .ok l S1) : sRetL f S = .rl l S1 := by unfold sRetL R.oc; rw [h]
theorem z_par {f : MF} {is : List Nat} {svs : List SV} (h : f S = .ok svs S1) (h2 : putAll io is svs S1 = some S2) : sPar io is f S = .nx S2 := by
  unfold sPar R.oc
  rw [h]
  show (match putAll io is svs S1 with
    | some S2 => Oc.nx S2
    | none => .bad) = _
  rw [h2]
theorem z_setI {fe fk : EF} {k : Int} {j : Nat} {l0 : List D} (h : fe S = .ok d S1) (h1 : owAt S1 i = some l0) (h2 : fk S1 = .ok (.int k) S2) (h3 : owAt S2 i = some l) (h4 : ixN l.length k = some j) : sSetI i fe fk S = .nx (S2.set i (.ow (l.set j d))) := by
  simp only [sSetI, R.oc, h, h1, h2, h3, h4]
theorem z_whileT {c : TF} {b : SF} {n : Nat} {o : Oc} (h : c S = .ok true S1) (h2 : b S1 = .nx S2) (h3 : sWhile c b n S2 = o) : sWhile c b (n + 1) S = o := by
  unfold sWhile R.oc; rw [h]; show (b S1).loop (sWhile c b n) = o; rw [h2]; exact h3
theorem z_whileF {c : TF} {b : SF} {n : Nat} (h : c S = .ok false S1) : sWhile c b (n + 1) S = .nx S1 := by unfold sWhile R.oc; rw [h]
theorem z_forE {f : AF} {g : GF} {b : SF} {o : Oc} (h : f S = .ok l S1) (h2 : sFor g b l S1 = o) : sForE f g b S = o := by unfold sForE R.oc; rw [h]; exact h2
theorem z_for0 {g : GF} {b : SF} : sFor g b [] S = .nx S := rfl
theorem z_for1 {g : GF} {b : SF} {o : Oc} (h : g d S = some S1) (h2 : b S1 = .nx S2) (h3 : sFor g b l S2 = o) : sFor g b (d :: l) S = o := by
  unfold sFor
  rw [h]
  show (b S1).loop (sFor g b l) = o
  rw [h2]
  exact h3
-- values
theorem z_call {f : SS → Fo} {fa : AF} {ls : List SV} (h : fa S = .ok l S1) (h2 : f (l.map SV.va) = .va d ls) : eCall f fa S = .ok d S1 := by
  unfold eCall R.bind; rw [h]; show (f (l.map SV.va)).r S1 = _; rw [h2]; rfl
theorem z_callL {f : SS → Fo} {fa : AF} {ls : List SV} (h : fa S = .ok l S1) (h2 : f (l.map SV.va) = .li m ls) : eCall f fa S = .ok (.lst m) S1 := by
  unfold eCall R.bind; rw [h]; show (f (l.map SV.va)).r S1 = _; rw [h2]; rfl
theorem z_acall {f : SS → Fo} {fa : AF} {ls : List SV} (h : fa S = .ok l S1) (h2 : f (l.map SV.va) = .li m ls) : aCall f fa S = .ok m S1 := by
  unfold aCall R.bind; rw [h]; show (f (l.map SV.va)).rl S1 = _; rw [h2]; rfl
theorem z_callP {f : SS → Fo} {fa : AF} {l0 p p' : List D} (h0 : owAt S i = some l0) (h : fa S = .ok l S1) (h1 : owAt S1 i = some p) (h2 : f (.ow p :: l.map SV.va) = .va d [.ow p']) : eCallP i f fa S = .ok d (S1.set i (.ow p')) := by
  simp only [eCallP, h0, R.bind, h, h1, h2, Fo.rP]
theorem z_acallP {f : SS → Fo} {fa : AF} {l0 p p' : List D} (h0 : owAt S i = some l0) (h : fa S = .ok l S1) (h1 : owAt S1 i = some p) (h2 : f (.ow p :: l.map SV.va) = .li m [.ow p']) : aCallP i f fa S = .ok m (S1.set i (.ow p')) := by
  simp only [aCallP, h0, R.bind, h, h1, h2, Fo.rlP]
theorem z_nil : aNil S = .ok [] S := rfl
theorem z_cons {fa : EF} {fr : AF} (h : fa S = .ok d S1) (h2 : fr S1 = .ok l S2) : aCons fa fr S = .ok (d :: l) S2 := by simp only [aCons, R.bind, h, h2]
theorem z_tup {fa : AF} (h : fa S = .ok l S1) (h2 : fits l = true) : eTup fa S = .ok (.tup l) S1 := by unfold eTup R.bind; rw [h]; exact if_pos h2
theorem z_lst {f : AF} (h : f S = .ok l S1) : eLst f S = .ok (.lst l) S1 := by unfold eLst R.bind; rw [h]
theorem z_fit {f : AF} (h : f S = .ok l S1) (h2 : fits l = true) : aFit f S = .ok l S1 := by unfold aFit R.bind; rw [h]; exact if_pos h2
theorem z_pV {f : EF} (h : f S = .ok d S1) : pV f S = .ok (.val d) S1 := by unfold pV R.bind; rw [h]
theorem z_bin {g : D → D → Option D} {fa fb : PF} {a b : P} {x y : D} (h : fa S = .ok a S1) (h2 : fb S1 = .ok b S2) (h3 : a.get S2 = some x) (h4 : b.get S2 = some y) (h5 : g x y = some d) : eBin g fa fb S = .ok d S2 := by
  simp only [eBin, R.bind, h, h2, get2, h3, h4, h5, R.of]
theorem z_tBl {f : EF} {b : Bool} (h : f S = .ok (.bl b) S1) : tBl f S = .ok b S1 := by unfold tBl R.bind; rw [h]
theorem z_andT {a b : TF} {r : R Bool} (h : a S = .ok true S1) (h2 : b S1 = r) : tAnd2 a b S = r := by unfold tAnd2 R.bind; rw [h]; exact h2
theorem z_andF {a b : TF} (h : a S = .ok false S1) : tAnd2 a b S = .ok false S1 := by unfold tAnd2 R.bind; rw [h]
theorem z_orT {a b : TF} (h : a S = .ok true S1) : tOr2 a b S = .ok true S1 := by unfold tOr2 R.bind; rw [h]
theorem z_orF {a b : TF} {r : R Bool} (h : a S = .ok false S1) (h2 : b S1 = r) : tOr2 a b S = r := by unfold tOr2 R.bind; rw [h]; exact h2
theorem z_not {a : TF} {b : Bool} (h : a S = .ok b S1) : tNot1 a S = .ok (!b) S1 := by unfold tNot1 R.bind; rw [h]
theorem z_eAndT {a b : EF} {r : R D} (h : a S = .ok (.bl true) S1) (h2 : b S1 = r) : eAnd a b S = r := by unfold eAnd R.bind; rw [h]; exact h2
theorem z_eIfT {c : TF} {a b : EF} {r : R D} (h : c S = .ok true S1) (h2 : a S1 = r) : eIf c a b S = r := by unfold eIf R.bind; rw [h]; exact h2
theorem z_eIfF {c : TF} {a b : EF} {r : R D} (h : c S = .ok false S1) (h2 : b S1 = r) : eIf c a b S = r := by unfold eIf R.bind; rw [h]; exact h2
theorem z_append {fe : EF} {l0 : List D} (h0 : owAt S i = some l0) (h : fe S = .ok d S1) (h1 : owAt S1 i = some l) (h2 : okLen (l.length + 1) = true) : eAppend i fe S = .ok .non (S1.set i (.ow (l ++ [d]))) := by
  simp only [eAppend, h0, R.bind, h, h1, h2, if_true]
theorem z_extend {fe : PF} {l0 : List D} {p : P} (h0 : owAt S i = some l0) (h : fe S = .ok p S1) (h1 : owAt S1 i = some l) (h3 : p.get S1 = some (.lst m)) (h2 : okLen (l.length + m.length) = true) : eExtend i fe S = .ok .non (S1.set i (.ow (l ++ m))) := by
  simp only [eExtend, h0, R.bind, h, h1, h3, h2, if_true]
theorem z_lnil : lNil S = .ok [] S := rfl
theorem z_lcons {fa : PF} {fr : LF} {p : P} {ps : List P} (h : fa S = .ok p S1) (h2 : fr S1 = .ok ps S2) : lCons fa fr S = .ok (p :: ps) S2 := by simp only [lCons, R.bind, h, h2]
theorem z_CB {g : List D → Option D} {fa : LF} {ps : List P} (h : fa S = .ok ps S1) (h2 : getA S1 ps = some l) (h3 : g l = some d) : eCB g fa S = .ok d S1 := by
  simp only [eCB, R.bind, h, h2, Option.bind_some, h3, R.of]
theorem z_aCB {g : List D → Option (List D)} {fa : LF} {ps : List P} (h : fa S = .ok ps S1) (h2 : getA S1 ps = some l) (h3 : g l = some m) : aCB g fa S = .ok m S1 := by
  simp only [aCB, R.bind, h, h2, Option.bind_some, h3, R.of]
theorem z_cat {fa fb : PF} {a b : P} {x y : List D} (h : fa S = .ok a S1) (h2 : fb S1 = .ok b S2) (h3 : a.get S2 = some (.lst x)) (h4 : b.get S2 = some (.lst y)) (h5 : okLen (x.length + y.length) = true) : aCat fa fb S = .ok (x ++ y) S2 := by
  simp only [aCat, R.bind, h, h2, h3, h4, h5, if_true]
theorem z_star {fe : PF} {fr : AF} {p : P} (h : fe S = .ok p S1) (h1 : p.get S1 = some d) (h2 : dItems d = some l) (h3 : fr S1 = .ok m S2) : aStar fe fr S = .ok (l ++ m) S2 := by
  simp only [aStar, R.bind, h, h1, h2, h3]
theorem z_fnRt {m : Nat} {f : SF} (h : f (S ++ List.replicate m .un) = .rt d S1) : fnF io m f S = .va d (outs io S1) := by unfold fnF; rw [h]; rfl
theorem z_fnRl {m : Nat} {f : SF} (h : f (S ++ List.replicate m .un) = .rl l S1) : fnF io m f S = .li l (outs io S1) := by unfold fnF; rw [h]; rfl
-- the same where no slot changes
theorem y_asg {f : EF} {g : GF} (h : f S = .ok d S) (h2 : g d S = some S2) : sAsg f g S = .nx S2 := z_asg h h2
theorem y_ret {f : EF} (h : f S = .ok d S) : sRet f S = .rt d S := z_ret h
theorem y_retL {f : AF} (h : f S = .ok l S) : sRetL f S = .rl l S := z_retL h
theorem y_ifT {c : TF} {a b : SF} {o : Oc} (h : c S = .ok true S) (h2 : a S = o) : sIf c a b S = o := z_ifT h h2
theorem y_ifF {c : TF} {a b : SF} {o : Oc} (h : c S = .ok false S) (h2 : b S = o) : sIf c a b S = o := z_ifF h h2
theorem y_whileT {c : TF} {b : SF} {n : Nat} {o : Oc} (h : c S = .ok true S) (h2 : b S = .nx S2) (h3 : sWhile c b n S2 = o) : sWhile c b (n + 1) S = o := z_whileT h h2 h3
theorem y_whileF {c : TF} {b : SF} {n : Nat} (h : c S = .ok false S) : sWhile c b (n + 1) S = .nx S := z_whileF h
theorem y_call {f : SS → Fo} {fa : AF} {ls : List SV} (h : fa S = .ok l S) (h2 : f (l.map SV.va) = .va d ls) : eCall f fa S = .ok d S := z_call h h2
theorem y_callL {f : SS → Fo} {fa : AF} {ls : List SV} (h : fa S = .ok l S) (h2 : f (l.map SV.va) = .li m ls) : eCall f fa S = .ok (.lst m) S := z_callL h h2
theorem y_acall {f : SS → Fo} {fa : AF} {ls : List SV} (h : fa S = .ok l S) (h2 : f (l.map SV.va) = .li m ls) : aCall f fa S = .ok m S := z_acall h h2
theorem y_cons {fa : EF} {fr : AF} (h : fa S = .ok d S) (h2 : fr S = .ok l S) : aCons fa fr S = .ok (d :: l) S := z_cons h h2
theorem y_tup {fa : AF} (h : fa S = .ok l S) (h2 : fits l = true) : eTup fa S = .ok (.tup l) S := z_tup h h2
theorem y_lst {f : AF} (h : f S = .ok l S) : eLst f S = .ok (.lst l) S := z_lst h
theorem y_fit {f : AF} (h : f S = .ok l S) (h2 : fits l = true) : aFit f S = .ok l S := z_fit h h2
theorem y_pV {f : EF} (h : f S = .ok d S) : pV f S = .ok (.val d) S := z_pV h
theorem y_bin {g : D → D → Option D} {fa fb : PF} {a b : P} {x y : D} (h : fa S = .ok a S) (h2 : fb S = .ok b S) (h3 : a.get S = some x) (h4 : b.get S = some y) (h5 : g x y = some d) : eBin g fa fb S = .ok d S := z_bin h h2 h3 h4 h5
theorem y_tBl {f : EF} {b : Bool} (h : f S = .ok (.bl b) S) : tBl f S = .ok b S := z_tBl h
theorem y_andT {a b : TF} {r : R Bool} (h : a S = .ok true S) (h2 : b S = r) : tAnd2 a b S = r := z_andT h h2
theorem y_andF {a b : TF} (h : a S = .ok false S) : tAnd2 a b S = .ok false S := z_andF h
theorem y_orT {a b : TF} (h : a S = .ok true S) : tOr2 a b S = .ok true S := z_orT h
theorem y_orF {a b : TF} {r : R Bool} (h : a S = .ok false S) (h2 : b S = r) : tOr2 a b S = r := z_orF h h2
theorem y_not {a : TF} {b : Bool} (h : a S = .ok b S) : tNot1 a S = .ok (!b) S := z_not h
theorem y_eAndT {a b : EF} {r : R D} (h : a S = .ok (.bl true) S) (h2 : b S = r) : eAnd a b S = r := z_eAndT h h2
theorem y_eIfT {c : TF} {a b : EF} {r : R D} (h : c S = .ok true S) (h2 : a S = r) : eIf c a b S = r := z_eIfT h h2
theorem y_eIfF {c : TF} {a b : EF} {r : R D} (h : c S = .ok false S) (h2 : b S = r) : eIf c a b S = r := z_eIfF h h2
theorem y_append {fe : EF} (h0 : owAt S i = some l) (h : fe S = .ok d S) (h2 : okLen (l.length + 1) = true) : sExpr (eAppend i fe) S = .nx (S.set i (.ow (l ++ [d]))) := z_expr (z_append h0 h h0 h2)
theorem y_extend {fe : PF} {p : P} (h0 : owAt S i = some l) (h : fe S = .ok p S) (h3 : p.get S = some (.lst m)) (h2 : okLen (l.length + m.length) = true) : sExpr (eExtend i fe) S = .nx (S.set i (.ow (l ++ m))) := z_expr (z_extend h0 h h0 h3 h2)
theorem y_lcons {fa : PF} {fr : LF} {p : P} {ps : List P} (h : fa S = .ok p S) (h2 : fr S = .ok ps S) : lCons fa fr S = .ok (p :: ps) S := z_lcons h h2
theorem y_CB {g : List D → Option D} {fa : LF} {ps : List P} (h : fa S = .ok ps S) (h2 : getA S ps = some l) (h3 : g l = some d) : eCB g fa S = .ok d S := z_CB h h2 h3
theorem y_aCB {g : List D → Option (List D)} {fa : LF} {ps : List P} (h : fa S = .ok ps S) (h2 : getA S ps = some l) (h3 : g l = some m) : aCB g fa S = .ok m S := z_aCB h h2 h3
end
end Fy
end
section
set_option Elab.async false
set_option linter.all false
set_option maxRecDepth 100000
set_option maxHeartbeats 0
namespace K03
open PySem PySem.Spec PyProof.Rows L2 Fy
def top (i : Nat) : Stmt := PySem.Challenge.pw_fewsyncs_k03_rows_names_and_what_is_with.main.body.getD i (.Pass ⟨0, 0, 0, 0⟩)
/-- what the written part says -/
structure Tx (K : PySem.W.Frag) (G : Kit) (mg : Str → Option Value) : Prop where
  f_abs : mg "abs" = none
  f_int : mg "int" = none
  f_isinstance : mg "isinstance" = none
  f_len : mg "len" = none
  f_list : mg "list" = none
  f_range : mg "range" = none
  f_repr : mg "repr" = none
  f_sorted : mg "sorted" = none
  f_tuple : mg "tuple" = none
  c_FOLD : GC K G mg "FOLD" (.str "fold")
  c_MIX : GC K G mg "MIX" (.str "mix")
  c_ROW : GC K G mg "ROW" (.str "row")
  c_ROWWISE : GC K G mg "ROWWISE" (.tup [.str "map", .str "stamp", .str "mix"])
/-- inside(row) -/
def b_inside (n : Nat) : SF :=
  sRet (eIf (tBl (eBin dEq (pV (eBin dIx (pVar 0) (pV (eC (.int 0))))) (pV (eC (.str "mix"))))) (eBin dIx (pVar 0) (pV (eC (.int 3)))) (eBin dIx (pVar 0) (pV (eC (.int 2)))))
def f_inside (n : Nat) : SS → Fo := fnF [] 0 (b_inside n)
/-- base_of(row) -/
def b_base_of (n : Nat) : SF :=
  sSeq (sWhile (tBl (eBin dIn (pV (eBin dIx (pVar 0) (pV (eC (.int 0))))) (pV (eC (.tup [.str "map", .str "stamp", .str "mix"]))))) (sAsg (eCall (f_inside n) (aCons (eVar [] 0) (aNil))) (gSlot [] 0)) n)
  (sRet (eVar [] 0))
def f_base_of (n : Nat) : SS → Fo := fnF [] 0 (b_base_of n)
/-- sides_of(row) -/
def b_sides_of (n : Nat) : SF :=
  sSeq (sOwn [] 1 (aFit (aNil)))
  (sSeq (sWhile (tBl (eBin dIn (pV (eBin dIx (pVar 0) (pV (eC (.int 0))))) (pV (eC (.tup [.str "map", .str "stamp", .str "mix"]))))) (sSeq (sIf (tBl (eBin dEq (pV (eBin dIx (pVar 0) (pV (eC (.int 0))))) (pV (eC (.str "mix"))))) (sExpr (eAppend 1 (eTup (aCons (eBin dIx (pVar 0) (pV (eC (.int 1)))) (aCons (eBin dIx (pVar 0) (pV (eC (.int 2)))) (aNil)))))) (sNil))
  (sAsg (eCall (f_inside n) (aCons (eVar [] 0) (aNil))) (gSlot [] 0))) n)
  (sRet (eCB (g1 dTuple) (lCons (pV (eLst (aRev (pVar 1)))) (lNil)))))
def f_sides_of (n : Nat) : SS → Fo := fnF [] 1 (b_sides_of n)
/-- name_of(row) -/
def b_name_of (n : Nat) : SF :=
  sSeq (sAsg (eCall (f_base_of n) (aCons (eVar [] 0) (aNil))) (gSlot [] 1))
  (sRet (eTup (aCons (eBin dIx (pVar 1) (pV (eC (.int 1)))) (aCons (eIf (tBl (eBin dEq (pV (eBin dIx (pVar 1) (pV (eC (.int 0))))) (pV (eC (.str "fold"))))) (eBin dSub (pV (eCB (g1 dLen) (lCons (pV (eBin dIx (pVar 1) (pV (eC (.int 2))))) (lNil)))) (pV (eC (.int 1)))) (eBin dIx (pVar 1) (pV (eC (.int 2))))) (aCons (eCall (f_sides_of n) (aCons (eVar [] 0) (aNil))) (aNil))))))
def f_name_of (n : Nat) : SS → Fo := fnF [] 1 (b_name_of n)
/-- place_of(row) -/
def b_place_of (n : Nat) : SF :=
  sRet (eTup (aCons (eBin dIx (pVar 0) (pV (eC (.int 1)))) (aCons (eCall (f_name_of n) (aCons (eVar [] 0) (aNil))) (aNil))))
def f_place_of (n : Nat) : SS → Fo := fnF [] 0 (b_place_of n)
/-- parts_of(row) -/
def b_parts_of (n : Nat) : SF :=
  sSeq (sIf (tBl (eBin dEq (pV (eBin dIx (pVar 0) (pV (eC (.int 0))))) (pV (eC (.str "row"))))) (sRetL (aFit (aNil))) (sNil))
  (sSeq (sIf (tBl (eBin dIn (pV (eBin dIx (pVar 0) (pV (eC (.int 0))))) (pV (eC (.tup [.str "map", .str "stamp", .str "mix"]))))) (sRetL (aFit (aCons (eCall (f_inside n) (aCons (eVar [] 0) (aNil))) (aNil)))) (sNil))
  (sSeq (sAsg (eIf (tBl (eBin dGt (pV (eCB (g1 dLen) (lCons (pV (eBin dIx (pVar 0) (pV (eC (.int 2))))) (lNil)))) (pV (eC (.int 1))))) (eLst (aFit (aCons (eTup (aCons (eC (.str "fold")) (aCons (eBin dIx (pVar 0) (pV (eC (.int 1)))) (aCons (eSl (pV (eBin dIx (pVar 0) (pV (eC (.int 2))))) (oNone) (oSome (eNeg (eC (.int 1))))) (aNil))))) (aNil)))) (eLst (aFit (aNil)))) (gSlot [] 1))
  (sRetL (aFit (aCons (eBin dIx (pV (eBin dIx (pVar 0) (pV (eC (.int 2))))) (pV (eNeg (eC (.int 1))))) (aStar (pVar 1) (aNil)))))))
def f_parts_of (n : Nat) : SS → Fo := fnF [] 1 (b_parts_of n)
def b_within (n : Nat) : SF := bWithin (f_place_of n) (f_parts_of n) n
def f_within (n : Nat) : SS → Fo := fnF [] 5 (b_within n)
/-- _law_pen(script) -/
def b__law_pen (n : Nat) : SF :=
  sRetL (aFit (aCons (eLst (aCB (g1 dItems) (lCons (pV (eSl (pVar 0) (oNone) (oSome (eC (.int 63))))) (lNil)))) (aCons (eC (.int 0)) (aCons (eC (.int 0)) (aNil)))))
def f__law_pen (n : Nat) : SS → Fo := fnF [] 0 (b__law_pen n)
/-- _law_draw(pen, many) -/
def b__law_draw (n : Nat) : SF :=
  sSeq (sIf (tBl (eBin dGt (pV (eBin dIx (pVar 0) (pV (eC (.int 2))))) (pV (eC (.int 0))))) (sSeq (sAsg (eBin dMod (pV (eCB (g1 dInt) (lCons (pV (eBin dIx (pVar 0) (pV (eC (.int 2))))) (lNil)))) (pVar 1)) (gSlot [0] 5))
  (sSeq (sSetI 0 (eBin dFdiv (pV (eCB (g1 dInt) (lCons (pV (eBin dIx (pVar 0) (pV (eC (.int 2))))) (lNil)))) (pVar 1)) (eC (.int 2)))
  (sRet (eVar [0] 5)))) (sNil))
  (sSeq (sAsg (eBin dIx (pVar 0) (pV (eC (.int 1)))) (gSlot [0] 2))
  (sSeq (sSetI 0 (eBin dAdd (pVar 2) (pV (eC (.int 1)))) (eC (.int 1)))
  (sSeq (sAsg (eBin dAdd (pV (eBin dMul (pV (eC (.int 71113))) (pVar 2))) (pV (eC (.int 9079)))) (gSlot [0] 3))
  (sSeq (sIf (tBl (eBin dNe (pV (eBin dIx (pVar 0) (pV (eC (.int 0))))) (pV (eLst (aFit (aNil)))))) (sAsg (eBin dIx (pV (eBin dIx (pVar 0) (pV (eC (.int 0))))) (pV (eBin dMod (pV (eCB (g1 dInt) (lCons (pVar 2) (lNil)))) (pV (eCB (g1 dLen) (lCons (pV (eBin dIx (pVar 0) (pV (eC (.int 0))))) (lNil))))))) (gSlot [0] 3)) (sNil))
  (sSeq (sIf (tAnd2 (tBl (eBin dLt (pVar 2) (pV (eCB (g1 dLen) (lCons (pV (eBin dIx (pVar 0) (pV (eC (.int 0))))) (lNil)))))) (tBl (eBin dGe (pV (eCB (g1 dAbs) (lCons (pVar 3) (lNil)))) (pV (eBin dPow (pV (eC (.int 10))) (pV (eC (.int 18)))))))) (sSeq (sAsg (eBin dAdd (pV (eBin dMul (pV (eC (.int 2))) (pV (eBin dSub (pV (eCB (g1 dAbs) (lCons (pVar 3) (lNil)))) (pV (eBin dPow (pV (eC (.int 10))) (pV (eC (.int 18))))))))) (pV (eCB (g1 dInt) (lCons (pV (eBin dLt (pVar 3) (pV (eC (.int 0))))) (lNil))))) (gSlot [0] 6))
  (sSeq (sSetI 0 (eBin dFdiv (pV (eCB (g1 dInt) (lCons (pVar 6) (lNil)))) (pVar 1)) (eC (.int 2)))
  (sRet (eBin dMod (pV (eCB (g1 dInt) (lCons (pVar 6) (lNil)))) (pVar 1))))) (sNil))
  (sSeq (sAsg (eBin dMod (pV (eCB (g1 dInt) (lCons (pV (eBin dPow (pV (eBin dAdd (pV (eBin dAdd (pV (eBin dMod (pV (eCB (g1 dInt) (lCons (pVar 3) (lNil)))) (pV (eC (.int 2147483549))))) (pV (eBin dMul (pV (eC (.int 33187))) (pVar 2))))) (pV (eC (.int 6167))))) (pV (eC (.int 5))))) (lNil)))) (pV (eC (.int 2147483629)))) (gSlot [0] 4))
  (sSeq (sAsg (eBin dMod (pV (eCB (g1 dInt) (lCons (pV (eBin dPow (pV (eBin dAdd (pV (eBin dAdd (pV (eBin dMul (pVar 4) (pV (eBin dAdd (pV (eBin dMul (pV (eC (.int 2))) (pVar 2))) (pV (eC (.int 773))))))) (pV (eBin dMul (pV (eBin dMul (pV (eC (.int 9901))) (pVar 2))) (pVar 2))))) (pV (eC (.int 67))))) (pV (eC (.int 3))))) (lNil)))) (pV (eC (.int 2147483587)))) (gSlot [0] 4))
  (sRet (eBin dMod (pV (eCB (g1 dInt) (lCons (pV (eBin dFdiv (pVar 4) (pV (eC (.int 16))))) (lNil)))) (pVar 1))))))))))
def f__law_draw (n : Nat) : SS → Fo := fnF [0] 5 (b__law_draw n)
/-- _law_pick(pen, some) -/
def b__law_pick (n : Nat) : SF :=
  sRet (eBin dIx (pVar 1) (pV (eCallP 0 (f__law_draw n) (aCons (eCB (g1 dLen) (lCons (pVar 1) (lNil))) (aNil)))))
def f__law_pick (n : Nat) : SS → Fo := fnF [0] 0 (b__law_pick n)
/-- _law_base(row) -/
def b__law_base (n : Nat) : SF :=
  sSeq (sWhile (tBl (eBin dNotIn (pV (eBin dIx (pVar 0) (pV (eC (.int 0))))) (pV (eTup (aCons (eC (.str "row")) (aCons (eC (.str "fold")) (aNil))))))) (sAsg (eIf (tBl (eBin dEq (pV (eBin dIx (pVar 0) (pV (eC (.int 0))))) (pV (eC (.str "mix"))))) (eBin dIx (pVar 0) (pV (eC (.int 3)))) (eBin dIx (pVar 0) (pV (eC (.int 2))))) (gSlot [] 0)) n)
  (sRet (eVar [] 0))
def f__law_base (n : Nat) : SS → Fo := fnF [] 0 (b__law_base n)
/-- _law_name(row) -/
def b__law_name (n : Nat) : SF :=
  sSeq (sPar [] [1, 2] (mVa (eCall (f__law_base n) (aCons (eVar [] 0) (aNil))) (mVa (eLst (aFit (aNil))) (mNil))))
  (sSeq (sWhile (tBl (eBin dNotIn (pV (eBin dIx (pVar 0) (pV (eC (.int 0))))) (pV (eTup (aCons (eC (.str "row")) (aCons (eC (.str "fold")) (aNil))))))) (sSeq (sAsg (eBin dAdd (pV (eIf (tBl (eBin dEq (pV (eBin dIx (pVar 0) (pV (eC (.int 0))))) (pV (eC (.str "mix"))))) (eLst (aFit (aCons (eTup (aCons (eBin dIx (pVar 0) (pV (eC (.int 1)))) (aCons (eBin dIx (pVar 0) (pV (eC (.int 2)))) (aNil)))) (aNil)))) (eLst (aFit (aNil))))) (pVar 2)) (gSlot [] 2))
  (sAsg (eIf (tBl (eBin dEq (pV (eBin dIx (pVar 0) (pV (eC (.int 0))))) (pV (eC (.str "mix"))))) (eBin dIx (pVar 0) (pV (eC (.int 3)))) (eBin dIx (pVar 0) (pV (eC (.int 2))))) (gSlot [] 0))) n)
  (sRet (eTup (aCons (eBin dIx (pVar 1) (pV (eC (.int 1)))) (aCons (eIf (tBl (eBin dEq (pV (eBin dIx (pVar 1) (pV (eC (.int 0))))) (pV (eC (.str "row"))))) (eBin dIx (pVar 1) (pV (eC (.int 2)))) (eBin dSub (pV (eCB (g1 dLen) (lCons (pV (eBin dIx (pVar 1) (pV (eC (.int 2))))) (lNil)))) (pV (eC (.int 1))))) (aCons (eCB (g1 dTuple) (lCons (pVar 2) (lNil))) (aNil)))))))
def f__law_name (n : Nat) : SS → Fo := fnF [] 2 (b__law_name n)
/-- _law_within(rows) -/
def b__law_within (n : Nat) : SF :=
  sSeq (sPar [] [1, 2] (mOw (aFit (aNil)) (mOw (aCB (g1 dItems) (lCons (pVar 0) (lNil))) (mNil))))
  (sSeq (sWhile (tBl (eBin dNe (pVar 2) (pV (eLst (aFit (aNil)))))) (sSeq (sAsg (ePopAt 2 (eC (.int 0))) (gSlot [] 3))
  (sIf (tBl (eBin dNotIn (pVar 3) (pVar 1))) (sSeq (sExpr (eAppend 1 (eVar [] 3)))
  (sIf (tBl (eBin dEq (pV (eBin dIx (pVar 3) (pV (eC (.int 0))))) (pV (eC (.str "fold"))))) (sOwn [] 2 (aCat (pV (eBin dAdd (pVar 2) (pV (eLst (aFit (aCons (eBin dIx (pV (eBin dIx (pVar 3) (pV (eC (.int 2))))) (pV (eNeg (eC (.int 1))))) (aNil))))))) (pV (eIf (tBl (eBin dGt (pV (eCB (g1 dLen) (lCons (pV (eBin dIx (pVar 3) (pV (eC (.int 2))))) (lNil)))) (pV (eC (.int 1))))) (eLst (aFit (aCons (eTup (aCons (eC (.str "fold")) (aCons (eBin dIx (pVar 3) (pV (eC (.int 1)))) (aCons (eSl (pV (eBin dIx (pVar 3) (pV (eC (.int 2))))) (oNone) (oSome (eNeg (eC (.int 1))))) (aNil))))) (aNil)))) (eLst (aFit (aNil))))))) (sIf (tBl (eBin dNe (pV (eBin dIx (pVar 3) (pV (eC (.int 0))))) (pV (eC (.str "row"))))) (sExpr (eAppend 2 (eIf (tBl (eBin dEq (pV (eBin dIx (pVar 3) (pV (eC (.int 0))))) (pV (eC (.str "mix"))))) (eBin dIx (pVar 3) (pV (eC (.int 3)))) (eBin dIx (pVar 3) (pV (eC (.int 2))))))) (sNil)))) (sNil))) n)
  (sRetO [] 1))
def f__law_within (n : Nat) : SS → Fo := fnF [] 3 (b__law_within n)
/-- _law_drawn_row(pen, deep) -/
def b__law_drawn_row (rec : SS → Fo) (n : Nat) : SF :=
  sSeq (sAsg (eIf (tBl (eBin dGt (pVar 1) (pV (eC (.int 0))))) (eCallP 0 (f__law_draw n) (aCons (eC (.int 8)) (aNil))) (eC (.int 0))) (gSlot [0] 2))
  (sSeq (sIf (tBl (eBin dLt (pVar 2) (pV (eC (.int 2))))) (sRet (eTup (aCons (eC (.str "row")) (aCons (eCallP 0 (f__law_pick n) (aCons (eLst (aFit (aCons (eC (.str "a")) (aCons (eC (.str "c")) (aCons (eC (.str "eightlet")) (aNil)))))) (aNil))) (aCons (eCallP 0 (f__law_draw n) (aCons (eC (.int 20)) (aNil))) (aNil)))))) (sNil))
  (sSeq (sAsg (eCallP 0 (rec) (aCons (eBin dSub (pVar 1) (pV (eC (.int 1)))) (aNil))) (gSlot [0] 3))
  (sSeq (sIf (tBl (eBin dLt (pVar 2) (pV (eC (.int 4))))) (sRet (eTup (aCons (eC (.str "map")) (aCons (eCallP 0 (f__law_pick n) (aCons (eLst (aFit (aCons (eC (.str "m")) (aCons (eC (.str "k")) (aNil))))) (aNil))) (aCons (eVar [0] 3) (aNil)))))) (sNil))
  (sSeq (sIf (tBl (eBin dEq (pVar 2) (pV (eC (.int 4))))) (sRet (eTup (aCons (eC (.str "stamp")) (aCons (eCallP 0 (f__law_pick n) (aCons (eLst (aFit (aCons (eC (.str "p")) (aCons (eC (.str "q")) (aNil))))) (aNil))) (aCons (eVar [0] 3) (aCons (eCallP 0 (f__law_draw n) (aCons (eC (.int 10)) (aNil))) (aNil))))))) (sNil))
  (sSeq (sIf (tBl (eBin dLt (pVar 2) (pV (eC (.int 7))))) (sRet (eTup (aCons (eC (.str "mix")) (aCons (eCallP 0 (f__law_pick n) (aCons (eLst (aFit (aCons (eC (.str "x")) (aCons (eC (.str "y")) (aNil))))) (aNil))) (aCons (eCallP 0 (f__law_draw n) (aCons (eC (.int 4)) (aNil))) (aCons (eVar [0] 3) (aNil))))))) (sNil))
  (sRet (eTup (aCons (eC (.str "fold")) (aCons (eCallP 0 (f__law_pick n) (aCons (eLst (aFit (aCons (eC (.str "f")) (aCons (eC (.str "g")) (aNil))))) (aNil))) (aCons (eBin dAdd (pV (eCB (g1 dTuple) (lCons (pV (eLst (aComp [4] (aRg1 (aCons (eCallP 0 (f__law_draw n) (aCons (eC (.int 3)) (aNil))) (aNil))) (gSlot [0] 4) (tsYes) (eCallP 0 (rec) (aCons (eBin dSub (pVar 1) (pV (eC (.int 2)))) (aNil)))))) (lNil)))) (pV (eTup (aCons (eVar [0] 3) (aNil))))) (aNil)))))))))))
def r__law_drawn_row (n : Nat) : Nat → SS → Fo
  | 0 => fun _ => .bad
  | j + 1 => fnF [0] 3 (b__law_drawn_row (r__law_drawn_row n j) n)
def f__law_drawn_row (n : Nat) : SS → Fo := r__law_drawn_row n 6
/-- law(script) -/
def b_law (n : Nat) : SF :=
  sSeq (sOwn [] 1 (aCall (f__law_pen n) (aCons (eVar [] 0) (aNil))))
  (sSeq (sForE (aRg1 (aCons (eC (.int 12)) (aNil))) (gSlot [] 2) (sSeq (sAsg (eLst (aComp [9] (aRg1 (aCons (eBin dAdd (pV (eC (.int 1))) (pV (eCallP 1 (f__law_draw n) (aCons (eC (.int 3)) (aNil))))) (aNil))) (gSlot [] 9) (tsYes) (eCallP 1 (f__law_drawn_row n) (aCons (eC (.int 5)) (aNil))))) (gSlot [] 6))
  (sSeq (sForE (aIt (eVar [] 6)) (gSlot [] 7) (sIf (tOr2 (tBl (eBin dNe (pV (eCB (g1 dRepr) (lCons (pV (eCall (f_name_of n) (aCons (eVar [] 7) (aNil)))) (lNil)))) (pV (eCB (g1 dRepr) (lCons (pV (eCall (f__law_name n) (aCons (eVar [] 7) (aNil)))) (lNil)))))) (tOr2 (tBl (eBin dNe (pV (eCB (g1 dRepr) (lCons (pV (eCall (f_place_of n) (aCons (eVar [] 7) (aNil)))) (lNil)))) (pV (eCB (g1 dRepr) (lCons (pV (eTup (aCons (eBin dIx (pVar 7) (pV (eC (.int 1)))) (aCons (eCall (f__law_name n) (aCons (eVar [] 7) (aNil))) (aNil))))) (lNil)))))) (tOr2 (tBl (eBin dNe (pV (eCall (f_name_of n) (aCons (eVar [] 7) (aNil)))) (pV (eCall (f_name_of n) (aCons (eVar [] 7) (aNil)))))) (tBl (eBin dNe (pV (eCall (f_place_of n) (aCons (eVar [] 7) (aNil)))) (pV (eCall (f_place_of n) (aCons (eVar [] 7) (aNil))))))))) (sRet (eC (.bl false))) (sNil)))
  (sSeq (sAsg (eCall (f_within n) (aCons (eVar [] 6) (aNil))) (gSlot [] 8))
  (sSeq (sIf (tOr2 (tNot1 (tBl (tIsi (dIsi "tuple") (pVar 8)))) (tBl (eBin dNe (pV (eLst (aCB (g1 dSorted) (lCons (pV (eLst (aComp [7] (aIt (eVar [] 8)) (gSlot [] 7) (tsYes) (eCB (g1 dRepr) (lCons (pVar 7) (lNil)))))) (lNil))))) (pV (eLst (aCB (g1 dSorted) (lCons (pV (eLst (aComp [7] (aIt (eCall (f__law_within n) (aCons (eVar [] 6) (aNil)))) (gSlot [] 7) (tsYes) (eCB (g1 dRepr) (lCons (pVar 7) (lNil)))))) (lNil)))))))) (sRet (eC (.bl false))) (sNil))
  (sIf (tBl (eBin dNe (pV (eLst (aCB (g1 dSorted) (lCons (pV (eLst (aComp [7] (aIt (eCall (f_within n) (aCons (eCB (g1 dTuple) (lCons (pVar 6) (lNil))) (aNil)))) (gSlot [] 7) (tsYes) (eCB (g1 dRepr) (lCons (pVar 7) (lNil)))))) (lNil))))) (pV (eLst (aCB (g1 dSorted) (lCons (pV (eLst (aComp [7] (aIt (eVar [] 8)) (gSlot [] 7) (tsYes) (eCB (g1 dRepr) (lCons (pVar 7) (lNil)))))) (lNil))))))) (sRet (eC (.bl false))) (sNil)))))))
  (sSeq (sAsg (eTup (aCons (eC (.str "row")) (aCons (eC (.str "a")) (aCons (eC (.int 0)) (aNil))))) (gSlot [] 3))
  (sSeq (sForE (aRg1 (aCons (eC (.int 20)) (aNil))) (gSlot [] 4) (sAsg (eIf (tBl (eBin dEq (pVar 4) (pV (eC (.int 9))))) (eTup (aCons (eC (.str "fold")) (aCons (eC (.str "f")) (aCons (eTup (aCons (eVar [] 3) (aNil))) (aNil))))) (eTup (aCons (eC (.str "map")) (aCons (eC (.str "m")) (aCons (eVar [] 3) (aNil)))))) (gSlot [] 3)))
  (sSeq (sAsg (eTup (aCons (eC (.str "fold")) (aCons (eC (.str "g")) (aCons (eCB (g1 dTuple) (lCons (pV (eLst (aComp [4] (aRg1 (aCons (eC (.int 20)) (aNil))) (gSlot [] 4) (tsYes) (eTup (aCons (eC (.str "row")) (aCons (eC (.str "a")) (aCons (eVar [] 4) (aNil)))))))) (lNil))) (aNil))))) (gSlot [] 5))
  (sRet (eAnd (eBin dEq (pV (eCall (f_name_of n) (aCons (eVar [] 3) (aNil)))) (pV (eTup (aCons (eC (.str "f")) (aCons (eC (.int 0)) (aCons (eTup (aNil)) (aNil))))))) (eAnd (eBin dEq (pV (eCB (g1 dLen) (lCons (pV (eCall (f_within n) (aCons (eLst (aFit (aCons (eVar [] 3) (aNil)))) (aNil)))) (lNil)))) (pV (eC (.int 21)))) (eAnd (eBin dEq (pV (eCB (g1 dLen) (lCons (pV (eCall (f_within n) (aCons (eLst (aFit (aCons (eVar [] 5) (aNil)))) (aNil)))) (lNil)))) (pV (eC (.int 40)))) (eAnd (eBin dEq (pV (eCall (f_name_of n) (aCons (eVar [] 5) (aNil)))) (pV (eTup (aCons (eC (.str "g")) (aCons (eC (.int 19)) (aCons (eTup (aNil)) (aNil))))))) (eBin dEq (pV (eCall (f_within n) (aCons (eLst (aFit (aNil))) (aNil)))) (pV (eTup (aNil)))))))))))))
def f_law (n : Nat) : SS → Fo := fnF [] 9 (b_law n)
section
variable {P : Program} {w : World} {K : PySem.W.Frag} {G : Kit} {mg : Str → Option Value} {base : Heap}
abbrev s_inside : Stmt := top 7
theorem sc_inside : FnScope ["row"] ["row"] (defScope s_inside) := ⟨rfl, rfl, rfl, by decide +kernel, rfl, by decide +kernel, by decide +kernel⟩
theorem ok_inside {f : Addr} {fd : FuncData} (n : Nat) (T : Tx K G mg) (F : FunD K "inside" "inside" (defArgs s_inside) (defBody s_inside) (defScope s_inside) [] [] f fd) : FnG P w K mg base (CX P w) 1 f fd ["row"] (FSp K G [] ["row"].length (f_inside n)) := by
  refine fn_ok (k := 0) F sc_inside (m := 0) rfl fun cdv A outer s H E hr hgd => ?_
  have hgd : (A.deeper (envOfC "inside" (defScope s_inside) s.heap.objs.size f cdv)).guards = some [] := hgd
  exact jb_one (js_ret (je_if (jt_cmp (od_eq (hu64 hr)) (by rfl) (jp_v (je_ix (jp_var (i := 0) rfl (.inl rfl)) (jp_v (je_int)) (fun _ _ => rfl))) (jp_v (je_gc T.c_MIX (by rfl)))) (je_ix (jp_var (i := 0) rfl (.inl rfl)) (jp_v (je_int)) (fun _ _ => rfl)) (je_ix (jp_var (i := 0) rfl (.inl rfl)) (jp_v (je_int)) (fun _ _ => rfl))))
abbrev s_base_of : Stmt := top 8
theorem sc_base_of : FnScope ["row"] ["row"] (defScope s_base_of) := ⟨rfl, rfl, rfl, by decide +kernel, rfl, by decide +kernel, by decide +kernel⟩
theorem ok_base_of {f : Addr} {fd : FuncData} (n : Nat) (T : Tx K G mg) (F : FunD K "base_of" "base_of" (defArgs s_base_of) (defBody s_base_of) (defScope s_base_of) [] [] f fd) (D_inside : Df P w K G mg base "inside" [] ["row"] 1 (f_inside n)) : FnG P w K mg base (CX P w) 2 f fd ["row"] (FSp K G [] ["row"].length (f_base_of n)) := by
  refine fn_ok (k := 1) F sc_base_of (m := 0) rfl fun cdv A outer s H E hr hgd => ?_
  have hgd : (A.deeper (envOfC "base_of" (defScope s_base_of) s.heap.objs.size f cdv)).guards = some [] := hgd
  exact jb_cons (js_while n (passes_of rfl) (jt_cmp (od_in (hu65 hr)) (by rfl) (jp_v (je_ix (jp_var (i := 0) rfl (.inl rfl)) (jp_v (je_int)) (fun _ _ => rfl))) (jp_v (je_gc T.c_ROWWISE (by rfl)))) (jb_one (js_set (i := 0) (je_cD D_inside hr (by decide) hgd (by rfl) (takes_of rfl rfl rfl rfl) (ja_cons (je_var (i := 0) rfl (.inl rfl)) (ja_nil)) (len_cons len_nil) rfl) sc_base_of.nd rfl (.inl rfl))))
      (jb_one (js_ret (je_var (i := 0) rfl (.inl rfl))))
abbrev s_sides_of : Stmt := top 9
theorem sc_sides_of : FnScope ["row", "found"] ["row"] (defScope s_sides_of) := ⟨rfl, rfl, rfl, by decide +kernel, rfl, by decide +kernel, by decide +kernel⟩
theorem ok_sides_of {f : Addr} {fd : FuncData} (n : Nat) (T : Tx K G mg) (F : FunD K "sides_of" "sides_of" (defArgs s_sides_of) (defBody s_sides_of) (defScope s_sides_of) [] [] f fd) (D_inside : Df P w K G mg base "inside" [] ["row"] 1 (f_inside n)) : FnG P w K mg base (CX P w) 2 f fd ["row"] (FSp K G [] ["row"].length (f_sides_of n)) := by
  refine fn_ok (k := 1) F sc_sides_of (m := 1) rfl fun cdv A outer s H E hr hgd => ?_
  have hgd : (A.deeper (envOfC "sides_of" (defScope s_sides_of) s.heap.objs.size f cdv)).guards = some [] := hgd
  exact jb_cons (js_own (i := 1) (JN.jl (jn_lst (ja_nil))) sc_sides_of.nd rfl (.inl rfl))
      (jb_cons (js_while n (passes_of rfl) (jt_cmp (od_in (hu65 hr)) (by rfl) (jp_v (je_ix (jp_var (i := 0) rfl (.inl rfl)) (jp_v (je_int)) (fun _ _ => rfl))) (jp_v (je_gc T.c_ROWWISE (by rfl)))) (jb_cons (js_if (jt_cmp (od_eq (hu64 hr)) (by rfl) (jp_v (je_ix (jp_var (i := 0) rfl (.inl rfl)) (jp_v (je_int)) (fun _ _ => rfl))) (jp_v (je_gc T.c_MIX (by rfl)))) (jb_one (js_expr (je_append (i := 1) rfl (.inl rfl) (je_tup (ja_cons (je_ix (jp_var (i := 0) rfl (.inl rfl)) (jp_v (je_int)) (fun _ _ => rfl)) (ja_cons (je_ix (jp_var (i := 0) rfl (.inl rfl)) (jp_v (je_int)) (fun _ _ => rfl)) (ja_nil))))))) (jb_nil))
      (jb_one (js_set (i := 0) (je_cD D_inside hr (by decide) hgd (by rfl) (takes_of rfl rfl rfl rfl) (ja_cons (je_var (i := 0) rfl (.inl rfl)) (ja_nil)) (len_cons len_nil) rfl) sc_sides_of.nd rfl (.inl rfl)))))
      (jb_one (js_ret (je_callTy cd_tuple (by rfl) T.f_tuple (by decide +kernel) (jls_cons (jp_v (JL.je (JN.jl (jn_rev (jp_var (i := 1) rfl (.inl rfl)))))) (jls_nil))))))
abbrev s_name_of : Stmt := top 10
theorem sc_name_of : FnScope ["row", "base"] ["row"] (defScope s_name_of) := ⟨rfl, rfl, rfl, by decide +kernel, rfl, by decide +kernel, by decide +kernel⟩
theorem ok_name_of {f : Addr} {fd : FuncData} (n : Nat) (T : Tx K G mg) (F : FunD K "name_of" "name_of" (defArgs s_name_of) (defBody s_name_of) (defScope s_name_of) [] [] f fd) (D_base_of : Df P w K G mg base "base_of" [] ["row"] 2 (f_base_of n)) (D_sides_of : Df P w K G mg base "sides_of" [] ["row"] 2 (f_sides_of n)) : FnG P w K mg base (CX P w) 3 f fd ["row"] (FSp K G [] ["row"].length (f_name_of n)) := by
  refine fn_ok (k := 2) F sc_name_of (m := 1) rfl fun cdv A outer s H E hr hgd => ?_
  have hgd : (A.deeper (envOfC "name_of" (defScope s_name_of) s.heap.objs.size f cdv)).guards = some [] := hgd
  exact jb_cons (js_set (i := 1) (je_cD D_base_of hr (by decide) hgd (by rfl) (takes_of rfl rfl rfl rfl) (ja_cons (je_var (i := 0) rfl (.inl rfl)) (ja_nil)) (len_cons len_nil) rfl) sc_name_of.nd rfl (.inl rfl))
      (jb_one (js_ret (je_tup (ja_cons (je_ix (jp_var (i := 1) rfl (.inl rfl)) (jp_v (je_int)) (fun _ _ => rfl)) (ja_cons (je_if (jt_cmp (od_eq (hu64 hr)) (by rfl) (jp_v (je_ix (jp_var (i := 1) rfl (.inl rfl)) (jp_v (je_int)) (fun _ _ => rfl))) (jp_v (je_gc T.c_FOLD (by rfl)))) (je_op od_sub (jp_v (je_callB cd_len (by rfl) T.f_len (by decide +kernel) (jls_cons (jp_v (je_ix (jp_var (i := 1) rfl (.inl rfl)) (jp_v (je_int)) (fun _ _ => rfl))) (jls_nil)))) (jp_v (je_int))) (je_ix (jp_var (i := 1) rfl (.inl rfl)) (jp_v (je_int)) (fun _ _ => rfl))) (ja_cons (je_cD D_sides_of hr (by decide) hgd (by rfl) (takes_of rfl rfl rfl rfl) (ja_cons (je_var (i := 0) rfl (.inl rfl)) (ja_nil)) (len_cons len_nil) rfl) (ja_nil)))))))
abbrev s_place_of : Stmt := top 11
theorem sc_place_of : FnScope ["row"] ["row"] (defScope s_place_of) := ⟨rfl, rfl, rfl, by decide +kernel, rfl, by decide +kernel, by decide +kernel⟩
theorem ok_place_of {f : Addr} {fd : FuncData} (n : Nat) (T : Tx K G mg) (F : FunD K "place_of" "place_of" (defArgs s_place_of) (defBody s_place_of) (defScope s_place_of) [] [] f fd) (D_name_of : Df P w K G mg base "name_of" [] ["row"] 3 (f_name_of n)) : FnG P w K mg base (CX P w) 4 f fd ["row"] (FSp K G [] ["row"].length (f_place_of n)) := by
  refine fn_ok (k := 3) F sc_place_of (m := 0) rfl fun cdv A outer s H E hr hgd => ?_
  have hgd : (A.deeper (envOfC "place_of" (defScope s_place_of) s.heap.objs.size f cdv)).guards = some [] := hgd
  exact jb_one (js_ret (je_tup (ja_cons (je_ix (jp_var (i := 0) rfl (.inl rfl)) (jp_v (je_int)) (fun _ _ => rfl)) (ja_cons (je_cD D_name_of hr (by decide) hgd (by rfl) (takes_of rfl rfl rfl rfl) (ja_cons (je_var (i := 0) rfl (.inl rfl)) (ja_nil)) (len_cons len_nil) rfl) (ja_nil)))))
abbrev s_parts_of : Stmt := top 12
theorem sc_parts_of : FnScope ["row", "earlier"] ["row"] (defScope s_parts_of) := ⟨rfl, rfl, rfl, by decide +kernel, rfl, by decide +kernel, by decide +kernel⟩
theorem ok_parts_of {f : Addr} {fd : FuncData} (n : Nat) (T : Tx K G mg) (F : FunD K "parts_of" "parts_of" (defArgs s_parts_of) (defBody s_parts_of) (defScope s_parts_of) [] [] f fd) (D_inside : Df P w K G mg base "inside" [] ["row"] 1 (f_inside n)) : FnG P w K mg base (CX P w) 2 f fd ["row"] (FSp K G [] ["row"].length (f_parts_of n)) := by
  refine fn_ok (k := 1) F sc_parts_of (m := 1) rfl fun cdv A outer s H E hr hgd => ?_
  have hgd : (A.deeper (envOfC "parts_of" (defScope s_parts_of) s.heap.objs.size f cdv)).guards = some [] := hgd
  exact jb_cons (js_if (jt_cmp (od_eq (hu64 hr)) (by rfl) (jp_v (je_ix (jp_var (i := 0) rfl (.inl rfl)) (jp_v (je_int)) (fun _ _ => rfl))) (jp_v (je_gc T.c_ROW (by rfl)))) (jb_one (js_retL (JN.jl (jn_lst (ja_nil))))) (jb_nil))
      (jb_cons (js_if (jt_cmp (od_in (hu65 hr)) (by rfl) (jp_v (je_ix (jp_var (i := 0) rfl (.inl rfl)) (jp_v (je_int)) (fun _ _ => rfl))) (jp_v (je_gc T.c_ROWWISE (by rfl)))) (jb_one (js_retL (JN.jl (jn_lst (ja_cons (je_cD D_inside hr (by decide) hgd (by rfl) (takes_of rfl rfl rfl rfl) (ja_cons (je_var (i := 0) rfl (.inl rfl)) (ja_nil)) (len_cons len_nil) rfl) (ja_nil)))))) (jb_nil))
      (jb_cons (js_set (i := 1) (je_if (jt_cmp od_gt (by rfl) (jp_v (je_callB cd_len (by rfl) T.f_len (by decide +kernel) (jls_cons (jp_v (je_ix (jp_var (i := 0) rfl (.inl rfl)) (jp_v (je_int)) (fun _ _ => rfl))) (jls_nil)))) (jp_v (je_int))) (JL.je (JN.jl (jn_lst (ja_cons (je_tup (ja_cons (je_gc T.c_FOLD (by rfl)) (ja_cons (je_ix (jp_var (i := 0) rfl (.inl rfl)) (jp_v (je_int)) (fun _ _ => rfl)) (ja_cons (je_sl (jp_v (je_ix (jp_var (i := 0) rfl (.inl rfl)) (jp_v (je_int)) (fun _ _ => rfl))) (jo_none) (jo_some (je_neg (je_int)))) (ja_nil))))) (ja_nil))))) (JL.je (JN.jl (jn_lst (ja_nil))))) sc_parts_of.nd rfl (.inl rfl))
      (jb_one (js_retL (JN.jl (jn_lst (ja_cons (je_ix (jp_v (je_ix (jp_var (i := 0) rfl (.inl rfl)) (jp_v (je_int)) (fun _ _ => rfl))) (jp_v (je_neg (je_int))) (fun _ _ => rfl)) (ja_star (jp_var (i := 1) rfl (.inl rfl)) (ja_nil)))))))))
abbrev s_within : Stmt := top 13
theorem sc_within : FnScope ["rows", "found", "seen", "line", "row", "others"] ["rows"] (defScope s_within) := ⟨rfl, rfl, rfl, by decide +kernel, rfl, by decide +kernel, by decide +kernel⟩
theorem ok_within {f : Addr} {fd : FuncData} (n : Nat) (T : Tx K G mg) (F : FunD K "within" "within" (defArgs s_within) (defBody s_within) (defScope s_within) [] [] f fd) (D_place_of : Df P w K G mg base "place_of" [] ["row"] 4 (f_place_of n)) (D_parts_of : Df P w K G mg base "parts_of" [] ["row"] 2 (f_parts_of n)) : FnG P w K mg base (CX P w) 5 f fd ["rows"] (FSp K G [] ["rows"].length (f_within n)) := by
  refine fn_ok (k := 4) F sc_within (m := 5) rfl fun cdv A outer s H E hr hgd => ?_
  have hgd : (A.deeper (envOfC "within" (defScope s_within) s.heap.objs.size f cdv)).guards = some [] := hgd
  exact jb_within (hu65 hr) (fun h1 h3 hc hpop hp hap hex hr' => pss_cons (ps_par3 (i := 1) (j := 2) (l := 3) (by rfl) sc_within.nd rfl rfl rfl (by decide) (by decide) (by decide) rfl rfl rfl (pa_cons h1 (pa_cons pe_dnewN (pa_cons h3 pa_nil))) (by rfl))
    (pss_cons (ps_while (passes_of rfl) hc
      (pss_cons (ps_set (i := 4) sc_within.nd rfl (.inl rfl) hpop)
      (pss_cons (ps_set (i := 5) sc_within.nd rfl (.inl rfl) (pe_setdN (hu64 hr) (pe_var (i := 2) rfl (.inl rfl)) hp (pe_lst pa_nil) ⟨rfl, rfl, rfl, rfl⟩))
      (pss_one (ps_if (pt_cmpR (op_notInD (hu65 hr)) (pe_var (i := 4) rfl (.inl rfl)) (pe_var (i := 5) rfl (.inl rfl)) (by rfl))
        (pss_cons (ps_expr (pe_bm PySem.F.plainAttrs_list PySem.F.slot_list_append PySem.F.type_list_append mt_append (pe_var (i := 5) rfl (.inl rfl)) (pa_cons (pe_var (i := 4) rfl (.inl rfl)) pa_nil)))
          (pss_cons (ps_expr hap) (pss_one (ps_expr hex)))) pss_nil)))))
    (pss_one (ps_ret hr'))))
    (JN.jl (jn_lst (ja_nil))) (JN.jl (jn_rev (jp_v (JL.je (JN.jl (jn_callTy cn_list (by rfl) T.f_list (by decide +kernel) (jls_cons (jp_var (i := 0) rfl (.inl rfl)) (jls_nil))))))))
    (jt_cmp (od_ne (hu64 hr)) (by rfl) (jp_var (i := 3) rfl (.inl rfl)) (jp_v (JL.je (JN.jl (jn_lst (ja_nil))))))
    (je_pop (i := 3) rfl (.inl rfl)) (je_cD D_place_of hr (by decide) hgd (by rfl) (takes_of rfl rfl rfl rfl) (ja_cons (je_var (i := 4) rfl (.inl rfl)) (ja_nil)) (len_cons len_nil) rfl)
    (je_append (i := 1) rfl (.inl rfl) (je_var (i := 4) rfl (.inl rfl)))
    (je_extend (i := 3) rfl (.inl rfl) (jp_v (JL.je (JN.jl (jn_rev (jp_v (je_cD D_parts_of hr (by decide) hgd (by rfl) (takes_of rfl rfl rfl rfl) (ja_cons (je_var (i := 4) rfl (.inl rfl)) (ja_nil)) (len_cons len_nil) rfl)))))))
    (je_callTy cd_tuple (by rfl) T.f_tuple (by decide +kernel) (jls_cons (jp_var (i := 1) rfl (.inl rfl)) (jls_nil)))
abbrev s__law_pen : Stmt := top 15
theorem sc__law_pen : FnScope ["script"] ["script"] (defScope s__law_pen) := ⟨rfl, rfl, rfl, by decide +kernel, rfl, by decide +kernel, by decide +kernel⟩
theorem ok__law_pen {f : Addr} {fd : FuncData} (n : Nat) (T : Tx K G mg) (F : FunD K "_law_pen" "_law_pen" (defArgs s__law_pen) (defBody s__law_pen) (defScope s__law_pen) [] [] f fd) : FnG P w K mg base (CX P w) 1 f fd ["script"] (FSp K G [] ["script"].length (f__law_pen n)) := by
  refine fn_ok (k := 0) F sc__law_pen (m := 0) rfl fun cdv A outer s H E hr hgd => ?_
  have hgd : (A.deeper (envOfC "_law_pen" (defScope s__law_pen) s.heap.objs.size f cdv)).guards = some [] := hgd
  exact jb_one (js_retL (JN.jl (jn_lst (ja_cons (JL.je (JN.jl (jn_callTy cn_list (by rfl) T.f_list (by decide +kernel) (jls_cons (jp_v (je_sl (jp_var (i := 0) rfl (.inl rfl)) (jo_none) (jo_some (je_int)))) (jls_nil))))) (ja_cons (je_int) (ja_cons (je_int) (ja_nil)))))))
abbrev s__law_draw : Stmt := top 16
theorem sc__law_draw : FnScope ["pen", "many", "at", "cell", "mixed", "digit", "great"] ["pen", "many"] (defScope s__law_draw) := ⟨rfl, rfl, rfl, by decide +kernel, rfl, by decide +kernel, by decide +kernel⟩
theorem ok__law_draw {f : Addr} {fd : FuncData} (n : Nat) (T : Tx K G mg) (F : FunD K "_law_draw" "_law_draw" (defArgs s__law_draw) (defBody s__law_draw) (defScope s__law_draw) [] [] f fd) : FnG P w K mg base (CX P w) 1 f fd ["pen", "many"] (FSp K G [0] ["pen", "many"].length (f__law_draw n)) := by
  refine fn_ok (k := 0) F sc__law_draw (m := 5) rfl fun cdv A outer s H E hr hgd => ?_
  have hgd : (A.deeper (envOfC "_law_draw" (defScope s__law_draw) s.heap.objs.size f cdv)).guards = some [] := hgd
  exact jb_cons (js_if (jt_cmp od_gt (by rfl) (jp_v (je_ix (jp_var (i := 0) rfl (.inl rfl)) (jp_v (je_int)) (fun _ _ => rfl))) (jp_v (je_int))) (jb_cons (js_set (i := 5) (je_op od_mod (jp_v (je_callTy cd_int (by rfl) T.f_int (by decide +kernel) (jls_cons (jp_v (je_ix (jp_var (i := 0) rfl (.inl rfl)) (jp_v (je_int)) (fun _ _ => rfl))) (jls_nil)))) (jp_var (i := 1) rfl (.inl rfl))) sc__law_draw.nd rfl (.inl rfl))
      (jb_cons (js_setI (i := 0) rfl (.inl rfl) (je_op od_fdiv (jp_v (je_callTy cd_int (by rfl) T.f_int (by decide +kernel) (jls_cons (jp_v (je_ix (jp_var (i := 0) rfl (.inl rfl)) (jp_v (je_int)) (fun _ _ => rfl))) (jls_nil)))) (jp_var (i := 1) rfl (.inl rfl))) (je_int))
      (jb_one (js_ret (je_var (i := 5) rfl (.inl rfl)))))) (jb_nil))
      (jb_cons (js_set (i := 2) (je_ix (jp_var (i := 0) rfl (.inl rfl)) (jp_v (je_int)) (fun _ _ => rfl)) sc__law_draw.nd rfl (.inl rfl))
      (jb_cons (js_setI (i := 0) rfl (.inl rfl) (je_op od_add (jp_var (i := 2) rfl (.inl rfl)) (jp_v (je_int))) (je_int))
      (jb_cons (js_set (i := 3) (je_op od_add (jp_v (je_op od_mul (jp_v (je_int)) (jp_var (i := 2) rfl (.inl rfl)))) (jp_v (je_int))) sc__law_draw.nd rfl (.inl rfl))
      (jb_cons (js_if (jt_cmp (od_ne (hu64 hr)) (by rfl) (jp_v (je_ix (jp_var (i := 0) rfl (.inl rfl)) (jp_v (je_int)) (fun _ _ => rfl))) (jp_v (JL.je (JN.jl (jn_lst (ja_nil)))))) (jb_one (js_set (i := 3) (je_ix (jp_v (je_ix (jp_var (i := 0) rfl (.inl rfl)) (jp_v (je_int)) (fun _ _ => rfl))) (jp_v (je_op od_mod (jp_v (je_callTy cd_int (by rfl) T.f_int (by decide +kernel) (jls_cons (jp_var (i := 2) rfl (.inl rfl)) (jls_nil)))) (jp_v (je_callB cd_len (by rfl) T.f_len (by decide +kernel) (jls_cons (jp_v (je_ix (jp_var (i := 0) rfl (.inl rfl)) (jp_v (je_int)) (fun _ _ => rfl))) (jls_nil)))))) (fun _ _ => rfl)) sc__law_draw.nd rfl (.inl rfl))) (jb_nil))
      (jb_cons (js_if (JW.jt (jw_and (jt_cmp od_lt (by rfl) (jp_var (i := 2) rfl (.inl rfl)) (jp_v (je_callB cd_len (by rfl) T.f_len (by decide +kernel) (jls_cons (jp_v (je_ix (jp_var (i := 0) rfl (.inl rfl)) (jp_v (je_int)) (fun _ _ => rfl))) (jls_nil))))) (jw_and1 (jt_cmp od_ge (by rfl) (jp_v (je_callB cd_abs (by rfl) T.f_abs (by decide +kernel) (jls_cons (jp_var (i := 3) rfl (.inl rfl)) (jls_nil)))) (jp_v (je_op od_pow (jp_v (je_int)) (jp_v (je_int)))))))) (jb_cons (js_set (i := 6) (je_op od_add (jp_v (je_op od_mul (jp_v (je_int)) (jp_v (je_op od_sub (jp_v (je_callB cd_abs (by rfl) T.f_abs (by decide +kernel) (jls_cons (jp_var (i := 3) rfl (.inl rfl)) (jls_nil)))) (jp_v (je_op od_pow (jp_v (je_int)) (jp_v (je_int)))))))) (jp_v (je_callTy cd_int (by rfl) T.f_int (by decide +kernel) (jls_cons (jp_v (je_cmp od_lt (by rfl) (jp_var (i := 3) rfl (.inl rfl)) (jp_v (je_int)))) (jls_nil))))) sc__law_draw.nd rfl (.inl rfl))
      (jb_cons (js_setI (i := 0) rfl (.inl rfl) (je_op od_fdiv (jp_v (je_callTy cd_int (by rfl) T.f_int (by decide +kernel) (jls_cons (jp_var (i := 6) rfl (.inl rfl)) (jls_nil)))) (jp_var (i := 1) rfl (.inl rfl))) (je_int))
      (jb_one (js_ret (je_op od_mod (jp_v (je_callTy cd_int (by rfl) T.f_int (by decide +kernel) (jls_cons (jp_var (i := 6) rfl (.inl rfl)) (jls_nil)))) (jp_var (i := 1) rfl (.inl rfl))))))) (jb_nil))
      (jb_cons (js_set (i := 4) (je_op od_mod (jp_v (je_callTy cd_int (by rfl) T.f_int (by decide +kernel) (jls_cons (jp_v (je_op od_pow (jp_v (je_op od_add (jp_v (je_op od_add (jp_v (je_op od_mod (jp_v (je_callTy cd_int (by rfl) T.f_int (by decide +kernel) (jls_cons (jp_var (i := 3) rfl (.inl rfl)) (jls_nil)))) (jp_v (je_int)))) (jp_v (je_op od_mul (jp_v (je_int)) (jp_var (i := 2) rfl (.inl rfl)))))) (jp_v (je_int)))) (jp_v (je_int)))) (jls_nil)))) (jp_v (je_int))) sc__law_draw.nd rfl (.inl rfl))
      (jb_cons (js_set (i := 4) (je_op od_mod (jp_v (je_callTy cd_int (by rfl) T.f_int (by decide +kernel) (jls_cons (jp_v (je_op od_pow (jp_v (je_op od_add (jp_v (je_op od_add (jp_v (je_op od_mul (jp_var (i := 4) rfl (.inl rfl)) (jp_v (je_op od_add (jp_v (je_op od_mul (jp_v (je_int)) (jp_var (i := 2) rfl (.inl rfl)))) (jp_v (je_int)))))) (jp_v (je_op od_mul (jp_v (je_op od_mul (jp_v (je_int)) (jp_var (i := 2) rfl (.inl rfl)))) (jp_var (i := 2) rfl (.inl rfl)))))) (jp_v (je_int)))) (jp_v (je_int)))) (jls_nil)))) (jp_v (je_int))) sc__law_draw.nd rfl (.inl rfl))
      (jb_one (js_ret (je_op od_mod (jp_v (je_callTy cd_int (by rfl) T.f_int (by decide +kernel) (jls_cons (jp_v (je_op od_fdiv (jp_var (i := 4) rfl (.inl rfl)) (jp_v (je_int)))) (jls_nil)))) (jp_var (i := 1) rfl (.inl rfl))))))))))))
abbrev s__law_pick : Stmt := top 17
theorem sc__law_pick : FnScope ["pen", "some"] ["pen", "some"] (defScope s__law_pick) := ⟨rfl, rfl, rfl, by decide +kernel, rfl, by decide +kernel, by decide +kernel⟩
theorem ok__law_pick {f : Addr} {fd : FuncData} (n : Nat) (T : Tx K G mg) (F : FunD K "_law_pick" "_law_pick" (defArgs s__law_pick) (defBody s__law_pick) (defScope s__law_pick) [] [] f fd) (D__law_draw : Df P w K G mg base "_law_draw" [0] ["pen", "many"] 1 (f__law_draw n)) : FnG P w K mg base (CX P w) 2 f fd ["pen", "some"] (FSp K G [0] ["pen", "some"].length (f__law_pick n)) := by
  refine fn_ok (k := 1) F sc__law_pick (m := 0) rfl fun cdv A outer s H E hr hgd => ?_
  have hgd : (A.deeper (envOfC "_law_pick" (defScope s__law_pick) s.heap.objs.size f cdv)).guards = some [] := hgd
  exact jb_one (js_ret (je_ix (jp_var (i := 1) rfl (.inl rfl)) (jp_v (je_cDP (i := 0) D__law_draw hr (by decide) hgd (by rfl) (takes_of rfl rfl rfl rfl) rfl (.inl rfl) (ja_cons (je_callB cd_len (by rfl) T.f_len (by decide +kernel) (jls_cons (jp_var (i := 1) rfl (.inl rfl)) (jls_nil))) (ja_nil)) (len_cons len_nil) rfl)) (fun _ _ => rfl)))
abbrev s__law_base : Stmt := top 18
theorem sc__law_base : FnScope ["row"] ["row"] (defScope s__law_base) := ⟨rfl, rfl, rfl, by decide +kernel, rfl, by decide +kernel, by decide +kernel⟩
theorem ok__law_base {f : Addr} {fd : FuncData} (n : Nat) (T : Tx K G mg) (F : FunD K "_law_base" "_law_base" (defArgs s__law_base) (defBody s__law_base) (defScope s__law_base) [] [] f fd) : FnG P w K mg base (CX P w) 1 f fd ["row"] (FSp K G [] ["row"].length (f__law_base n)) := by
  refine fn_ok (k := 0) F sc__law_base (m := 0) rfl fun cdv A outer s H E hr hgd => ?_
  have hgd : (A.deeper (envOfC "_law_base" (defScope s__law_base) s.heap.objs.size f cdv)).guards = some [] := hgd
  exact jb_cons (js_while n (passes_of rfl) (jt_cmp (od_notIn (hu65 hr)) (by rfl) (jp_v (je_ix (jp_var (i := 0) rfl (.inl rfl)) (jp_v (je_int)) (fun _ _ => rfl))) (jp_v (je_tup (ja_cons (je_str) (ja_cons (je_str) (ja_nil)))))) (jb_one (js_set (i := 0) (je_if (jt_cmp (od_eq (hu64 hr)) (by rfl) (jp_v (je_ix (jp_var (i := 0) rfl (.inl rfl)) (jp_v (je_int)) (fun _ _ => rfl))) (jp_v (je_str))) (je_ix (jp_var (i := 0) rfl (.inl rfl)) (jp_v (je_int)) (fun _ _ => rfl)) (je_ix (jp_var (i := 0) rfl (.inl rfl)) (jp_v (je_int)) (fun _ _ => rfl))) sc__law_base.nd rfl (.inl rfl))))
      (jb_one (js_ret (je_var (i := 0) rfl (.inl rfl))))
abbrev s__law_name : Stmt := top 19
theorem sc__law_name : FnScope ["row", "base", "sides"] ["row"] (defScope s__law_name) := ⟨rfl, rfl, rfl, by decide +kernel, rfl, by decide +kernel, by decide +kernel⟩
theorem ok__law_name {f : Addr} {fd : FuncData} (n : Nat) (T : Tx K G mg) (F : FunD K "_law_name" "_law_name" (defArgs s__law_name) (defBody s__law_name) (defScope s__law_name) [] [] f fd) (D__law_base : Df P w K G mg base "_law_base" [] ["row"] 1 (f__law_base n)) : FnG P w K mg base (CX P w) 2 f fd ["row"] (FSp K G [] ["row"].length (f__law_name n)) := by
  refine fn_ok (k := 1) F sc__law_name (m := 2) rfl fun cdv A outer s H E hr hgd => ?_
  have hgd : (A.deeper (envOfC "_law_name" (defScope s__law_name) s.heap.objs.size f cdv)).guards = some [] := hgd
  exact jb_cons (js_par2 (i := 1) (j := 2) (by rfl) sc__law_name.nd rfl rfl (by decide) rfl rfl (jm_va (je_cD D__law_base hr (by decide) hgd (by rfl) (takes_of rfl rfl rfl rfl) (ja_cons (je_var (i := 0) rfl (.inl rfl)) (ja_nil)) (len_cons len_nil) rfl) (jm_va (JL.je (JN.jl (jn_lst (ja_nil)))) (jm_nil))))
      (jb_cons (js_while n (passes_of rfl) (jt_cmp (od_notIn (hu65 hr)) (by rfl) (jp_v (je_ix (jp_var (i := 0) rfl (.inl rfl)) (jp_v (je_int)) (fun _ _ => rfl))) (jp_v (je_tup (ja_cons (je_str) (ja_cons (je_str) (ja_nil)))))) (jb_cons (js_set (i := 2) (je_op od_add (jp_v (je_if (jt_cmp (od_eq (hu64 hr)) (by rfl) (jp_v (je_ix (jp_var (i := 0) rfl (.inl rfl)) (jp_v (je_int)) (fun _ _ => rfl))) (jp_v (je_str))) (JL.je (JN.jl (jn_lst (ja_cons (je_tup (ja_cons (je_ix (jp_var (i := 0) rfl (.inl rfl)) (jp_v (je_int)) (fun _ _ => rfl)) (ja_cons (je_ix (jp_var (i := 0) rfl (.inl rfl)) (jp_v (je_int)) (fun _ _ => rfl)) (ja_nil)))) (ja_nil))))) (JL.je (JN.jl (jn_lst (ja_nil)))))) (jp_var (i := 2) rfl (.inl rfl))) sc__law_name.nd rfl (.inl rfl))
      (jb_one (js_set (i := 0) (je_if (jt_cmp (od_eq (hu64 hr)) (by rfl) (jp_v (je_ix (jp_var (i := 0) rfl (.inl rfl)) (jp_v (je_int)) (fun _ _ => rfl))) (jp_v (je_str))) (je_ix (jp_var (i := 0) rfl (.inl rfl)) (jp_v (je_int)) (fun _ _ => rfl)) (je_ix (jp_var (i := 0) rfl (.inl rfl)) (jp_v (je_int)) (fun _ _ => rfl))) sc__law_name.nd rfl (.inl rfl)))))
      (jb_one (js_ret (je_tup (ja_cons (je_ix (jp_var (i := 1) rfl (.inl rfl)) (jp_v (je_int)) (fun _ _ => rfl)) (ja_cons (je_if (jt_cmp (od_eq (hu64 hr)) (by rfl) (jp_v (je_ix (jp_var (i := 1) rfl (.inl rfl)) (jp_v (je_int)) (fun _ _ => rfl))) (jp_v (je_str))) (je_ix (jp_var (i := 1) rfl (.inl rfl)) (jp_v (je_int)) (fun _ _ => rfl)) (je_op od_sub (jp_v (je_callB cd_len (by rfl) T.f_len (by decide +kernel) (jls_cons (jp_v (je_ix (jp_var (i := 1) rfl (.inl rfl)) (jp_v (je_int)) (fun _ _ => rfl))) (jls_nil)))) (jp_v (je_int)))) (ja_cons (je_callTy cd_tuple (by rfl) T.f_tuple (by decide +kernel) (jls_cons (jp_var (i := 2) rfl (.inl rfl)) (jls_nil))) (ja_nil))))))))
abbrev s__law_within : Stmt := top 20
theorem sc__law_within : FnScope ["rows", "found", "line", "row"] ["rows"] (defScope s__law_within) := ⟨rfl, rfl, rfl, by decide +kernel, rfl, by decide +kernel, by decide +kernel⟩
theorem ok__law_within {f : Addr} {fd : FuncData} (n : Nat) (T : Tx K G mg) (F : FunD K "_law_within" "_law_within" (defArgs s__law_within) (defBody s__law_within) (defScope s__law_within) [] [] f fd) : FnG P w K mg base (CX P w) 1 f fd ["rows"] (FSp K G [] ["rows"].length (f__law_within n)) := by
  refine fn_ok (k := 0) F sc__law_within (m := 3) rfl fun cdv A outer s H E hr hgd => ?_
  have hgd : (A.deeper (envOfC "_law_within" (defScope s__law_within) s.heap.objs.size f cdv)).guards = some [] := hgd
  exact jb_cons (js_par2 (i := 1) (j := 2) (by rfl) sc__law_within.nd rfl rfl (by decide) rfl rfl (jm_ow (JN.jl (jn_lst (ja_nil))) (jm_ow (JN.jl (jn_callTy cn_list (by rfl) T.f_list (by decide +kernel) (jls_cons (jp_var (i := 0) rfl (.inl rfl)) (jls_nil)))) (jm_nil))))
      (jb_cons (js_while n (passes_of rfl) (jt_cmp (od_ne (hu64 hr)) (by rfl) (jp_var (i := 2) rfl (.inl rfl)) (jp_v (JL.je (JN.jl (jn_lst (ja_nil)))))) (jb_cons (js_set (i := 3) (je_popAt (i := 2) rfl (.inl rfl) (je_int)) sc__law_within.nd rfl (.inl rfl))
      (jb_one (js_if (jt_cmp (od_notIn (hu65 hr)) (by rfl) (jp_var (i := 3) rfl (.inl rfl)) (jp_var (i := 1) rfl (.inl rfl))) (jb_cons (js_expr (je_append (i := 1) rfl (.inl rfl) (je_var (i := 3) rfl (.inl rfl))))
      (jb_one (js_if (jt_cmp (od_eq (hu64 hr)) (by rfl) (jp_v (je_ix (jp_var (i := 3) rfl (.inl rfl)) (jp_v (je_int)) (fun _ _ => rfl))) (jp_v (je_str))) (jb_one (js_own (i := 2) (JN.jl (jn_cat (jp_v (je_op od_add (jp_var (i := 2) rfl (.inl rfl)) (jp_v (JL.je (JN.jl (jn_lst (ja_cons (je_ix (jp_v (je_ix (jp_var (i := 3) rfl (.inl rfl)) (jp_v (je_int)) (fun _ _ => rfl))) (jp_v (je_neg (je_int))) (fun _ _ => rfl)) (ja_nil)))))))) (jp_v (je_if (jt_cmp od_gt (by rfl) (jp_v (je_callB cd_len (by rfl) T.f_len (by decide +kernel) (jls_cons (jp_v (je_ix (jp_var (i := 3) rfl (.inl rfl)) (jp_v (je_int)) (fun _ _ => rfl))) (jls_nil)))) (jp_v (je_int))) (JL.je (JN.jl (jn_lst (ja_cons (je_tup (ja_cons (je_str) (ja_cons (je_ix (jp_var (i := 3) rfl (.inl rfl)) (jp_v (je_int)) (fun _ _ => rfl)) (ja_cons (je_sl (jp_v (je_ix (jp_var (i := 3) rfl (.inl rfl)) (jp_v (je_int)) (fun _ _ => rfl))) (jo_none) (jo_some (je_neg (je_int)))) (ja_nil))))) (ja_nil))))) (JL.je (JN.jl (jn_lst (ja_nil)))))))) sc__law_within.nd rfl (.inl rfl))) (jb_one (js_if (jt_cmp (od_ne (hu64 hr)) (by rfl) (jp_v (je_ix (jp_var (i := 3) rfl (.inl rfl)) (jp_v (je_int)) (fun _ _ => rfl))) (jp_v (je_str))) (jb_one (js_expr (je_append (i := 2) rfl (.inl rfl) (je_if (jt_cmp (od_eq (hu64 hr)) (by rfl) (jp_v (je_ix (jp_var (i := 3) rfl (.inl rfl)) (jp_v (je_int)) (fun _ _ => rfl))) (jp_v (je_str))) (je_ix (jp_var (i := 3) rfl (.inl rfl)) (jp_v (je_int)) (fun _ _ => rfl)) (je_ix (jp_var (i := 3) rfl (.inl rfl)) (jp_v (je_int)) (fun _ _ => rfl)))))) (jb_nil)))))) (jb_nil)))))
      (jb_one (js_retO (i := 1) rfl (.inl rfl))))
abbrev s__law_drawn_row : Stmt := top 21
theorem sc__law_drawn_row : FnScope ["pen", "deep", "way", "inner", "lap"] ["pen", "deep"] (defScope s__law_drawn_row) := ⟨rfl, rfl, rfl, by decide +kernel, rfl, by decide +kernel, by decide +kernel⟩
theorem ok__law_drawn_row {f : Addr} {fd : FuncData} (n j : Nat) (T : Tx K G mg) (F : FunD K "_law_drawn_row" "_law_drawn_row" (defArgs s__law_drawn_row) (defBody s__law_drawn_row) (defScope s__law_drawn_row) [] [] f fd) (Drec : Df P w K G mg base "_law_drawn_row" [0] ["pen", "deep"] (2 + j) (r__law_drawn_row n j)) (D__law_draw : Df P w K G mg base "_law_draw" [0] ["pen", "many"] 1 (f__law_draw n)) (D__law_pick : Df P w K G mg base "_law_pick" [0] ["pen", "some"] 2 (f__law_pick n)) : FnG P w K mg base (CX P w) (2 + (j + 1)) f fd ["pen", "deep"] (FSp K G [0] ["pen", "deep"].length (r__law_drawn_row n (j + 1))) := by
  refine fn_ok (k := 2 + j) F sc__law_drawn_row (m := 3) rfl fun cdv A outer s H E hr hgd => ?_
  have hgd : (A.deeper (envOfC "_law_drawn_row" (defScope s__law_drawn_row) s.heap.objs.size f cdv)).guards = some [] := hgd
  exact jb_cons (js_set (i := 2) (je_if (jt_cmp od_gt (by rfl) (jp_var (i := 1) rfl (.inr (.inl rfl))) (jp_v (je_int))) (je_cDP (i := 0) D__law_draw hr (by omega) hgd (by rfl) (takes_of rfl rfl rfl rfl) rfl (.inr (.inl rfl)) (ja_cons (je_int) (ja_nil)) (len_cons len_nil) rfl) (je_int)) sc__law_drawn_row.nd rfl (.inl rfl))
      (jb_cons (js_if (jt_cmp od_lt (by rfl) (jp_var (i := 2) rfl (.inl rfl)) (jp_v (je_int))) (jb_one (js_ret (je_tup (ja_cons (je_str) (ja_cons (je_cDP (i := 0) D__law_pick hr (by omega) hgd (by rfl) (takes_of rfl rfl rfl rfl) rfl (.inr (.inl rfl)) (ja_cons (JL.je (JN.jl (jn_lst (ja_cons (je_str) (ja_cons (je_str) (ja_cons (je_str) (ja_nil))))))) (ja_nil)) (len_cons len_nil) rfl) (ja_cons (je_cDP (i := 0) D__law_draw hr (by omega) hgd (by rfl) (takes_of rfl rfl rfl rfl) rfl (.inr (.inl rfl)) (ja_cons (je_int) (ja_nil)) (len_cons len_nil) rfl) (ja_nil))))))) (jb_nil))
      (jb_cons (js_set (i := 3) (je_cDP (i := 0) Drec hr (by omega) hgd (by rfl) (takes_of rfl rfl rfl rfl) rfl (.inr (.inl rfl)) (ja_cons (je_op od_sub (jp_var (i := 1) rfl (.inr (.inl rfl))) (jp_v (je_int))) (ja_nil)) (len_cons len_nil) rfl) sc__law_drawn_row.nd rfl (.inl rfl))
      (jb_cons (js_if (jt_cmp od_lt (by rfl) (jp_var (i := 2) rfl (.inl rfl)) (jp_v (je_int))) (jb_one (js_ret (je_tup (ja_cons (je_str) (ja_cons (je_cDP (i := 0) D__law_pick hr (by omega) hgd (by rfl) (takes_of rfl rfl rfl rfl) rfl (.inr (.inl rfl)) (ja_cons (JL.je (JN.jl (jn_lst (ja_cons (je_str) (ja_cons (je_str) (ja_nil)))))) (ja_nil)) (len_cons len_nil) rfl) (ja_cons (je_var (i := 3) rfl (.inl rfl)) (ja_nil))))))) (jb_nil))
      (jb_cons (js_if (jt_cmp (od_eq (hu64 hr)) (by rfl) (jp_var (i := 2) rfl (.inl rfl)) (jp_v (je_int))) (jb_one (js_ret (je_tup (ja_cons (je_str) (ja_cons (je_cDP (i := 0) D__law_pick hr (by omega) hgd (by rfl) (takes_of rfl rfl rfl rfl) rfl (.inr (.inl rfl)) (ja_cons (JL.je (JN.jl (jn_lst (ja_cons (je_str) (ja_cons (je_str) (ja_nil)))))) (ja_nil)) (len_cons len_nil) rfl) (ja_cons (je_var (i := 3) rfl (.inl rfl)) (ja_cons (je_cDP (i := 0) D__law_draw hr (by omega) hgd (by rfl) (takes_of rfl rfl rfl rfl) rfl (.inr (.inl rfl)) (ja_cons (je_int) (ja_nil)) (len_cons len_nil) rfl) (ja_nil)))))))) (jb_nil))
      (jb_cons (js_if (jt_cmp od_lt (by rfl) (jp_var (i := 2) rfl (.inl rfl)) (jp_v (je_int))) (jb_one (js_ret (je_tup (ja_cons (je_str) (ja_cons (je_cDP (i := 0) D__law_pick hr (by omega) hgd (by rfl) (takes_of rfl rfl rfl rfl) rfl (.inr (.inl rfl)) (ja_cons (JL.je (JN.jl (jn_lst (ja_cons (je_str) (ja_cons (je_str) (ja_nil)))))) (ja_nil)) (len_cons len_nil) rfl) (ja_cons (je_cDP (i := 0) D__law_draw hr (by omega) hgd (by rfl) (takes_of rfl rfl rfl rfl) rfl (.inr (.inl rfl)) (ja_cons (je_int) (ja_nil)) (len_cons len_nil) rfl) (ja_cons (je_var (i := 3) rfl (.inl rfl)) (ja_nil)))))))) (jb_nil))
      (jb_one (js_ret (je_tup (ja_cons (je_str) (ja_cons (je_cDP (i := 0) D__law_pick hr (by omega) hgd (by rfl) (takes_of rfl rfl rfl rfl) rfl (.inr (.inl rfl)) (ja_cons (JL.je (JN.jl (jn_lst (ja_cons (je_str) (ja_cons (je_str) (ja_nil)))))) (ja_nil)) (len_cons len_nil) rfl) (ja_cons (je_op od_add (jp_v (je_callTy cd_tuple (by rfl) T.f_tuple (by decide +kernel) (jls_cons (jp_v (JL.je (jl_comp (own := [("lap", 4)]) (by rfl) sc__law_drawn_row.nd (ji_rg1 (by rfl) T.f_range (ja_cons (je_cDP (i := 0) D__law_draw hr (by omega) hgd (by rfl) (takes_of rfl rfl rfl rfl) rfl (.inr (.inl rfl)) (ja_cons (je_int) (ja_nil)) (len_cons len_nil) rfl) (ja_nil))) (blkOk_by (own := [("lap", 4)]) (N := ["pen", "deep", "way", "inner", "lap"]) (sc := defScope s__law_drawn_row) (by decide +kernel)) (fun _ _ _ _ _ => jg_name (i := 4) sc__law_drawn_row.nd rfl (.inl rfl) (.inr rfl)) (fun _ _ _ _ _ => jts_nil) (fun _ _ _ _ _ => je_cDP (i := 0) Drec hr (by omega) hgd (by rfl) takes0 rfl (.inr (.inl rfl)) (ja_cons (je_op od_sub (jp_var (i := 1) rfl (.inr (.inl rfl))) (jp_v (je_int))) (ja_nil)) (len_cons len_nil) rfl) (by decide)))) (jls_nil)))) (jp_v (je_tup (ja_cons (je_var (i := 3) rfl (.inl rfl)) (ja_nil))))) (ja_nil))))))))))))
abbrev s_law : Stmt := top 22
theorem sc_law : FnScope ["script", "pen", "turn", "chain", "at", "long", "rows", "row", "some", "lap"] ["script"] (defScope s_law) := ⟨rfl, rfl, rfl, by decide +kernel, rfl, by decide +kernel, by decide +kernel⟩
theorem ok_law {f : Addr} {fd : FuncData} (n : Nat) (T : Tx K G mg) (F : FunD K "law" "law" (defArgs s_law) (defBody s_law) (defScope s_law) [] [] f fd) (D_name_of : Df P w K G mg base "name_of" [] ["row"] 3 (f_name_of n)) (D_place_of : Df P w K G mg base "place_of" [] ["row"] 4 (f_place_of n)) (D_within : Df P w K G mg base "within" [] ["rows"] 5 (f_within n)) (D__law_pen : Df P w K G mg base "_law_pen" [] ["script"] 1 (f__law_pen n)) (D__law_draw : Df P w K G mg base "_law_draw" [0] ["pen", "many"] 1 (f__law_draw n)) (D__law_name : Df P w K G mg base "_law_name" [] ["row"] 2 (f__law_name n)) (D__law_within : Df P w K G mg base "_law_within" [] ["rows"] 1 (f__law_within n)) (D__law_drawn_row : Df P w K G mg base "_law_drawn_row" [0] ["pen", "deep"] 8 (f__law_drawn_row n)) : FnG P w K mg base (CX P w) 9 f fd ["script"] (FSp K G [] ["script"].length (f_law n)) := by
  refine fn_ok (k := 8) F sc_law (m := 9) rfl fun cdv A outer s H E hr hgd => ?_
  have hgd : (A.deeper (envOfC "law" (defScope s_law) s.heap.objs.size f cdv)).guards = some [] := hgd
  exact jb_cons (js_own (i := 1) (jl_cD D__law_pen hr (by decide) hgd (by rfl) (takes_of rfl rfl rfl rfl) (ja_cons (je_var (i := 0) rfl (.inl rfl)) (ja_nil)) (len_cons len_nil) rfl) sc_law.nd rfl (.inr rfl))
      (jb_cons (js_for (passes_of rfl) (by rfl) (ji_rg1 (by rfl) T.f_range (ja_cons (je_int) (ja_nil))) (jg_name (i := 2) sc_law.nd rfl (.inl rfl) (by exact .inl rfl)) (jb_cons (js_compV (i := 6) (own := [("lap", 9)]) (by rfl) sc_law.nd (ji_rg1 (by rfl) T.f_range (ja_cons (je_op od_add (jp_v (je_int)) (jp_v (je_cDP (i := 1) D__law_draw hr (by decide) hgd (by rfl) (takes_of rfl rfl rfl rfl) rfl (.inr (.inl rfl)) (ja_cons (je_int) (ja_nil)) (len_cons len_nil) rfl))) (ja_nil))) (blkOk_by (own := [("lap", 9)]) (N := ["script", "pen", "turn", "chain", "at", "long", "rows", "row", "some", "lap"]) (sc := defScope s_law) (by decide +kernel)) (fun _ _ _ _ _ => jg_name (i := 9) sc_law.nd rfl (.inl rfl) (.inr rfl)) (fun _ _ _ _ _ => jts_nil) (fun _ _ _ _ _ => je_cDP (i := 1) D__law_drawn_row hr (by decide) hgd (by rfl) takes0 rfl (.inr (.inl rfl)) (ja_cons (je_int) (ja_nil)) (len_cons len_nil) rfl) (by decide) rfl rfl (sw_true rfl rfl rfl (by decide +kernel)))
      (jb_cons (js_for (passes_of rfl) (by rfl) (ji_val (je_var (i := 6) rfl (.inl rfl))) (jg_name (i := 7) sc_law.nd rfl (.inl rfl) (by exact .inl rfl)) (jb_one (js_if (JW.jt (jw_or (jt_cmp (od_ne (hu64 hr)) (by rfl) (jp_v (je_callB (cd_repr hgd (hu66 hr)) (by rfl) T.f_repr (by decide +kernel) (jls_cons (jp_v (je_cD D_name_of hr (by decide) hgd (by rfl) (takes_of rfl rfl rfl rfl) (ja_cons (je_var (i := 7) rfl (.inl rfl)) (ja_nil)) (len_cons len_nil) rfl)) (jls_nil)))) (jp_v (je_callB (cd_repr hgd (hu66 hr)) (by rfl) T.f_repr (by decide +kernel) (jls_cons (jp_v (je_cD D__law_name hr (by decide) hgd (by rfl) (takes_of rfl rfl rfl rfl) (ja_cons (je_var (i := 7) rfl (.inl rfl)) (ja_nil)) (len_cons len_nil) rfl)) (jls_nil))))) (jw_or (jt_cmp (od_ne (hu64 hr)) (by rfl) (jp_v (je_callB (cd_repr hgd (hu66 hr)) (by rfl) T.f_repr (by decide +kernel) (jls_cons (jp_v (je_cD D_place_of hr (by decide) hgd (by rfl) (takes_of rfl rfl rfl rfl) (ja_cons (je_var (i := 7) rfl (.inl rfl)) (ja_nil)) (len_cons len_nil) rfl)) (jls_nil)))) (jp_v (je_callB (cd_repr hgd (hu66 hr)) (by rfl) T.f_repr (by decide +kernel) (jls_cons (jp_v (je_tup (ja_cons (je_ix (jp_var (i := 7) rfl (.inl rfl)) (jp_v (je_int)) (fun _ _ => rfl)) (ja_cons (je_cD D__law_name hr (by decide) hgd (by rfl) (takes_of rfl rfl rfl rfl) (ja_cons (je_var (i := 7) rfl (.inl rfl)) (ja_nil)) (len_cons len_nil) rfl) (ja_nil))))) (jls_nil))))) (jw_or (jt_cmp (od_ne (hu64 hr)) (by rfl) (jp_v (je_cDK D_name_of hr (by decide) hgd (by rfl) (takes_of rfl rfl rfl rfl) (jk_cons (je_var (i := 7) rfl (.inl rfl)) (jk_nil)) (len_cons len_nil) rfl)) (jp_v (je_cD D_name_of hr (by decide) hgd (by rfl) (takes_of rfl rfl rfl rfl) (ja_cons (je_var (i := 7) rfl (.inl rfl)) (ja_nil)) (len_cons len_nil) rfl))) (jw_or1 (jt_cmp (od_ne (hu64 hr)) (by rfl) (jp_v (je_cDK D_place_of hr (by decide) hgd (by rfl) (takes_of rfl rfl rfl rfl) (jk_cons (je_var (i := 7) rfl (.inl rfl)) (jk_nil)) (len_cons len_nil) rfl)) (jp_v (je_cD D_place_of hr (by decide) hgd (by rfl) (takes_of rfl rfl rfl rfl) (ja_cons (je_var (i := 7) rfl (.inl rfl)) (ja_nil)) (len_cons len_nil) rfl)))))))) (jb_one (js_ret (je_bl))) (jb_nil))))
      (jb_cons (js_set (i := 8) (je_cD D_within hr (by decide) hgd (by rfl) (takes_of rfl rfl rfl rfl) (ja_cons (je_var (i := 6) rfl (.inl rfl)) (ja_nil)) (len_cons len_nil) rfl) sc_law.nd rfl (.inl rfl))
      (jb_cons (js_if (JW.jt (jw_or (jt_not (jt_val (je_isi (by rfl) T.f_isinstance (by rfl) T.f_tuple (by decide +kernel) (jp_var (i := 8) rfl (.inl rfl))))) (jw_or1 (jt_cmp (od_ne (hu64 hr)) (by rfl) (jp_v (JL.je (JN.jl (jn_callB (cn_sorted (hu66 hr)) (by rfl) T.f_sorted (by decide +kernel) (jls_cons (jp_v (JL.je (jl_comp (own := [("row", 7)]) (by rfl) sc_law.nd (ji_val (je_var (i := 8) rfl (.inl rfl))) (blkOk_by (own := [("row", 7)]) (N := ["script", "pen", "turn", "chain", "at", "long", "rows", "row", "some", "lap"]) (sc := defScope s_law) (by decide +kernel)) (fun _ _ _ _ _ => jg_name (i := 7) sc_law.nd rfl (.inl rfl) (.inr rfl)) (fun _ _ _ _ _ => jts_nil) (fun _ _ _ _ _ => je_callB (cd_repr hgd (hu66 hr)) (by rfl) T.f_repr (by decide +kernel) (jls_cons (jp_var (i := 7) rfl (.inl rfl)) (jls_nil))) (by decide)))) (jls_nil)))))) (jp_v (JL.je (JN.jl (jn_callB (cn_sorted (hu66 hr)) (by rfl) T.f_sorted (by decide +kernel) (jls_cons (jp_v (JL.je (jl_comp (own := [("row", 7)]) (by rfl) sc_law.nd (ji_val (je_cD D__law_within hr (by decide) hgd (by rfl) (takes_of rfl rfl rfl rfl) (ja_cons (je_var (i := 6) rfl (.inl rfl)) (ja_nil)) (len_cons len_nil) rfl)) (blkOk_by (own := [("row", 7)]) (N := ["script", "pen", "turn", "chain", "at", "long", "rows", "row", "some", "lap"]) (sc := defScope s_law) (by decide +kernel)) (fun _ _ _ _ _ => jg_name (i := 7) sc_law.nd rfl (.inl rfl) (.inr rfl)) (fun _ _ _ _ _ => jts_nil) (fun _ _ _ _ _ => je_callB (cd_repr hgd (hu66 hr)) (by rfl) T.f_repr (by decide +kernel) (jls_cons (jp_var (i := 7) rfl (.inl rfl)) (jls_nil))) (by decide)))) (jls_nil)))))))))) (jb_one (js_ret (je_bl))) (jb_nil))
      (jb_one (js_if (jt_cmp (od_ne (hu64 hr)) (by rfl) (jp_v (JL.je (JN.jl (jn_callB (cn_sorted (hu66 hr)) (by rfl) T.f_sorted (by decide +kernel) (jls_cons (jp_v (JL.je (jl_comp (own := [("row", 7)]) (by rfl) sc_law.nd (ji_val (je_cDK D_within hr (by decide) hgd (by rfl) (takes_of rfl rfl rfl rfl) (jk_cons (je_callTy cd_tuple (by rfl) T.f_tuple (by decide +kernel) (jls_cons (jp_var (i := 6) rfl (.inl rfl)) (jls_nil))) (jk_nil)) (len_cons len_nil) rfl)) (blkOk_by (own := [("row", 7)]) (N := ["script", "pen", "turn", "chain", "at", "long", "rows", "row", "some", "lap"]) (sc := defScope s_law) (by decide +kernel)) (fun _ _ _ _ _ => jg_name (i := 7) sc_law.nd rfl (.inl rfl) (.inr rfl)) (fun _ _ _ _ _ => jts_nil) (fun _ _ _ _ _ => je_callB (cd_repr hgd (hu66 hr)) (by rfl) T.f_repr (by decide +kernel) (jls_cons (jp_var (i := 7) rfl (.inl rfl)) (jls_nil))) (by decide)))) (jls_nil)))))) (jp_v (JL.je (JN.jl (jn_callB (cn_sorted (hu66 hr)) (by rfl) T.f_sorted (by decide +kernel) (jls_cons (jp_v (JL.je (jl_comp (own := [("row", 7)]) (by rfl) sc_law.nd (ji_val (je_var (i := 8) rfl (.inl rfl))) (blkOk_by (own := [("row", 7)]) (N := ["script", "pen", "turn", "chain", "at", "long", "rows", "row", "some", "lap"]) (sc := defScope s_law) (by decide +kernel)) (fun _ _ _ _ _ => jg_name (i := 7) sc_law.nd rfl (.inl rfl) (.inr rfl)) (fun _ _ _ _ _ => jts_nil) (fun _ _ _ _ _ => je_callB (cd_repr hgd (hu66 hr)) (by rfl) T.f_repr (by decide +kernel) (jls_cons (jp_var (i := 7) rfl (.inl rfl)) (jls_nil))) (by decide)))) (jls_nil))))))) (jb_one (js_ret (je_bl))) (jb_nil))))))))
      (jb_cons (js_set (i := 3) (je_tup (ja_cons (je_str) (ja_cons (je_str) (ja_cons (je_int) (ja_nil))))) sc_law.nd rfl (.inl rfl))
      (jb_cons (js_for (passes_of rfl) (by rfl) (ji_rg1 (by rfl) T.f_range (ja_cons (je_int) (ja_nil))) (jg_name (i := 4) sc_law.nd rfl (.inl rfl) (by exact .inl rfl)) (jb_one (js_set (i := 3) (je_if (jt_cmp (od_eq (hu64 hr)) (by rfl) (jp_var (i := 4) rfl (.inl rfl)) (jp_v (je_int))) (je_tup (ja_cons (je_str) (ja_cons (je_str) (ja_cons (je_tup (ja_cons (je_var (i := 3) rfl (.inl rfl)) (ja_nil))) (ja_nil))))) (je_tup (ja_cons (je_str) (ja_cons (je_str) (ja_cons (je_var (i := 3) rfl (.inl rfl)) (ja_nil)))))) sc_law.nd rfl (.inl rfl))))
      (jb_cons (js_set (i := 5) (je_tup (ja_cons (je_str) (ja_cons (je_str) (ja_cons (je_callTy cd_tuple (by rfl) T.f_tuple (by decide +kernel) (jls_cons (jp_v (JL.je (jl_comp (own := [("at", 4)]) (by rfl) sc_law.nd (ji_rg1 (by rfl) T.f_range (ja_cons (je_int) (ja_nil))) (blkOk_by (own := [("at", 4)]) (N := ["script", "pen", "turn", "chain", "at", "long", "rows", "row", "some", "lap"]) (sc := defScope s_law) (by decide +kernel)) (fun _ _ _ _ _ => jg_name (i := 4) sc_law.nd rfl (.inl rfl) (.inr rfl)) (fun _ _ _ _ _ => jts_nil) (fun _ _ _ _ _ => je_tup (ja_cons (je_str) (ja_cons (je_str) (ja_cons (je_var (i := 4) rfl (.inl rfl)) (ja_nil))))) (by decide)))) (jls_nil))) (ja_nil))))) sc_law.nd rfl (.inl rfl))
      (jb_one (js_ret (je_and (je_cmp (od_eq (hu64 hr)) (by rfl) (jp_v (je_cD D_name_of hr (by decide) hgd (by rfl) (takes_of rfl rfl rfl rfl) (ja_cons (je_var (i := 3) rfl (.inl rfl)) (ja_nil)) (len_cons len_nil) rfl)) (jp_v (je_tup (ja_cons (je_str) (ja_cons (je_int) (ja_cons (je_tup (ja_nil)) (ja_nil))))))) (je_and (je_cmp (od_eq (hu64 hr)) (by rfl) (jp_v (je_callB cd_len (by rfl) T.f_len (by decide +kernel) (jls_cons (jp_v (je_cD D_within hr (by decide) hgd (by rfl) (takes_of rfl rfl rfl rfl) (ja_cons (JL.je (JN.jl (jn_lst (ja_cons (je_var (i := 3) rfl (.inl rfl)) (ja_nil))))) (ja_nil)) (len_cons len_nil) rfl)) (jls_nil)))) (jp_v (je_int))) (je_and (je_cmp (od_eq (hu64 hr)) (by rfl) (jp_v (je_callB cd_len (by rfl) T.f_len (by decide +kernel) (jls_cons (jp_v (je_cD D_within hr (by decide) hgd (by rfl) (takes_of rfl rfl rfl rfl) (ja_cons (JL.je (JN.jl (jn_lst (ja_cons (je_var (i := 5) rfl (.inl rfl)) (ja_nil))))) (ja_nil)) (len_cons len_nil) rfl)) (jls_nil)))) (jp_v (je_int))) (je_and (je_cmp (od_eq (hu64 hr)) (by rfl) (jp_v (je_cD D_name_of hr (by decide) hgd (by rfl) (takes_of rfl rfl rfl rfl) (ja_cons (je_var (i := 5) rfl (.inl rfl)) (ja_nil)) (len_cons len_nil) rfl)) (jp_v (je_tup (ja_cons (je_str) (ja_cons (je_int) (ja_cons (je_tup (ja_nil)) (ja_nil))))))) (je_one (je_cmp (od_eq (hu64 hr)) (by rfl) (jp_v (je_cD D_within hr (by decide) hgd (by rfl) (takes_of rfl rfl rfl rfl) (ja_cons (JL.je (JN.jl (jn_lst (ja_nil)))) (ja_nil)) (len_cons len_nil) rfl)) (jp_v (je_tup (ja_nil)))))))))))))))
end
end K03
end
section
set_option maxRecDepth 100000
set_option linter.all false
set_option maxHeartbeats 2000000
namespace K03
open PySem Fy
inductive Row where
  | row (b : Str) (i : Int)
  | map (m : Str) (r : Row)
  | stamp (m : Str) (r : Row) (o : Int)
  | mix (m : Str) (s : Int) (r : Row)
  | one (f : Str) (r : Row)
  | more (i : Row) (r : Row)
def fnm : Row → Str
  | .one f _ => f
  | .more i _ => fnm i
  | _ => "f"
def its : D → List D
  | .tup [_, _, .tup l] => l
  | _ => []
def isF : Row → Bool
  | .one _ _ => true
  | .more _ _ => true
  | _ => false
def enc : Row → D
  | .row b i => .tup [.str "row", .str b, .int i]
  | .map m r => .tup [.str "map", .str m, enc r]
  | .stamp m r o => .tup [.str "stamp", .str m, enc r, .int o]
  | .mix m s r => .tup [.str "mix", .str m, .int s, enc r]
  | .one f r => .tup [.str "fold", .str f, .tup [enc r]]
  | .more i r => .tup [.str "fold", .str (fnm i), .tup (its (enc i) ++ [enc r])]
def flen : Row → Nat
  | .one _ _ => 1
  | .more i _ => flen i + 1
  | _ => 0
def al : List Str := ["a", "c", "eightlet", "m", "k", "p", "q", "x", "y", "f", "g"]
def Ok : Row → Prop
  | .row b i => b ∈ al ∧ 0 ≤ i ∧ i < 20
  | .map m r => m ∈ al ∧ Ok r
  | .stamp m r o => m ∈ al ∧ Ok r ∧ 0 ≤ o ∧ o < 20
  | .mix m s r => m ∈ al ∧ 0 ≤ s ∧ s < 20 ∧ Ok r
  | .one f r => f ∈ al ∧ Ok r
  | .more i r => isF i = true ∧ Ok i ∧ Ok r
/-- how many rowwise nodes stand above the base -/
def hgt : Row → Nat
  | .map _ r => hgt r + 1
  | .stamp _ r _ => hgt r + 1
  | .mix _ _ r => hgt r + 1
  | _ => 0
def base : Row → Row
  | .map _ r => base r
  | .stamp _ r _ => base r
  | .mix _ _ r => base r
  | r => r
def sides : Row → List D
  | .map _ r => sides r
  | .stamp _ r _ => sides r
  | .mix m s r => sides r ++ [.tup [.str m, .int s]]
  | _ => []
def nm (r : Row) : D := match base r with
  | .row b i => .tup [.str b, .int i, .tup (sides r)]
  | b => .tup [.str (fnm b), .int ((its (enc b)).length - 1), .tup (sides r)]
theorem enc_fold : ∀ {r : Row}, isF r = true → Ok r → enc r = .tup [.str "fold", .str (fnm r), .tup (its (enc r))] ∧ (its (enc r)).length = flen r
  | .one f r, _, _ => ⟨rfl, rfl⟩
  | .more i r, _, o => ⟨rfl, by
      show (its (enc i) ++ [enc r]).length = flen i + 1
      rw [List.length_append, (enc_fold o.1 o.2.1).2]
      rfl⟩
  | .row _ _, h, _ => by cases h
  | .map _ _, h, _ => by cases h
  | .stamp _ _ _, h, _ => by cases h
  | .mix _ _ _, h, _ => by cases h
theorem base_cases : ∀ (r : Row), (∃ b i, base r = .row b i) ∨ isF (base r) = true
  | .row b i => .inl ⟨b, i, rfl⟩
  | .map _ r => base_cases r
  | .stamp _ r _ => base_cases r
  | .mix _ _ r => base_cases r
  | .one _ _ => .inr rfl
  | .more _ _ => .inr rfl
/-! ### base_of -/
theorem bo_row (n : Nat) (b i : D) : f_base_of (n + 1) [.va (.tup [.str "row", b, i])] = .va (.tup [.str "row", b, i]) [] := by kernel_rfl
theorem bo_fold (n : Nat) (b i : D) : f_base_of (n + 1) [.va (.tup [.str "fold", b, i])] = .va (.tup [.str "fold", b, i]) [] := by kernel_rfl
theorem bo_map (n : Nat) (b i : D) : f_base_of (n + 1) [.va (.tup [.str "map", b, i])] = f_base_of n [.va i] := by kernel_rfl
theorem bo_stamp (n : Nat) (b i o : D) : f_base_of (n + 1) [.va (.tup [.str "stamp", b, i, o])] = f_base_of n [.va i] := by kernel_rfl
theorem bo_mix (n : Nat) (b i o : D) : f_base_of (n + 1) [.va (.tup [.str "mix", b, o, i])] = f_base_of n [.va i] := by kernel_rfl
theorem bo_ok : ∀ (r : Row) (n : Nat), hgt r < n → f_base_of n [.va (enc r)] = .va (enc (base r)) []
  | r, 0, h => by omega
  | .row b i, n + 1, _ => bo_row n _ _
  | .map m r, n + 1, h => (bo_map n _ _).trans (bo_ok r n (by simp only [hgt] at h; omega))
  | .stamp m r o, n + 1, h => (bo_stamp n _ _ _).trans (bo_ok r n (by simp only [hgt] at h; omega))
  | .mix m s r, n + 1, h => (bo_mix n _ _ _).trans (bo_ok r n (by simp only [hgt] at h; omega))
  | .one f r, n + 1, _ => bo_fold n _ _
  | .more i r, n + 1, _ => bo_fold n _ _
theorem lb_row (n : Nat) (b i : D) : f__law_base (n + 1) [.va (.tup [.str "row", b, i])] = .va (.tup [.str "row", b, i]) [] := by kernel_rfl
theorem lb_fold (n : Nat) (b i : D) : f__law_base (n + 1) [.va (.tup [.str "fold", b, i])] = .va (.tup [.str "fold", b, i]) [] := by kernel_rfl
theorem lb_map (n : Nat) (b i : D) : f__law_base (n + 1) [.va (.tup [.str "map", b, i])] = f__law_base n [.va i] := by kernel_rfl
theorem lb_stamp (n : Nat) (b i o : D) : f__law_base (n + 1) [.va (.tup [.str "stamp", b, i, o])] = f__law_base n [.va i] := by kernel_rfl
theorem lb_mix (n : Nat) (b i o : D) : f__law_base (n + 1) [.va (.tup [.str "mix", b, o, i])] = f__law_base n [.va i] := by kernel_rfl
theorem lb_ok : ∀ (r : Row) (n : Nat), hgt r < n → f__law_base n [.va (enc r)] = .va (enc (base r)) []
  | r, 0, h => by omega
  | .row b i, n + 1, _ => lb_row n _ _
  | .map m r, n + 1, h => (lb_map n _ _).trans (lb_ok r n (by simp only [hgt] at h; omega))
  | .stamp m r o, n + 1, h => (lb_stamp n _ _ _).trans (lb_ok r n (by simp only [hgt] at h; omega))
  | .mix m s r, n + 1, h => (lb_mix n _ _ _).trans (lb_ok r n (by simp only [hgt] at h; omega))
  | .one f r, n + 1, _ => lb_fold n _ _
  | .more i r, n + 1, _ => lb_fold n _ _
/-! ### sides_of -/
/-- the tests and the body of its loop -/
def soC : TF := tBl (eBin dIn (pV (eBin dIx (pVar 0) (pV (eC (.int 0))))) (pV (eC (.tup [.str "map", .str "stamp", .str "mix"]))))
def soB (n : Nat) : SF := sSeq (sIf (tBl (eBin dEq (pV (eBin dIx (pVar 0) (pV (eC (.int 0))))) (pV (eC (.str "mix"))))) (sExpr (eAppend 1 (eTup (aCons (eBin dIx (pVar 0) (pV (eC (.int 1)))) (aCons (eBin dIx (pVar 0) (pV (eC (.int 2)))) (aNil)))))) (sNil)) (sAsg (eCall (f_inside n) (aCons (eVar [] 0) (aNil))) (gSlot [] 0))
theorem so_row (n m : Nat) (b i : D) (acc : List D) : sWhile soC (soB n) (m + 1) [.va (.tup [.str "row", b, i]), .ow acc] = .nx [.va (.tup [.str "row", b, i]), .ow acc] := by kernel_rfl
theorem so_fold (n m : Nat) (b i : D) (acc : List D) : sWhile soC (soB n) (m + 1) [.va (.tup [.str "fold", b, i]), .ow acc] = .nx [.va (.tup [.str "fold", b, i]), .ow acc] := by kernel_rfl
theorem so_map (n m : Nat) (b i : D) (acc : List D) : sWhile soC (soB n) (m + 1) [.va (.tup [.str "map", b, i]), .ow acc] = sWhile soC (soB n) m [.va i, .ow acc] := by kernel_rfl
theorem so_stamp (n m : Nat) (b i o : D) (acc : List D) : sWhile soC (soB n) (m + 1) [.va (.tup [.str "stamp", b, i, o]), .ow acc] = sWhile soC (soB n) m [.va i, .ow acc] := by kernel_rfl
theorem so_mix (n m : Nat) (b i o : D) (acc : List D) (h : okLen (acc.length + 1) = true) : sWhile soC (soB n) (m + 1) [.va (.tup [.str "mix", b, o, i]), .ow acc] = sWhile soC (soB n) m [.va i, .ow (acc ++ [D.tup [b, o]])] := by
  refine y_whileT (by kernel_rfl) (z_seq (y_ifT (by kernel_rfl) (y_append (l := acc) (d := D.tup [b, o]) (by rfl) (by kernel_rfl) h)) (S1 := [.va (.tup [.str "mix", b, o, i]), .ow (acc ++ [D.tup [b, o]])]) (y_asg (d := i) (by kernel_rfl) (by rfl))) rfl
theorem so_ok (n : Nat) : ∀ (r : Row) (m : Nat) (acc : List D), hgt r < m → acc.length + hgt r ≤ 1000000 → sWhile soC (soB n) m [.va (enc r), .ow acc] = .nx [.va (enc (base r)), .ow (acc ++ (sides r).reverse)]
  | r, 0, _, h, _ => by omega
  | .row b i, m + 1, acc, _, _ => by rw [show acc ++ (sides (.row b i)).reverse = acc from List.append_nil acc]; exact so_row n m _ _ acc
  | .one f r, m + 1, acc, _, _ => by rw [show acc ++ (sides (.one f r)).reverse = acc from List.append_nil acc]; exact so_fold n m _ _ acc
  | .more i r, m + 1, acc, _, _ => by rw [show acc ++ (sides (.more i r)).reverse = acc from List.append_nil acc]; exact so_fold n m _ _ acc
  | .map k r, m + 1, acc, h, h2 => (so_map n m _ _ acc).trans (so_ok n r m acc (by simp only [hgt] at h; omega) (by simp only [hgt] at h2; omega))
  | .stamp k r o, m + 1, acc, h, h2 => (so_stamp n m _ _ _ acc).trans (so_ok n r m acc (by simp only [hgt] at h; omega) (by simp only [hgt] at h2; omega))
  | .mix k s r, m + 1, acc, h, h2 => by
    have h : hgt r + 1 < m + 1 := h
    have h2 : acc.length + (hgt r + 1) ≤ 1000000 := h2
    refine (so_mix n m _ _ _ acc (decide_eq_true (by omega))).trans ((so_ok n r m _ (by omega) (by rw [List.length_append]; show acc.length + 1 + hgt r ≤ 1000000; omega)).trans ?_)
    show _ = Oc.nx [.va (enc (base r)), .ow (acc ++ (sides r ++ [D.tup [.str k, .int s]]).reverse)]
    rw [List.reverse_append, List.append_assoc]
    rfl
/-- a loop in a def: what the def makes of its end -/
theorem so_fn (n : Nat) (r : Row) (h : hgt r < n) (h2 : hgt r ≤ 1000000) : f_sides_of n [.va (enc r)] = .va (.tup (sides r)) [] := by
  have e : f_sides_of n [.va (enc r)] = fin [] (match sWhile soC (soB n) n [.va (enc r), .ow []] with
    | .nx S => sRet (eCB (g1 dTuple) (lCons (pV (eLst (aRev (pVar 1)))) (lNil))) S
    | o => o) := by kernel_rfl
  rw [e, so_ok n r n [] h (by simpa using h2)]
  show fin [] (sRet (eCB (g1 dTuple) (lCons (pV (eLst (aRev (pVar 1)))) (lNil))) [.va (enc (base r)), .ow ([] ++ (sides r).reverse)]) = _
  rw [List.nil_append]
  have e2 : ∀ (x : D) (l : List D), fin [] (sRet (eCB (g1 dTuple) (lCons (pV (eLst (aRev (pVar 1)))) (lNil))) [.va x, .ow l]) = .va (.tup l.reverse) [] := fun x l => by kernel_rfl
  rw [e2, List.reverse_reverse]
/-! ### name_of -/
/-- what name_of does behind base_of -/
theorem no_row (n : Nat) (d b i : D) (l : List D) (h1 : f_base_of n [.va d] = .va (.tup [.str "row", b, i]) []) (h2 : f_sides_of n [.va d] = .va (.tup l) []) : f_name_of n [.va d] = .va (.tup [b, i, .tup l]) [] :=
  z_fnRt (z_seq (S1 := [.va d, .va (.tup [.str "row", b, i])]) (y_asg (y_call (l := [d]) (by rfl) h1) (by rfl)) (y_ret (y_tup (y_cons (by kernel_rfl) (y_cons (by kernel_rfl) (y_cons (y_call (l := [d]) (by rfl) h2) z_nil))) (by rfl))))
theorem no_fold (n : Nat) (d f : D) (l rs : List D) (h1 : f_base_of n [.va d] = .va (.tup [.str "fold", f, .tup rs]) []) (h2 : f_sides_of n [.va d] = .va (.tup l) []) : f_name_of n [.va d] = .va (.tup [f, .int (rs.length - 1), .tup l]) [] :=
  z_fnRt (z_seq (S1 := [.va d, .va (.tup [.str "fold", f, .tup rs])]) (y_asg (y_call (l := [d]) (by rfl) h1) (by rfl)) (y_ret (y_tup (y_cons (by kernel_rfl) (y_cons (by kernel_rfl) (y_cons (y_call (l := [d]) (by rfl) h2) z_nil))) (by rfl))))
theorem Ok.base : ∀ {r : Row}, Ok r → Ok (base r)
  | .row _ _, h => h
  | .map _ r, h => Ok.base (r := r) h.2
  | .stamp _ r _, h => Ok.base (r := r) h.2.1
  | .mix _ _ r, h => Ok.base (r := r) h.2.2.2
  | .one _ _, h => h
  | .more _ _, h => h
theorem name_ok (r : Row) (o : Ok r) (n : Nat) (h : hgt r < n) (h2 : hgt r ≤ 1000000) : f_name_of n [.va (enc r)] = .va (nm r) [] := by
  have h1 := bo_ok r n h
  have h3 := so_fn n r h h2
  rcases base_cases r with ⟨b, i, e⟩ | e
  · rw [e] at h1
    have e2 : nm r = .tup [.str b, .int i, .tup (sides r)] := by unfold nm; rw [e]
    rw [e2]
    exact no_row n _ _ _ _ h1 h3
  · have q := (enc_fold e o.base).1
    have e2 : nm r = .tup [.str (fnm (base r)), .int ((its (enc (base r))).length - 1), .tup (sides r)] := by
      unfold nm
      cases c : base r <;> first | rfl | (rw [c] at e; cases e)
    rw [e2]
    rw [q] at h1
    exact no_fold n _ _ _ _ h1 h3
theorem lenc (r : Row) : ∃ x rest, enc r = .tup (x :: .str (match r with
    | .row b _ => b
    | .map m _ => m
    | .stamp m _ _ => m
    | .mix m _ _ => m
    | .one f _ => f
    | .more i _ => fnm i) :: rest) := by
  cases r <;> exact ⟨_, _, rfl⟩
def node : Row → Str
  | .row b _ => b
  | .map m _ => m
  | .stamp m _ _ => m
  | .mix m _ _ => m
  | .one f _ => f
  | .more i _ => fnm i
theorem node_enc (r : Row) : ∃ x rest, enc r = .tup (x :: .str (node r) :: rest) := by
  cases r <;> exact ⟨_, _, rfl⟩
theorem place_ok (r : Row) (o : Ok r) (n : Nat) (h : hgt r < n) (h2 : hgt r ≤ 1000000) : f_place_of n [.va (enc r)] = .va (.tup [.str (node r), nm r]) [] := by
  have hn := name_ok r o n h h2
  cases r <;> exact z_fnRt (y_ret (y_tup (y_cons (by kernel_rfl) (y_cons (y_call (l := [_]) (by rfl) hn) z_nil)) (by rfl)))
end K03
end
section
set_option maxRecDepth 100000
set_option linter.all false
set_option maxHeartbeats 2000000
namespace K03
open PySem Fy
/-! ### _law_name -/
def lnC : TF := tBl (eBin dNotIn (pV (eBin dIx (pVar 0) (pV (eC (.int 0))))) (pV (eTup (aCons (eC (.str "row")) (aCons (eC (.str "fold")) (aNil))))))
def lnA : SF := sAsg (eBin dAdd (pV (eIf (tBl (eBin dEq (pV (eBin dIx (pVar 0) (pV (eC (.int 0))))) (pV (eC (.str "mix"))))) (eLst (aFit (aCons (eTup (aCons (eBin dIx (pVar 0) (pV (eC (.int 1)))) (aCons (eBin dIx (pVar 0) (pV (eC (.int 2)))) (aNil)))) (aNil)))) (eLst (aFit (aNil))))) (pVar 2)) (gSlot [] 2)
def lnR : SF := sAsg (eIf (tBl (eBin dEq (pV (eBin dIx (pVar 0) (pV (eC (.int 0))))) (pV (eC (.str "mix"))))) (eBin dIx (pVar 0) (pV (eC (.int 3)))) (eBin dIx (pVar 0) (pV (eC (.int 2))))) (gSlot [] 0)
def lnB : SF := sSeq lnA lnR
theorem dAdd_lst {a b : List D} (h : okLen (a.length + b.length) = true) : dAdd (.lst a) (.lst b) = some (.lst (a ++ b)) := by
  show (if okLen (a.length + b.length) then some (D.lst (a ++ b)) else none) = _
  rw [if_pos h]
theorem ln_row (m : Nat) (b i x : D) (acc : List D) : sWhile lnC lnB (m + 1) [.va (.tup [.str "row", b, i]), .va x, .va (.lst acc)] = .nx [.va (.tup [.str "row", b, i]), .va x, .va (.lst acc)] := by kernel_rfl
theorem ln_fold (m : Nat) (b i x : D) (acc : List D) : sWhile lnC lnB (m + 1) [.va (.tup [.str "fold", b, i]), .va x, .va (.lst acc)] = .nx [.va (.tup [.str "fold", b, i]), .va x, .va (.lst acc)] := by kernel_rfl
theorem ln_map (m : Nat) (b i x : D) (acc : List D) (h : okLen (0 + acc.length) = true) : sWhile lnC lnB (m + 1) [.va (.tup [.str "map", b, i]), .va x, .va (.lst acc)] = sWhile lnC lnB m [.va i, .va x, .va (.lst acc)] :=
  y_whileT (by kernel_rfl) (z_seq (S1 := [.va (.tup [.str "map", b, i]), .va x, .va (.lst acc)]) (y_asg (d := .lst acc) (y_bin (x := .lst []) (y := .lst acc) (a := .val (.lst [])) (b := .val (.lst acc)) (by kernel_rfl) (by rfl) (by rfl) (by rfl) (dAdd_lst h)) (by rfl)) (y_asg (d := i) (by kernel_rfl) (by rfl))) rfl
theorem ln_stamp (m : Nat) (b i o x : D) (acc : List D) (h : okLen (0 + acc.length) = true) : sWhile lnC lnB (m + 1) [.va (.tup [.str "stamp", b, i, o]), .va x, .va (.lst acc)] = sWhile lnC lnB m [.va i, .va x, .va (.lst acc)] :=
  y_whileT (by kernel_rfl) (z_seq (S1 := [.va (.tup [.str "stamp", b, i, o]), .va x, .va (.lst acc)]) (y_asg (d := .lst acc) (y_bin (x := .lst []) (y := .lst acc) (a := .val (.lst [])) (b := .val (.lst acc)) (by kernel_rfl) (by rfl) (by rfl) (by rfl) (dAdd_lst h)) (by rfl)) (y_asg (d := i) (by kernel_rfl) (by rfl))) rfl
theorem ln_mix (m : Nat) (b i o x : D) (acc : List D) (h : okLen (1 + acc.length) = true) : sWhile lnC lnB (m + 1) [.va (.tup [.str "mix", b, o, i]), .va x, .va (.lst acc)] = sWhile lnC lnB m [.va i, .va x, .va (.lst (D.tup [b, o] :: acc))] :=
  y_whileT (by kernel_rfl) (z_seq (S1 := [.va (.tup [.str "mix", b, o, i]), .va x, .va (.lst (D.tup [b, o] :: acc))]) (y_asg (d := .lst (D.tup [b, o] :: acc)) (y_bin (x := .lst [D.tup [b, o]]) (y := .lst acc) (a := .val (.lst [D.tup [b, o]])) (b := .val (.lst acc)) (by kernel_rfl) (by rfl) (by rfl) (by rfl) (dAdd_lst h)) (by rfl)) (y_asg (d := i) (by kernel_rfl) (by rfl))) rfl
theorem ln_ok (x : D) : ∀ (r : Row) (m : Nat) (acc : List D), hgt r < m → acc.length + hgt r ≤ 1000000 → sWhile lnC lnB m [.va (enc r), .va x, .va (.lst acc)] = .nx [.va (enc (base r)), .va x, .va (.lst (sides r ++ acc))]
  | r, 0, _, h, _ => by omega
  | .row b i, m + 1, acc, _, _ => ln_row m _ _ x acc
  | .one f r, m + 1, acc, _, _ => ln_fold m _ _ x acc
  | .more i r, m + 1, acc, _, _ => ln_fold m _ _ x acc
  | .map k r, m + 1, acc, h, h2 => (ln_map m _ _ x acc (decide_eq_true (by omega))).trans (ln_ok x r m acc (by simp only [hgt] at h; omega) (by simp only [hgt] at h2; omega))
  | .stamp k r o, m + 1, acc, h, h2 => (ln_stamp m _ _ _ x acc (decide_eq_true (by omega))).trans (ln_ok x r m acc (by simp only [hgt] at h; omega) (by simp only [hgt] at h2; omega))
  | .mix k s r, m + 1, acc, h, h2 => by
    have h : hgt r + 1 < m + 1 := h
    have h2 : acc.length + (hgt r + 1) ≤ 1000000 := h2
    refine (ln_mix m _ _ _ x acc (decide_eq_true (by omega))).trans ((ln_ok x r m _ (by omega) (by rw [List.length_cons]; omega)).trans ?_)
    show _ = Oc.nx [.va (enc (base r)), .va x, .va (.lst ((sides r ++ [D.tup [.str k, .int s]]) ++ acc))]
    rw [List.append_assoc]
    rfl
def lnE : EF := eTup (aCons (eBin dIx (pVar 1) (pV (eC (.int 1)))) (aCons (eIf (tBl (eBin dEq (pV (eBin dIx (pVar 1) (pV (eC (.int 0))))) (pV (eC (.str "row"))))) (eBin dIx (pVar 1) (pV (eC (.int 2)))) (eBin dSub (pV (eCB (g1 dLen) (lCons (pV (eBin dIx (pVar 1) (pV (eC (.int 2))))) (lNil)))) (pV (eC (.int 1))))) (aCons (eCB (g1 dTuple) (lCons (pVar 2) (lNil))) (aNil))))
theorem ln_endR (y b i : D) (l : List D) : lnE [.va y, .va (.tup [.str "row", b, i]), .va (.lst l)] = .ok (.tup [b, i, .tup l]) [.va y, .va (.tup [.str "row", b, i]), .va (.lst l)] := by kernel_rfl
theorem ln_endF (y f : D) (l rs : List D) : lnE [.va y, .va (.tup [.str "fold", f, .tup rs]), .va (.lst l)] = .ok (.tup [f, .int (rs.length - 1), .tup l]) [.va y, .va (.tup [.str "fold", f, .tup rs]), .va (.lst l)] := by kernel_rfl
theorem lname_ok (r : Row) (o : Ok r) (n : Nat) (h : hgt r < n) (h2 : hgt r ≤ 1000000) : f__law_name n [.va (enc r)] = .va (nm r) [] := by
  have h1 := lb_ok r n h
  have par : ∀ y bs : D, f__law_base n [.va y] = .va bs [] → (sPar [] [1, 2] (mVa (eCall (f__law_base n) (aCons (eVar [] 0) (aNil))) (mVa (eLst (aFit (aNil))) (mNil)))) [.va y, .un, .un] = .nx [.va y, .va bs, .va (.lst [])] := by
    intro y bs hb
    have e1 : mVa (eCall (f__law_base n) (aCons (eVar [] 0) (aNil))) (mVa (eLst (aFit (aNil))) (mNil)) [.va y, .un, .un] = .ok [.va bs, .va (.lst [])] [.va y, .un, .un] := by
      have e2 : eCall (f__law_base n) (aCons (eVar [] 0) (aNil)) [.va y, .un, .un] = .ok bs [.va y, .un, .un] := y_call (l := [y]) (by rfl) hb
      simp only [mVa, R.bind, e2]
      rfl
    exact z_par e1 (by rfl)
  have lp := ln_ok (enc (base r)) r n [] h (by simpa using h2)
  rw [List.append_nil] at lp
  have e0 : f__law_name n [.va (enc r)] = fin [] (sSeq (sPar [] [1, 2] (mVa (eCall (f__law_base n) (aCons (eVar [] 0) (aNil))) (mVa (eLst (aFit (aNil))) (mNil)))) (sSeq (sWhile lnC lnB n) (sRet lnE)) [.va (enc r), .un, .un]) := by rfl
  rw [e0, z_seq (par _ _ h1) (z_seq lp rfl)]
  rcases base_cases r with ⟨b, i, e⟩ | e
  · have e2 : nm r = .tup [.str b, .int i, .tup (sides r)] := by unfold nm; rw [e]
    rw [e, e2]
    have e3 : enc (.row b i) = .tup [.str "row", .str b, .int i] := rfl
    rw [e3, z_ret (ln_endR _ _ _ _)]
    rfl
  · have q := (enc_fold e o.base).1
    have e2 : nm r = .tup [.str (fnm (base r)), .int ((its (enc (base r))).length - 1), .tup (sides r)] := by
      unfold nm
      cases c : base r <;> first | rfl | (rw [c] at e; cases e)
    rw [e2]
    generalize its (enc (base r)) = rs at q ⊢
    rw [q, z_ret (ln_endF _ _ _ _)]
    rfl
end K03
end
section
set_option maxRecDepth 100000
set_option linter.all false
set_option maxHeartbeats 2000000
namespace K03
open PySem PySem.Spec PyProof.Rows L2 Fy
/-! ### parts -/
def parts : Row → List Row
  | .row _ _ => []
  | .map _ r => [r]
  | .stamp _ r _ => [r]
  | .mix _ _ r => [r]
  | .one _ r => [r]
  | .more i r => [r, i]
theorem cut_last (l : List D) (x : D) : cutL (l ++ [x]) none (some (-1)) = l := by
  unfold cutL HT.sIx
  simp only [List.length_append, List.length_cons, List.length_nil]
  have : ((-1 : Int) + ((l.length + (0 + 1) : Nat) : Int)).toNat = l.length := by omega
  rw [if_pos (by decide), this]
  simp
theorem at_last (l : List D) (x : D) : L2.atI (l ++ [x]) (-1) = some x := by
  unfold L2.atI L2.ixN
  rw [if_neg (by decide), if_pos (by rw [List.length_append]; simp; omega)]
  simp only [Option.bind_some, List.length_append, List.length_cons, List.length_nil]
  have : ((-1 : Int) + ((l.length + (0 + 1) : Nat) : Int)).toNat = l.length := by omega
  rw [this, List.getElem?_append_right (Nat.le_refl _)]
  simp
theorem pa_row (n : Nat) (b i : D) : f_parts_of n [.va (.tup [.str "row", b, i])] = .li [] [] := by kernel_rfl
theorem pa_map (n : Nat) (b i : D) : f_parts_of n [.va (.tup [.str "map", b, i])] = .li [i] [] := by kernel_rfl
theorem pa_stamp (n : Nat) (b i o : D) : f_parts_of n [.va (.tup [.str "stamp", b, i, o])] = .li [i] [] := by kernel_rfl
theorem pa_mix (n : Nat) (b i o : D) : f_parts_of n [.va (.tup [.str "mix", b, o, i])] = .li [i] [] := by kernel_rfl
theorem pa_one (n : Nat) (f x : D) : f_parts_of n [.va (.tup [.str "fold", f, .tup [x]])] = .li [x] [] := by kernel_rfl
theorem dGt_int (i j : Int) : dGt (.int i) (.int j) = some (.bl (decide (j < i))) := rfl
theorem dLen_tup (l : List D) : g1 dLen [.tup l] = some (.int l.length) := rfl
def sl1 : EF := eSl (pV (eBin dIx (pVar 0) (pV (eC (.int 2))))) (oNone) (oSome (eNeg (eC (.int 1))))
theorem sl1_ok (f x : D) (l : List D) (sv : SV) : sl1 [.va (.tup [.str "fold", f, .tup (l ++ [x])]), sv] = .ok (.tup l) [.va (.tup [.str "fold", f, .tup (l ++ [x])]), sv] := by
  have e : sl1 [.va (.tup [.str "fold", f, .tup (l ++ [x])]), sv] = .ok (.tup (cutL (l ++ [x]) none (some (-1)))) [.va (.tup [.str "fold", f, .tup (l ++ [x])]), sv] := by rfl
  rw [e, cut_last]
theorem pa_more (n : Nat) (f x : D) (l : List D) (h : 1 ≤ l.length) : f_parts_of n [.va (.tup [.str "fold", f, .tup (l ++ [x])])] = .li [x, .tup [.str "fold", f, .tup l]] [] := by
  have hl : decide ((1 : Int) < ((l ++ [x]).length : Int)) = true := by
    rw [List.length_append]
    exact decide_eq_true (by simp; omega)
  refine z_fnRl (S1 := [.va (.tup [.str "fold", f, .tup (l ++ [x])]), .va (.lst [.tup [.str "fold", f, .tup l]])]) ?_
  refine z_seq (S1 := [.va (.tup [.str "fold", f, .tup (l ++ [x])]), .un]) (y_ifF (by kernel_rfl) (by rfl)) ?_
  refine z_seq (S1 := [.va (.tup [.str "fold", f, .tup (l ++ [x])]), .un]) (y_ifF (by kernel_rfl) (by rfl)) ?_
  refine z_seq (S1 := [.va (.tup [.str "fold", f, .tup (l ++ [x])]), .va (.lst [.tup [.str "fold", f, .tup l]])]) (y_asg (d := .lst [.tup [.str "fold", f, .tup l]]) (y_eIfT ?_ ?_) (by rfl)) ?_
  · refine y_tBl (y_bin (a := .val (.int (l ++ [x]).length)) (b := .val (.int 1)) (x := .int (l ++ [x]).length) (y := .int 1) (by rfl) (by rfl) (by rfl) (by rfl) ?_)
    rw [dGt_int, hl]
  · exact y_lst (y_fit (y_cons (y_tup (y_cons (by rfl) (y_cons (by rfl) (y_cons (sl1_ok f x l .un) z_nil))) (by rfl)) z_nil) (by rfl))
  · refine y_retL (y_fit (y_cons ?_ (by rfl)) (by rfl))
    exact y_bin (a := .val (.tup (l ++ [x]))) (b := .val (.int (-1))) (x := .tup (l ++ [x])) (y := .int (-1)) (by rfl) (by rfl) (by rfl) (by rfl) (at_last l x)
theorem flen_pos : ∀ {r : Row}, isF r = true → 1 ≤ flen r
  | .one _ _, _ => Nat.le_refl _
  | .more i _, _ => Nat.le_add_left _ _
  | .row _ _, h => by cases h
  | .map _ _, h => by cases h
  | .stamp _ _ _, h => by cases h
  | .mix _ _ _, h => by cases h
theorem parts_ok (n : Nat) : ∀ (r : Row), Ok r → f_parts_of n [.va (enc r)] = .li ((parts r).map enc) []
  | .row _ _, _ => pa_row n _ _
  | .map _ _, _ => pa_map n _ _
  | .stamp _ _ _, _ => pa_stamp n _ _ _
  | .mix _ _ _, _ => pa_mix n _ _ _
  | .one _ _, _ => pa_one n _ _
  | .more i r, o => by
    obtain ⟨e1, e2⟩ := enc_fold o.1 o.2.1
    have h := pa_more n (.str (fnm i)) (enc r) (its (enc i)) (by rw [e2]; exact flen_pos o.1)
    show f_parts_of n [.va (.tup [.str "fold", .str (fnm i), .tup (its (enc i) ++ [enc r])])] = .li [enc r, enc i] []
    rw [h, ← e1]
theorem Ok.parts : ∀ {r : Row}, Ok r → ∀ q ∈ parts r, Ok q
  | .row _ _, _, q, h => by cases h
  | .map _ r, o, q, h => by cases List.mem_singleton.mp h; exact o.2
  | .stamp _ r _, o, q, h => by cases List.mem_singleton.mp h; exact o.2.1
  | .mix _ _ r, o, q, h => by cases List.mem_singleton.mp h; exact o.2.2.2
  | .one _ r, o, q, h => by cases List.mem_singleton.mp h; exact o.2
  | .more i r, o, q, h => by
    rcases List.mem_cons.mp h with rfl | h
    · exact o.2.2
    · cases List.mem_singleton.mp h; exact o.2.1
/-- steps that a row costs at most -/
def cnt : Row → Nat
  | .row _ _ => 1
  | .map _ r => cnt r + 1
  | .stamp _ r _ => cnt r + 1
  | .mix _ _ r => cnt r + 1
  | .one _ r => cnt r + 1
  | .more i r => cnt r + cnt i + 1
theorem cnt_parts : ∀ (r : Row), ((parts r).map cnt).sum + 1 = cnt r
  | .row _ _ => rfl
  | .map _ r => by simp [parts, cnt]
  | .stamp _ r _ => by simp [parts, cnt]
  | .mix _ _ r => by simp [parts, cnt]
  | .one _ r => by simp [parts, cnt]
  | .more i r => by simp [parts, cnt]
end K03
end
section
set_option maxRecDepth 100000
set_option linter.all false
set_option maxHeartbeats 2000000
namespace K03
open PySem PySem.Spec PyProof.Rows L2 Fy
/-! ### rows as data -/
mutual
def pl : PyData → Bool
  | .int _ => true
  | .str _ => true
  | .tuple l => plA l
  | _ => false
def plA : List PyData → Bool
  | [] => true
  | p :: r => pl p && plA r
end
mutual
theorem eqv_pl : ∀ {p q : PyData}, pl p = true → pl q = true → (p.eqv q = true ↔ p = q)
  | .int i, .int j, _, _ => by simp only [PyData.eqv, beq_iff_eq, PyData.int.injEq]
  | .str x, .str y, _, _ => by simp only [PyData.eqv, beq_iff_eq, PyData.str.injEq]
  | .tuple l, .tuple m, h, h' => by
    simp only [pl] at h h'
    simp only [PyData.eqv, PyData.tuple.injEq]
    exact eqvA_pl h h'
  | .int _, .str _, _, _ => by simp [PyData.eqv]
  | .int _, .tuple _, _, _ => by simp [PyData.eqv]
  | .str _, .int _, _, _ => by simp [PyData.eqv]
  | .str _, .tuple _, _, _ => by simp [PyData.eqv]
  | .tuple _, .int _, _, _ => by simp [PyData.eqv]
  | .tuple _, .str _, _, _ => by simp [PyData.eqv]
  | .none, _, h, _ => by simp [pl] at h
  | .bool _, _, h, _ => by simp [pl] at h
  | .list _, _, h, _ => by simp [pl] at h
  | .dict _, _, h, _ => by simp [pl] at h
  | .int _, .none, _, h => by simp [pl] at h
  | .int _, .bool _, _, h => by simp [pl] at h
  | .int _, .list _, _, h => by simp [pl] at h
  | .int _, .dict _, _, h => by simp [pl] at h
  | .str _, .none, _, h => by simp [pl] at h
  | .str _, .bool _, _, h => by simp [pl] at h
  | .str _, .list _, _, h => by simp [pl] at h
  | .str _, .dict _, _, h => by simp [pl] at h
  | .tuple _, .none, _, h => by simp [pl] at h
  | .tuple _, .bool _, _, h => by simp [pl] at h
  | .tuple _, .list _, _, h => by simp [pl] at h
  | .tuple _, .dict _, _, h => by simp [pl] at h
theorem eqvA_pl : ∀ {p q : List PyData}, plA p = true → plA q = true → (PyData.eqvAll p q = true ↔ p = q)
  | [], [], _, _ => by simp [PyData.eqvAll]
  | [], _ :: _, _, _ => by simp [PyData.eqvAll]
  | _ :: _, [], _, _ => by simp [PyData.eqvAll]
  | a :: p, b :: q, h, h' => by
    simp only [plA, Bool.and_eq_true] at h h'
    simp only [PyData.eqvAll, Bool.and_eq_true, List.cons.injEq, eqv_pl h.1 h'.1, eqvA_pl h.2 h'.2]
end
mutual
theorem toPy_inj : ∀ {d e : D} {p : PyData}, toPy d = some p → toPy e = some p → d = e
  | .non, e, p, h, h' => by
    simp only [toPy] at h; cases h
    cases e <;> simp only [toPy] at h' <;> first | rfl | (cases h'; done) | (simp only [Option.map_eq_some_iff] at h'; obtain ⟨_, _, z⟩ := h'; cases z)
  | .bl b, e, p, h, h' => by
    simp only [toPy] at h; cases h
    cases e <;> simp only [toPy] at h' <;> first | (cases h'; rfl) | (cases h'; done) | (simp only [Option.map_eq_some_iff] at h'; obtain ⟨_, _, z⟩ := h'; cases z)
  | .int b, e, p, h, h' => by
    simp only [toPy] at h; cases h
    cases e <;> simp only [toPy] at h' <;> first | (cases h'; rfl) | (cases h'; done) | (simp only [Option.map_eq_some_iff] at h'; obtain ⟨_, _, z⟩ := h'; cases z)
  | .str b, e, p, h, h' => by
    simp only [toPy] at h; cases h
    cases e <;> simp only [toPy] at h' <;> first | (cases h'; rfl) | (cases h'; done) | (simp only [Option.map_eq_some_iff] at h'; obtain ⟨_, _, z⟩ := h'; cases z)
  | .tup l, e, p, h, h' => by
    simp only [toPy] at h
    cases q : toPyA l with
    | none => rw [q] at h; cases h
    | some ps =>
      rw [q] at h; cases h
      cases e <;> simp only [toPy] at h' <;> first | (cases h'; done) | skip
      · rename_i m
        cases q2 : toPyA m with
        | none => rw [q2] at h'; cases h'
        | some ps' => rw [q2] at h'; cases h'; rw [toPyA_inj q q2]
      · rename_i m
        cases q2 : toPyA m with
        | none => rw [q2] at h'; cases h'
        | some ps' => rw [q2] at h'; cases h'
  | .lst l, e, p, h, h' => by
    simp only [toPy] at h
    cases q : toPyA l with
    | none => rw [q] at h; cases h
    | some ps =>
      rw [q] at h; cases h
      cases e <;> simp only [toPy] at h' <;> first | (cases h'; done) | skip
      · rename_i m
        cases q2 : toPyA m with
        | none => rw [q2] at h'; cases h'
        | some ps' => rw [q2] at h'; cases h'
      · rename_i m
        cases q2 : toPyA m with
        | none => rw [q2] at h'; cases h'
        | some ps' => rw [q2] at h'; cases h'; rw [toPyA_inj q q2]
  | .ins _ _, e, p, h, h' => by simp only [toPy] at h; cases h
  | .scr _, e, p, h, h' => by simp only [toPy] at h; cases h
theorem toPyA_inj : ∀ {d e : List D} {p : List PyData}, toPyA d = some p → toPyA e = some p → d = e
  | [], [], _, _, _ => rfl
  | [], b :: e, p, h, h' => by
    simp only [toPyA] at h; cases h
    simp only [toPyA] at h'
    split at h' <;> cases h'
  | a :: d, [], p, h, h' => by
    simp only [toPyA] at h'; cases h'
    simp only [toPyA] at h
    split at h <;> cases h
  | a :: d, b :: e, p, h, h' => by
    simp only [toPyA] at h h'
    split at h
    · rename_i x xs h1 h2
      cases h
      split at h'
      · rename_i y ys g1 g2
        cases h'
        rw [toPy_inj h1 g1, toPyA_inj h2 g2]
      · cases h'
    · cases h
end
theorem toPyA_append : ∀ {a b : List D} {p q : List PyData}, toPyA a = some p → toPyA b = some q → toPyA (a ++ b) = some (p ++ q)
  | [], b, p, q, h, h' => by simp only [toPyA] at h; cases h; exact h'
  | x :: a, b, p, q, h, h' => by
    simp only [toPyA] at h
    split at h
    · rename_i y ys h1 h2
      cases h
      simp only [List.cons_append, toPyA, h1, toPyA_append h2 h']
    · cases h
structure Nice (k w : Nat) (p : PyData) : Prop where
  pl : pl p = true
  lay : p.canLay0 = true
  shw : p.showable = true
  dic : p.hasDict = false
  dep : p.depth ≤ k
  wei : p.weight ≤ w
  sht : PyData.leavesShort 8 p = true
structure NiceA (k w : Nat) (p : List PyData) : Prop where
  pl : plA p = true
  lay : PyData.canLayAll0 p = true
  shw : PyData.showableAll p = true
  dic : PyData.hasDictAll p = false
  dep : PyData.depthAll p ≤ k
  wei : PyData.weightAll p ≤ w
  sht : PyData.leavesShortAll 8 p = true
theorem Nice.mono {k w k' w' : Nat} {p : PyData} (h : Nice k w p) (a : k ≤ k') (b : w ≤ w') : Nice k' w' p := ⟨h.pl, h.lay, h.shw, h.dic, Nat.le_trans h.dep a, Nat.le_trans h.wei b, h.sht⟩
theorem NiceA.mono {k w k' w' : Nat} {p : List PyData} (h : NiceA k w p) (a : k ≤ k') (b : w ≤ w') : NiceA k' w' p := ⟨h.pl, h.lay, h.shw, h.dic, Nat.le_trans h.dep a, Nat.le_trans h.wei b, h.sht⟩
theorem nice_tup {k w : Nat} {p : List PyData} (h : NiceA k w p) : Nice (k + 1) w (.tuple p) :=
  ⟨by simp only [K03.pl]; exact h.pl, by simp only [PyData.canLay0]; exact h.lay, by simp only [PyData.showable]; exact h.shw, by simp only [PyData.hasDict]; exact h.dic, by simp only [PyData.depth]; have := h.dep; omega, by simp only [PyData.weight]; exact h.wei, by simp only [PyData.leavesShort]; exact h.sht⟩
theorem nice_nil {k : Nat} : NiceA k 0 [] := ⟨rfl, rfl, rfl, rfl, Nat.zero_le _, Nat.zero_le _, rfl⟩
theorem nice_cons {k w w' : Nat} {p : PyData} {r : List PyData} (h : Nice k w p) (t : NiceA k w' r) : NiceA k (w + 1 + w') (p :: r) :=
  ⟨by simp only [plA, h.pl, t.pl, Bool.and_self], by simp only [PyData.canLayAll0, h.lay, t.lay, Bool.and_self], by simp only [PyData.showableAll, h.shw, t.shw, Bool.and_self], by simp only [PyData.hasDictAll, h.dic, t.dic, Bool.or_self], by simp only [PyData.depthAll]; have := h.dep; have := t.dep; omega, by simp only [PyData.weightAll]; have := h.wei; have := t.wei; omega, by simp only [PyData.leavesShortAll, h.sht, t.sht, Bool.and_self]⟩
theorem nice_append {k w w' : Nat} : ∀ {p r : List PyData}, NiceA k w p → NiceA k w' r → NiceA k (w + w') (p ++ r)
  | [], r, h, t => t.mono (Nat.le_refl _) (Nat.le_add_left _ _)
  | x :: p, r, h, t => by
    have h1 := h.pl; have h2 := h.lay; have h3 := h.shw; have h4 := h.dic; have h5 := h.dep; have h6 := h.wei; have h7 := h.sht
    simp only [plA, PyData.canLayAll0, PyData.showableAll, PyData.hasDictAll, PyData.depthAll, PyData.weightAll, PyData.leavesShortAll, Bool.and_eq_true, Bool.or_eq_false_iff] at h1 h2 h3 h4 h5 h6 h7
    have hx : Nice k x.weight x := ⟨h1.1, h2.1, h3.1, h4.1, by omega, Nat.le_refl _, h7.1⟩
    have hr : NiceA k (PyData.weightAll p) p := ⟨h1.2, h2.2, h3.2, h4.2, by omega, Nat.le_refl _, h7.2⟩
    exact (nice_cons hx (nice_append hr t)).mono (Nat.le_refl _) (by omega)
theorem nice_int {i : Int} (h : 0 ≤ i) (h2 : i < 32) : Nice 0 6 (.int i) := by
  have key : ∀ n : Fin 32, Nice 0 6 (.int (n.val : Int)) := by
    intro n
    have a : (PyData.int (n.val : Int)).weight ≤ 6 := by revert n; decide
    have b : PyData.leavesShort 8 (.int (n.val : Int)) = true := by revert n; decide +kernel
    have c : (PyData.int (n.val : Int)).showable = true := by revert n; decide +kernel
    exact ⟨rfl, rfl, c, rfl, Nat.le_refl _, a, b⟩
  have := key ⟨i.toNat, by omega⟩
  rw [show ((⟨i.toNat, by omega⟩ : Fin 32).val : Int) = i by show ((i.toNat : Nat) : Int) = i; omega] at this
  exact this
def words : List Str := (["row", "map", "stamp", "mix", "fold"] : List Str) ++ al
theorem nice_str {x : Str} (h : x ∈ words) : Nice 0 8 (.str x) := by
  have key : ∀ y ∈ words, ((PyData.str y).canLay0 && decide ((PyData.str y).weight ≤ 8) && PyData.leavesShort 8 (.str y)) = true := by decide +kernel
  have := key x h
  simp only [Bool.and_eq_true, decide_eq_true_eq] at this
  exact ⟨rfl, this.1.1, rfl, rfl, Nat.le_refl _, this.1.2, this.2⟩
end K03
end
section
set_option maxRecDepth 100000
set_option linter.all false
set_option maxHeartbeats 2000000
namespace K03
open PySem PySem.Spec PyProof.Rows L2 Fy
def dp : Row → Nat
  | .row _ _ => 1
  | .map _ r => dp r + 1
  | .stamp _ r _ => dp r + 1
  | .mix _ _ r => dp r + 1
  | .one _ r => dp r + 2
  | .more i r => max (dp i) (dp r + 2)
def wt : Row → Nat
  | .row _ _ => 30
  | .map _ r => wt r + 20
  | .stamp _ r _ => wt r + 30
  | .mix _ _ r => wt r + 30
  | .one _ r => wt r + 40
  | .more i r => wt i + wt r + 1
/-- the data of d -/
def Py (k w : Nat) (d : D) : Prop := ∃ p, toPy d = some p ∧ Nice k w p
def PyA (k w : Nat) (l : List D) : Prop := ∃ p, toPyA l = some p ∧ NiceA k w p
theorem Py.mono {k w k' w' : Nat} {d : D} (h : Py k w d) (a : k ≤ k') (b : w ≤ w') : Py k' w' d := by
  obtain ⟨p, h1, h2⟩ := h; exact ⟨p, h1, h2.mono a b⟩
theorem PyA.mono {k w k' w' : Nat} {d : List D} (h : PyA k w d) (a : k ≤ k') (b : w ≤ w') : PyA k' w' d := by
  obtain ⟨p, h1, h2⟩ := h; exact ⟨p, h1, h2.mono a b⟩
theorem pya_nil {k : Nat} : PyA k 0 [] := ⟨[], rfl, nice_nil⟩
theorem pya_cons {k w w' : Nat} {d : D} {l : List D} (h : Py k w d) (t : PyA k w' l) : PyA k (w + 1 + w') (d :: l) := by
  obtain ⟨p, h1, h2⟩ := h
  obtain ⟨q, t1, t2⟩ := t
  exact ⟨p :: q, by simp only [toPyA, h1, t1], nice_cons h2 t2⟩
theorem pya_append {k w w' : Nat} {a b : List D} (h : PyA k w a) (t : PyA k w' b) : PyA k (w + w') (a ++ b) := by
  obtain ⟨p, h1, h2⟩ := h
  obtain ⟨q, t1, t2⟩ := t
  exact ⟨p ++ q, toPyA_append h1 t1, nice_append h2 t2⟩
theorem py_tup {k w : Nat} {l : List D} (h : PyA k w l) : Py (k + 1) w (.tup l) := by
  obtain ⟨p, h1, h2⟩ := h
  exact ⟨.tuple p, by simp only [toPy, h1, Option.map_some], nice_tup h2⟩
theorem py_int {k w : Nat} {i : Int} (h : 0 ≤ i) (h2 : i < 32) (hw : 6 ≤ w) : Py k w (.int i) := ⟨.int i, rfl, (nice_int h h2).mono (Nat.zero_le _) hw⟩
theorem py_str {k w : Nat} {x : Str} (h : x ∈ words) (hw : 8 ≤ w) : Py k w (.str x) := ⟨.str x, rfl, (nice_str h).mono (Nat.zero_le _) hw⟩
theorem al_words {x : Str} (h : x ∈ al) : x ∈ words := List.mem_append.2 (.inr h)
theorem fnm_al : ∀ {r : Row}, Ok r → fnm r ∈ al
  | .row _ _, h => by show ("f" : Str) ∈ al; decide +kernel
  | .map _ _, h => by show ("f" : Str) ∈ al; decide +kernel
  | .stamp _ _ _, h => by show ("f" : Str) ∈ al; decide +kernel
  | .mix _ _ _, h => by show ("f" : Str) ∈ al; decide +kernel
  | .one f _, h => h.1
  | .more i _, h => fnm_al (r := i) h.2.1
theorem py_ok : ∀ (r : Row), Ok r → Py (dp r) (wt r) (enc r) ∧ (isF r = true → ∃ k w, PyA k w (its (enc r)) ∧ k + 2 ≤ dp r ∧ w + 30 ≤ wt r)
  | .row b i, o => ⟨(py_tup (k := 0) (pya_cons (w := 8) (py_str (by decide +kernel) (Nat.le_refl _)) (pya_cons (w := 8) (py_str (al_words o.1) (Nat.le_refl _)) (pya_cons (w := 6) (py_int o.2.1 (by have := o.2.2; omega) (Nat.le_refl _)) pya_nil)))).mono (by simp only [dp]; omega) (by simp only [wt]; omega), fun h => by cases h⟩
  | .map m r, o => ⟨(py_tup (pya_cons (w := 8) (py_str (by decide +kernel) (Nat.le_refl _)) (pya_cons (w := 8) (py_str (al_words o.1) (Nat.le_refl _)) (pya_cons (py_ok r o.2).1 pya_nil)))).mono (by simp only [dp]; omega) (by simp only [wt]; omega), fun h => by cases h⟩
  | .stamp m r i, o => ⟨(py_tup (pya_cons (w := 8) (py_str (by decide +kernel) (Nat.le_refl _)) (pya_cons (w := 8) (py_str (al_words o.1) (Nat.le_refl _)) (pya_cons (py_ok r o.2.1).1 (pya_cons (w := 6) (py_int o.2.2.1 (by have := o.2.2.2; omega) (Nat.le_refl _)) pya_nil))))).mono (by simp only [dp]; omega) (by simp only [wt]; omega), fun h => by cases h⟩
  | .mix m i r, o => ⟨(py_tup (pya_cons (w := 8) (py_str (by decide +kernel) (Nat.le_refl _)) (pya_cons (w := 8) (py_str (al_words o.1) (Nat.le_refl _)) (pya_cons (w := 6) (py_int o.2.1 (by have := o.2.2.1; omega) (Nat.le_refl _)) (pya_cons (py_ok r o.2.2.2).1 pya_nil))))).mono (by simp only [dp]; omega) (by simp only [wt]; omega), fun h => by cases h⟩
  | .one f r, o =>
    have a : PyA (dp r) (wt r + 1 + 0) [enc r] := pya_cons (py_ok r o.2).1 pya_nil
    ⟨(py_tup (pya_cons (w := 8) (py_str (by decide +kernel) (Nat.le_refl _)) (pya_cons (w := 8) (py_str (al_words o.1) (Nat.le_refl _)) (pya_cons (py_tup a) pya_nil)))).mono (by simp only [dp]; omega) (by simp only [wt]; omega), fun _ => ⟨_, _, a, by simp only [dp]; omega, by simp only [wt]; omega⟩⟩
  | .more i r, o => by
    obtain ⟨k, w, a, hk, hw⟩ := (py_ok i o.2.1).2 o.1
    have b : PyA (max k (dp r)) (w + (wt r + 1 + 0)) (its (enc i) ++ [enc r]) := pya_append (a.mono (Nat.le_max_left _ _) (Nat.le_refl _)) (pya_cons ((py_ok r o.2.2).1.mono (Nat.le_max_right _ _) (Nat.le_refl _)) pya_nil)
    refine ⟨(py_tup (pya_cons (w := 8) (py_str (by decide +kernel) (Nat.le_refl _)) (pya_cons (w := 8) (py_str (al_words (fnm_al o.2.1)) (Nat.le_refl _)) (pya_cons (py_tup b) pya_nil)))).mono (by simp only [dp]; omega) (by simp only [wt]; omega), fun _ => ⟨_, _, b, by simp only [dp]; omega, by simp only [wt]; omega⟩⟩
end K03
end
section
set_option maxRecDepth 100000
set_option linter.all false
set_option maxHeartbeats 2000000
namespace K03
open PySem PySem.Spec PyProof.Rows L2 Fy
theorem Py.dpy {k w : Nat} {d : D} (h : Py k w d) (hk : k ≤ 64) : ∃ p, dPy d = some p ∧ toPy d = some p ∧ K03.pl p = true := by
  obtain ⟨p, h1, h2⟩ := h
  refine ⟨p, ?_, h1, h2.pl⟩
  unfold dPy
  rw [h1]
  have : SeqAt.shaped p = true := by
    unfold SeqAt.shaped
    rw [h2.lay, decide_eq_true (Nat.le_trans h2.dep hk)]
    rfl
  simp only [this, if_true]
theorem PyA.dpyL {k w : Nat} {l : List D} (h : PyA k w l) (hk : k ≤ 63) : ∃ ps, dPy (.lst l) = some (.list ps) ∧ toPyA l = some ps ∧ plA ps = true := by
  obtain ⟨p, h1, h2⟩ := h
  refine ⟨p, ?_, h1, h2.pl⟩
  unfold dPy
  simp only [toPy, h1, Option.map_some]
  have : SeqAt.shaped (.list p) = true := by
    unfold SeqAt.shaped
    simp only [PyData.canLay0, PyData.depth, h2.lay, Bool.true_and]
    exact decide_eq_true (by have := h2.dep; omega)
  simp only [this, if_true]
/-- membership by data is membership -/
theorem any_mem {d : D} {p : PyData} (hd : toPy d = some p) (hp : pl p = true) : ∀ {l : List D} {ps : List PyData}, toPyA l = some ps → plA ps = true → (ps.any (fun z => z.eqv p) = true ↔ d ∈ l)
  | [], ps, h, g => by simp only [toPyA] at h; cases h; simp
  | x :: l, ps, h, g => by
    simp only [toPyA] at h
    split at h
    · rename_i q qs h1 h2
      cases h
      simp only [plA, Bool.and_eq_true] at g
      rw [List.any_cons, Bool.or_eq_true, any_mem hd hp h2 g.2, eqv_pl g.1 hp, List.mem_cons]
      constructor
      · rintro (e | e)
        · subst e; exact .inl (toPy_inj hd h1)
        · exact .inr e
      · rintro (e | e)
        · subst e; rw [hd] at h1; cases h1; exact .inl rfl
        · exact .inr e
    · cases h
theorem notIn_ok {k w k' w' : Nat} {d : D} {l : List D} (h : Py k w d) (hl : PyA k' w' l) (hk : k ≤ 64) (hk' : k' ≤ 63) (hd : ∀ s, d ≠ .str s) : ∃ b, dNotIn d (.lst l) = some (.bl b) ∧ (b = true ↔ d ∉ l) := by
  obtain ⟨p, a1, a2, a3⟩ := h.dpy hk
  obtain ⟨ps, b1, b2, b3⟩ := hl.dpyL hk'
  refine ⟨!(ps.any fun z => z.eqv p), ?_, ?_⟩
  · unfold dNotIn dInG
    split
    · exact absurd rfl (hd _)
    · rename_i e
      cases e
      rw [a1, b1]
    · rename_i e; cases e
    · rename_i c1 c2 c3
      first | exact (c1 _ rfl).elim | exact (c2 _ rfl).elim | exact (c3 _ rfl).elim
  · rw [Bool.not_eq_true', ← Bool.not_eq_true, any_mem a2 a3 b2 b3]
theorem ne_ok {k w k' w' : Nat} {d e : D} (h : Py k w d) (hl : Py k' w' e) (hk : k ≤ 64) (hk' : k' ≤ 64) : ∃ b, dNe d e = some (.bl b) ∧ (b = true ↔ d ≠ e) := by
  obtain ⟨p, a1, a2, a3⟩ := h.dpy hk
  obtain ⟨q, b1, b2, b3⟩ := hl.dpy hk'
  refine ⟨!(p.eqv q), ?_, ?_⟩
  · unfold dNe dEqG
    rw [a1, b1]
  · rw [Bool.not_eq_true', ← Bool.not_eq_true, eqv_pl a3 b3]
    constructor
    · intro n e; subst e; rw [a2] at b2; cases b2; exact n rfl
    · intro n e; subst e; exact n (toPy_inj a2 b2)
/-- is the line empty? -/
theorem line_ok {k w : Nat} {l : List D} (hl : PyA k w l) (hk : k ≤ 63) : dNe (.lst l) (.lst []) = some (.bl (!l.isEmpty)) := by
  obtain ⟨ps, b1, b2, b3⟩ := hl.dpyL hk
  unfold dNe dEqG
  rw [b1, show dPy (.lst []) = some (.list []) from rfl]
  cases l with
  | nil => simp only [toPyA] at b2; cases b2; rfl
  | cons x l =>
    simp only [toPyA] at b2
    split at b2
    · cases b2; simp [PyData.eqv, PyData.eqvAll]
    · cases b2
end K03
end
section
set_option maxRecDepth 100000
set_option linter.all false
set_option maxHeartbeats 2000000
namespace K03
open PySem PySem.Spec PyProof.Rows L2 Fy
theorem pya_rows : ∀ {L : List Row}, (∀ r ∈ L, Ok r ∧ dp r ≤ 60) → ∃ w, PyA 60 w (L.map enc)
  | [], _ => ⟨0, pya_nil⟩
  | r :: L, h => by
    obtain ⟨w, a⟩ := pya_rows (L := L) fun q m => h q (.tail _ m)
    have b := h r (.head _)
    exact ⟨_, pya_cons ((py_ok r b.1).1.mono b.2 (Nat.le_refl _)) a⟩
theorem enc_tup (r : Row) : ∃ l, enc r = .tup l := by
  cases r <;> exact ⟨_, rfl⟩
theorem look_put {k j : NestedKey} {v : List D} : ∀ {sn : List (NestedKey × List D)}, (lookL k sn).isSome = true → lookL j (putL k v sn) = if k = j then some v else lookL j sn
  | [], h => by cases h
  | e :: r, h => by
    simp only [putL]
    simp only [lookL] at h
    by_cases c : e.1 = k
    · rw [if_pos c]
      simp only [lookL]
      by_cases d : k = j
      · rw [if_pos d, if_pos d]
      · rw [if_neg d, if_neg d, if_neg (fun x => d (c.symm.trans x))]
    · rw [if_neg c] at h ⊢
      simp only [lookL]
      by_cases d : e.1 = j
      · rw [if_pos d, if_pos d, if_neg (fun x => c (d.trans x.symm))]
      · rw [if_neg d, if_neg d, look_put h]
theorem put_len {k : NestedKey} {v : List D} : ∀ {sn : List (NestedKey × List D)}, (putL k v sn).length = sn.length
  | [] => rfl
  | e :: r => by
    simp only [putL]
    split
    · rfl
    · simp only [List.length_cons, put_len]
theorem look_app {k j : NestedKey} {v : List D} : ∀ {sn : List (NestedKey × List D)}, lookL k sn = none → lookL j (sn ++ [(k, v)]) = if k = j then some v else lookL j sn
  | [], h => by simp only [List.nil_append, lookL]
  | e :: r, h => by
    simp only [lookL] at h
    split at h
    · cases h
    · rename_i c
      simp only [List.cons_append, lookL]
      by_cases d : e.1 = j
      · rw [if_pos d, if_pos d, if_neg (fun x => c (d.trans x.symm))]
      · rw [if_neg d, if_neg d, look_app h]
def pkD (fp : SS → Fo) (d : D) : Option NestedKey := match fp [.va d] with
  | .va (.tup l) _ => (toPy (.tup l)).bind keyOf
  | _ => none
/-- the rows within -/
inductive Cl (rows : List Row) : Row → Prop
  | base {r : Row} : r ∈ rows → Cl rows r
  | step {r q : Row} : Cl rows r → q ∈ parts r → Cl rows q
/-- what both walks of the rows within keep -/
structure WI (rows F L : List Row) : Prop where
  nd : (F.map enc).Nodup
  ok : ∀ r ∈ F ++ L, Ok r ∧ dp r ≤ 60
  cl : ∀ r ∈ F ++ L, Cl rows r
  base : ∀ r ∈ rows, enc r ∈ (F ++ L).map enc
  step : ∀ r ∈ F, ∀ q ∈ parts r, enc q ∈ (F ++ L).map enc
theorem dp_parts : ∀ {r q : Row}, q ∈ parts r → dp q ≤ dp r
  | .row _ _, q, h => by cases h
  | .map _ r, q, h => by cases List.mem_singleton.mp h; simp only [dp]; omega
  | .stamp _ r _, q, h => by cases List.mem_singleton.mp h; simp only [dp]; omega
  | .mix _ _ r, q, h => by cases List.mem_singleton.mp h; simp only [dp]; omega
  | .one _ r, q, h => by cases List.mem_singleton.mp h; simp only [dp]; omega
  | .more i r, q, h => by
    rcases List.mem_cons.mp h with rfl | h
    · simp only [dp]; omega
    · cases List.mem_singleton.mp h; simp only [dp]; omega
theorem parts_enc {r q : Row} (h : Ok r) (g : Ok q) (e : enc r = enc q) : (parts r).map enc = (parts q).map enc := by
  have a := parts_ok 0 r h
  have b := parts_ok 0 q g
  rw [e, b] at a
  exact (Fo.li.inj a).1.symm
/-- one that is there already -/
theorem WI.skip {rows F L L' : List Row} {r : Row} (h : WI rows F L) (m : enc r ∈ F.map enc) (hL : ∀ q, q ∈ L ↔ q = r ∨ q ∈ L') : WI rows F L' := by
  have sub : ∀ d, d ∈ (F ++ L).map enc → d ∈ (F ++ L').map enc := by
    intro d hd
    rw [List.map_append, List.mem_append] at hd ⊢
    rcases hd with hd | hd
    · exact .inl hd
    · obtain ⟨q, hq, rfl⟩ := List.mem_map.1 hd
      rcases (hL q).1 hq with rfl | hq
      · exact .inl m
      · exact .inr (List.mem_map_of_mem hq)
  have sub' : ∀ q ∈ F ++ L', q ∈ F ++ L := fun q hq => by
    rcases List.mem_append.1 hq with hq | hq
    · exact List.mem_append_left _ hq
    · exact List.mem_append_right _ ((hL q).2 (.inr hq))
  exact ⟨h.nd, fun q hq => h.ok q (sub' q hq), fun q hq => h.cl q (sub' q hq), fun q hq => sub _ (h.base q hq), fun q hq p hp => sub _ (h.step q hq p hp)⟩
/-- a new one -/
theorem WI.take {rows F L L' : List Row} {r : Row} (h : WI rows F L) (m : enc r ∉ F.map enc) (hr : r ∈ L) (hL : ∀ q, q ∈ L → q = r ∨ q ∈ L') (hL' : ∀ q, q ∈ L' → q ∈ L ∨ q ∈ parts r) (hp : ∀ q ∈ parts r, q ∈ L') : WI rows (F ++ [r]) L' := by
  have sub : ∀ d, d ∈ (F ++ L).map enc → d ∈ ((F ++ [r]) ++ L').map enc := by
    intro d hd
    obtain ⟨q, hq, rfl⟩ := List.mem_map.1 hd
    refine List.mem_map_of_mem ?_
    rcases List.mem_append.1 hq with hq | hq
    · exact List.mem_append_left _ (List.mem_append_left _ hq)
    · rcases hL q hq with rfl | hq
      · exact List.mem_append_left _ (List.mem_append_right _ (.head _))
      · exact List.mem_append_right _ hq
  have hrr : r ∈ F ++ L := List.mem_append_right _ hr
  have sub' : ∀ q ∈ (F ++ [r]) ++ L', q ∈ F ++ L ∨ q ∈ parts r := fun q hq => by
    rcases List.mem_append.1 hq with hq | hq
    · rcases List.mem_append.1 hq with hq | hq
      · exact .inl (List.mem_append_left _ hq)
      · cases List.mem_singleton.1 hq; exact .inl hrr
    · rcases hL' q hq with hq | hq
      · exact .inl (List.mem_append_right _ hq)
      · exact .inr hq
  refine ⟨?_, fun q hq => ?_, fun q hq => ?_, fun q hq => sub _ (h.base q hq), fun q hq p hp' => ?_⟩
  · rw [List.map_append, List.nodup_append]
    exact ⟨h.nd, by simp, fun a ha b hb e => by
      cases List.mem_singleton.1 hb
      subst e
      exact m ha⟩
  · rcases sub' q hq with a | a
    · exact h.ok q a
    · exact ⟨(h.ok r hrr).1.parts q a, Nat.le_trans (dp_parts a) (h.ok r hrr).2⟩
  · rcases sub' q hq with a | a
    · exact h.cl q a
    · exact .step (h.cl r hrr) a
  · rcases List.mem_append.1 hq with a | a
    · exact sub _ (h.step q a p hp')
    · cases List.mem_singleton.1 a
      exact List.mem_map_of_mem (List.mem_append_right _ (hp p hp'))
/-- at the end: the rows within, each once -/
theorem WI.done {rows F : List Row} (h : WI rows F []) (ho : ∀ r ∈ rows, Ok r) : ∀ d, d ∈ F.map enc ↔ ∃ r, Cl rows r ∧ enc r = d := by
  intro d
  constructor
  · intro hd
    obtain ⟨q, hq, rfl⟩ := List.mem_map.1 hd
    exact ⟨q, h.cl q (List.mem_append_left _ hq), rfl⟩
  · rintro ⟨r, c, rfl⟩
    have key : Ok r ∧ enc r ∈ F.map enc := by
      induction c with
      | base m => exact ⟨ho _ m, by have := h.base _ m; rwa [List.append_nil] at this⟩
      | step c m ih =>
        rename_i r q
        refine ⟨ih.1.parts _ m, ?_⟩
        obtain ⟨r', hr', e⟩ := List.mem_map.1 ih.2
        have pe := parts_enc (h.ok r' (List.mem_append_left _ hr')).1 ih.1 e
        have : enc q ∈ (parts r').map enc := by rw [pe]; exact List.mem_map_of_mem m
        obtain ⟨q', hq', e'⟩ := List.mem_map.1 this
        have := h.step r' hr' q' hq'
        rwa [List.append_nil, e'] at this
    exact key.2
end K03
end
section
set_option maxRecDepth 100000
set_option linter.all false
set_option maxHeartbeats 2000000
namespace K03
open PySem PySem.Spec PyProof.Rows L2 Fy
/-- what `within` has seen -/
def pick (fp : SS → Fo) (k : NestedKey) (F : List Row) : List Row := F.filter fun r => decide (pkD fp (enc r) = some k)
structure SI (fp : SS → Fo) (F : List Row) (seen : List (NestedKey × List D)) : Prop where
  at_ : ∀ k, (lookL k seen).getD [] = (pick fp k F).map enc
  len : seen.length ≤ F.length
theorem pick_mem {fp : SS → Fo} {k : NestedKey} {F : List Row} {r : Row} (h : pkD fp (enc r) = some k) : enc r ∈ (pick fp k F).map enc ↔ enc r ∈ F.map enc := by
  constructor
  · intro m
    obtain ⟨q, hq, e⟩ := List.mem_map.1 m
    exact e ▸ List.mem_map_of_mem (List.mem_filter.1 hq).1
  · intro m
    obtain ⟨q, hq, e⟩ := List.mem_map.1 m
    rw [← e]
    exact List.mem_map_of_mem (List.mem_filter.2 ⟨hq, decide_eq_true (by rw [e]; exact h)⟩)
theorem wStep_ok {fp fq : SS → Fo} {r : Row} {F L : List Row} {seen : List (NestedKey × List D)} {l : List D} {k : NestedKey} (o : Ok r ∧ dp r ≤ 60) (hF : ∀ r ∈ F, Ok r ∧ dp r ≤ 60)
    (hp : fp [.va (enc r)] = .va (.tup l) []) (hk : (toPy (.tup l)).bind keyOf = some k) (h8 : decide (k.depth ≤ 8) = true) (hq : fq [.va (enc r)] = .li ((parts r).map enc) []) (s : SI fp F seen) (hn : F.length < 900000) (hl : L.length < 900000) :
    (enc r ∈ F.map enc ∧ ∃ seen', wStep fp fq (enc r) (F.map enc) (L.map enc) seen = some (F.map enc, L.map enc, seen') ∧ SI fp F seen') ∨
    (enc r ∉ F.map enc ∧ ∃ seen', wStep fp fq (enc r) (F.map enc) (L.map enc) seen = some ((F ++ [r]).map enc, (L ++ (parts r).reverse).map enc, seen') ∧ SI fp (F ++ [r]) seen') := by
  have hpk : pkD fp (enc r) = some k := by unfold pkD; rw [hp]; exact hk
  have hlen : okLen (seen.length + 1) = true := decide_eq_true (by have := s.len; omega)
  obtain ⟨w, pa⟩ := pya_rows (L := pick fp k F) fun q m => hF q (List.mem_filter.1 m).1
  obtain ⟨b, hb, hb'⟩ := notIn_ok ((py_ok r o.1).1.mono o.2 (Nat.le_refl _)) pa (by decide) (by decide) (fun x e => by obtain ⟨l, q⟩ := enc_tup r; rw [q] at e; cases e)
  rw [← s.at_ k] at hb hb'
  have hm := pick_mem (F := F) hpk
  rw [← s.at_ k] at hm
  have hpl : (pick fp k F).length ≤ F.length := List.length_filter_le _ _
  have hpp : (parts r).length ≤ 2 := by cases r <;> simp [parts]
  cases b with
  | false =>
    have : enc r ∈ F.map enc := hm.1 (Classical.byContradiction fun c => by simpa using hb'.2 c)
    refine .inl ⟨this, if (lookL k seen).isSome then seen else seen ++ [(k, [])], ?_, ?_⟩
    · unfold wStep
      simp only [hp, hk, h8, hlen, hb, Bool.and_self, if_true]
    · cases q : lookL k seen with
      | some x => simpa [q] using s
      | none =>
        exfalso
        have := hm.2 this
        rw [q] at this
        cases this
  | true =>
    have hnew : enc r ∉ F.map enc := fun c => hb'.1 rfl (hm.2 c)
    have c1 : okLen (((lookL k seen).getD []).length + 1) = true := decide_eq_true (by rw [s.at_ k, List.length_map]; omega)
    have c2 : okLen ((F.map enc).length + 1) = true := decide_eq_true (by rw [List.length_map]; omega)
    have c3 : okLen ((L.map enc).length + ((parts r).map enc).length) = true := decide_eq_true (by rw [List.length_map, List.length_map]; omega)
    refine .inr ⟨hnew, if (lookL k seen).isSome then putL k ((lookL k seen).getD [] ++ [enc r]) seen else seen ++ [(k, [enc r])], ?_, ?_, ?_⟩
    · unfold wStep
      simp only [hp, hk, h8, hlen, hb, hq, c1, c2, c3, Bool.and_self, if_true, List.map_append, List.map_reverse, List.map_cons, List.map_nil]
    · intro j
      have e1 : (pick fp j (F ++ [r])).map enc = (pick fp j F).map enc ++ (if k = j then [enc r] else []) := by
        unfold pick
        rw [List.filter_append, List.map_append]
        congr 1
        by_cases d : k = j
        · subst d; simp [hpk]
        · simp [hpk, d]
      rw [e1]
      cases q : lookL k seen with
      | some x =>
        rw [if_pos (by rfl), look_put (by rw [q]; rfl)]
        by_cases d : k = j
        · subst d
          rw [if_pos rfl, if_pos rfl, ← s.at_ k, q]
          rfl
        · rw [if_neg d, if_neg d, s.at_ j, List.append_nil]
      | none =>
        rw [if_neg (by decide), look_app q]
        by_cases d : k = j
        · subst d
          have := s.at_ k
          rw [q] at this
          rw [if_pos rfl, if_pos rfl, ← this]
          rfl
        · rw [if_neg d, if_neg d, s.at_ j, List.append_nil]
    · have := s.len
      cases q : lookL k seen with
      | some x => rw [if_pos (by rfl), put_len, List.length_append]; exact Nat.le_add_right_of_le this
      | none => rw [if_neg (by decide), List.length_append, List.length_append]; simpa using this
theorem cnt_pos (r : Row) : 1 ≤ cnt r := by cases r <;> simp [cnt]
theorem len_cnt : ∀ (L : List Row), L.length ≤ (L.map cnt).sum
  | [] => Nat.le_refl _
  | r :: L => by have := len_cnt L; have := cnt_pos r; simp only [List.length_cons, List.map_cons, List.sum_cons]; omega
theorem wLoop_ok {fp fq : SS → Fo} {rows : List Row} (hp : ∀ r, Ok r → Cl rows r → ∃ l k, fp [.va (enc r)] = .va (.tup l) [] ∧ (toPy (.tup l)).bind keyOf = some k ∧ decide (k.depth ≤ 8) = true) (hq : ∀ r, Ok r → Cl rows r → fq [.va (enc r)] = .li ((parts r).map enc) []) :
    ∀ (m : Nat) (F L : List Row) (seen : List (NestedKey × List D)), WI rows F L → SI fp F seen → (L.map cnt).sum < m → F.length + (L.map cnt).sum < 900000 → ∃ F', wLoop fp fq m (F.map enc) (L.map enc) seen = some (F'.map enc) ∧ WI rows F' []
  | 0, _, _, _, _, _, h, _ => absurd h (Nat.not_lt_zero _)
  | m + 1, F, L, seen, I, s, hm, hn => by
    obtain ⟨w, pa⟩ := pya_rows (L := L) fun q m => I.ok q (List.mem_append_right _ m)
    have hline := line_ok pa (by decide)
    unfold wLoop
    rw [hline]
    rcases List.eq_nil_or_concat L with rfl | ⟨L', r, rfl⟩
    · exact ⟨F, rfl, I⟩
    · have e1 : (L'.concat r).map enc = L'.map enc ++ [enc r] := by simp
      have e2 : ((L'.concat r).map cnt).sum = (L'.map cnt).sum + cnt r := by simp
      rw [e2] at hm hn
      have hr : r ∈ L'.concat r := by simp
      have o := I.ok r (List.mem_append_right _ hr)
      have c := I.cl r (List.mem_append_right _ hr)
      have x1 : (!((L'.concat r).map enc).isEmpty) = true := by rw [e1]; simp
      have x2 : ((L'.concat r).map enc)[((L'.concat r).map enc).length - 1]? = some (enc r) := by rw [e1]; simp
      have x3 : ((L'.concat r).map enc).dropLast = L'.map enc := by rw [e1]; simp
      simp only [x1, x2, x3]
      obtain ⟨l, k, p1, p2, p3⟩ := hp r o.1 c
      have ll := len_cnt L'
      have cp := cnt_parts r
      rcases wStep_ok (L := L') o (fun q m => I.ok q (List.mem_append_left _ m)) p1 p2 p3 (hq r o.1 c) s (by omega) (by omega) with ⟨a, s', w1, w2⟩ | ⟨a, s', w1, w2⟩
      · rw [w1]
        exact wLoop_ok hp hq m F L' s' (I.skip (r := r) a fun q => by simp [or_comm]) w2 (by omega) (by omega)
      · rw [w1]
        have e3 : ((L' ++ (parts r).reverse).map cnt).sum = (L'.map cnt).sum + ((parts r).map cnt).sum := by simp
        refine wLoop_ok hp hq m (F ++ [r]) (L' ++ (parts r).reverse) s' (I.take (r := r) a hr (fun q h => ?_) (fun q h => ?_) fun q h => ?_) w2 (by rw [e3]; omega) (by rw [e3, List.length_append]; simp; omega)
        · simp at h; rcases h with h | h
          · exact .inr (List.mem_append_left _ h)
          · exact .inl h
        · rcases List.mem_append.1 h with h | h
          · exact .inl (by simp [h])
          · exact .inr (by simpa using h)
        · exact List.mem_append_right _ (by simpa using h)
theorem WI.start {rows L : List Row} (h : ∀ r, r ∈ L ↔ r ∈ rows) (ho : ∀ r ∈ rows, Ok r ∧ dp r ≤ 60) : WI rows [] L :=
  ⟨List.nodup_nil, fun r m => ho r ((h r).1 m), fun r m => .base ((h r).1 m), fun r m => List.mem_map_of_mem ((h r).2 m), fun r m => by cases m⟩
theorem Cl.ok {rows : List Row} (ho : ∀ r ∈ rows, Ok r ∧ dp r ≤ 60) {r : Row} (c : Cl rows r) : Ok r ∧ dp r ≤ 60 := by
  induction c with
  | base m => exact ho _ m
  | step c m ih => exact ⟨ih.1.parts _ m, Nat.le_trans (dp_parts m) ih.2⟩
end K03
end
section
set_option maxRecDepth 100000
set_option linter.all false
set_option maxHeartbeats 2000000
namespace K03
open PySem PySem.Spec PyProof.Rows L2 Fy
def KD (m : Nat) (d : D) : Prop := ∃ p k, toPy d = some p ∧ Fy.keyOf p = some k ∧ k.depth ≤ m
def KDA (m : Nat) (l : List D) : Prop := ∃ p k, toPyA l = some p ∧ Fy.keyOfA p = some k ∧ NestedKey.depthAll k ≤ m
theorem kda_nil {m : Nat} : KDA m [] := ⟨[], [], rfl, rfl, Nat.zero_le _⟩
theorem kda_cons {m : Nat} {d : D} {l : List D} (h : KD m d) (t : KDA m l) : KDA m (d :: l) := by
  obtain ⟨p, k, a1, a2, a3⟩ := h
  obtain ⟨q, j, b1, b2, b3⟩ := t
  exact ⟨p :: q, k :: j, by simp only [toPyA, a1, b1], by simp only [Fy.keyOfA, a2, b2], by simp only [NestedKey.depthAll]; omega⟩
theorem kd_tup {m : Nat} {l : List D} (h : KDA m l) : KD (m + 1) (.tup l) := by
  obtain ⟨p, k, a1, a2, a3⟩ := h
  exact ⟨.tuple p, .tup k, by simp only [toPy, a1, Option.map_some], by simp only [Fy.keyOf, a2, Option.map_some], by simp only [NestedKey.depth]; omega⟩
theorem kd_int {m : Nat} (i : Int) : KD (m + 1) (.int i) := ⟨.int i, .num i, rfl, rfl, by simp only [NestedKey.depth]; omega⟩
theorem kd_str {m : Nat} (x : Str) : KD (m + 1) (.str x) := ⟨.str x, .text x, rfl, rfl, by simp only [NestedKey.depth]; omega⟩
theorem kda_append {m : Nat} : ∀ {a b : List D}, KDA m a → KDA m b → KDA m (a ++ b)
  | [], b, _, h => h
  | x :: a, b, h, t => by
    obtain ⟨p, k, a1, a2, a3⟩ := h
    simp only [toPyA] at a1
    split at a1
    · rename_i q qs e1 e2
      cases a1
      simp only [Fy.keyOfA] at a2
      split at a2
      · rename_i j js f1 f2
        cases a2
        simp only [NestedKey.depthAll] at a3
        exact kda_cons ⟨q, j, e1, f1, by omega⟩ (kda_append ⟨qs, js, e2, f2, by omega⟩ t)
      · cases a2
    · cases a1
theorem sides_kda : ∀ (r : Row), KDA 2 (sides r)
  | .row _ _ => kda_nil
  | .map _ r => sides_kda r
  | .stamp _ r _ => sides_kda r
  | .mix m s r => kda_append (sides_kda r) (kda_cons (kd_tup (kda_cons (kd_str m) (kda_cons (kd_int s) kda_nil))) kda_nil)
  | .one _ _ => kda_nil
  | .more _ _ => kda_nil
theorem nm_kd (r : Row) : KD 4 (nm r) := by
  unfold nm
  split
  · exact kd_tup (kda_cons (kd_str _) (kda_cons (kd_int _) (kda_cons (kd_tup (sides_kda r)) kda_nil)))
  · exact kd_tup (kda_cons (kd_str _) (kda_cons (kd_int _) (kda_cons (kd_tup (sides_kda r)) kda_nil)))
theorem hgt_dp : ∀ (r : Row), hgt r ≤ dp r
  | .row _ _ => Nat.zero_le _
  | .map _ r => by have := hgt_dp r; simp only [hgt, dp]; omega
  | .stamp _ r _ => by have := hgt_dp r; simp only [hgt, dp]; omega
  | .mix _ _ r => by have := hgt_dp r; simp only [hgt, dp]; omega
  | .one _ _ => Nat.zero_le _
  | .more _ _ => Nat.zero_le _
theorem place_key (n : Nat) (hn : 60 < n) (r : Row) (o : Ok r ∧ dp r ≤ 60) : ∃ l k, f_place_of n [.va (enc r)] = .va (.tup l) [] ∧ (toPy (.tup l)).bind Fy.keyOf = some k ∧ decide (k.depth ≤ 8) = true := by
  have h := hgt_dp r
  obtain ⟨p, k, a1, a2, a3⟩ := kd_tup (kda_cons (m := 4) (kd_str (node r)) (kda_cons (nm_kd r) kda_nil))
  exact ⟨_, k, place_ok r o.1 n (by omega) (by omega), by rw [a1]; exact a2, decide_eq_true (by omega)⟩
/-- within(rows), of a list or a tuple of rows -/
theorem within_ok (n : Nat) (hn : 60 < n) {rows : List Row} (ho : ∀ r ∈ rows, Ok r ∧ dp r ≤ 60) (hc : (rows.map cnt).sum < n) (hc2 : (rows.map cnt).sum < 900000) {d : D} (hd : dItems d = some (rows.map enc)) :
    ∃ F, f_within n [.va d] = .va (.tup (F.map enc)) [] ∧ WI rows F [] := by
  have e : (rows.map enc).reverse = rows.reverse.map enc := by simp
  have hs : (rows.reverse.map cnt).sum = (rows.map cnt).sum := by simp
  obtain ⟨F, w1, w2⟩ := wLoop_ok (fp := f_place_of n) (fq := f_parts_of n) (rows := rows) (fun r _ c => place_key n hn r (c.ok ho)) (fun r o c => parts_ok n r o) n [] rows.reverse []
    (WI.start (fun r => List.mem_reverse) ho) ⟨fun k => rfl, Nat.le_refl _⟩ (by rw [hs]; exact hc) (by rw [hs]; simpa using hc2)
  refine ⟨F, ?_, w2⟩
  have b : b_within n (w0 d) = .rt (.tup (F.map enc)) (w0 d) := by
    show bWithin _ _ n (w0 d) = _
    have w1' : wLoop (f_place_of n) (f_parts_of n) n [] (rows.map enc).reverse [] = some (F.map enc) := by rw [e]; exact w1
    simp only [bWithin, hd, w1']
  exact z_fnRt b
end K03
end
section
set_option maxRecDepth 100000
set_option linter.all false
set_option maxHeartbeats 2000000
namespace K03
open PySem PySem.Spec PyProof.Rows L2 Fy
/-! ### _law_within -/
def lwPar : SF := (sPar [] [1, 2] (mOw (aFit (aNil)) (mOw (aCB (g1 dItems) (lCons (pVar 0) (lNil))) (mNil))))
def lwC : TF := (tBl (eBin dNe (pVar 2) (pV (eLst (aFit (aNil))))))
def lwPop : SF := (sAsg (ePopAt 2 (eC (.int 0))) (gSlot [] 3))
def lwIn : TF := (tBl (eBin dNotIn (pVar 3) (pVar 1)))
def lwApp : SF := (sExpr (eAppend 1 (eVar [] 3)))
def lwFq : TF := (tBl (eBin dEq (pV (eBin dIx (pVar 3) (pV (eC (.int 0))))) (pV (eC (.str "fold")))))
def lwX : PF := (pV (eBin dAdd (pVar 2) (pV (eLst (aFit (aCons (eBin dIx (pV (eBin dIx (pVar 3) (pV (eC (.int 2))))) (pV (eNeg (eC (.int 1))))) (aNil)))))))
def lwY : PF := (pV (eIf (tBl (eBin dGt (pV (eCB (g1 dLen) (lCons (pV (eBin dIx (pVar 3) (pV (eC (.int 2))))) (lNil)))) (pV (eC (.int 1))))) (eLst (aFit (aCons (eTup (aCons (eC (.str "fold")) (aCons (eBin dIx (pVar 3) (pV (eC (.int 1)))) (aCons (eSl (pV (eBin dIx (pVar 3) (pV (eC (.int 2))))) (oNone) (oSome (eNeg (eC (.int 1))))) (aNil))))) (aNil)))) (eLst (aFit (aNil)))))
def lwMq : TF := (tBl (eBin dNe (pV (eBin dIx (pVar 3) (pV (eC (.int 0))))) (pV (eC (.str "row")))))
def lwM : SF := (sExpr (eAppend 2 (eIf (tBl (eBin dEq (pV (eBin dIx (pVar 3) (pV (eC (.int 0))))) (pV (eC (.str "mix"))))) (eBin dIx (pVar 3) (pV (eC (.int 3)))) (eBin dIx (pVar 3) (pV (eC (.int 2)))))))
def lwT : SF := sSeq lwApp (sIf lwFq (sOwn [] 2 (aCat lwX lwY)) (sIf lwMq lwM (sNil)))
def lwB : SF := sSeq lwPop (sIf lwIn lwT (sNil))
theorem lw_eq (n : Nat) : b__law_within n = sSeq lwPar (sSeq (sWhile lwC lwB n) (sRetO [] 1)) := rfl

theorem ix0 (n : Nat) : seqIndex? 0 (n + 1) = some 0 := by
  unfold seqIndex?
  simp
theorem lw_pop (d x : D) (F L : List D) (sv : SV) (hs : ∀ l, sv ≠ .ow l) : lwPop [.va d, .ow F, .ow (x :: L), sv] = .nx [.va d, .ow F, .ow L, .va x] := by
  refine z_asg (S1 := [.va d, .ow F, .ow L, sv]) (d := x) ?_ ?_
  · show ePopAt 2 (eC (.int 0)) _ = _
    unfold ePopAt
    have e : owAt [.va d, .ow F, .ow (x :: L), sv] 2 = some (x :: L) := rfl
    have e2 : eC (.int 0) [.va d, .ow F, .ow (x :: L), sv] = .ok (.int 0) [.va d, .ow F, .ow (x :: L), sv] := rfl
    simp only [e, e2, R.bind, List.length_cons, ix0]
    rfl
  · cases sv with
    | ow l => exact absurd rfl (hs l)
    | un => rfl
    | va y => rfl
theorem lw_app (d x : D) (F L : List D) (h : okLen (F.length + 1) = true) : lwApp [.va d, .ow F, .ow L, .va x] = .nx [.va d, .ow (F ++ [x]), .ow L, .va x] :=
  y_append (l := F) (d := x) (by rfl) (by rfl) h
theorem lw_row (d b i : D) (F L : List D) (h : okLen (F.length + 1) = true) : lwT [.va d, .ow F, .ow L, .va (.tup [.str "row", b, i])] = .nx [.va d, .ow (F ++ [.tup [.str "row", b, i]]), .ow L, .va (.tup [.str "row", b, i])] :=
  z_seq (lw_app _ _ _ _ h) (y_ifF (by kernel_rfl) (y_ifF (by kernel_rfl) (by rfl)))
theorem lw_map (d b i : D) (F L : List D) (h : okLen (F.length + 1) = true) (h2 : okLen (L.length + 1) = true) : lwT [.va d, .ow F, .ow L, .va (.tup [.str "map", b, i])] = .nx [.va d, .ow (F ++ [.tup [.str "map", b, i]]), .ow (L ++ [i]), .va (.tup [.str "map", b, i])] :=
  z_seq (lw_app _ _ _ _ h) (y_ifF (by kernel_rfl) (y_ifT (by kernel_rfl) (y_append (l := L) (d := i) (by rfl) (by kernel_rfl) h2)))
theorem lw_stamp (d b i o : D) (F L : List D) (h : okLen (F.length + 1) = true) (h2 : okLen (L.length + 1) = true) : lwT [.va d, .ow F, .ow L, .va (.tup [.str "stamp", b, i, o])] = .nx [.va d, .ow (F ++ [.tup [.str "stamp", b, i, o]]), .ow (L ++ [i]), .va (.tup [.str "stamp", b, i, o])] :=
  z_seq (lw_app _ _ _ _ h) (y_ifF (by kernel_rfl) (y_ifT (by kernel_rfl) (y_append (l := L) (d := i) (by rfl) (by kernel_rfl) h2)))
theorem lw_mix (d b i o : D) (F L : List D) (h : okLen (F.length + 1) = true) (h2 : okLen (L.length + 1) = true) : lwT [.va d, .ow F, .ow L, .va (.tup [.str "mix", b, o, i])] = .nx [.va d, .ow (F ++ [.tup [.str "mix", b, o, i]]), .ow (L ++ [i]), .va (.tup [.str "mix", b, o, i])] :=
  z_seq (lw_app _ _ _ _ h) (y_ifF (by kernel_rfl) (y_ifT (by kernel_rfl) (y_append (l := L) (d := i) (by rfl) (by kernel_rfl) h2)))
theorem dAdd_cat (a b : List D) (h : okLen (a.length + b.length) = true) : dAdd (.lst a) (.lst b) = some (.lst (a ++ b)) := by
  unfold dAdd
  simp only [h, if_true]
theorem lw_one (d f x : D) (F L : List D) (h : okLen (F.length + 1) = true) (h2 : okLen (L.length + 1) = true) : lwT [.va d, .ow F, .ow L, .va (.tup [.str "fold", f, .tup [x]])] = .nx [.va d, .ow (F ++ [.tup [.str "fold", f, .tup [x]]]), .ow (L ++ [x]), .va (.tup [.str "fold", f, .tup [x]])] := by
  refine z_seq (lw_app _ _ _ _ h) (y_ifT (by kernel_rfl) ?_)
  have e : aCat lwX lwY [.va d, .ow (F ++ [.tup [.str "fold", f, .tup [x]]]), .ow L, .va (.tup [.str "fold", f, .tup [x]])] = .ok ((L ++ [x]) ++ []) [.va d, .ow (F ++ [.tup [.str "fold", f, .tup [x]]]), .ow L, .va (.tup [.str "fold", f, .tup [x]])] :=
    z_cat (a := .val (.lst (L ++ [x]))) (b := .val (.lst [])) (y_pV (y_bin (a := .slot 2) (b := .val (.lst [x])) (x := .lst L) (y := .lst [x]) (by rfl) (by kernel_rfl) (by rfl) (by rfl) (dAdd_cat _ _ h2))) (by kernel_rfl) (by rfl) (by rfl) (by simpa using h2)
  have g := z_own (io := []) (i := 2) e (by show 2 < 4; decide) rfl
  rw [List.append_nil] at g
  exact g
theorem lw_more (d f x : D) (l F L : List D) (hl : 1 ≤ l.length) (h : okLen (F.length + 1) = true) (h2 : okLen (L.length + 2) = true) : lwT [.va d, .ow F, .ow L, .va (.tup [.str "fold", f, .tup (l ++ [x])])] = .nx [.va d, .ow (F ++ [.tup [.str "fold", f, .tup (l ++ [x])]]), .ow (L ++ [x, .tup [.str "fold", f, .tup l]]), .va (.tup [.str "fold", f, .tup (l ++ [x])])] := by
  refine z_seq (lw_app _ _ _ _ h) (y_ifT (by kernel_rfl) ?_)
  have hg : decide ((1 : Int) < ((l ++ [x]).length : Int)) = true := by
    rw [List.length_append]
    exact decide_eq_true (by simp; omega)
  generalize F ++ [.tup [.str "fold", f, .tup (l ++ [x])]] = F'
  have h1 : okLen (L.length + 1) = true := decide_eq_true (by have := of_decide_eq_true h2; omega)
  have e : aCat lwX lwY [.va d, .ow F', .ow L, .va (.tup [.str "fold", f, .tup (l ++ [x])])] = .ok ((L ++ [x]) ++ [.tup [.str "fold", f, .tup l]]) [.va d, .ow F', .ow L, .va (.tup [.str "fold", f, .tup (l ++ [x])])] := by
    refine z_cat (a := .val (.lst (L ++ [x]))) (b := .val (.lst [.tup [.str "fold", f, .tup l]])) (y_pV (y_bin (a := .slot 2) (b := .val (.lst [x])) (x := .lst L) (y := .lst [x]) (by rfl) ?_ (by rfl) (by rfl) (dAdd_cat _ _ h1))) ?_ (by rfl) (by rfl) (by simpa using h2)
    · exact y_pV (y_lst (y_fit (y_cons (y_bin (a := .val (.tup (l ++ [x]))) (b := .val (.int (-1))) (x := .tup (l ++ [x])) (y := .int (-1)) (by rfl) (by rfl) (by rfl) (by rfl) (at_last l x)) z_nil) (by rfl)))
    · refine y_pV (y_eIfT ?_ ?_)
      · refine y_tBl (y_bin (a := .val (.int (l ++ [x]).length)) (b := .val (.int 1)) (x := .int (l ++ [x]).length) (y := .int 1) (by rfl) (by rfl) (by rfl) (by rfl) ?_)
        rw [dGt_int, hg]
      · refine y_lst (y_fit (y_cons (y_tup (y_cons (by rfl) (y_cons (by rfl) (y_cons ?_ z_nil))) (by rfl)) z_nil) (by rfl))
        have e : eSl (pV (eBin dIx (pVar 3) (pV (eC (.int 2))))) (oNone) (oSome (eNeg (eC (.int 1)))) [.va d, .ow F', .ow L, .va (.tup [.str "fold", f, .tup (l ++ [x])])] = .ok (.tup (cutL (l ++ [x]) none (some (-1)))) [.va d, .ow F', .ow L, .va (.tup [.str "fold", f, .tup (l ++ [x])])] := by rfl
        rw [e, cut_last]
  have g := z_own (io := []) (i := 2) e (by show 2 < 4; decide) rfl
  rw [List.append_assoc] at g
  exact g
end K03
end
section
set_option maxRecDepth 100000
set_option linter.all false
set_option maxHeartbeats 2000000
namespace K03
open PySem PySem.Spec PyProof.Rows L2 Fy
theorem lw_step (d : D) (F L : List D) (h : okLen (F.length + 1) = true) (h2 : okLen (L.length + 2) = true) : ∀ (r : Row), Ok r → lwT [.va d, .ow F, .ow L, .va (enc r)] = .nx [.va d, .ow (F ++ [enc r]), .ow (L ++ (parts r).map enc), .va (enc r)] := by
  have h1 : okLen (L.length + 1) = true := decide_eq_true (by have := of_decide_eq_true h2; omega)
  intro r o
  cases r with
  | row b i =>
    have g := lw_row d (.str b) (.int i) F L h
    show lwT _ = .nx [.va d, .ow (F ++ [enc (.row b i)]), .ow (L ++ []), .va (enc (.row b i))]
    rw [List.append_nil]
    exact g
  | map m r => exact lw_map d (.str m) (enc r) F L h h1
  | stamp m r i => exact lw_stamp d (.str m) (enc r) (.int i) F L h h1
  | mix m i r => exact lw_mix d (.str m) (enc r) (.int i) F L h h1
  | one f r => exact lw_one d (.str f) (enc r) F L h h1
  | more i r =>
    obtain ⟨e1, e2⟩ := enc_fold o.1 o.2.1
    have g := lw_more d (.str (fnm i)) (enc r) (its (enc i)) F L (by rw [e2]; exact flen_pos o.1) h h2
    rw [← e1] at g
    exact g
theorem lw_in {k w k' w' : Nat} {d x : D} {F L : List D} (h : Py k w x) (hl : PyA k' w' F) (hk : k ≤ 64) (hk' : k' ≤ 63) (hx : ∀ s, x ≠ .str s) : ∃ b, lwIn [.va d, .ow F, .ow L, .va x] = .ok b [.va d, .ow F, .ow L, .va x] ∧ (b = true ↔ x ∉ F) := by
  obtain ⟨b, e, g⟩ := notIn_ok h hl hk hk' hx
  exact ⟨b, y_tBl (y_bin (a := .val x) (b := .slot 1) (x := x) (y := .lst F) (by rfl) (by rfl) (by rfl) (by rfl) e), g⟩
theorem lw_line {k w : Nat} {d : D} {F L : List D} {sv : SV} (hl : PyA k w L) (hk : k ≤ 63) : lwC [.va d, .ow F, .ow L, sv] = .ok (!L.isEmpty) [.va d, .ow F, .ow L, sv] :=
  y_tBl (y_bin (a := .slot 2) (b := .val (.lst [])) (x := .lst L) (y := .lst []) (by rfl) (by rfl) (by rfl) (by rfl) (line_ok hl hk))
theorem lw_loop {rows : List Row} (d : D) : ∀ (m : Nat) (F L : List Row) (sv : SV), (∀ l, sv ≠ .ow l) → WI rows F L → (L.map cnt).sum < m → F.length + (L.map cnt).sum < 900000 → ∃ F' sv', sWhile lwC lwB m [.va d, .ow (F.map enc), .ow (L.map enc), sv] = .nx [.va d, .ow (F'.map enc), .ow [], sv'] ∧ WI rows F' []
  | 0, _, _, _, _, _, h, _ => absurd h (Nat.not_lt_zero _)
  | m + 1, F, [], sv, hs, I, hm, hn => ⟨F, sv, y_whileF (lw_line (k := 0) pya_nil (by decide)), I⟩
  | m + 1, F, r :: L, sv, hs, I, hm, hn => by
    obtain ⟨w, pa⟩ := pya_rows (L := r :: L) fun q m => I.ok q (List.mem_append_right _ m)
    obtain ⟨w', pf⟩ := pya_rows (L := F) fun q m => I.ok q (List.mem_append_left _ m)
    have o := I.ok r (List.mem_append_right _ (.head _))
    obtain ⟨b, hb, hb'⟩ := lw_in (d := d) (L := L.map enc) ((py_ok r o.1).1.mono o.2 (Nat.le_refl _)) pf (by decide) (by decide) (fun x e => by obtain ⟨l, q⟩ := enc_tup r; rw [q] at e; cases e)
    have ll := len_cnt L
    have cp := cnt_parts r
    simp only [List.map_cons, List.sum_cons] at hm hn
    have hc : lwC [.va d, .ow (F.map enc), .ow ((r :: L).map enc), sv] = .ok true [.va d, .ow (F.map enc), .ow ((r :: L).map enc), sv] := lw_line pa (by decide)
    have hp : lwPop [.va d, .ow (F.map enc), .ow ((r :: L).map enc), sv] = .nx [.va d, .ow (F.map enc), .ow (L.map enc), .va (enc r)] := lw_pop d (enc r) (F.map enc) (L.map enc) sv hs
    cases b with
    | false =>
      have hmem : enc r ∈ F.map enc := Classical.byContradiction fun c => by simpa using hb'.2 c
      have hB : lwB [.va d, .ow (F.map enc), .ow ((r :: L).map enc), sv] = .nx [.va d, .ow (F.map enc), .ow (L.map enc), .va (enc r)] := z_seq hp (y_ifF hb (by rfl))
      obtain ⟨F', sv', g1, g2⟩ := lw_loop d m F L (.va (enc r)) (fun l e => by cases e) (I.skip (r := r) hmem fun q => by simp) (by omega) (by omega)
      exact ⟨F', sv', y_whileT hc hB g1, g2⟩
    | true =>
      have hnew : enc r ∉ F.map enc := hb'.1 rfl
      have hB : lwB [.va d, .ow (F.map enc), .ow ((r :: L).map enc), sv] = .nx [.va d, .ow ((F ++ [r]).map enc), .ow ((L ++ parts r).map enc), .va (enc r)] := by
        have g := lw_step d (F.map enc) (L.map enc) (decide_eq_true (by rw [List.length_map]; omega)) (decide_eq_true (by rw [List.length_map]; omega)) r o.1
        have e1 : (F ++ [r]).map enc = F.map enc ++ [enc r] := by simp
        have e2 : (L ++ parts r).map enc = L.map enc ++ (parts r).map enc := by simp
        rw [e1, e2]
        exact z_seq hp (y_ifT hb g)
      have e3 : ((L ++ parts r).map cnt).sum = (L.map cnt).sum + ((parts r).map cnt).sum := by simp
      obtain ⟨F', sv', g1, g2⟩ := lw_loop d m (F ++ [r]) (L ++ parts r) (.va (enc r)) (fun l e => by cases e)
        (I.take (r := r) hnew (.head _) (fun q h => by
          rcases List.mem_cons.1 h with h | h
          · exact .inl h
          · exact .inr (List.mem_append_left _ h)) (fun q h => by
          rcases List.mem_append.1 h with h | h
          · exact .inl (.tail _ h)
          · exact .inr h) fun q h => List.mem_append_right _ h) (by rw [e3]; omega) (by rw [e3, List.length_append]; simp; omega)
      exact ⟨F', sv', y_whileT hc hB g1, g2⟩
/-- _law_within(rows), of a list of rows -/
theorem lwithin_ok (n : Nat) {rows : List Row} (ho : ∀ r ∈ rows, Ok r ∧ dp r ≤ 60) (hc : (rows.map cnt).sum < n) (hc2 : (rows.map cnt).sum < 900000) :
    ∃ F, f__law_within n [.va (.lst (rows.map enc))] = .li (F.map enc) [] ∧ WI rows F [] := by
  obtain ⟨F, sv, w1, w2⟩ := lw_loop (rows := rows) (.lst (rows.map enc)) n [] rows .un (fun l e => by cases e) (WI.start (fun r => Iff.rfl) ho) hc (by simpa using hc2)
  refine ⟨F, ?_, w2⟩
  refine z_fnRl (S1 := [.va (.lst (rows.map enc)), .un, .ow [], sv]) ?_
  show b__law_within n [.va (.lst (rows.map enc)), .un, .un, .un] = _
  rw [lw_eq]
  refine z_seq (S1 := [.va (.lst (rows.map enc)), .ow [], .ow (rows.map enc), .un]) (by rfl) ?_
  exact z_seq w1 (by rfl)
end K03
end
section
set_option maxRecDepth 100000
set_option linter.all false
set_option maxHeartbeats 2000000
namespace K03
open PySem PySem.Spec PyProof.Rows L2 Fy
/-! ### sorted texts of the same rows -/
def sd (x : Str) : D := .str x
def strLe (a b : Str) : Bool := decide (a.cps.toList ≤ b.cps.toList)
theorem sort_str : ∀ (l : List Str), (l.map sd).mergeSort (W.dataLe false pyOf) = (l.mergeSort strLe).map sd := by
  intro l
  refine (List.map_mergeSort fun a _ b _ => ?_).symm
  have h : W.dataLe false (fun x : Str => PyData.str x) a b = strLe a b := by rw [W.dataLe_str (fun x : Str => x)]; rfl
  rw [← h]
  rfl
theorem strLe_trans (a b c : Str) (h : strLe a b = true) (g : strLe b c = true) : strLe a c = true :=
  decide_eq_true (List.le_trans (of_decide_eq_true h) (of_decide_eq_true g))
theorem strLe_total (a b : Str) : (strLe a b || strLe b a) = true := by
  rcases List.le_total a.cps.toList b.cps.toList with h | h
  · rw [show strLe a b = true from decide_eq_true h]; rfl
  · rw [show strLe b a = true from decide_eq_true h, Bool.or_true]
theorem strLe_anti {a b : Str} (h : strLe a b = true) (g : strLe b a = true) : a = b := by
  have e := List.le_antisymm (of_decide_eq_true h) (of_decide_eq_true g)
  cases a; cases b
  simpa using e
theorem sort_perm {l m : List Str} (h : l.Perm m) : l.mergeSort strLe = m.mergeSort strLe :=
  List.Perm.eq_of_pairwise (le := fun a b => strLe a b = true) (fun a b _ _ x y => strLe_anti x y) (List.pairwise_mergeSort strLe_trans strLe_total l) (List.pairwise_mergeSort strLe_trans strLe_total m)
    ((List.mergeSort_perm l strLe).trans (h.trans (List.mergeSort_perm m strLe).symm))
theorem toPyA_sd : ∀ (l : List Str), toPyA (l.map sd) = some (l.map .str)
  | [] => rfl
  | x :: l => by simp only [List.map_cons, toPyA, toPyA_sd l]; rfl
theorem sortOk_sd (l : List Str) : sortOk (l.map .str) = true := by
  unfold sortOk
  simp only [List.all_map, Bool.and_eq_true, Bool.or_eq_true]
  refine ⟨⟨?_, .inr ?_⟩, ?_⟩
  · exact List.all_eq_true.2 fun x _ => List.all_eq_true.2 fun y _ => rfl
  · exact List.all_eq_true.2 fun x _ => rfl
  · exact List.all_eq_true.2 fun x _ => rfl
theorem sorted_sd (l : List Str) : dSorted (.lst (l.map sd)) = some ((l.mergeSort strLe).map sd) := by
  unfold dSorted
  simp only [toPyA_sd, sortOk_sd, if_true, sort_str]
/-- equal lists of texts are not unequal -/
theorem dNe_same (l : List Str) (h : ∀ x ∈ l, (PyData.str x).canLay0 = true) : dNe (.lst (l.map sd)) (.lst (l.map sd)) = some (.bl false) := by
  have hc : ∀ (l : List Str), (∀ x ∈ l, (PyData.str x).canLay0 = true) → PyData.canLayAll0 (l.map .str) = true ∧ PyData.depthAll (l.map .str) = 0 ∧ PyData.eqvAll (l.map .str) (l.map .str) = true := by
    intro l
    induction l with
    | nil => intro _; exact ⟨rfl, rfl, rfl⟩
    | cons x l ih =>
      intro h
      obtain ⟨a, b, c⟩ := ih fun y m => h y (.tail _ m)
      refine ⟨?_, ?_, ?_⟩
      · simp only [List.map_cons, PyData.canLayAll0, h x (.head _), a, Bool.and_self]
      · simp only [List.map_cons, PyData.depthAll, b, PyData.depth]; rfl
      · simp only [List.map_cons, PyData.eqvAll, c, PyData.eqv, beq_self_eq_true, Bool.and_self]
  obtain ⟨a, b, c⟩ := hc l h
  have e : dPy (.lst (l.map sd)) = some (.list (l.map .str)) := by
    unfold dPy
    simp only [toPy, toPyA_sd, Option.map_some]
    have : SeqAt.shaped (.list (l.map .str)) = true := by
      unfold SeqAt.shaped
      simp only [PyData.canLay0, PyData.depth, a, b]
      rfl
    simp only [this, if_true]
  unfold dNe dEqG
  rw [e]
  simp only [PyData.eqv, c, Bool.not_true]
end K03
end
section
set_option maxRecDepth 100000
set_option linter.all false
set_option maxHeartbeats 2000000
namespace K03
open PySem PySem.Spec PyProof.Rows L2 Fy
/-! ### repr of rows -/
def shD (d : D) : Str := (pyOf d).shown
theorem repr_ok {k w : Nat} {d : D} (h : Py k w d) (hk : k ≤ 60) (hw : w ≤ 90000) (ht : ∃ l, d = .tup l) : dRepr d = some (sd (shD d)) ∧ (shD d).length ≤ 1000000 := by
  obtain ⟨p, h1, h2⟩ := h
  obtain ⟨l, rfl⟩ := ht
  have hl := PyData.shown_le 8 (by decide) p h2.sht
  have hw' := h2.wei
  have hlen : p.shown.length ≤ 1000000 := by omega
  have e : pyOf (.tup l) = p := by unfold pyOf; rw [h1]; rfl
  have ok : showOk p = true := by
    unfold showOk
    rw [h2.shw, h2.dic, decide_eq_true hlen, decide_eq_true (by have := h2.dep; omega : p.depth ≤ 64)]
    rfl
  refine ⟨?_, by unfold shD; rw [e]; exact hlen⟩
  unfold dRepr dShow
  simp only [h1, ok, if_true]
  unfold sd shD
  rw [e]
theorem comp_map {own : List Nat} {g : GF} {fe : EF} {f : D → D} {S0 : SS} : ∀ (l acc : List D), (∀ d ∈ l, ∃ S1 S3, g d S0 = some S1 ∧ fe S1 = .ok (f d) S3 ∧ noOw own S3 = true ∧ wipeS S3 own = S0) → acc.length + l.length ≤ 1000000 → comp own g tsYes fe l S0 acc = .ok (acc ++ l.map f) S0
  | [], acc, _, _ => by simp [comp]
  | d :: l, acc, h, hn => by
    obtain ⟨S1, S3, a1, a2, a3, a4⟩ := h d (.head _)
    have ho : okLen (acc.length + 1) = true := decide_eq_true (by simp only [List.length_cons] at hn; omega)
    unfold comp
    simp only [a1, tsYes, a2, ho, a3, Bool.and_self, if_true, a4]
    rw [comp_map l (acc ++ [f d]) (fun x m => h x (.tail _ m)) (by simp only [List.length_append, List.length_cons, List.length_nil] at hn ⊢; omega)]
    simp
end K03
end
section
set_option maxRecDepth 100000
set_option linter.all false
set_option maxHeartbeats 2000000
namespace K03
open PySem PySem.Spec PyProof.Rows L2 Fy
/-! ### shown texts can lie in a list that is compared -/
mutual
def lv : PyData → Bool
  | .int i => PyData.strOk (PyData.shown (.int i))
  | .str x => PyData.strOk (PyData.shown (.str x))
  | .tuple l => lvA l
  | _ => false
def lvA : List PyData → Bool
  | [] => true
  | p :: r => lv p && lvA r
end
theorem sok_app {a b : Str} (h : PyData.strOk a = true) (g : PyData.strOk b = true) : PyData.strOk (a ++ b) = true := by
  show (a.cps ++ b.cps).all _ = true
  rw [Array.all_append, Bool.and_eq_true]
  exact ⟨h, g⟩
theorem sok_join {sep : Str} (hs : PyData.strOk sep = true) : ∀ {l : List Str}, (∀ x ∈ l, PyData.strOk x = true) → PyData.strOk (Str.join sep l) = true
  | [], _ => (by decide +kernel : PyData.strOk Str.empty = true)
  | [x], h => h x (.head _)
  | x :: y :: l, h => by
    unfold Str.join
    exact sok_app (sok_app (h x (.head _)) hs) (sok_join hs fun z m => h z (.tail _ m))
theorem sok_tup {l : List Str} (h : ∀ x ∈ l, PyData.strOk x = true) : PyData.strOk (tupleText l) = true := by
  unfold tupleText
  refine sok_app (sok_app (by decide +kernel) (sok_join (by decide +kernel) h)) ?_
  split <;> decide +kernel
mutual
theorem sok_shown : ∀ (p : PyData), lv p = true → PyData.strOk p.shown = true
  | .int i, h => h
  | .str x, h => h
  | .tuple l, h => by
    simp only [PyData.shown]
    exact sok_tup (sok_shownA l h)
  | .none, h => by cases h
  | .bool _, h => by cases h
  | .list _, h => by cases h
  | .dict _, h => by cases h
theorem sok_shownA : ∀ (l : List PyData), lvA l = true → ∀ x ∈ PyData.shownAll l, PyData.strOk x = true
  | [], _, x, m => by cases m
  | p :: l, h, x, m => by
    simp only [lvA, Bool.and_eq_true] at h
    simp only [PyData.shownAll] at m
    rcases List.mem_cons.1 m with rfl | m
    · exact sok_shown p h.1
    · exact sok_shownA l h.2 x m
end
def LV (d : D) : Prop := ∃ p, toPy d = some p ∧ lv p = true
def LVA (l : List D) : Prop := ∃ p, toPyA l = some p ∧ lvA p = true
theorem lva_nil : LVA [] := ⟨[], rfl, rfl⟩
theorem lva_cons {d : D} {l : List D} (h : LV d) (t : LVA l) : LVA (d :: l) := by
  obtain ⟨p, a1, a2⟩ := h
  obtain ⟨q, b1, b2⟩ := t
  exact ⟨p :: q, by simp only [toPyA, a1, b1], by simp only [lvA, a2, b2, Bool.and_self]⟩
theorem lv_tup {l : List D} (h : LVA l) : LV (.tup l) := by
  obtain ⟨p, a1, a2⟩ := h
  exact ⟨.tuple p, by simp only [toPy, a1, Option.map_some], a2⟩
theorem lv_int {i : Int} (h : 0 ≤ i) (h2 : i < 32) : LV (.int i) := by
  have key : ∀ n : Fin 32, lv (.int (n.val : Int)) = true := by decide +kernel
  have := key ⟨i.toNat, by omega⟩
  rw [show ((⟨i.toNat, by omega⟩ : Fin 32).val : Int) = i by show ((i.toNat : Nat) : Int) = i; omega] at this
  exact ⟨_, rfl, this⟩
theorem lv_str {x : Str} (h : x ∈ words) : LV (.str x) := by
  have key : ∀ y ∈ words, lv (.str y) = true := by decide +kernel
  exact ⟨_, rfl, key x h⟩
theorem lva_append : ∀ {a b : List D}, LVA a → LVA b → LVA (a ++ b)
  | [], b, _, h => h
  | x :: a, b, h, t => by
    obtain ⟨p, a1, a2⟩ := h
    simp only [toPyA] at a1
    split at a1
    · rename_i q qs e1 e2
      cases a1
      simp only [lvA, Bool.and_eq_true] at a2
      exact lva_cons ⟨q, e1, a2.1⟩ (lva_append ⟨qs, e2, a2.2⟩ t)
    · cases a1
theorem lv_ok : ∀ (r : Row), Ok r → LV (enc r) ∧ (isF r = true → LVA (its (enc r)))
  | .row b i, o => ⟨lv_tup (lva_cons (lv_str (by decide +kernel)) (lva_cons (lv_str (al_words o.1)) (lva_cons (lv_int o.2.1 (by have := o.2.2; omega)) lva_nil))), fun h => by cases h⟩
  | .map m r, o => ⟨lv_tup (lva_cons (lv_str (by decide +kernel)) (lva_cons (lv_str (al_words o.1)) (lva_cons (lv_ok r o.2).1 lva_nil))), fun h => by cases h⟩
  | .stamp m r i, o => ⟨lv_tup (lva_cons (lv_str (by decide +kernel)) (lva_cons (lv_str (al_words o.1)) (lva_cons (lv_ok r o.2.1).1 (lva_cons (lv_int o.2.2.1 (by have := o.2.2.2; omega)) lva_nil)))), fun h => by cases h⟩
  | .mix m i r, o => ⟨lv_tup (lva_cons (lv_str (by decide +kernel)) (lva_cons (lv_str (al_words o.1)) (lva_cons (lv_int o.2.1 (by have := o.2.2.1; omega)) (lva_cons (lv_ok r o.2.2.2).1 lva_nil)))), fun h => by cases h⟩
  | .one f r, o =>
    have a : LVA [enc r] := lva_cons (lv_ok r o.2).1 lva_nil
    ⟨lv_tup (lva_cons (lv_str (by decide +kernel)) (lva_cons (lv_str (al_words o.1)) (lva_cons (lv_tup a) lva_nil))), fun _ => a⟩
  | .more i r, o =>
    have a : LVA (its (enc i) ++ [enc r]) := lva_append ((lv_ok i o.2.1).2 o.1) (lva_cons (lv_ok r o.2.2).1 lva_nil)
    ⟨lv_tup (lva_cons (lv_str (by decide +kernel)) (lva_cons (lv_str (al_words (fnm_al o.2.1))) (lva_cons (lv_tup a) lva_nil))), fun _ => a⟩
theorem sh_ok {d : D} (h : LV d) : (PyData.str (shD d)).canLay0 = true := by
  obtain ⟨p, h1, h2⟩ := h
  have e : pyOf d = p := by unfold pyOf; rw [h1]; rfl
  show PyData.strOk (pyOf d).shown = true
  rw [e]
  exact sok_shown p h2
end K03
end
section
set_option maxRecDepth 100000
set_option linter.all false
set_option maxHeartbeats 2000000
namespace K03
open PySem PySem.Spec PyProof.Rows L2 Fy
/-! ### the two closures agree -/
theorem same_rows {rows F F' : List Row} (h : WI rows F []) (h' : WI rows F' []) (ho : ∀ r ∈ rows, Ok r) : (F.map enc).Perm (F'.map enc) :=
  (List.perm_ext_iff_of_nodup h.nd h'.nd).2 fun d => (h.done ho d).trans (h'.done ho d).symm
def srt (src : AF) : EF := eLst (aCB (g1 dSorted) (lCons (pV (eLst (aComp [7] src (gSlot [] 7) (tsYes) (eCB (g1 dRepr) (lCons (pVar 7) (lNil)))))) (lNil)))
def shs (l : List D) : List D := ((l.map shD).mergeSort strLe).map sd
theorem srt_ok {src : AF} {a0 a1 a2 a3 a4 a5 a6 a7 a8 a9 : SV} {l : List D} (h7 : ∀ x, a7 ≠ .ow x) (h : src [a0, a1, a2, a3, a4, a5, a6, a7, a8, a9] = .ok l [a0, a1, a2, a3, a4, a5, a6, a7, a8, a9]) (hl : ∀ d ∈ l, dRepr d = some (sd (shD d))) (hn : l.length ≤ 1000000) :
    srt src [a0, a1, a2, a3, a4, a5, a6, a7, a8, a9] = .ok (.lst (shs l)) [a0, a1, a2, a3, a4, a5, a6, a7, a8, a9] := by
  have hc : aComp [7] src (gSlot [] 7) tsYes (eCB (g1 dRepr) (lCons (pVar 7) (lNil))) [a0, a1, a2, a3, a4, a5, a6, a7, a8, a9] = .ok ((l.map shD).map sd) [a0, a1, a2, a3, a4, a5, a6, a7, a8, a9] := by
    have e := comp_map (own := [7]) (g := gSlot [] 7) (fe := eCB (g1 dRepr) (lCons (pVar 7) (lNil))) (f := fun d => sd (shD d)) (S0 := [a0, a1, a2, a3, a4, a5, a6, .un, a8, a9]) l []
      (fun d m => ⟨[a0, a1, a2, a3, a4, a5, a6, .va d, a8, a9], [a0, a1, a2, a3, a4, a5, a6, .va d, a8, a9], by rfl, y_CB (ps := [.val d]) (l := [d]) (by rfl) (by rfl) (by show dRepr d = _; exact hl d m), by rfl, by rfl⟩) (by simpa using hn)
    have hw : noOw [7] [a0, a1, a2, a3, a4, a5, a6, a7, a8, a9] = true := by
      cases a7 with
      | ow x => exact absurd rfl (h7 x)
      | un => rfl
      | va x => rfl
    unfold aComp compAt
    rw [h]
    show (if noOw [7] [a0, a1, a2, a3, a4, a5, a6, a7, a8, a9] = true then _ else _) = _
    rw [if_pos hw]
    have hz : wipeS [a0, a1, a2, a3, a4, a5, a6, a7, a8, a9] [7] = [a0, a1, a2, a3, a4, a5, a6, .un, a8, a9] := rfl
    rw [hz, e]
    simp only [List.nil_append, List.map_map]
    rfl
  exact y_lst (y_aCB (ps := [.val (.lst ((l.map shD).map sd))]) (l := [.lst ((l.map shD).map sd)]) (y_lcons (y_pV (y_lst hc)) z_lnil) (by rfl) (sorted_sd (l.map shD)))
theorem shs_perm {l m : List D} (h : l.Perm m) : shs l = shs m := by
  unfold shs
  rw [sort_perm (h.map shD)]
theorem shs_ne {l : List D} (h : ∀ d ∈ l, LV d) : dNe (.lst (shs l)) (.lst (shs l)) = some (.bl false) := by
  refine dNe_same _ fun x m => ?_
  have := (List.mergeSort_perm (l.map shD) strLe).mem_iff.1 m
  obtain ⟨d, hd, rfl⟩ := List.mem_map.1 this
  exact sh_ok (h d hd)
end K03
end
section
set_option maxRecDepth 100000
set_option linter.all false
set_option maxHeartbeats 2000000
namespace K03
open PySem PySem.Spec PyProof.Rows L2 Fy
/-! ### draws -/
theorem dII_int {c : Int → Int → Bool} {g : Int → Int → D} {i j : Int} (h : c i j = true) : dII c g (.int i) (.int j) = some (g i j) := if_pos h
theorem dMod_int {i j : Int} (h : 0 < j) : dMod (.int i) (.int j) = some (.int (i.fmod j)) := dII_int (by simp; omega)
theorem dFdiv_int {i j : Int} (h : 0 < j) (h2 : j < 1073741824) : dFdiv (.int i) (.int j) = some (.int (i.fdiv j)) := dII_int (by simp; omega)
theorem dMul_int {i j : Int} (h : j.natAbs < 2 ^ 64) : dMul (.int i) (.int j) = some (.int (i * j)) := dII_int (by
  show (Fy.small64 i || Fy.small64 j) = true
  rw [show Fy.small64 j = true from decide_eq_true h, Bool.or_true])
theorem dPow_int {i j : Int} (h : i.natAbs < 2 ^ 64) (h1 : 0 ≤ j) (h2 : j ≤ 1000000) : dPow (.int i) (.int j) = some (.int (i ^ j.toNat)) := dII_int (by
  show (decide (0 ≤ j) && decide (j ≤ 1000000) && decide (i.natAbs < 2 ^ 64)) = true
  rw [decide_eq_true h, decide_eq_true h1, decide_eq_true h2]; rfl)
theorem draw_rest (n : Nat) (cells : List D) (at_ rest many : Int) (h : 0 < rest) (hm : 0 < many) (hm2 : many < 1073741824) :
    f__law_draw n [.ow [.lst cells, .int at_, .int rest], .va (.int many)] = .va (.int (rest.fmod many)) [.ow [.lst cells, .int at_, .int (rest.fdiv many)]] := by
  have hg : dGt (.int rest) (.int 0) = some (.bl true) := by rw [dGt_int, decide_eq_true h]
  refine z_fnRt (S1 := [.ow [.lst cells, .int at_, .int (rest.fdiv many)], .va (.int many), .un, .un, .un, .va (.int (rest.fmod many)), .un]) ?_
  refine z_seqR ?_ (fun T e => by cases e)
  refine y_ifT (y_tBl (y_bin (a := .val (.int rest)) (b := .val (.int 0)) (by rfl) (by rfl) (by rfl) (by rfl) hg)) ?_
  refine z_seq (S1 := [.ow [.lst cells, .int at_, .int rest], .va (.int many), .un, .un, .un, .va (.int (rest.fmod many)), .un]) (y_asg (d := .int (rest.fmod many)) (y_bin (a := .val (.int rest)) (b := .val (.int many)) (x := .int rest) (y := .int many) (by rfl) (by rfl) (by rfl) (by rfl) (dMod_int hm)) (by rfl)) ?_
  refine z_seq (S1 := [.ow [.lst cells, .int at_, .int (rest.fdiv many)], .va (.int many), .un, .un, .un, .va (.int (rest.fmod many)), .un]) ?_ (y_ret (by rfl))
  exact z_setI (i := 0) (l0 := [.lst cells, .int at_, .int rest]) (S2 := [.ow [.lst cells, .int at_, .int rest], .va (.int many), .un, .un, .un, .va (.int (rest.fmod many)), .un]) (l := [.lst cells, .int at_, .int rest]) (j := 2) (k := 2) (d := .int (rest.fdiv many)) (S1 := [.ow [.lst cells, .int at_, .int rest], .va (.int many), .un, .un, .un, .va (.int (rest.fmod many)), .un]) (y_bin (a := .val (.int rest)) (b := .val (.int many)) (x := .int rest) (y := .int many) (by rfl) (by rfl) (by rfl) (by rfl) (dFdiv_int hm hm2)) (by rfl) (by rfl) (by rfl) (by rfl)
end K03
end
section
set_option maxRecDepth 100000
set_option linter.all false
set_option maxHeartbeats 2000000
namespace K03
open PySem PySem.Spec PyProof.Rows L2 Fy
theorem ints_py : ∀ (ns : List Int), toPyA (ns.map D.int) = some (ns.map PyData.int) ∧ PyData.canLayAll0 (ns.map PyData.int) = true ∧ PyData.depthAll (ns.map PyData.int) = 0
  | [] => ⟨rfl, rfl, rfl⟩
  | i :: ns => by
    obtain ⟨a, b, c⟩ := ints_py ns
    refine ⟨?_, ?_, ?_⟩
    · simp only [List.map_cons, toPyA, toPy, a]
    · simp only [List.map_cons, PyData.canLayAll0, PyData.canLay0, b, Bool.and_self]
    · simp only [List.map_cons, PyData.depthAll, PyData.depth, c]; rfl
theorem cells_ne (ns : List Int) : dNe (.lst (ns.map .int)) (.lst []) = some (.bl (!ns.isEmpty)) := by
  obtain ⟨a, b, c⟩ := ints_py ns
  have e : dPy (.lst (ns.map .int)) = some (.list (ns.map .int)) := by
    unfold dPy
    simp only [toPy, a, Option.map_some]
    have : SeqAt.shaped (.list (ns.map .int)) = true := by
      unfold SeqAt.shaped
      simp only [PyData.canLay0, PyData.depth, b, c]
      rfl
    simp only [this, if_true]
  unfold dNe dEqG
  rw [e, show dPy (.lst []) = some (.list []) from rfl]
  cases ns with
  | nil => rfl
  | cons i ns => simp [PyData.eqv, PyData.eqvAll]
theorem fmod_rng {i j : Int} (h : 0 < j) : 0 ≤ i.fmod j ∧ i.fmod j < j := ⟨Int.fmod_nonneg_of_pos i h, Int.fmod_lt_of_pos i h⟩
theorem fdiv_nn {i j : Int} (h : 0 ≤ i) (h2 : 0 < j) : 0 ≤ i.fdiv j := Int.fdiv_nonneg h (Int.le_of_lt h2)
end K03
end
section
set_option maxRecDepth 100000
set_option linter.all false
set_option maxHeartbeats 2000000
namespace K03
open PySem PySem.Spec PyProof.Rows L2 Fy
def mx1 (cell at_ : Int) : Int := ((cell.fmod 2147483549 + 33187 * at_ + 6167) ^ 5).fmod 2147483629
def mx2 (m at_ : Int) : Int := ((m * (2 * at_ + 773) + 9901 * at_ * at_ + 67) ^ 3).fmod 2147483587
def dtl1 : SF := (sAsg (eBin dMod (pV (eCB (g1 dInt) (lCons (pV (eBin dPow (pV (eBin dAdd (pV (eBin dAdd (pV (eBin dMod (pV (eCB (g1 dInt) (lCons (pVar 3) (lNil)))) (pV (eC (.int 2147483549))))) (pV (eBin dMul (pV (eC (.int 33187))) (pVar 2))))) (pV (eC (.int 6167))))) (pV (eC (.int 5))))) (lNil)))) (pV (eC (.int 2147483629)))) (gSlot [0] 4))
def dtl2 : SF := (sAsg (eBin dMod (pV (eCB (g1 dInt) (lCons (pV (eBin dPow (pV (eBin dAdd (pV (eBin dAdd (pV (eBin dMul (pVar 4) (pV (eBin dAdd (pV (eBin dMul (pV (eC (.int 2))) (pVar 2))) (pV (eC (.int 773))))))) (pV (eBin dMul (pV (eBin dMul (pV (eC (.int 9901))) (pVar 2))) (pVar 2))))) (pV (eC (.int 67))))) (pV (eC (.int 3))))) (lNil)))) (pV (eC (.int 2147483587)))) (gSlot [0] 4))
def dtl3 : SF := (sRet (eBin dMod (pV (eCB (g1 dInt) (lCons (pV (eBin dFdiv (pVar 4) (pV (eC (.int 16))))) (lNil)))) (pVar 1)))
theorem y_op {g : D → D → Option D} {fa fb : PF} {S : SS} {x y d : D} (h : fa S = .ok (.val x) S) (h2 : fb S = .ok (.val y) S) (h5 : g x y = some d) : eBin g fa fb S = .ok d S := y_bin h h2 rfl rfl h5
theorem y_int {fa : EF} {S : SS} {i : Int} (h : fa S = .ok (.int i) S) : eCB (g1 dInt) (lCons (pV fa) (lNil)) S = .ok (.int i) S := y_CB (ps := [.val (.int i)]) (l := [.int i]) (y_lcons (y_pV h) z_lnil) rfl rfl
theorem dtl1_ok (p a : SV) (cell at_ : Int) (s4 s5 s6 : SV) (h4 : ∀ l, s4 ≠ .ow l) (ha : 0 ≤ at_) (hb : at_ < 16777216) :
    dtl1 [p, a, .va (.int at_), .va (.int cell), s4, s5, s6] = .nx [p, a, .va (.int at_), .va (.int cell), .va (.int (mx1 cell at_)), s5, s6] := by
  have r := fmod_rng (i := cell) (j := 2147483549) (by decide)
  have hp : (cell.fmod 2147483549 + 33187 * at_ + 6167).natAbs < 2 ^ 64 := by omega
  refine y_asg (d := .int (mx1 cell at_)) (y_op (x := .int ((cell.fmod 2147483549 + 33187 * at_ + 6167) ^ 5)) (y := .int 2147483629) (y_pV (y_int (y_op (x := .int (cell.fmod 2147483549 + 33187 * at_ + 6167)) (y := .int 5) (y_pV ?_) (by rfl) (dPow_int hp (by decide) (by decide))))) (by rfl) (dMod_int (by decide))) ?_
  · refine y_op (x := .int (cell.fmod 2147483549 + 33187 * at_)) (y := .int 6167) (y_pV (y_op (x := .int (cell.fmod 2147483549)) (y := .int (33187 * at_)) (y_pV (y_op (x := .int cell) (y := .int 2147483549) (by rfl) (by rfl) (dMod_int (by decide)))) (y_pV (y_op (x := .int 33187) (y := .int at_) (by rfl) (by rfl) (dMul_int (by omega)))) (by rfl))) (by rfl) (by rfl)
  · rfl
theorem dtl2_ok (p a c : SV) (m at_ : Int) (s5 s6 : SV) (hm : 0 ≤ m) (hm2 : m < 2147483629) (ha : 0 ≤ at_) (hb : at_ < 16777216) :
    dtl2 [p, a, .va (.int at_), c, .va (.int m), s5, s6] = .nx [p, a, .va (.int at_), c, .va (.int (mx2 m at_)), s5, s6] := by
  have hp : (m * (2 * at_ + 773) + 9901 * at_ * at_ + 67).natAbs < 2 ^ 64 := by
    have h1 : m * (2 * at_ + 773) ≤ 2147483629 * 33556000 := Int.mul_le_mul (by omega) (by omega) (by omega) (by decide)
    have h2 : 9901 * at_ * at_ ≤ 9901 * 16777216 * 16777216 := Int.mul_le_mul (by omega) (by omega) (by omega) (by decide)
    have h3 : 0 ≤ m * (2 * at_ + 773) := Int.mul_nonneg hm (by omega)
    have h4 : 0 ≤ 9901 * at_ * at_ := Int.mul_nonneg (by omega) ha
    omega
  refine y_asg (d := .int (mx2 m at_)) (y_op (x := .int ((m * (2 * at_ + 773) + 9901 * at_ * at_ + 67) ^ 3)) (y := .int 2147483587) (y_pV (y_int (y_op (x := .int (m * (2 * at_ + 773) + 9901 * at_ * at_ + 67)) (y := .int 3) (y_pV ?_) (by rfl) (dPow_int hp (by decide) (by decide))))) (by rfl) (dMod_int (by decide))) ?_
  · refine y_op (x := .int (m * (2 * at_ + 773) + 9901 * at_ * at_)) (y := .int 67) (y_pV (y_op (x := .int (m * (2 * at_ + 773))) (y := .int (9901 * at_ * at_)) (y_pV (y_op (x := .int m) (y := .int (2 * at_ + 773)) (by rfl) (y_pV (y_op (x := .int (2 * at_)) (y := .int 773) (y_pV (y_op (x := .int 2) (y := .int at_) (by rfl) (by rfl) (dMul_int (by omega)))) (by rfl) (by rfl))) (dMul_int (by omega)))) (y_pV (y_op (x := .int (9901 * at_)) (y := .int at_) (y_pV (y_op (x := .int 9901) (y := .int at_) (by rfl) (by rfl) (dMul_int (by omega)))) (by rfl) (dMul_int (by omega)))) (by rfl))) (by rfl) (by rfl)
  · rfl
theorem dtl3_ok (p c t : SV) (m many : Int) (s5 s6 : SV) (h : 0 < many) : dtl3 [p, .va (.int many), t, c, .va (.int m), s5, s6] = .rt (.int ((m.fdiv 16).fmod many)) [p, .va (.int many), t, c, .va (.int m), s5, s6] :=
  y_ret (y_op (x := .int (m.fdiv 16)) (y := .int many) (y_pV (y_int (y_op (x := .int m) (y := .int 16) (by rfl) (by rfl) (dFdiv_int (by decide) (by decide))))) (by rfl) (dMod_int h))
end K03
end
section
set_option maxRecDepth 100000
set_option linter.all false
set_option maxHeartbeats 2000000
namespace K03
open PySem PySem.Spec PyProof.Rows L2 Fy
/-- the cell that a draw takes -/
def cellAt (ns : List Int) (at_ : Nat) : Int := if ns = [] then 71113 * (at_ : Int) + 9079 else ns.getD (at_ % ns.length) 0
def absI (i : Int) : Int := if i < 0 then -i else i
def great (c : Int) : Int := 2 * (absI c - 1000000000000000000) + (if c < 0 then 1 else 0)
def big? (ns : List Int) (at_ : Nat) : Bool := decide (at_ < ns.length) && decide (1000000000000000000 ≤ absI (cellAt ns at_))
structure Pen where
  ns : List Int
  at_ : Nat
  rest : Int
def Pen.d (p : Pen) : List D := [.lst (p.ns.map .int), .int p.at_, .int p.rest]
def Pen.draw (p : Pen) (many : Int) : Int × Pen :=
  if 0 < p.rest then (p.rest.fmod many, { p with rest := p.rest.fdiv many })
  else if big? p.ns p.at_ then ((great (cellAt p.ns p.at_)).fmod many, ⟨p.ns, p.at_ + 1, (great (cellAt p.ns p.at_)).fdiv many⟩)
  else (((mx2 (mx1 (cellAt p.ns p.at_) p.at_) p.at_).fdiv 16).fmod many, ⟨p.ns, p.at_ + 1, p.rest⟩)
def dD : SF := (sIf (tBl (eBin dNe (pV (eBin dIx (pVar 0) (pV (eC (.int 0))))) (pV (eLst (aFit (aNil)))))) (sAsg (eBin dIx (pV (eBin dIx (pVar 0) (pV (eC (.int 0))))) (pV (eBin dMod (pV (eCB (g1 dInt) (lCons (pVar 2) (lNil)))) (pV (eCB (g1 dLen) (lCons (pV (eBin dIx (pVar 0) (pV (eC (.int 0))))) (lNil))))))) (gSlot [0] 3)) (sNil))
theorem dLen_lst (l : List D) : g1 dLen [.lst l] = some (.int l.length) := rfl
theorem at_nat (l : List D) (i : Nat) : L2.atI l (i : Int) = l[i]? := by
  unfold L2.atI L2.ixN
  rw [if_pos (by omega)]
  by_cases h : (i : Int) < (l.length : Int)
  · rw [if_pos h]; simp
  · rw [if_neg h, List.getElem?_eq_none (by omega)]; rfl
theorem dIx_lst (l : List D) (i : Int) : dIx (.lst l) (.int i) = L2.atI l i := rfl
theorem dD_ok (ns : List Int) (at_ : Nat) (x y c : D) (a s4 s5 s6 : SV) (hc : c = .int (71113 * (at_ : Int) + 9079)) :
    dD [.ow [.lst (ns.map .int), x, y], a, .va (.int at_), .va c, s4, s5, s6] = .nx [.ow [.lst (ns.map .int), x, y], a, .va (.int at_), .va (.int (cellAt ns at_)), s4, s5, s6] := by
  have ht : tBl (eBin dNe (pV (eBin dIx (pVar 0) (pV (eC (.int 0))))) (pV (eLst (aFit (aNil))))) [.ow [.lst (ns.map .int), x, y], a, .va (.int at_), .va c, s4, s5, s6] = .ok (!ns.isEmpty) [.ow [.lst (ns.map .int), x, y], a, .va (.int at_), .va c, s4, s5, s6] :=
    y_tBl (y_op (x := .lst (ns.map .int)) (y := .lst []) (by rfl) (by rfl) (cells_ne ns))
  cases ns with
  | nil => subst hc; exact y_ifF ht (by rfl)
  | cons n ns =>
    refine y_ifT ht (y_asg (d := .int (cellAt (n :: ns) at_)) (y_op (x := .lst ((n :: ns).map .int)) (y := .int ((at_ : Int).fmod ((n :: ns).map D.int).length)) (by rfl) (y_pV (y_op (x := .int at_) (y := .int ((n :: ns).map D.int).length) (by rfl) (by rfl) (dMod_int (by simp only [List.length_map, List.length_cons]; omega)))) ?_) (by rfl))
    rw [dIx_lst, List.length_map]
    have e : (at_ : Int).fmod ((n :: ns).length : Int) = ((at_ % (n :: ns).length : Nat) : Int) := by
      rw [Int.fmod_eq_emod_of_nonneg _ (by omega)]; simp
    have hlt : at_ % (n :: ns).length < (n :: ns).length := Nat.mod_lt _ (by simp)
    rw [e, at_nat, List.getElem?_map]
    unfold cellAt
    rw [if_neg (by simp), List.getD_eq_getElem?_getD, List.getElem?_eq_getElem hlt]
    rfl
end K03
end
section
set_option maxRecDepth 100000
set_option linter.all false
set_option maxHeartbeats 2000000
namespace K03
open PySem PySem.Spec PyProof.Rows L2 Fy
theorem dLt_int (i j : Int) : dLt (.int i) (.int j) = some (.bl (decide (i < j))) := rfl
theorem dGe_int (i j : Int) : dGe (.int i) (.int j) = some (.bl (decide (j ≤ i))) := rfl
theorem dAbs_int (i : Int) : g1 dAbs [.int i] = some (.int (absI i)) := rfl
def dG? : TF := (tAnd2 (tBl (eBin dLt (pVar 2) (pV (eCB (g1 dLen) (lCons (pV (eBin dIx (pVar 0) (pV (eC (.int 0))))) (lNil)))))) (tBl (eBin dGe (pV (eCB (g1 dAbs) (lCons (pVar 3) (lNil)))) (pV (eBin dPow (pV (eC (.int 10))) (pV (eC (.int 18))))))))
theorem dG_ok (ns : List Int) (at_ : Nat) (x y a s4 s5 s6 : SV) (p q : D) :
    dG? [.ow [.lst (ns.map .int), p, q], a, .va (.int at_), .va (.int (cellAt ns at_)), s4, s5, s6] = .ok (big? ns at_) [.ow [.lst (ns.map .int), p, q], a, .va (.int at_), .va (.int (cellAt ns at_)), s4, s5, s6] := by
  have h1 : tBl (eBin dLt (pVar 2) (pV (eCB (g1 dLen) (lCons (pV (eBin dIx (pVar 0) (pV (eC (.int 0))))) (lNil))))) [.ow [.lst (ns.map .int), p, q], a, .va (.int at_), .va (.int (cellAt ns at_)), s4, s5, s6] = .ok (decide (at_ < ns.length)) [.ow [.lst (ns.map .int), p, q], a, .va (.int at_), .va (.int (cellAt ns at_)), s4, s5, s6] := by
    refine y_tBl (y_op (x := .int at_) (y := .int (ns.map D.int).length) (by rfl) (by rfl) ?_)
    rw [dLt_int, List.length_map]
    congr 3
    simp
  have h2 : tBl (eBin dGe (pV (eCB (g1 dAbs) (lCons (pVar 3) (lNil)))) (pV (eBin dPow (pV (eC (.int 10))) (pV (eC (.int 18)))))) [.ow [.lst (ns.map .int), p, q], a, .va (.int at_), .va (.int (cellAt ns at_)), s4, s5, s6] = .ok (decide (1000000000000000000 ≤ absI (cellAt ns at_))) [.ow [.lst (ns.map .int), p, q], a, .va (.int at_), .va (.int (cellAt ns at_)), s4, s5, s6] := by
    refine y_tBl (y_op (x := .int (absI (cellAt ns at_))) (y := .int 1000000000000000000) (by rfl) (y_pV (y_op (x := .int 10) (y := .int 18) (by rfl) (by rfl) (dPow_int (by decide) (by decide) (by decide)))) ?_)
    rw [dGe_int]
  unfold dG? big?
  cases e : decide (at_ < ns.length) with
  | false => rw [e] at h1; exact y_andF h1
  | true => rw [e] at h1; rw [Bool.true_and]; exact y_andT h1 h2
def dGB1 : SF := (sAsg (eBin dAdd (pV (eBin dMul (pV (eC (.int 2))) (pV (eBin dSub (pV (eCB (g1 dAbs) (lCons (pVar 3) (lNil)))) (pV (eBin dPow (pV (eC (.int 10))) (pV (eC (.int 18))))))))) (pV (eCB (g1 dInt) (lCons (pV (eBin dLt (pVar 3) (pV (eC (.int 0))))) (lNil))))) (gSlot [0] 6))
def dGB2 : SF := (sSetI 0 (eBin dFdiv (pV (eCB (g1 dInt) (lCons (pVar 6) (lNil)))) (pVar 1)) (eC (.int 2)))
def dGB3 : SF := (sRet (eBin dMod (pV (eCB (g1 dInt) (lCons (pVar 6) (lNil)))) (pVar 1)))
theorem dGB1_ok (p a t s4 s5 s6 : SV) (c : Int) (h6 : ∀ l, s6 ≠ .ow l) : dGB1 [p, a, t, .va (.int c), s4, s5, s6] = .nx [p, a, t, .va (.int c), s4, s5, .va (.int (great c))] := by
  refine y_asg (d := .int (great c)) (y_op (x := .int (2 * (absI c - 1000000000000000000))) (y := .int (if c < 0 then 1 else 0)) (y_pV ?_) (y_pV ?_) (by rfl)) (by rfl)
  · refine y_bin (a := .val (.int 2)) (b := .val (.int (absI c - 1000000000000000000))) (x := .int 2) (y := .int (absI c - 1000000000000000000)) (by rfl) (y_pV (y_op (x := .int (absI c)) (y := .int 1000000000000000000) (by rfl) (y_pV (y_op (x := .int 10) (y := .int 18) (by rfl) (by rfl) (dPow_int (by decide) (by decide) (by decide)))) (by rfl))) (by rfl) (by rfl) ?_
    exact dII_int (by show (Fy.small64 2 || Fy.small64 _) = true; rw [show Fy.small64 2 = true from rfl, Bool.true_or])
  · refine y_CB (ps := [.val (.bl (decide (c < 0)))]) (l := [.bl (decide (c < 0))]) (y_lcons (y_pV (y_op (x := .int c) (y := .int 0) (by rfl) (by rfl) (dLt_int c 0))) z_lnil) rfl ?_
    show dInt (.bl (decide (c < 0))) = _
    simp [dInt]
end K03
end
section
set_option maxRecDepth 100000
set_option linter.all false
set_option maxHeartbeats 2000000
namespace K03
open PySem PySem.Spec PyProof.Rows L2 Fy
def dH1 : SF := (sIf (tBl (eBin dGt (pV (eBin dIx (pVar 0) (pV (eC (.int 2))))) (pV (eC (.int 0))))) (sSeq (sAsg (eBin dMod (pV (eCB (g1 dInt) (lCons (pV (eBin dIx (pVar 0) (pV (eC (.int 2))))) (lNil)))) (pVar 1)) (gSlot [0] 5))
  (sSeq (sSetI 0 (eBin dFdiv (pV (eCB (g1 dInt) (lCons (pV (eBin dIx (pVar 0) (pV (eC (.int 2))))) (lNil)))) (pVar 1)) (eC (.int 2)))
  (sRet (eVar [0] 5)))) (sNil))
def dH2 : SF := (sAsg (eBin dIx (pVar 0) (pV (eC (.int 1)))) (gSlot [0] 2))
def dH3 : SF := (sSetI 0 (eBin dAdd (pVar 2) (pV (eC (.int 1)))) (eC (.int 1)))
def dH4 : SF := (sAsg (eBin dAdd (pV (eBin dMul (pV (eC (.int 71113))) (pVar 2))) (pV (eC (.int 9079)))) (gSlot [0] 3))
theorem draw_eq (n : Nat) : b__law_draw n = sSeq dH1 (sSeq dH2 (sSeq dH3 (sSeq dH4 (sSeq dD (sSeq (sIf dG? (sSeq dGB1 (sSeq dGB2 dGB3)) (sNil)) (sSeq dtl1 (sSeq dtl2 dtl3))))))) := rfl
theorem dH_ok (ns : List Int) (at_ : Nat) (rest many : Int) (o : SF) (res : Oc) (hr : ¬ 0 < rest) (ha : at_ < 16777216)
    (h : o [.ow [.lst (ns.map .int), .int ((at_ + 1 : Nat) : Int), .int rest], .va (.int many), .va (.int at_), .va (.int (cellAt ns at_)), .un, .un, .un] = res) :
    sSeq dH1 (sSeq dH2 (sSeq dH3 (sSeq dH4 (sSeq dD o)))) [.ow [.lst (ns.map .int), .int at_, .int rest], .va (.int many), .un, .un, .un, .un, .un] = res := by
  have hg : dGt (.int rest) (.int 0) = some (.bl false) := by rw [dGt_int, decide_eq_false hr]
  refine z_seq (S1 := [.ow [.lst (ns.map .int), .int at_, .int rest], .va (.int many), .un, .un, .un, .un, .un]) (y_ifF (y_tBl (y_op (x := .int rest) (y := .int 0) (by rfl) (by rfl) hg)) (by rfl)) ?_
  refine z_seq (S1 := [.ow [.lst (ns.map .int), .int at_, .int rest], .va (.int many), .va (.int at_), .un, .un, .un, .un]) (by rfl) ?_
  refine z_seq (S1 := [.ow [.lst (ns.map .int), .int ((at_ + 1 : Nat) : Int), .int rest], .va (.int many), .va (.int at_), .un, .un, .un, .un]) (by rfl) ?_
  refine z_seq (S1 := [.ow [.lst (ns.map .int), .int ((at_ + 1 : Nat) : Int), .int rest], .va (.int many), .va (.int at_), .va (.int (71113 * (at_ : Int) + 9079)), .un, .un, .un]) ?_ ?_
  · exact y_asg (d := .int (71113 * (at_ : Int) + 9079)) (y_op (x := .int (71113 * (at_ : Int))) (y := .int 9079) (y_pV (y_op (x := .int 71113) (y := .int at_) (by rfl) (by rfl) (dMul_int (by omega)))) (by rfl) (by rfl)) (by rfl)
  · exact z_seq (dD_ok ns at_ _ _ _ _ _ _ _ rfl) h
theorem draw_ok (n : Nat) (p : Pen) (many : Int) (h : 0 < many) (h2 : many < 1073741824) (ha : p.at_ < 16777216) :
    f__law_draw n [.ow p.d, .va (.int many)] = .va (.int (p.draw many).1) [.ow (p.draw many).2.d] := by
  obtain ⟨ns, at_, rest⟩ := p
  have ha : at_ < 16777216 := ha
  unfold Pen.draw Pen.d
  by_cases hr : 0 < rest
  · simp only [hr, if_true]
    exact draw_rest n (ns.map .int) at_ rest many hr h h2
  · simp only [hr, if_false]
    cases e : big? ns at_ with
    | true =>
      simp only [if_true]
      refine z_fnRt (S1 := [.ow [.lst (ns.map .int), .int ((at_ + 1 : Nat) : Int), .int ((great (cellAt ns at_)).fdiv many)], .va (.int many), .va (.int at_), .va (.int (cellAt ns at_)), .un, .un, .va (.int (great (cellAt ns at_)))]) ?_
      rw [draw_eq]
      refine dH_ok ns at_ rest many _ _ hr ha ?_
      refine z_seqR ?_ (fun T e => by cases e)
      have hG := dG_ok ns at_ .un .un (.va (.int many)) .un .un .un (.int ((at_ + 1 : Nat) : Int)) (.int rest)
      rw [e] at hG
      refine y_ifT hG ?_
      refine z_seq (dGB1_ok _ _ _ _ _ _ _ (fun l e => by cases e)) ?_
      refine z_seq (S1 := [.ow [.lst (ns.map .int), .int ((at_ + 1 : Nat) : Int), .int ((great (cellAt ns at_)).fdiv many)], .va (.int many), .va (.int at_), .va (.int (cellAt ns at_)), .un, .un, .va (.int (great (cellAt ns at_)))]) ?_ ?_
      · exact z_setI (i := 0) (l0 := [.lst (ns.map .int), .int ((at_ + 1 : Nat) : Int), .int rest]) (l := [.lst (ns.map .int), .int ((at_ + 1 : Nat) : Int), .int rest]) (j := 2) (k := 2) (d := .int ((great (cellAt ns at_)).fdiv many))
          (S1 := [.ow [.lst (ns.map .int), .int ((at_ + 1 : Nat) : Int), .int rest], .va (.int many), .va (.int at_), .va (.int (cellAt ns at_)), .un, .un, .va (.int (great (cellAt ns at_)))])
          (S2 := [.ow [.lst (ns.map .int), .int ((at_ + 1 : Nat) : Int), .int rest], .va (.int many), .va (.int at_), .va (.int (cellAt ns at_)), .un, .un, .va (.int (great (cellAt ns at_)))])
          (y_op (x := .int (great (cellAt ns at_))) (y := .int many) (by rfl) (by rfl) (dFdiv_int h h2)) (by rfl) (by rfl) (by rfl) (by rfl)
      · exact y_ret (y_op (x := .int (great (cellAt ns at_))) (y := .int many) (by rfl) (by rfl) (dMod_int h))
    | false =>
      simp only [if_false, Bool.false_eq_true]
      refine z_fnRt (S1 := [.ow [.lst (ns.map .int), .int ((at_ + 1 : Nat) : Int), .int rest], .va (.int many), .va (.int at_), .va (.int (cellAt ns at_)), .va (.int (mx2 (mx1 (cellAt ns at_) at_) at_)), .un, .un]) ?_
      rw [draw_eq]
      refine dH_ok ns at_ rest many _ _ hr ha ?_
      have hG := dG_ok ns at_ .un .un (.va (.int many)) .un .un .un (.int ((at_ + 1 : Nat) : Int)) (.int rest)
      rw [e] at hG
      refine z_seq (y_ifF hG (by rfl)) ?_
      have r := fmod_rng (i := (cellAt ns at_).fmod 2147483549 + 33187 * at_ + 6167) (j := 2147483629) (by decide)
      have r2 := fmod_rng (i := ((cellAt ns at_).fmod 2147483549 + 33187 * (at_ : Int) + 6167) ^ 5) (j := 2147483629) (by decide)
      refine z_seq (dtl1_ok _ _ _ _ _ _ _ (fun l e => by cases e) (by omega) (by omega)) ?_
      refine z_seq (dtl2_ok _ _ _ _ _ _ _ r2.1 r2.2 (by omega) (by omega)) ?_
      exact dtl3_ok _ _ _ _ _ _ _ h
theorem Pen.rng (p : Pen) (many : Int) (h : 0 < many) : 0 ≤ (p.draw many).1 ∧ (p.draw many).1 < many := by
  unfold Pen.draw
  split
  · exact fmod_rng h
  · split <;> exact fmod_rng h
theorem Pen.at_le (p : Pen) (many : Int) : (p.draw many).2.at_ ≤ p.at_ + 1 := by
  unfold Pen.draw
  split
  · exact Nat.le_succ _
  · split <;> exact Nat.le_refl _
end K03
end
section
set_option maxRecDepth 100000
set_option linter.all false
set_option maxHeartbeats 2000000
namespace K03
open PySem PySem.Spec PyProof.Rows L2 Fy
theorem draw_call (n : Nat) (p : Pen) (many : Int) (S : SS) (h0 : owAt S 0 = some p.d) (h : 0 < many) (h2 : many < 1073741824) (ha : p.at_ < 16777216) :
    eCallP 0 (f__law_draw n) (aCons (eC (.int many)) (aNil)) S = .ok (.int (p.draw many).1) (S.set 0 (.ow (p.draw many).2.d)) :=
  z_callP h0 (y_cons (d := .int many) (by rfl) z_nil) h0 (draw_ok n p many h h2 ha)
theorem pick_ok (n : Nat) (p : Pen) (l : List D) (hl : 0 < l.length) (hl2 : l.length < 1000) (ha : p.at_ < 16777216) :
    ∃ d ∈ l, f__law_pick n [.ow p.d, .va (.lst l)] = .va d [.ow (p.draw l.length).2.d] := by
  have r := p.rng l.length (by omega)
  have e : ((p.draw l.length).1.toNat : Int) = (p.draw l.length).1 := Int.toNat_of_nonneg r.1
  have hlt : (p.draw l.length).1.toNat < l.length := by omega
  refine ⟨l[(p.draw l.length).1.toNat], List.getElem_mem _, ?_⟩
  refine z_fnRt (S1 := [.ow (p.draw l.length).2.d, .va (.lst l)]) (z_ret ?_)
  refine z_bin (S1 := [.ow p.d, .va (.lst l)]) (S2 := [.ow (p.draw l.length).2.d, .va (.lst l)]) (a := .val (.lst l)) (b := .val (.int (p.draw l.length).1)) (x := .lst l) (y := .int (p.draw l.length).1) (by rfl) (z_pV ?_) (by rfl) (by rfl) ?_
  · exact z_callP (l0 := p.d) (S1 := [.ow p.d, .va (.lst l)]) (p := p.d) (p' := (p.draw l.length).2.d) (by rfl) (y_cons (d := .int l.length) (by rfl) z_nil) (by rfl) (draw_ok n p l.length (by omega) (by omega) ha)
  · have g := at_nat l (p.draw l.length).1.toNat
    rw [e, List.getElem?_eq_getElem hlt] at g
    exact g
theorem pick_call (n : Nat) (p : Pen) (fa : EF) (l : List D) (S : SS) (h0 : owAt S 0 = some p.d) (hf : fa S = .ok (.lst l) S) (hl : 0 < l.length) (hl2 : l.length < 1000) (ha : p.at_ < 16777216) :
    ∃ d ∈ l, eCallP 0 (f__law_pick n) (aCons fa (aNil)) S = .ok d (S.set 0 (.ow (p.draw l.length).2.d)) := by
  obtain ⟨d, m, e⟩ := pick_ok n p l hl hl2 ha
  exact ⟨d, m, z_callP h0 (y_cons hf z_nil) h0 e⟩
theorem dEq_int (i j : Int) : dEq (.int i) (.int j) = some (.bl (i == j)) := by kernel_rfl
def A : Nat → Nat
  | 0 => 3
  | d + 1 => 3 * A d + 3
def KC : Nat → Nat
  | 0 => 1
  | d + 1 => 3 * KC d + 3
def KW : Nat → Nat
  | 0 => 30
  | d + 1 => 3 * KW d + 42
/-- what a drawn row is like -/
structure Dr (j : Nat) (p : Pen) (r : Row) (p' : Pen) : Prop where
  ok : Ok r
  dp : dp r ≤ 1 + 2 * j
  cn : cnt r ≤ KC j
  wt : wt r ≤ KW j
  at_ : p'.at_ ≤ p.at_ + A j
  fl : flen (base r) ≤ 3
theorem A_pos : ∀ j, 3 ≤ A j
  | 0 => Nat.le_refl _
  | j + 1 => by simp only [A]; omega
theorem KC_pos : ∀ j, 1 ≤ KC j
  | 0 => Nat.le_refl _
  | j + 1 => by simp only [KC]; omega
theorem KW_pos : ∀ j, 30 ≤ KW j
  | 0 => Nat.le_refl _
  | j + 1 => by have := KW_pos j; simp only [KW]; omega
end K03
end
section
set_option maxRecDepth 100000
set_option linter.all false
set_option maxHeartbeats 2000000
namespace K03
open PySem PySem.Spec PyProof.Rows L2 Fy
/-! ### a comprehension that draws -/
theorem comp_draws {own : List Nat} {g : GF} {fe : EF} {st : Pen → SS} {st1 : Pen → D → SS} {M a : Nat} {Q : Row → Prop} (hg : ∀ p d, g d (st p) = some (st1 p d)) (hw : ∀ p d, noOw own (st1 p d) = true ∧ wipeS (st1 p d) own = st p)
    (he : ∀ p d, p.at_ + a ≤ M → ∃ (r : Row) (p' : Pen), fe (st1 p d) = .ok (enc r) (st1 p' d) ∧ Q r ∧ p'.at_ ≤ p.at_ + a) :
    ∀ (ds : List D) (p : Pen) (acc : List D), p.at_ + a * ds.length ≤ M → acc.length + ds.length ≤ 1000000 →
      ∃ (rs : List Row) (p' : Pen), comp own g tsYes fe ds (st p) acc = .ok (acc ++ rs.map enc) (st p') ∧ rs.length = ds.length ∧ (∀ r ∈ rs, Q r) ∧ p'.at_ ≤ p.at_ + a * ds.length
  | [], p, acc, _, _ => ⟨[], p, by simp [comp], rfl, fun r m => (by cases m), Nat.le_add_right _ _⟩
  | d :: ds, p, acc, h, hl => by
    have e0 : a * (d :: ds).length = a + a * ds.length := by rw [List.length_cons, Nat.mul_succ, Nat.add_comm]
    rw [e0] at h ⊢
    obtain ⟨r, p1, e1, q, l1⟩ := he p d (by omega)
    obtain ⟨rs, p2, e2, ln, qs, l2⟩ := comp_draws hg hw he ds p1 (acc ++ [enc r]) (by omega) (by simp only [List.length_append, List.length_cons, List.length_nil] at hl ⊢; omega)
    refine ⟨r :: rs, p2, ?_, by rw [List.length_cons, List.length_cons, ln], ?_, by omega⟩
    · have ho : okLen (acc.length + 1) = true := decide_eq_true (by simp only [List.length_cons] at hl; omega)
      unfold comp
      simp only [hg, tsYes, e1, ho, (hw p1 d).1, Bool.and_self, if_true, (hw p1 d).2]
      rw [e2]
      simp
    · intro x m
      rcases List.mem_cons.1 m with rfl | m
      · exact q
      · exact qs x m
abbrev s5 (p : Pen) (a b c d : SV) : SS := [.ow p.d, a, b, c, d]
theorem draw5 (n : Nat) (p : Pen) (many : Int) (a b c d : SV) (h : 0 < many) (h2 : many < 1073741824) (ha : p.at_ < 16777216) :
    eCallP 0 (f__law_draw n) (aCons (eC (.int many)) (aNil)) (s5 p a b c d) = .ok (.int (p.draw many).1) (s5 (p.draw many).2 a b c d) := draw_call n p many _ (by rfl) h h2 ha
def lW (l : List Str) : EF := eLst (aFit (l.foldr (fun x r => aCons (eC (.str x)) r) aNil))
theorem lW_ok : ∀ (l : List Str) (S : SS), l.foldr (fun x r => aCons (eC (.str x)) r) aNil S = .ok (l.map .str) S
  | [], S => rfl
  | x :: l, S => by
    have := lW_ok l S
    exact y_cons (by rfl) this
theorem pick5 (n : Nat) (p : Pen) (l : List Str) (a b c d : SV) (hl : 0 < l.length) (hl2 : l.length < 1000) (ha : p.at_ < 16777216) (hs : ∀ x ∈ l, x ∈ al) :
    ∃ x ∈ al, ∃ p', p'.at_ ≤ p.at_ + 1 ∧ eCallP 0 (f__law_pick n) (aCons (lW l) (aNil)) (s5 p a b c d) = .ok (.str x) (s5 p' a b c d) := by
  obtain ⟨x, m, e⟩ := pick_call n p (lW l) (l.map .str) (s5 p a b c d) (by rfl) (y_lst (y_fit (lW_ok l _) (decide_eq_true (by rw [List.length_map]; omega)))) (by rw [List.length_map]; exact hl) (by rw [List.length_map]; exact hl2) ha
  obtain ⟨y, my, rfl⟩ := List.mem_map.1 m
  exact ⟨y, hs y my, _, p.at_le _, e⟩
end K03
end
section
set_option maxRecDepth 100000
set_option linter.all false
set_option maxHeartbeats 2000000
namespace K03
open PySem PySem.Spec PyProof.Rows L2 Fy
def leafE (n : Nat) : EF := eTup (aCons (eC (.str "row")) (aCons (eCallP 0 (f__law_pick n) (aCons (lW ["a", "c", "eightlet"]) (aNil))) (aCons (eCallP 0 (f__law_draw n) (aCons (eC (.int 20)) (aNil))) (aNil))))
def mapE (n : Nat) : EF := eTup (aCons (eC (.str "map")) (aCons (eCallP 0 (f__law_pick n) (aCons (lW ["m", "k"]) (aNil))) (aCons (eVar [0] 3) (aNil))))
def stampE (n : Nat) : EF := eTup (aCons (eC (.str "stamp")) (aCons (eCallP 0 (f__law_pick n) (aCons (lW ["p", "q"]) (aNil))) (aCons (eVar [0] 3) (aCons (eCallP 0 (f__law_draw n) (aCons (eC (.int 10)) (aNil))) (aNil)))))
def mixE (n : Nat) : EF := eTup (aCons (eC (.str "mix")) (aCons (eCallP 0 (f__law_pick n) (aCons (lW ["x", "y"]) (aNil))) (aCons (eCallP 0 (f__law_draw n) (aCons (eC (.int 4)) (aNil))) (aCons (eVar [0] 3) (aNil)))))
def lapsE (rec : SS → Fo) (n : Nat) : EF := eLst (aComp [4] (aRg1 (aCons (eCallP 0 (f__law_draw n) (aCons (eC (.int 3)) (aNil))) (aNil))) (gSlot [0] 4) (tsYes) (eCallP 0 (rec) (aCons (eBin dSub (pVar 1) (pV (eC (.int 2)))) (aNil))))
def foldE (rec : SS → Fo) (n : Nat) : EF := eTup (aCons (eC (.str "fold")) (aCons (eCallP 0 (f__law_pick n) (aCons (lW ["f", "g"]) (aNil))) (aCons (eBin dAdd (pV (eCB (g1 dTuple) (lCons (pV (lapsE rec n)) (lNil)))) (pV (eTup (aCons (eVar [0] 3) (aNil))))) (aNil))))
def wayE (n : Nat) : EF := eIf (tBl (eBin dGt (pVar 1) (pV (eC (.int 0))))) (eCallP 0 (f__law_draw n) (aCons (eC (.int 8)) (aNil))) (eC (.int 0))
def innE (rec : SS → Fo) : EF := eCallP 0 (rec) (aCons (eBin dSub (pVar 1) (pV (eC (.int 1)))) (aNil))
def lt2 (k : Int) : TF := tBl (eBin dLt (pVar 2) (pV (eC (.int k))))
def eq2 (k : Int) : TF := tBl (eBin dEq (pVar 2) (pV (eC (.int k))))
theorem row_eq (rec : SS → Fo) (n : Nat) : b__law_drawn_row rec n = sSeq (sAsg (wayE n) (gSlot [0] 2)) (sSeq (sIf (lt2 2) (sRet (leafE n)) (sNil)) (sSeq (sAsg (innE rec) (gSlot [0] 3)) (sSeq (sIf (lt2 4) (sRet (mapE n)) (sNil)) (sSeq (sIf (eq2 4) (sRet (stampE n)) (sNil)) (sSeq (sIf (lt2 7) (sRet (mixE n)) (sNil)) (sRet (foldE rec n))))))) := rfl
theorem leaf5 (n : Nat) (p : Pen) (a b c d : SV) (ha : p.at_ + 2 ≤ 16777216) : ∃ (r : Row) (p' : Pen), leafE n (s5 p a b c d) = .ok (enc r) (s5 p' a b c d) ∧ Ok r ∧ dp r = 1 ∧ cnt r = 1 ∧ wt r = 30 ∧ p'.at_ ≤ p.at_ + 2 ∧ flen (base r) ≤ 3 := by
  obtain ⟨x, mx, p1, h1, e1⟩ := pick5 n p ["a", "c", "eightlet"] a b c d (by decide) (by decide) (by omega) (by decide +kernel)
  have e2 := draw5 n p1 20 a b c d (by decide) (by decide) (by omega)
  have r := p1.rng 20 (by decide)
  have l := p1.at_le 20
  refine ⟨.row x (p1.draw 20).1, (p1.draw 20).2, ?_, ⟨mx, r.1, r.2⟩, rfl, rfl, rfl, by omega, Nat.zero_le _⟩
  exact z_tup (z_cons (by rfl) (z_cons e1 (z_cons e2 z_nil))) (by rfl)
theorem map5 (n : Nat) (p : Pen) (q : Row) (a b d : SV) (ha : p.at_ + 2 ≤ 16777216) (hq : Ok q) : ∃ (r : Row) (p' : Pen), mapE n (s5 p a b (.va (enc q)) d) = .ok (enc r) (s5 p' a b (.va (enc q)) d) ∧ Ok r ∧ dp r = dp q + 1 ∧ cnt r = cnt q + 1 ∧ wt r = wt q + 20 ∧ p'.at_ ≤ p.at_ + 1 ∧ base r = base q := by
  obtain ⟨x, mx, p1, h1, e1⟩ := pick5 n p ["m", "k"] a b (.va (enc q)) d (by decide) (by decide) (by omega) (by decide +kernel)
  refine ⟨.map x q, p1, ?_, ⟨mx, hq⟩, rfl, rfl, rfl, by omega, rfl⟩
  exact z_tup (z_cons (by rfl) (z_cons e1 (z_cons (d := enc q) (by rfl) z_nil))) (by rfl)
theorem stamp5 (n : Nat) (p : Pen) (q : Row) (a b d : SV) (ha : p.at_ + 2 ≤ 16777216) (hq : Ok q) : ∃ (r : Row) (p' : Pen), stampE n (s5 p a b (.va (enc q)) d) = .ok (enc r) (s5 p' a b (.va (enc q)) d) ∧ Ok r ∧ dp r = dp q + 1 ∧ cnt r = cnt q + 1 ∧ wt r = wt q + 30 ∧ p'.at_ ≤ p.at_ + 2 ∧ base r = base q := by
  obtain ⟨x, mx, p1, h1, e1⟩ := pick5 n p ["p", "q"] a b (.va (enc q)) d (by decide) (by decide) (by omega) (by decide +kernel)
  have e2 := draw5 n p1 10 a b (.va (enc q)) d (by decide) (by decide) (by omega)
  have r := p1.rng 10 (by decide)
  have l := p1.at_le 10
  refine ⟨.stamp x q (p1.draw 10).1, (p1.draw 10).2, ?_, ⟨mx, hq, r.1, by omega⟩, rfl, rfl, rfl, by omega, rfl⟩
  exact z_tup (z_cons (by rfl) (z_cons e1 (z_cons (d := enc q) (by rfl) (z_cons e2 z_nil)))) (by rfl)
theorem mix5 (n : Nat) (p : Pen) (q : Row) (a b d : SV) (ha : p.at_ + 2 ≤ 16777216) (hq : Ok q) : ∃ (r : Row) (p' : Pen), mixE n (s5 p a b (.va (enc q)) d) = .ok (enc r) (s5 p' a b (.va (enc q)) d) ∧ Ok r ∧ dp r = dp q + 1 ∧ cnt r = cnt q + 1 ∧ wt r = wt q + 30 ∧ p'.at_ ≤ p.at_ + 2 ∧ base r = base q := by
  obtain ⟨x, mx, p1, h1, e1⟩ := pick5 n p ["x", "y"] a b (.va (enc q)) d (by decide) (by decide) (by omega) (by decide +kernel)
  have e2 := draw5 n p1 4 a b (.va (enc q)) d (by decide) (by decide) (by omega)
  have r := p1.rng 4 (by decide)
  have l := p1.at_le 4
  refine ⟨.mix x (p1.draw 4).1 q, (p1.draw 4).2, ?_, ⟨mx, r.1, by omega, hq⟩, rfl, rfl, rfl, by omega, rfl⟩
  exact z_tup (z_cons (by rfl) (z_cons e1 (z_cons e2 (z_cons (d := enc q) (by rfl) z_nil)))) (by rfl)
/-- a fold of some rows and one more -/
def foldR (x : Str) : List Row → Row → Row
  | [], q => .one x q
  | [a], q => .more (.one x a) q
  | a :: b :: _, q => .more (.more (.one x a) b) q
theorem foldR_enc (x : Str) (q : Row) : ∀ (rs : List Row), rs.length ≤ 2 → enc (foldR x rs q) = .tup [.str "fold", .str x, .tup (rs.map enc ++ [enc q])]
  | [], _ => rfl
  | [_], _ => rfl
  | [_, _], _ => rfl
  | _ :: _ :: _ :: _, h => by simp at h
theorem fold5 (rec : SS → Fo) (n : Nat) (p : Pen) (q : Row) (deep : Int) (b d : SV) (hd : ∀ l, d ≠ .ow l) (M a KD KK KWW : Nat) (hM : M ≤ 16777216) (ha : p.at_ + 2 + 2 * a ≤ M) (hq : Ok q) (hp : 1 ≤ M)
    (hr : ∀ p : Pen, p.at_ + a ≤ M → ∃ (r : Row) (p' : Pen), rec [.ow p.d, .va (.int (deep - 2))] = .va (enc r) [.ow p'.d] ∧ (Ok r ∧ dp r ≤ KD ∧ cnt r ≤ KK ∧ wt r ≤ KWW) ∧ p'.at_ ≤ p.at_ + a) :
    ∃ (r : Row) (p' : Pen), foldE rec n (s5 p (.va (.int deep)) b (.va (enc q)) d) = .ok (enc r) (s5 p' (.va (.int deep)) b (.va (enc q)) d) ∧ Ok r ∧ dp r ≤ max (dp q) KD + 2 ∧ cnt r ≤ cnt q + 2 * KK + 3 ∧ wt r ≤ wt q + 2 * KWW + 42 ∧ p'.at_ ≤ p.at_ + 2 + 2 * a ∧ flen (base r) ≤ 3 := by
  obtain ⟨x, mx, p1, h1, e1⟩ := pick5 n p ["f", "g"] (.va (.int deep)) b (.va (enc q)) d (by decide) (by decide) (by omega) (by decide +kernel)
  have e2 := draw5 n p1 3 (.va (.int deep)) b (.va (enc q)) d (by decide) (by decide) (by omega)
  have r := p1.rng 3 (by decide)
  have l := p1.at_le 3
  have hk : (upto 0 (p1.draw 3).1.toNat).length = (p1.draw 3).1.toNat := by
    have : ∀ (n : Nat) (lo : Int), (upto lo n).length = n := fun n => by
      induction n with
      | zero => intro lo; rfl
      | succ n ih => intro lo; simp only [upto, List.length_cons, ih]
    exact this _ _
  have h2 : (p1.draw 3).1.toNat ≤ 2 := by omega
  have hmul : a * (upto 0 (p1.draw 3).1.toNat).length ≤ 2 * a := by
    rw [hk, Nat.mul_comm]
    exact Nat.mul_le_mul_right a h2
  obtain ⟨rs, p2, e3, ln, qs, l2⟩ := comp_draws (own := [4]) (g := gSlot [0] 4) (fe := eCallP 0 (rec) (aCons (eBin dSub (pVar 1) (pV (eC (.int 2)))) (aNil))) (st := fun p => s5 p (.va (.int deep)) b (.va (enc q)) .un) (st1 := fun p d => s5 p (.va (.int deep)) b (.va (enc q)) (.va d)) (M := M) (a := a)
    (Q := fun r => Ok r ∧ dp r ≤ KD ∧ cnt r ≤ KK ∧ wt r ≤ KWW) (fun p d => by rfl) (fun p d => ⟨by rfl, by rfl⟩) (fun p d h => by
      obtain ⟨r, p', e, q', l'⟩ := hr p h
      refine ⟨r, p', ?_, q', l'⟩
      exact z_callP (l0 := p.d) (p := p.d) (p' := p'.d) (by rfl) (y_cons (y_op (x := .int deep) (y := .int 2) (by rfl) (by rfl) (by rfl)) z_nil) (by rfl) e) (upto 0 (p1.draw 3).1.toNat) (p1.draw 3).2 [] (by omega) (by rw [hk]; simp; omega)
  rw [hk] at ln
  refine ⟨foldR x rs q, p2, ?_, ?_⟩
  · have hc : aComp [4] (aRg1 (aCons (eCallP 0 (f__law_draw n) (aCons (eC (.int 3)) (aNil))) (aNil))) (gSlot [0] 4) (tsYes) (eCallP 0 (rec) (aCons (eBin dSub (pVar 1) (pV (eC (.int 2)))) (aNil))) (s5 p1 (.va (.int deep)) b (.va (enc q)) d) = .ok (rs.map enc) (s5 p2 (.va (.int deep)) b (.va (enc q)) d) := by
      have hg : aRg1 (aCons (eCallP 0 (f__law_draw n) (aCons (eC (.int 3)) (aNil))) (aNil)) (s5 p1 (.va (.int deep)) b (.va (enc q)) d) = .ok (upto 0 (p1.draw 3).1.toNat) (s5 (p1.draw 3).2 (.va (.int deep)) b (.va (enc q)) d) := by
        unfold aRg1
        rw [z_cons e2 z_nil]
        have : small62 (p1.draw 3).1 = true := by unfold small62; rw [decide_eq_true (by omega), decide_eq_true (by omega)]; rfl
        show (if small62 (p1.draw 3).1 = true then _ else _) = _
        rw [if_pos this]
      unfold aComp
      rw [hg]
      have hw : noOw [4] (s5 (p1.draw 3).2 (.va (.int deep)) b (.va (enc q)) d) = true := by
        cases d with
        | ow x => exact absurd rfl (hd x)
        | un => rfl
        | va x => rfl
      show compAt _ _ _ _ _ _ = _
      unfold compAt
      rw [if_pos hw]
      have hz : wipeS (s5 (p1.draw 3).2 (.va (.int deep)) b (.va (enc q)) d) [4] = s5 (p1.draw 3).2 (.va (.int deep)) b (.va (enc q)) .un := rfl
      rw [hz, e3]
      rfl
    rw [foldR_enc x q rs (by omega)]
    refine z_tup (z_cons (by rfl) (z_cons e1 (z_cons (S1 := s5 p2 (.va (.int deep)) b (.va (enc q)) d) ?_ z_nil))) (by rfl)
    refine z_bin (a := .val (.tup (rs.map enc))) (b := .val (.tup [enc q])) (x := .tup (rs.map enc)) (y := .tup [enc q]) (S1 := s5 p2 (.va (.int deep)) b (.va (enc q)) d) (z_pV (z_CB (ps := [.val (.lst (rs.map enc))]) (l := [.lst (rs.map enc)]) (z_lcons (z_pV (z_lst hc)) z_lnil) (by rfl) (by rfl))) (by rfl) (by rfl) (by rfl) ?_
    show (if okLen ((rs.map enc).length + [enc q].length) = true then _ else _) = _
    have ho : okLen ((rs.map enc).length + [enc q].length) = true := decide_eq_true (by rw [List.length_map]; simp only [List.length_cons, List.length_nil]; omega)
    rw [if_pos ho]
  · have lx : p2.at_ ≤ p.at_ + 2 + 2 * a := by omega
    match rs, ln, qs with
    | [], _, _ => exact ⟨⟨mx, hq⟩, by simp only [foldR, dp]; omega, by simp only [foldR, cnt]; omega, by simp only [foldR, wt]; omega, lx, show (1 : Nat) ≤ 3 by decide⟩
    | [u], _, qs =>
      obtain ⟨o1, o2, o3, o4⟩ := qs u (.head _)
      exact ⟨⟨rfl, ⟨mx, o1⟩, hq⟩, by simp only [foldR, dp]; omega, by simp only [foldR, cnt]; omega, by simp only [foldR, wt]; omega, lx, show (2 : Nat) ≤ 3 by decide⟩
    | [u, v], _, qs =>
      obtain ⟨o1, o2, o3, o4⟩ := qs u (.head _)
      obtain ⟨w1, w2, w3, w4⟩ := qs v (.tail _ (.head _))
      exact ⟨⟨rfl, ⟨rfl, ⟨mx, o1⟩, w1⟩, hq⟩, by simp only [foldR, dp]; omega, by simp only [foldR, cnt]; omega, by simp only [foldR, wt]; omega, lx, show (3 : Nat) ≤ 3 by decide⟩
    | _ :: _ :: _ :: _, ln, _ => simp only [List.length_cons] at ln; omega
end K03
end
section
set_option maxRecDepth 100000
set_option linter.all false
set_option maxHeartbeats 2000000
namespace K03
open PySem PySem.Spec PyProof.Rows L2 Fy
theorem lt2_ok (k w : Int) (p : Pen) (a c d : SV) : lt2 k (s5 p a (.va (.int w)) c d) = .ok (decide (w < k)) (s5 p a (.va (.int w)) c d) := y_tBl (y_op (x := .int w) (y := .int k) (by rfl) (by rfl) (dLt_int w k))
theorem eq2_ok (k w : Int) (p : Pen) (a c d : SV) : eq2 k (s5 p a (.va (.int w)) c d) = .ok (w == k) (s5 p a (.va (.int w)) c d) := y_tBl (y_op (x := .int w) (y := .int k) (by rfl) (by rfl) (dEq_int w k))
theorem row_ok (n : Nat) : ∀ (j : Nat) (deep : Int) (p : Pen), deep ≤ j → p.at_ + A j ≤ 16777216 → ∃ (r : Row) (p' : Pen), r__law_drawn_row n (j + 1) [.ow p.d, .va (.int deep)] = .va (enc r) [.ow p'.d] ∧ Dr j p r p' := by
  have leafy : ∀ (j : Nat) (deep w : Int) (p p0 : Pen) (rec : SS → Fo), w < 2 → p.at_ ≤ p0.at_ + 1 → p.at_ + 2 ≤ 16777216 → wayE n (s5 p0 (.va (.int deep)) .un .un .un) = .ok (.int w) (s5 p (.va (.int deep)) .un .un .un) →
      ∃ (r : Row) (p' : Pen), fnF [0] 3 (b__law_drawn_row rec n) [.ow p0.d, .va (.int deep)] = .va (enc r) [.ow p'.d] ∧ Dr j p0 r p' := by
    intro j deep w p p0 rec hw h1 h2 e
    obtain ⟨r, p1, e1, o1, o2, o3, o4, o5, o6⟩ := leaf5 n p (.va (.int deep)) (.va (.int w)) .un .un h2
    have a1 := A_pos j
    have a2 := KC_pos j
    have a3 := KW_pos j
    refine ⟨r, p1, ?_, ⟨o1, by omega, by omega, by omega, by omega, o6⟩⟩
    refine z_fnRt (S1 := s5 p1 (.va (.int deep)) (.va (.int w)) .un .un) ?_
    rw [row_eq]
    refine z_seq (z_asg e (S2 := s5 p (.va (.int deep)) (.va (.int w)) .un .un) (by rfl)) ?_
    refine z_seqR (y_ifT (by rw [lt2_ok, decide_eq_true hw]) (z_ret e1)) (fun T e => by cases e)
  have way0 : ∀ (deep : Int) (p0 : Pen), deep ≤ 0 → wayE n (s5 p0 (.va (.int deep)) .un .un .un) = .ok (.int 0) (s5 p0 (.va (.int deep)) .un .un .un) := fun deep p0 h =>
    y_eIfF (y_tBl (y_op (x := .int deep) (y := .int 0) (by rfl) (by rfl) (by rw [dGt_int, decide_eq_false (by omega)]))) (by rfl)
  intro j
  induction j with
  | zero =>
    intro deep p hd ha
    have : A 0 = 3 := rfl
    exact leafy 0 deep 0 p p (r__law_drawn_row n 0) (by decide) (by omega) (by omega) (way0 deep p hd)
  | succ j ih =>
    intro deep p hd ha
    have hA : A (j + 1) = 3 * A j + 3 := rfl
    have hKC : KC (j + 1) = 3 * KC j + 3 := rfl
    have hKW : KW (j + 1) = 3 * KW j + 42 := rfl
    by_cases h0 : deep ≤ 0
    · exact leafy (j + 1) deep 0 p p (r__law_drawn_row n (j + 1)) (by decide) (by omega) (by omega) (way0 deep p h0)
    have hway : wayE n (s5 p (.va (.int deep)) .un .un .un) = .ok (.int (p.draw 8).1) (s5 (p.draw 8).2 (.va (.int deep)) .un .un .un) :=
      y_eIfT (y_tBl (y_op (x := .int deep) (y := .int 0) (by rfl) (by rfl) (by rw [dGt_int, decide_eq_true (by omega)]))) (draw5 n p 8 _ _ _ _ (by decide) (by decide) (by omega))
    have w := p.rng 8 (by decide)
    have l := p.at_le 8
    generalize hw : (p.draw 8).1 = way at hway w
    generalize hp : (p.draw 8).2 = p1 at hway l
    by_cases w2 : way < 2
    · exact leafy (j + 1) deep way p1 p (r__law_drawn_row n (j + 1)) w2 (by omega) (by omega) hway
    obtain ⟨q, p2, e2, dr⟩ := ih (deep - 1) p1 (by omega) (by omega)
    have d1 := dr.dp
    have d2 := dr.cn
    have d3 := dr.wt
    have d4 := dr.at_
    have hinn : innE (r__law_drawn_row n (j + 1)) (s5 p1 (.va (.int deep)) (.va (.int way)) .un .un) = .ok (enc q) (s5 p2 (.va (.int deep)) (.va (.int way)) .un .un) :=
      z_callP (l0 := p1.d) (p := p1.d) (p' := p2.d) (by rfl) (y_cons (y_op (x := .int deep) (y := .int 1) (by rfl) (by rfl) (by rfl)) z_nil) (by rfl) e2
    have go : ∀ {o : Oc}, (sSeq (sIf (lt2 4) (sRet (mapE n)) (sNil)) (sSeq (sIf (eq2 4) (sRet (stampE n)) (sNil)) (sSeq (sIf (lt2 7) (sRet (mixE n)) (sNil)) (sRet (foldE (r__law_drawn_row n (j + 1)) n))))) (s5 p2 (.va (.int deep)) (.va (.int way)) (.va (enc q)) .un) = o → b__law_drawn_row (r__law_drawn_row n (j + 1)) n (s5 p (.va (.int deep)) .un .un .un) = o := fun {o} h => by
      rw [row_eq]
      refine z_seq (z_asg hway (S2 := s5 p1 (.va (.int deep)) (.va (.int way)) .un .un) (by rfl)) ?_
      refine z_seq (y_ifF (by rw [lt2_ok, decide_eq_false w2]) (by rfl)) ?_
      refine z_seq (z_asg hinn (S2 := s5 p2 (.va (.int deep)) (.va (.int way)) (.va (enc q)) .un) (by rfl)) h
    by_cases w4 : way < 4
    · obtain ⟨r, p3, e3, o1, o2, o3, o4, o5, o6⟩ := map5 n p2 q (.va (.int deep)) (.va (.int way)) .un (by omega) dr.ok
      refine ⟨r, p3, z_fnRt (S1 := s5 p3 (.va (.int deep)) (.va (.int way)) (.va (enc q)) .un) (go ?_), ⟨o1, by omega, by omega, by omega, by omega, by rw [o6]; exact dr.fl⟩⟩
      exact z_seqR (y_ifT (by rw [lt2_ok, decide_eq_true w4]) (z_ret e3)) (fun T e => by cases e)
    by_cases w5 : way = 4
    · obtain ⟨r, p3, e3, o1, o2, o3, o4, o5, o6⟩ := stamp5 n p2 q (.va (.int deep)) (.va (.int way)) .un (by omega) dr.ok
      refine ⟨r, p3, z_fnRt (S1 := s5 p3 (.va (.int deep)) (.va (.int way)) (.va (enc q)) .un) (go ?_), ⟨o1, by omega, by omega, by omega, by omega, by rw [o6]; exact dr.fl⟩⟩
      refine z_seq (y_ifF (by rw [lt2_ok, decide_eq_false w4]) (by rfl)) ?_
      exact z_seqR (y_ifT (by rw [eq2_ok, w5]; rfl) (z_ret e3)) (fun T e => by cases e)
    have w5' : (way == 4) = false := by simpa using w5
    by_cases w7 : way < 7
    · obtain ⟨r, p3, e3, o1, o2, o3, o4, o5, o6⟩ := mix5 n p2 q (.va (.int deep)) (.va (.int way)) .un (by omega) dr.ok
      refine ⟨r, p3, z_fnRt (S1 := s5 p3 (.va (.int deep)) (.va (.int way)) (.va (enc q)) .un) (go ?_), ⟨o1, by omega, by omega, by omega, by omega, by rw [o6]; exact dr.fl⟩⟩
      refine z_seq (y_ifF (by rw [lt2_ok, decide_eq_false w4]) (by rfl)) ?_
      refine z_seq (y_ifF (by rw [eq2_ok, w5']) (by rfl)) ?_
      exact z_seqR (y_ifT (by rw [lt2_ok, decide_eq_true w7]) (z_ret e3)) (fun T e => by cases e)
    · obtain ⟨r, p3, e3, o1, o2, o3, o4, o5, o6⟩ := fold5 (r__law_drawn_row n (j + 1)) n p2 q deep (.va (.int way)) .un (fun l e => by cases e) 16777216 (A j) (1 + 2 * j) (KC j) (KW j) (by omega) (by omega) dr.ok (by decide) (fun p' h' => by
        obtain ⟨r, p'', e, x⟩ := ih (deep - 2) p' (by omega) h'
        exact ⟨r, p'', e, ⟨x.ok, x.dp, x.cn, x.wt⟩, x.at_⟩)
      refine ⟨r, p3, z_fnRt (S1 := s5 p3 (.va (.int deep)) (.va (.int way)) (.va (enc q)) .un) (go ?_), ⟨o1, by omega, by omega, by omega, by omega, o6⟩⟩
      refine z_seq (y_ifF (by rw [lt2_ok, decide_eq_false w4]) (by rfl)) ?_
      refine z_seq (y_ifF (by rw [eq2_ok, w5']) (by rfl)) ?_
      refine z_seq (y_ifF (by rw [lt2_ok, decide_eq_false w7]) (by rfl)) ?_
      exact z_ret e3
end K03
end
section
set_option maxRecDepth 100000
set_option linter.all false
set_option maxHeartbeats 2000000
namespace K03
open PySem PySem.Spec PyProof.Rows L2 Fy
/-! ### names as data -/
theorem sides_py : ∀ (r : Row), Ok r → PyA 1 (wt r) (sides r)
  | .row _ _, _ => pya_nil.mono (Nat.le_refl _) (Nat.zero_le _)
  | .map _ r, o => (sides_py r o.2).mono (Nat.le_refl _) (by simp only [wt]; omega)
  | .stamp _ r _, o => (sides_py r o.2.1).mono (Nat.le_refl _) (by simp only [wt]; omega)
  | .mix m s r, o => (pya_append (sides_py r o.2.2.2) (pya_cons (py_tup (k := 0) (pya_cons (w := 8) (py_str (al_words o.1) (Nat.le_refl _)) (pya_cons (w := 6) (py_int o.2.1 (by have := o.2.2.1; omega) (Nat.le_refl _)) pya_nil))) pya_nil)).mono (Nat.le_refl _) (by simp only [wt]; omega)
  | .one _ _, _ => pya_nil.mono (Nat.le_refl _) (Nat.zero_le _)
  | .more _ _, _ => pya_nil.mono (Nat.le_refl _) (Nat.zero_le _)
theorem sides_lv : ∀ (r : Row), Ok r → LVA (sides r)
  | .row _ _, _ => lva_nil
  | .map _ r, o => sides_lv r o.2
  | .stamp _ r _, o => sides_lv r o.2.1
  | .mix m s r, o => lva_append (sides_lv r o.2.2.2) (lva_cons (lv_tup (lva_cons (lv_str (al_words o.1)) (lva_cons (lv_int o.2.1 (by have := o.2.2.1; omega)) lva_nil))) lva_nil)
  | .one _ _, _ => lva_nil
  | .more _ _, _ => lva_nil
theorem nm_form (r : Row) (o : Ok r) (hf : flen (base r) ≤ 3) : ∃ b i, b ∈ al ∧ 0 ≤ i ∧ i < 32 ∧ nm r = .tup [.str b, .int i, .tup (sides r)] := by
  have ob := o.base
  rcases base_cases r with ⟨b, i, e⟩ | e
  · rw [e] at ob
    exact ⟨b, i, ob.1, ob.2.1, by have := ob.2.2; omega, by unfold nm; rw [e]⟩
  · have q := (enc_fold e ob).2
    have l := flen_pos e
    refine ⟨fnm (base r), (its (enc (base r))).length - 1, fnm_al ob, by omega, by omega, ?_⟩
    unfold nm
    cases c : base r <;> first | rfl | (rw [c] at e; cases e)
theorem nm_py (r : Row) (o : Ok r) (hf : flen (base r) ≤ 3) : Py 3 (wt r + 40) (nm r) := by
  obtain ⟨b, i, h1, h2, h3, e⟩ := nm_form r o hf
  rw [e]
  exact (py_tup (k := 2) (pya_cons (w := 8) (py_str (al_words h1) (Nat.le_refl _)) (pya_cons (w := 6) (py_int h2 h3 (Nat.le_refl _)) (pya_cons (py_tup (sides_py r o)) pya_nil)))).mono (Nat.le_refl _) (by omega)
theorem nm_lv (r : Row) (o : Ok r) (hf : flen (base r) ≤ 3) : LV (nm r) := by
  obtain ⟨b, i, h1, h2, h3, e⟩ := nm_form r o hf
  rw [e]
  exact lv_tup (lva_cons (lv_str (al_words h1)) (lva_cons (lv_int h2 h3) (lva_cons (lv_tup (sides_lv r o)) lva_nil)))
theorem nm_tup (r : Row) : ∃ l, nm r = .tup l := by
  unfold nm
  split <;> exact ⟨_, rfl⟩
theorem node_al : ∀ (r : Row), Ok r → node r ∈ al
  | .row _ _, o => o.1
  | .map _ _, o => o.1
  | .stamp _ _ _, o => o.1
  | .mix _ _ _, o => o.1
  | .one _ _, o => o.1
  | .more i _, o => fnm_al (r := i) o.2.1
theorem pl_py (r : Row) (o : Ok r) (hf : flen (base r) ≤ 3) : Py 4 (wt r + 60) (.tup [.str (node r), nm r]) :=
  (py_tup (k := 3) (pya_cons (w := 8) (py_str (al_words (node_al r o)) (Nat.le_refl _)) (pya_cons (nm_py r o hf) pya_nil))).mono (Nat.le_refl _) (by omega)
theorem pl_lv (r : Row) (o : Ok r) (hf : flen (base r) ≤ 3) : LV (.tup [.str (node r), nm r]) := lv_tup (lva_cons (lv_str (al_words (node_al r o))) (lva_cons (nm_lv r o hf) lva_nil))
theorem dNe_sd {x : Str} (h : (PyData.str x).canLay0 = true) : dNe (sd x) (sd x) = some (.bl false) := by
  have e : dPy (sd x) = some (.str x) := by
    unfold dPy sd
    simp only [toPy]
    have : SeqAt.shaped (.str x) = true := by
      unfold SeqAt.shaped
      simp only [h, PyData.depth]
      rfl
    simp only [this, if_true]
  unfold dNe dEqG
  rw [e]
  simp only [PyData.eqv, beq_self_eq_true, Bool.not_true]
def neRep (fa fb : EF) : TF := tBl (eBin dNe (pV (eCB (g1 dRepr) (lCons (pV fa) (lNil)))) (pV (eCB (g1 dRepr) (lCons (pV fb) (lNil)))))
theorem neRep_ok {fa fb : EF} {S : SS} {d : D} {k w : Nat} (ha : fa S = .ok d S) (hb : fb S = .ok d S) (hp : Py k w d) (hk : k ≤ 60) (hw : w ≤ 90000) (ht : ∃ l, d = .tup l) (hl : LV d) : neRep fa fb S = .ok false S := by
  have r := (repr_ok hp hk hw ht).1
  exact y_tBl (y_op (x := sd (shD d)) (y := sd (shD d)) (y_pV (y_CB (ps := [.val d]) (l := [d]) (y_lcons (y_pV ha) z_lnil) (by rfl) r)) (y_pV (y_CB (ps := [.val d]) (l := [d]) (y_lcons (y_pV hb) z_lnil) (by rfl) r)) (dNe_sd (sh_ok hl)))
theorem neSame_ok {fa : EF} {S : SS} {d : D} {k w : Nat} (ha : fa S = .ok d S) (hp : Py k w d) (hk : k ≤ 60) : tBl (eBin dNe (pV fa) (pV fa)) S = .ok false S := by
  obtain ⟨b, h1, h2⟩ := ne_ok hp hp (by omega) (by omega)
  have hb : b = false := by
    cases b with
    | false => rfl
    | true => exact absurd rfl (h2.1 rfl)
  subst hb
  exact y_tBl (y_op (y_pV ha) (y_pV ha) h1)
def chk (n : Nat) : TF := tOr2 (neRep (eCall (f_name_of n) (aCons (eVar [] 7) (aNil))) (eCall (f__law_name n) (aCons (eVar [] 7) (aNil)))) (tOr2 (neRep (eCall (f_place_of n) (aCons (eVar [] 7) (aNil))) (eTup (aCons (eBin dIx (pVar 7) (pV (eC (.int 1)))) (aCons (eCall (f__law_name n) (aCons (eVar [] 7) (aNil))) (aNil))))) (tOr2 (tBl (eBin dNe (pV (eCall (f_name_of n) (aCons (eVar [] 7) (aNil)))) (pV (eCall (f_name_of n) (aCons (eVar [] 7) (aNil)))))) (tBl (eBin dNe (pV (eCall (f_place_of n) (aCons (eVar [] 7) (aNil)))) (pV (eCall (f_place_of n) (aCons (eVar [] 7) (aNil))))))))
theorem chk_ok (n : Nat) (r : Row) (o : Ok r) (hd : dp r ≤ 60) (hw : wt r ≤ 80000) (hf : flen (base r) ≤ 3) (hn : 60 < n) (a0 a1 a2 a3 a4 a5 a6 a8 a9 : SV) : chk n [a0, a1, a2, a3, a4, a5, a6, .va (enc r), a8, a9] = .ok false [a0, a1, a2, a3, a4, a5, a6, .va (enc r), a8, a9] := by
  have hh := hgt_dp r
  have e1 : eCall (f_name_of n) (aCons (eVar [] 7) (aNil)) [a0, a1, a2, a3, a4, a5, a6, .va (enc r), a8, a9] = .ok (nm r) [a0, a1, a2, a3, a4, a5, a6, .va (enc r), a8, a9] := y_call (l := [enc r]) (by rfl) (name_ok r o n (by omega) (by omega))
  have e2 : eCall (f__law_name n) (aCons (eVar [] 7) (aNil)) [a0, a1, a2, a3, a4, a5, a6, .va (enc r), a8, a9] = .ok (nm r) [a0, a1, a2, a3, a4, a5, a6, .va (enc r), a8, a9] := y_call (l := [enc r]) (by rfl) (lname_ok r o n (by omega) (by omega))
  have e3 : eCall (f_place_of n) (aCons (eVar [] 7) (aNil)) [a0, a1, a2, a3, a4, a5, a6, .va (enc r), a8, a9] = .ok (.tup [.str (node r), nm r]) [a0, a1, a2, a3, a4, a5, a6, .va (enc r), a8, a9] := y_call (l := [enc r]) (by rfl) (place_ok r o n (by omega) (by omega))
  have e4 : eBin dIx (pVar 7) (pV (eC (.int 1))) [a0, a1, a2, a3, a4, a5, a6, .va (enc r), a8, a9] = .ok (.str (node r)) [a0, a1, a2, a3, a4, a5, a6, .va (enc r), a8, a9] := by
    clear e1 e2 e3 hd hw hf hh o
    cases r <;> kernel_rfl
  refine y_orF (neRep_ok e1 e2 (nm_py r o hf) (by decide) (by omega) (nm_tup r) (nm_lv r o hf)) ?_
  refine y_orF (neRep_ok e3 (y_tup (y_cons e4 (y_cons e2 z_nil)) (by rfl)) (pl_py r o hf) (by decide) (by omega) ⟨_, rfl⟩ (pl_lv r o hf)) ?_
  exact y_orF (neSame_ok e1 (nm_py r o hf) (by decide)) (neSame_ok e3 (pl_py r o hf) (by decide))
end K03
end
section
set_option maxRecDepth 100000
set_option linter.all false
set_option maxHeartbeats 2000000
namespace K03
open PySem PySem.Spec PyProof.Rows L2 Fy
/-! ### one turn -/
abbrev sA (p : Pen) (a0 a2 a6 a7 a8 a9 : SV) : SS := [a0, .ow p.d, a2, .un, .un, .un, a6, a7, a8, a9]
def manyE (n : Nat) : AF := aRg1 (aCons (eBin dAdd (pV (eC (.int 1))) (pV (eCallP 1 (f__law_draw n) (aCons (eC (.int 3)) (aNil))))) (aNil))
def rowsE (n : Nat) : EF := eLst (aComp [9] (manyE n) (gSlot [] 9) (tsYes) (eCallP 1 (f__law_drawn_row n) (aCons (eC (.int 5)) (aNil))))
structure Gd (r : Row) : Prop where
  ok : Ok r
  dp : dp r ≤ 60
  cn : cnt r ≤ 700
  wt : wt r ≤ 80000
  fl : flen (base r) ≤ 3
theorem rows_ok (n : Nat) (p : Pen) (a0 a2 a6 a7 a8 : SV) (ha : p.at_ + 3277 ≤ 16777216) :
    ∃ (rs : List Row) (p' : Pen), rowsE n (sA p a0 a2 a6 a7 a8 .un) = .ok (.lst (rs.map enc)) (sA p' a0 a2 a6 a7 a8 .un) ∧ rs.length ≤ 3 ∧ (∀ r ∈ rs, Gd r) ∧ p'.at_ ≤ p.at_ + 3277 := by
  have r := p.rng 3 (by decide)
  have l := p.at_le 3
  have hA : A 5 = 1092 := rfl
  have hg : manyE n (sA p a0 a2 a6 a7 a8 .un) = .ok (upto 0 (1 + (p.draw 3).1).toNat) (sA (p.draw 3).2 a0 a2 a6 a7 a8 .un) := by
    have e2 : eCallP 1 (f__law_draw n) (aCons (eC (.int 3)) (aNil)) (sA p a0 a2 a6 a7 a8 .un) = .ok (.int (p.draw 3).1) (sA (p.draw 3).2 a0 a2 a6 a7 a8 .un) :=
      z_callP (l0 := p.d) (p := p.d) (p' := (p.draw 3).2.d) (by rfl) (y_cons (d := .int 3) (by rfl) z_nil) (by rfl) (draw_ok n p 3 (by decide) (by decide) (by omega))
    have e3 : eBin dAdd (pV (eC (.int 1))) (pV (eCallP 1 (f__law_draw n) (aCons (eC (.int 3)) (aNil)))) (sA p a0 a2 a6 a7 a8 .un) = .ok (.int (1 + (p.draw 3).1)) (sA (p.draw 3).2 a0 a2 a6 a7 a8 .un) :=
      z_bin (S1 := sA p a0 a2 a6 a7 a8 .un) (a := .val (.int 1)) (b := .val (.int (p.draw 3).1)) (x := .int 1) (y := .int (p.draw 3).1) (by rfl) (z_pV e2) (by rfl) (by rfl) (by rfl)
    unfold manyE aRg1
    rw [z_cons e3 z_nil]
    have : small62 (1 + (p.draw 3).1) = true := by unfold small62; rw [decide_eq_true (by omega), decide_eq_true (by omega)]; rfl
    show (if small62 (1 + (p.draw 3).1) = true then _ else _) = _
    rw [if_pos this]
  have hk : ∀ (n : Nat) (lo : Int), (upto lo n).length = n := fun n => by
    induction n with
    | zero => intro lo; rfl
    | succ n ih => intro lo; simp only [upto, List.length_cons, ih]
  have h3 : (1 + (p.draw 3).1).toNat ≤ 3 := by omega
  obtain ⟨rs, p2, e3, ln, qs, l2⟩ := comp_draws (own := [9]) (g := gSlot [] 9) (fe := eCallP 1 (f__law_drawn_row n) (aCons (eC (.int 5)) (aNil))) (st := fun p => sA p a0 a2 a6 a7 a8 .un) (st1 := fun p d => sA p a0 a2 a6 a7 a8 (.va d)) (M := 16777216) (a := A 5)
    (Q := Gd) (fun p d => by rfl) (fun p d => ⟨by rfl, by rfl⟩) (fun p d h => by
      obtain ⟨r, p', e, dr⟩ := row_ok n 5 5 p (by decide) h
      have d1 := dr.dp
      have d2 : cnt r ≤ 606 := dr.cn
      have d3 : K03.wt r ≤ 12372 := dr.wt
      exact ⟨r, p', z_callP (l0 := p.d) (p := p.d) (p' := p'.d) (by rfl) (y_cons (d := .int 5) (by rfl) z_nil) (by rfl) e, ⟨dr.ok, by omega, by omega, by omega, dr.fl⟩, dr.at_⟩)
    (upto 0 (1 + (p.draw 3).1).toNat) (p.draw 3).2 [] (by rw [hk, hA]; omega) (by rw [hk]; simp; omega)
  rw [hk] at ln l2
  refine ⟨rs, p2, ?_, by omega, qs, by rw [hA] at l2; omega⟩
  refine z_lst ?_
  unfold aComp
  rw [hg]
  have hw : noOw [9] (sA (p.draw 3).2 a0 a2 a6 a7 a8 .un) = true := by rfl
  show compAt _ _ _ _ _ _ = _
  unfold compAt
  rw [if_pos hw]
  have hz : wipeS (sA (p.draw 3).2 a0 a2 a6 a7 a8 .un) [9] = sA (p.draw 3).2 a0 a2 a6 a7 a8 .un := rfl
  rw [hz, e3]
  rfl
def chkB (n : Nat) : SF := sIf (chk n) (sRet (eC (.bl false))) (sNil)
theorem chks_ok (n : Nat) (hn : 60 < n) (p : Pen) (a0 a2 a6 a8 a9 : SV) : ∀ (rs : List Row) (a7 : SV), (∀ r ∈ rs, Gd r) → (∀ x, a7 ≠ .ow x) → ∃ a7', sFor (gSlot [] 7) (chkB n) (rs.map enc) (sA p a0 a2 a6 a7 a8 a9) = .nx (sA p a0 a2 a6 a7' a8 a9) ∧ ∀ x, a7' ≠ .ow x
  | [], a7, _, h => ⟨a7, rfl, h⟩
  | r :: rs, a7, hr, h => by
    obtain ⟨a7', e, h'⟩ := chks_ok n hn p a0 a2 a6 a8 a9 rs (.va (enc r)) (fun x m => hr x (.tail _ m)) (fun x e => by cases e)
    have g := hr r (.head _)
    refine ⟨a7', ?_, h'⟩
    refine z_for1 (S1 := sA p a0 a2 a6 (.va (enc r)) a8 a9) (S2 := sA p a0 a2 a6 (.va (enc r)) a8 a9) (by rfl) ?_ e
    exact y_ifF (chk_ok n r g.ok g.dp g.wt g.fl hn _ _ _ _ _ _ _ _ _) (by rfl)
def neS (f g : EF) : TF := tBl (eBin dNe (pV f) (pV g))
def tE (n : Nat) : TF := tOr2 (tNot1 (tBl (tIsi (dIsi "tuple") (pVar 8)))) (neS (srt (aIt (eVar [] 8))) (srt (aIt (eCall (f__law_within n) (aCons (eVar [] 6) (aNil))))))
def tF' (n : Nat) : TF := neS (srt (aIt (eCall (f_within n) (aCons (eCB (g1 dTuple) (lCons (pVar 6) (lNil))) (aNil))))) (srt (aIt (eVar [] 8)))
def turnB (n : Nat) : SF := sSeq (sAsg (rowsE n) (gSlot [] 6)) (sSeq (sForE (aIt (eVar [] 6)) (gSlot [] 7) (chkB n)) (sSeq (sAsg (eCall (f_within n) (aCons (eVar [] 6) (aNil))) (gSlot [] 8)) (sSeq (sIf (tE n) (sRet (eC (.bl false))) (sNil)) (sIf (tF' n) (sRet (eC (.bl false))) (sNil)))))
theorem sum_le : ∀ (rs : List Row), (∀ r ∈ rs, Gd r) → (rs.map cnt).sum ≤ 700 * rs.length
  | [], _ => Nat.le_refl _
  | r :: rs, h => by
    have a := (h r (.head _)).cn
    have b := sum_le rs (fun x m => h x (.tail _ m))
    simp only [List.map_cons, List.sum_cons, List.length_cons]
    omega
def clo : Row → List Row
  | .row b i => [.row b i]
  | .map m r => .map m r :: clo r
  | .stamp m r o => .stamp m r o :: clo r
  | .mix m s r => .mix m s r :: clo r
  | .one f r => .one f r :: clo r
  | .more i r => .more i r :: (clo r ++ clo i)
theorem clo_self : ∀ r, r ∈ clo r
  | .row _ _ => .head _
  | .map _ _ => .head _
  | .stamp _ _ _ => .head _
  | .mix _ _ _ => .head _
  | .one _ _ => .head _
  | .more _ _ => .head _
theorem clo_len : ∀ r, (clo r).length = cnt r
  | .row _ _ => rfl
  | .map _ r => by simp only [clo, cnt, List.length_cons, clo_len r]
  | .stamp _ r _ => by simp only [clo, cnt, List.length_cons, clo_len r]
  | .mix _ _ r => by simp only [clo, cnt, List.length_cons, clo_len r]
  | .one _ r => by simp only [clo, cnt, List.length_cons, clo_len r]
  | .more i r => by simp only [clo, cnt, List.length_cons, List.length_append, clo_len r, clo_len i]
theorem clo_step : ∀ (s : Row) {r q : Row}, r ∈ clo s → q ∈ parts r → q ∈ clo s
  | .row _ _, r, q, h, hq => by cases List.mem_singleton.1 h; cases hq
  | .map _ s, r, q, h, hq => by
    rcases List.mem_cons.1 h with rfl | h
    · cases List.mem_singleton.1 hq; exact .tail _ (clo_self s)
    · exact .tail _ (clo_step s h hq)
  | .stamp _ s _, r, q, h, hq => by
    rcases List.mem_cons.1 h with rfl | h
    · cases List.mem_singleton.1 hq; exact .tail _ (clo_self s)
    · exact .tail _ (clo_step s h hq)
  | .mix _ _ s, r, q, h, hq => by
    rcases List.mem_cons.1 h with rfl | h
    · cases List.mem_singleton.1 hq; exact .tail _ (clo_self s)
    · exact .tail _ (clo_step s h hq)
  | .one _ s, r, q, h, hq => by
    rcases List.mem_cons.1 h with rfl | h
    · cases List.mem_singleton.1 hq; exact .tail _ (clo_self s)
    · exact .tail _ (clo_step s h hq)
  | .more i s, r, q, h, hq => by
    rcases List.mem_cons.1 h with rfl | h
    · rcases List.mem_cons.1 hq with rfl | hq
      · exact .tail _ (List.mem_append_left _ (clo_self _))
      · cases List.mem_singleton.1 hq; exact .tail _ (List.mem_append_right _ (clo_self _))
    · rcases List.mem_append.1 h with h | h
      · exact .tail _ (List.mem_append_left _ (clo_step s h hq))
      · exact .tail _ (List.mem_append_right _ (clo_step i h hq))
theorem Cl.clo {rows : List Row} {r : Row} (h : Cl rows r) : r ∈ rows.flatMap clo := by
  induction h with
  | base m => exact List.mem_flatMap.2 ⟨_, m, clo_self _⟩
  | step _ m ih =>
    obtain ⟨s, ms, hs⟩ := List.mem_flatMap.1 ih
    exact List.mem_flatMap.2 ⟨s, ms, clo_step s hs m⟩
theorem nodup_le {α : Type} : ∀ {l m : List α}, l.Nodup → (∀ x ∈ l, x ∈ m) → l.length ≤ m.length
  | [], m, _, _ => Nat.zero_le _
  | x :: l, m, h, hs => by
    obtain ⟨h1, h2⟩ := List.nodup_cons.1 h
    obtain ⟨s, t, rfl⟩ := List.append_of_mem (hs x (.head _))
    have := nodup_le (m := s ++ t) h2 (fun y hy => by
      rcases List.mem_append.1 (hs y (.tail _ hy)) with a | a
      · exact List.mem_append_left _ a
      · rcases List.mem_cons.1 a with rfl | a
        · exact absurd hy h1
        · exact List.mem_append_right _ a)
    simp only [List.length_append, List.length_cons] at this ⊢
    omega
theorem wt_parts : ∀ {r q : Row}, q ∈ parts r → wt q ≤ wt r
  | .row _ _, q, h => by cases h
  | .map _ r, q, h => by cases List.mem_singleton.1 h; simp only [wt]; omega
  | .stamp _ r _, q, h => by cases List.mem_singleton.1 h; simp only [wt]; omega
  | .mix _ _ r, q, h => by cases List.mem_singleton.1 h; simp only [wt]; omega
  | .one _ r, q, h => by cases List.mem_singleton.1 h; simp only [wt]; omega
  | .more i r, q, h => by
    rcases List.mem_cons.1 h with rfl | h
    · simp only [wt]; omega
    · cases List.mem_singleton.1 h; simp only [wt]; omega
theorem Cl.wt {rows : List Row} (ho : ∀ r ∈ rows, K03.wt r ≤ 80000) {r : Row} (h : Cl rows r) : K03.wt r ≤ 80000 := by
  induction h with
  | base m => exact ho _ m
  | step _ m ih => exact Nat.le_trans (wt_parts m) ih
theorem WI.len {rows F : List Row} (h : WI rows F []) : (F.map enc).length ≤ (rows.map cnt).sum := by
  have a := nodup_le (m := (rows.flatMap K03.clo).map enc) h.nd (fun d m => by
    obtain ⟨r, hr, rfl⟩ := List.mem_map.1 m
    exact List.mem_map_of_mem (h.cl r (List.mem_append_left _ hr)).clo)
  have b : ((rows.flatMap K03.clo).map enc).length = (rows.map cnt).sum := by
    rw [List.length_map, List.length_flatMap]
    congr 1
    exact List.map_congr_left fun r _ => clo_len r
  omega
theorem turn_ok (n : Nat) (hn : 10000 < n) (p : Pen) (a0 a2 a6 a7 a8 : SV) (h7 : ∀ x, a7 ≠ .ow x) (ha : p.at_ + 3277 ≤ 16777216) :
    ∃ p' a6' a7' a8', turnB n (sA p a0 a2 a6 a7 a8 .un) = .nx (sA p' a0 a2 a6' a7' a8' .un) ∧ (∀ x, a7' ≠ .ow x) ∧ p'.at_ ≤ p.at_ + 3277 := by
  obtain ⟨rs, p1, e1, hl, hg, l1⟩ := rows_ok n p a0 a2 a6 a7 a8 ha
  obtain ⟨b7, e2, h7'⟩ := chks_ok n (by omega) p1 a0 a2 (.va (.lst (rs.map enc))) a8 .un rs a7 hg h7
  have ho : ∀ r ∈ rs, Ok r ∧ dp r ≤ 60 := fun r m => ⟨(hg r m).ok, (hg r m).dp⟩
  have hs := sum_le rs hg
  obtain ⟨F, f1, w1⟩ := within_ok n (by omega) ho (by omega) (by omega) (d := .lst (rs.map enc)) rfl
  obtain ⟨F2, f2, w2⟩ := within_ok n (by omega) ho (by omega) (by omega) (d := .tup (rs.map enc)) rfl
  obtain ⟨F3, f3, w3⟩ := lwithin_ok n ho (by omega) (by omega)
  have m12 := same_rows w1 w2 (fun r m => (ho r m).1)
  have m13 := same_rows w1 w3 (fun r m => (ho r m).1)
  refine ⟨p1, .va (.lst (rs.map enc)), b7, .va (.tup (F.map enc)), ?_, h7', l1⟩
  have hin : ∀ d ∈ F.map enc, ∃ r, Ok r ∧ dp r ≤ 60 ∧ wt r ≤ 80000 ∧ enc r = d := fun d m => by
    obtain ⟨r, hr, rfl⟩ := List.mem_map.1 m
    have c := w1.cl r (List.mem_append_left _ hr)
    exact ⟨r, (c.ok ho).1, (c.ok ho).2, c.wt (fun r m => (hg r m).wt), rfl⟩
  have hF : (F.map enc).length ≤ 1000000 := by
    have := w1.len
    omega
  have hrep : ∀ d ∈ F.map enc, dRepr d = some (sd (shD d)) := fun d m => by
    obtain ⟨r, o, h1, h2, e⟩ := hin d m
    rw [← e]
    exact (repr_ok (py_ok r o).1 h1 (by omega) (enc_tup r)).1
  have hlv : ∀ d ∈ F.map enc, LV d := fun d m => by
    obtain ⟨r, o, h1, h2, e⟩ := hin d m
    rw [← e]
    exact (lv_ok r o).1
  refine z_seq (z_asg e1 (S2 := sA p1 a0 a2 (.va (.lst (rs.map enc))) a7 a8 .un) (by rfl)) ?_
  refine z_seq (z_forE (S1 := sA p1 a0 a2 (.va (.lst (rs.map enc))) a7 a8 .un) (l := rs.map enc) (by rfl) e2) ?_
  refine z_seq (y_asg (d := .tup (F.map enc)) (S2 := sA p1 a0 a2 (.va (.lst (rs.map enc))) b7 (.va (.tup (F.map enc))) .un) (y_call (l := [.lst (rs.map enc)]) (by rfl) f1) (by rfl)) ?_
  have q1 : srt (aIt (eVar [] 8)) (sA p1 a0 a2 (.va (.lst (rs.map enc))) b7 (.va (.tup (F.map enc))) .un) = .ok (.lst (shs (F.map enc))) (sA p1 a0 a2 (.va (.lst (rs.map enc))) b7 (.va (.tup (F.map enc))) .un) := srt_ok h7' (by rfl) hrep hF
  have hc3 : eCall (f__law_within n) (aCons (eVar [] 6) (aNil)) (sA p1 a0 a2 (.va (.lst (rs.map enc))) b7 (.va (.tup (F.map enc))) .un) = .ok (.lst (F3.map enc)) (sA p1 a0 a2 (.va (.lst (rs.map enc))) b7 (.va (.tup (F.map enc))) .un) := y_callL (l := [.lst (rs.map enc)]) (by rfl) f3
  have q3 : srt (aIt (eCall (f__law_within n) (aCons (eVar [] 6) (aNil)))) (sA p1 a0 a2 (.va (.lst (rs.map enc))) b7 (.va (.tup (F.map enc))) .un) = .ok (.lst (shs (F3.map enc))) (sA p1 a0 a2 (.va (.lst (rs.map enc))) b7 (.va (.tup (F.map enc))) .un) :=
    srt_ok h7' (by unfold aIt; rw [hc3]; rfl) (fun d m => hrep d (m13.mem_iff.2 m)) (by rw [← m13.length_eq]; exact hF)
  have hc2 : eCall (f_within n) (aCons (eCB (g1 dTuple) (lCons (pVar 6) (lNil))) (aNil)) (sA p1 a0 a2 (.va (.lst (rs.map enc))) b7 (.va (.tup (F.map enc))) .un) = .ok (.tup (F2.map enc)) (sA p1 a0 a2 (.va (.lst (rs.map enc))) b7 (.va (.tup (F.map enc))) .un) := y_call (l := [.tup (rs.map enc)]) (by rfl) f2
  have q2 : srt (aIt (eCall (f_within n) (aCons (eCB (g1 dTuple) (lCons (pVar 6) (lNil))) (aNil)))) (sA p1 a0 a2 (.va (.lst (rs.map enc))) b7 (.va (.tup (F.map enc))) .un) = .ok (.lst (shs (F2.map enc))) (sA p1 a0 a2 (.va (.lst (rs.map enc))) b7 (.va (.tup (F.map enc))) .un) :=
    srt_ok h7' (by unfold aIt; rw [hc2]; rfl) (fun d m => hrep d (m12.mem_iff.2 m)) (by rw [← m12.length_eq]; exact hF)
  rw [← shs_perm m13] at q3
  rw [← shs_perm m12] at q2
  have ne := shs_ne hlv
  refine z_seq (y_ifF (y_orF (y_not (b := true) (by rfl)) (y_tBl (y_op (y_pV q1) (y_pV q3) ne))) (by rfl)) ?_
  exact y_ifF (y_tBl (y_op (y_pV q2) (y_pV q1) ne)) (by rfl)
end K03
end
section
set_option maxRecDepth 100000
set_option linter.all false
set_option maxHeartbeats 2000000
namespace K03
open PySem PySem.Spec PyProof.Rows L2 Fy
theorem pen_ok (n : Nat) (ns : List Int) : ∃ p : Pen, p.at_ = 0 ∧ f__law_pen n [.va (.scr ns)] = .li p.d [] := ⟨⟨cutL ns none (some 63), 0, 0⟩, rfl, by rfl⟩
def rowD : D → D := fun d => .tup [.str "row", .str "a", d]
def chnB : SF := sAsg (eIf (tBl (eBin dEq (pVar 4) (pV (eC (.int 9))))) (eTup (aCons (eC (.str "fold")) (aCons (eC (.str "f")) (aCons (eTup (aCons (eVar [] 3) (aNil))) (aNil))))) (eTup (aCons (eC (.str "map")) (aCons (eC (.str "m")) (aCons (eVar [] 3) (aNil)))))) (gSlot [] 3)
def endE (n : Nat) : EF := eAnd (eBin dEq (pV (eCall (f_name_of n) (aCons (eVar [] 3) (aNil)))) (pV (eTup (aCons (eC (.str "f")) (aCons (eC (.int 0)) (aCons (eTup (aNil)) (aNil))))))) (eAnd (eBin dEq (pV (eCB (g1 dLen) (lCons (pV (eCall (f_within n) (aCons (eLst (aFit (aCons (eVar [] 3) (aNil)))) (aNil)))) (lNil)))) (pV (eC (.int 21)))) (eAnd (eBin dEq (pV (eCB (g1 dLen) (lCons (pV (eCall (f_within n) (aCons (eLst (aFit (aCons (eVar [] 5) (aNil)))) (aNil)))) (lNil)))) (pV (eC (.int 40)))) (eAnd (eBin dEq (pV (eCall (f_name_of n) (aCons (eVar [] 5) (aNil)))) (pV (eTup (aCons (eC (.str "g")) (aCons (eC (.int 19)) (aCons (eTup (aNil)) (aNil))))))) (eBin dEq (pV (eCall (f_within n) (aCons (eLst (aFit (aNil))) (aNil)))) (pV (eTup (aNil)))))))
def longE : EF := eTup (aCons (eC (.str "fold")) (aCons (eC (.str "g")) (aCons (eCB (g1 dTuple) (lCons (pV (eLst (aComp [4] (aRg1 (aCons (eC (.int 20)) (aNil))) (gSlot [] 4) (tsYes) (eTup (aCons (eC (.str "row")) (aCons (eC (.str "a")) (aCons (eVar [] 4) (aNil)))))))) (lNil))) (aNil))))
theorem law_eq (n : Nat) : b_law n = sSeq (sOwn [] 1 (aCall (f__law_pen n) (aCons (eVar [] 0) (aNil)))) (sSeq (sForE (aRg1 (aCons (eC (.int 12)) (aNil))) (gSlot [] 2) (turnB n)) (sSeq (sAsg (eTup (aCons (eC (.str "row")) (aCons (eC (.str "a")) (aCons (eC (.int 0)) (aNil))))) (gSlot [] 3)) (sSeq (sForE (aRg1 (aCons (eC (.int 20)) (aNil))) (gSlot [] 4) chnB) (sSeq (sAsg longE (gSlot [] 5)) (sRet (endE n)))))) := rfl
theorem turns_ok (n : Nat) (hn : 10000 < n) (a0 : SV) : ∀ (l : List D) (p : Pen) (a2 a6 a7 a8 : SV), (∀ x, a7 ≠ .ow x) → p.at_ + 3277 * l.length ≤ 16777216 →
    ∃ p' a2' a6' a7' a8', sFor (gSlot [] 2) (turnB n) l (sA p a0 a2 a6 a7 a8 .un) = .nx (sA p' a0 a2' a6' a7' a8' .un)
  | [], p, a2, a6, a7, a8, _, _ => ⟨p, a2, a6, a7, a8, rfl⟩
  | d :: l, p, a2, a6, a7, a8, h7, ha => by
    rw [List.length_cons] at ha
    obtain ⟨p1, b6, b7, b8, e1, h1, l1⟩ := turn_ok n hn p a0 (.va d) a6 a7 a8 h7 (by omega)
    obtain ⟨p2, c2, c6, c7, c8, e2⟩ := turns_ok n hn a0 l p1 (.va d) b6 b7 b8 h1 (by omega)
    exact ⟨p2, c2, c6, c7, c8, z_for1 (S1 := sA p a0 (.va d) a6 a7 a8 .un) (by rfl) e1 e2⟩
/-! ### the chain and the long fold -/
def chn : Nat → Row
  | 0 => .row "a" 0
  | k + 1 => if k = 9 then .one "f" (chn k) else .map "m" (chn k)
def lng : Nat → Row
  | 0 => .one "g" (.row "a" 0)
  | k + 1 => .more (lng k) (.row "a" (k + 1 : Nat))
theorem chain_ok (a0 a1 a2 a6 a7 a8 a9 : SV) : sFor (gSlot [] 4) chnB (upto 0 20) [a0, a1, a2, .va (enc (chn 0)), .un, .un, a6, a7, a8, a9] = .nx [a0, a1, a2, .va (enc (chn 20)), .va (.int 19), .un, a6, a7, a8, a9] := by kernel_rfl
theorem long_ok (a0 a1 a2 a3 a4 a6 a7 a8 a9 : SV) (h4 : ∀ x, a4 ≠ .ow x) : longE [a0, a1, a2, a3, a4, .un, a6, a7, a8, a9] = .ok (enc (lng 19)) [a0, a1, a2, a3, a4, .un, a6, a7, a8, a9] := by
  cases a4 with
  | ow x => exact absurd rfl (h4 x)
  | un => kernel_rfl
  | va x => kernel_rfl
end K03
end
section
set_option maxRecDepth 100000
set_option linter.all false
set_option maxHeartbeats 2000000
namespace K03
open PySem PySem.Spec PyProof.Rows L2 Fy
theorem cl_clo {rows : List Row} : ∀ {s r : Row}, Cl rows s → r ∈ clo s → Cl rows r
  | .row _ _, r, c, h => by cases List.mem_singleton.1 h; exact c
  | .map _ s, r, c, h => by
    rcases List.mem_cons.1 h with rfl | h
    · exact c
    · exact cl_clo (.step c (.head _)) h
  | .stamp _ s _, r, c, h => by
    rcases List.mem_cons.1 h with rfl | h
    · exact c
    · exact cl_clo (.step c (.head _)) h
  | .mix _ _ s, r, c, h => by
    rcases List.mem_cons.1 h with rfl | h
    · exact c
    · exact cl_clo (.step c (.head _)) h
  | .one _ s, r, c, h => by
    rcases List.mem_cons.1 h with rfl | h
    · exact c
    · exact cl_clo (.step c (.head _)) h
  | .more i s, r, c, h => by
    rcases List.mem_cons.1 h with rfl | h
    · exact c
    · rcases List.mem_append.1 h with h | h
      · exact cl_clo (.step c (.head _)) h
      · exact cl_clo (.step c (.tail _ (.head _))) h
theorem len_is {r : Row} {F : List Row} (h : WI [r] F []) (o : Ok r) (hn : ((clo r).map enc).Nodup) : (F.map enc).length = cnt r := by
  have p : (F.map enc).Perm ((clo r).map enc) := (List.perm_ext_iff_of_nodup h.nd hn).2 fun d => by
    rw [h.done (fun q m => by cases List.mem_singleton.1 m; exact o) d]
    constructor
    · rintro ⟨q, c, rfl⟩
      have := c.clo
      simp only [List.flatMap_cons, List.flatMap_nil, List.append_nil] at this
      exact List.mem_map_of_mem this
    · intro m
      obtain ⟨q, hq, rfl⟩ := List.mem_map.1 m
      exact ⟨q, cl_clo (.base (.head _)) hq, rfl⟩
  rw [p.length_eq, List.length_map, clo_len]
theorem chn_ok : ∀ k, Ok (chn k)
  | 0 => ⟨by decide +kernel, by decide, by decide⟩
  | k + 1 => by
    unfold chn
    split
    · exact ⟨by decide +kernel, chn_ok k⟩
    · exact ⟨by decide +kernel, chn_ok k⟩
theorem lng_ok : ∀ k, k < 20 → Ok (lng k)
  | 0, _ => ⟨by decide +kernel, by decide +kernel, by decide, by decide⟩
  | k + 1, h => ⟨by cases k <;> rfl, lng_ok k (by omega), by decide +kernel, Int.natCast_nonneg _, by omega⟩
theorem chn_inj : ∀ i j, enc (chn i) = enc (chn j) → i = j
  | 0, 0, _ => rfl
  | 0, j + 1, h => by
    unfold chn at h
    split at h <;> exact absurd (D.str.inj (List.cons.inj (D.tup.inj h)).1) (by decide)
  | i + 1, 0, h => by
    unfold chn at h
    split at h <;> exact absurd (D.str.inj (List.cons.inj (D.tup.inj h)).1) (by decide)
  | i + 1, j + 1, h => by
    unfold chn at h
    split at h <;> split at h
    · omega
    · exact absurd (D.str.inj (List.cons.inj (D.tup.inj h)).1) (by decide)
    · exact absurd (D.str.inj (List.cons.inj (D.tup.inj h)).1) (by decide)
    · simp only [enc] at h
      have := chn_inj i j (List.cons.inj (List.cons.inj (List.cons.inj (D.tup.inj h)).2).2).1
      omega
theorem chn_clo : ∀ k, ∀ d, d ∈ (clo (chn k)).map enc ↔ ∃ i, i ≤ k ∧ d = enc (chn i)
  | 0, d => by
    show d ∈ [enc (chn 0)] ↔ _
    rw [List.mem_singleton]
    constructor
    · intro h; exact ⟨0, Nat.le_refl _, h⟩
    · rintro ⟨i, hi, h⟩; cases Nat.le_zero.1 hi; exact h
  | k + 1, d => by
    have ih := chn_clo k d
    have e : clo (chn (k + 1)) = chn (k + 1) :: clo (chn k) := by
      conv => lhs; rw [chn]
      split
      · rename_i h; rw [clo]; congr 1; rw [chn, if_pos h]
      · rename_i h; rw [clo]; congr 1; rw [chn, if_neg h]
    rw [e, List.map_cons, List.mem_cons, ih]
    constructor
    · rintro (h | ⟨i, hi, h⟩)
      · exact ⟨k + 1, Nat.le_refl _, h⟩
      · exact ⟨i, by omega, h⟩
    · rintro ⟨i, hi, h⟩
      by_cases c : i = k + 1
      · subst c; exact .inl h
      · exact .inr ⟨i, by omega, h⟩
theorem chn_nd : ∀ k, ((clo (chn k)).map enc).Nodup
  | 0 => by show [enc (chn 0)].Nodup; simp
  | k + 1 => by
    have e : clo (chn (k + 1)) = chn (k + 1) :: clo (chn k) := by
      conv => lhs; rw [chn]
      split
      · rename_i h; rw [clo]; congr 1; rw [chn, if_pos h]
      · rename_i h; rw [clo]; congr 1; rw [chn, if_neg h]
    rw [e, List.map_cons, List.nodup_cons]
    refine ⟨fun m => ?_, chn_nd k⟩
    obtain ⟨i, hi, h⟩ := (chn_clo k _).1 m
    have := chn_inj _ _ h
    omega
theorem lng_flen : ∀ k, flen (lng k) = k + 1
  | 0 => rfl
  | k + 1 => by show flen (lng k) + 1 = _; rw [lng_flen k]
theorem lng_f : ∀ k, isF (lng k) = true
  | 0 => rfl
  | _ + 1 => rfl
theorem lng_inj {i j : Nat} (hi : i < 20) (hj : j < 20) (h : enc (lng i) = enc (lng j)) : i = j := by
  have a := (enc_fold (lng_f i) (lng_ok i hi)).2
  have b := (enc_fold (lng_f j) (lng_ok j hj)).2
  rw [lng_flen] at a b
  rw [h] at a
  omega
theorem lng_row {i j : Nat} (hi : i < 20) : enc (lng i) ≠ enc (.row "a" (j : Nat)) := by
  rw [(enc_fold (lng_f i) (lng_ok i hi)).1]
  intro h
  exact absurd (D.str.inj (List.cons.inj (D.tup.inj h)).1) (by decide)
theorem row_inj {i j : Nat} (h : enc (.row "a" (i : Nat)) = enc (.row "a" (j : Nat))) : i = j := by
  have := D.int.inj (List.cons.inj (List.cons.inj (List.cons.inj (D.tup.inj h)).2).2).1
  omega
theorem lng_clo : ∀ k, ∀ d, d ∈ (clo (lng k)).map enc ↔ ∃ i, i ≤ k ∧ (d = enc (lng i) ∨ d = enc (.row "a" (i : Nat)))
  | 0, d => by
    show d ∈ [enc (lng 0), enc (.row "a" (0 : Nat))] ↔ _
    rw [List.mem_cons, List.mem_singleton]
    constructor
    · intro h; exact ⟨0, Nat.le_refl _, h⟩
    · rintro ⟨i, hi, h⟩; cases Nat.le_zero.1 hi; exact h
  | k + 1, d => by
    have ih := lng_clo k d
    show d ∈ enc (lng (k + 1)) :: enc (.row "a" (k + 1 : Nat)) :: (clo (lng k)).map enc ↔ _
    rw [List.mem_cons, List.mem_cons, ih]
    constructor
    · rintro (h | h | ⟨i, hi, h⟩)
      · exact ⟨k + 1, Nat.le_refl _, .inl h⟩
      · exact ⟨k + 1, Nat.le_refl _, .inr h⟩
      · exact ⟨i, by omega, h⟩
    · rintro ⟨i, hi, h⟩
      by_cases c : i = k + 1
      · subst c
        rcases h with h | h
        · exact .inl h
        · exact .inr (.inl h)
      · exact .inr (.inr ⟨i, by omega, h⟩)
theorem lng_nd : ∀ k, k < 20 → ((clo (lng k)).map enc).Nodup
  | 0, _ => by
    show [enc (lng 0), enc (.row "a" (0 : Nat))].Nodup
    rw [List.nodup_cons]
    refine ⟨fun m => lng_row (by decide) (List.mem_singleton.1 m), by simp⟩
  | k + 1, hk => by
    show (enc (lng (k + 1)) :: enc (.row "a" (k + 1 : Nat)) :: (clo (lng k)).map enc).Nodup
    rw [List.nodup_cons, List.nodup_cons]
    refine ⟨fun m => ?_, fun m => ?_, lng_nd k (by omega)⟩
    · rcases List.mem_cons.1 m with h | m
      · exact lng_row hk h
      · obtain ⟨i, hi, h | h⟩ := (lng_clo k _).1 m
        · have := lng_inj hk (by omega) h
          omega
        · exact lng_row hk h
    · obtain ⟨i, hi, h | h⟩ := (lng_clo k _).1 m
      · exact lng_row (by omega) h.symm
      · have := row_inj h
        omega
theorem lenT_ok (l : List D) (k : Nat) (h : l.length = k) : g1 dLen [.tup l] = some (.int k) := by rw [← h]; rfl
theorem end_ok (n : Nat) (hn : 10000 < n) (a0 a1 a2 a4 a6 a7 a8 a9 : SV) : endE n [a0, a1, a2, .va (enc (chn 20)), a4, .va (enc (lng 19)), a6, a7, a8, a9] = .ok (.bl true) [a0, a1, a2, .va (enc (chn 20)), a4, .va (enc (lng 19)), a6, a7, a8, a9] := by
  have oc := chn_ok 20
  have ol := lng_ok 19 (by decide)
  have d1 : dp (chn 20) = 22 := by decide +kernel
  have d2 : dp (lng 19) = 3 := by decide +kernel
  have c1 : cnt (chn 20) = 21 := by decide +kernel
  have c2 : cnt (lng 19) = 40 := by decide +kernel
  have h1 := hgt_dp (chn 20)
  have h2 := hgt_dp (lng 19)
  have n1 : f_name_of n [.va (enc (chn 20))] = .va (.tup [.str "f", .int 0, .tup []]) [] := by
    rw [name_ok (chn 20) oc n (by omega) (by omega)]
    congr 1
  have n2 : f_name_of n [.va (enc (lng 19))] = .va (.tup [.str "g", .int 19, .tup []]) [] := by
    rw [name_ok (lng 19) ol n (by omega) (by omega)]
    congr 1
  obtain ⟨F1, f1, w1⟩ := within_ok n (by omega) (rows := [chn 20]) (fun r m => by cases List.mem_singleton.1 m; exact ⟨oc, by omega⟩) (by simp [c1]; omega) (by simp [c1]) (d := .lst [enc (chn 20)]) rfl
  obtain ⟨F2, f2, w2⟩ := within_ok n (by omega) (rows := [lng 19]) (fun r m => by cases List.mem_singleton.1 m; exact ⟨ol, by omega⟩) (by simp [c2]; omega) (by simp [c2]) (d := .lst [enc (lng 19)]) rfl
  obtain ⟨F3, f3, w3⟩ := within_ok n (by omega) (rows := []) (fun r m => by cases m) (by simp; omega) (by simp) (d := .lst []) rfl
  have l1 : (F1.map enc).length = 21 := by rw [len_is w1 oc (chn_nd 20), c1]
  have l2 : (F2.map enc).length = 40 := by rw [len_is w2 ol (lng_nd 19 (by decide)), c2]
  have l3 : F3 = [] := by
    have := w3.len
    simp at this
    exact this
  subst l3
  refine y_eAndT (y_op (x := .tup [.str "f", .int 0, .tup []]) (y := .tup [.str "f", .int 0, .tup []]) (y_pV (y_call (l := [enc (chn 20)]) (by rfl) n1)) (by rfl) (by kernel_rfl)) ?_
  refine y_eAndT (y_op (x := .int (21 : Nat)) (y := .int 21) (y_pV (y_CB (ps := [.val (.tup (F1.map enc))]) (l := [.tup (F1.map enc)]) (y_lcons (y_pV (y_call (l := [.lst [enc (chn 20)]]) (by rfl) f1)) z_lnil) (by rfl) (lenT_ok _ _ l1))) (by rfl) (dEq_int _ _)) ?_
  refine y_eAndT (y_op (x := .int (40 : Nat)) (y := .int 40) (y_pV (y_CB (ps := [.val (.tup (F2.map enc))]) (l := [.tup (F2.map enc)]) (y_lcons (y_pV (y_call (l := [.lst [enc (lng 19)]]) (by rfl) f2)) z_lnil) (by rfl) (lenT_ok _ _ l2))) (by rfl) (dEq_int _ _)) ?_
  refine y_eAndT (y_op (x := .tup [.str "g", .int 19, .tup []]) (y := .tup [.str "g", .int 19, .tup []]) (y_pV (y_call (l := [enc (lng 19)]) (by rfl) n2)) (by rfl) (by kernel_rfl)) ?_
  exact y_op (x := .tup []) (y := .tup []) (y_pV (y_call (l := [.lst []]) (by rfl) f3)) (by rfl) (by kernel_rfl)
def fuel : Nat := 1000000
theorem law_true (ns : List Int) (_h : ns.length ≤ 63) : f_law fuel [.va (.scr ns)] = .va (.bl true) [] := by
  obtain ⟨p, hp, e0⟩ := pen_ok fuel ns
  have hf : 10000 < fuel := by unfold fuel; decide
  generalize fuel = n at *
  obtain ⟨p', a2, a6, a7, a8, e1⟩ := turns_ok n hf (.va (.scr ns)) (upto 0 12) p .un .un .un .un (fun x e => by cases e) (by rw [hp]; decide)
  refine z_fnRt (S1 := [.va (.scr ns), .ow p'.d, a2, .va (enc (chn 20)), .va (.int 19), .va (enc (lng 19)), a6, a7, a8, .un]) ?_
  rw [law_eq]
  refine z_seq (S1 := sA p (.va (.scr ns)) .un .un .un .un .un) (z_own (l := p.d) (S1 := [.va (.scr ns), .un, .un, .un, .un, .un, .un, .un, .un, .un]) (z_acall (l := [.scr ns]) (by rfl) e0) (show (1 : Nat) < 10 by decide) (by rfl)) ?_
  refine z_seq (z_forE (l := upto 0 12) (by rfl) e1) ?_
  refine z_seq (S1 := [.va (.scr ns), .ow p'.d, a2, .va (enc (chn 0)), .un, .un, a6, a7, a8, .un]) (by rfl) ?_
  refine z_seq (z_forE (l := upto 0 20) (by rfl) (chain_ok _ _ _ _ _ _ _)) ?_
  refine z_seq (y_asg (d := enc (lng 19)) (S2 := [.va (.scr ns), .ow p'.d, a2, .va (enc (chn 20)), .va (.int 19), .va (enc (lng 19)), a6, a7, a8, .un]) (long_ok _ _ _ _ _ _ _ _ _ (fun x e => by cases e)) (by rfl)) ?_
  exact z_ret (end_ok n hf _ _ _ _ _ _ _ _)
end K03
end
section
set_option Elab.async false
set_option linter.all false
set_option maxRecDepth 100000
set_option maxHeartbeats 0
namespace K03
open PySem PySem.Spec PyProof.Rows L2 Fy
def d_inside : He.DefD := ⟨("inside", none), "inside", "inside", defArgs s_inside, defBody s_inside, defScope s_inside, [], []⟩
def d_base_of : He.DefD := ⟨("base_of", none), "base_of", "base_of", defArgs s_base_of, defBody s_base_of, defScope s_base_of, [], []⟩
def d_sides_of : He.DefD := ⟨("sides_of", none), "sides_of", "sides_of", defArgs s_sides_of, defBody s_sides_of, defScope s_sides_of, [], []⟩
def d_name_of : He.DefD := ⟨("name_of", none), "name_of", "name_of", defArgs s_name_of, defBody s_name_of, defScope s_name_of, [], []⟩
def d_place_of : He.DefD := ⟨("place_of", none), "place_of", "place_of", defArgs s_place_of, defBody s_place_of, defScope s_place_of, [], []⟩
def d_parts_of : He.DefD := ⟨("parts_of", none), "parts_of", "parts_of", defArgs s_parts_of, defBody s_parts_of, defScope s_parts_of, [], []⟩
def d_within : He.DefD := ⟨("within", none), "within", "within", defArgs s_within, defBody s_within, defScope s_within, [], []⟩
def d__law_pen : He.DefD := ⟨("_law_pen", none), "_law_pen", "_law_pen", defArgs s__law_pen, defBody s__law_pen, defScope s__law_pen, [], []⟩
def d__law_draw : He.DefD := ⟨("_law_draw", none), "_law_draw", "_law_draw", defArgs s__law_draw, defBody s__law_draw, defScope s__law_draw, [], []⟩
def d__law_pick : He.DefD := ⟨("_law_pick", none), "_law_pick", "_law_pick", defArgs s__law_pick, defBody s__law_pick, defScope s__law_pick, [], []⟩
def d__law_base : He.DefD := ⟨("_law_base", none), "_law_base", "_law_base", defArgs s__law_base, defBody s__law_base, defScope s__law_base, [], []⟩
def d__law_name : He.DefD := ⟨("_law_name", none), "_law_name", "_law_name", defArgs s__law_name, defBody s__law_name, defScope s__law_name, [], []⟩
def d__law_within : He.DefD := ⟨("_law_within", none), "_law_within", "_law_within", defArgs s__law_within, defBody s__law_within, defScope s__law_within, [], []⟩
def d__law_drawn_row : He.DefD := ⟨("_law_drawn_row", none), "_law_drawn_row", "_law_drawn_row", defArgs s__law_drawn_row, defBody s__law_drawn_row, defScope s__law_drawn_row, [], []⟩
def d_law : He.DefD := ⟨("law", none), "law", "law", defArgs s_law, defBody s_law, defScope s_law, [], []⟩
def fn : List He.DefD := [d_inside, d_base_of, d_sides_of, d_name_of, d_place_of, d_parts_of, d_within, d__law_pen, d__law_draw, d__law_pick, d__law_base, d__law_name, d__law_within, d__law_drawn_row, d_law]
def fa : List He.Fa := [.glo "inside", .glo "base_of", .glo "sides_of", .glo "name_of", .glo "place_of", .glo "parts_of", .glo "within", .glo "_law_pen", .glo "_law_draw", .glo "_law_pick", .glo "_law_base", .glo "_law_name", .glo "_law_within", .glo "_law_drawn_row", .glo "law", .free "abs", .free "int", .free "isinstance", .free "len", .free "list", .free "range", .free "repr", .free "sorted", .free "tuple"]
def ex : PySem.W.Frag → Bool := fun K => gcB "FOLD" (.str "fold") K && gcB "MIX" (.str "mix") K && gcB "ROW" (.str "row") K && gcB "ROWWISE" (.tup [.str "map", .str "stamp", .str "mix"]) K
abbrev R : PySem.W.OpenRow := PySem.W.OpenLaw.row PySem.Challenge.rw_fewsyncs_k03_rows_names_and_what_is_with
abbrev hk : PySem.W.Hook := He.hookX 5 fa fn [] [] ex
def ob (s : PySem.W.SharedT) : He.AlX := He.obsX 5 fa fn [] [] ex (HandSHeadRun.getT s)
theorem ob_eq (s : PySem.W.SharedT) : ob s = hk.obs s.abs := He.obsX_eq (HandSHeadRun.getT_eq s)
abbrev loose : List Str := ["MAP", "STAMP", "MIX", "FOLD", "ROWWISE", "ROW", "inside", "base_of", "sides_of", "name_of", "place_of", "parts_of", "within", "_law_pen", "_law_draw", "_law_pick", "_law_base", "_law_name", "_law_within", "_law_drawn_row"]
theorem run (w : World) : HandSHeadRun.RunEq R (PySem.W.view R.prog [22]) hk ob 3000 loose w := by
  intro os
  kernel_rfl
section
variable {P : Program} {w : World} {K : PySem.W.Frag} {h : Heap} {mg : Str → Option Value} {base : Heap}
theorem tx (G : Kit) (X : K.In h) (N : h.Ns mainGlobals mg) (c : He.SaysX fa fn [] [] ex w h K) : Tx K G mg := by
  have d := c.t.d
  have m : ex K = true := c.more
  unfold ex at m
  simp only [Bool.and_eq_true] at m
  exact ⟨He.free_ok X N (d.fact 15 (f := .free "abs") rfl),
    He.free_ok X N (d.fact 16 (f := .free "int") rfl),
    He.free_ok X N (d.fact 17 (f := .free "isinstance") rfl),
    He.free_ok X N (d.fact 18 (f := .free "len") rfl),
    He.free_ok X N (d.fact 19 (f := .free "list") rfl),
    He.free_ok X N (d.fact 20 (f := .free "range") rfl),
    He.free_ok X N (d.fact 21 (f := .free "repr") rfl),
    He.free_ok X N (d.fact 22 (f := .free "sorted") rfl),
    He.free_ok X N (d.fact 23 (f := .free "tuple") rfl),
    gc_ok X N m.1.1.1,
    gc_ok X N m.1.1.2,
    gc_ok X N m.1.2,
    gc_ok X N m.2⟩
end
theorem facts {P : Program} {w : World} {K : PySem.W.Frag} {h : Heap} {mg : Str → Option Value} {f : Addr} (n : Nat) (X : K.In h) (N : h.Ns mainGlobals mg) (hfa : mg ("law" : Str) = some (.ref f)) (c : He.SaysX fa fn [] [] ex w h K) :
    ∃ fd : FuncData, (∀ (s : Shared) (v : Value), BindsTo s fd ⟨[v], []⟩ [("script", v)]) ∧ ∀ base : Heap, K.In base → base.Ns mainGlobals mg → FnG P w K mg base (CX P w) 9 f fd ["script"] (FSp K kit [] 1 (f_law n)) := by
  have d := c.t.d
  have T : Tx K kit mg := tx kit X N c
  obtain ⟨fd_inside, F_inside⟩ := d.def_ 0 (d := d_inside) rfl
  have g_inside := He.glo_ok X N (d.fact 0 (f := .glo "inside") rfl)
  obtain ⟨fd_base_of, F_base_of⟩ := d.def_ 1 (d := d_base_of) rfl
  have g_base_of := He.glo_ok X N (d.fact 1 (f := .glo "base_of") rfl)
  obtain ⟨fd_sides_of, F_sides_of⟩ := d.def_ 2 (d := d_sides_of) rfl
  have g_sides_of := He.glo_ok X N (d.fact 2 (f := .glo "sides_of") rfl)
  obtain ⟨fd_name_of, F_name_of⟩ := d.def_ 3 (d := d_name_of) rfl
  have g_name_of := He.glo_ok X N (d.fact 3 (f := .glo "name_of") rfl)
  obtain ⟨fd_place_of, F_place_of⟩ := d.def_ 4 (d := d_place_of) rfl
  have g_place_of := He.glo_ok X N (d.fact 4 (f := .glo "place_of") rfl)
  obtain ⟨fd_parts_of, F_parts_of⟩ := d.def_ 5 (d := d_parts_of) rfl
  have g_parts_of := He.glo_ok X N (d.fact 5 (f := .glo "parts_of") rfl)
  obtain ⟨fd_within, F_within⟩ := d.def_ 6 (d := d_within) rfl
  have g_within := He.glo_ok X N (d.fact 6 (f := .glo "within") rfl)
  obtain ⟨fd__law_pen, F__law_pen⟩ := d.def_ 7 (d := d__law_pen) rfl
  have g__law_pen := He.glo_ok X N (d.fact 7 (f := .glo "_law_pen") rfl)
  obtain ⟨fd__law_draw, F__law_draw⟩ := d.def_ 8 (d := d__law_draw) rfl
  have g__law_draw := He.glo_ok X N (d.fact 8 (f := .glo "_law_draw") rfl)
  obtain ⟨fd__law_pick, F__law_pick⟩ := d.def_ 9 (d := d__law_pick) rfl
  have g__law_pick := He.glo_ok X N (d.fact 9 (f := .glo "_law_pick") rfl)
  obtain ⟨fd__law_base, F__law_base⟩ := d.def_ 10 (d := d__law_base) rfl
  have g__law_base := He.glo_ok X N (d.fact 10 (f := .glo "_law_base") rfl)
  obtain ⟨fd__law_name, F__law_name⟩ := d.def_ 11 (d := d__law_name) rfl
  have g__law_name := He.glo_ok X N (d.fact 11 (f := .glo "_law_name") rfl)
  obtain ⟨fd__law_within, F__law_within⟩ := d.def_ 12 (d := d__law_within) rfl
  have g__law_within := He.glo_ok X N (d.fact 12 (f := .glo "_law_within") rfl)
  obtain ⟨fd__law_drawn_row, F__law_drawn_row⟩ := d.def_ 13 (d := d__law_drawn_row) rfl
  have g__law_drawn_row := He.glo_ok X N (d.fact 13 (f := .glo "_law_drawn_row") rfl)
  obtain ⟨fd_law, F_law⟩ := d.def_ 14 (d := d_law) rfl
  have g_law := He.glo_ok X N (d.fact 14 (f := .glo "law") rfl)
  have e := hfa.symm.trans g_law
  cases e
  have b := FunD.bindsA (ps := ["script"]) F_law fun _ _ _ _ _ _ us hl => match us, hl with | [_], _ => rfl
  refine ⟨fd_law, fun s v => b s [v] rfl, fun base _ _ => ?_⟩
  have D_inside : Df P w K kit mg base "inside" [] ["row"] 1 (f_inside n) := ⟨_, _, g_inside, F_inside.kp, (FunD.bindsN (ps := ["row"]) F_inside fun _ _ _ _ _ _ us hl => match us, hl with | [_], _ => rfl), (funD_kw (ps := ["row"]) F_inside (by decide) fun _ _ _ _ _ _ us hl => match us, hl with | [_], _ => rfl), ok_inside n T F_inside ⟩
  have D_base_of : Df P w K kit mg base "base_of" [] ["row"] 2 (f_base_of n) := ⟨_, _, g_base_of, F_base_of.kp, (FunD.bindsN (ps := ["row"]) F_base_of fun _ _ _ _ _ _ us hl => match us, hl with | [_], _ => rfl), (funD_kw (ps := ["row"]) F_base_of (by decide) fun _ _ _ _ _ _ us hl => match us, hl with | [_], _ => rfl), ok_base_of n T F_base_of D_inside⟩
  have D_sides_of : Df P w K kit mg base "sides_of" [] ["row"] 2 (f_sides_of n) := ⟨_, _, g_sides_of, F_sides_of.kp, (FunD.bindsN (ps := ["row"]) F_sides_of fun _ _ _ _ _ _ us hl => match us, hl with | [_], _ => rfl), (funD_kw (ps := ["row"]) F_sides_of (by decide) fun _ _ _ _ _ _ us hl => match us, hl with | [_], _ => rfl), ok_sides_of n T F_sides_of D_inside⟩
  have D_name_of : Df P w K kit mg base "name_of" [] ["row"] 3 (f_name_of n) := ⟨_, _, g_name_of, F_name_of.kp, (FunD.bindsN (ps := ["row"]) F_name_of fun _ _ _ _ _ _ us hl => match us, hl with | [_], _ => rfl), (funD_kw (ps := ["row"]) F_name_of (by decide) fun _ _ _ _ _ _ us hl => match us, hl with | [_], _ => rfl), ok_name_of n T F_name_of D_base_of D_sides_of⟩
  have D_place_of : Df P w K kit mg base "place_of" [] ["row"] 4 (f_place_of n) := ⟨_, _, g_place_of, F_place_of.kp, (FunD.bindsN (ps := ["row"]) F_place_of fun _ _ _ _ _ _ us hl => match us, hl with | [_], _ => rfl), (funD_kw (ps := ["row"]) F_place_of (by decide) fun _ _ _ _ _ _ us hl => match us, hl with | [_], _ => rfl), ok_place_of n T F_place_of D_name_of⟩
  have D_parts_of : Df P w K kit mg base "parts_of" [] ["row"] 2 (f_parts_of n) := ⟨_, _, g_parts_of, F_parts_of.kp, (FunD.bindsN (ps := ["row"]) F_parts_of fun _ _ _ _ _ _ us hl => match us, hl with | [_], _ => rfl), (funD_kw (ps := ["row"]) F_parts_of (by decide) fun _ _ _ _ _ _ us hl => match us, hl with | [_], _ => rfl), ok_parts_of n T F_parts_of D_inside⟩
  have D_within : Df P w K kit mg base "within" [] ["rows"] 5 (f_within n) := ⟨_, _, g_within, F_within.kp, (FunD.bindsN (ps := ["rows"]) F_within fun _ _ _ _ _ _ us hl => match us, hl with | [_], _ => rfl), (funD_kw (ps := ["rows"]) F_within (by decide) fun _ _ _ _ _ _ us hl => match us, hl with | [_], _ => rfl), ok_within n T F_within D_place_of D_parts_of⟩
  have D__law_pen : Df P w K kit mg base "_law_pen" [] ["script"] 1 (f__law_pen n) := ⟨_, _, g__law_pen, F__law_pen.kp, (FunD.bindsN (ps := ["script"]) F__law_pen fun _ _ _ _ _ _ us hl => match us, hl with | [_], _ => rfl), (funD_kw (ps := ["script"]) F__law_pen (by decide) fun _ _ _ _ _ _ us hl => match us, hl with | [_], _ => rfl), ok__law_pen n T F__law_pen ⟩
  have D__law_draw : Df P w K kit mg base "_law_draw" [0] ["pen", "many"] 1 (f__law_draw n) := ⟨_, _, g__law_draw, F__law_draw.kp, (FunD.bindsN (ps := ["pen", "many"]) F__law_draw fun _ _ _ _ _ _ us hl => match us, hl with | [_, _], _ => rfl), (funD_kw (ps := ["pen", "many"]) F__law_draw (by decide) fun _ _ _ _ _ _ us hl => match us, hl with | [_, _], _ => rfl), ok__law_draw n T F__law_draw ⟩
  have D__law_pick : Df P w K kit mg base "_law_pick" [0] ["pen", "some"] 2 (f__law_pick n) := ⟨_, _, g__law_pick, F__law_pick.kp, (FunD.bindsN (ps := ["pen", "some"]) F__law_pick fun _ _ _ _ _ _ us hl => match us, hl with | [_, _], _ => rfl), (funD_kw (ps := ["pen", "some"]) F__law_pick (by decide) fun _ _ _ _ _ _ us hl => match us, hl with | [_, _], _ => rfl), ok__law_pick n T F__law_pick D__law_draw⟩
  have D__law_base : Df P w K kit mg base "_law_base" [] ["row"] 1 (f__law_base n) := ⟨_, _, g__law_base, F__law_base.kp, (FunD.bindsN (ps := ["row"]) F__law_base fun _ _ _ _ _ _ us hl => match us, hl with | [_], _ => rfl), (funD_kw (ps := ["row"]) F__law_base (by decide) fun _ _ _ _ _ _ us hl => match us, hl with | [_], _ => rfl), ok__law_base n T F__law_base ⟩
  have D__law_name : Df P w K kit mg base "_law_name" [] ["row"] 2 (f__law_name n) := ⟨_, _, g__law_name, F__law_name.kp, (FunD.bindsN (ps := ["row"]) F__law_name fun _ _ _ _ _ _ us hl => match us, hl with | [_], _ => rfl), (funD_kw (ps := ["row"]) F__law_name (by decide) fun _ _ _ _ _ _ us hl => match us, hl with | [_], _ => rfl), ok__law_name n T F__law_name D__law_base⟩
  have D__law_within : Df P w K kit mg base "_law_within" [] ["rows"] 1 (f__law_within n) := ⟨_, _, g__law_within, F__law_within.kp, (FunD.bindsN (ps := ["rows"]) F__law_within fun _ _ _ _ _ _ us hl => match us, hl with | [_], _ => rfl), (funD_kw (ps := ["rows"]) F__law_within (by decide) fun _ _ _ _ _ _ us hl => match us, hl with | [_], _ => rfl), ok__law_within n T F__law_within ⟩
  have R__law_drawn_row : ∀ j, Df P w K kit mg base "_law_drawn_row" [0] ["pen", "deep"] (2 + j) (r__law_drawn_row n j) := by
    intro j
    induction j with
    | zero => exact ⟨_, _, g__law_drawn_row, F__law_drawn_row.kp, (FunD.bindsN (ps := ["pen", "deep"]) F__law_drawn_row fun _ _ _ _ _ _ us hl => match us, hl with | [_, _], _ => rfl), (funD_kw (ps := ["pen", "deep"]) F__law_drawn_row (by decide) fun _ _ _ _ _ _ us hl => match us, hl with | [_, _], _ => rfl), fn_bad⟩
    | succ j ih => exact ⟨_, _, g__law_drawn_row, F__law_drawn_row.kp, (FunD.bindsN (ps := ["pen", "deep"]) F__law_drawn_row fun _ _ _ _ _ _ us hl => match us, hl with | [_, _], _ => rfl), (funD_kw (ps := ["pen", "deep"]) F__law_drawn_row (by decide) fun _ _ _ _ _ _ us hl => match us, hl with | [_, _], _ => rfl), ok__law_drawn_row n j T F__law_drawn_row ih D__law_draw D__law_pick⟩
  have D__law_drawn_row : Df P w K kit mg base "_law_drawn_row" [0] ["pen", "deep"] 8 (f__law_drawn_row n) := R__law_drawn_row 6
  exact ok_law n T F_law D_name_of D_place_of D_within D__law_pen D__law_draw D__law_name D__law_within D__law_drawn_row
end K03
open PySem PySem.W PySem.Calls PyProof.Rows
theorem PySem.Challenge.cw_fewsyncs_k03_rows_names_and_what_is_with_holds : PySem.Challenge.rw_fewsyncs_k03_rows_names_and_what_is_with.Holds := by
  w_on; o_law
  refine HandSHeadRun.head_any (r := OpenLaw.row PySem.Challenge.rw_fewsyncs_k03_rows_names_and_what_is_with) (q := view (OpenLaw.row PySem.Challenge.rw_fewsyncs_k03_rows_names_and_what_is_with).prog [22]) (H := K03.hk) (ob := K03.ob) (M := 3000) (loose := K03.loose) (d := HandSHeadRun.topDef (OpenLaw.row PySem.Challenge.rw_fewsyncs_k03_rows_names_and_what_is_with).prog 22) (kwd := []) K03.ob_eq
    (by kernel_rfl) (fun s => by kernel_rfl) K03.run (by kernel_rfl) (by kernel_rfl) (by kernel_rfl) (by rfl) (by first | assumption | decide +kernel) (by decide +kernel) ⟨rfl, rfl, rfl, rfl, rfl, by decide +kernel⟩ ?hw ?hc
  case hw => w_witness2
  case hc =>
    refine Fy.walk_ofG (l := PySem.Challenge.rw_fewsyncs_k03_rows_names_and_what_is_with) (n := 63) (k := 9) (x := "script") (CX := fun w => L2.CX (PySem.Challenge.rw_fewsyncs_k03_rows_names_and_what_is_with).prog w) rfl (by decide) (by kernel_rfl) ⟨rfl, by decide, by decide⟩ ?F (fun w H s e s' z => by
      obtain ⟨_, _, _, _, _, _, _, _, _, _, _, _, z⟩ := z
      exact z)
    intro w mg fa h Y G hmg0
    obtain ⟨K, KX, c⟩ := Y
    have hmg : mg ("law" : PySem.Str) = some (.ref fa) := by
      have e : (HandSHeadRun.topDef (OpenLaw.row PySem.Challenge.rw_fewsyncs_k03_rows_names_and_what_is_with).prog 22).name = ("law" : PySem.Str) := by kernel_rfl
      rw [← e]
      exact hmg0
    obtain ⟨fd, hb, hF⟩ := K03.facts (P := (PySem.Challenge.rw_fewsyncs_k03_rows_names_and_what_is_with).prog) (w := w) K03.fuel KX G hmg c
    exact ⟨K, fd, _, KX, hb, fun H a ns hl _ hS => Fy.law_sp hS (K03.law_true ns hl), hF⟩
end
