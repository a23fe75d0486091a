import PyProof.Rows.All
import Wide.All
import OpenK.AllK
import Wide.FinOn
import HandS.ForMost
import HandS.ForExc
import HandS.Walk
import HandS.IsInst
import HandS.ExcInit
import HandS.TupAny
import HandS.Deep
import HandS.Style
import HandS.Zip
import HandS.Rev
import KE.SortData
import KE.DataMinMax
import KE.DataFind
import HandS.Text
import HandS.SetFor
import HandS.TupMul
import KE.GoesMore
import KE.GoesEnum
import HandS.ExcOwn
import HandS.ExcValue
import KE.KTupSum
import KE.OsSetLaws
import HandS.TupLen
import HandS.Conv
import HandS.WordsDict
import HandS.Small
import PySem.Challenge.RW_fewtoys_k96_whole_children_seated_on_a_b
set_option Elab.async false
set_option linter.all false
set_option maxRecDepth 100000
set_option maxHeartbeats 4000000
/-! Fw: programs over data kept by value. Part A: data, states, how they stand in the abstract heap. -/
namespace Fw
open PySem PySem.Spec L2

abbrev D := PyData

/-- a slot's content: a value that never changes from here on, or an object that this slot alone holds -/
inductive SV where
  | val (d : D)
  | ls (ds : List D)
  | dk (kvs : List (Key × D))
  | dt (kvs : List (List Key × D))
  /-- a list that is read alone (the script) -/
  | ro (ds : List D)

def kD : Key → D
  | .inl i => .int i
  | .inr x => .str x
def SV.isOwn : SV → Bool
  | .val _ => false
  | .ro _ => false
  | _ => true
def SV.isRo : SV → Bool
  | .ro _ => true
  | _ => false
/-- handed on as it is -/
def SV.isRef : SV → Bool
  | .val _ => false
  | _ => true
/-- its content as data -/
def SV.d : SV → D
  | .val d => d
  | .ls ds => .list ds
  | .dk kvs => .dict (kvs.map fun p => (kD p.1, p.2))
  | .dt kvs => .dict (kvs.map fun p => (.tuple (p.1.map kD), p.2))
  | .ro ds => .list ds

abbrev SS := List (Option SV)

/-- what an expression gives: data, a new object that nobody holds, or what slot i holds -/
inductive RV where
  | z (d : D)
  | f (sv : SV)
  | b (i : Nat)

mutual
inductive Rp (K : PySem.W.Frag) (Z : Hp) : V → D → Prop
  | non : Rp K Z .non .none
  | bl (b : Bool) : Rp K Z (.bl b) (.bool b)
  | int (i : Int) : Rp K Z (.int i) (.int i)
  | str (x : Str) : Rp K Z (.str x) (.str x)
  | lst {a : Addr} {xs : List V} {ds : List D} : Z a = some (.lst xs) → RpA K Z xs ds → Rp K Z (.ref a) (.list ds)
  | tup {a : Addr} {xs : List V} {ds : List D} : Z a = some (.tup xs) → RpA K Z xs ds → Rp K Z (.ref a) (.tuple ds)
  | dik {a : Addr} {ys : List (Key × V)} {es : List (D × D)} : Z a = some (.dK ys) → RpK K Z ys es → Rp K Z (.ref a) (.dict es)
  | dit {a : Addr} {ys : List (List Key × V)} {es : List (D × D)} : Z a = some (.dT ys) → RpT K Z ys es → Rp K Z (.ref a) (.dict es)
inductive RpA (K : PySem.W.Frag) (Z : Hp) : List V → List D → Prop
  | nil : RpA K Z [] []
  | cons {v : V} {vs : List V} {d : D} {ds : List D} : Rp K Z v d → RpA K Z vs ds → RpA K Z (v :: vs) (d :: ds)
inductive RpK (K : PySem.W.Frag) (Z : Hp) : List (Key × V) → List (D × D) → Prop
  | nil : RpK K Z [] []
  | cons {k : Key} {v : V} {ys : List (Key × V)} {d : D} {es : List (D × D)} : Rp K Z v d → RpK K Z ys es → RpK K Z ((k, v) :: ys) ((kD k, d) :: es)
inductive RpT (K : PySem.W.Frag) (Z : Hp) : List (List Key × V) → List (D × D) → Prop
  | nil : RpT K Z [] []
  | cons {k : List Key} {v : V} {ys : List (List Key × V)} {d : D} {es : List (D × D)} : Rp K Z v d → RpT K Z ys es → RpT K Z ((k, v) :: ys) ((.tuple (k.map kD), d) :: es)
end

def Sub (Z H : Hp) : Prop := ∀ a o, Z a = some o → H a = some o
theorem Sub.refl (Z : Hp) : Sub Z Z := fun _ _ h => h
theorem Sub.trans {A B C : Hp} (h : Sub A B) (g : Sub B C) : Sub A C := fun a o e => g a o (h a o e)
theorem Sub.sqL {K : PySem.W.Frag} {Z H : Hp} {a : Addr} {xs : List V} (e : Sub Z H) (h : SqL K Z a xs) : SqL K H a xs := Same.seq e h
theorem Sub.sqT {K : PySem.W.Frag} {Z H : Hp} {a : Addr} {xs : List V} (e : Sub Z H) (h : SqT K Z a xs) : SqT K H a xs := by
  rcases h with (h | ⟨o, h⟩) | h
  · exact .inl (.inl (e _ _ h))
  · exact .inl (.inr ⟨o, e _ _ h⟩)
  · exact .inr h

mutual
theorem Rp.mono {K : PySem.W.Frag} {Z Z' : Hp} (e : Sub Z Z') : ∀ {v : V} {d : D}, Rp K Z v d → Rp K Z' v d
  | _, _, .non => .non
  | _, _, .bl b => .bl b
  | _, _, .int i => .int i
  | _, _, .str x => .str x
  | _, _, .lst h r => .lst (e _ _ h) (RpA.mono e r)
  | _, _, .tup h r => .tup (e _ _ h) (RpA.mono e r)
  | _, _, .dik h r => .dik (e _ _ h) (RpK.mono e r)
  | _, _, .dit h r => .dit (e _ _ h) (RpT.mono e r)
theorem RpA.mono {K : PySem.W.Frag} {Z Z' : Hp} (e : Sub Z Z') : ∀ {vs : List V} {ds : List D}, RpA K Z vs ds → RpA K Z' vs ds
  | _, _, .nil => .nil
  | _, _, .cons r t => .cons (Rp.mono e r) (RpA.mono e t)
theorem RpK.mono {K : PySem.W.Frag} {Z Z' : Hp} (e : Sub Z Z') : ∀ {vs : List (Key × V)} {ds : List (D × D)}, RpK K Z vs ds → RpK K Z' vs ds
  | _, _, .nil => .nil
  | _, _, .cons r t => .cons (Rp.mono e r) (RpK.mono e t)
theorem RpT.mono {K : PySem.W.Frag} {Z Z' : Hp} (e : Sub Z Z') : ∀ {vs : List (List Key × V)} {ds : List (D × D)}, RpT K Z vs ds → RpT K Z' vs ds
  | _, _, .nil => .nil
  | _, _, .cons r t => .cons (Rp.mono e r) (RpT.mono e t)
end

section
variable {K : PySem.W.Frag} {Z Z' H H' : Hp}
theorem RpA.length : ∀ {vs : List V} {ds : List D}, RpA K Z vs ds → vs.length = ds.length
  | _, _, .nil => rfl
  | _, _, .cons _ t => by simp [RpA.length t]
theorem RpA.get : ∀ {vs : List V} {ds : List D} {i : Nat} {d : D}, RpA K Z vs ds → ds[i]? = some d → ∃ v, vs[i]? = some v ∧ Rp K Z v d
  | _, _, _, _, .nil, h => by simp at h
  | _, _, 0, _, .cons r _, h => by simp at h; subst h; exact ⟨_, rfl, r⟩
  | _, _, i + 1, d, .cons _ t, h => by
    obtain ⟨v, h1, h2⟩ := RpA.get (i := i) (d := d) t (by simpa using h)
    exact ⟨v, by simpa using h1, h2⟩
theorem RpA.get' : ∀ {vs : List V} {ds : List D} {i : Nat} {v : V}, RpA K Z vs ds → vs[i]? = some v → ∃ d, ds[i]? = some d ∧ Rp K Z v d
  | _, _, _, _, .nil, h => by simp at h
  | _, _, 0, _, .cons r _, h => by simp at h; subst h; exact ⟨_, rfl, r⟩
  | _, _, i + 1, d, .cons _ t, h => by
    obtain ⟨v, h1, h2⟩ := RpA.get' (i := i) t (by simpa using h)
    exact ⟨v, by simpa using h1, h2⟩
theorem RpA.append : ∀ {vs ws : List V} {ds es : List D}, RpA K Z vs ds → RpA K Z ws es → RpA K Z (vs ++ ws) (ds ++ es)
  | _, _, _, _, .nil, h => h
  | _, _, _, _, .cons r t, h => .cons r (RpA.append t h)
theorem RpA.set {v : V} {d : D} (r : Rp K Z v d) : ∀ {vs : List V} {ds : List D} (i : Nat), RpA K Z vs ds → RpA K Z (vs.set i v) (ds.set i d)
  | _, _, _, .nil => .nil
  | _, _, 0, .cons _ t => .cons r t
  | _, _, i + 1, .cons q t => .cons q (RpA.set r i t)
theorem RpA.take : ∀ {vs : List V} {ds : List D} (n : Nat), RpA K Z vs ds → RpA K Z (vs.take n) (ds.take n)
  | _, _, 0, _ => .nil
  | _, _, _ + 1, .nil => .nil
  | _, _, n + 1, .cons r t => .cons r (RpA.take n t)
theorem RpA.drop : ∀ {vs : List V} {ds : List D} (n : Nat), RpA K Z vs ds → RpA K Z (vs.drop n) (ds.drop n)
  | _, _, 0, h => h
  | _, _, _ + 1, .nil => .nil
  | _, _, n + 1, .cons _ t => RpA.drop n t
theorem RpA.snoc {vs : List V} {ds : List D} {v : V} {d : D} (h : RpA K Z vs ds) (r : Rp K Z v d) : RpA K Z (vs ++ [v]) (ds ++ [d]) := h.append (.cons r .nil)
theorem RpA.ints : ∀ {ns : List Int} {vs : List V}, RpA K Z vs (ns.map PyData.int) → vs = ns.map V.int
  | [], _, .nil => rfl
  | _ :: ns, _, .cons r t => by cases r; rw [RpA.ints t]; rfl
theorem RpA.bls : ∀ {ns : List Bool} {vs : List V}, RpA K Z vs (ns.map PyData.bool) → vs = ns.map V.bl
  | [], _, .nil => rfl
  | _ :: ns, _, .cons r t => by cases r; rw [RpA.bls t]; rfl
theorem RpA.strs : ∀ {ns : List Str} {vs : List V}, RpA K Z vs (ns.map PyData.str) → vs = ns.map V.str
  | [], _, .nil => rfl
  | _ :: ns, _, .cons r t => by cases r; rw [RpA.strs t]; rfl
theorem RpA.ofInts : ∀ (ns : List Int), RpA K Z (ns.map V.int) (ns.map PyData.int)
  | [] => .nil
  | n :: ns => .cons (.int n) (RpA.ofInts ns)
theorem RpA.ofStrs : ∀ (ns : List Str), RpA K Z (ns.map V.str) (ns.map PyData.str)
  | [] => .nil
  | n :: ns => .cons (.str n) (RpA.ofStrs ns)
end

/-! ### dicts by key -/
abbrev KP (K : PySem.W.Frag) (Z : Hp) {κ : Type} : List (κ × V) → List (κ × D) → Prop := Paired fun p q => p.1 = q.1 ∧ Rp K Z p.2 q.2
theorem KP.mono {K : PySem.W.Frag} {Z Z' : Hp} {κ : Type} (e : Sub Z Z') {ys : List (κ × V)} {kvs : List (κ × D)} (h : KP K Z ys kvs) : KP K Z' ys kvs := Paired.mapP h fun _ _ q => ⟨q.1, q.2.mono e⟩
theorem KP.toK {K : PySem.W.Frag} {Z : Hp} : ∀ {ys : List (Key × V)} {kvs : List (Key × D)}, KP K Z ys kvs → RpK K Z ys (kvs.map fun p => (kD p.1, p.2))
  | _, _, .nil => .nil
  | (k, v) :: ys, (k', d) :: kvs, .cons r t => by
    obtain ⟨e, r⟩ := r
    have e' : k = k' := e
    subst e'
    exact .cons r (KP.toK t)
theorem KP.toT {K : PySem.W.Frag} {Z : Hp} : ∀ {ys : List (List Key × V)} {kvs : List (List Key × D)}, KP K Z ys kvs → RpT K Z ys (kvs.map fun p => (.tuple (p.1.map kD), p.2))
  | _, _, .nil => .nil
  | (k, v) :: ys, (k', d) :: kvs, .cons r t => by
    obtain ⟨e, r⟩ := r
    have e' : k = k' := e
    subst e'
    exact .cons r (KP.toT t)

/-! ### objects that a slot alone holds -/
def OwnAt (K : PySem.W.Frag) (Z H : Hp) (a : Addr) : SV → Prop
  | .val _ => False
  | .ro _ => False
  | .ls ds => ∃ xs, H a = some (.lst xs) ∧ RpA K Z xs ds
  | .dk kvs => ∃ ys, H a = some (.dK ys) ∧ KP K Z ys kvs
  | .dt kvs => ∃ ys, H a = some (.dT ys) ∧ KP K Z ys kvs
theorem OwnAt.mono {K : PySem.W.Frag} {Z Z' H H' : Hp} {a : Addr} {sv : SV} (h : OwnAt K Z H a sv) (e : Sub Z Z') (k : ∀ o, H a = some o → H' a = some o) : OwnAt K Z' H' a sv := by
  cases sv with
  | val d => exact h
  | ro d => exact h
  | ls ds => obtain ⟨xs, h1, h2⟩ := h; exact ⟨xs, k _ h1, h2.mono e⟩
  | dk kvs => obtain ⟨xs, h1, h2⟩ := h; exact ⟨xs, k _ h1, h2.mono e⟩
  | dt kvs => obtain ⟨xs, h1, h2⟩ := h; exact ⟨xs, k _ h1, h2.mono e⟩
theorem OwnAt.own {K : PySem.W.Frag} {Z H : Hp} {a : Addr} {sv : SV} (h : OwnAt K Z H a sv) : sv.isOwn = true := by
  cases sv with
  | val d => exact False.elim h
  | ro d => exact False.elim h
  | _ => rfl
theorem OwnAt.there {K : PySem.W.Frag} {Z H : Hp} {a : Addr} {sv : SV} (h : OwnAt K Z H a sv) : ∃ o, H a = some o := by
  cases sv with
  | val d => exact False.elim h
  | ro d => exact False.elim h
  | ls ds => obtain ⟨xs, h1, h2⟩ := h; exact ⟨_, h1⟩
  | dk kvs => obtain ⟨xs, h1, h2⟩ := h; exact ⟨_, h1⟩
  | dt kvs => obtain ⟨xs, h1, h2⟩ := h; exact ⟨_, h1⟩
/-- frozen, it is data -/
theorem OwnAt.frozen {K : PySem.W.Frag} {Z Z' H : Hp} {a : Addr} {sv : SV} (h : OwnAt K Z H a sv) (e : Sub Z Z') (k : Z' a = H a) : Rp K Z' (.ref a) sv.d := by
  cases sv with
  | val d => exact False.elim h
  | ro d => exact False.elim h
  | ls ds => obtain ⟨xs, h1, h2⟩ := h; exact .lst (k.trans h1) (h2.mono e)
  | dk kvs => obtain ⟨xs, h1, h2⟩ := h; exact .dik (k.trans h1) (KP.toK (h2.mono e))
  | dt kvs => obtain ⟨xs, h1, h2⟩ := h; exact .dit (k.trans h1) (KP.toT (h2.mono e))

/-- a slot's content at a value -/
def SlR (K : PySem.W.Frag) (Z H : Hp) (v : V) (sv : SV) : Prop :=
  match sv with
  | .val d => Rp K Z v d
  | .ro ds => ∃ a xs, v = .ref a ∧ SqL K Z a xs ∧ RpA K Z xs ds
  | sv => ∃ a, v = .ref a ∧ Z a = none ∧ OwnAt K Z H a sv

/-- the addresses that slots alone hold -/
def OwnA (S : SS) (σ : St) (a : Addr) : Prop := ∃ (i : Nat) (sv : SV), S[i]? = some (some sv) ∧ sv.isOwn = true ∧ σ[i]? = some (some (.ref a))

structure Rl (K : PySem.W.Frag) (Z : Hp) (S : SS) (σ : St) (H : Hp) : Prop where
  sub : Sub Z H
  len : S.length = σ.length
  at' : ∀ (i : Nat) (sv : SV), S[i]? = some (some sv) → ∃ v, σ[i]? = some (some v) ∧ SlR K Z H v sv
  sep : ∀ (i j : Nat) (si sj : SV) (a : Addr), S[i]? = some (some si) → si.isOwn = true → S[j]? = some (some sj) → sj.isOwn = true → σ[i]? = some (some (.ref a)) → σ[j]? = some (some (.ref a)) → i = j

/-- from (Z, H) to (Z', H'): what was data stays, what is not in O stays, what has become data is new or was in O -/
def NoOb (u : Option HO) : Prop := u = none ∨ ∃ xs, u = some (.tup xs)
theorem OwnAt.noOb {K : PySem.W.Frag} {Z H : Hp} {a : Addr} {sv : SV} (h : OwnAt K Z H a sv) : ¬ NoOb (H a) := by
  intro n
  cases sv with
  | val d => exact False.elim h
  | ro d => exact False.elim h
  | ls ds => obtain ⟨xs, h1, h2⟩ := h; rw [h1] at n; rcases n with n | ⟨_, n⟩ <;> cases n
  | dk kvs => obtain ⟨xs, h1, h2⟩ := h; rw [h1] at n; rcases n with n | ⟨_, n⟩ <;> cases n
  | dt kvs => obtain ⟨xs, h1, h2⟩ := h; rw [h1] at n; rcases n with n | ⟨_, n⟩ <;> cases n
structure Ex (O : Addr → Prop) (Z H Z' H' : Hp) : Prop where
  zz : Sub Z Z'
  hh : ∀ a o, H a = some o → ¬ O a → H' a = some o
  zn : ∀ a o, Z' a = some o → Z a = some o ∨ NoOb (H a) ∨ O a
  th : ∀ a o, H a = some o → ∃ o', H' a = some o'
theorem Ex.refl {O : Addr → Prop} {Z H : Hp} : Ex O Z H Z H := ⟨Sub.refl _, fun _ _ h _ => h, fun _ _ h => .inl h, fun _ o h => ⟨o, h⟩⟩
theorem Ex.trans {O O1 : Addr → Prop} {Z H Z1 H1 Z2 H2 : Hp} (x : Ex O Z H Z1 H1) (y : Ex O1 Z1 H1 Z2 H2) (k : ∀ a, O1 a → O a ∨ H a = none) : Ex O Z H Z2 H2 where
  zz := x.zz.trans y.zz
  hh := fun a o h n => y.hh a o (x.hh a o h n) fun z => by
    rcases k a z with z | z
    · exact n z
    · rw [h] at z; cases z
  zn := fun a o h => by
    rcases y.zn a o h with h | h | h
    · exact x.zn a o h
    · cases q : H a with
      | none => exact .inr (.inl (.inl rfl))
      | some u =>
        by_cases n : O a
        · exact .inr (.inr n)
        · have := x.hh a u q n
          rw [this] at h
          exact .inr (.inl h)
    · rcases k a h with h | h
      · exact .inr (.inr h)
      · exact .inr (.inl (.inl h))
  th := fun a o h => by
    obtain ⟨o1, h1⟩ := x.th a o h
    exact y.th a o1 h1
theorem Ex.weak {O O' : Addr → Prop} {Z H Z' H' : Hp} (x : Ex O Z H Z' H') (k : ∀ a, O a → O' a) : Ex O' Z H Z' H' :=
  ⟨x.zz, fun a o h n => x.hh a o h fun z => n (k a z), fun a o h => (x.zn a o h).imp id (Or.imp id (k a)), x.th⟩
theorem Ex.none {O : Addr → Prop} {Z H Z' H' : Hp} (x : Ex O Z H Z' H') {a : Addr} (h : H' a = none) : H a = none := by
  cases q : H a with
  | none => rfl
  | some o =>
    obtain ⟨o', e⟩ := x.th a o q
    rw [h] at e; cases e

/-- a step with the slots' values as they are -/
structure Ste (K : PySem.W.Frag) (S : SS) (σ : St) (Z H : Hp) (S' : SS) (Z' H' : Hp) : Prop where
  rl : Rl K Z' S' σ H'
  ex : Ex (OwnA S σ) Z H Z' H'
  ow : ∀ a, OwnA S' σ a → OwnA S σ a
  kp : ∀ (i : Nat) sv, S[i]? = some (some sv) → ∃ sv', S'[i]? = some (some sv')
theorem Ste.refl {K : PySem.W.Frag} {S : SS} {σ : St} {Z H : Hp} (h : Rl K Z S σ H) : Ste K S σ Z H S Z H := ⟨h, .refl, fun _ h => h, fun _ sv h => ⟨sv, h⟩⟩
theorem Ste.trans {K : PySem.W.Frag} {S S1 S2 : SS} {σ : St} {Z H Z1 H1 Z2 H2 : Hp} (x : Ste K S σ Z H S1 Z1 H1) (y : Ste K S1 σ Z1 H1 S2 Z2 H2) : Ste K S σ Z H S2 Z2 H2 :=
  ⟨y.rl, x.ex.trans y.ex fun a h => .inl (x.ow a h), fun a h => x.ow a (y.ow a h), fun i sv h => let ⟨s1, h1⟩ := x.kp i sv h; y.kp i s1 h1⟩

/-- what an expression gave, at a value -/
def RvR (K : PySem.W.Frag) (Z H : Hp) (S : SS) (σ : St) (r : RV) (v : V) : Prop :=
  match r with
  | .z d => Rp K Z v d
  | .f sv => ∃ a, v = .ref a ∧ Z a = none ∧ OwnAt K Z H a sv ∧ ¬ OwnA S σ a
  | .b i => ∃ sv, S[i]? = some (some sv) ∧ σ[i]? = some (some v)
/-- a new object is new -/
def Fr0 (H : Hp) (r : RV) (v : V) : Prop :=
  match r with
  | .f _ => ∀ a, v = .ref a → H a = none
  | _ => True

section
variable {K : PySem.W.Frag} {S S' : SS} {σ : St} {Z H Z' H' Z0 H0 : Hp} {r : RV} {v : V} {i : Nat} {sv : SV} {d : D}
theorem Rl.slot (h : Rl K Z S σ H) (e : S[i]? = some (some sv)) (k : σ[i]? = some (some v)) : SlR K Z H v sv := by
  obtain ⟨w, h1, h2⟩ := h.at' i sv e
  rw [k] at h1; cases h1; exact h2
theorem SlR.own (h : SlR K Z H v sv) (o : sv.isOwn = true) : ∃ a, v = .ref a ∧ Z a = none ∧ OwnAt K Z H a sv := by
  cases sv with
  | val d => cases o
  | ro d => cases o
  | _ => exact h
theorem SlR.mk {a : Addr} (hz : Z a = none) (h : OwnAt K Z H a sv) : SlR K Z H (.ref a) sv := by
  cases sv with
  | val d => exact False.elim h
  | ro d => exact False.elim h
  | _ => exact ⟨a, rfl, hz, h⟩
theorem Rl.own (h : Rl K Z S σ H) (e : S[i]? = some (some sv)) (o : sv.isOwn = true) : ∃ a, σ[i]? = some (some (.ref a)) ∧ Z a = none ∧ OwnAt K Z H a sv ∧ OwnA S σ a := by
  obtain ⟨w, h1, h2⟩ := h.at' i sv e
  obtain ⟨a, rfl, h3, h4⟩ := h2.own o
  exact ⟨a, h1, h3, h4, i, sv, e, o, h1⟩
/-- a temporary thing outlives a step -/
theorem RvR.keep {S1 : SS} {Z1 H1 : Hp} (x : Ste K S1 σ Z1 H1 S' Z' H') (h : RvR K Z1 H1 S1 σ r v) : RvR K Z' H' S' σ r v := by
  cases r with
  | z d => exact Rp.mono x.ex.zz h
  | f sv =>
    obtain ⟨a, rfl, h1, h2, h3⟩ := h
    refine ⟨a, rfl, ?_, h2.mono x.ex.zz fun o e => x.ex.hh a o e h3, fun z => h3 (x.ow a z)⟩
    cases q : Z' a with
    | none => rfl
    | some o =>
      rcases x.ex.zn a o q with z | z | z
      · rw [h1] at z; cases z
      · exact absurd z h2.noOb
      · exact absurd z h3
  | b i =>
    obtain ⟨sv, h1, h2⟩ := h
    obtain ⟨sv', h3⟩ := x.kp i sv h1
    exact ⟨sv', h3, h2⟩
end
end Fw

set_option Elab.async false
set_option linter.all false
set_option maxRecDepth 100000
set_option maxHeartbeats 4000000
/-! Fw, part B: the code and what it reckons, by wish (a predicate transformer over states kept by value). -/
namespace Fw
universe u
open PySem PySem.Spec L2

inductive BOp | add | sub | mul | fdiv | mod | pow | shl | shr | band | bor | bxor
inductive COp | eq | ne | lt | le | gt | ge | isin | notin | isN | notN
inductive Bi | abs | int | len | min2 | max2 | min1 | max1 | sum | sumL | all | any | sorted | repr | str | sset | lset | lst | tup
inductive Me | append | extend | pop | popAt | index | count | lcount | get | getOr | join | split | update
inductive CT | v (i : Nat) | t (ts : List CT)

mutual
inductive CE where
  | var (i : Nat)
  | int (i : Int) | bl (b : Bool) | non | str (x : Str)
  | gl (k : Nat)
  | tup (es : CEs) | lst (es : CEs) | dK0 | dT0 | dik (ks vs : CEs)
  | bin (op : BOp) (a b : CE) | neg (a : CE)
  | cmp (op : COp) (a b : CE) | cmp2 (o1 o2 : COp) (a b c : CE)
  | and (es : CEs) | or (es : CEs) | not (a : CE) | ife (c : CC) (a b : CE)
  | ix (a b : CE) | sl (a : CE) (lo hi : CO) | rev (a : CE)
  | call (k : Nat) (as : CAs)
  | bi (f : Bi) (as : CEs)
  | me (m : Me) (o : CE) (as : CEs)
  | isi (t : String) (e : CE)
  | lstI (src : CI) | tupI (src : CI)
  | comp (src : CI) (tg : CT) (cond : CC) (elt : CE) (own : List Nat)
inductive CEs where
  | nil | cons (e : CE) (es : CEs)
inductive CO where
  | none | some (e : CE)
inductive CAs where
  | nil | v (e : CE) (r : CAs) | s (i : Nat) (r : CAs) | t (e : CE) (r : CAs)
inductive CI where
  | it (e : CE) | rng1 (a : CE) | rng2 (a b : CE) | rng3 (a b c : CE) | enum (e : CE) | zip (a b : CE)
inductive CC where
  | e (x : CE) | not (c : CC) | and (cs : CCs) | or (cs : CCs) | yes
inductive CCs where
  | nil | cons (c : CC) (cs : CCs)
end

mutual
inductive CS where
  | set (i : Nat) (e : CE)
  | setT (t : CT) (e : CE)
  | par (is : List Nat) (es : CEs)
  | ixs (o k e : CE)
  | ex (e : CE)
  | ret (e : CE) | retN
  | iff (c : CC) (a b : CB)
  | for_ (src : CI) (tg : CT) (body : CB) (kill : List Nat)
  | whl (c : CC) (body : CB) (kill : List Nat)
  | brk | pass | raise (k : Nat) | dead
inductive CB where
  | nil | cons (s : CS) (b : CB)
end

/-- what follows, kept whole: simp looks into it no sooner than it is applied -/
structure Tag {α : Sort u} (P : α) : Type where
def hold {α : Sort u} (P : α) (_ : Tag P) : α := P
/-! ### reading and freezing -/
@[simp ↓] def rdS (S : SS) (r : RV) (Q : SV → Prop) : Prop :=
  match r with
  | .z d => Q (.val d)
  | .f sv => Q sv
  | .b i => match S[i]? with
    | some (some (.ro _)) => False
    | some (some sv) => Q sv
    | _ => False
/-- a list that is read alone, too -/
@[simp ↓] def rdX (S : SS) (r : RV) (Q : SV → Prop) : Prop :=
  match r with
  | .z d => Q (.val d)
  | .f sv => Q sv
  | .b i => match S[i]? with
    | some (some sv) => Q sv
    | _ => False
@[simp ↓] def fzS (S : SS) (r : RV) (Q : D → SS → Prop) : Prop :=
  match r with
  | .z d => Q d S
  | .f sv => Q sv.d S
  | .b i => match S[i]? with
    | some (some (.ro _)) => False
    | some (some sv) => Q sv.d (S.set i (some (.val sv.d)))
    | _ => False

/-! ### operators -/
mutual
/-- no dict, no deeper than n -/
def okD : D → Nat → Bool
  | .none, _ => true
  | .bool _, _ => true
  | .int _, _ => true
  | .str x, _ => PyData.strOk x
  | .list xs, n => match n with
    | 0 => false
    | n + 1 => okDs xs n
  | .tuple xs, n => match n with
    | 0 => false
    | n + 1 => okDs xs n
  | .dict _, _ => false
def okDs : List D → Nat → Bool
  | [], _ => true
  | d :: ds, n => okD d n && okDs ds n
end
/-- == may be asked -/
def eqOk (d e : D) : Prop :=
  match d, e with
  | .int _, .int _ => True
  | .str _, .str _ => True
  | .bool _, .bool _ => True
  | .none, .none => True
  | .none, .int _ => True
  | .int _, .none => True
  | .none, .str _ => True
  | .str _, .none => True
  | d, e => okD d 40 = true ∧ okD e 40 = true
@[simp ↓] def binW (op : BOp) (d e : D) (Q : RV → Prop) : Prop :=
  match op, d, e with
  | .add, .int a, .int b => Q (.z (.int (a + b)))
  | .add, .str a, .str b => a.length + b.length ≤ sizeLine ∧ Q (.z (.str (a ++ b)))
  | .add, .list a, .list b => a.length + b.length ≤ sizeLine ∧ Q (.f (.ls (a ++ b)))
  | .add, .tuple a, .tuple b => a.length + b.length ≤ sizeLine ∧ Q (.z (.tuple (a ++ b)))
  | .sub, .int a, .int b => Q (.z (.int (a - b)))
  | .mul, .int a, .int b => CMul a b ∧ Q (.z (.int (a * b)))
  | .mul, .list a, .int k => (-(2 ^ 63) ≤ k ∧ k < 2 ^ 63 ∧ a.length * k.toNat ≤ sizeLine) ∧ Q (.f (.ls (List.replicate k.toNat a).flatten))
  | .mul, .tuple a, .int k => (a ≠ [] ∧ 1 ≤ k ∧ k ≤ 1000 ∧ a.length ≤ 1000) ∧ Q (.z (.tuple (List.replicate k.toNat a).flatten))
  | .fdiv, .int a, .int b => CDiv a b ∧ Q (.z (.int (a / b)))
  | .mod, .int a, .int b => 0 < b ∧ Q (.z (.int (a % b)))
  | .pow, .int a, .int b => CPow a b ∧ Q (.z (.int (a ^ b.toNat)))
  | .shl, .int a, .int b => CPow a b ∧ Q (.z (.int (a * 2 ^ b.toNat)))
  | .shr, .int a, .int b => 0 ≤ b ∧ Q (.z (.int (a / 2 ^ b.toNat)))
  | .band, .int a, .int b => Q (.z (.int (Builtin.bitAnd a b)))
  | .bor, .int a, .int b => Q (.z (.int (Builtin.bitOr a b)))
  | .bxor, .int a, .int b => Q (.z (.int (Builtin.bitXor a b)))
  | _, _, _ => False
def dKey : D → Option Key
  | .int i => some (.inl i)
  | .str x => some (.inr x)
  | _ => none
def dKeys : List D → Option (List Key)
  | [] => some []
  | d :: ds => match dKey d, dKeys ds with
    | some k, some ks => some (k :: ks)
    | _, _ => none
def valD {κ : Type} [DecidableEq κ] (kvs : List (κ × D)) (k : κ) : Option D := (kvs.find? fun kv => decide (kv.1 = k)).map (·.2)
def putD {κ : Type} [DecidableEq κ] (kvs : List (κ × D)) (k : κ) (v : D) : List (κ × D) :=
  if (kvs.any fun kv => decide (kv.1 = k)) = true then kvs.map (fun kv => if kv.1 = k then (kv.1, v) else kv) else kvs ++ [(k, v)]
/-- o.get of a dict; none: not such a key -/
def dGet (sv : SV) (d : D) : Option (Option D) :=
  match sv with
  | .dk kvs => (dKey d).map fun k => valD kvs k
  | .dt kvs => match d with
    | .tuple ks => (dKeys ks).map fun k => valD kvs k
    | _ => none
  | _ => none
def strInW (x : D) (y : Str) (Q : Bool → Prop) : Prop :=
  match x with
  | .str z => Q (!(Builtin.Str.occurrences y z 0 y.length 1).isEmpty)
  | _ => False
@[simp ↓] def inW (x : D) (sv : SV) (Q : Bool → Prop) : Prop :=
  match sv with
  | .dk kvs => ∃ o, dGet (.dk kvs) x = some o ∧ Q o.isSome
  | .dt kvs => ∃ o, dGet (.dt kvs) x = some o ∧ Q o.isSome
  | sv => match sv.d with
    | .list ds => (okDs ds 40 = true ∧ okD x 40 = true) ∧ Q (ds.any fun d => PyData.eqv d x)
    | .tuple ds => (okDs ds 40 = true ∧ okD x 40 = true) ∧ Q (ds.any fun d => PyData.eqv d x)
    | .str y => strInW x y Q
    | _ => False
def ltInts : List Int → List Int → Bool := HT.lexLt
@[simp ↓] def cmpW (op : COp) (s t : SV) (Q : Bool → Prop) : Prop :=
  match op with
  | .eq => eqOk s.d t.d ∧ Q (PyData.eqv s.d t.d)
  | .ne => eqOk s.d t.d ∧ Q (!PyData.eqv s.d t.d)
  | .lt => match s.d, t.d with
    | .int a, .int b => Q (decide (a < b))
    | .str a, .str b => Q (decide (a.cps.toList < b.cps.toList))
    | _, _ => False
  | .le => match s.d, t.d with
    | .int a, .int b => Q (decide (a ≤ b))
    | _, _ => False
  | .gt => match s.d, t.d with
    | .int a, .int b => Q (decide (b < a))
    | _, _ => False
  | .ge => match s.d, t.d with
    | .int a, .int b => Q (decide (b ≤ a))
    | _, _ => False
  | .isin => inW s.d t Q
  | .notin => inW s.d t fun b => Q (!b)
  | .isN => match t.d, s.d with
    | .none, .none => Q true
    | .none, _ => Q false
    | .bool b, .bool a => Q (decide (a = b))
    | _, _ => False
  | .notN => match t.d, s.d with
    | .none, .none => Q false
    | .none, _ => Q true
    | .bool b, .bool a => Q (!decide (a = b))
    | _, _ => False
@[simp ↓] def negW (d : D) (Q : RV → Prop) : Prop :=
  match d with
  | .int a => Q (.z (.int (-a)))
  | _ => False
@[simp ↓] def ixW (s : SV) (d : D) (Q : RV → Prop) : Prop :=
  match s with
  | .dk kvs => ∃ v, dGet (.dk kvs) d = some (some v) ∧ Q (.z v)
  | .dt kvs => ∃ v, dGet (.dt kvs) d = some (some v) ∧ Q (.z v)
  | s => match s.d, d with
    | .list xs, .int i => ∃ x, atI xs i = some x ∧ Q (.z x)
    | .tuple xs, .int i => ∃ x, atI xs i = some x ∧ Q (.z x)
    | .str z, .int i => z.length ≤ sizeLine ∧ ∃ c, atI z.cps.toList i = some c ∧ Q (.z (.str ⟨#[c]⟩))
    | _, _ => False
def cutD (xs : List D) (lo hi : Option Int) : List D := (xs.drop (HT.sIx xs.length 0 lo)).take (HT.sIx xs.length xs.length hi - HT.sIx xs.length 0 lo)
@[simp ↓] def slW (s : SV) (lo hi : Option Int) (Q : RV → Prop) : Prop :=
  match s.d with
  | .list xs => Q (.f (.ls (cutD xs lo hi)))
  | .tuple xs => Q (.z (.tuple (cutD xs lo hi)))
  | .str z => z.length ≤ sizeLine ∧ Q (.z (.str (cutS z lo hi)))
  | _ => False
@[simp ↓] def revW (s : SV) (Q : RV → Prop) : Prop :=
  match s.d with
  | .list xs => Q (.f (.ls xs.reverse))
  | _ => False
@[simp ↓] def notW (d : D) (Q : RV → Prop) : Prop :=
  match d with
  | .bool b => Q (.z (.bool (!b)))
  | _ => False
/-- truth -/
@[simp ↓] def trW (d : D) (Q : Bool → Prop) : Prop :=
  match d with
  | .none => Q false
  | .bool b => Q b
  | .int i => Q (i != 0)
  | .str y => y.length ≤ sizeLine ∧ Q ((y.length : Int) != 0)
  | .list xs => Q (!xs.isEmpty)
  | .tuple xs => Q (!xs.isEmpty)
  | .dict _ => False
@[simp ↓] def optI (d : D) (Q : Option Int → Prop) : Prop :=
  match d with
  | .int i => Q (some i)
  | _ => False
def tyD : D → String
  | .none => "NoneType"
  | .bool _ => "bool"
  | .int _ => "int"
  | .str _ => "str"
  | .list _ => "list"
  | .tuple _ => "tuple"
  | .dict _ => "dict"
def isiB (t : String) (d : D) : Bool := tyD d == t || (t == "int" && tyD d == "bool")

/-! ### built-ins by values -/
def intsOf : List D → Option (List Int)
  | [] => some []
  | .int i :: r => (intsOf r).map (i :: ·)
  | _ :: _ => none
def boolsOf : List D → Option (List Bool)
  | [] => some []
  | .bool i :: r => (boolsOf r).map (i :: ·)
  | _ :: _ => none
def seqOf : D → Option (List D)
  | .list xs => some xs
  | .tuple xs => some xs
  | _ => none
/-- what sorted goes through -/
def sortSrc : SV → Option (List D)
  | .dk kvs => some (kvs.map fun p => kD p.1)
  | .dt kvs => some (kvs.map fun p => .tuple (p.1.map kD))
  | .ls xs => some xs
  | .val (.list xs) => some xs
  | _ => none
def allB (bs : List Bool) : Bool := bs.all id
def anyB (bs : List Bool) : Bool := bs.any id
@[simp ↓] def biW (f : Bi) (ss : List SV) (Q : RV → Prop) : Prop :=
  match f, ss with
  | .abs, [s] => match s.d with
    | .int a => Q (.z (.int (if a < 0 then -a else a)))
    | _ => False
  | .int, [s] => match s.d with
    | .int a => Q (.z (.int a))
    | .bool b => Q (.z (.int (if b then 1 else 0)))
    | _ => False
  | .len, [s] => match s with
    | .dk kvs => Q (.z (.int kvs.length))
    | .dt kvs => Q (.z (.int kvs.length))
    | s => match s.d with
      | .list xs => Q (.z (.int xs.length))
      | .tuple xs => Q (.z (.int xs.length))
      | .str y => y.length ≤ sizeLine ∧ Q (.z (.int y.length))
      | _ => False
  | .min2, [s, t] => match s.d, t.d with
    | .int a, .int b => Q (.z (.int (if b < a then b else a)))
    | _, _ => False
  | .max2, [s, t] => match s.d, t.d with
    | .int a, .int b => Q (.z (.int (if b > a then b else a)))
    | _, _ => False
  | .sum, [s] => ∃ ns : List Int, (s.d = .list (ns.map .int) ∨ s.d = .tuple (ns.map .int)) ∧ Q (.z (.int ns.sum))
  | .lset, [s] => ∃ ns : List Int, (s.d = .list (ns.map .int) ∨ s.d = .tuple (ns.map .int)) ∧ ns.length ≤ 1000 ∧ Q (.z (.int (ns.eraseDups.length : Nat)))
  | .sumL, [s, t] => ∃ xss : List (List D), s.d = .list (xss.map .list) ∧ t = .ls [] ∧ (xss ≠ [] ∧ xss.flatten.length ≤ sizeLine) ∧ Q (.f (.ls xss.flatten))
  | .all, [s] => ∃ bs : List Bool, s.d = .list (bs.map .bool) ∧ Q (.z (.bool (allB bs)))
  | .any, [s] => ∃ bs : List Bool, s.d = .list (bs.map .bool) ∧ Q (.z (.bool (anyB bs)))
  | .min1, [s] => ∃ x xs, (s.d = .list (x :: xs) ∨ s.d = .tuple (x :: xs)) ∧ (okDs (x :: xs) 40 = true ∧ PySem.W.AlikeAll (x :: xs)) ∧ Q (.z (PySem.W.minD x xs))
  | .max1, [s] => ∃ x xs, (s.d = .list (x :: xs) ∨ s.d = .tuple (x :: xs)) ∧ (okDs (x :: xs) 40 = true ∧ PySem.W.AlikeAll (x :: xs)) ∧ Q (.z (PySem.W.maxD x xs))
  | .sorted, [s] => ∃ xs, sortSrc s = some xs ∧ (okDs xs 40 = true ∧ PySem.W.AllAlike xs ∧ PySem.W.Sortable xs) ∧ Q (.f (.ls (xs.mergeSort (PySem.W.dataLe false id))))
  | .lst, [s] => ∃ xs, (s.d = .tuple xs ∨ sortSrc s = some xs) ∧ Q (.f (.ls xs))
  | .tup, [s] => ∃ xs, (s.d = .tuple xs ∨ s.d = .list xs) ∧ Q (.z (.tuple xs))
  | _, _ => False
@[simp ↓] def meW (m : Me) (r : RV) (ds : List D) (S : SS) (Q : RV → SS → Prop) : Prop :=
  match m, r, ds with
  | .append, .b i, [d] => match S[i]? with
    | some (some (.ls xs)) => xs.length < sizeLine ∧ Q (.z .none) (S.set i (some (.ls (xs ++ [d]))))
    | _ => False
  | .extend, .b i, [.list ds] => match S[i]? with
    | some (some (.ls xs)) => xs.length + ds.length ≤ sizeLine ∧ Q (.z .none) (S.set i (some (.ls (xs ++ ds))))
    | _ => False
  | .pop, .b i, [] => match S[i]? with
    | some (some (.ls xs)) => ∃ x, xs[xs.length - 1]? = some x ∧ Q (.z x) (S.set i (some (.ls xs.dropLast)))
    | _ => False
  | .popAt, .b i, [.int n] => match S[i]? with
    | some (some (.ls xs)) => ∃ k x, (-(2 ^ 63) ≤ n ∧ n < 2 ^ 63 ∧ seqIndex? n xs.length = some k) ∧ xs[k]? = some x ∧ Q (.z x) (S.set i (some (.ls (xs.eraseIdx k))))
    | _ => False
  | .index, r, [d] => rdS S r fun s => ∃ xs j, s.d = .list xs ∧ (okDs xs 40 = true ∧ okD d 40 = true) ∧ xs.findIdx? (fun z => PyData.eqv z d) = some j ∧ Q (.z (.int (j : Nat))) S
  | .count, r, [d] => rdS S r fun s => ∃ a b, s.d = .str a ∧ d = .str b ∧ Q (.z (.int (Txt.count a b))) S
  | .lcount, r, [d] => rdS S r fun s => ∃ (ns : List Int) (k : Int), s.d = .list (ns.map .int) ∧ d = .int k ∧ Q (.z (.int (ns.count k : Nat))) S
  | .get, .b i, [d] => match S[i]? with
    | some (some sv) => ∃ o, dGet sv d = some o ∧ Q (.z (o.getD .none)) S
    | _ => False
  | .getOr, .b i, [d, e] => match S[i]? with
    | some (some sv) => ∃ o, dGet sv d = some o ∧ Q (.z (o.getD e)) S
    | _ => False
  | _, _, _ => False

/-- what its receiver must be -/
@[simp ↓] def meK (m : Me) (r : RV) (S : SS) : Prop :=
  match m with
  | .append => ∃ i xs, r = .b i ∧ S[i]? = some (some (.ls xs))
  | .extend => ∃ i xs, r = .b i ∧ S[i]? = some (some (.ls xs))
  | .pop => ∃ i xs, r = .b i ∧ S[i]? = some (some (.ls xs))
  | .popAt => ∃ i xs, r = .b i ∧ S[i]? = some (some (.ls xs))
  | .get => ∃ i, r = .b i ∧ ((∃ kvs, S[i]? = some (some (.dk kvs))) ∨ ∃ kvs, S[i]? = some (some (.dt kvs)))
  | .getOr => ∃ i, r = .b i ∧ ((∃ kvs, S[i]? = some (some (.dk kvs))) ∨ ∃ kvs, S[i]? = some (some (.dt kvs)))
  | .index => rdS S r fun s => ∃ xs, s.d = .list xs
  | .count => rdS S r fun s => ∃ a, s.d = .str a
  | .lcount => rdS S r fun s => ∃ xs, s.d = .list xs
  | _ => False

/-! ### targets -/
mutual
@[simp ↓] def bindT : CT → D → SS → (SS → Prop) → Prop
  | .v i, d, S, Q => Q (S.set i (some (.val d)))
  | .t ts, d, S, Q => match d with
    | .tuple ds => bindTs ts ds S Q
    | _ => False
@[simp ↓] def bindTs : List CT → List D → SS → (SS → Prop) → Prop
  | [], [], S, Q => Q S
  | t :: ts, d :: ds, S, Q => bindT t d S fun S1 => bindTs ts ds S1 Q
  | _, _, _, _ => False
end
@[simp ↓] def killS (S : SS) : List Nat → SS
  | [] => S
  | i :: r => killS (S.set i none) r
/-- S2 with the slots at own as in S1 -/
@[simp ↓] def restS (S1 S2 : SS) : List Nat → SS
  | [] => S2
  | i :: r => (restS S1 S2 r).set i (S1[i]?.getD none)
def rngL (lo : Int) (n : Nat) : List D := (List.range n).map fun k : Nat => PyData.int (lo + k)
def signsD (x : Str) : List D := x.cps.toList.map fun c => PyData.str ⟨#[c]⟩
@[simp ↓] def itemsOf : D → Option (List D)
  | .list xs => some xs
  | .tuple xs => some xs
  | .str x => some (signsD x)
  | _ => none
@[simp ↓] def enumOf : D → Option (List D)
  | .list xs => some xs
  | .tuple xs => some xs
  | _ => none
/-- both lists, or both tuples -/
@[simp ↓] def zipOf : D → D → Option (List D × List D)
  | .list xs, .list ys => some (xs, ys)
  | .tuple xs, .tuple ys => some (xs, ys)
  | _, _ => none
def enumFr (n : Nat) : List D → List D
  | [] => []
  | d :: r => .tuple [.int n, d] :: enumFr (n + 1) r
@[simp ↓] def rngW1 (d : D) (Q : List D → Prop) : Prop :=
  match d with
  | .int j => (-(2 ^ 62) ≤ j ∧ j < 2 ^ 62) ∧ Q (rngL 0 j.toNat)
  | _ => False
@[simp ↓] def rngW2 (d e : D) (Q : List D → Prop) : Prop :=
  match d, e with
  | .int i, .int j => (-(2 ^ 62) ≤ i ∧ i < 2 ^ 62 ∧ -(2 ^ 62) ≤ j ∧ j < 2 ^ 62) ∧ Q (rngL i (j - i).toNat)
  | _, _ => False
@[simp ↓] def rngW3 (d e f : D) (Q : List D → Prop) : Prop :=
  match d, e, f with
  | .int i, .int j, .int c => ∃ n, RgC i j c n ∧ Q ((List.range n).map fun k : Nat => PyData.int (i + k * c))
  | _, _, _ => False

/-! ### the wish -/
structure Wv where
  cw : Nat → List SV → (RV → List SV → Prop) → (Nat → List SV → Prop) → Prop
  gl : Nat → Option D
  xq : Nat → SS → Prop
abbrev Wv.nox (W : Wv) : Wv := { W with xq := fun _ _ => False }
/-- arguments gathered: the slots that are handed on to be changed -/
@[simp ↓] def putOuts (S : SS) : List (Option Nat) → List SV → SS
  | some i :: is, sv :: svs => putOuts (S.set i (some sv)) is svs
  | none :: is, _ :: svs => putOuts S is svs
  | _, _ => S
/-- a comprehension's turns: bt binds, ct tests, et the element -/
def compW (bt : D → SS → (SS → Prop) → Prop) (ct : SS → (Bool → SS → Prop) → Prop) (et : SS → (RV → SS → Prop) → Prop) (own : List Nat) : List D → SS → (List D → SS → Prop) → Prop
  | [], S, Q => Q [] S
  | d :: ds, S, Q => bt d S fun S1 => ct S1 fun b S2 =>
      (b = true → et S2 fun r S3 => fzS S3 r fun x S4 => compW bt ct et own ds (killS S4 own) fun xs S5 => Q (x :: xs) S5) ∧
      (b = false → compW bt ct et own ds (killS S2 own) Q)

mutual
@[simp ↓] def wpE (W : Wv) : CE → SS → (RV → SS → Prop) → Prop
  | .var i, S, Q => (∃ sv, S[i]? = some (some sv)) ∧ Q (.b i) S
  | .int i, S, Q => Q (.z (.int i)) S
  | .bl b, S, Q => Q (.z (.bool b)) S
  | .non, S, Q => Q (.z .none) S
  | .str x, S, Q => Q (.z (.str x)) S
  | .gl k, S, Q => ∃ d, W.gl k = some d ∧ Q (.z d) S
  | .tup es, S, Q => wpF W es S fun ds S1 => ds.length ≤ sizeLine ∧ Q (.z (.tuple ds)) S1
  | .lst es, S, Q => wpF W es S fun ds S1 => ds.length ≤ sizeLine ∧ Q (.f (.ls ds)) S1
  | .dK0, S, Q => Q (.f (.dk [])) S
  | .dT0, S, Q => Q (.f (.dt [])) S
  | .dik _ _, _, _ => False
  | .bin op a b, S, Q => wpE W a S fun r1 S1 => wpE W b S1 fun r2 S2 => rdS S2 r1 fun s1 => rdS S2 r2 fun s2 => binW op s1.d s2.d fun r => Q r S2
  | .neg a, S, Q => wpE W a S fun r1 S1 => rdS S1 r1 fun s1 => negW s1.d fun r => Q r S1
  | .cmp op a b, S, Q => wpE W a S fun r1 S1 => wpE W b S1 fun r2 S2 => rdS S2 r1 fun s1 => rdS S2 r2 fun s2 => cmpW op s1 s2 fun c => Q (.z (.bool c)) S2
  | .cmp2 o1 o2 a b c, S, Q => wpE W a S fun r1 S1 => wpE W b S1 fun r2 S2 => rdS S2 r1 fun s1 => rdS S2 r2 fun s2 => cmpW o1 s1 s2 fun k =>
      (k = true → wpE W c S2 fun r3 S3 => rdS S3 r2 fun s2' => rdS S3 r3 fun s3 => cmpW o2 s2' s3 fun k2 => Q (.z (.bool k2)) S3) ∧ (k = false → Q (.z (.bool false)) S2)
  | .and es, S, Q => wpAnd W es S Q
  | .or es, S, Q => wpOr W es S Q
  | .not a, S, Q => wpE W a S fun r1 S1 => rdS S1 r1 fun s1 => notW s1.d fun r => Q r S1
  | .ife c a b, S, Q => wpC W c S fun k S1 => (k = true → wpE W a S1 Q) ∧ (k = false → wpE W b S1 Q)
  | .ix a b, S, Q => wpE W a S fun r1 S1 => wpE W b S1 fun r2 S2 => rdS S2 r1 fun s1 => rdS S2 r2 fun s2 => ixW s1 s2.d fun r => Q r S2
  | .sl a lo hi, S, Q => wpE W a S fun r1 S1 => wpO W lo S1 fun l S2 => wpO W hi S2 fun h S3 => rdX S3 r1 fun s1 => slW s1 l h fun r => Q r S3
  | .rev a, S, Q => wpE W a S fun r1 S1 => rdS S1 r1 fun s1 => revW s1 fun r => Q r S1
  | .call k as, S, Q => wpA W as S fun svs is S1 => (is.filterMap id).Nodup ∧ W.cw k svs (hold (fun r outs => Q r (putOuts S1 is outs)) ⟨⟩) (hold (fun c outs => W.xq c (putOuts S1 is outs)) ⟨⟩)
  | .bi f es, S, Q => wpR W es S fun rs S1 => rdAll S1 rs fun ss => biW f ss fun r => Q r S1
  | .me m o es, S, Q => wpE W o S fun r S1 => meK m r S1 ∧ wpF W es S1 fun ds S2 => meW m r ds S2 Q
  | .isi t a, S, Q => wpE W a S fun r1 S1 => rdS S1 r1 fun s1 => Q (.z (.bool (isiB t s1.d))) S1
  | .lstI src, S, Q => wpI W src S fun ds S1 => ds.length ≤ sizeLine ∧ Q (.f (.ls ds)) S1
  | .tupI src, S, Q => wpI W src S fun ds S1 => ds.length ≤ sizeLine ∧ Q (.z (.tuple ds)) S1
  | .comp src tg cond elt own, S, Q => wpI W src S fun ds S1 => ds.length ≤ sizeLine ∧
      compW (bindT tg) (wpC W.nox cond) (wpE W.nox elt) own ds (killS S1 own) (hold (fun xs S2 => Q (.f (.ls xs)) (restS S1 S2 own)) ⟨⟩)
/-- several, frozen -/
@[simp ↓] def wpF (W : Wv) : CEs → SS → (List D → SS → Prop) → Prop
  | .nil, S, Q => Q [] S
  | .cons e es, S, Q => wpE W e S fun r S1 => fzS S1 r fun d S2 => wpF W es S2 fun ds S3 => Q (d :: ds) S3
/-- several, as they are -/
@[simp ↓] def wpR (W : Wv) : CEs → SS → (List RV → SS → Prop) → Prop
  | .nil, S, Q => Q [] S
  | .cons e es, S, Q => wpE W e S fun r S1 => wpR W es S1 fun rs S2 => Q (r :: rs) S2
@[simp ↓] def wpAnd (W : Wv) : CEs → SS → (RV → SS → Prop) → Prop
  | .nil, _, _ => False
  | .cons e .nil, S, Q => wpE W e S Q
  | .cons e es, S, Q => wpE W e S fun r S1 => rdS S1 r fun s => ∃ k, s.d = .bool k ∧ (k = true → wpAnd W es S1 Q) ∧ (k = false → Q (.z (.bool false)) S1)
@[simp ↓] def wpOr (W : Wv) : CEs → SS → (RV → SS → Prop) → Prop
  | .nil, _, _ => False
  | .cons e .nil, S, Q => wpE W e S Q
  | .cons e es, S, Q => wpE W e S fun r S1 => rdS S1 r fun s => ∃ k, s.d = .bool k ∧ (k = true → Q (.z (.bool true)) S1) ∧ (k = false → wpOr W es S1 Q)
@[simp ↓] def wpO (W : Wv) : CO → SS → (Option Int → SS → Prop) → Prop
  | .none, S, Q => Q none S
  | .some e, S, Q => wpE W e S fun r S1 => rdS S1 r fun s => optI s.d fun o => Q o S1
/-- arguments: their contents, the slots to be changed -/
@[simp ↓] def wpA (W : Wv) : CAs → SS → (List SV → List (Option Nat) → SS → Prop) → Prop
  | .nil, S, Q => Q [] [] S
  | .v e r, S, Q => wpE W e S fun x S1 => fzS S1 x fun d S2 => wpA W r S2 fun svs is S3 => Q (.val d :: svs) (none :: is) S3
  | .s i r, S, Q => (∃ sv, S[i]? = some (some sv)) ∧ wpA W r S fun svs is S1 => ∃ sv, S1[i]? = some (some sv) ∧ sv.isRef = true ∧ Q (sv :: svs) (some i :: is) S1
  | .t e r, S, Q => wpE W e S fun x S1 => ∃ sv, x = .f sv ∧ wpA W r S1 fun svs is S2 => Q (sv :: svs) (none :: is) S2
@[simp ↓] def wpI (W : Wv) : CI → SS → (List D → SS → Prop) → Prop
  | .it e, S, Q => wpE W e S fun r S1 => fzS S1 r fun d S2 => ∃ ds, itemsOf d = some ds ∧ Q ds S2
  | .rng1 a, S, Q => wpE W a S fun r1 S1 => rdS S1 r1 fun s1 => rngW1 s1.d fun xs => Q xs S1
  | .rng2 a b, S, Q => wpE W a S fun r1 S1 => wpE W b S1 fun r2 S2 => rdS S2 r1 fun s1 => rdS S2 r2 fun s2 => rngW2 s1.d s2.d fun xs => Q xs S2
  | .rng3 a b c, S, Q => wpE W a S fun r1 S1 => wpE W b S1 fun r2 S2 => wpE W c S2 fun r3 S3 => rdS S3 r1 fun s1 => rdS S3 r2 fun s2 => rdS S3 r3 fun s3 => rngW3 s1.d s2.d s3.d fun xs => Q xs S3
  | .enum e, S, Q => wpE W e S fun r S1 => fzS S1 r fun d S2 => ∃ ds, enumOf d = some ds ∧ Q (enumFr 0 ds) S2
  | .zip a b, S, Q => wpE W a S fun r1 S1 => fzS S1 r1 fun d1 S2 => wpE W b S2 fun r2 S3 => fzS S3 r2 fun d2 S4 =>
      ∃ xs ys, zipOf d1 d2 = some (xs, ys) ∧ Q (List.zipWith (fun x y => PyData.tuple [x, y]) xs ys) S4
@[simp ↓] def wpC (W : Wv) : CC → SS → (Bool → SS → Prop) → Prop
  | .e x, S, Q => wpE W x S fun r S1 => rdS S1 r fun s => trW s.d fun b => Q b S1
  | .not c, S, Q => wpC W c S fun b S1 => Q (!b) S1
  | .and cs, S, Q => wpCA W cs S Q
  | .or cs, S, Q => wpCO W cs S Q
  | .yes, S, Q => Q true S
@[simp ↓] def wpCA (W : Wv) : CCs → SS → (Bool → SS → Prop) → Prop
  | .nil, S, Q => False
  | .cons c .nil, S, Q => wpC W c S Q
  | .cons c cs, S, Q => wpC W c S fun b S1 => (b = true → wpCA W cs S1 Q) ∧ (b = false → Q false S1)
@[simp ↓] def wpCO (W : Wv) : CCs → SS → (Bool → SS → Prop) → Prop
  | .nil, S, Q => False
  | .cons c .nil, S, Q => wpC W c S Q
  | .cons c cs, S, Q => wpC W c S fun b S1 => (b = true → Q true S1) ∧ (b = false → wpCO W cs S1 Q)
@[simp ↓] def rdAll (S : SS) : List RV → (List SV → Prop) → Prop
  | [], Q => Q []
  | r :: rs, Q => rdS S r fun s => rdAll S rs fun ss => Q (s :: ss)
end

structure En where
  nx : SS → Prop
  rt : RV → SS → Prop
  bk : SS → Prop

def forW (tg : CT) (kill : List Nat) (bw : SS → En → Prop) : List D → SS → En → Prop
  | [], S, E => E.nx S
  | d :: ds, S, E => bindT tg d S fun S1 => bw S1 ⟨fun S2 => forW tg kill bw ds (killS S2 kill) E, E.rt, fun S2 => E.nx (killS S2 kill)⟩
def whlW (kill : List Nat) (cw : SS → (Bool → SS → Prop) → Prop) (bw : SS → En → Prop) : Nat → SS → En → Prop
  | 0, _, _ => False
  | n + 1, S, E => cw S fun b S1 => (b = true → bw S1 ⟨fun S2 => whlW kill cw bw n (killS S2 kill) E, E.rt, fun S2 => E.nx (killS S2 kill)⟩) ∧ (b = false → E.nx S1)
/-- a value stored -/
@[simp ↓] def setW (i : Nat) (r : RV) (S : SS) (Q : SS → Prop) : Prop :=
  match r with
  | .z d => Q (S.set i (some (.val d)))
  | .f sv => Q (S.set i (some sv))
  | .b _ => fzS S r fun d S1 => Q (S1.set i (some (.val d)))
/-- several values, stored at once: those that are held by slots are data from here on -/
@[simp ↓] def parW : List Nat → List RV → SS → (SS → Prop) → Prop
  | [], [], S, Q => Q S
  | i :: is, r :: rs, S, Q => match r with
    | .z d => parW is rs (S.set i (some (.val d))) Q
    | .f sv => parW is rs (S.set i (some sv)) Q
    | .b _ => False
  | _, _, _, _ => False
/-- slots' things are data -/
@[simp ↓] def wpP (W : Wv) : CEs → SS → (List RV → SS → Prop) → Prop
  | .nil, S, Q => Q [] S
  | .cons e es, S, Q => wpE W e S fun r S1 => match r with
    | .z d => wpP W es S1 fun rs S2 => Q (.z d :: rs) S2
    | .f sv => wpP W es S1 fun rs S2 => Q (.f sv :: rs) S2
    | .b i => fzS S1 (.b i) fun d S2 => wpP W es S2 fun rs S3 => Q (.z d :: rs) S3
@[simp ↓] def ixsW (r : RV) (k d : D) (S : SS) (Q : SS → Prop) : Prop :=
  match r with
  | .b i => match S[i]? with
    | some (some (.ls xs)) => match k with
      | .int n => ∃ j, ixN xs.length n = some j ∧ Q (S.set i (some (.ls (xs.set j d))))
      | _ => False
    | some (some (.dk kvs)) => ∃ q, dKey k = some q ∧ kvs.length < sizeLine ∧ Q (S.set i (some (.dk (putD kvs q d))))
    | some (some (.dt kvs)) => match k with
      | .tuple ks => ∃ q, dKeys ks = some q ∧ kvs.length < sizeLine ∧ Q (S.set i (some (.dt (putD kvs q d))))
      | _ => False
    | _ => False
  | _ => False
mutual
@[simp ↓] def wpS (W : Wv) : CS → SS → En → Prop
  | .set i e, S, E => wpE W e S fun r S1 => setW i r S1 E.nx
  | .setT t e, S, E => wpE W e S fun r S1 => fzS S1 r fun d S2 => bindT t d S2 E.nx
  | .par is es, S, E => wpP W es S fun rs S1 => parW is rs S1 E.nx
  | .ixs o k e, S, E => wpE W e S fun r S1 => fzS S1 r fun d S2 => wpE W o S2 fun ro S3 => wpE W k S3 fun rk S4 => fzS S4 rk fun dk S5 => ixsW ro dk d S5 E.nx
  | .ex e, S, E => wpE W e S fun _ S1 => E.nx S1
  | .ret e, S, E => wpE W e S E.rt
  | .retN, S, E => E.rt (.z .none) S
  | .iff c a b, S, E => wpC W c S fun k S1 => (k = true → wpB W a S1 E) ∧ (k = false → wpB W b S1 E)
  | .for_ src tg body kill, S, E => wpI W src S fun ds S1 => forW tg kill (hold (wpB W body) ⟨⟩) ds S1 (hold E ⟨⟩)
  | .whl c body kill, S, E => ∃ n, whlW kill (hold (wpC W c) ⟨⟩) (hold (wpB W body) ⟨⟩) n S (hold E ⟨⟩)
  | .brk, S, E => E.bk S
  | .pass, S, E => E.nx S
  | .raise k, S, E => W.xq k S
  | .dead, _, _ => False
@[simp ↓] def wpB (W : Wv) : CB → SS → En → Prop
  | .nil, S, E => E.nx S
  | .cons s b, S, E => wpS W s S ⟨fun S1 => wpB W b S1 E, E.rt, E.bk⟩
end

/-! ### defs -/
structure Fn where
  np : Nat
  ns : Nat
  io : List Bool
  fresh : Bool
  body : CB
abbrev Tb := Nat → Option Fn
@[simp ↓] def outsOf : List Bool → List SV → SS → Option (List SV)
  | [], [], _ => some []
  | false :: io, a :: as, _ :: S => (outsOf io as S).map (a :: ·)
  | true :: io, a :: as, some sv :: S => if sv.isRef && (sv.isOwn == a.isOwn) then (outsOf io as S).map (sv :: ·) else none
  | _, _, _ => none
@[simp ↓] def ioOk : List Bool → List SV → Bool
  | [], [] => true
  | io :: ios, a :: as => (io == a.isRef) && ioOk ios as
  | _, _ => false
/-- a def's end -/
@[simp ↓] def endW (fn : Fn) (args : List SV) (r : RV) (S : SS) (Q : RV → List SV → Prop) : Prop :=
  if fn.fresh then
    match r with
    | .f sv => ∃ outs, outsOf fn.io args S = some outs ∧ Q (.f sv) outs
    | .b i => ∃ sv, S[i]? = some (some sv) ∧ sv.isOwn = true ∧ fn.io.getD i false = false ∧ ∃ outs, outsOf fn.io args S = some outs ∧ Q (.f sv) outs
    | .z _ => False
  else fzS S r fun d S1 => ∃ outs, outsOf fn.io args S1 = some outs ∧ Q (.z d) outs
def callW (T : Tb) (gl : Nat → Option D) : Nat → Nat → List SV → (RV → List SV → Prop) → (Nat → List SV → Prop) → Prop
  | 0, _, _, _, _ => False
  | d + 1, k, args, Q, Xq => ∃ fn, T k = some fn ∧ args.length = fn.np ∧ ioOk fn.io args = true ∧
      wpB ⟨callW T gl d, gl, fun c S => ∃ outs, outsOf fn.io args S = some outs ∧ Xq c outs⟩ fn.body (args.map some ++ List.replicate (fn.ns - fn.np) none)
        ⟨fun S => endW fn args (.z .none) S Q, fun r S => endW fn args r S Q, fun _ => False⟩
end Fw

set_option Elab.async false
set_option linter.all false
set_option maxRecDepth 100000
set_option maxHeartbeats 4000000
/-! Fw, part C: the check that a code is the text's. -/
namespace Fw
open PySem PySem.Spec L2

/-- what the module's names are -/
structure Nm where
  fn : Nat → Option Str
  gl : Nat → Option Str

def isiNames : List String := ["int", "bool", "str", "list", "tuple", "dict"]
def visB (sc : Scope) (x : Str) : Bool := match sc.names.lookup x with
  | some .local => true
  | some .cell => true
  | some .free => true
  | _ => false
def locB (sc : Scope) (x : Str) : Bool := match sc.names.lookup x with
  | some .local => true
  | some .cell => true
  | _ => false
def islocB (sc : Scope) (x : Str) : Bool := match sc.names.lookup x with
  | some .local => true
  | _ => false
def glB (sc : Scope) (x : Str) : Bool := match sc.names.lookup x with
  | some .globalImplicit => true
  | _ => false
def dbgB (x : Str) : Bool := decide (x = ("__debug__" : Str)) || decide (x = ("__classdict__" : Str))
def ckVar (N : List Str) (sc : Scope) (i : Nat) (x : Str) : Bool := decide (N[i]? = some x) && visB sc x && !dbgB x
def ckGl (sc : Scope) (x : Str) : Bool := glB sc x && !dbgB x
def notStarB : Expr → Bool
  | .Starred _ _ => false
  | _ => true
def notSliceB : Expr → Bool
  | .Slice _ _ _ _ => false
  | .Starred _ _ => false
  | _ => true
def opB : BOp → Operator → Bool
  | .add, .Add => true
  | .sub, .Sub => true
  | .mul, .Mult => true
  | .fdiv, .FloorDiv => true
  | .mod, .Mod => true
  | .pow, .Pow => true
  | .shl, .LShift => true
  | .shr, .RShift => true
  | .band, .BitAnd => true
  | .bor, .BitOr => true
  | .bxor, .BitXor => true
  | _, _ => false
def copB : COp → CmpOp → Bool
  | .eq, .Eq => true
  | .ne, .NotEq => true
  | .lt, .Lt => true
  | .le, .LtE => true
  | .gt, .Gt => true
  | .ge, .GtE => true
  | .isin, .In => true
  | .notin, .NotIn => true
  | .isN, .Is => true
  | .notN, .IsNot => true
  | _, _ => false
/-- a built-in function's or class's name, by how many arguments -/
def biName : Bi → Str
  | .abs => "abs"
  | .int => "int"
  | .len => "len"
  | .min2 => "min"
  | .max2 => "max"
  | .min1 => "min"
  | .max1 => "max"
  | .sum => "sum"
  | .sumL => "sum"
  | .all => "all"
  | .any => "any"
  | .sorted => "sorted"
  | .repr => "repr"
  | .str => "str"
  | .sset => "sorted"
  | .lset => "len"
  | .lst => "list"
  | .tup => "tuple"
def biOk : Bi → Bool
  | .repr => false
  | .str => false
  | .sset => false
  | .lset => false
  | _ => true
/-- a built-in of set(..) -/
def setOk : Bi → Bool
  | .lset => true
  | _ => false
def meOk : Me → Bool
  | .append => true
  | .extend => true
  | .pop => true
  | .popAt => true
  | .index => true
  | .count => true
  | .lcount => true
  | .get => true
  | .getOr => true
  | _ => false
def popB : Me → Bool
  | .pop => true
  | _ => false
def meName : Me → Str
  | .append => "append"
  | .extend => "extend"
  | .pop => "pop"
  | .popAt => "pop"
  | .index => "index"
  | .count => "count"
  | .lcount => "count"
  | .get => "get"
  | .getOr => "get"
  | .join => "join"
  | .split => "split"
  | .update => "update"
mutual
/-- a target -/
def ckT (N : List Str) (fx : List Nat) (sc : Scope) : CT → Expr → Bool
  | .v i, e => match e with
    | .Name x _ => decide (N[i]? = some x) && locB sc x && !fx.contains i
    | _ => false
  | .t ts, e => match e with
    | .Tuple es _ _ => ckTs N fx sc ts es
    | _ => false
def ckTs (N : List Str) (fx : List Nat) (sc : Scope) : List CT → List Expr → Bool
  | [], es => match es with
    | [] => true
    | _ => false
  | t :: ts, es => match es with
    | e :: es => notStarB e && ckT N fx sc t e && ckTs N fx sc ts es
    | _ => false
end
def notCallB : Expr → Bool
  | .Call _ _ _ _ => false
  | .Starred _ _ => false
  | _ => true
def notSetB : Expr → Bool
  | .Set _ _ _ => false
  | _ => true
/-- no and, or, not, if-else: its truth is its value's (a comparison's too) -/
def plainTestB : Expr → Bool
  | .BoolOp _ _ _ => false
  | .UnaryOp .Not _ _ => false
  | .IfExp _ _ _ _ => false
  | _ => true
def isYesB : CC → Bool
  | .yes => true
  | _ => false
mutual
/-- the target's slots are the block's own -/
def tgInB (own : List Nat) : CT → Bool
  | .v i => own.contains i
  | .t ts => tgInsB own ts
def tgInsB (own : List Nat) : List CT → Bool
  | [] => true
  | t :: ts => tgInB own t && tgInsB own ts
end
/-- pairs go to several names -/
def tgtShapeB : CI → Expr → Bool
  | .it _, _ => true
  | .rng1 _, _ => true
  | .rng2 _ _, _ => true
  | .rng3 _ _ _, _ => true
  | .enum _, .Tuple _ _ _ => true
  | .zip _ _, .Tuple _ _ _ => true
  | _, _ => false
def rngB : CI → Bool
  | .rng1 _ => true
  | .rng2 _ _ => true
  | _ => false
def rngTB : CI → Bool
  | .rng1 _ => true
  | .rng2 _ _ => true
  | .rng3 _ _ _ => true
  | _ => false
def ownOf (N : List Str) (own : List Nat) : List (Str × Nat) := own.filterMap fun i => (N[i]?).map fun x => (x, i)
mutual
def ckE (M : Nm) (N : List Str) : Scope → CE → Expr → Bool
  | sc, .var i, e => match e with
    | .Name x _ => ckVar N sc i x
    | _ => false
  | _, .int i, e => match e with
    | .Constant (.int j) _ _ => decide (i = j)
    | _ => false
  | _, .bl i, e => match e with
    | .Constant (.bool j) _ _ => i == j
    | _ => false
  | _, .non, e => match e with
    | .Constant .none _ _ => true
    | _ => false
  | _, .str i, e => match e with
    | .Constant (.str j) _ _ => decide (i = j)
    | _ => false
  | sc, .gl k, e => match e with
    | .Name x _ => decide (M.gl k = some x) && ckGl sc x
    | _ => false
  | sc, .tup cs, e => match e with
    | .Tuple es _ _ => ckEs M N sc cs es
    | _ => false
  | sc, .lst cs, e => match e with
    | .List es _ => ckEs M N sc cs es
    | _ => false
  | _, .dK0, e => match e with
    | .Dict [] [] _ => true
    | _ => false
  | _, .dT0, e => match e with
    | .Dict [] [] _ => true
    | _ => false
  | _, .dik _ _, _ => false
  | sc, .bin op a b, e => match e with
    | .BinOp x o y _ => opB op o && ckE M N sc a x && ckE M N sc b y
    | _ => false
  | sc, .neg a, e => match e with
    | .UnaryOp .USub x _ => ckE M N sc a x
    | _ => false
  | sc, .cmp op a b, e => match e with
    | .Compare x [o] [y] _ => copB op o && !behindInMarks o y && ckE M N sc a x && ckE M N sc b y
    | _ => false
  | sc, .cmp2 o1 o2 a b c, e => match e with
    | .Compare x [p1, p2] [y, z] _ => copB o1 p1 && copB o2 p2 && !lastMarks [p1, p2] [y, z] && ckE M N sc a x && ckE M N sc b y && ckE M N sc c z
    | _ => false
  | sc, .and cs, e => match e with
    | .BoolOp .And es _ => ckEs M N sc cs es
    | _ => false
  | sc, .or cs, e => match e with
    | .BoolOp .Or es _ => ckEs M N sc cs es
    | _ => false
  | sc, .not a, e => match e with
    | .UnaryOp .Not x _ => ckE M N sc a x
    | _ => false
  | sc, .ife c a b, e => match e with
    | .IfExp t x y _ => ckC M N sc c t && ckE M N sc a x && ckE M N sc b y
    | _ => false
  | sc, .ix a b, e => match e with
    | .Subscript x y _ => notSliceB y && ckE M N sc a x && ckE M N sc b y
    | _ => false
  | sc, .sl a lo hi, e => match e with
    | .Subscript x (.Slice l h none _) _ => ckE M N sc a x && ckO M N sc lo l && ckO M N sc hi h
    | _ => false
  | sc, .rev a, e => match e with
    | .Subscript x (.Slice none none (some (.UnaryOp .USub (.Constant (.int 1) _ _) _)) _) _ => ckE M N sc a x
    | _ => false
  | sc, .call k as, e => match e with
    | .Call (.Name x _) es [] _ => decide (M.fn k = some x) && ckGl sc x && ckA M N sc as es && !es.isEmpty
    | _ => false
  | sc, .bi f cs, e => match e with
    | .Call (.Name x _) es [] _ => if setOk f then (match es with
        | [.Call (.Name y _) es2 [] _] => decide (biName f = x) && ckGl sc x && decide (y = ("set" : Str)) && ckGl sc y && ckEs M N sc cs es2 && decide (es2.length = 1)
        | _ => false) else biOk f && decide (biName f = x) && ckGl sc x && ckEs M N sc cs es && !es.isEmpty
    | _ => false
  | sc, .me m o cs, e => match e with
    | .Call (.Attribute p x apos) es [] cpos => decide (meName m = x) && (apos.endLine == cpos.line) && decide (es.length < 20) && notCallB p && meOk m && (es.isEmpty == popB m) && ckE M N sc o p && ckEs M N sc cs es
    | _ => false
  | sc, .isi t a, e => match e with
    | .Call (.Name x _) [p, .Name y _] [] _ => decide (x = ("isinstance" : Str)) && ckGl sc x && decide (y = Str.ofString t) && isiNames.contains t && ckGl sc y && notStarB p && ckE M N sc a p
    | _ => false
  | sc, .lstI src, e => match e with
    | .Call (.Name x _) [p] [] _ => decide (x = ("list" : Str)) && ckGl sc x && notStarB p && rngB src && ckI M N sc src p
    | _ => false
  | sc, .tupI src, e => match e with
    | .Call (.Name x _) [p] [] _ => decide (x = ("tuple" : Str)) && ckGl sc x && notStarB p && rngTB src && ckI M N sc src p
    | _ => false
  | sc, .comp src tg cond elt own, e => match e with
    | .ListComp el [⟨tge, it, ifs, 0⟩] scope _ => ckI M N sc src it && notSetB it && blkC N sc scope (ownOf N own) && decide ((ownOf N own).map (·.2) = own) && ckT N [] scope tg tge && tgInB own tg &&
        (match ifs with
          | [] => isYesB cond
          | [e] => ckC M N (relS scope sc) cond e
          | _ => false) && ckE M N (relS scope sc) elt el && tgtShapeB src tge
    | _ => false
def ckEs (M : Nm) (N : List Str) : Scope → CEs → List Expr → Bool
  | _, .nil, es => match es with
    | [] => true
    | _ => false
  | sc, .cons c cs, es => match es with
    | e :: es => notStarB e && ckE M N sc c e && ckEs M N sc cs es
    | _ => false
def ckO (M : Nm) (N : List Str) : Scope → CO → Option Expr → Bool
  | _, .none, e => match e with
    | none => true
    | _ => false
  | sc, .some c, e => match e with
    | some e => ckE M N sc c e
    | _ => false
def ckA (M : Nm) (N : List Str) : Scope → CAs → List Expr → Bool
  | _, .nil, es => match es with
    | [] => true
    | _ => false
  | sc, .v c r, es => match es with
    | e :: es => notStarB e && ckE M N sc c e && ckA M N sc r es
    | _ => false
  | sc, .t c r, es => match es with
    | e :: es => notStarB e && ckE M N sc c e && ckA M N sc r es
    | _ => false
  | sc, .s i r, es => match es with
    | .Name x _ :: es => ckVar N sc i x && ckA M N sc r es
    | _ => false
def ckI (M : Nm) (N : List Str) : Scope → CI → Expr → Bool
  | sc, .it c, e => ckE M N sc c e
  | sc, .rng1 a, e => match e with
    | .Call (.Name x _) [p] [] _ => decide (x = ("range" : Str)) && ckGl sc x && notStarB p && ckE M N sc a p
    | _ => false
  | sc, .rng2 a b, e => match e with
    | .Call (.Name x _) [p, q] [] _ => decide (x = ("range" : Str)) && ckGl sc x && notStarB p && notStarB q && ckE M N sc a p && ckE M N sc b q
    | _ => false
  | sc, .rng3 a b c, e => match e with
    | .Call (.Name x _) [p, q, r] [] _ => decide (x = ("range" : Str)) && ckGl sc x && notStarB p && notStarB q && notStarB r && ckE M N sc a p && ckE M N sc b q && ckE M N sc c r
    | _ => false
  | sc, .enum c, e => match e with
    | .Call (.Name x _) [p] [] _ => decide (x = ("enumerate" : Str)) && ckGl sc x && notStarB p && ckE M N sc c p
    | _ => false
  | sc, .zip a b, e => match e with
    | .Call (.Name x _) [p, q] [] _ => decide (x = ("zip" : Str)) && ckGl sc x && notStarB p && notStarB q && ckE M N sc a p && ckE M N sc b q
    | _ => false
def ckC (M : Nm) (N : List Str) : Scope → CC → Expr → Bool
  | sc, .e c, e => plainTestB e && ckE M N sc c e
  | sc, .not c, e => match e with
    | .UnaryOp .Not x _ => ckC M N sc c x
    | _ => false
  | sc, .and cs, e => match e with
    | .BoolOp .And es _ => ckCs M N sc cs es
    | _ => false
  | sc, .or cs, e => match e with
    | .BoolOp .Or es _ => ckCs M N sc cs es
    | _ => false
  | _, .yes, _ => false
def ckCs (M : Nm) (N : List Str) : Scope → CCs → List Expr → Bool
  | _, .nil, es => match es with
    | [] => true
    | _ => false
  | sc, .cons c cs, es => match es with
    | e :: es => ckC M N sc c e && ckCs M N sc cs es
    | _ => false
end
/-- a clause's tests: none, or one -/
def ckIfs (M : Nm) (N : List Str) (sc : Scope) (c : CC) (es : List Expr) : Bool := match es with
  | [] => isYesB c
  | [e] => ckC M N sc c e
  | _ => false
end Fw

set_option Elab.async false
set_option linter.all false
set_option maxRecDepth 100000
set_option maxHeartbeats 4000000
/-! Fw, part D: reading, freezing, the base of a def's run, what a node's reading is. -/
namespace Fw
open PySem PySem.Spec L2

section
variable {K : PySem.W.Frag} {S S' : SS} {σ : L2.St} {Z H Z' H' Z0 H0 : Hp} {r : RV} {v : V} {i : Nat} {sv : SV} {d : D} {ds : List D}
theorem upd_sub {a : Addr} {o : HO} (h : Z a = none) : Sub Z (upd Z a o) := fun b u e => by rw [upd_ne (ne_of_none e h)]; exact e
theorem SlR.mono (h : SlR K Z H v sv) (e : Sub Z Z') (k : ∀ a o, v = .ref a → sv.isOwn = true → H a = some o → H' a = some o) (n : ∀ a, v = .ref a → sv.isOwn = true → Z a = none → Z' a = none) : SlR K Z' H' v sv := by
  cases sv with
  | val d => exact Rp.mono e h
  | ro ds => obtain ⟨a, xs, h1, h2, h3⟩ := h; exact ⟨a, xs, h1, e.sqL h2, h3.mono e⟩
  | ls ds => obtain ⟨a, h1, h2, h3⟩ := h; exact ⟨a, h1, n a h1 rfl h2, h3.mono e fun o q => k a o h1 rfl q⟩
  | dk ds => obtain ⟨a, h1, h2, h3⟩ := h; exact ⟨a, h1, n a h1 rfl h2, h3.mono e fun o q => k a o h1 rfl q⟩
  | dt ds => obtain ⟨a, h1, h2, h3⟩ := h; exact ⟨a, h1, n a h1 rfl h2, h3.mono e fun o q => k a o h1 rfl q⟩
theorem rdX_out {P : SV → Prop} (h : rdX S r P) (rl : Rl K Z S σ H) (rv : RvR K Z H S σ r v) : ∃ sv, P sv ∧ SlR K Z H v sv := by
  cases r with
  | z d => exact ⟨_, h, rv⟩
  | f sv =>
    obtain ⟨a, rfl, h1, h2, h3⟩ := rv
    exact ⟨_, h, SlR.mk h1 h2⟩
  | b i =>
    obtain ⟨sv, h1, h2⟩ := rv
    have h' : (match S[i]? with | some (some sv) => P sv | _ => False) := h
    rw [h1] at h'
    exact ⟨sv, h', rl.slot h1 h2⟩
theorem rdS_out {P : SV → Prop} (h : rdS S r P) (rl : Rl K Z S σ H) (rv : RvR K Z H S σ r v) : ∃ sv, P sv ∧ SlR K Z H v sv ∧ sv.isRo = false := by
  cases r with
  | z d => exact ⟨_, h, rv, rfl⟩
  | f sv =>
    obtain ⟨a, rfl, h1, h2, h3⟩ := rv
    exact ⟨_, h, SlR.mk h1 h2, by cases sv <;> first | rfl | exact False.elim h2⟩
  | b i =>
    obtain ⟨sv, h1, h2⟩ := rv
    have h' : (match S[i]? with | some (some (.ro _)) => False | some (some sv) => P sv | _ => False) := h
    rw [h1] at h'
    cases sv with
    | ro d => exact False.elim h'
    | _ => exact ⟨_, h', rl.slot h1 h2, rfl⟩
theorem SlR.rp (h : SlR K Z H v sv) (e : Sub Z H) (n : sv.isRo = false) : Rp K H v sv.d := by
  cases sv with
  | val d => exact Rp.mono e h
  | ro ds => cases n
  | ls ds => obtain ⟨a, rfl, h2, h3⟩ := h; exact h3.frozen e rfl
  | dk ds => obtain ⟨a, rfl, h2, h3⟩ := h; exact h3.frozen e rfl
  | dt ds => obtain ⟨a, rfl, h2, h3⟩ := h; exact h3.frozen e rfl
theorem SlR.lst (h : SlR K Z H v sv) (e : Sub Z H) (n : sv.isRo = false) (k : sv.d = .list ds) : ∃ a xs, v = .ref a ∧ H a = some (.lst xs) ∧ RpA K Z xs ds := by
  cases sv with
  | val d =>
    have k' : d = .list ds := k
    subst k'
    cases h with
    | lst h1 h2 => exact ⟨_, _, rfl, e _ _ h1, h2⟩
  | ro ds => cases n
  | ls ds' =>
    obtain ⟨a, rfl, h2, xs, h3, h4⟩ := h
    have k' : ds' = ds := PyData.list.inj k
    subst k'
    exact ⟨a, xs, rfl, h3, h4⟩
  | dk ds => cases k
  | dt ds => cases k
theorem SlR.lstX (h : SlR K Z H v sv) (e : Sub Z H) (k : sv.d = .list ds) : ∃ a xs, v = .ref a ∧ SqL K H a xs ∧ RpA K Z xs ds := by
  cases sv with
  | ro ds' =>
    obtain ⟨a, xs, rfl, h2, h3⟩ := h
    have k' : ds' = ds := PyData.list.inj k
    subst k'
    exact ⟨a, xs, rfl, e.sqL h2, h3⟩
  | val d => obtain ⟨a, xs, h1, h2, h3⟩ := SlR.lst h e rfl k; exact ⟨a, xs, h1, SqL.of h2, h3⟩
  | ls d => obtain ⟨a, xs, h1, h2, h3⟩ := SlR.lst h e rfl k; exact ⟨a, xs, h1, SqL.of h2, h3⟩
  | dk ds => cases k
  | dt ds => cases k
theorem SlR.tup (h : SlR K Z H v sv) (e : Sub Z H) (k : sv.d = .tuple ds) : ∃ a xs, v = .ref a ∧ H a = some (.tup xs) ∧ RpA K Z xs ds := by
  cases sv with
  | val d =>
    have k' : d = .tuple ds := k
    subst k'
    cases h with
    | tup h1 h2 => exact ⟨_, _, rfl, e _ _ h1, h2⟩
  | _ => cases k
theorem SlR.int {i : Int} (h : SlR K Z H v sv) (k : sv.d = .int i) : v = .int i := by
  cases sv with
  | val d =>
    have k' : d = .int i := k
    subst k'
    cases h
    rfl
  | _ => cases k
theorem SlR.bl {i : Bool} (h : SlR K Z H v sv) (k : sv.d = .bool i) : v = .bl i := by
  cases sv with
  | val d =>
    have k' : d = .bool i := k
    subst k'
    cases h
    rfl
  | _ => cases k
theorem SlR.str {i : Str} (h : SlR K Z H v sv) (k : sv.d = .str i) : v = .str i := by
  cases sv with
  | val d =>
    have k' : d = .str i := k
    subst k'
    cases h
    rfl
  | _ => cases k
theorem SlR.non (h : SlR K Z H v sv) (k : sv.d = .none) : v = .non := by
  cases sv with
  | val d =>
    have k' : d = .none := k
    subst k'
    cases h
    rfl
  | _ => cases k

/-- slots that become data: the state holds at a greater Z -/
theorem Rl.grow (rl : Rl K Z S σ H) {a : Addr} {o : HO} (ha : H a = some o) (hz : Z a = none) (no : ¬ OwnA S σ a) : Rl K (upd Z a o) S σ H where
  sub := fun b u e => by
    by_cases hb : b = a
    · subst hb; rw [upd_same] at e; cases e; exact ha
    · rw [upd_ne hb] at e; exact rl.sub b u e
  len := rl.len
  at' := fun i sv e => by
    obtain ⟨w, h1, h2⟩ := rl.at' i sv e
    refine ⟨w, h1, h2.mono (upd_sub hz) (fun _ _ _ _ q => q) fun b hb hown hn => ?_⟩
    rw [upd_ne ?_]
    · exact hn
    · rintro rfl
      exact no ⟨i, sv, e, hown, by rw [h1, hb]⟩
  sep := rl.sep
/-- slot i's content replaced by data -/
theorem Rl.toVal (rl : Rl K Z S σ H) {v : V} (k : σ[i]? = some (some v)) (r : Rp K Z v d) : Rl K Z (S.set i (some (.val d))) σ H where
  sub := rl.sub
  len := by rw [List.length_set]; exact rl.len
  at' := fun j sv e => by
    by_cases hj : j = i
    · subst hj
      rw [List.getElem?_set_self' ] at e
      cases q : S[j]? with
      | none => rw [q] at e; cases e
      | some u => rw [q] at e; cases e; exact ⟨v, k, r⟩
    · rw [List.getElem?_set_ne (Ne.symm hj)] at e
      exact rl.at' j sv e
  sep := fun j l sj sl a e1 o1 e2 o2 => by
    have f : ∀ {m : Nat} {s : SV}, (S.set i (some (.val d)))[m]? = some (some s) → s.isOwn = true → S[m]? = some (some s) := fun {m s} e o => by
      by_cases hm : m = i
      · subst hm
        rw [List.getElem?_set_self'] at e
        cases q : S[m]? with
        | none => rw [q] at e; cases e
        | some u => rw [q] at e; cases e; cases o
      · rw [List.getElem?_set_ne (Ne.symm hm)] at e
        exact e
    exact rl.sep j l sj sl a (f e1 o1) o1 (f e2 o2) o2
theorem OwnA.ofVal {a : Addr} (h : OwnA (S.set i (some (.val d))) σ a) : OwnA S σ a ∧ σ[i]? ≠ some (some (.ref a)) ∨ (OwnA S σ a ∧ ∃ j, j ≠ i ∧ ∃ sv, S[j]? = some (some sv) ∧ sv.isOwn = true ∧ σ[j]? = some (some (.ref a))) := by
  obtain ⟨j, sv, e, o, k⟩ := h
  by_cases hj : j = i
  · subst hj
    rw [List.getElem?_set_self'] at e
    cases q : S[j]? with
    | none => rw [q] at e; cases e
    | some u => rw [q] at e; cases e; cases o
  · rw [List.getElem?_set_ne (Ne.symm hj)] at e
    exact .inr ⟨⟨j, sv, e, o, k⟩, j, hj, sv, e, o, k⟩
theorem OwnA.ofSetVal {a : Addr} (h : OwnA (S.set i (some (.val d))) σ a) : OwnA S σ a := by
  rcases h.ofVal with h | h
  · exact h.1
  · exact h.1
theorem kp_set (S : SS) (i : Nat) (x : SV) : ∀ (j : Nat) sv, S[j]? = some (some sv) → ∃ sv', (S.set i (some x))[j]? = some (some sv') := fun j sv e => by
  by_cases hj : j = i
  · subst hj
    refine ⟨x, ?_⟩
    rw [List.getElem?_set_self', e]
    rfl
  · exact ⟨sv, by rw [List.getElem?_set_ne (Ne.symm hj)]; exact e⟩

/-- a slot's own object becomes data -/
theorem Rl.freeze (rl : Rl K Z S σ H) {a : Addr} {o : HO} (h1 : S[i]? = some (some sv)) (ho : sv.isOwn = true) (h2 : σ[i]? = some (some (.ref a))) (ha : H a = some o) (hz : Z a = none) (rp : Rp K (upd Z a o) (.ref a) sv.d) :
    Rl K (upd Z a o) (S.set i (some (.val sv.d))) σ H := by
  have f : ∀ {m : Nat} {s : SV}, (S.set i (some (.val sv.d)))[m]? = some (some s) → s.isOwn = true → S[m]? = some (some s) ∧ m ≠ i := fun {m s} e o => by
    by_cases hm : m = i
    · subst hm
      rw [List.getElem?_set_self', h1] at e
      cases e; cases o
    · rw [List.getElem?_set_ne (Ne.symm hm)] at e
      exact ⟨e, hm⟩
  refine ⟨fun b u e => ?_, by rw [List.length_set]; exact rl.len, fun j sj e => ?_, fun j l sj sl b e1 o1 e2 o2 => rl.sep j l sj sl b (f e1 o1).1 o1 (f e2 o2).1 o2⟩
  · by_cases hb : b = a
    · subst hb; rw [upd_same] at e; cases e; exact ha
    · rw [upd_ne hb] at e; exact rl.sub b u e
  · by_cases hj : j = i
    · subst hj
      rw [List.getElem?_set_self', h1] at e
      cases e
      exact ⟨.ref a, h2, rp⟩
    · have e' := e
      rw [List.getElem?_set_ne (Ne.symm hj)] at e
      obtain ⟨w, k1, k2⟩ := rl.at' j sj e
      refine ⟨w, k1, k2.mono (upd_sub hz) (fun _ _ _ _ q => q) fun b hb hown hn => ?_⟩
      rw [upd_ne ?_]
      · exact hn
      · rintro rfl
        exact hj (rl.sep j i sj sv b e hown h1 ho (by rw [k1, hb]) h2)

/-- frozen: from the start (S0, Z0, H0) on -/
theorem fzS_out {P : D → SS → Prop} {S0 : SS} (h : fzS S r P) (st : Ste K S0 σ Z0 H0 S Z H) (rv : RvR K Z H S σ r v) (fr : Fr0 H0 r v) :
    ∃ d S' Z', P d S' ∧ Ste K S0 σ Z0 H0 S' Z' H ∧ Rp K Z' v d := by
  have rl := st.rl
  cases r with
  | z d => exact ⟨d, S, Z, h, st, rv⟩
  | f sv =>
    obtain ⟨a, rfl, h1, h2, h3⟩ := rv
    obtain ⟨o, ho⟩ := h2.there
    have hf : H0 a = none := fr a rfl
    refine ⟨sv.d, S, upd Z a o, h, ⟨rl.grow ho h1 h3, ⟨st.ex.zz.trans (upd_sub h1), st.ex.hh, fun b u e => ?_, st.ex.th⟩, st.ow, st.kp⟩, h2.frozen (upd_sub h1) (by rw [upd_same, ho])⟩
    by_cases hb : b = a
    · subst hb; exact .inr (.inl (.inl hf))
    · rw [upd_ne hb] at e; exact st.ex.zn b u e
  | b i =>
    obtain ⟨sv, h1, h2⟩ := rv
    have h' : (match S[i]? with | some (some (.ro _)) => False | some (some sv) => P sv.d (S.set i (some (.val sv.d))) | _ => False) := h
    rw [h1] at h'
    have own : sv.isOwn = true → P sv.d (S.set i (some (.val sv.d))) → ∃ d S' Z', P d S' ∧ Ste K S0 σ Z0 H0 S' Z' H ∧ Rp K Z' v d := fun ho hp => by
      obtain ⟨a, k1, k2, k3, k4⟩ := rl.own h1 ho
      rw [h2] at k1
      have hv : v = .ref a := by cases k1; rfl
      subst hv
      obtain ⟨o, ha⟩ := k3.there
      have rp : Rp K (upd Z a o) (.ref a) sv.d := k3.frozen (upd_sub k2) (by rw [upd_same, ha])
      have noA : ¬ OwnA (S.set i (some (.val sv.d))) σ a := fun z => by
        rcases z.ofVal with ⟨_, z⟩ | ⟨_, j, hj, sj, e1, e2, e3⟩
        · exact z h2
        · exact hj (rl.sep j i sj sv a e1 e2 h1 ho e3 h2)
      refine ⟨sv.d, _, upd Z a o, hp, ⟨rl.freeze h1 ho h2 ha k2 rp, ⟨st.ex.zz.trans (upd_sub k2), st.ex.hh, fun b u e => ?_, st.ex.th⟩, fun b hb => st.ow b hb.ofSetVal, fun j sj e => ?_⟩, rp⟩
      · by_cases hb : b = a
        · subst hb; exact .inr (.inr (st.ow _ k4))
        · rw [upd_ne hb] at e; exact st.ex.zn b u e
      · obtain ⟨s1, e1⟩ := st.kp j sj e
        exact kp_set S i _ j s1 e1
    cases sv with
    | ro d => exact False.elim h'
    | val d =>
      have rp : Rp K Z v d := by have q := rl.slot h1 h2; exact q
      refine ⟨d, _, Z, h', ⟨rl.toVal h2 rp, st.ex, fun b hb => st.ow b hb.ofSetVal, fun j sj e => ?_⟩, rp⟩
      obtain ⟨s1, e1⟩ := st.kp j sj e
      exact kp_set S i _ j s1 e1
    | ls ds => exact own rfl h'
    | dk ds => exact own rfl h'
    | dt ds => exact own rfl h'

/-! ### the base of a def's run -/
structure Bs where
  Z : Hp
  H : Hp
  O : Addr → Prop
  fx : Nat → Prop
  σ : L2.St
structure BaseOk (B : Bs) (Z : Hp) (S : SS) (σ : L2.St) (H : Hp) : Prop where
  ex : Ex B.O B.Z B.H Z H
  ow : ∀ a, OwnA S σ a → B.O a ∨ B.H a = none
  fx : ∀ i, B.fx i → σ[i]? = B.σ[i]?
theorem BaseOk.ste {B : Bs} (b : BaseOk B Z S σ H) (x : Ste K S σ Z H S' Z' H') : BaseOk B Z' S' σ H' :=
  ⟨b.ex.trans x.ex b.ow, fun a h => b.ow a (x.ow a h), b.fx⟩
theorem BaseOk.self {S : SS} {σ : L2.St} {Z H : Hp} : BaseOk ⟨Z, H, OwnA S σ, fun _ => False, σ⟩ Z S σ H := ⟨.refl, fun _ h => .inl h, fun _ h => h.elim⟩
end

/-- what is wanted of an exception: a state from which class c leaves -/
def Wx (K : PySem.W.Frag) (B : Bs) (cl : Nat → Option Value) (xq : Nat → SS → Prop) : WX := fun cls _ σ H => ∃ c S Z, cl c = some cls ∧ Rl K Z S σ H ∧ BaseOk B Z S σ H ∧ xq c S

/-- a node's run from a state -/
def Go (K : PySem.W.Frag) (B : Bs) {α : Type} (w : SS → (α → SS → Prop) → Prop) (σ : L2.St) (H : Hp) (P : α → SS → Hp → Hp → Hp → Prop) : Prop :=
  ∃ S Z Ψ, Rl K Z S σ H ∧ BaseOk B Z S σ H ∧ w S Ψ ∧ ∀ r S' Z' H', Ψ r S' → Ste K S σ Z H S' Z' H' → P r S' Z' H' H
end Fw

set_option Elab.async false
set_option linter.all false
set_option maxRecDepth 100000
set_option maxHeartbeats 4000000
/-! Fw, part Dt: a tuple times 1. -/
namespace Fw
open PySem PySem.Spec L2 PyProof.Rows
open AutoSeq1 (wpAny_loadPart')
theorem tuple_mul1 (l : Addr) (items : Array Value) (n : Nat) (dd : Option Addr) (sl : Array (Option Value)) (u : Tok) :
    Meets (Builtin.«tuple.__mul__» ⟨[.ref l, .int 1 u], []⟩) (fun _ R s => s.heap.get? l = some { cls := .type "tuple", dict := dd, data := .seq items n, slots := sl } ∧ R (.ok (.ret (.ref l))) s) :=
  .of_wp fun prog w A R ⟨hp, g, d, tk, os⟩ ⟨hl, h⟩ => by
    have f1 := AutoSeq1.idx_int
    have f2 : (items.isEmpty || ((1 : Int) == 1)) = true := by simp
    wp_walk using wpAny_loadPart' hl
    exact ⟨_, rfl, h⟩
section
variable {X : Cx}
theorem op_rep1 : OpR X (binaryOp .Mult) (fun x y H Q => ∃ l xs, x = .ref l ∧ y = .int 1 ∧ SqT X.K H l xs ∧ Q (.ref l) H) := by
  intro pins s σ H x y v u Q I rx ry ⟨l, xs, ex, ey, hT, q⟩
  subst ex ey
  cases rx
  obtain ⟨t, rfl⟩ := ry
  obtain ⟨its, r, ⟨⟨cls, dd, data, sl⟩, ho, hc, n, hd⟩, hs⟩ := I.tuple hT
  simp only at hc hd
  subst hc hd
  exact wpAny_binaryOp_repeat_ref (T := "tuple") (U := "int") (by decide) ⟨_, ho, rfl⟩ (fun s' => typeIs_int s' 1 t) noFill_tuple_mul F.fills_int_mul F.slot_int_rmul repeat_tuple F.slot_int_index.lookup
    (call_meets F.slot_int_rmul (typeIs_int s 1 t) F.entry_int_rmul (F.args_int_rmul_2 _ _) (int_rmul_tuple 1 t l its.toArray n dd sl)
      ⟨ho, rfl, ⟨_, ho, rfl⟩, call_meets F.slot_tuple_mul ⟨_, ho, rfl⟩ F.entry_tuple_mul (F.args_tuple_mul_2 _ _) (tuple_mul1 l its.toArray n dd sl t) ⟨ho, ⟨.ref l, H, I, rfl, q⟩⟩⟩)
end
end Fw

set_option Elab.async false
set_option linter.all false
set_option maxRecDepth 100000
set_option maxHeartbeats 4000000
/-! Fw, part E: operators, by values. -/
namespace Fw
open PySem PySem.Spec L2

/-- what a value-level step gives: data that stands, a new object, a new tuple -/
inductive NewR (K : PySem.W.Frag) (Z H : Hp) : RV → V → Hp → Hp → Prop
  | same {d : D} {v : V} : Rp K Z v d → NewR K Z H (.z d) v Z H
  | obj {p : Addr} {o : HO} {sv : SV} : H p = none → OwnAt K Z (upd H p o) p sv → NewR K Z H (.f sv) (.ref p) Z (upd H p o)
  | tup {p : Addr} {xs : List V} {ds : List D} : H p = none → RpA K Z xs ds → NewR K Z H (.z (.tuple ds)) (.ref p) (upd Z p (.tup xs)) (upd H p (.tup xs))

section
variable {K : PySem.W.Frag} {S S0 : SS} {σ : L2.St} {Z H Z' H' Z0 H0 : Hp} {r : RV} {v : V}
theorem Sub.none (e : Sub Z H) {p : Addr} (h : H p = none) : Z p = none := by
  cases q : Z p with
  | none => rfl
  | some o => rw [e p o q] at h; cases h
theorem own_in (rl : Rl K Z S σ H) {a : Addr} (h : OwnA S σ a) : ∃ o, H a = some o := by
  obtain ⟨i, sv, e, o, k⟩ := h
  obtain ⟨b, k1, k2, k3, _⟩ := rl.own e o
  rw [k] at k1; cases k1
  exact k3.there
/-- H grows by a new object -/
theorem Rl.more (rl : Rl K Z S σ H) {p : Addr} {o : HO} (h : H p = none) : Rl K Z S σ (upd H p o) where
  sub := fun b u e => by rw [upd_ne (ne_of_none (rl.sub b u e) h)]; exact rl.sub b u e
  len := rl.len
  at' := fun i sv e => by
    obtain ⟨w, h1, h2⟩ := rl.at' i sv e
    exact ⟨w, h1, h2.mono (Sub.refl _) (fun a u _ _ q => by rw [upd_ne (ne_of_none q h)]; exact q) fun _ _ _ q => q⟩
  sep := rl.sep
theorem Ste.more (st : Ste K S0 σ Z0 H0 S Z H) {p : Addr} {o : HO} (h : H p = none) : Ste K S0 σ Z0 H0 S Z (upd H p o) :=
  ⟨st.rl.more h, ⟨st.ex.zz, fun a u e n => by rw [upd_ne (ne_of_none (st.ex.hh a u e n) h)]; exact st.ex.hh a u e n, st.ex.zn, fun a u e => by
    obtain ⟨u', e'⟩ := st.ex.th a u e
    exact ⟨u', by rw [upd_ne (ne_of_none e' h)]; exact e'⟩⟩, st.ow, st.kp⟩
theorem NewR.ste (n : NewR K Z H r v Z' H') (st : Ste K S0 σ Z0 H0 S Z H) : Ste K S0 σ Z0 H0 S Z' H' ∧ RvR K Z' H' S σ r v ∧ Fr0 H0 r v := by
  cases n with
  | same h => exact ⟨st, h, trivial⟩
  | @obj p o sv h1 h2 =>
    have no : ¬ OwnA S σ p := fun z => by
      obtain ⟨u, e⟩ := own_in st.rl z
      rw [h1] at e; cases e
    exact ⟨st.more h1, ⟨p, rfl, st.rl.sub.none h1, h2, no⟩, fun a e => by cases e; exact st.ex.none h1⟩
  | @tup p xs ds h1 h2 =>
    have hz := st.rl.sub.none h1
    have no : ¬ OwnA S σ p := fun z => by
      obtain ⟨u, e⟩ := own_in st.rl z
      rw [h1] at e; cases e
    have st1 : Ste K S0 σ Z0 H0 S Z (upd H p (.tup xs)) := st.more h1
    refine ⟨⟨st1.rl.grow upd_same hz no, ⟨st1.ex.zz.trans (upd_sub hz), st1.ex.hh, fun b u e => ?_, st1.ex.th⟩, st1.ow, st1.kp⟩, .tup upd_same (h2.mono (upd_sub hz)), trivial⟩
    by_cases hb : b = p
    · subst hb; exact .inr (.inl (.inl (st.ex.none h1)))
    · rw [upd_ne hb] at e; exact st1.ex.zn b u e
end

/-- more tuples are data -/
structure GrowT (Z H Z1 : Hp) : Prop where
  zz : Sub Z Z1
  zh : Sub Z1 H
  tt : ∀ a o, Z1 a = some o → Z a = some o ∨ ∃ xs, o = .tup xs
theorem GrowT.refl {Z H : Hp} (h : Sub Z H) : GrowT Z H Z := ⟨.refl _, h, fun _ _ h => .inl h⟩
theorem own_noOb {K : PySem.W.Frag} {S : SS} {σ : L2.St} {Z H : Hp} (rl : Rl K Z S σ H) {a : Addr} (h : OwnA S σ a) : ¬ NoOb (H a) := by
  obtain ⟨i, sv, e, o, k⟩ := h
  obtain ⟨v, h1, h2⟩ := rl.at' i sv e
  rw [k] at h1
  cases h1
  obtain ⟨b, hb, _, h3⟩ := h2.own o
  cases hb
  exact h3.noOb
theorem GrowT.ste {K : PySem.W.Frag} {S S0 : SS} {σ : L2.St} {Z H Z1 Z0 H0 : Hp} (g : GrowT Z H Z1) (st : Ste K S0 σ Z0 H0 S Z H) : Ste K S0 σ Z0 H0 S Z1 H := by
  have none1 : ∀ a sv, OwnAt K Z H a sv → Z a = none → Z1 a = none := fun a sv h hz => by
    cases q : Z1 a with
    | none => rfl
    | some o =>
      rcases g.tt a o q with z | ⟨xs, z⟩
      · rw [hz] at z; cases z
      · subst z
        exact absurd (.inr ⟨xs, g.zh a _ q⟩) h.noOb
  refine ⟨⟨g.zh, st.rl.len, fun i sv e => ?_, st.rl.sep⟩, ⟨st.ex.zz.trans g.zz, st.ex.hh, fun a o e => ?_, st.ex.th⟩, st.ow, st.kp⟩
  · obtain ⟨v, h1, h2⟩ := st.rl.at' i sv e
    refine ⟨v, h1, h2.mono g.zz (fun a o _ _ h => h) fun a hv ho hz => ?_⟩
    subst hv
    obtain ⟨b, hb, _, h3⟩ := h2.own ho
    cases hb
    exact none1 a sv h3 hz
  · rcases g.tt a o e with z | ⟨xs, z⟩
    · exact st.ex.zn a o z
    · subst z
      have ha := g.zh a _ e
      cases q : H0 a with
      | none => exact .inr (.inl (.inl rfl))
      | some u =>
        by_cases n : OwnA S0 σ a
        · exact .inr (.inr n)
        · have := st.ex.hh a u q n
          rw [ha] at this
          cases this
          exact .inr (.inl (.inr ⟨xs, rfl⟩))

/-- a two-place step on contents -/
def Op2 (X : Cx) (f : Value → Value → Sem Value) (w : SV → SV → (RV → Prop) → Prop) : Prop :=
  ∃ r : R2, OpR X f r ∧ ∀ (s1 s2 : SV) (v1 v2 : V) (Z H : Hp) (Ψ : RV → Prop) (Q : VK), Sub Z H → SlR X.K Z H v1 s1 → SlR X.K Z H v2 s2 → s1.isRo = false → s2.isRo = false → w s1 s2 Ψ →
    (∀ r' v Z' H', Ψ r' → NewR X.K Z H r' v Z' H' → Q v H') → r v1 v2 H Q

section
variable {X : Cx}
theorem op2_int {o : Operator} {op : BOp} {C : Int → Int → Prop} {g : Int → Int → Int} (h : OpR X (binaryOp o) (rI C fun i j => .int (g i j)))
    (k : ∀ d e Q, binW op d e Q → ∃ a b, d = .int a ∧ e = .int b ∧ C a b ∧ Q (.z (.int (g a b)))) : Op2 X (binaryOp o) (fun s t Q => binW op s.d t.d Q) :=
  ⟨_, h, fun s1 s2 v1 v2 Z H Ψ Q sub h1 h2 n1 n2 w q => by
    obtain ⟨a, b, e1, e2, c, w⟩ := k _ _ _ w
    exact ⟨a, b, h1.int e1, h2.int e2, c, q _ _ Z H w (.same (.int _))⟩⟩
theorem op2_int0 {o : Operator} {op : BOp} {g : Int → Int → Int} (h : OpR X (binaryOp o) (rI0 fun i j => .int (g i j)))
    (k : ∀ d e Q, binW op d e Q → ∃ a b, d = .int a ∧ e = .int b ∧ Q (.z (.int (g a b)))) : Op2 X (binaryOp o) (fun s t Q => binW op s.d t.d Q) :=
  ⟨_, h, fun s1 s2 v1 v2 Z H Ψ Q sub h1 h2 n1 n2 w q => by
    obtain ⟨a, b, e1, e2, w⟩ := k _ _ _ w
    exact ⟨a, b, h1.int e1, h2.int e2, q _ _ Z H w (.same (.int _))⟩⟩
theorem op2_add : Op2 X (binaryOp .Add) (fun s t Q => binW .add s.d t.d Q) := by
  refine ⟨_, op_add.or (op_add_str.or (op_cat.or op_catA)), fun s1 s2 v1 v2 Z H Ψ Q sub h1 h2 n1 n2 w q => ?_⟩
  have w : binW .add s1.d s2.d Ψ := w
  generalize e1 : s1.d = d1 at w
  generalize e2 : s2.d = d2 at w
  cases d1 <;> cases d2 <;> first | exact False.elim w | skip
  · exact .inl ⟨_, _, h1.int e1, h2.int e2, q _ _ Z H w (.same (.int _))⟩
  · exact .inr (.inl ⟨_, _, h1.str e1, h2.str e2, w.1, q _ _ Z H w.2 (.same (.str _))⟩)
  · obtain ⟨a, xs, rfl, ha, ra⟩ := h1.lst sub n1 e1
    obtain ⟨b, ys, rfl, hb, rb⟩ := h2.lst sub n2 e2
    refine .inr (.inr (.inl ⟨a, b, xs, ys, rfl, rfl, ha, hb, ?_, fun p hp => q _ _ Z _ w.2 (.obj hp ⟨_, upd_same, ra.append rb⟩)⟩))
    rw [ra.length, rb.length]; exact w.1
  · obtain ⟨a, xs, rfl, ha, ra⟩ := h1.tup sub e1
    obtain ⟨b, ys, rfl, hb, rb⟩ := h2.tup sub e2
    refine .inr (.inr (.inr ⟨a, b, xs, ys, rfl, rfl, SqT.of ha, SqT.of hb, by rw [ra.length, rb.length]; exact w.1, fun e => ?_, fun _ e => ?_, fun _ _ p hp => q _ _ _ _ w.2 (.tup hp (ra.append rb))⟩))
    · subst e
      cases ra
      have h2' := h2.rp sub n2
      have k : Rp X.K Z (.ref b) s2.d := by
        cases s2 with
        | val d => exact h2
        | _ => cases e2
      rw [e2] at k
      exact q _ _ Z H w.2 (.same k)
    · subst e
      cases rb
      have k : Rp X.K Z (.ref a) s1.d := by
        cases s1 with
        | val d => exact h1
        | _ => cases e1
      rw [e1] at k
      refine q _ _ Z H w.2 (.same ?_)
      rw [List.append_nil]
      exact k
theorem vrep {K : PySem.W.Frag} {Z : Hp} {xs : List V} {ds : List D} (h : RpA K Z xs ds) : ∀ n : Nat, RpA K Z (List.replicate n xs).flatten (List.replicate n ds).flatten
  | 0 => .nil
  | n + 1 => by rw [List.replicate_succ, List.replicate_succ, List.flatten_cons, List.flatten_cons]; exact h.append (vrep h n)
theorem op2_mul : Op2 X (binaryOp .Mult) (fun s t Q => binW .mul s.d t.d Q) := by
  refine ⟨_, (op_mul.or op_rep).or (op_repT.or op_rep1), fun s1 s2 v1 v2 Z H Ψ Q sub h1 h2 n1 n2 w q => ?_⟩
  have w : binW .mul s1.d s2.d Ψ := w
  generalize e1 : s1.d = d1 at w
  generalize e2 : s2.d = d2 at w
  cases d1 <;> cases d2 <;> first | exact False.elim w | skip
  · exact .inl (.inl ⟨_, _, h1.int e1, h2.int e2, w.1, q _ _ Z H w.2 (.same (.int _))⟩)
  · obtain ⟨a, xs, rfl, ha, ra⟩ := h1.lst sub n1 e1
    refine .inl (.inr ⟨a, _, xs, rfl, h2.int e2, ha, w.1.1, w.1.2.1, ?_, fun p hp => q _ _ Z _ w.2 (.obj hp ⟨_, upd_same, vrep ra _⟩)⟩)
    rw [ra.length]; exact w.1.2.2
  · next ds k =>
    obtain ⟨⟨w1, w2, w3, w4⟩, w5⟩ := w
    obtain ⟨a, xs, rfl, ha, ra⟩ := h1.tup sub e1
    by_cases hk : k = 1
    · subst hk
      refine .inr (.inr ⟨a, xs, rfl, h2.int e2, SqT.of ha, q _ _ Z H w5 (.same ?_)⟩)
      have hr : Rp X.K Z (.ref a) (.tuple ds) := by
        cases s1 with
        | val d => cases e1; exact h1
        | _ => cases e1
      have e3 : (List.replicate (Int.toNat 1) ds).flatten = ds := by simp
      rw [e3]
      exact hr
    · refine .inr (.inl ⟨a, k, xs, rfl, h2.int e2, SqT.of ha, ?_, by omega, w3, by rw [ra.length]; exact w4, fun p hp => q _ _ _ _ w5 (.tup hp (vrep ra _))⟩)
      intro z
      subst z
      cases ra
      exact w1 rfl
theorem op2_bin {op : BOp} {o : Operator} (h : opB op o = true) : Op2 X (binaryOp o) (fun s t Q => binW op s.d t.d Q) := by
  have inv : ∀ {C : Int → Int → Prop} {g : Int → Int → Int} {op : BOp}, (∀ d e Q, binW op d e Q → (∃ a b, d = PyData.int a ∧ e = PyData.int b)) → (∀ a b Q, binW op (.int a) (.int b) Q → C a b ∧ Q (.z (.int (g a b)))) →
      ∀ d e Q, binW op d e Q → ∃ a b, d = .int a ∧ e = .int b ∧ C a b ∧ Q (.z (.int (g a b))) := fun h1 h2 d e Q w => by
    obtain ⟨a, b, rfl, rfl⟩ := h1 d e Q w
    exact ⟨a, b, rfl, rfl, h2 a b Q w⟩
  have inv0 : ∀ {g : Int → Int → Int} {op : BOp}, (∀ d e Q, binW op d e Q → (∃ a b, d = PyData.int a ∧ e = PyData.int b)) → (∀ a b Q, binW op (.int a) (.int b) Q → Q (.z (.int (g a b)))) →
      ∀ d e Q, binW op d e Q → ∃ a b, d = .int a ∧ e = .int b ∧ Q (.z (.int (g a b))) := fun h1 h2 d e Q w => by
    obtain ⟨a, b, rfl, rfl⟩ := h1 d e Q w
    exact ⟨a, b, rfl, rfl, h2 a b Q w⟩
  cases op <;> cases o <;> first | cases h; done | skip
  · exact op2_add
  · exact op2_int0 op_sub (inv0 (fun d e Q w => by cases d <;> cases e <;> first | exact False.elim w | exact ⟨_, _, rfl, rfl⟩) fun a b Q w => w)
  · exact op2_mul
  · exact op2_int op_fdiv (inv (fun d e Q w => by cases d <;> cases e <;> first | exact False.elim w | exact ⟨_, _, rfl, rfl⟩) fun a b Q w => w)
  · exact op2_int op_mod (inv (fun d e Q w => by cases d <;> cases e <;> first | exact False.elim w | exact ⟨_, _, rfl, rfl⟩) fun a b Q w => w)
  · exact op2_int op_pow (inv (fun d e Q w => by cases d <;> cases e <;> first | exact False.elim w | exact ⟨_, _, rfl, rfl⟩) fun a b Q w => w)
  · exact op2_int op_shl (inv (fun d e Q w => by cases d <;> cases e <;> first | exact False.elim w | exact ⟨_, _, rfl, rfl⟩) fun a b Q w => w)
  · exact op2_int op_shr (inv (fun d e Q w => by cases d <;> cases e <;> first | exact False.elim w | exact ⟨_, _, rfl, rfl⟩) fun a b Q w => w)
  · exact op2_int0 op_and (inv0 (fun d e Q w => by cases d <;> cases e <;> first | exact False.elim w | exact ⟨_, _, rfl, rfl⟩) fun a b Q w => w)
  · exact op2_int0 op_or (inv0 (fun d e Q w => by cases d <;> cases e <;> first | exact False.elim w | exact ⟨_, _, rfl, rfl⟩) fun a b Q w => w)
  · exact op2_int0 op_xor (inv0 (fun d e Q w => by cases d <;> cases e <;> first | exact False.elim w | exact ⟨_, _, rfl, rfl⟩) fun a b Q w => w)
end

/-! ### data as the library reads it -/
section
variable {X : Cx} {pins : List (Addr × Obj)} {σ : L2.St} {H : Hp} {s : Shared}
mutual
theorem Rp.reads (I : Inv X pins σ H s) : ∀ (d : D) (n : Nat) (v : V) (u : Value), okD d n = true → Rp X.K H v d → RelV v u → ∃ as, Reads s.heap u d as
  | .none, _, _, _, _, h, r => by
    cases h
    cases r
    exact ⟨_, Reads.none⟩
  | .bool b, _, _, _, _, h, r => by
    cases h
    cases r
    exact ⟨_, Reads.bool b⟩
  | .int i, _, _, _, _, h, r => by
    cases h
    obtain ⟨t, rfl⟩ := r
    exact ⟨_, Reads.int i t⟩
  | .str x, _, _, _, _, h, r => by
    cases h
    obtain ⟨t, rfl⟩ := r
    exact ⟨_, Reads.str x t⟩
  | .list ds, 0, _, _, k, _, _ => by simp [okD] at k
  | .list ds, n + 1, _, _, k, h, r => by
    cases h with
    | lst hs ha =>
      cases r
      obtain ⟨its, rv, ⟨o, m, ho, hc, _, hd⟩, _⟩ := I.list (SqL.of hs)
      obtain ⟨as, hr⟩ := Rp.readsAll I ds n _ its (by simpa [okD] using k) ha rv
      exact ⟨_, Reads.list ho hc hd hr⟩
  | .tuple ds, 0, _, _, k, _, _ => by simp [okD] at k
  | .tuple ds, n + 1, _, _, k, h, r => by
    cases h with
    | tup hs ha =>
      cases r
      obtain ⟨its, rv, ⟨o, ho, hc, m, hd⟩, _⟩ := I.tuple (SqT.of hs)
      obtain ⟨as, hr⟩ := Rp.readsAll I ds n _ its (by simpa [okD] using k) ha rv
      exact ⟨_, Reads.tuple ho hc hd hr⟩
  | .dict _, _, _, _, k, _, _ => by simp [okD] at k
theorem Rp.readsAll (I : Inv X pins σ H s) : ∀ (ds : List D) (n : Nat) (vs : List V) (us : List Value), okDs ds n = true → RpA X.K H vs ds → Vals vs us → ∃ as, ReadsAll s.heap us ds as
  | [], _, _, _, _, h, r => by
    cases h
    cases r
    exact ⟨_, ReadsAll.nil⟩
  | d :: ds, n, _, _, k, h, r => by
    have k' : okD d n = true ∧ okDs ds n = true := by simpa [okDs] using k
    cases h with
    | cons h1 h2 =>
      cases r with
      | cons r1 r2 =>
        obtain ⟨as, q1⟩ := Rp.reads I d n _ _ k'.1 h1 r1
        obtain ⟨bs, q2⟩ := Rp.readsAll I ds n _ _ k'.2 h2 r2
        exact ⟨_, ReadsAll.cons q1 q2⟩
end
end
mutual
theorem okD_lay : ∀ (d : D) (n : Nat), okD d n = true → d.canLay0 = true ∧ d.depth ≤ n
  | .none, _, _ => ⟨by simp [PyData.canLay0], by simp [PyData.depth]⟩
  | .bool _, _, _ => ⟨by simp [PyData.canLay0], by simp [PyData.depth]⟩
  | .int _, _, _ => ⟨by simp [PyData.canLay0], by simp [PyData.depth]⟩
  | .str x, _, h => ⟨by simpa [PyData.canLay0, okD] using h, by simp [PyData.depth]⟩
  | .list ds, 0, h => by simp [okD] at h
  | .list ds, n + 1, h => by
    obtain ⟨h1, h2⟩ := okDs_lay ds n (by simpa [okD] using h)
    exact ⟨by simpa [PyData.canLay0] using h1, by simp [PyData.depth]; omega⟩
  | .tuple ds, 0, h => by simp [okD] at h
  | .tuple ds, n + 1, h => by
    obtain ⟨h1, h2⟩ := okDs_lay ds n (by simpa [okD] using h)
    exact ⟨by simpa [PyData.canLay0] using h1, by simp [PyData.depth]; omega⟩
  | .dict _, _, h => by simp [okD] at h
theorem okDs_lay : ∀ (ds : List D) (n : Nat), okDs ds n = true → PyData.canLayAll0 ds = true ∧ PyData.depthAll ds ≤ n
  | [], _, _ => ⟨by simp [PyData.canLayAll0], by simp [PyData.depthAll]⟩
  | d :: ds, n, h => by
    have k' : okD d n = true ∧ okDs ds n = true := by simpa [okDs] using h
    obtain ⟨a1, a2⟩ := okD_lay d n k'.1
    obtain ⟨b1, b2⟩ := okDs_lay ds n k'.2
    exact ⟨by simp [PyData.canLayAll0, a1, b1], by simp [PyData.depthAll]; omega⟩
end

/-! ### comparisons -/
/-- == of data -/
def rEqR (K : PySem.W.Frag) : R2 := fun x y H Q => ∃ d e, Rp K H x d ∧ Rp K H y e ∧ okD d 40 = true ∧ okD e 40 = true ∧ Q (.bl (PyData.eqv d e)) H
def rNeR (K : PySem.W.Frag) : R2 := fun x y H Q => ∃ d e, Rp K H x d ∧ Rp K H y e ∧ okD d 40 = true ∧ okD e 40 = true ∧ Q (.bl (!PyData.eqv d e)) H
def rInR (K : PySem.W.Frag) : R2 := fun x y H Q => ∃ d es, Rp K H x d ∧ (Rp K H y (.list es) ∨ Rp K H y (.tuple es)) ∧ okD d 40 = true ∧ okDs es 40 = true ∧ Q (.bl (es.any fun e => PyData.eqv e d)) H
def rNotInR (K : PySem.W.Frag) : R2 := fun x y H Q => ∃ d es, Rp K H x d ∧ (Rp K H y (.list es) ∨ Rp K H y (.tuple es)) ∧ okD d 40 = true ∧ okDs es 40 = true ∧ Q (.bl (!(es.any fun e => PyData.eqv e d))) H
def rDIn : R2 := fun x y H Q => ∃ a o, y = .ref a ∧ DGet H a x o ∧ Q (.bl o.isSome) H
def rDNotIn : R2 := fun x y H Q => ∃ a o, y = .ref a ∧ DGet H a x o ∧ Q (.bl (!o.isSome)) H
section
variable {X : Cx}
theorem op_eqR (hu : X.A.units + 64 < cLine) : OpR X (compareOp .Eq) (rEqR X.K) := by
  intro pins s σ H x y v u Q I rx ry h
  obtain ⟨d, e, hd, he, sd, se, q⟩ := h
  obtain ⟨as, r1⟩ := Rp.reads I d 40 x v sd hd rx
  obtain ⟨bs, r2⟩ := Rp.reads I e 40 y u se he ry
  obtain ⟨l1, l2⟩ := okD_lay d 40 sd
  obtain ⟨m1, m2⟩ := okD_lay e 40 se
  exact SeqAt.compareEq_reads r1 r2 l1 m1 (by omega) ⟨.bl _, H, I, rfl, q⟩
theorem op_neR (hu : X.A.units + 64 < cLine) : OpR X (compareOp .NotEq) (rNeR X.K) := by
  intro pins s σ H x y v u Q I rx ry h
  obtain ⟨d, e, hd, he, sd, se, q⟩ := h
  obtain ⟨as, r1⟩ := Rp.reads I d 40 x v sd hd rx
  obtain ⟨bs, r2⟩ := Rp.reads I e 40 y u se he ry
  obtain ⟨l1, l2⟩ := okD_lay d 40 sd
  obtain ⟨m1, m2⟩ := okD_lay e 40 se
  exact SeqAt.compareNe_reads r1 r2 l1 m1 (by omega) ⟨.bl _, H, I, rfl, q⟩
theorem op_inR (hu : X.A.units + 64 < cLine) : OpR X (compareOp .In) (rInR X.K) := by
  intro pins s σ H x y v u Q I rx ry h
  obtain ⟨d, es, hd, he, sd, se, q⟩ := h
  obtain ⟨as, r1⟩ := Rp.reads I d 40 x v sd hd rx
  obtain ⟨l1, l2⟩ := okD_lay d 40 sd
  obtain ⟨m1, m2⟩ := okDs_lay es 40 se
  rcases he with he | he
  · obtain ⟨bs, r2⟩ := Rp.reads I (.list es) 41 y u (by simpa [okD] using se) he ry
    exact SeqAt.in_list_reads r2 r1 m1 l1 (by omega) ⟨.bl _, H, I, rfl, q⟩
  · obtain ⟨bs, r2⟩ := Rp.reads I (.tuple es) 41 y u (by simpa [okD] using se) he ry
    exact SeqAt.in_tuple_reads r2 r1 m1 l1 (by omega) ⟨.bl _, H, I, rfl, q⟩
theorem op_notInR (hu : X.A.units + 64 < cLine) : OpR X (compareOp .NotIn) (rNotInR X.K) := by
  intro pins s σ H x y v u Q I rx ry h
  obtain ⟨d, es, hd, he, sd, se, q⟩ := h
  obtain ⟨as, r1⟩ := Rp.reads I d 40 x v sd hd rx
  obtain ⟨l1, l2⟩ := okD_lay d 40 sd
  obtain ⟨m1, m2⟩ := okDs_lay es 40 se
  rcases he with he | he
  · obtain ⟨bs, r2⟩ := Rp.reads I (.list es) 41 y u (by simpa [okD] using se) he ry
    exact SeqAt.notIn_list_reads r2 r1 m1 l1 (by omega) ⟨.bl _, H, I, rfl, q⟩
  · obtain ⟨bs, r2⟩ := Rp.reads I (.tuple es) 41 y u (by simpa [okD] using se) he ry
    exact SeqAt.notIn_tuple_reads r2 r1 m1 l1 (by omega) ⟨.bl _, H, I, rfl, q⟩
theorem op_dIn (hu : X.A.units + 64 < cLine) : OpR X (compareOp .In) rDIn := by
  intro pins s σ H x y v u Q I rx ry h
  obtain ⟨a, o, rfl, g, q⟩ := h
  cases ry
  exact d_in (by omega) I g rx fun s' I' => ⟨.bl _, H, I', rfl, q⟩
theorem op_dNotIn (hu : X.A.units + 64 < cLine) : OpR X (compareOp .NotIn) rDNotIn := by
  intro pins s σ H x y v u Q I rx ry h
  obtain ⟨a, o, rfl, g, q⟩ := h
  cases ry
  exact d_notIn (by omega) I g rx fun s' I' => ⟨.bl _, H, I', rfl, q⟩

/-! ### dicts -/
section
variable {K : PySem.W.Frag} {Z H : Hp} {κ : Type} [DecidableEq κ]
theorem KP.val : ∀ {ys : List (κ × V)} {kvs : List (κ × D)} (h : KP K Z ys kvs) (k : κ),
    (valV ys k = none ∧ valD kvs k = none) ∨ ∃ v d, valV ys k = some v ∧ valD kvs k = some d ∧ Rp K Z v d
  | _, _, .nil, k => .inl ⟨rfl, rfl⟩
  | (k1, v) :: ys, (k2, d) :: kvs, .cons r t, k => by
    obtain ⟨e, r⟩ := r
    have e' : k1 = k2 := e
    subst e'
    by_cases h : k1 = k
    · exact .inr ⟨v, d, by simp [valV, List.find?_cons, h], by simp [valD, List.find?_cons, h], r⟩
    · rcases KP.val t k with ⟨a, b⟩ | ⟨v', d', a, b, c⟩
      · exact .inl ⟨by simpa [valV, List.find?_cons, h] using a, by simpa [valD, List.find?_cons, h] using b⟩
      · exact .inr ⟨v', d', by simpa [valV, List.find?_cons, h] using a, by simpa [valD, List.find?_cons, h] using b, c⟩
theorem KP.any : ∀ {ys : List (κ × V)} {kvs : List (κ × D)} (h : KP K Z ys kvs) (k : κ), (ys.any fun kv => decide (kv.1 = k)) = kvs.any fun kv => decide (kv.1 = k)
  | _, _, .nil, k => rfl
  | (k1, v) :: ys, (k2, d) :: kvs, .cons r t, k => by
    obtain ⟨e, r⟩ := r
    have e' : k1 = k2 := e
    subst e'
    simp [KP.any t k]
theorem KP.snoc : ∀ {ys : List (κ × V)} {kvs : List (κ × D)} (h : KP K Z ys kvs) {k : κ} {v : V} {d : D}, Rp K Z v d → KP K Z (ys ++ [(k, v)]) (kvs ++ [(k, d)])
  | _, _, .nil, k, v, d, r => .cons ⟨rfl, r⟩ .nil
  | _, _, .cons q t, k, v, d, r => .cons q (KP.snoc t r)
theorem KP.repl : ∀ {ys : List (κ × V)} {kvs : List (κ × D)} (h : KP K Z ys kvs) {k : κ} {v : V} {d : D}, Rp K Z v d →
    KP K Z (ys.map fun kv => if kv.1 = k then (kv.1, v) else kv) (kvs.map fun kv => if kv.1 = k then (kv.1, d) else kv)
  | _, _, .nil, k, v, d, r => .nil
  | (k1, v1) :: ys, (k2, d1) :: kvs, .cons q t, k, v, d, r => by
    obtain ⟨e, q⟩ := q
    have e' : k1 = k2 := e
    subst e'
    refine .cons ?_ (KP.repl t r)
    by_cases h : k1 = k
    · simp [h]; exact r
    · simp [h]; exact q
theorem KP.put {ys : List (κ × V)} {kvs : List (κ × D)} (h : KP K Z ys kvs) {k : κ} {v : V} {d : D} (r : Rp K Z v d) : KP K Z (putK ys k v) (putD kvs k d) := by
  unfold putK putD
  rw [h.any k]
  split
  · exact h.repl r
  · exact h.snoc r
theorem KP.length {ys : List (κ × V)} {kvs : List (κ × D)} (h : KP K Z ys kvs) : ys.length = kvs.length := Paired.length h
end
theorem dKey_some {d : D} {k : Key} (h : dKey d = some k) : d = kD k := by
  cases d <;> first | (cases h; rfl) | cases h
theorem Rp.key {K : PySem.W.Frag} {Z : Hp} {v : V} {k : Key} (h : Rp K Z v (kD k)) : v = kV k := by
  cases k <;> (cases h; rfl)
theorem dKeys_some : ∀ {ds : List D} {ks : List Key}, dKeys ds = some ks → ds = ks.map kD
  | [], ks, h => by cases h; rfl
  | d :: ds, ks, h => by
    unfold dKeys at h
    cases e1 : dKey d with
    | none => rw [e1] at h; cases h
    | some k =>
      cases e2 : dKeys ds with
      | none => rw [e1, e2] at h; cases h
      | some r =>
        rw [e1, e2] at h
        cases h
        rw [dKey_some e1, dKeys_some e2]; rfl
theorem RpA.keys {K : PySem.W.Frag} {Z : Hp} : ∀ {ks : List Key} {vs : List V}, RpA K Z vs (ks.map kD) → vs = ks.map kV
  | [], _, .nil => rfl
  | k :: ks, _, .cons r t => by rw [Rp.key r, RpA.keys t]; rfl
theorem get_own {K : PySem.W.Frag} {Z H : Hp} {v1 v2 : V} {s1 s2 : SV} {o : Option D} (sub : Sub Z H) (h1 : SlR K Z H v1 s1) (n1 : s1.isRo = false) (h2 : SlR K Z H v2 s2) (g : dGet s2 s1.d = some o) :
    ∃ a o', v2 = .ref a ∧ DGet H a v1 o' ∧ ((o' = none ∧ o = none) ∨ ∃ v d, o' = some v ∧ o = some d ∧ Rp K Z v d) := by
  cases s2 with
  | val d => cases g
  | ls d => cases g
  | ro d => cases g
  | dk kvs =>
    obtain ⟨a, rfl, hz, ys, ha, kp⟩ := h2
    have g' : (dKey s1.d).map (fun k => valD kvs k) = some o := g
    cases e : dKey s1.d with
    | none => rw [e] at g'; cases g'
    | some k =>
      rw [e] at g'
      have g2 : valD kvs k = o := by simpa using g'
      have hv := h1.rp sub n1
      rw [dKey_some e] at hv
      have ev := hv.key
      subst ev
      refine ⟨a, valV ys k, rfl, DGet.k ha, ?_⟩
      rcases kp.val k with ⟨x, y⟩ | ⟨v, d, x, y, z⟩
      · exact .inl ⟨x, by rw [← g2, y]⟩
      · exact .inr ⟨v, d, x, by rw [← g2, y], z⟩
  | dt kvs =>
    obtain ⟨a, rfl, hz, ys, ha, kp⟩ := h2
    cases e1 : s1.d with
    | tuple ds =>
      rw [e1] at g
      have g' : (dKeys ds).map (fun k => valD kvs k) = some o := g
      cases e : dKeys ds with
      | none => rw [e] at g'; cases g'
      | some k =>
        rw [e] at g'
        have g2 : valD kvs k = o := by simpa using g'
        obtain ⟨b, xs, rfl, hb, rb⟩ := h1.tup sub e1
        rw [dKeys_some e] at rb
        have ex := rb.keys
        subst ex
        refine ⟨a, valV ys k, rfl, DGet.t ha hb, ?_⟩
        · rcases kp.val k with ⟨x, y⟩ | ⟨v, d, x, y, z⟩
          · exact .inl ⟨x, by rw [← g2, y]⟩
          · exact .inr ⟨v, d, x, by rw [← g2, y], z⟩
    | _ => rw [e1] at g; cases g
end
end Fw

set_option Elab.async false
set_option linter.all false
set_option maxRecDepth 100000
set_option maxHeartbeats 4000000
/-! Fw, part F: comparisons, subscripts, slices, truth, by values. -/
namespace Fw
open PySem PySem.Spec L2

def Cp2 (X : Cx) (o : CmpOp) (op : COp) : Prop :=
  ∃ r : R2, OpR X (compareOp o) r ∧ ∀ (s1 s2 : SV) (v1 v2 : V) (Z H : Hp) (Ψ : Bool → Prop) (Q : VK), Sub Z H → SlR X.K Z H v1 s1 → SlR X.K Z H v2 s2 → s1.isRo = false → s2.isRo = false → cmpW op s1 s2 Ψ →
    (∀ c, Ψ c → Q (.bl c) H) → r v1 v2 H Q
section
variable {X : Cx}
theorem eqOk_cases {d e : D} (h : eqOk d e) : (okD d 40 = true ∧ okD e 40 = true) ∨ (∃ a b, d = .str a ∧ e = .str b) ∨ (∃ a, d = .str a ∧ e = .none) ∨ (∃ a, d = .none ∧ e = .str a) := by
  cases d <;> cases e <;> first | exact .inr (.inl ⟨_, _, rfl, rfl⟩) | exact .inr (.inr (.inl ⟨_, rfl, rfl⟩)) | exact .inr (.inr (.inr ⟨_, rfl, rfl⟩)) | exact .inl h | exact .inl ⟨rfl, rfl⟩
theorem cp_eq (hu : X.A.units + 64 < cLine) : Cp2 X .Eq .eq := by
  refine ⟨_, op_eq.or (op_eqR hu), fun s1 s2 v1 v2 Z H Ψ Q sub h1 h2 n1 n2 w q => ?_⟩
  have w : eqOk s1.d s2.d ∧ Ψ (PyData.eqv s1.d s2.d) := w
  rcases eqOk_cases w.1 with ⟨a, b⟩ | ⟨a, b, e1, e2⟩ | ⟨a, e1, e2⟩ | ⟨a, e1, e2⟩
  · exact .inr ⟨_, _, h1.rp sub n1, h2.rp sub n2, a, b, q _ w.2⟩
  · have x1 := h1.str e1
    have x2 := h2.str e2
    subst x1 x2
    refine .inl ⟨rfl, ?_⟩
    rw [dec_str]
    have w2 := w.2
    rw [e1, e2] at w2
    exact q _ w2
  · have x1 := h1.str e1
    have x2 := h2.non e2
    subst x1 x2
    refine .inl ⟨rfl, ?_⟩
    have w2 := w.2
    rw [e1, e2] at w2
    exact q _ w2
  · have x1 := h1.non e1
    have x2 := h2.str e2
    subst x1 x2
    refine .inl ⟨rfl, ?_⟩
    have w2 := w.2
    rw [e1, e2] at w2
    exact q _ w2
theorem cp_ne (hu : X.A.units + 64 < cLine) : Cp2 X .NotEq .ne := by
  refine ⟨_, op_ne.or (op_neR hu), fun s1 s2 v1 v2 Z H Ψ Q sub h1 h2 n1 n2 w q => ?_⟩
  have w : eqOk s1.d s2.d ∧ Ψ (!PyData.eqv s1.d s2.d) := w
  rcases eqOk_cases w.1 with ⟨a, b⟩ | ⟨a, b, e1, e2⟩ | ⟨a, e1, e2⟩ | ⟨a, e1, e2⟩
  · exact .inr ⟨_, _, h1.rp sub n1, h2.rp sub n2, a, b, q _ w.2⟩
  · have x1 := h1.str e1
    have x2 := h2.str e2
    subst x1 x2
    refine .inl ⟨rfl, ?_⟩
    rw [dec_str]
    have w2 := w.2
    rw [e1, e2] at w2
    exact q _ w2
  · have x1 := h1.str e1
    have x2 := h2.non e2
    subst x1 x2
    refine .inl ⟨rfl, ?_⟩
    have w2 := w.2
    rw [e1, e2] at w2
    exact q _ w2
  · have x1 := h1.non e1
    have x2 := h2.str e2
    subst x1 x2
    refine .inl ⟨rfl, ?_⟩
    have w2 := w.2
    rw [e1, e2] at w2
    exact q _ w2
theorem cp_lt : Cp2 X .Lt .lt := by
  refine ⟨_, op_lt.or op_lt_str, fun s1 s2 v1 v2 Z H Ψ Q sub h1 h2 n1 n2 w q => ?_⟩
  have w : (match s1.d, s2.d with | .int a, .int b => Ψ (decide (a < b)) | .str a, .str b => Ψ (decide (a.cps.toList < b.cps.toList)) | _, _ => False) := w
  generalize e1 : s1.d = d1 at w
  generalize e2 : s2.d = d2 at w
  cases d1 <;> cases d2 <;> first | exact False.elim w | skip
  · exact .inl ⟨_, _, h1.int e1, h2.int e2, q _ w⟩
  · exact .inr ⟨_, _, h1.str e1, h2.str e2, q _ w⟩
theorem cp_int {o : CmpOp} {op : COp} {g : Int → Int → Bool} (h : OpR X (compareOp o) (rI0 fun i j => .bl (g i j))) (k : ∀ s1 s2 Ψ, cmpW op s1 s2 Ψ → ∃ a b, s1.d = .int a ∧ s2.d = .int b ∧ Ψ (g a b)) : Cp2 X o op :=
  ⟨_, h, fun s1 s2 v1 v2 Z H Ψ Q sub h1 h2 n1 n2 w q => by
    obtain ⟨a, b, e1, e2, w⟩ := k _ _ _ w
    exact ⟨a, b, h1.int e1, h2.int e2, q _ w⟩⟩
theorem cp_le : Cp2 X .LtE .le := cp_int op_le fun s1 s2 Ψ w => by
  have w : (match s1.d, s2.d with | .int a, .int b => Ψ (decide (a ≤ b)) | _, _ => False) := w
  generalize s1.d = d1 at w ⊢
  generalize s2.d = d2 at w ⊢
  cases d1 <;> cases d2 <;> first | exact False.elim w | exact ⟨_, _, rfl, rfl, w⟩
theorem cp_gt : Cp2 X .Gt .gt := cp_int op_gt fun s1 s2 Ψ w => by
  have w : (match s1.d, s2.d with | .int a, .int b => Ψ (decide (b < a)) | _, _ => False) := w
  generalize s1.d = d1 at w ⊢
  generalize s2.d = d2 at w ⊢
  cases d1 <;> cases d2 <;> first | exact False.elim w | exact ⟨_, _, rfl, rfl, w⟩
theorem cp_ge : Cp2 X .GtE .ge := cp_int op_ge fun s1 s2 Ψ w => by
  have w : (match s1.d, s2.d with | .int a, .int b => Ψ (decide (b ≤ a)) | _, _ => False) := w
  generalize s1.d = d1 at w ⊢
  generalize s2.d = d2 at w ⊢
  cases d1 <;> cases d2 <;> first | exact False.elim w | exact ⟨_, _, rfl, rfl, w⟩
theorem none_iff {K : PySem.W.Frag} {Z H : Hp} {v : V} {s : SV} (h : SlR K Z H v s) : (v = .non ↔ s.d = .none) := by
  cases s with
  | val d => cases h <;> simp [SV.d]
  | ro d => obtain ⟨a, xs, rfl, _⟩ := h; simp [SV.d]
  | ls d => obtain ⟨a, rfl, _⟩ := h; simp [SV.d]
  | dk d => obtain ⟨a, rfl, _⟩ := h; simp [SV.d]
  | dt d => obtain ⟨a, rfl, _⟩ := h; simp [SV.d]
theorem cp_is : Cp2 X .Is .isN := by
  refine ⟨_, op_isN.or op_isBl, fun s1 s2 v1 v2 Z H Ψ Q sub h1 h2 n1 n2 w q => ?_⟩
  have w : (match s2.d, s1.d with | .none, .none => Ψ true | .none, _ => Ψ false | .bool b, .bool a => Ψ (decide (a = b)) | _, _ => False) := w
  cases e2 : s2.d with
  | none =>
    rw [e2] at w
    have x2 := h2.non e2
    subst x2
    refine .inl ⟨rfl, ?_⟩
    cases e1 : s1.d with
    | none =>
      rw [e1] at w
      have x1 := h1.non e1
      subst x1
      exact q _ w
    | _ =>
      rw [e1] at w
      rw [decide_eq_false (fun z => by have := (none_iff h1).mp z; rw [e1] at this; cases this)]
      exact q _ w
  | bool b =>
    rw [e2] at w
    cases e1 : s1.d with
    | bool a =>
      rw [e1] at w
      exact .inr ⟨a, b, h1.bl e1, h2.bl e2, q _ w⟩
    | _ => rw [e1] at w; exact False.elim w
  | _ => rw [e2] at w; exact False.elim w
theorem cp_isnot : Cp2 X .IsNot .notN := by
  refine ⟨_, op_notN.or op_notBl, fun s1 s2 v1 v2 Z H Ψ Q sub h1 h2 n1 n2 w q => ?_⟩
  have w : (match s2.d, s1.d with | .none, .none => Ψ false | .none, _ => Ψ true | .bool b, .bool a => Ψ (!decide (a = b)) | _, _ => False) := w
  cases e2 : s2.d with
  | none =>
    rw [e2] at w
    have x2 := h2.non e2
    subst x2
    refine .inl ⟨rfl, ?_⟩
    cases e1 : s1.d with
    | none =>
      rw [e1] at w
      have x1 := h1.non e1
      subst x1
      exact q _ w
    | _ =>
      rw [e1] at w
      rw [decide_eq_false (fun z => by have := (none_iff h1).mp z; rw [e1] at this; cases this)]
      exact q _ w
  | bool b =>
    rw [e2] at w
    cases e1 : s1.d with
    | bool a =>
      rw [e1] at w
      exact .inr ⟨a, b, h1.bl e1, h2.bl e2, q _ w⟩
    | _ => rw [e1] at w; exact False.elim w
  | _ => rw [e2] at w; exact False.elim w
theorem inW_cases {x : D} {s : SV} {Q : Bool → Prop} (h : inW x s Q) : (∃ o, dGet s x = some o ∧ Q o.isSome) ∨ (∃ ds, (s.d = .list ds ∨ s.d = .tuple ds) ∧ okDs ds 40 = true ∧ okD x 40 = true ∧ Q (ds.any fun d => PyData.eqv d x)) ∨
    ∃ y z, s.d = .str y ∧ x = .str z ∧ Q (!(Builtin.Str.occurrences y z 0 y.length 1).isEmpty) := by
  have aux : ∀ d : D, s.d = d → (match d with
    | .list ds => (okDs ds 40 = true ∧ okD x 40 = true) ∧ Q (ds.any fun d => PyData.eqv d x)
    | .tuple ds => (okDs ds 40 = true ∧ okD x 40 = true) ∧ Q (ds.any fun d => PyData.eqv d x)
    | .str y => strInW x y Q
    | _ => False) → (∃ o, dGet s x = some o ∧ Q o.isSome) ∨ (∃ ds, (s.d = .list ds ∨ s.d = .tuple ds) ∧ okDs ds 40 = true ∧ okD x 40 = true ∧ Q (ds.any fun d => PyData.eqv d x)) ∨
    ∃ y z, s.d = .str y ∧ x = .str z ∧ Q (!(Builtin.Str.occurrences y z 0 y.length 1).isEmpty) := fun d e w => by
    cases d with
    | list ds => exact .inr (.inl ⟨ds, .inl e, w.1.1, w.1.2, w.2⟩)
    | tuple ds => exact .inr (.inl ⟨ds, .inr e, w.1.1, w.1.2, w.2⟩)
    | str y =>
      cases x with
      | str z => exact .inr (.inr ⟨y, z, e, rfl, w⟩)
      | _ => exact False.elim w
    | _ => exact False.elim w
  cases s with
  | dk kvs => exact .inl h
  | dt kvs => exact .inl h
  | val d => exact aux d rfl h
  | ls d => exact aux _ rfl h
  | ro d => exact aux _ rfl h
theorem cp_in (hu : X.A.units + 64 < cLine) : Cp2 X .In .isin := by
  refine ⟨_, (op_dIn hu).or ((op_inR hu).or op_in_str), fun s1 s2 v1 v2 Z H Ψ Q sub h1 h2 n1 n2 w q => ?_⟩
  rcases inW_cases w with ⟨o, g, w⟩ | ⟨ds, e, a, b, w⟩ | ⟨y, z, e1, e2, w⟩
  · obtain ⟨a, o', rfl, g', hh⟩ := get_own sub h1 n1 h2 g
    refine .inl ⟨a, o', rfl, g', ?_⟩
    rcases hh with ⟨x, y⟩ | ⟨v, d, x, y, _⟩
    · rw [x]; rw [y] at w; exact q _ w
    · rw [x]; rw [y] at w; exact q _ w
  · have r2 := h2.rp sub n2
    refine .inr (.inl ⟨_, ds, h1.rp sub n1, ?_, b, a, q _ w⟩)
    rcases e with e | e
    · exact .inl (e ▸ r2)
    · exact .inr (e ▸ r2)
  · exact .inr (.inr ⟨_, _, h1.str e2, h2.str e1, q _ w⟩)
theorem cp_notin (hu : X.A.units + 64 < cLine) : Cp2 X .NotIn .notin := by
  refine ⟨_, (op_dNotIn hu).or ((op_notInR hu).or L2.op_notIn_str), fun s1 s2 v1 v2 Z H Ψ Q sub h1 h2 n1 n2 w q => ?_⟩
  have w : inW s1.d s2 fun b => Ψ (!b) := w
  rcases inW_cases w with ⟨o, g, w⟩ | ⟨ds, e, a, b, w⟩ | ⟨y, z, e1, e2, w⟩
  · obtain ⟨a, o', rfl, g', hh⟩ := get_own sub h1 n1 h2 g
    refine .inl ⟨a, o', rfl, g', ?_⟩
    rcases hh with ⟨x, y⟩ | ⟨v, d, x, y, _⟩
    · rw [x]; rw [y] at w; exact q _ w
    · rw [x]; rw [y] at w; exact q _ w
  · have r2 := h2.rp sub n2
    refine .inr (.inl ⟨_, ds, h1.rp sub n1, ?_, b, a, q _ w⟩)
    rcases e with e | e
    · exact .inl (e ▸ r2)
    · exact .inr (e ▸ r2)
  · exact .inr (.inr ⟨_, _, h1.str e2, h2.str e1, q _ w⟩)
theorem cp_all (hu : X.A.units + 64 < cLine) {op : COp} {o : CmpOp} (h : copB op o = true) : Cp2 X o op := by
  cases op <;> cases o <;> first | cases h; done | skip
  · exact cp_eq hu
  · exact cp_ne hu
  · exact cp_lt
  · exact cp_le
  · exact cp_gt
  · exact cp_ge
  · exact cp_in hu
  · exact cp_notin hu
  · exact cp_is
  · exact cp_isnot

/-! ### subscripts -/
theorem RpA.atI {K : PySem.W.Frag} {Z : Hp} {xs : List V} {ds : List D} (h : RpA K Z xs ds) {i : Int} {x : D} (e : L2.atI ds i = some x) : ∃ v, L2.atI xs i = some v ∧ Rp K Z v x := by
  unfold L2.atI at e ⊢
  rw [h.length]
  cases k : ixN ds.length i with
  | none => rw [k] at e; cases e
  | some m =>
    rw [k] at e
    have e' : ds[m]? = some x := e
    obtain ⟨v, hv, rv⟩ := h.get e'
    exact ⟨v, hv, rv⟩
theorem ix_out {K : PySem.W.Frag} {Z H : Hp} {v1 v2 : V} {s1 s2 : SV} {Ψ : RV → Prop} {Q : VK} (sub : Sub Z H) (h1 : SlR K Z H v1 s1) (h2 : SlR K Z H v2 s2) (n1 : s1.isRo = false) (n2 : s2.isRo = false) (w : ixW s1 s2.d Ψ)
    (q : ∀ d v, Ψ (.z d) → Rp K Z v d → Q v H) : (∃ a v, v1 = .ref a ∧ DGet H a v2 (some v) ∧ Q v H) ∨ rIxL K v1 v2 H Q ∨ rIxT K v1 v2 H Q ∨ rIxS v1 v2 H Q := by
  have dict : (∃ v, dGet s1 s2.d = some (some v) ∧ Ψ (.z v)) → (∃ a v, v1 = .ref a ∧ DGet H a v2 (some v) ∧ Q v H) := fun ⟨x, g, w⟩ => by
    obtain ⟨a, o', rfl, g', hh⟩ := get_own sub h2 n2 h1 g
    rcases hh with ⟨_, y⟩ | ⟨v, d, x', y, z⟩
    · cases y
    · cases y
      subst x'
      exact ⟨a, v, rfl, g', q _ _ w z⟩
  have aux : ∀ d e : D, s1.d = d → s2.d = e → (match d, e with
    | .list xs, .int i => ∃ x, atI xs i = some x ∧ Ψ (.z x)
    | .tuple xs, .int i => ∃ x, atI xs i = some x ∧ Ψ (.z x)
    | .str z, .int i => z.length ≤ sizeLine ∧ ∃ c, atI z.cps.toList i = some c ∧ Ψ (.z (.str ⟨#[c]⟩))
    | _, _ => False) → rIxL K v1 v2 H Q ∨ rIxT K v1 v2 H Q ∨ rIxS v1 v2 H Q := fun d e e1 e2 w => by
    cases d <;> cases e <;> first | exact False.elim w | skip
    · obtain ⟨hz, c, hc, w⟩ := w
      exact .inr (.inr ⟨_, _, c, h1.str e1, h2.int e2, hz, hc, q _ _ w (.str _)⟩)
    · obtain ⟨x, hx, w⟩ := w
      obtain ⟨a, xs, rfl, ha, ra⟩ := h1.lst sub n1 e1
      obtain ⟨v, ee, rv⟩ := ra.atI hx
      exact .inl ⟨a, xs, _, v, rfl, h2.int e2, SqL.of ha, ee, q _ _ w rv⟩
    · obtain ⟨x, hx, w⟩ := w
      obtain ⟨a, xs, rfl, ha, ra⟩ := h1.tup sub e1
      obtain ⟨v, ee, rv⟩ := ra.atI hx
      exact .inr (.inl ⟨a, xs, _, v, rfl, h2.int e2, SqT.of ha, ee, q _ _ w rv⟩)
  cases s1 with
  | dk kvs => exact .inl (dict w)
  | dt kvs => exact .inl (dict w)
  | val d => exact .inr (aux d _ rfl rfl w)
  | ls d => exact .inr (aux _ _ rfl rfl w)
  | ro d => cases n1

theorem RpA.cut {K : PySem.W.Frag} {Z : Hp} {xs : List V} {ds : List D} (h : RpA K Z xs ds) (lo hi : Option Int) : RpA K Z (cutV xs lo hi) (cutD ds lo hi) := by
  unfold cutV cutD
  rw [h.length]
  exact (h.drop _).take _
theorem RpA.rev {K : PySem.W.Frag} {Z : Hp} : ∀ {xs : List V} {ds : List D} (h : RpA K Z xs ds), RpA K Z xs.reverse ds.reverse
  | _, _, .nil => .nil
  | _, _, .cons r t => by rw [List.reverse_cons, List.reverse_cons]; exact (RpA.rev t).snoc r
theorem sl_out {K : PySem.W.Frag} {Z H : Hp} {v : V} {s : SV} {lo hi : Option Int} {Ψ : RV → Prop} {Q : VK} (sub : Sub Z H) (h : SlR K Z H v s) (w : slW s lo hi Ψ)
    (q : ∀ r' v Z' H', Ψ r' → NewR K Z H r' v Z' H' → Q v H') : rSlL K v lo hi H Q ∨ rSlA K v lo hi H Q ∨ rSlS v lo hi H Q := by
  have w : (match s.d with
    | .list xs => Ψ (.f (.ls (cutD xs lo hi)))
    | .tuple xs => Ψ (.z (.tuple (cutD xs lo hi)))
    | .str z => z.length ≤ sizeLine ∧ Ψ (.z (.str (cutS z lo hi)))
    | _ => False) := w
  cases e : s.d with
  | list ds =>
    rw [e] at w
    obtain ⟨a, xs, rfl, ha, ra⟩ := h.lstX sub e
    exact .inl ⟨a, xs, rfl, ha, fun p hp => q _ _ _ _ w (.obj hp ⟨_, upd_same, ra.cut lo hi⟩)⟩
  | tuple ds =>
    rw [e] at w
    obtain ⟨a, xs, rfl, ha, ra⟩ := h.tup sub e
    refine .inr (.inl ⟨a, xs, rfl, SqT.of ha, fun hw => ?_, fun _ p hp => q _ _ _ _ w (.tup hp (ra.cut lo hi))⟩)
    have ec : cutD ds lo hi = ds := by
      unfold cutD
      rw [← ra.length, hw.1, hw.2, List.drop_zero, Nat.sub_zero, ra.length, List.take_length]
    have w : Ψ (.z (.tuple (cutD ds lo hi))) := w
    rw [ec] at w
    have k : Rp K Z (.ref a) s.d := by
      cases s with
      | val d => exact h
      | _ => cases e
    rw [e] at k
    exact q _ _ _ _ w (.same k)
  | str z =>
    rw [e] at w
    exact .inr (.inr ⟨z, h.str e, w.1, q _ _ _ _ w.2 (.same (.str _))⟩)
  | _ => rw [e] at w; exact False.elim w
theorem tr_out {K : PySem.W.Frag} {Z H : Hp} {v : V} {s : SV} {Ψ : Bool → Prop} (sub : Sub Z H) (h : SlR K Z H v s) (n : s.isRo = false) (w : trW s.d Ψ) : ∃ k, TruV K v H k ∧ Ψ k := by
  cases e : s.d with
  | none => rw [e] at w; rw [h.non e]; exact ⟨false, rfl, w⟩
  | bool b => rw [e] at w; rw [h.bl e]; exact ⟨b, rfl, w⟩
  | int i => rw [e] at w; rw [h.int e]; exact ⟨_, rfl, w⟩
  | str y => rw [e] at w; rw [h.str e]; exact ⟨_, ⟨w.1, rfl⟩, w.2⟩
  | list ds =>
    rw [e] at w
    obtain ⟨a, xs, rfl, ha, ra⟩ := h.lst sub n e
    refine ⟨_, .inl ⟨xs, SqL.of ha, rfl⟩, ?_⟩
    have q : xs.isEmpty = ds.isEmpty := by cases ra <;> rfl
    rw [q]; exact w
  | tuple ds =>
    rw [e] at w
    obtain ⟨a, xs, rfl, ha, ra⟩ := h.tup sub e
    refine ⟨_, .inr (.inl ⟨xs, SqT.of ha, rfl⟩), ?_⟩
    have q : xs.isEmpty = ds.isEmpty := by cases ra <;> rfl
    rw [q]; exact w
  | dict _ => rw [e] at w; exact False.elim w
theorem ty_out {K : PySem.W.Frag} {Z H : Hp} {v : V} {s : SV} (sub : Sub Z H) (h : SlR K Z H v s) (n : s.isRo = false) : ∃ t, TyX K H v (.type t) ∧ t = tyD s.d := by
  have r := h.rp sub n
  cases e : s.d with
  | none => rw [e] at r; cases r; exact ⟨_, .base .non, rfl⟩
  | bool b => rw [e] at r; cases r; exact ⟨_, .base (.bl b), rfl⟩
  | int i => rw [e] at r; cases r; exact ⟨_, .base (.int i), rfl⟩
  | str y => rw [e] at r; cases r; exact ⟨_, .base (.str y), rfl⟩
  | list ds =>
    rw [e] at r
    cases r with
    | lst h1 _ => exact ⟨_, .base (.lst h1), rfl⟩
  | tuple ds =>
    rw [e] at r
    cases r with
    | tup h1 _ => exact ⟨_, .base (.tup h1), rfl⟩
  | dict _ =>
    rw [e] at r
    cases r with
    | dik h1 _ => exact ⟨_, .base (.dK h1), rfl⟩
    | dit h1 _ => exact ⟨_, .base (.dT h1), rfl⟩
end
end Fw

set_option Elab.async false
set_option linter.all false
set_option maxRecDepth 100000
set_option maxHeartbeats 4000000
/-! Fw, part G: nodes' readings, the lemmas of plain nodes. -/
namespace Fw
open PySem PySem.Spec L2

structure Pg where
  M : Nm
  T : Tb
  gl : Nat → Option D
  cl : Nat → Option Value

/-- what a call leaves -/
structure CallEnd (K : PySem.W.Frag) (args : List SV) (vs : List V) (Z H : Hp) (r : RV) (outs : List SV) (Z' H' : Hp) (v : V) : Prop where
  st : Ste K (args.map some) (vs.map some) Z H (outs.map some) Z' H'
  rv : RvR K Z' H' (outs.map some) (vs.map some) r v
  fr : Fr0 H r v
  kin : outs.map SV.isOwn = args.map SV.isOwn
  nb : ∀ i, r ≠ .b i
/-- a def's promise -/
def spF (K : PySem.W.Frag) (G : Pg) (d k : Nat) : Sp := fun vs H Q E => ∃ Z args Ψ Ξ, Rl K Z (args.map some) (vs.map some) H ∧ callW G.T G.gl d k args Ψ Ξ ∧
  (∀ r outs Z' H' v, Ψ r outs → CallEnd K args vs Z H r outs Z' H' v → Q v H') ∧
  ∀ c outs cls Z' H' dd, Ξ c outs → G.cl c = some cls → Ste K (args.map some) (vs.map some) Z H (outs.map some) Z' H' → outs.map SV.isOwn = args.map SV.isOwn → E cls dd H'

def bltNames : List Str := ["abs", "int", "len", "min", "max", "sum", "all", "any", "sorted", "repr", "str", "set", "isinstance", "list", "tuple", "range", "enumerate", "zip", "bool", "dict", "reversed"]

structure Gx (X : Cx) (G : Pg) (d : Nat) : Prop where
  nd : X.N.Nodup
  calm : X.calm = true
  room : Room d X.A
  fns : ∀ k fn, G.T k = some fn → ∃ x f fd ps, G.M.fn k = some x ∧ X.mg x = some (.ref f) ∧ PySem.W.keepIn X.K (.ref f) = true ∧ Binds X.K fd ps [] ∧ ps.length = fn.np ∧
    FnOk X.prog X.w X.K X.mg X.base (L2.CX X.prog X.w) d f fd ps (spF X.K G d k)
  dom : ∀ k x, G.M.fn k = some x → ∃ fn, G.T k = some fn
  gls : ∀ k x dd, G.M.gl k = some x → G.gl k = some dd → ∃ u v, X.mg x = some u ∧ RelV v u ∧ ∀ Z, Rp X.K Z v dd
  blt : ∀ x, x ∈ bltNames → X.mg x = none
structure Wok (X : Cx) (G : Pg) (d : Nat) (B : Bs) (W : Wv) : Prop where
  gx : Gx X G d
  cw : W.cw = callW G.T G.gl d
  gl : W.gl = G.gl
  tk : Takes X (Wx X.K B G.cl W.xq)

/-- a base that every state has -/
def B0 : Bs := ⟨fun _ => none, fun _ => none, fun _ => True, fun _ => False, []⟩
theorem B0.ok {Z H : Hp} {S : SS} {σ : L2.St} : BaseOk B0 Z S σ H :=
  { ex := { zz := fun _ _ h => (by cases h), hh := fun _ _ h _ => (by cases h), zn := fun _ _ _ => Or.inr (Or.inr trivial), th := fun _ _ h => (by cases h) }, ow := fun _ _ => Or.inl trivial, fx := fun _ h => h.elim }

/-! ### readings -/
def tE (K : PySem.W.Frag) (B : Bs) (W : Wv) (c : CE) : TE := fun σ H Q => Go K B (wpE W c) σ H fun r S' Z' H' H0 => ∀ v, RvR K Z' H' S' σ r v → Fr0 H0 r v → Q v H'
def tF (K : PySem.W.Frag) (B : Bs) (W : Wv) (cs : CEs) : TA := fun σ H Q => Go K B (wpF W cs) σ H fun ds S' Z' H' _ => ∀ vs, RpA K Z' vs ds → Q vs H'
inductive RvRs (K : PySem.W.Frag) (Z H : Hp) (S : SS) (σ : L2.St) : List RV → List V → Prop
  | nil : RvRs K Z H S σ [] []
  | cons {r v rs vs} : RvR K Z H S σ r v → RvRs K Z H S σ rs vs → RvRs K Z H S σ (r :: rs) (v :: vs)
def tR (K : PySem.W.Frag) (B : Bs) (W : Wv) (cs : CEs) : TA := fun σ H Q => Go K B (wpR W cs) σ H fun rs S' Z' H' _ => ∀ vs, RvRs K Z' H' S' σ rs vs → Q vs H'
def tO (K : PySem.W.Frag) (B : Bs) (W : Wv) (c : CO) : TO := fun σ H Q => Go K B (wpO W c) σ H fun o S' Z' H' _ => Q o H'
def tC (K : PySem.W.Frag) (B : Bs) (W : Wv) (c : CC) : TT := fun σ H Q => Go K B (wpC W c) σ H fun b S' Z' H' _ => Q b H'
/-- arguments at their values; the new things among them -/
inductive AR (K : PySem.W.Frag) (Z H : Hp) (S : SS) (σ : L2.St) : (Addr → Prop) → List SV → List (Option Nat) → List V → Prop
  | nil : AR K Z H S σ (fun _ => False) [] [] []
  | v {T d v svs is vs} : Rp K Z v d → AR K Z H S σ T svs is vs → AR K Z H S σ T (.val d :: svs) (none :: is) (v :: vs)
  | s {T i sv v svs is vs} : S[i]? = some (some sv) → sv.isRef = true → σ[i]? = some (some v) → AR K Z H S σ T svs is vs → AR K Z H S σ T (sv :: svs) (some i :: is) (v :: vs)
  | t {T sv a svs is vs} : Z a = none → OwnAt K Z H a sv → ¬ OwnA S σ a → ¬ T a → AR K Z H S σ T svs is vs → AR K Z H S σ (fun b => b = a ∨ T b) (sv :: svs) (none :: is) (.ref a :: vs)
def tA (K : PySem.W.Frag) (B : Bs) (W : Wv) (cs : CAs) : TA := fun σ H Q => ∃ S Z Ψ, Rl K Z S σ H ∧ BaseOk B Z S σ H ∧ wpA W cs S Ψ ∧
  ∀ svs is S' Z' H' T vs, Ψ svs is S' → Ste K S σ Z H S' Z' H' → AR K Z' H' S' σ T svs is vs → (∀ a, T a → H a = none) → Q vs H'
/-- what an iterator yields at turn i: data ds[i], the heap as it was, or a new pair -/
def YOk (K : PySem.W.Frag) (Z H : Hp) (x : V) (H' : Hp) (d : D) : Prop :=
  (H' = H ∧ Rp K Z x d) ∨ ∃ T x1 x2 d1 d2, x = .ref T ∧ H T = none ∧ H' = upd H T (.tup [x1, x2]) ∧ d = .tuple [d1, d2] ∧ Rp K Z x1 d1 ∧ Rp K Z x2 d2
def ItOk (K : PySem.W.Frag) (Z : Hp) (J : It) (ds : List D) : Prop := ∃ G : Hp → Prop, (∀ H, Sub Z H → G H) ∧ Walk J ds.length G fun i H x H' => ∃ d, ds[i]? = some d ∧ YOk K Z H x H' d
def tI (K : PySem.W.Frag) (B : Bs) (W : Wv) (c : CI) : TI := fun σ H R => Go K B (wpI W c) σ H fun ds S' Z' H' _ => ∀ J, ItOk K Z' J ds → R J H'

/-! ### readings in a row -/
section
variable {X : Cx} {e : Expr} {t t' : TE}
theorem pe_imp (h : PE X e t) (k : ∀ σ H Q, t' σ H Q → t σ H Q) : PE X e t' := ⟨fun pins s σ H Q I w => h.run pins s σ H Q I (k σ H Q w)⟩
theorem pe_or2 (h : PE X e t) (h' : PE X e t') : PE X e (fun σ H Q => t σ H Q ∨ t' σ H Q) := ⟨fun pins s σ H Q I w => w.elim (h.run pins s σ H Q I) (h'.run pins s σ H Q I)⟩
theorem pt_imp {t t' : TT} (h : PT X e t) (k : ∀ σ H Q, t' σ H Q → t σ H Q) : PT X e t' := ⟨fun pins s σ H Q I w => h.run pins s σ H Q I (k σ H Q w)⟩
theorem pa_imp {es : List Expr} {t t' : TA} (h : PA X es t) (k : ∀ σ H Q, t' σ H Q → t σ H Q) : PA X es t' := ⟨fun pos pins s σ H Q I w => h.run pos pins s σ H Q I (k σ H Q w)⟩
theorem po_imp {o : Option Expr} {t t' : TO} (h : PO X o t) (k : ∀ σ H Q, t' σ H Q → t σ H Q) : PO X o t' := ⟨fun pins s σ H Q I w => h.run pins s σ H Q I (k σ H Q w)⟩
theorem pi_imp {tg : Expr} {t t' : TI} (h : PI X tg e t) (k : ∀ σ H Q, t' σ H Q → t σ H Q) : PI X tg e t' := ⟨fun pins s σ H Q I w => h.run pins s σ H Q I (k σ H Q w)⟩
theorem pi_or2 {tg : Expr} {t t' : TI} (h : PI X tg e t) (h' : PI X tg e t') : PI X tg e (fun σ H Q => t σ H Q ∨ t' σ H Q) := ⟨fun pins s σ H Q I w => w.elim (h.run pins s σ H Q I) (h'.run pins s σ H Q I)⟩
theorem ps_imp {st : Stmt} {t t' : TS} (h : PS X st t) (k : ∀ D σ H, t' D σ H → t D σ H) : PS X st t' := ⟨fun pins s σ H D I w => h.run pins s σ H D I (k D σ H w)⟩
end
section
variable {K : PySem.W.Frag} {B : Bs} {W : Wv} {S S0 : SS} {σ : L2.St} {Z H Z0 H0 : Hp}
/-- to run a node from a state -/
theorem tE_at {c : CE} {Q : VK} (rl : Rl K Z S σ H) (bo : BaseOk B Z S σ H) {Ψ : RV → SS → Prop} (w : wpE W c S Ψ) (k : ∀ r S' Z' H' v, Ψ r S' → Ste K S σ Z H S' Z' H' → RvR K Z' H' S' σ r v → Fr0 H r v → Q v H') : tE K B W c σ H Q :=
  ⟨S, Z, Ψ, rl, bo, w, fun r S' Z' H' h st v rv fr => k r S' Z' H' v h st rv fr⟩
theorem tF_at {c : CEs} {Q : List V → Hp → Prop} (rl : Rl K Z S σ H) (bo : BaseOk B Z S σ H) {Ψ : List D → SS → Prop} (w : wpF W c S Ψ) (k : ∀ ds S' Z' H' vs, Ψ ds S' → Ste K S σ Z H S' Z' H' → RpA K Z' vs ds → Q vs H') : tF K B W c σ H Q :=
  ⟨S, Z, Ψ, rl, bo, w, fun r S' Z' H' h st v rv => k r S' Z' H' v h st rv⟩
theorem tR_at {c : CEs} {Q : List V → Hp → Prop} (rl : Rl K Z S σ H) (bo : BaseOk B Z S σ H) {Ψ : List RV → SS → Prop} (w : wpR W c S Ψ) (k : ∀ ds S' Z' H' vs, Ψ ds S' → Ste K S σ Z H S' Z' H' → RvRs K Z' H' S' σ ds vs → Q vs H') : tR K B W c σ H Q :=
  ⟨S, Z, Ψ, rl, bo, w, fun r S' Z' H' h st v rv => k r S' Z' H' v h st rv⟩
theorem tO_at {c : CO} {Q : Option Int → Hp → Prop} (rl : Rl K Z S σ H) (bo : BaseOk B Z S σ H) {Ψ : Option Int → SS → Prop} (w : wpO W c S Ψ) (k : ∀ o S' Z' H', Ψ o S' → Ste K S σ Z H S' Z' H' → Q o H') : tO K B W c σ H Q :=
  ⟨S, Z, Ψ, rl, bo, w, fun r S' Z' H' h st => k r S' Z' H' h st⟩
theorem tC_at {c : CC} {Q : Bool → Hp → Prop} (rl : Rl K Z S σ H) (bo : BaseOk B Z S σ H) {Ψ : Bool → SS → Prop} (w : wpC W c S Ψ) (k : ∀ o S' Z' H', Ψ o S' → Ste K S σ Z H S' Z' H' → Q o H') : tC K B W c σ H Q :=
  ⟨S, Z, Ψ, rl, bo, w, fun r S' Z' H' h st => k r S' Z' H' h st⟩
theorem tI_at {c : CI} {R : It → Hp → Prop} (rl : Rl K Z S σ H) (bo : BaseOk B Z S σ H) {Ψ : List D → SS → Prop} (w : wpI W c S Ψ) (k : ∀ ds S' Z' H' J, Ψ ds S' → Ste K S σ Z H S' Z' H' → ItOk K Z' J ds → R J H') : tI K B W c σ H R :=
  ⟨S, Z, Ψ, rl, bo, w, fun r S' Z' H' h st J hj => k r S' Z' H' J h st hj⟩
end
theorem RvRs.keep {K : PySem.W.Frag} {S1 S' : SS} {σ : L2.St} {Z1 H1 Z' H' : Hp} (x : Ste K S1 σ Z1 H1 S' Z' H') : ∀ {rs : List RV} {vs : List V}, RvRs K Z1 H1 S1 σ rs vs → RvRs K Z' H' S' σ rs vs
  | _, _, .nil => .nil
  | _, _, .cons r t => .cons (r.keep x) (RvRs.keep x t)
theorem Fr0.from {H0 H1 : Hp} {r : RV} {v : V} (f : Fr0 H1 r v) (k : ∀ a, H1 a = none → H0 a = none) : Fr0 H0 r v := by
  cases r with
  | f sv => exact fun a e => k a (f a e)
  | _ => trivial

section
variable {X : Cx} {G : Pg} {d : Nat} {B : Bs} {W : Wv} {sc : Scope}
/-! ### names, constants -/
theorem vis_of {x : Str} (h : visB sc x = true) : Vis sc x := by
  unfold visB at h
  unfold Vis
  split at h <;> simp_all
theorem loc_of {x : Str} (h : locB sc x = true) : L2.Loc sc x := by
  unfold locB at h
  unfold L2.Loc
  split at h <;> simp_all
theorem gl_of {x : Str} (hs : X.env.scope = sc) (h : ckGl sc x = true) : Gl X x ∧ (x == ("__debug__" : Str)) = false := by
  unfold ckGl at h
  rw [Bool.and_eq_true] at h
  refine ⟨?_, ?_⟩
  · have h1 := h.1
    unfold glB at h1
    show X.env.scope.names.lookup x = some .globalImplicit
    rw [hs]
    split at h1 <;> simp_all
  · have h2 := h.2
    unfold dbgB at h2
    simp only [Bool.not_eq_true', Bool.or_eq_false_iff, decide_eq_false_iff_not] at h2
    exact beq_eq_false_iff_ne.mpr h2.1
theorem ckVar_of {N : List Str} {i : Nat} {x : Str} (h : ckVar N sc i x = true) : N[i]? = some x ∧ Vis sc x ∧ (x == ("__debug__" : Str)) = false ∧ (x == ("__classdict__" : Str)) = false := by
  unfold ckVar dbgB at h
  simp only [Bool.and_eq_true, decide_eq_true_eq, Bool.not_eq_true', Bool.or_eq_false_iff, decide_eq_false_iff_not] at h
  exact ⟨h.1.1, vis_of h.1.2, beq_eq_false_iff_ne.mpr h.2.1, beq_eq_false_iff_ne.mpr h.2.2⟩
theorem e_var {i : Nat} {x : Str} {pos : Pos} (hs : X.env.scope = sc) (h : ckVar X.N sc i x = true) : PE X (.Name x pos) (tE X.K B W (.var i)) := by
  obtain ⟨h1, h2, h3, h4⟩ := ckVar_of h
  refine pe_imp (pe_var h1 (by rw [hs]; exact h2) h3 h4) fun σ H Q ⟨S, Z, Ψ, rl, bo, w, k⟩ => ?_
  obtain ⟨⟨sv, e⟩, w⟩ := w
  obtain ⟨v, h5, h6⟩ := rl.at' i sv e
  exact ⟨v, h5, k _ _ _ _ w (Ste.refl rl) v ⟨sv, e, h5⟩ trivial⟩
theorem e_const {e : Expr} {c : CE} {v : V} {dd : D} (h : PE X e (L2.tC v)) (r : ∀ Z, Rp X.K Z v dd) (k : ∀ S Ψ, wpE W c S Ψ → Ψ (.z dd) S) : PE X e (tE X.K B W c) :=
  pe_imp h fun σ H Q ⟨S, Z, Ψ, rl, bo, w, q⟩ => q _ _ _ _ (k _ _ w) (Ste.refl rl) v (r Z) trivial
theorem e_gl {k : Nat} {x : Str} {pos : Pos} (hs : X.env.scope = sc) (g : Gx X G d) (hgl : W.gl = G.gl) (hx : G.M.gl k = some x) (h : ckGl sc x = true) : PE X (.Name x pos) (tE X.K B W (.gl k)) := by
  obtain ⟨h1, h2⟩ := gl_of hs h
  cases e : G.gl k with
  | none =>
    refine ⟨fun pins s σ H Q I ⟨S, Z, Ψ, rl, bo, w, q⟩ => ?_⟩
    obtain ⟨dd, e', _⟩ := w
    rw [hgl, e] at e'; cases e'
  | some dd =>
    obtain ⟨u, v, k1, k2, k3⟩ := g.gls k x dd hx e
    refine e_const (pe_glob h1 k1 k2 h2) k3 fun S Ψ w => ?_
    obtain ⟨d', e', w⟩ := w
    rw [hgl, e] at e'
    cases e'
    exact w

/-! ### operators -/
variable {a b : Expr} {ca cb cc : CE} {pos : Pos}
theorem e_bin {op : BOp} {o : Operator} (ho : opB op o = true) (ha : PE X a (tE X.K B W ca)) (hb : PE X b (tE X.K B W cb)) : PE X (.BinOp a o b pos) (tE X.K B W (.bin op ca cb)) := by
  obtain ⟨r, hr, hq⟩ := op2_bin (X := X) ho
  refine pe_imp (pe_op hr ha hb) fun σ H Q ⟨S, Z, Ψ, rl, bo, w, k⟩ => ?_
  refine tE_at rl bo w fun r1 S1 Z1 H1 v1 w1 st1 rv1 fr1 => tE_at st1.rl (bo.ste st1) w1 fun r2 S2 Z2 H2 v2 w2 st2 rv2 fr2 => ?_
  obtain ⟨s1, w3, sl1, n1⟩ := rdS_out w2 st2.rl (rv1.keep st2)
  obtain ⟨s2, w4, sl2, n2⟩ := rdS_out w3 st2.rl rv2
  refine hq s1 s2 v1 v2 Z2 H2 _ Q st2.rl.sub sl1 sl2 n1 n2 w4 fun r' v Z' H' h nw => ?_
  obtain ⟨p1, p2, p3⟩ := nw.ste (st1.trans st2)
  exact k _ _ _ _ h p1 v p2 p3
theorem e_neg (ha : PE X a (tE X.K B W ca)) : PE X (.UnaryOp .USub a pos) (tE X.K B W (.neg ca)) := by
  refine pe_imp (pe_un un_neg ha) fun σ H Q ⟨S, Z, Ψ, rl, bo, w, k⟩ => ?_
  refine tE_at rl bo w fun r1 S1 Z1 H1 v1 w1 st1 rv1 fr1 => ?_
  obtain ⟨s1, w3, sl1, n1⟩ := rdS_out w1 st1.rl rv1
  cases e : s1.d with
  | int i => rw [e] at w3; exact ⟨i, sl1.int e, k _ _ _ _ w3 st1 _ (.int _) trivial⟩
  | _ => rw [e] at w3; exact False.elim w3
theorem e_not (ha : PE X a (tE X.K B W ca)) : PE X (.UnaryOp .Not a pos) (tE X.K B W (.not ca)) := by
  refine pe_imp (pe_not ha) fun σ H Q ⟨S, Z, Ψ, rl, bo, w, k⟩ => ?_
  refine tE_at rl bo w fun r1 S1 Z1 H1 v1 w1 st1 rv1 fr1 => ?_
  obtain ⟨s1, w3, sl1, n1⟩ := rdS_out w1 st1.rl rv1
  cases e : s1.d with
  | bool i => rw [e] at w3; exact ⟨i, sl1.bl e, k _ _ _ _ w3 st1 _ (.bl _) trivial⟩
  | _ => rw [e] at w3; exact False.elim w3
theorem e_cmp {op : COp} {o : CmpOp} (g : Gx X G d) (ho : copB op o = true) (hm : behindInMarks o b = false) (ha : PE X a (tE X.K B W ca)) (hb : PE X b (tE X.K B W cb)) : PE X (.Compare a [o] [b] pos) (tE X.K B W (.cmp op ca cb)) := by
  obtain ⟨r, hr, hq⟩ := cp_all (X := X) g.room.units ho
  refine pe_imp (pe_cmpR hr ha hb hm) fun σ H Q ⟨S, Z, Ψ, rl, bo, w, k⟩ => ?_
  refine tE_at rl bo w fun r1 S1 Z1 H1 v1 w1 st1 rv1 fr1 => tE_at st1.rl (bo.ste st1) w1 fun r2 S2 Z2 H2 v2 w2 st2 rv2 fr2 => ?_
  obtain ⟨s1, w3, sl1, n1⟩ := rdS_out w2 st2.rl (rv1.keep st2)
  obtain ⟨s2, w4, sl2, n2⟩ := rdS_out w3 st2.rl rv2
  exact hq s1 s2 v1 v2 Z2 H2 _ Q st2.rl.sub sl1 sl2 n1 n2 w4 fun c h => k _ _ _ _ h (st1.trans st2) _ (.bl _) trivial
theorem c_cmp {op : COp} {o : CmpOp} (g : Gx X G d) (ho : copB op o = true) (hm : behindInMarks o b = false) (ha : PE X a (tE X.K B W ca)) (hb : PE X b (tE X.K B W cb)) : PT X (.Compare a [o] [b] pos) (tC X.K B W (.e (.cmp op ca cb))) := by
  obtain ⟨r, hr, hq⟩ := cp_all (X := X) g.room.units ho
  refine pt_imp (pt_cmpR hr ha hb hm) fun σ H Q ⟨S, Z, Ψ, rl, bo, w, k⟩ => ?_
  refine tE_at rl bo w fun r1 S1 Z1 H1 v1 w1 st1 rv1 fr1 => tE_at st1.rl (bo.ste st1) w1 fun r2 S2 Z2 H2 v2 w2 st2 rv2 fr2 => ?_
  obtain ⟨s1, w3, sl1, n1⟩ := rdS_out w2 st2.rl (rv1.keep st2)
  obtain ⟨s2, w4, sl2, n2⟩ := rdS_out w3 st2.rl rv2
  exact hq s1 s2 v1 v2 Z2 H2 _ _ st2.rl.sub sl1 sl2 n1 n2 w4 fun c h => ⟨c, rfl, k _ _ _ _ h (st1.trans st2)⟩
theorem e_cmp2 {c : Expr} {op op' : COp} {o o' : CmpOp} (g : Gx X G d) (ho : copB op o = true) (ho' : copB op' o' = true) (hm : lastMarks [o, o'] [b, c] = false) (ha : PE X a (tE X.K B W ca)) (hb : PE X b (tE X.K B W cb)) (hc : PE X c (tE X.K B W cc)) :
    PE X (.Compare a [o, o'] [b, c] pos) (tE X.K B W (.cmp2 op op' ca cb cc)) := by
  obtain ⟨r, hr, hq⟩ := cp_all (X := X) g.room.units ho
  obtain ⟨r', hr', hq'⟩ := cp_all (X := X) g.room.units ho'
  refine pe_imp (pe_chain hr hr' ha hb hc hm) fun σ H Q ⟨S, Z, Ψ, rl, bo, w, k⟩ => ?_
  refine tE_at rl bo w fun r1 S1 Z1 H1 v1 w1 st1 rv1 fr1 => tE_at st1.rl (bo.ste st1) w1 fun r2 S2 Z2 H2 v2 w2 st2 rv2 fr2 => ?_
  obtain ⟨s1, w3, sl1, n1⟩ := rdS_out w2 st2.rl (rv1.keep st2)
  obtain ⟨s2, w4, sl2, n2⟩ := rdS_out w3 st2.rl rv2
  have st12 := st1.trans st2
  refine hq s1 s2 v1 v2 Z2 H2 _ _ st2.rl.sub sl1 sl2 n1 n2 w4 fun c h => ⟨c, rfl, ?_⟩
  cases c with
  | false => exact iteF (k _ _ _ _ (h.2 rfl) st12 _ (.bl _) trivial)
  | true =>
    refine iteT (tE_at st2.rl (bo.ste st12) (h.1 rfl) fun r3 S3 Z3 H3 v3 w5 st3 rv3 fr3 => ?_)
    obtain ⟨s2', w6, sl2', n2'⟩ := rdS_out w5 st3.rl (rv2.keep st3)
    obtain ⟨s3, w7, sl3, n3⟩ := rdS_out w6 st3.rl rv3
    exact hq' s2' s3 v2 v3 Z3 H3 _ Q st3.rl.sub sl2' sl3 n2' n3 w7 fun c h => k _ _ _ _ h (st12.trans st3) _ (.bl _) trivial
theorem c_cmp2 {c : Expr} {op op' : COp} {o o' : CmpOp} (g : Gx X G d) (ho : copB op o = true) (ho' : copB op' o' = true) (hm : lastMarks [o, o'] [b, c] = false) (ha : PE X a (tE X.K B W ca)) (hb : PE X b (tE X.K B W cb)) (hc : PE X c (tE X.K B W cc)) :
    PT X (.Compare a [o, o'] [b, c] pos) (tC X.K B W (.e (.cmp2 op op' ca cb cc))) := by
  obtain ⟨r, hr, hq⟩ := cp_all (X := X) g.room.units ho
  obtain ⟨r', hr', hq'⟩ := cp_all (X := X) g.room.units ho'
  refine pt_imp (pt_chain hr hr' ha hb hc hm) fun σ H Q ⟨S, Z, Ψ, rl, bo, w, k⟩ => ?_
  refine tE_at rl bo w fun r1 S1 Z1 H1 v1 w1 st1 rv1 fr1 => tE_at st1.rl (bo.ste st1) w1 fun r2 S2 Z2 H2 v2 w2 st2 rv2 fr2 => ?_
  obtain ⟨s1, w3, sl1, n1⟩ := rdS_out w2 st2.rl (rv1.keep st2)
  obtain ⟨s2, w4, sl2, n2⟩ := rdS_out w3 st2.rl rv2
  have st12 := st1.trans st2
  refine hq s1 s2 v1 v2 Z2 H2 _ _ st2.rl.sub sl1 sl2 n1 n2 w4 fun c h => ⟨c, rfl, ?_⟩
  cases c with
  | false => exact iteF ⟨false, rfl, k _ _ _ _ (h.2 rfl) st12⟩
  | true =>
    refine iteT (tE_at st2.rl (bo.ste st12) (h.1 rfl) fun r3 S3 Z3 H3 v3 w5 st3 rv3 fr3 => ?_)
    obtain ⟨s2', w6, sl2', n2'⟩ := rdS_out w5 st3.rl (rv2.keep st3)
    obtain ⟨s3, w7, sl3, n3⟩ := rdS_out w6 st3.rl rv3
    exact hq' s2' s3 v2 v3 Z3 H3 _ _ st3.rl.sub sl2' sl3 n2' n3 w7 fun c h => ⟨c, rfl, k _ _ _ _ h (st12.trans st3)⟩
theorem e_ife {c : Expr} {ct : CC} (hc : PT X c (tC X.K B W ct)) (ha : PE X a (tE X.K B W ca)) (hb : PE X b (tE X.K B W cb)) : PE X (.IfExp c a b pos) (tE X.K B W (.ife ct ca cb)) := by
  refine pe_imp (pe_ifExp hc ha hb) fun σ H Q ⟨S, Z, Ψ, rl, bo, w, k⟩ => ?_
  refine tC_at rl bo w fun o S1 Z1 H1 w1 st1 => ?_
  cases o with
  | true => exact iteT (tE_at st1.rl (bo.ste st1) (w1.1 rfl) fun r2 S2 Z2 H2 v2 w2 st2 rv2 fr2 => k _ _ _ _ w2 (st1.trans st2) v2 rv2 (fr2.from fun a h => st1.ex.none h))
  | false => exact iteF (tE_at st1.rl (bo.ste st1) (w1.2 rfl) fun r2 S2 Z2 H2 v2 w2 st2 rv2 fr2 => k _ _ _ _ w2 (st1.trans st2) v2 rv2 (fr2.from fun a h => st1.ex.none h))
theorem slice_plain {e : Expr} (h : notSliceB e = true) : PlainIx e := by
  cases e <;> first | exact fun _ _ => rfl | cases h
theorem slice_nosl {e : Expr} (h : notSliceB e = true) : NoSl e := by
  cases e <;> first | exact fun _ _ => rfl | cases h
def rIxD : R2 := fun x y H Q => ∃ a v, x = .ref a ∧ DGet H a y (some v) ∧ Q v H
theorem ix_dict (hu : X.A.units + 1 < cLine) : IxR X rIxD := by
  intro value slice pins s σ H x y v u Q I rx ry h hs
  obtain ⟨a, z, rfl, g, q⟩ := h
  cases rx
  exact PyProof.Rows.tail_any (dict_typeIs I g) PySem.F.slot_dict_getitem.lookup (d_getItem hu I g ry fun w' s3 I3 rw' => ⟨z, H, I3, rw', q⟩) hs
theorem e_ix (g : Gx X G d) (hs : notSliceB b = true) (ha : PE X a (tE X.K B W ca)) (hb : PE X b (tE X.K B W cb)) : PE X (.Subscript a b pos) (tE X.K B W (.ix ca cb)) := by
  refine pe_imp (pe_ix ((ix_dict (by have := g.room.units; omega)).or ix_seq) ha hb (slice_plain hs)) fun σ H Q ⟨S, Z, Ψ, rl, bo, w, k⟩ => ?_
  refine tE_at rl bo w fun r1 S1 Z1 H1 v1 w1 st1 rv1 fr1 => tE_at st1.rl (bo.ste st1) w1 fun r2 S2 Z2 H2 v2 w2 st2 rv2 fr2 => ?_
  obtain ⟨s1, w3, sl1, n1⟩ := rdS_out w2 st2.rl (rv1.keep st2)
  obtain ⟨s2, w4, sl2, n2⟩ := rdS_out w3 st2.rl rv2
  exact ix_out st2.rl.sub sl1 sl2 n1 n2 w4 fun dd v h rp => k _ _ _ _ h (st1.trans st2) v rp trivial
/-! ### slices -/
theorem o_none {o : Option Expr} (h : o = none) : PO X o (tO X.K B W .none) := by
  subst h
  exact po_imp po_none fun σ H Q ⟨S, Z, Ψ, rl, bo, w, k⟩ => k _ _ _ _ w (Ste.refl rl)
theorem o_some (ha : PE X a (tE X.K B W ca)) : PO X (some a) (tO X.K B W (.some ca)) := by
  refine po_imp (po_some ha) fun σ H Q ⟨S, Z, Ψ, rl, bo, w, k⟩ => ?_
  refine tE_at rl bo w fun r1 S1 Z1 H1 v1 w1 st1 rv1 fr1 => ?_
  obtain ⟨s1, w3, sl1, n1⟩ := rdS_out w1 st1.rl rv1
  cases e : s1.d with
  | int i => rw [e] at w3; exact ⟨i, sl1.int e, k _ _ _ _ w3 st1⟩
  | _ => rw [e] at w3; exact False.elim w3
theorem e_sl {lo hi : Option Expr} {cl ch : CO} {p2 : Pos} (ha : PE X a (tE X.K B W ca)) (hl : PO X lo (tO X.K B W cl)) (hh : PO X hi (tO X.K B W ch)) : PE X (.Subscript a (.Slice lo hi none p2) pos) (tE X.K B W (.sl ca cl ch)) := by
  refine pe_imp (pe_slice (sl_list.or (sl_tupA.or sl_str)) ha hl hh) fun σ H Q ⟨S, Z, Ψ, rl, bo, w, k⟩ => ?_
  refine tE_at rl bo w fun r1 S1 Z1 H1 v1 w1 st1 rv1 fr1 => tO_at st1.rl (bo.ste st1) w1 fun l S2 Z2 H2 w2 st2 => tO_at st2.rl ((bo.ste st1).ste st2) w2 fun u S3 Z3 H3 w3 st3 => ?_
  obtain ⟨s1, w4, sl1⟩ := rdX_out w3 st3.rl ((rv1.keep st2).keep st3)
  refine sl_out st3.rl.sub sl1 w4 fun r' v Z' H' h nw => ?_
  obtain ⟨p1, p2, p3⟩ := nw.ste ((st1.trans st2).trans st3)
  exact k _ _ _ _ h p1 v p2 p3

/-! ### several -/
theorem star_ok {e : Expr} {es : List Expr} {env : Env} (h : notStarB e = true) : starEach (e :: es) env = (false, eval e env) :: starEach es env := by
  cases e <;> first | rfl | cases h
def noStarsB : List Expr → Bool
  | [] => true
  | e :: es => notStarB e && noStarsB es
theorem stars_ok {pos : Pos} {env : Env} : ∀ {es : List Expr}, noStarsB es = true → (backTo pos (starEach es env)).any (·.1) = false
  | [], _ => rfl
  | e :: es, h => by
    have h' : notStarB e = true ∧ noStarsB es = true := by simpa [noStarsB] using h
    rw [star_ok h'.1]
    show (false || (backTo pos (starEach es env)).any (·.1)) = false
    rw [stars_ok h'.2]
    rfl
theorem f_nil : PA X [] (tF X.K B W .nil) := pa_imp pa_nil fun σ H Q ⟨S, Z, Ψ, rl, bo, w, k⟩ => k _ _ _ _ w (Ste.refl rl) [] .nil
theorem f_cons {e : Expr} {es : List Expr} {c : CE} {cs : CEs} (hn : notStarB e = true) (he : PE X e (tE X.K B W c)) (hs : PA X es (tF X.K B W cs)) : PA X (e :: es) (tF X.K B W (.cons c cs)) := by
  refine pa_imp (pa_cons he hs (star_ok hn)) fun σ H Q ⟨S, Z, Ψ, rl, bo, w, k⟩ => ?_
  refine tE_at rl bo w fun r1 S1 Z1 H1 v1 w1 st1 rv1 fr1 => ?_
  obtain ⟨dd, S1', Z1', w2, st1', rp⟩ := fzS_out w1 st1 rv1 fr1
  exact tF_at st1'.rl (bo.ste st1') w2 fun ds S2 Z2 H2 vs w3 st2 ra => k _ _ _ _ w3 (st1'.trans st2) _ (.cons (rp.mono st2.ex.zz) ra)
theorem r_nil : PA X [] (tR X.K B W .nil) := pa_imp pa_nil fun σ H Q ⟨S, Z, Ψ, rl, bo, w, k⟩ => k _ _ _ _ w (Ste.refl rl) [] .nil
theorem r_cons {e : Expr} {es : List Expr} {c : CE} {cs : CEs} (hn : notStarB e = true) (he : PE X e (tE X.K B W c)) (hs : PA X es (tR X.K B W cs)) : PA X (e :: es) (tR X.K B W (.cons c cs)) := by
  refine pa_imp (pa_cons he hs (star_ok hn)) fun σ H Q ⟨S, Z, Ψ, rl, bo, w, k⟩ => ?_
  refine tE_at rl bo w fun r1 S1 Z1 H1 v1 w1 st1 rv1 fr1 => ?_
  exact tR_at st1.rl (bo.ste st1) w1 fun ds S2 Z2 H2 vs w3 st2 ra => k _ _ _ _ w3 (st1.trans st2) _ (.cons (rv1.keep st2) ra)
theorem e_tup {es : List Expr} {cs : CEs} {j : Nat} (h : PA X es (tF X.K B W cs)) : PE X (.Tuple es j pos) (tE X.K B W (.tup cs)) := by
  refine pe_imp (pe_tup h) fun σ H Q ⟨S, Z, Ψ, rl, bo, w, k⟩ => ?_
  refine tF_at rl bo w fun ds S1 Z1 H1 vs w1 st1 ra => ⟨by rw [ra.length]; exact w1.1, fun p hp => ?_⟩
  obtain ⟨p1, p2, p3⟩ := (NewR.tup hp ra).ste st1
  exact k _ _ _ _ w1.2 p1 _ p2 p3
theorem e_lst {es : List Expr} {cs : CEs} (h : PA X es (tF X.K B W cs)) : PE X (.List es pos) (tE X.K B W (.lst cs)) := by
  refine pe_imp (pe_lst h) fun σ H Q ⟨S, Z, Ψ, rl, bo, w, k⟩ => ?_
  refine tF_at rl bo w fun ds S1 Z1 H1 vs w1 st1 ra => ⟨by rw [ra.length]; exact w1.1, fun p hp => ?_⟩
  obtain ⟨p1, p2, p3⟩ := (NewR.obj (sv := .ls ds) (o := .lst vs) hp ⟨_, upd_same, ra⟩).ste st1
  exact k _ _ _ _ w1.2 p1 _ p2 p3
theorem e_dK0 : PE X (.Dict [] [] pos) (tE X.K B W .dK0) := by
  refine pe_imp pe_dnewK fun σ H Q ⟨S, Z, Ψ, rl, bo, w, k⟩ p hp => ?_
  obtain ⟨p1, p2, p3⟩ := (NewR.obj (sv := .dk []) (o := .dK []) hp ⟨[], upd_same, .nil⟩).ste (Ste.refl rl)
  exact k _ _ _ _ w p1 _ p2 p3
theorem e_dT0 : PE X (.Dict [] [] pos) (tE X.K B W .dT0) := by
  refine pe_imp pe_dnewT fun σ H Q ⟨S, Z, Ψ, rl, bo, w, k⟩ p hp => ?_
  obtain ⟨p1, p2, p3⟩ := (NewR.obj (sv := .dt []) (o := .dT []) hp ⟨[], upd_same, .nil⟩).ste (Ste.refl rl)
  exact k _ _ _ _ w p1 _ p2 p3
theorem e_revL {k1 : Nat} {p1 p2 p3 : Pos} (ha : PE X a (tE X.K B W ca)) : PE X (.Subscript a (.Slice none none (some (.UnaryOp .USub (.Constant (.int 1) k1 p1) p2)) p3) pos) (tE X.K B W (.rev ca)) := by
  refine pe_imp (pe_revL ha) fun σ H Q ⟨S, Z, Ψ, rl, bo, w, k⟩ => ?_
  refine tE_at rl bo w fun r1 S1 Z1 H1 v1 w1 st1 rv1 fr1 => ?_
  obtain ⟨s1, w2, sl1, n1⟩ := rdS_out w1 st1.rl rv1
  cases e : s1.d with
  | list xs =>
    have w2 : (match s1.d with | .list xs => Ψ (.f (.ls xs.reverse)) S1 | _ => False) := w2
    rw [e] at w2
    obtain ⟨ad, ys, rfl, h, ra⟩ := sl1.lst st1.rl.sub n1 e
    refine ⟨ad, ys, rfl, .inl (.inl h), fun p hp => ?_⟩
    obtain ⟨p1, p2, p3⟩ := (NewR.obj (sv := .ls xs.reverse) (o := .lst ys.reverse) hp ⟨_, upd_same, ra.rev⟩).ste st1
    exact k _ _ _ _ w2 p1 _ p2 p3
  | _ =>
    have w2 : (match s1.d with | .list xs => Ψ (.f (.ls xs.reverse)) S1 | _ => False) := w2
    rw [e] at w2; exact False.elim w2
/-! ### and, or -/
theorem and_one {e : Expr} {c : CE} (he : PE X e (tE X.K B W c)) : PE X (.BoolOp .And [e] pos) (tE X.K B W (.and (.cons c .nil))) :=
  pe_imp (pe_one he) fun σ H Q ⟨S, Z, Ψ, rl, bo, w, k⟩ => ⟨S, Z, Ψ, rl, bo, w, k⟩
theorem and_cons {e f : Expr} {es : List Expr} {c c' : CE} {cs : CEs} (he : PE X e (tE X.K B W c)) (hs : PE X (.BoolOp .And (f :: es) pos) (tE X.K B W (.and (.cons c' cs)))) : PE X (.BoolOp .And (e :: f :: es) pos) (tE X.K B W (.and (.cons c (.cons c' cs)))) := by
  refine pe_imp (pe_and he hs) fun σ H Q ⟨S, Z, Ψ, rl, bo, w, k⟩ => ?_
  refine tE_at rl bo w fun r1 S1 Z1 H1 v1 w1 st1 rv1 fr1 => ?_
  obtain ⟨s1, ⟨b, e1, w2, w3⟩, sl1, n1⟩ := rdS_out w1 st1.rl rv1
  refine ⟨b, sl1.bl e1, ?_⟩
  cases b with
  | true => exact iteT (tE_at st1.rl (bo.ste st1) (w2 rfl) fun r2 S2 Z2 H2 v2 w2 st2 rv2 fr2 => k _ _ _ _ w2 (st1.trans st2) v2 rv2 (fr2.from fun a h => st1.ex.none h))
  | false => exact iteF (k _ _ _ _ (w3 rfl) st1 _ (.bl _) trivial)
theorem or_one {e : Expr} {c : CE} (he : PE X e (tE X.K B W c)) : PE X (.BoolOp .Or [e] pos) (tE X.K B W (.or (.cons c .nil))) :=
  pe_imp (pe_one he) fun σ H Q ⟨S, Z, Ψ, rl, bo, w, k⟩ => ⟨S, Z, Ψ, rl, bo, w, k⟩
theorem or_cons {e f : Expr} {es : List Expr} {c c' : CE} {cs : CEs} (he : PE X e (tE X.K B W c)) (hs : PE X (.BoolOp .Or (f :: es) pos) (tE X.K B W (.or (.cons c' cs)))) : PE X (.BoolOp .Or (e :: f :: es) pos) (tE X.K B W (.or (.cons c (.cons c' cs)))) := by
  refine pe_imp (pe_or he hs) fun σ H Q ⟨S, Z, Ψ, rl, bo, w, k⟩ => ?_
  refine tE_at rl bo w fun r1 S1 Z1 H1 v1 w1 st1 rv1 fr1 => ?_
  obtain ⟨s1, ⟨b, e1, w2, w3⟩, sl1, n1⟩ := rdS_out w1 st1.rl rv1
  refine ⟨b, sl1.bl e1, ?_⟩
  cases b with
  | false => exact iteF (tE_at st1.rl (bo.ste st1) (w3 rfl) fun r2 S2 Z2 H2 v2 w2 st2 rv2 fr2 => k _ _ _ _ w2 (st1.trans st2) v2 rv2 (fr2.from fun a h => st1.ex.none h))
  | true => exact iteT (k _ _ _ _ (w2 rfl) st1 _ (.bl _) trivial)
/-! ### tests -/
theorem c_plain {e : Expr} {c : CE} (hp : ∀ whole, isTrue e X.env whole = (do let v ← whole; standAt e.pos; holding [v] (truthy v))) (he : PE X e (tE X.K B W c)) : PT X e (tC X.K B W (.e c)) := by
  refine pt_imp (pt_truth he hp) fun σ H Q ⟨S, Z, Ψ, rl, bo, w, k⟩ => ?_
  refine tE_at rl bo w fun r1 S1 Z1 H1 v1 w1 st1 rv1 fr1 => ?_
  obtain ⟨s1, w2, sl1, n1⟩ := rdS_out w1 st1.rl rv1
  obtain ⟨b, tr, w3⟩ := tr_out st1.rl.sub sl1 n1 w2
  exact ⟨b, tr, k _ _ _ _ w3 st1⟩
theorem c_not {c : CC} (h : PT X a (tC X.K B W c)) : PT X (.UnaryOp .Not a pos) (tC X.K B W (.not c)) :=
  pt_imp (pt_not h) fun σ H Q ⟨S, Z, Ψ, rl, bo, w, k⟩ => tC_at rl bo w fun o S1 Z1 H1 w1 st1 => k _ _ _ _ w1 st1
theorem ca_one {e : Expr} {c : CC} (he : PT X e (tC X.K B W c)) : PW X (.BoolOp .And [e] pos) (tC X.K B W (.and (.cons c .nil))) :=
  ⟨fun wh pins s σ H Q I w => (pw_and1 he).run wh pins s σ H Q I w⟩
theorem ca_cons {e f : Expr} {es : List Expr} {c c' : CC} {cs : CCs} (he : PT X e (tC X.K B W c)) (hs : PW X (.BoolOp .And (f :: es) pos) (tC X.K B W (.and (.cons c' cs)))) : PW X (.BoolOp .And (e :: f :: es) pos) (tC X.K B W (.and (.cons c (.cons c' cs)))) := by
  refine ⟨fun wh pins s σ H Q I ⟨S, Z, Ψ, rl, bo, w, k⟩ => (pw_and he hs).run wh pins s σ H Q I ?_⟩
  refine tC_at rl bo w fun o S1 Z1 H1 w1 st1 => ?_
  cases o with
  | true => exact iteT (tC_at st1.rl (bo.ste st1) (w1.1 rfl) fun o S2 Z2 H2 w2 st2 => k _ _ _ _ w2 (st1.trans st2))
  | false => exact iteF (k _ _ _ _ (w1.2 rfl) st1)
theorem co_one {e : Expr} {c : CC} (he : PT X e (tC X.K B W c)) : PW X (.BoolOp .Or [e] pos) (tC X.K B W (.or (.cons c .nil))) :=
  ⟨fun wh pins s σ H Q I w => (pw_or1 he).run wh pins s σ H Q I w⟩
theorem co_cons {e f : Expr} {es : List Expr} {c c' : CC} {cs : CCs} (he : PT X e (tC X.K B W c)) (hs : PW X (.BoolOp .Or (f :: es) pos) (tC X.K B W (.or (.cons c' cs)))) : PW X (.BoolOp .Or (e :: f :: es) pos) (tC X.K B W (.or (.cons c (.cons c' cs)))) := by
  refine ⟨fun wh pins s σ H Q I ⟨S, Z, Ψ, rl, bo, w, k⟩ => (pw_or he hs).run wh pins s σ H Q I ?_⟩
  refine tC_at rl bo w fun o S1 Z1 H1 w1 st1 => ?_
  cases o with
  | false => exact iteF (tC_at st1.rl (bo.ste st1) (w1.2 rfl) fun o S2 Z2 H2 w2 st2 => k _ _ _ _ w2 (st1.trans st2))
  | true => exact iteT (k _ _ _ _ (w1.1 rfl) st1)
end
end Fw

set_option Elab.async false
set_option linter.all false
set_option maxRecDepth 100000
set_option maxHeartbeats 4000000
/-! Fw, part H: targets, what is walked, comprehensions. -/
namespace Fw
open PySem PySem.Spec L2

/-! ### targets -/
mutual
def tgT (K : PySem.W.Frag) : CT → TG
  | .v i => gName i
  | .t ts => gTup K ts.length (tgTs K ts)
def tgTs (K : PySem.W.Frag) : List CT → TGs
  | [] => gNil
  | t :: ts => gCons (tgT K t) (tgTs K ts)
end
mutual
def ixT : CT → List Nat
  | .v i => [i]
  | .t ts => ixTs ts
def ixTs : List CT → List Nat
  | [] => []
  | t :: ts => ixT t ++ ixTs ts
end
theorem as_len {env : Env} : ∀ (es : List Expr), (assignEach es env).length = es.length
  | [] => rfl
  | e :: es => by
    have h : (assignEach (e :: es) env).length = (assignEach es env).length + 1 := by cases e <;> rfl
    rw [h, as_len es]; rfl
theorem as_find {env : Env} : ∀ (es : List Expr), noStarsB es = true → (assignEach es env).findIdx? (·.1) = none
  | [], _ => rfl
  | e :: es, h => by
    have h' : notStarB e = true ∧ noStarsB es = true := by simpa [noStarsB] using h
    obtain ⟨h1, h2⟩ := h'
    have ih := as_find (env := env) es h2
    have k : assignEach (e :: es) env = (false, assign e env) :: assignEach es env := by cases e <;> first | rfl | cases h1
    rw [k, List.findIdx?_cons]
    simp [ih]
theorem as_cons {env : Env} {e : Expr} {es : List Expr} (h : notStarB e = true) : (assignEach (e :: es) env).map (·.2) = assign e env :: (assignEach es env).map (·.2) := by
  cases e <;> first | rfl | cases h
section
variable {X : Cx} {sc : Scope} {fx : List Nat}
mutual
theorem g_ok (nd : X.N.Nodup) (hc : X.calm = true) (hL : ∀ x, locB sc x = true → L2.Loc X.env.scope x ∧ (X.fn x = true ∨ X.env.scope.names.lookup x = some .local)) : ∀ (t : CT) (e : Expr), ckT X.N fx sc t e = true → PG X e (tgT X.K t)
  | .v i, e, h => by
    cases e with
    | Name x pos =>
      have h' : (decide (X.N[i]? = some x) && locB sc x && !fx.contains i) = true := h
      simp only [Bool.and_eq_true, decide_eq_true_eq] at h'
      obtain ⟨k1, k2⟩ := hL x h'.1.2
      exact pg_name nd h'.1.1 k1 k2
    | _ => cases h
  | .t ts, e, h => by
    cases e with
    | Tuple es k pos =>
      have h' : ckTs X.N fx sc ts es = true := h
      obtain ⟨g, n1, n2⟩ := gs_ok nd hc hL ts es h'
      exact pg_tup hc g (by rw [as_len, n1]) (as_find es n2)
    | _ => cases h
theorem gs_ok (nd : X.N.Nodup) (hc : X.calm = true) (hL : ∀ x, locB sc x = true → L2.Loc X.env.scope x ∧ (X.fn x = true ∨ X.env.scope.names.lookup x = some .local)) : ∀ (ts : List CT) (es : List Expr), ckTs X.N fx sc ts es = true →
    PGs X es (tgTs X.K ts) ∧ es.length = ts.length ∧ noStarsB es = true
  | [], es, h => by
    cases es with
    | nil => exact ⟨pgs_nil, rfl, rfl⟩
    | cons _ _ => cases h
  | t :: ts, es, h => by
    cases es with
    | nil => cases h
    | cons e es =>
      have h' : (notStarB e && ckT X.N fx sc t e && ckTs X.N fx sc ts es) = true := h
      simp only [Bool.and_eq_true] at h'
      obtain ⟨g, n1, n2⟩ := gs_ok nd hc hL ts es h'.2
      exact ⟨pgs_cons (g_ok nd hc hL t e h'.1.2) g (as_cons h'.1.1), by rw [List.length_cons, List.length_cons, n1], by simp [noStarsB, h'.1.1, n2]⟩
end
end

mutual
theorem bindT_ex : ∀ (t : CT) (d : D) (S : SS) (P : SS → Prop), bindT t d S P → ∃ S1, P S1
  | .v i, d, S, P, h => ⟨_, h⟩
  | .t ts, d, S, P, h => by
    cases d with
    | tuple ds => exact (bindTs_ex ts ds S P h).1
    | _ => exact False.elim h
theorem bindTs_ex : ∀ (ts : List CT) (ds : List D) (S : SS) (P : SS → Prop), bindTs ts ds S P → (∃ S1, P S1) ∧ ds.length = ts.length
  | [], ds, S, P, h => by
    cases ds with
    | nil => exact ⟨⟨_, h⟩, rfl⟩
    | cons _ _ => exact False.elim h
  | t :: ts, ds, S, P, h => by
    cases ds with
    | nil => exact False.elim h
    | cons d ds =>
      obtain ⟨S1, h1⟩ := bindT_ex t d S _ h
      obtain ⟨h2, h3⟩ := bindTs_ex ts ds S1 P h1
      exact ⟨h2, by rw [List.length_cons, List.length_cons, h3]⟩
end
/-- the slots in ts have changed, to data -/
structure BdR (ts : List Nat) (S : SS) (σ : L2.St) (S' : SS) (σ' : L2.St) : Prop where
  same : ∀ j, j ∉ ts → S'[j]? = S[j]? ∧ σ'[j]? = σ[j]?
  val : ∀ j, j ∈ ts → ∀ sv, S'[j]? = some (some sv) → sv.isOwn = false
  len : σ'.length = σ.length
theorem BdR.refl {ts : List Nat} {S : SS} {σ : L2.St} : BdR [] S σ S σ := ⟨fun _ _ => ⟨rfl, rfl⟩, (fun _ h => by cases h), rfl⟩
theorem BdR.trans {ts us : List Nat} {S S1 S2 : SS} {σ σ1 σ2 : L2.St} (x : BdR ts S σ S1 σ1) (y : BdR us S1 σ1 S2 σ2) : BdR (ts ++ us) S σ S2 σ2 where
  same := fun j h => by
    simp only [List.mem_append, not_or] at h
    obtain ⟨a1, a2⟩ := x.same j h.1
    obtain ⟨b1, b2⟩ := y.same j h.2
    exact ⟨b1.trans a1, b2.trans a2⟩
  val := fun j h sv e => by
    by_cases hu : j ∈ us
    · exact y.val j hu sv e
    · have ht : j ∈ ts := by
        rcases List.mem_append.mp h with z | z
        · exact z
        · exact absurd z hu
      rw [(y.same j hu).1] at e
      exact x.val j ht sv e
  len := y.len.trans x.len
theorem BdR.own {ts : List Nat} {S S' : SS} {σ σ' : L2.St} (x : BdR ts S σ S' σ') {a : Addr} (h : OwnA S' σ' a) : OwnA S σ a ∧ ∃ j, j ∉ ts ∧ ∃ sv, S'[j]? = some (some sv) ∧ sv.isOwn = true ∧ σ'[j]? = some (some (.ref a)) := by
  obtain ⟨j, sv, e, o, k⟩ := h
  by_cases hj : j ∈ ts
  · rw [x.val j hj sv e] at o; cases o
  · obtain ⟨a1, a2⟩ := x.same j hj
    exact ⟨⟨j, sv, by rw [← a1]; exact e, o, by rw [← a2]; exact k⟩, j, hj, sv, e, o, k⟩
section
variable {K : PySem.W.Frag} {Z H : Hp}
theorem Rl.setBoth {S : SS} {σ : L2.St} (rl : Rl K Z S σ H) {i : Nat} {x : V} {d : D} (r : Rp K Z x d) : Rl K Z (S.set i (some (.val d))) (σ.set i (some x)) H ∧ BdR [i] S σ (S.set i (some (.val d))) (σ.set i (some x)) := by
  have f : ∀ {m : Nat} {s : SV}, (S.set i (some (.val d)))[m]? = some (some s) → s.isOwn = true → S[m]? = some (some s) ∧ m ≠ i := fun {m s} e o => by
    by_cases hm : m = i
    · subst hm
      rw [List.getElem?_set_self'] at e
      cases q : S[m]? with
      | none => rw [q] at e; cases e
      | some u => rw [q] at e; cases e; cases o
    · rw [List.getElem?_set_ne (Ne.symm hm)] at e
      exact ⟨e, hm⟩
  refine ⟨⟨rl.sub, by rw [List.length_set, List.length_set]; exact rl.len, fun j sv e => ?_, fun j l sj sl a e1 o1 e2 o2 k1 k2 => ?_⟩, fun j h => ?_, fun j h sv e => ?_, List.length_set⟩
  · by_cases hj : j = i
    · subst hj
      rw [List.getElem?_set_self'] at e
      cases q : S[j]? with
      | none => rw [q] at e; cases e
      | some u =>
        rw [q] at e; cases e
        have hl : j < σ.length := by rw [← rl.len]; exact (List.getElem?_eq_some_iff.mp q).1
        exact ⟨x, List.getElem?_set_self hl, r⟩
    · rw [List.getElem?_set_ne (Ne.symm hj)] at e ⊢
      exact rl.at' j sv e
  · obtain ⟨p1, n1⟩ := f e1 o1
    obtain ⟨p2, n2⟩ := f e2 o2
    rw [List.getElem?_set_ne (Ne.symm n1)] at k1
    rw [List.getElem?_set_ne (Ne.symm n2)] at k2
    exact rl.sep j l sj sl a p1 o1 p2 o2 k1 k2
  · have hj : j ≠ i := by simpa using h
    exact ⟨List.getElem?_set_ne (Ne.symm hj), List.getElem?_set_ne (Ne.symm hj)⟩
  · have hj : j = i := by simpa using h
    subst hj
    cases sv with
    | val d => rfl
    | ro d => rfl
    | _ => exact absurd (f e rfl).2 (by simp)
mutual
theorem bind_out : ∀ (t : CT) {d : D} {S : SS} {σ : L2.St} {x : V} {P : SS → Prop} {Q : L2.St → Hp → Prop}, bindT t d S P → Rl K Z S σ H → Rp K Z x d → (∀ S' σ', P S' → Rl K Z S' σ' H → BdR (ixT t) S σ S' σ' → Q σ' H) → tgT K t x σ H Q
  | .v i, d, S, σ, x, P, Q, w, rl, r, k => by
    obtain ⟨a, b⟩ := rl.setBoth (i := i) r
    exact k _ _ w a b
  | .t ts, d, S, σ, x, P, Q, w, rl, r, k => by
    cases d with
    | tuple ds =>
      cases r with
      | @tup a xs _ hz ra =>
        obtain ⟨hl, w'⟩ := binds_out ts w rl ra k
        exact ⟨a, xs, rfl, SqT.of (rl.sub _ _ hz), hl, w'⟩
    | _ => exact False.elim w
theorem binds_out : ∀ (ts : List CT) {ds : List D} {S : SS} {σ : L2.St} {xs : List V} {P : SS → Prop} {Q : L2.St → Hp → Prop}, bindTs ts ds S P → Rl K Z S σ H → RpA K Z xs ds → (∀ S' σ', P S' → Rl K Z S' σ' H → BdR (ixTs ts) S σ S' σ' → Q σ' H) →
    xs.length = ts.length ∧ tgTs K ts xs σ H Q
  | [], ds, S, σ, xs, P, Q, w, rl, r, k => by
    cases ds with
    | nil => cases r; exact ⟨rfl, rfl, k _ _ w rl (BdR.refl (ts := []))⟩
    | cons _ _ => exact False.elim w
  | t :: ts, ds, S, σ, xs, P, Q, w, rl, r, k => by
    cases ds with
    | nil => exact False.elim w
    | cons d ds =>
      cases r with
      | @cons v vs _ _ r ra =>
        have w' : bindT t d S fun S1 => bindTs ts ds S1 P := w
        have len : vs.length = ts.length := by
          obtain ⟨S1, h2⟩ := bindT_ex t d S _ w'
          rw [ra.length]
          exact (bindTs_ex ts ds S1 P h2).2
        refine ⟨by rw [List.length_cons, List.length_cons, len], v, vs, rfl, bind_out t w' rl r fun S1 σ1 w1 rl1 b1 => ?_⟩
        exact (binds_out ts w1 rl1 ra fun S2 σ2 w2 rl2 b2 => k _ _ w2 rl2 (b1.trans b2)).2
end
end
end Fw

set_option Elab.async false
set_option linter.all false
set_option maxRecDepth 100000
set_option maxHeartbeats 4000000
/-! Fw, part He: enumerate over a tuple. -/
namespace Fw
open PySem PySem.Spec L2 PyProof.Rows
theorem meets_enum1 {v : Value} {o : Obj} {H : Heap → Prop} (B : Begins v o H) :
    Meets (Builtin.«enumerate.__new__» ⟨[.type "enumerate", v], []⟩) (fun _ R s => H s.heap ∧
      R (.ok (.ret (.ref (s.heap.push o).objs.size))) { s with heap := (s.heap.push o).push { cls := .type "enumerate", data := .fields #[.none, .bool false, .ref s.heap.objs.size, rawInt 0, .none, .none] } }) :=
  .of_wp fun prog w A R ⟨hp, g, d, tk, os⟩ ⟨h1, h⟩ => by
    have hsub := sub_enumerate
    have begin_ : ∀ {A' : Around} {E : Value → Shared → Prop} {Q : Value → Shared → Prop}, Q (.ref hp.objs.size) ⟨hp.push o, g, d, tk, os⟩ → wpAny (model prog w) A' (pyIter v) Q E ⟨hp, g, d, tk, os⟩ := B.iter prog w _ _ ⟨hp, g, d, tk, os⟩ _ h1
    wp_walk using begin_
    refine wpAny_stack_any fun st => wpAny_pure ?_
    split
    · rename_i c _ _ _ _ _
      cases (c == Value.type "enumerate") <;> (wp_walk using begin_; exact ⟨_, rfl, h⟩)
    · wp_walk using begin_; exact ⟨_, rfl, h⟩
section
variable {prog : Program} {w : World} {A : Around} {E : Value → Shared → Prop} {s : Shared}
theorem enum_makes {v : Value} {o : Obj} {H : Heap → Prop} {Q : Value → Shared → Prop} (B : Begins v o H) (h1 : H s.heap)
    (h : ∀ h', IsEnum h' (s.heap.objs.size + 1) s.heap.objs.size 0 .none → h'.get? s.heap.objs.size = some o →
      (∀ b u, s.heap.get? b = some u → h'.get? b = some u) → Q (.ref (s.heap.objs.size + 1)) { s with heap := h' }) : wpAny (model prog w) A (call (.type "enumerate") [v]) Q E s := by
  refine callType_new F.called_enumerate (by decide) (F.typeCall_enumerate_1 _) (F.newCall_enumerate_1 _) (fun obj => F.args_object_init_2 obj _) F.entry_enumerate_new (meets_enum1 B) ⟨h1, ?_⟩
  have hz : (s.heap.push o).objs.size = s.heap.objs.size + 1 := Heap.size_push ..
  have he := Heap.get?_push_size (s.heap.push o) (o := { cls := .type "enumerate", data := .fields #[.none, .bool false, .ref s.heap.objs.size, rawInt 0, .none, .none] }) rfl
  rw [hz] at he
  show _ ∧ _
  rw [hz]
  exact ⟨⟨_, he, rfl⟩, h _ he (Heap.get?_push_of_some _ (Heap.get?_push_size _ B.free)) fun b u x => Heap.get?_push_of_some _ (Heap.get?_push_of_some _ x)⟩
end
/-- the tuple at a, each item in a new pair -/
def IteT (K : PySem.W.Frag) (a : Addr) : It :=
  ⟨fun i H => ∃ (xs : List V) (x : V), SqT K H a xs ∧ xs[i]? = some x, fun i H v H' => ∃ T x, v = .ref T ∧ H T = none ∧ H' = upd H T (.tup [.int (i : Nat), x]) ∧ ∀ xs, SqT K H a xs → xs[i]? = some x, fun i H => ∃ xs : List V, SqT K H a xs ∧ xs.length = i⟩
theorem turn_enumT {P : Program} {w : World} {K : PySem.W.Frag} {elts : List Expr} {kk : Nat} {tpos : Pos} (a e it : Addr) :
    Turn P w K (.Tuple elts kk tpos) (IteT K a) [e, it] e (fun i h => (∃ old, IsEnum h e it ((i : Nat) : Int) old) ∧ h.IsTupleIter it a i ∧ e ≠ it) where
  mem := by simp
  obj := fun i h st b hb => by
    obtain ⟨⟨old, he⟩, ⟨o, ho, hc, hd⟩, _⟩ := st
    rcases (by simpa using hb : b = e ∨ b = it) with rfl | rfl
    · exact ⟨_, he, fun v q => nomatch q⟩
    · exact ⟨o, ho, fun v q => by rw [hd] at q; cases q⟩
  keep := fun i h h' ⟨⟨old, he⟩, hi, hne⟩ k => ⟨⟨old, k e (by simp) _ he⟩, hi.at fun o q => k it (by simp) o q, hne⟩
  item := by
    rintro X rfl rfl rfl hc i pins s σ H E I hf ⟨⟨old, he⟩, hit, hne⟩ ⟨xs, x, hq, hx⟩
    obtain ⟨its, rv, p, hz⟩ := I.tuple hq
    obtain ⟨u, hu, ru⟩ := rv.get hx
    have hel : e < s.heap.objs.size := Heap.lt_size he
    have hil : it < s.heap.objs.size := by obtain ⟨_, q, _⟩ := hit; exact Heap.lt_size q
    have hla : ∃ o, H a = some o ∨ True := ⟨.tup [], .inr trivial⟩
    have hne2 : a ≠ it := by
      obtain ⟨o1, q1, c1, _⟩ := hit
      obtain ⟨o2, q2, c2, _⟩ := p
      rintro rfl
      rw [q1] at q2; cases q2
      rw [c1] at c2
      exact absurd c2 (by decide)
    have hea : e ≠ a := by
      obtain ⟨o2, q2, c2, _⟩ := p
      rintro rfl
      have he' : s.heap.get? e = some _ := he
      rw [he'] at q2; cases q2
      exact absurd (show Value.type "enumerate" = Value.type "tuple" from c2) (by decide)
    have hlt : i < its.toArray.size := by
      have := (List.getElem?_eq_some_iff.mp hu).1
      simpa using this
    refine wpAny_pyNext_enum_itemD (Draws.tuple (A := X.A.in1) (I.ok.hd hc) it a hne2 its.toArray) he ⟨hit, p⟩ hlt hne (by simp [hne, hea]) fun x' h' tk hP ho hit' hT hsz hk => ?_
    have hux : x' = u := by
      have : its[i]? = some x' := by simpa using hP
      rw [hu] at this; cases this; rfl
    subst hux
    refine ⟨_, rfl, wpAny_letOwnedTupleGo_enum (s := { s with heap := h', toks := tk + 1 }) ho fun h'' he' sb => ?_⟩
    have hT2 : h''.get? s.heap.objs.size = some { cls := .type "tuple", data := .seq #[.int i tk, x'] } := (sb.2 _ (Nat.ne_of_gt hel)).trans hT
    have new : ObjOk X.prog X.w (upd H s.heap.objs.size (.tup [.int (i : Nat), x])) h'' s.heap.objs.size (.tup [.int (i : Nat), x]) :=
      ⟨by show 2 ≤ sizeLine; decide, [.int i tk, x'], .cons ⟨_, rfl⟩ (.cons ru .nil), ⟨_, hT2, rfl, _, rfl⟩⟩
    have I1 : L2.Inv X pins σ (upd H s.heap.objs.size (.tup [.int (i : Nat), x])) { s with heap := h'', toks := tk + 1 } :=
      I.turnedNew (ch := [e, it]) (fun b ob hb q => (sb.2 b (fun z => hb (by simp [z]))).trans (hk b ob (fun z => hb (by simp [z])) (fun z => hb (by simp [z])) q)) hf (Nat.le_refl _) new
    refine ⟨.ref s.heap.objs.size, _, I1, rfl, ⟨_, x, rfl, I.hok.fresh (Nat.le_refl _), rfl, fun ys hy => by rw [I.tuple_inj hy hq]; exact hx⟩, ⟨⟨x', ?_⟩, hit'.1.at fun o q => (sb.2 it (Ne.symm hne)).trans q, hne⟩, fun b hb => ?_⟩
    · have e1 : ((i + 1 : Nat) : Int) = (i : Int) + 1 := by omega
      rw [e1]; exact he'
    · have hb' : b < s.heap.objs.size := by
        rcases (by simpa using hb : b = e ∨ b = it) with rfl | rfl
        · exact hel
        · exact hil
      rw [upd_ne (Nat.ne_of_lt hb')]
      exact (hf b hb).1
  done := by
    rintro X rfl rfl rfl hc i pins s σ H E I hf ⟨⟨old, he⟩, hit, hne⟩ ⟨xs, hq, hx⟩
    obtain ⟨its, rv, p, hz⟩ := I.tuple hq
    obtain ⟨f0, f1, f2, f3, f4, f5⟩ := hf it (by simp)
    have hl := rv.length
    have hne2 : a ≠ it := by
      obtain ⟨o1, q1, c1, _⟩ := hit
      obtain ⟨o2, q2, c2, _⟩ := p
      rintro rfl
      rw [q1] at q2; cases q2
      rw [c1] at c2
      exact absurd c2 (by decide)
    have hi : i = its.toArray.size := by simp; omega
    subst hi
    exact wpAny_pyNext_enum_endD (Draws.tuple (A := X.A.in1) (I.ok.hd hc) it a hne2 its.toArray) he ⟨hit, p⟩ fun h' eb => ⟨rfl, I.turned (t' := s.toks) (fun b o hb q => eb b o hb q) f0 f1 f3 f4 f5⟩
  self := fun A i s Q E ⟨⟨_, he⟩, _⟩ h => wpAny_pyIter_enum he h
def iEnumA (K : PySem.W.Frag) (ta : TA) : TI := fun σ H R => ta σ H fun vs H1 => (∃ a xs, vs = [.ref a] ∧ SqL K H1 a xs ∧ R (Ite K a) H1) ∨ (∃ a xs, vs = [.ref a] ∧ SqT K H1 a xs ∧ R (IteT K a) H1)
theorem pi_enumA {X : Cx} {e : Expr} {ta : TA} {p pos tpos : Pos} {elts : List Expr} {kk : Nat} (hg : Gl X "enumerate") (hm : X.mg "enumerate" = none) (ha : PA X [e] ta) (hs : starEach [e] X.env = [(false, eval e X.env)] := by rfl) :
    PI X (.Tuple elts kk tpos) (.Call (.Name "enumerate" p) [e] [] pos) (iEnumA X.K ta) := by
  refine ⟨fun pins s σ H R I h => Call_ (ld_blt I hg hm boot_enumerate (PyProof.Rows.callWith_type1 (thn (ha.run pos pins s σ H _ I h) fun us s1 ⟨vs, H1, I1, r1, q1⟩ => ?_) hs rfl))⟩
  have fp : ∀ {H1 : Hp}, L2.Inv X pins σ H1 s1 → ∀ b ∈ [s1.heap.objs.size + 1, s1.heap.objs.size], FpOk X pins H1 b := fun I b hb => by
    have hle : s1.heap.objs.size ≤ b := by
      rcases (by simpa using hb : b = s1.heap.objs.size + 1 ∨ b = s1.heap.objs.size) with rfl | rfl
      · exact Nat.le_add_right _ _
      · exact Nat.le_refl _
    exact I.fpOk hle (I.hok.fresh hle)
  rcases q1 with ⟨a, xs, ex, hq, q⟩ | ⟨a, xs, ex, hq, q⟩
  · subst ex
    cases r1 with
    | cons r rr =>
      cases rr
      cases r
      obtain ⟨its, rv, p', hz⟩ := I1.list hq
      refine call_enumerate_list p'.isList fun h' he hit hsz hk => wpAny_pyIter_enum he ?_
      exact ⟨s1.heap.objs.size + 1, [s1.heap.objs.size + 1, s1.heap.objs.size], _, _, H1, rfl, I1.kept (t' := s1.toks) hk, turn_enum a (s1.heap.objs.size + 1) s1.heap.objs.size, ⟨⟨.none, he⟩, hit, Nat.succ_ne_self _⟩, fp I1, q⟩
  · subst ex
    cases r1 with
    | cons r rr =>
      cases rr
      cases r
      obtain ⟨its, rv, p', hz⟩ := I1.tuple hq
      refine enum_makes (begins_tuple a its.toArray) p' fun h' he ho hk => wpAny_pyIter_enum he ?_
      exact ⟨s1.heap.objs.size + 1, [s1.heap.objs.size + 1, s1.heap.objs.size], _, _, H1, rfl, I1.kept (t' := s1.toks) hk, turn_enumT a (s1.heap.objs.size + 1) s1.heap.objs.size, ⟨⟨.none, he⟩, ⟨_, ho, rfl, rfl⟩, Nat.succ_ne_self _⟩, fp I1, q⟩
theorem walk_enumT {K : PySem.W.Frag} {a : Addr} {xs : List V} : Walk (IteT K a) xs.length (fun H => SqT K H a xs) (YPair (fun i => some (.int (i : Nat))) (fun i => xs[i]?)) := by
  refine ⟨fun i _ hi q => ⟨xs, xs[i], q, by simp [hi]⟩, fun _ q => ⟨xs, q, rfl⟩, fun i H v H' _ q y => ?_⟩
  obtain ⟨T, x, h1, h2, h3, h4⟩ := y
  exact ⟨T, .int (i : Nat), x, h1, h2, h3, rfl, h4 xs q⟩
end Fw

set_option Elab.async false
set_option linter.all false
set_option maxRecDepth 100000
set_option maxHeartbeats 4000000
/-! Fw, part I: what is walked, comprehensions. -/
namespace Fw
open PySem PySem.Spec L2

section
variable {X : Cx} {G : Pg} {d : Nat} {B : Bs} {W : Wv} {sc : Scope} {tg : Expr}
theorem itok_list {K : PySem.W.Frag} {Z : Hp} {a : Addr} {xs : List V} {ds : List D} (hz : Z a = some (.lst xs)) (ra : RpA K Z xs ds) : ItOk K Z (Itl K a) ds := by
  refine ⟨fun H => SqL K H a xs, fun H e => SqL.of (e _ _ hz), ?_⟩
  rw [← ra.length]
  exact walk_list.mono (fun _ h => h) fun i H x H' _ _ y => let ⟨dd, h1, h2⟩ := ra.get' y.2; ⟨dd, h1, .inl ⟨y.1, h2⟩⟩
theorem itok_tup {K : PySem.W.Frag} {Z : Hp} {a : Addr} {xs : List V} {ds : List D} (hz : Z a = some (.tup xs)) (ra : RpA K Z xs ds) : ItOk K Z (Itt K a) ds := by
  refine ⟨fun H => SqT K H a xs, fun H e => SqT.of (e _ _ hz), ?_⟩
  rw [← ra.length]
  exact walk_tup.mono (fun _ h => h) fun i H x H' _ _ y => let ⟨dd, h1, h2⟩ := ra.get' y.2; ⟨dd, h1, .inl ⟨y.1, h2⟩⟩
theorem itok_str {K : PySem.W.Frag} {Z : Hp} {z : Str} : ItOk K Z (Its z) (signsD z) := by
  refine ⟨fun _ => True, fun _ _ => trivial, ?_⟩
  have e : (signsD z).length = z.cps.size := by simp [signsD]
  rw [e]
  refine walk_str.mono (fun _ _ => trivial) fun i H x H' _ _ y => ?_
  obtain ⟨y1, c, y2, y3⟩ := y
  subst y3
  refine ⟨.str ⟨#[c]⟩, ?_, .inl ⟨y1, .str _⟩⟩
  unfold signsD
  rw [List.getElem?_map, Array.getElem?_toList, y2]
  rfl
theorem itok_fn {K : PySem.W.Frag} {Z : Hp} {J : It} {n : Nat} {f : Nat → V} {g : Nat → D} (w : Walk J n (fun _ => True) (YFn f)) (r : ∀ i, Rp K Z (f i) (g i)) : ItOk K Z J ((List.range n).map g) := by
  refine ⟨fun _ => True, fun _ _ => trivial, ?_⟩
  rw [List.length_map, List.length_range]
  refine w.mono (fun _ _ => trivial) fun i H x H' hi _ y => ⟨g i, ?_, .inl ⟨y.1, by rw [y.2]; exact r i⟩⟩
  rw [List.getElem?_map, List.getElem?_range hi]
  rfl
/-- a list, a tuple, a text -/
theorem i_it {e : Expr} {c : CE} (he : PE X e (tE X.K B W c)) : PI X tg e (tI X.K B W (.it c)) := by
  refine ⟨fun pins s σ H R I ⟨S, Z, Ψ, rl, bo, w, k⟩ => ?_⟩
  refine thn (he.run pins s σ H (fun x H1 => (∃ a, x = .ref a ∧ (∃ xs, SqL X.K H1 a xs) ∧ R (Itl X.K a) H1) ∨ (∃ a, x = .ref a ∧ (∃ xs, SqT X.K H1 a xs) ∧ R (Itt X.K a) H1) ∨ ∃ z, x = .str z ∧ R (Its z) H1) I ?_) fun v s1 hq => ?_
  · refine tE_at rl bo w fun r1 S1 Z1 H1 v1 w1 st1 rv1 fr1 => ?_
    obtain ⟨dd, S2, Z2, ⟨ds, w3, w4⟩, st2, rp⟩ := fzS_out w1 st1 rv1 fr1
    cases rp with
    | @lst a xs ds' hz ra =>
      cases w3
      exact .inl ⟨a, rfl, ⟨xs, SqL.of (st2.rl.sub _ _ hz)⟩, k _ _ _ _ w4 st2 _ (itok_list hz ra)⟩
    | @tup a xs ds' hz ra =>
      cases w3
      exact .inr (.inl ⟨a, rfl, ⟨xs, SqT.of (st2.rl.sub _ _ hz)⟩, k _ _ _ _ w4 st2 _ (itok_tup hz ra)⟩)
    | str z =>
      cases w3
      exact .inr (.inr ⟨z, rfl, k _ _ _ _ w4 st2 _ itok_str⟩)
    | _ => cases w3
  · obtain ⟨x, H1, I1, r1, q⟩ := hq
    rcases q with ⟨a, rfl, ⟨xs, hx⟩, q⟩ | ⟨a, rfl, ⟨xs, hx⟩, q⟩ | ⟨z, rfl, q⟩
    · cases r1
      obtain ⟨its, rv, p, hz⟩ := I1.list hx
      exact wpAny_pyIter_list p.isList (pi_one (tk := s1.toks) I1 _ (turn_list a _) ⟨_, Heap.get?_push_size _ rfl, rfl, rfl⟩ q)
    · cases r1
      obtain ⟨its, rv, p, hz⟩ := I1.tuple hx
      exact wpAny_pyIter_tuple p (pi_one (tk := s1.toks) I1 _ (turn_tuple a _) ⟨_, Heap.get?_push_size _ rfl, rfl, rfl⟩ q)
    · obtain ⟨t, rfl⟩ := r1
      by_cases ha : z.cps.all (· < 128) = true
      · exact wpAny_pyIter_ascii ha (pi_one (tk := s1.toks) I1 _ (turn_str _ z t "str_ascii_iterator" (.inl rfl)) ⟨_, Heap.get?_push_size _ rfl, rfl, rfl⟩ q)
      · exact wpAny_pyIter_wide (by simpa using ha) (pi_one (tk := s1.toks) I1 _ (turn_str _ z t "str_iterator" (.inr rfl)) ⟨_, Heap.get?_push_size _ rfl, rfl, rfl⟩ q)
theorem i_rng1 {a : Expr} {ca : CE} {p pos : Pos} (g : Gx X G d) (hs : X.env.scope = sc) (hx : ckGl sc ("range" : Str) = true) (n1 : notStarB a = true) (ha : PE X a (tE X.K B W ca)) : PI X tg (.Call (.Name "range" p) [a] [] pos) (tI X.K B W (.rng1 ca)) := by
  obtain ⟨hg, _⟩ := gl_of hs hx
  have hm : X.mg "range" = none := g.blt _ (by simp [bltNames])
  refine pi_imp (pi_range1 hg hm (pa_cons ha pa_nil (star_ok n1)) (by rw [star_ok n1] <;> rfl)) fun σ H R ⟨S, Z, Ψ, rl, bo, w, k⟩ => ?_
  refine tE_at rl bo w fun r1 S1 Z1 H1 v1 w1 st1 rv1 fr1 => ?_
  obtain ⟨s1, w2, sl1, m1⟩ := rdS_out w1 st1.rl rv1
  cases e : s1.d with
  | int j =>
    rw [e] at w2
    exact ⟨j, by rw [sl1.int e], w2.1.1, w2.1.2, k _ _ _ _ w2.2 st1 _ (itok_fn walk_range fun i => .int _)⟩
  | _ => rw [e] at w2; exact False.elim w2
theorem i_rng2 {a b : Expr} {ca cb : CE} {p pos : Pos} (g : Gx X G d) (hs : X.env.scope = sc) (hx : ckGl sc ("range" : Str) = true) (n1 : notStarB a = true) (n2 : notStarB b = true) (ha : PE X a (tE X.K B W ca)) (hb : PE X b (tE X.K B W cb)) :
    PI X tg (.Call (.Name "range" p) [a, b] [] pos) (tI X.K B W (.rng2 ca cb)) := by
  obtain ⟨hg, _⟩ := gl_of hs hx
  have hm : X.mg "range" = none := g.blt _ (by simp [bltNames])
  refine pi_imp (pi_range2 hg hm (pa_cons ha (pa_cons hb pa_nil (star_ok n2)) (star_ok n1)) (by rw [star_ok n1, star_ok n2] <;> rfl) (by rw [star_ok n2] <;> rfl)) fun σ H R ⟨S, Z, Ψ, rl, bo, w, k⟩ => ?_
  refine tE_at rl bo w fun r1 S1 Z1 H1 v1 w1 st1 rv1 fr1 => tE_at st1.rl (bo.ste st1) w1 fun r2 S2 Z2 H2 v2 w2 st2 rv2 fr2 => ?_
  obtain ⟨s1, w3, sl1, m1⟩ := rdS_out w2 st2.rl (rv1.keep st2)
  obtain ⟨s2, w4, sl2, m2⟩ := rdS_out w3 st2.rl rv2
  generalize e1 : s1.d = d1 at w4
  generalize e2 : s2.d = d2 at w4
  cases d1 <;> cases d2 <;> first | exact False.elim w4 | skip
  exact ⟨_, _, by rw [sl1.int e1, sl2.int e2], w4.1, k _ _ _ _ w4.2 (st1.trans st2) _ (itok_fn walk_range fun i => .int _)⟩
theorem i_rng3 {a b c : Expr} {ca cb cc : CE} {p pos : Pos} (g : Gx X G d) (hs : X.env.scope = sc) (hx : ckGl sc ("range" : Str) = true) (n1 : notStarB a = true) (n2 : notStarB b = true) (n3 : notStarB c = true) (ha : PE X a (tE X.K B W ca)) (hb : PE X b (tE X.K B W cb))
    (hc : PE X c (tE X.K B W cc)) : PI X tg (.Call (.Name "range" p) [a, b, c] [] pos) (tI X.K B W (.rng3 ca cb cc)) := by
  obtain ⟨hg, _⟩ := gl_of hs hx
  have hm : X.mg "range" = none := g.blt _ (by simp [bltNames])
  refine pi_imp (pi_range3 hg hm (pa_cons ha (pa_cons hb (pa_cons hc pa_nil (star_ok n3)) (star_ok n2)) (star_ok n1)) (by rw [star_ok n1, star_ok n2, star_ok n3] <;> rfl) (by rw [star_ok n2, star_ok n3] <;> rfl)) fun σ H R ⟨S, Z, Ψ, rl, bo, w, k⟩ => ?_
  refine tE_at rl bo w fun r1 S1 Z1 H1 v1 w1 st1 rv1 fr1 => tE_at st1.rl (bo.ste st1) w1 fun r2 S2 Z2 H2 v2 w2 st2 rv2 fr2 => tE_at st2.rl ((bo.ste st1).ste st2) w2 fun r3 S3 Z3 H3 v3 w3 st3 rv3 fr3 => ?_
  obtain ⟨s1, w4, sl1, m1⟩ := rdS_out w3 st3.rl ((rv1.keep st2).keep st3)
  obtain ⟨s2, w5, sl2, m2⟩ := rdS_out w4 st3.rl (rv2.keep st3)
  obtain ⟨s3, w6, sl3, m3⟩ := rdS_out w5 st3.rl rv3
  generalize e1 : s1.d = d1 at w6
  generalize e2 : s2.d = d2 at w6
  generalize e3 : s3.d = d3 at w6
  cases d1 <;> cases d2 <;> cases d3 <;> first | exact False.elim w6 | skip
  obtain ⟨n, hr, w7⟩ := w6
  exact ⟨_, _, _, n, by rw [sl1.int e1, sl2.int e2, sl3.int e3], hr, k _ _ _ _ w7 ((st1.trans st2).trans st3) _ (itok_fn walk_rangeC fun i => .int _)⟩
/-- pairs -/
theorem itok_pair {K : PySem.W.Frag} {Z : Hp} {J : It} {n : Nat} {G : Hp → Prop} {f g : Nat → Option V} {ds : List D} (w : Walk J n G (YPair f g)) (hG : ∀ H, Sub Z H → G H) (hn : ds.length = n)
    (r : ∀ i x y, i < n → f i = some x → g i = some y → ∃ d1 d2, ds[i]? = some (.tuple [d1, d2]) ∧ Rp K Z x d1 ∧ Rp K Z y d2) : ItOk K Z J ds := by
  subst hn
  refine ⟨G, hG, w.mono (fun _ h => h) fun i H v H' hi _ y => ?_⟩
  obtain ⟨T, x, y, h1, h2, h3, h4, h5⟩ := y
  obtain ⟨d1, d2, e, r1, r2⟩ := r i x y hi h4 h5
  exact ⟨_, e, .inr ⟨T, x, y, d1, d2, h1, h2, h3, rfl, r1, r2⟩⟩
theorem enumFr_len : ∀ (n : Nat) (ds : List D), (enumFr n ds).length = ds.length
  | _, [] => rfl
  | n, d :: ds => by show (enumFr (n + 1) ds).length + 1 = _; rw [enumFr_len]; rfl
theorem enumFr_get : ∀ (n : Nat) (ds : List D) (i : Nat) (x : D), ds[i]? = some x → (enumFr n ds)[i]? = some (.tuple [.int ((n + i : Nat) : Int), x])
  | _, [], _, _, h => by simp at h
  | n, d :: ds, 0, x, h => by simp at h; subst h; rfl
  | n, d :: ds, i + 1, x, h => by
    have e := enumFr_get (n + 1) ds i x (by simpa using h)
    show (enumFr (n + 1) ds)[i]? = _
    rw [e]
    have : n + 1 + i = n + (i + 1) := by omega
    rw [this]
theorem i_enum {a : Expr} {ca : CE} {p pos tpos : Pos} {elts : List Expr} {kk : Nat} (g : Gx X G d) (hs : X.env.scope = sc) (hx : ckGl sc ("enumerate" : Str) = true) (n1 : notStarB a = true) (ha : PE X a (tE X.K B W ca)) :
    PI X (.Tuple elts kk tpos) (.Call (.Name "enumerate" p) [a] [] pos) (tI X.K B W (.enum ca)) := by
  obtain ⟨hg, _⟩ := gl_of hs hx
  have hm : X.mg "enumerate" = none := g.blt _ (by simp [bltNames])
  refine pi_imp (pi_enumA hg hm (pa_cons ha pa_nil (star_ok n1)) (by rw [star_ok n1] <;> rfl)) fun σ H R ⟨S, Z, Ψ, rl, bo, w, k⟩ => ?_
  refine tE_at rl bo w fun r1 S1 Z1 H1 v1 w1 st1 rv1 fr1 => ?_
  obtain ⟨dd, S2, Z2, ⟨ds, w3, w4⟩, st2, rp⟩ := fzS_out w1 st1 rv1 fr1
  cases rp with
  | @lst b xs ds' hz ra =>
    cases w3
    refine .inl ⟨b, xs, rfl, SqL.of (st2.rl.sub _ _ hz), k _ _ _ _ w4 st2 _ (itok_pair walk_enum (fun H e => SqL.of (e _ _ hz)) (by rw [enumFr_len, ra.length]) fun i x y hi e1 e2 => ?_)⟩
    cases e1
    obtain ⟨dd, h1, h2⟩ := ra.get' e2
    refine ⟨_, dd, enumFr_get 0 _ i dd h1, ?_, h2⟩
    rw [Nat.zero_add]
    exact .int _
  | @tup b xs ds' hz ra =>
    cases w3
    refine .inr ⟨b, xs, rfl, SqT.of (st2.rl.sub _ _ hz), k _ _ _ _ w4 st2 _ (itok_pair walk_enumT (fun H e => SqT.of (e _ _ hz)) (by rw [enumFr_len, ra.length]) fun i x y hi e1 e2 => ?_)⟩
    cases e1
    obtain ⟨dd, h1, h2⟩ := ra.get' e2
    refine ⟨_, dd, enumFr_get 0 _ i dd h1, ?_, h2⟩
    rw [Nat.zero_add]
    exact .int _
  | _ => cases w3
theorem i_zip {a b : Expr} {ca cb : CE} {p pos tpos : Pos} {elts : List Expr} {kk : Nat} (g : Gx X G d) (hs : X.env.scope = sc) (hx : ckGl sc ("zip" : Str) = true) (n1 : notStarB a = true) (n2 : notStarB b = true) (ha : PE X a (tE X.K B W ca)) (hb : PE X b (tE X.K B W cb)) :
    PI X (.Tuple elts kk tpos) (.Call (.Name "zip" p) [a, b] [] pos) (tI X.K B W (.zip ca cb)) := by
  obtain ⟨hg, _⟩ := gl_of hs hx
  have hm : X.mg "zip" = none := g.blt _ (by simp [bltNames])
  refine pi_imp (RZ.pi_zipA hg hm (pa_cons ha (pa_cons hb pa_nil (star_ok n2)) (star_ok n1)) (star_ok n1) (by rw [star_ok n2] <;> rfl)) fun σ H R ⟨S, Z, Ψ, rl, bo, w, k⟩ => ?_
  refine tE_at rl bo w fun r1 S1 Z1 H1 v1 w1 st1 rv1 fr1 => ?_
  obtain ⟨d1, S2, Z2, w2, st2, rp1⟩ := fzS_out w1 st1 rv1 fr1
  refine tE_at st2.rl (bo.ste st2) w2 fun r3 S3 Z3 H3 v3 w3 st3 rv3 fr3 => ?_
  obtain ⟨d2, S4, Z4, ⟨xs, ys, w4, w5⟩, st4, rp2⟩ := fzS_out w3 st3 rv3 fr3
  have rp1' := rp1.mono st4.ex.zz
  have st := st2.trans st4
  have key : ∀ {us vs : List V}, RpA X.K Z4 us xs → RpA X.K Z4 vs ys → (List.zipWith (fun x y => PyData.tuple [x, y]) xs ys).length = min us.length vs.length ∧
      ∀ i x y, i < min us.length vs.length → us[i]? = some x → vs[i]? = some y → ∃ d1 d2, (List.zipWith (fun x y => PyData.tuple [x, y]) xs ys)[i]? = some (.tuple [d1, d2]) ∧ Rp X.K Z4 x d1 ∧ Rp X.K Z4 y d2 := fun {us vs} h1 h2 => by
    refine ⟨by rw [List.length_zipWith, h1.length, h2.length], fun i x y _ e1 e2 => ?_⟩
    obtain ⟨d1, k1, k2⟩ := h1.get' e1
    obtain ⟨d2, k3, k4⟩ := h2.get' e2
    exact ⟨d1, d2, by rw [List.getElem?_zipWith, k1, k3], k2, k4⟩
  cases rp1' with
  | @lst a1 us _ hz1 ra1 =>
    cases rp2 with
    | @lst a2 vs _ hz2 ra2 =>
      cases w4
      obtain ⟨k1, k2⟩ := key ra1 ra2
      exact ⟨a1, a2, us, vs, rfl, .inl ⟨SqL.of (st4.rl.sub _ _ hz1), SqL.of (st4.rl.sub _ _ hz2), k _ _ _ _ w5 st _ (itok_pair (walk_zip rfl) (fun H e => ⟨SqL.of (e _ _ hz1), SqL.of (e _ _ hz2)⟩) k1 k2)⟩⟩
    | _ => cases w4
  | @tup a1 us _ hz1 ra1 =>
    cases rp2 with
    | @tup a2 vs _ hz2 ra2 =>
      cases w4
      obtain ⟨k1, k2⟩ := key ra1 ra2
      refine ⟨a1, a2, us, vs, rfl, .inr ⟨SqT.of (st4.rl.sub _ _ hz1), SqT.of (st4.rl.sub _ _ hz2), k _ _ _ _ w5 st _ (itok_pair (n := min us.length vs.length) (G := fun H => SqT X.K H a1 us ∧ SqT X.K H a2 vs) ?_ (fun H e => ⟨SqT.of (e _ _ hz1), SqT.of (e _ _ hz2)⟩) k1 k2)⟩⟩
      refine ⟨fun i H hi q => ?_, fun H q => ⟨us, vs, q.1, q.2, by omega⟩, fun i H v H' hi q y => ?_⟩
      · have h1 : i < us.length := by omega
        have h2 : i < vs.length := by omega
        exact ⟨us, vs, us[i], vs[i], q.1, q.2, by simp [h1], by simp [h2]⟩
      · obtain ⟨T, x, z, h1, h2, h3, h4, h5⟩ := y
        exact ⟨T, x, z, h1, h2, h3, h4 us q.1, h5 vs q.2⟩
    | _ => cases w4
  | _ => cases rp2 <;> cases w4
end
end Fw

set_option Elab.async false
set_option linter.all false
set_option maxRecDepth 100000
set_option maxHeartbeats 4000000
/-! Fw, part J: comprehensions. -/
namespace Fw
open PySem PySem.Spec L2

theorem killS_len : ∀ (own : List Nat) (S : SS), (killS S own).length = S.length
  | [], _ => rfl
  | i :: r, S => by show (killS (S.set i none) r).length = _; rw [killS_len, List.length_set]
theorem killS_get : ∀ (own : List Nat) (S : SS) (j : Nat), (j ∉ own → (killS S own)[j]? = S[j]?) ∧ (j ∈ own → ∀ sv, (killS S own)[j]? ≠ some (some sv))
  | [], S, j => ⟨fun _ => rfl, fun h => by cases h⟩
  | i :: r, S, j => by
    obtain ⟨h1, h2⟩ := killS_get r (S.set i none) j
    refine ⟨fun h => ?_, fun h sv => ?_⟩
    · simp only [List.mem_cons, not_or] at h
      show (killS (S.set i none) r)[j]? = _
      rw [h1 h.2, List.getElem?_set_ne (Ne.symm h.1)]
    · show (killS (S.set i none) r)[j]? ≠ _
      by_cases hr : j ∈ r
      · exact h2 hr sv
      · rw [h1 hr]
        have hj : j = i := by
          rcases List.mem_cons.mp h with z | z
          · exact z
          · exact absurd z hr
        subst hj
        rw [List.getElem?_set_self']
        cases S[j]? <;> simp
theorem restS_len (S1 S2 : SS) : ∀ (own : List Nat), (restS S1 S2 own).length = S2.length
  | [] => rfl
  | i :: r => by show ((restS S1 S2 r).set i _).length = _; rw [List.length_set, restS_len]
theorem restS_get (S1 S2 : SS) (hl : S1.length = S2.length) : ∀ (own : List Nat) (j : Nat), (j ∉ own → (restS S1 S2 own)[j]? = S2[j]?) ∧ (j ∈ own → (restS S1 S2 own)[j]? = S1[j]?)
  | [], j => ⟨fun _ => rfl, fun h => by cases h⟩
  | i :: r, j => by
    obtain ⟨h1, h2⟩ := restS_get S1 S2 hl r j
    refine ⟨fun h => ?_, fun h => ?_⟩
    · simp only [List.mem_cons, not_or] at h
      show ((restS S1 S2 r).set i _)[j]? = _
      rw [List.getElem?_set_ne (Ne.symm h.1), h1 h.2]
    · show ((restS S1 S2 r).set i _)[j]? = _
      by_cases hj : j = i
      · subst hj
        by_cases hb : j < S1.length
        · rw [List.getElem?_set_self (by rw [restS_len, ← hl]; exact hb), List.getElem?_eq_getElem hb]
          rfl
        · rw [List.getElem?_eq_none (show (List.set (restS S1 S2 r) j (S1[j]?.getD none)).length ≤ j by rw [List.length_set, restS_len, ← hl]; omega), List.getElem?_eq_none (show S1.length ≤ j by omega)]
      · rw [List.getElem?_set_ne (Ne.symm hj)]
        refine h2 ?_
        rcases List.mem_cons.mp h with z | z
        · exact absurd z hj
        · exact z
theorem wipe_len' (σ : L2.St) (own : List Nat) : (wipe σ own).length = σ.length := wipe_length σ own
theorem wipe_get (σ : L2.St) : ∀ (own : List Nat) (j : Nat), (j ∉ own → (wipe σ own)[j]? = σ[j]?) ∧ (j ∈ own → (wipe σ own)[j]? = σ[j]?.map fun _ => none)
  | [], j => ⟨fun _ => rfl, fun h => by cases h⟩
  | i :: r, j => by
    obtain ⟨h1, h2⟩ := wipe_get σ r j
    refine ⟨fun h => ?_, fun h => ?_⟩
    · simp only [List.mem_cons, not_or] at h
      show ((wipe σ r).set i none)[j]? = _
      rw [List.getElem?_set_ne (Ne.symm h.1), h1 h.2]
    · show ((wipe σ r).set i none)[j]? = _
      by_cases hj : j = i
      · subst hj
        rw [List.getElem?_set_self']
        have hl := wipe_length σ r
        cases q : σ[j]? with
        | none =>
          have : σ.length ≤ j := List.getElem?_eq_none_iff.mp q
          rw [List.getElem?_eq_none (by omega)]
          rfl
        | some u =>
          have : j < σ.length := (List.getElem?_eq_some_iff.mp q).1
          rw [List.getElem?_eq_getElem (by omega)]
          rfl
      · rw [List.getElem?_set_ne (Ne.symm hj)]
        refine h2 ?_
        rcases List.mem_cons.mp h with z | z
        · exact absurd z hj
        · exact z
theorem wipe_same {σ σ' : L2.St} {own : List Nat} (hl : σ'.length = σ.length) (h : ∀ j, j ∉ own → σ'[j]? = (wipe σ own)[j]?) : wipe σ' own = wipe σ own := by
  apply List.ext_getElem?
  intro j
  by_cases hj : j ∈ own
  · rw [(wipe_get σ' own j).2 hj, (wipe_get σ own j).2 hj]
    cases q : σ[j]? with
    | none =>
      have : σ.length ≤ j := List.getElem?_eq_none_iff.mp q
      rw [List.getElem?_eq_none (by omega)]
    | some u =>
      have : j < σ.length := (List.getElem?_eq_some_iff.mp q).1
      rw [List.getElem?_eq_getElem (by omega)]
      rfl
  · rw [(wipe_get σ' own j).1 hj, h j hj]

section
variable {K : PySem.W.Frag} {Z H Z1 H1 Z' H' : Hp} {S S1 S2 S' : SS} {σ : L2.St} {own : List Nat}
/-- the slots at own forgotten -/
theorem Rl.wipe (rl : Rl K Z S σ H) (own : List Nat) : Rl K Z (killS S own) (L2.wipe σ own) H := by
  have f : ∀ {m : Nat} {sv : SV}, (killS S own)[m]? = some (some sv) → m ∉ own ∧ S[m]? = some (some sv) := fun {m sv} e => by
    by_cases hm : m ∈ own
    · exact absurd e ((killS_get own S m).2 hm sv)
    · exact ⟨hm, by rw [← (killS_get own S m).1 hm]; exact e⟩
  refine ⟨rl.sub, by rw [killS_len, wipe_length]; exact rl.len, fun j sv e => ?_, fun j l sj sl a e1 o1 e2 o2 k1 k2 => ?_⟩
  · obtain ⟨hm, e'⟩ := f e
    obtain ⟨v, h1, h2⟩ := rl.at' j sv e'
    exact ⟨v, by rw [(wipe_get σ own j).1 hm]; exact h1, h2⟩
  · obtain ⟨m1, p1⟩ := f e1
    obtain ⟨m2, p2⟩ := f e2
    rw [(wipe_get σ own j).1 m1] at k1
    rw [(wipe_get σ own l).1 m2] at k2
    exact rl.sep j l sj sl a p1 o1 p2 o2 k1 k2
theorem OwnA.ofWipe {a : Addr} (h : OwnA (killS S own) (L2.wipe σ own) a) : ∃ j, j ∉ own ∧ ∃ sv, S[j]? = some (some sv) ∧ sv.isOwn = true ∧ σ[j]? = some (some (.ref a)) := by
  obtain ⟨j, sv, e, o, k⟩ := h
  by_cases hm : j ∈ own
  · exact absurd e ((killS_get own S j).2 hm sv)
  · exact ⟨j, hm, sv, by rw [← (killS_get own S j).1 hm]; exact e, o, by rw [← (wipe_get σ own j).1 hm]; exact k⟩
/-- H changes at a thing that no slot holds and that is no data -/
theorem Rl.updD (rl : Rl K Z S σ H) {p : Addr} {o : HO} (hz : Z p = none) (no : ¬ OwnA S σ p) : Rl K Z S σ (upd H p o) where
  sub := fun b u e => by rw [upd_ne (ne_of_none e hz)]; exact rl.sub b u e
  len := rl.len
  at' := fun i sv e => by
    obtain ⟨w, h1, h2⟩ := rl.at' i sv e
    refine ⟨w, h1, h2.mono (Sub.refl _) (fun a u hv hown q => ?_) fun _ _ _ q => q⟩
    rw [upd_ne ?_]
    · exact q
    · rintro rfl
      exact no ⟨i, sv, e, hown, by rw [h1, hv]⟩
  sep := rl.sep
/-- a new thing outlives a step -/
theorem Ste.tmp (x : Ste K S σ Z H S' Z' H') {p : Addr} {o : HO} (h : H p = some o) (nt : ∀ xs, o ≠ .tup xs) (hz : Z p = none) (no : ¬ OwnA S σ p) : H' p = some o ∧ Z' p = none ∧ ¬ OwnA S' σ p := by
  refine ⟨x.ex.hh p o h no, ?_, fun z => no (x.ow p z)⟩
  cases q : Z' p with
  | none => rfl
  | some u =>
    rcases x.ex.zn p u q with z | z | z
    · rw [hz] at z; cases z
    · rw [h] at z
      rcases z with z | ⟨xs, z⟩
      · cases z
      · cases z; exact absurd rfl (nt xs)
    · exact absurd z no
theorem yok_ste {x : V} {d : D} (rl : Rl K Z S σ H) (y : YOk K Z H x H' d) : ∃ Z', Ste K S σ Z H S Z' H' ∧ Rp K Z' x d := by
  rcases y with ⟨rfl, r⟩ | ⟨T, x1, x2, d1, d2, rfl, hT, rfl, rfl, r1, r2⟩
  · exact ⟨Z, Ste.refl rl, r⟩
  · obtain ⟨p1, p2, p3⟩ := (NewR.tup (xs := [x1, x2]) (ds := [d1, d2]) hT (.cons r1 (.cons r2 .nil))).ste (Ste.refl rl)
    exact ⟨_, p1, p2⟩
theorem YOk.mono {x : V} {d : D} (e : Sub Z Z') (y : YOk K Z H x H' d) : YOk K Z' H x H' d := by
  rcases y with ⟨h, r⟩ | ⟨T, x1, x2, d1, d2, h1, hT, h2, h3, r1, r2⟩
  · exact .inl ⟨h, r.mono e⟩
  · exact .inr ⟨T, x1, x2, d1, d2, h1, hT, h2, h3, r1.mono e, r2.mono e⟩
/-- behind a block -/
theorem rest_ste (rl1 : Rl K Z1 S1 σ H1) (rl2 : Rl K Z' S2 (L2.wipe σ own) H') (ex : Ex (OwnA (killS S1 own) (L2.wipe σ own)) Z1 H1 Z' H') (ow : ∀ a, OwnA S2 (L2.wipe σ own) a → OwnA (killS S1 own) (L2.wipe σ own) a)
    (kp : ∀ (j : Nat) sv, (killS S1 own)[j]? = some (some sv) → ∃ sv', S2[j]? = some (some sv')) : Ste K S1 σ Z1 H1 (restS S1 S2 own) Z' H' := by
  have hl : S1.length = S2.length := by rw [rl1.len, rl2.len, wipe_length]
  have gi := restS_get S1 S2 hl own
  have sub0 : ∀ a, OwnA (killS S1 own) (L2.wipe σ own) a → OwnA S1 σ a := fun a h => by
    obtain ⟨j, _, sv, e, o, k⟩ := h.ofWipe
    exact ⟨j, sv, e, o, k⟩
  have inn : ∀ {j : Nat} {sv : SV} {a : Addr}, j ∈ own → S1[j]? = some (some sv) → sv.isOwn = true → σ[j]? = some (some (.ref a)) → ¬ OwnA (killS S1 own) (L2.wipe σ own) a := fun {j sv a} hj e o k z => by
    obtain ⟨l, hl, sl, e2, o2, k2⟩ := z.ofWipe
    exact hl (rl1.sep j l sv sl a e o e2 o2 k k2 ▸ hj)
  refine ⟨⟨rl2.sub, by rw [restS_len, ← hl]; exact rl1.len, fun j sv e => ?_, fun j l sj sl a e1 o1 e2 o2 k1 k2 => ?_⟩, ex.weak sub0, fun a h => ?_, fun j sv e => ?_⟩
  · by_cases hj : j ∈ own
    · rw [(gi j).2 hj] at e
      obtain ⟨v, h1, h2⟩ := rl1.at' j sv e
      refine ⟨v, h1, h2.mono ex.zz (fun a o hv hown q => ?_) fun a hv hown hz => ?_⟩
      · exact ex.hh a o q (inn hj e hown (by rw [h1, hv]))
      · cases q : Z' a with
        | none => rfl
        | some u =>
          obtain ⟨b, k1, k2, k3, k4⟩ := rl1.own e hown
          rw [h1, hv] at k1; cases k1
          obtain ⟨o, ho⟩ := k3.there
          rcases ex.zn _ u q with z | z | z
          · rw [hz] at z; cases z
          · exact absurd z k3.noOb
          · exact absurd z (inn hj e hown (by rw [h1, hv]))
    · rw [(gi j).1 hj] at e
      obtain ⟨v, h1, h2⟩ := rl2.at' j sv e
      exact ⟨v, by rw [← (wipe_get σ own j).1 hj]; exact h1, h2⟩
  · have out : ∀ {m : Nat} {s : SV}, m ∉ own → (restS S1 S2 own)[m]? = some (some s) → s.isOwn = true → σ[m]? = some (some (.ref a)) → S2[m]? = some (some s) ∧ (L2.wipe σ own)[m]? = some (some (.ref a)) ∧ OwnA (killS S1 own) (L2.wipe σ own) a := fun {m s} hm e o k => by
      rw [(gi m).1 hm] at e
      have kw : (L2.wipe σ own)[m]? = some (some (.ref a)) := by rw [(wipe_get σ own m).1 hm]; exact k
      exact ⟨e, kw, ow a ⟨m, s, e, o, kw⟩⟩
    by_cases hj : j ∈ own
    · rw [(gi j).2 hj] at e1
      by_cases hl' : l ∈ own
      · rw [(gi l).2 hl'] at e2
        exact rl1.sep j l sj sl a e1 o1 e2 o2 k1 k2
      · exact absurd (out hl' e2 o2 k2).2.2 (inn hj e1 o1 k1)
    · by_cases hl' : l ∈ own
      · rw [(gi l).2 hl'] at e2
        exact absurd (out hj e1 o1 k1).2.2 (inn hl' e2 o2 k2)
      · obtain ⟨p1, p2, _⟩ := out hj e1 o1 k1
        obtain ⟨q1, q2, _⟩ := out hl' e2 o2 k2
        exact rl2.sep j l sj sl a p1 o1 q1 o2 p2 q2
  · obtain ⟨j, sv, e, o, k⟩ := h
    by_cases hj : j ∈ own
    · rw [(gi j).2 hj] at e
      exact ⟨j, sv, e, o, k⟩
    · rw [(gi j).1 hj] at e
      exact sub0 a (ow a ⟨j, sv, e, o, by rw [(wipe_get σ own j).1 hj]; exact k⟩)
  · by_cases hj : j ∈ own
    · exact ⟨sv, by rw [(gi j).2 hj]; exact e⟩
    · obtain ⟨sv', h'⟩ := kp j sv (by rw [(killS_get own S1 j).1 hj]; exact e)
      exact ⟨sv', by rw [(gi j).1 hj]; exact h'⟩
end
mutual
theorem tgIn_ix {own : List Nat} : ∀ (t : CT), tgInB own t = true → ∀ j, j ∈ ixT t → j ∈ own
  | .v i, h, j, hj => by
    have e : j = i := by simpa [ixT] using hj
    subst e
    simpa [tgInB] using h
  | .t ts, h, j, hj => tgsIn_ix ts (by simpa [tgInB] using h) j (by simpa [ixT] using hj)
theorem tgsIn_ix {own : List Nat} : ∀ (ts : List CT), tgInsB own ts = true → ∀ j, j ∈ ixTs ts → j ∈ own
  | [], _, j, hj => by simp [ixTs] at hj
  | t :: ts, h, j, hj => by
    have h' : tgInB own t = true ∧ tgInsB own ts = true := by simpa [tgInsB] using h
    have hj' : j ∈ ixT t ∨ j ∈ ixTs ts := by simpa [ixTs] using hj
    rcases hj' with z | z
    · exact tgIn_ix t h'.1 j z
    · exact tgsIn_ix ts h'.2 j z
end

section
variable {X : Cx} {G : Pg} {d : Nat} {B : Bs} {W : Wv} {sc : Scope}
theorem pts_yes : PTs X [] (tC X.K B0 W .yes) := ⟨fun pins s σ H Q I ⟨S, Z, Ψ, rl, bo, w, k⟩ => pts_nil.run pins s σ H Q I (k _ _ _ _ w (Ste.refl rl))⟩
theorem comp_tlc {src : CI} {tg : CT} {cond : CC} {ec : CE} {own : List Nat} (ho : (ownOf X.N own).map (·.2) = own) (hin : tgInB own tg = true) (σ : L2.St) (H : Hp) (Q : VK) (h : tE X.K B W (.comp src tg cond ec own) σ H Q) :
    tLc (tI X.K B W src) (tgT X.K tg) (tC X.K B0 W.nox cond) (tE X.K B0 W.nox ec) ((ownOf X.N own).map (·.2)) σ H Q := by
  obtain ⟨S, Z, Ψ, rl, bo, w, k⟩ := h
  rw [ho]
  refine tI_at rl bo w fun ds S1 Z1 H1 J w1 st1 jok D hD => ?_
  obtain ⟨hlen, w1⟩ := w1
  obtain ⟨Gp, hG, wk⟩ := jok
  have rl1 := st1.rl
  have rlw := rl1.wipe own
  have notD : ∀ {S2 : SS}, (∀ a, OwnA S2 (wipe σ own) a → OwnA (killS S1 own) (wipe σ own) a) → ¬ OwnA S2 (wipe σ own) D := fun ow z => by
    obtain ⟨o, e⟩ := own_in rlw (ow D z)
    rw [hD] at e; cases e
  have hZD : Z1 D = none := rl1.sub.none hD
  refine lc_it wk (fun i H2 => ∃ S2 Z2 vs acc, Rl X.K Z2 S2 (wipe σ own) H2 ∧ Ex (OwnA (killS S1 own) (wipe σ own)) Z1 H1 Z2 H2 ∧ (∀ a, OwnA S2 (wipe σ own) a → OwnA (killS S1 own) (wipe σ own) a) ∧
      (∀ (j : Nat) sv, (killS S1 own)[j]? = some (some sv) → ∃ sv', S2[j]? = some (some sv')) ∧ H2 D = some (.lst vs) ∧ Z2 D = none ∧ RpA X.K Z2 vs acc ∧ acc.length ≤ i ∧
      compW (bindT tg) (wpC W.nox cond) (wpE W.nox ec) own (ds.drop i) S2 fun xs S' => Ψ (.f (.ls (acc ++ xs))) (restS S1 S' own)) ?_ ?_ ?_ ?_
  · refine ⟨_, Z1, [], [], rlw.more hD, ⟨Sub.refl _, fun a o e _ => by rw [upd_ne (ne_of_none e hD)]; exact e, fun a o e => .inl e, fun a o e => ⟨o, by rw [upd_ne (ne_of_none e hD)]; exact e⟩⟩, fun a h => h, fun j sv e => ⟨sv, e⟩, upd_same, hZD, .nil, Nat.le_refl _, w1⟩
  · rintro i H2 _ ⟨S2, Z2, vs, acc, r, ex, _⟩
    exact hG _ (ex.zz.trans r.sub)
  · rintro i x H2 H2' hi' ⟨S2, Z2, vs, acc, r2, ex2, ow2, kp2, hD2, zD2, ra2, hac, w2⟩ ⟨dd, hdd, y⟩
    have hdrop : ds.drop i = dd :: ds.drop (i + 1) := by
      rw [List.drop_eq_getElem_cons hi']
      rw [List.getElem?_eq_getElem hi'] at hdd
      cases hdd; rfl
    rw [hdrop] at w2
    obtain ⟨Z2', sty, rx⟩ := yok_ste r2 (y.mono ex2.zz)
    refine bind_out tg w2 sty.rl rx fun S3 σ3 w3 rl3 bd => ?_
    have hw3 : wipe σ3 own = wipe σ own := wipe_same (by rw [bd.len, wipe_length]) fun j hj => (bd.same j fun z => hj (tgIn_ix tg hin j z)).2
    refine ⟨hw3, tC_at rl3 B0.ok w3 fun b S4 Z4 H4 w4 st4 => ?_⟩
    have own3 : ∀ a, OwnA S3 σ3 a → OwnA (killS S1 own) (wipe σ own) a := fun a h => ow2 a (bd.own h).1
    obtain ⟨tD1, tD2, _⟩ := sty.tmp hD2 (fun _ z => nomatch z) zD2 (notD ow2)
    have nD3 : ¬ OwnA S3 σ3 D := fun z => by
      obtain ⟨o, e⟩ := own_in rlw (own3 D z)
      rw [hD] at e; cases e
    -- what stands behind a turn
    have fin : ∀ {S6 : SS} {Z6 H6 : Hp}, Ste X.K S3 σ3 Z2' H2' S6 Z6 H6 → Rl X.K Z6 (killS S6 own) (wipe σ own) H6 ∧ Ex (OwnA (killS S1 own) (wipe σ own)) Z1 H1 Z6 H6 ∧ (∀ a, OwnA (killS S6 own) (wipe σ own) a → OwnA (killS S1 own) (wipe σ own) a) ∧
        (∀ (j : Nat) sv, (killS S1 own)[j]? = some (some sv) → ∃ sv', (killS S6 own)[j]? = some (some sv')) ∧ H6 D = some (.lst vs) ∧ Z6 D = none ∧ RpA X.K Z6 vs acc := fun {S6 Z6 H6} st6 => by
      obtain ⟨q1, q2, _⟩ := st6.tmp tD1 (fun _ z => nomatch z) tD2 nD3
      have rw6 := st6.rl.wipe own
      rw [hw3] at rw6
      refine ⟨rw6, (ex2.trans sty.ex fun a h => .inl (ow2 a h)).trans st6.ex fun a h => .inl (own3 a h), fun a h => ?_, fun j sv e => ?_, q1, q2, (ra2.mono sty.ex.zz).mono st6.ex.zz⟩
      · rw [← hw3] at h
        obtain ⟨j, _, sv, e, o, kk⟩ := h.ofWipe
        exact own3 a (st6.ow a ⟨j, sv, e, o, kk⟩)
      · have hj : j ∉ own := fun z => (killS_get own S1 j).2 z sv e
        obtain ⟨s2, e2⟩ := kp2 j sv e
        have e3 : S3[j]? = some (some s2) := by rw [(bd.same j fun z => hj (tgIn_ix tg hin j z)).1]; exact e2
        obtain ⟨s6, e6⟩ := st6.kp j s2 e3
        exact ⟨s6, by rw [(killS_get own S6 j).1 hj]; exact e6⟩
    cases b with
    | false =>
      refine iteF ?_
      obtain ⟨f1, f2, f3, f4, f5, f6, f7⟩ := fin st4
      exact ⟨_, Z4, vs, acc, f1, f2, f3, f4, f5, f6, f7, Nat.le_succ_of_le hac, w4.2 rfl⟩
    | true =>
      refine iteT (tE_at st4.rl B0.ok (w4.1 rfl) fun r5 S5 Z5 H5 v5 w5 st5 rv5 fr5 => ?_)
      obtain ⟨x5, S6, Z6, w6, st6, rp6⟩ := fzS_out w5 st5 rv5 fr5
      obtain ⟨f1, f2, f3, f4, f5, f6, f7⟩ := fin (st4.trans st6)
      have nD : ¬ OwnA (killS S6 own) (wipe σ own) D := notD f3
      refine ⟨vs, f5, by rw [f7.length]; omega, _, Z6, vs ++ [v5], acc ++ [x5], f1.updD f6 nD, ⟨f2.zz, fun a o e n => ?_, f2.zn, fun a o e => ?_⟩, f3, f4, upd_same, f6, f7.snoc rp6, by rw [List.length_append, List.length_singleton]; omega, ?_⟩
      · rw [upd_ne (ne_of_none e hD)]; exact f2.hh a o e n
      · obtain ⟨o', e'⟩ := f2.th a o e
        exact ⟨o', by rw [upd_ne (ne_of_none e hD)]; exact e'⟩
      · have q : (fun (xs : List PyData) (S' : SS) => Ψ (.f (.ls (acc ++ [x5] ++ xs))) (restS S1 S' own)) = fun xs S' => Ψ (.f (.ls (acc ++ x5 :: xs))) (restS S1 S' own) := by
          funext xs S'
          rw [List.append_assoc]
          rfl
        rw [q]
        exact w6
  · rintro H2 ⟨S2, Z2, vs, acc, r2, ex2, ow2, kp2, hD2, zD2, ra2, hac, w2⟩
    rw [List.drop_length] at w2
    have w2 : Ψ (.f (.ls (acc ++ []))) (restS S1 S2 own) := w2
    rw [List.append_nil] at w2
    have stf := rest_ste rl1 r2 ex2 ow2 kp2
    refine k _ _ _ _ w2 (st1.trans stf) (.ref D) ⟨D, rfl, zD2, ⟨vs, hD2, ra2⟩, fun z => ?_⟩ fun a e => by cases e; exact st1.ex.none hD
    obtain ⟨o, e⟩ := own_in rl1 (stf.ow D z)
    rw [hD] at e; cases e
theorem comp_fold {it : Expr} {env : Env} (hset : notSetB it = true) : ∀ x, foldedSetIterable it env x = pure x := by
  intro x
  cases it <;> first | rfl | cases hset
theorem comp_g {tg : CT} {tge : Expr} {scope : Scope} (g : Gx X G d) (hg : ckT X.N [] scope tg tge = true) (s : Shared) (H : Hp) (C : Addr) (cl : List (Str × Addr)) (fp : List Addr) : PG (X.blk s H scope (compEnvC scope cl C X.env) fp) tge (tgT X.K tg) := by
  refine g_ok (X := X.blk s H scope (compEnvC scope cl C X.env) fp) (fx := []) (sc := scope) g.nd g.calm (fun x hx => ?_) tg tge hg
  have hl : scope.names.lookup x = some .local ∨ scope.names.lookup x = some .cell := by
    unfold locB at hx
    split at hx <;> simp_all
  rcases hl with hl | hl
  · have q : (relS scope X.env.scope).names.lookup x = some .local := lookup_relS_keep (by decide) hl
    exact ⟨.inl q, .inr q⟩
  · have q : (relS scope X.env.scope).names.lookup x = some .cell := lookup_relS_keep (by decide) hl
    exact ⟨.inr q, .inl (by show (scope.names.lookup x == some .cell) = true; rw [hl]; rfl)⟩
theorem e_comp {elt tge it : Expr} {ifs : List Expr} {scope : Scope} {pos : Pos} {src : CI} {tg : CT} {cond : CC} {ec : CE} {own : List Nat} (g : Gx X G d) (hs : X.env.scope = sc) (hset : notSetB it = true) (hi : PI X tge it (tI X.K B W src))
    (hb : blkC X.N sc scope (ownOf X.N own) = true) (ho : (ownOf X.N own).map (·.2) = own) (hin : tgInB own tg = true) (hg : ckT X.N [] scope tg tge = true)
    (ht : ∀ (s : Shared) (H : Hp) (C : Addr) (cl : List (Str × Addr)) (fp : List Addr), PTs (X.blk s H scope (compEnvC scope cl C X.env) fp) ifs (tC X.K B0 W.nox cond))
    (he : ∀ (s : Shared) (H : Hp) (C : Addr) (cl : List (Str × Addr)) (fp : List Addr), PE (X.blk s H scope (compEnvC scope cl C X.env) fp) elt (tE X.K B0 W.nox ec)) :
    PE X (.ListComp elt [⟨tge, it, ifs, 0⟩] scope pos) (tE X.K B W (.comp src tg cond ec own)) := by
  subst hs
  exact pe_imp (pe_lc g.calm g.nd hi (blkOk_by hb) (comp_g g hg) ht he (comp_fold hset)) (comp_tlc ho hin)
end
end Fw

set_option Elab.async false
set_option linter.all false
set_option maxRecDepth 100000
set_option maxHeartbeats 4000000
/-! Fw, part K: calls of the text's defs. -/
namespace Fw
open PySem PySem.Spec L2

section
variable {K : PySem.W.Frag} {Z H Z0 H0 Z' H' : Hp} {S S0 : SS} {σ : L2.St} {T : Addr → Prop} {svs outs : List SV} {is : List (Option Nat)} {vs : List V}
theorem AR.len (h : AR K Z H S σ T svs is vs) : svs.length = vs.length ∧ is.length = vs.length := by
  induction h with
  | nil => exact ⟨rfl, rfl⟩
  | v _ _ ih => simp [ih.1, ih.2]
  | s _ _ _ _ ih => simp [ih.1, ih.2]
  | t _ _ _ _ _ ih => simp [ih.1, ih.2]
theorem AR.el (h : AR K Z H S σ T svs is vs) (rl : Rl K Z S σ H) : ∀ (j : Nat) (sv : SV), svs[j]? = some sv → ∃ v, vs[j]? = some v ∧ SlR K Z H v sv ∧ ((∃ i, is[j]? = some (some i) ∧ S[i]? = some (some sv) ∧ σ[i]? = some (some v)) ∨
    (is[j]? = some none ∧ ∀ a, v = .ref a → sv.isOwn = true → T a ∧ ¬ OwnA S σ a)) := by
  induction h with
  | nil => intro j sv e; simp at e
  | v r _ ih =>
    intro j sv e
    cases j with
    | zero =>
      simp at e; subst e
      exact ⟨_, rfl, r, .inr ⟨rfl, fun a _ o => by cases o⟩⟩
    | succ j => exact ih j sv (by simpa using e)
  | @s T i sv0 v0 svs is vs e0 r0 k0 _ ih =>
    intro j sv e
    cases j with
    | zero =>
      simp at e; subst e
      exact ⟨_, rfl, rl.slot e0 k0, .inl ⟨i, rfl, e0, k0⟩⟩
    | succ j => exact ih j sv (by simpa using e)
  | @t T sv0 a0 svs is vs h1 h2 h3 h4 _ ih =>
    intro j sv e
    cases j with
    | zero =>
      simp at e; subst e
      exact ⟨_, rfl, SlR.mk h1 h2, .inr ⟨rfl, fun a ea _ => by cases ea; exact ⟨.inl rfl, h3⟩⟩⟩
    | succ j =>
      obtain ⟨v, k1, k2, k3⟩ := ih j sv (by simpa using e)
      refine ⟨v, k1, k2, k3.imp (fun h => h) fun h => ⟨h.1, fun a ea o => ⟨.inr (h.2 a ea o).1, (h.2 a ea o).2⟩⟩⟩
theorem mem_fm {is : List (Option Nat)} {j i : Nat} (h : is[j]? = some (some i)) : i ∈ is.filterMap id := List.mem_filterMap.mpr ⟨some i, List.mem_of_getElem? h, rfl⟩
theorem AR.sep (h : AR K Z H S σ T svs is vs) (rl : Rl K Z S σ H) (nd : (is.filterMap id).Nodup) : ∀ (j l : Nat) (sj sl : SV) (a : Addr), svs[j]? = some sj → sj.isOwn = true → svs[l]? = some sl → sl.isOwn = true →
    vs[j]? = some (.ref a) → vs[l]? = some (.ref a) → j = l := by
  induction h with
  | nil => intro j l sj sl a e; simp at e
  | @v T d v svs is vs r h ih =>
    intro j l sj sl a e1 o1 e2 o2 k1 k2
    cases j with
    | zero => simp at e1; subst e1; cases o1
    | succ j =>
      cases l with
      | zero => simp at e2; subst e2; cases o2
      | succ l => rw [ih (by simpa using nd) j l sj sl a (by simpa using e1) o1 (by simpa using e2) o2 (by simpa using k1) (by simpa using k2)]
  | @s T i sv0 v0 svs is vs e0 r0 k0 h ih =>
    have nd' : i ∉ is.filterMap id ∧ (is.filterMap id).Nodup := by simpa using nd
    have cross : ∀ (l : Nat) (sl : SV) (a : Addr), sv0.isOwn = true → v0 = .ref a → svs[l]? = some sl → sl.isOwn = true → vs[l]? = some (.ref a) → False := fun l sl a o0 ev e2 o2 k2 => by
      obtain ⟨v, q1, q2, q3⟩ := h.el rl l sl e2
      rw [k2] at q1; cases q1
      subst ev
      rcases q3 with ⟨i', p1, p2, p3⟩ | ⟨p1, p2⟩
      · have := rl.sep i i' sv0 sl a e0 o0 p2 o2 k0 p3
        subst this
        exact nd'.1 (mem_fm p1)
      · exact (p2 a rfl o2).2 ⟨i, sv0, e0, o0, k0⟩
    intro j l sj sl a e1 o1 e2 o2 k1 k2
    cases j with
    | zero =>
      simp at e1 k1; subst e1
      cases l with
      | zero => rfl
      | succ l => exact (cross l sl a o1 k1 (by simpa using e2) o2 (by simpa using k2)).elim
    | succ j =>
      cases l with
      | zero =>
        simp at e2 k2; subst e2
        exact (cross j sj a o2 k2 (by simpa using e1) o1 (by simpa using k1)).elim
      | succ l => rw [ih nd'.2 j l sj sl a (by simpa using e1) o1 (by simpa using e2) o2 (by simpa using k1) (by simpa using k2)]
  | @t T sv0 a0 svs is vs h1 h2 h3 h4 h ih =>
    have nd' : (is.filterMap id).Nodup := by simpa using nd
    have cross : ∀ (l : Nat) (sl : SV), svs[l]? = some sl → sl.isOwn = true → vs[l]? = some (.ref a0) → False := fun l sl e2 o2 k2 => by
      obtain ⟨v, q1, q2, q3⟩ := h.el rl l sl e2
      rw [k2] at q1; cases q1
      rcases q3 with ⟨i', p1, p2, p3⟩ | ⟨p1, p2⟩
      · exact h3 ⟨i', sl, p2, o2, p3⟩
      · exact h4 (p2 a0 rfl o2).1
    intro j l sj sl a e1 o1 e2 o2 k1 k2
    cases j with
    | zero =>
      simp at e1 k1; subst k1
      cases l with
      | zero => rfl
      | succ l => exact (cross l sl (by simpa using e2) o2 (by simpa using k2)).elim
    | succ j =>
      cases l with
      | zero =>
        simp at e2 k2; subst k2
        exact (cross j sj (by simpa using e1) o1 (by simpa using k1)).elim
      | succ l => rw [ih nd' j l sj sl a (by simpa using e1) o1 (by simpa using e2) o2 (by simpa using k1) (by simpa using k2)]
theorem map_some_get {α : Type} {l : List α} {j : Nat} {x : α} : (l.map some)[j]? = some (some x) ↔ l[j]? = some x := by
  rw [List.getElem?_map]
  cases l[j]? <;> simp
theorem AR.rl (h : AR K Z H S σ T svs is vs) (rl : Rl K Z S σ H) (nd : (is.filterMap id).Nodup) : Rl K Z (svs.map some) (vs.map some) H where
  sub := rl.sub
  len := by rw [List.length_map, List.length_map]; exact h.len.1
  at' := fun j sv e => by
    obtain ⟨v, k1, k2, _⟩ := h.el rl j sv (map_some_get.mp e)
    exact ⟨v, map_some_get.mpr k1, k2⟩
  sep := fun j l sj sl a e1 o1 e2 o2 k1 k2 => h.sep rl nd j l sj sl a (map_some_get.mp e1) o1 (map_some_get.mp e2) o2 (map_some_get.mp k1) (map_some_get.mp k2)
theorem AR.own (h : AR K Z H S σ T svs is vs) (rl : Rl K Z S σ H) {a : Addr} (o : OwnA (svs.map some) (vs.map some) a) : (∃ (i j : Nat) (sv : SV), is[j]? = some (some i) ∧ S[i]? = some (some sv) ∧ sv.isOwn = true ∧ σ[i]? = some (some (.ref a))) ∨ (T a ∧ ¬ OwnA S σ a) := by
  obtain ⟨j, sv, e, ow, k⟩ := o
  obtain ⟨v, k1, k2, k3⟩ := h.el rl j sv (map_some_get.mp e)
  rw [map_some_get.mp k] at k1; cases k1
  rcases k3 with ⟨i, p1, p2, p3⟩ | ⟨p1, p2⟩
  · exact .inl ⟨i, j, sv, p1, p2, ow, p3⟩
  · exact .inr (p2 a rfl ow)
theorem putOuts_len : ∀ (is : List (Option Nat)) (outs : List SV) (S : SS), (putOuts S is outs).length = S.length
  | [], outs, _ => by cases outs <;> rfl
  | some i :: is, sv :: outs, S => by show (putOuts (S.set i (some sv)) is outs).length = _; rw [putOuts_len, List.length_set]
  | none :: is, _ :: outs, S => by show (putOuts S is outs).length = _; rw [putOuts_len]
  | some i :: is, [], S => rfl
  | none :: is, [], S => rfl
theorem putOuts_out : ∀ (is : List (Option Nat)) (outs : List SV) (S : SS) (i : Nat), i ∉ is.filterMap id → (putOuts S is outs)[i]? = S[i]?
  | [], outs, S, i, _ => by cases outs <;> rfl
  | some k :: is, sv :: outs, S, i, h => by
    have h' : i ≠ k ∧ i ∉ is.filterMap id := by simpa using h
    show (putOuts (S.set k (some sv)) is outs)[i]? = _
    rw [putOuts_out is outs _ i h'.2, List.getElem?_set_ne (Ne.symm h'.1)]
  | none :: is, _ :: outs, S, i, h => by
    show (putOuts S is outs)[i]? = _
    exact putOuts_out is outs S i (by simpa using h)
  | some i :: is, [], S, _, _ => rfl
  | none :: is, [], S, _, _ => rfl
theorem putOuts_in : ∀ (is : List (Option Nat)) (outs : List SV) (S : SS) (j i : Nat) (sv : SV), (is.filterMap id).Nodup → is[j]? = some (some i) → outs[j]? = some sv → i < S.length → (putOuts S is outs)[i]? = some (some sv)
  | [], _, _, j, i, sv, _, e, _, _ => by simp at e
  | some k :: is, sv0 :: outs, S, j, i, sv, nd, e, eo, hi => by
    have nd' : k ∉ is.filterMap id ∧ (is.filterMap id).Nodup := by simpa using nd
    show (putOuts (S.set k (some sv0)) is outs)[i]? = _
    cases j with
    | zero =>
      simp at e eo; subst e; subst eo
      rw [putOuts_out is outs _ k nd'.1, List.getElem?_set_self hi]
    | succ j => exact putOuts_in is outs _ j i sv nd'.2 (by simpa using e) (by simpa using eo) (by rw [List.length_set]; exact hi)
  | none :: is, sv0 :: outs, S, j, i, sv, nd, e, eo, hi => by
    show (putOuts S is outs)[i]? = _
    cases j with
    | zero => simp at e
    | succ j => exact putOuts_in is outs S j i sv (by simpa using nd) (by simpa using e) (by simpa using eo) hi
  | some _ :: _, [], S, j, i, sv, _, _, eo, _ => by simp at eo
  | none :: _, [], S, j, i, sv, _, _, eo, _ => by simp at eo
theorem kin_at {outs svs : List SV} (h : outs.map SV.isOwn = svs.map SV.isOwn) {j : Nat} {o : SV} (e : outs[j]? = some o) : ∃ sv, svs[j]? = some sv ∧ sv.isOwn = o.isOwn := by
  have q : (outs.map SV.isOwn)[j]? = some o.isOwn := by rw [List.getElem?_map, e]; rfl
  rw [h, List.getElem?_map] at q
  cases k : svs[j]? with
  | none => rw [k] at q; cases q
  | some sv => rw [k] at q; exact ⟨sv, rfl, Option.some.inj q⟩
/-- back from a call -/
theorem call_back (h : AR K Z H S σ T svs is vs) (st : Ste K S0 σ Z0 H0 S Z H) (nd : (is.filterMap id).Nodup) (hT : ∀ a, T a → H0 a = none) (c : Ste K (svs.map some) (vs.map some) Z H (outs.map some) Z' H') (kin : outs.map SV.isOwn = svs.map SV.isOwn) :
    Ste K S0 σ Z0 H0 (putOuts S is outs) Z' H' ∧ ∀ a, OwnA (putOuts S is outs) σ a → OwnA S σ a := by
  have rl := st.rl
  have lo : outs.length = svs.length := by have := congrArg List.length kin; simpa using this
  -- a slot of the new state
  have slot : ∀ {i : Nat} {sv : SV}, (putOuts S is outs)[i]? = some (some sv) → (i ∉ is.filterMap id ∧ S[i]? = some (some sv)) ∨ ∃ j s1 v, is[j]? = some (some i) ∧ outs[j]? = some sv ∧ svs[j]? = some s1 ∧ s1.isOwn = sv.isOwn ∧ S[i]? = some (some s1) ∧ vs[j]? = some v ∧ σ[i]? = some (some v) := fun {i sv} e => by
    by_cases hi : i ∈ is.filterMap id
    · obtain ⟨x, hx, ex⟩ := List.mem_filterMap.mp hi
      have ex' : x = some i := ex
      subst ex'
      obtain ⟨j, hj⟩ := List.getElem?_of_mem hx
      have hjl : j < outs.length := by
        have := (List.getElem?_eq_some_iff.mp hj).1
        rw [lo, h.len.1, ← h.len.2]; exact this
      have eo : outs[j]? = some outs[j] := List.getElem?_eq_getElem hjl
      obtain ⟨s1, es, ek⟩ := kin_at kin eo
      obtain ⟨v, k1, k2, k3⟩ := h.el rl j s1 es
      rcases k3 with ⟨i', p1, p2, p3⟩ | ⟨p1, _⟩
      · rw [hj] at p1; cases p1
        have hl : i < S.length := (List.getElem?_eq_some_iff.mp p2).1
        have q := putOuts_in is outs S j i _ nd hj eo hl
        rw [e] at q; cases q
        exact .inr ⟨j, s1, v, hj, eo, es, ek, p2, k1, p3⟩
      · rw [hj] at p1; cases p1
    · exact .inl ⟨hi, by rw [← putOuts_out is outs S i hi]; exact e⟩
  have own1 : ∀ {i : Nat} {sv : SV}, (putOuts S is outs)[i]? = some (some sv) → sv.isOwn = true → ∃ s1, S[i]? = some (some s1) ∧ s1.isOwn = true := fun {i sv} e o => by
    rcases slot e with ⟨_, e'⟩ | ⟨j, s1, v, _, _, _, ek, e', _, _⟩
    · exact ⟨sv, e', o⟩
    · exact ⟨s1, e', by rw [ek]; exact o⟩
  have notO : ∀ {i : Nat} {sv : SV} {a : Addr}, i ∉ is.filterMap id → S[i]? = some (some sv) → sv.isOwn = true → σ[i]? = some (some (.ref a)) → ¬ OwnA (svs.map some) (vs.map some) a := fun {i sv a} hi e o k z => by
    rcases h.own rl z with ⟨i', j, s', p1, p2, p3, p4⟩ | ⟨_, p⟩
    · have := rl.sep i i' sv s' a e o p2 p3 k p4
      subst this
      exact hi (mem_fm p1)
    · exact p ⟨i, sv, e, o, k⟩
  have ow : ∀ a, OwnA (putOuts S is outs) σ a → OwnA S σ a := fun a ⟨i, sv, e, o, k⟩ => by
    obtain ⟨s1, e1, o1⟩ := own1 e o
    exact ⟨i, s1, e1, o1, k⟩
  refine ⟨⟨⟨c.rl.sub, by rw [putOuts_len]; exact rl.len, fun i sv e => ?_, fun i l si sl a e1 o1 e2 o2 k1 k2 => ?_⟩, st.ex.trans c.ex fun a z => ?_, fun a z => st.ow a (ow a z), fun i sv e => ?_⟩, ow⟩
  · rcases slot e with ⟨hi, e'⟩ | ⟨j, s1, v, p1, p2, p3, p4, p5, p6, p7⟩
    · obtain ⟨v, k1, k2⟩ := rl.at' i sv e'
      refine ⟨v, k1, k2.mono c.ex.zz (fun a o hv hown q => ?_) fun a hv hown hz => ?_⟩
      · exact c.ex.hh a o q (notO hi e' hown (by rw [k1, hv]))
      · cases q : Z' a with
        | none => rfl
        | some u =>
          obtain ⟨b, q1, q2, q3, q4⟩ := rl.own e' hown
          rw [k1, hv] at q1; cases q1
          obtain ⟨o, ho⟩ := q3.there
          rcases c.ex.zn _ u q with z | z | z
          · rw [hz] at z; cases z
          · exact absurd z q3.noOb
          · exact absurd z (notO hi e' hown (by rw [k1, hv]))
    · obtain ⟨w, q1, q2⟩ := c.rl.at' j sv (map_some_get.mpr p2)
      rw [map_some_get.mpr p6] at q1; cases q1
      exact ⟨v, p7, q2⟩
  · obtain ⟨s1, f1, f2⟩ := own1 e1 o1
    obtain ⟨s2, f3, f4⟩ := own1 e2 o2
    exact rl.sep i l s1 s2 a f1 f2 f3 f4 k1 k2
  · rcases h.own rl z with ⟨i', j, s', p1, p2, p3, p4⟩ | ⟨p, _⟩
    · exact .inl (st.ow a ⟨i', s', p2, p3, p4⟩)
    · exact .inr (hT a p)
  · obtain ⟨s1, e1⟩ := st.kp i sv e
    by_cases hi : i ∈ is.filterMap id
    · obtain ⟨x, hx, ex⟩ := List.mem_filterMap.mp hi
      have ex' : x = some i := ex
      subst ex'
      obtain ⟨j, hj⟩ := List.getElem?_of_mem hx
      have hjl : j < outs.length := by
        have := (List.getElem?_eq_some_iff.mp hj).1
        rw [lo, h.len.1, ← h.len.2]; exact this
      exact ⟨outs[j], putOuts_in is outs S j i _ nd hj (List.getElem?_eq_getElem hjl) (List.getElem?_eq_some_iff.mp e1).1⟩
    · exact ⟨s1, by rw [putOuts_out is outs S i hi]; exact e1⟩
end

section
variable {X : Cx} {G : Pg} {d : Nat} {B : Bs} {W : Wv} {sc : Scope}
theorem tA_at {K : PySem.W.Frag} {c : CAs} {S : SS} {σ : L2.St} {Z H : Hp} {Q : List V → Hp → Prop} (rl : Rl K Z S σ H) (bo : BaseOk B Z S σ H) {Ψ : List SV → List (Option Nat) → SS → Prop} (w : wpA W c S Ψ)
    (k : ∀ svs is S' Z' H' T vs, Ψ svs is S' → Ste K S σ Z H S' Z' H' → AR K Z' H' S' σ T svs is vs → (∀ a, T a → H a = none) → Q vs H') : tA K B W c σ H Q := ⟨S, Z, Ψ, rl, bo, w, k⟩
theorem a_nil : PA X [] (tA X.K B W .nil) := pa_imp pa_nil fun σ H Q ⟨S, Z, Ψ, rl, bo, w, k⟩ => k _ _ _ _ _ _ _ w (Ste.refl rl) .nil fun _ h => h.elim
theorem a_v {e : Expr} {es : List Expr} {c : CE} {r : CAs} (hn : notStarB e = true) (he : PE X e (tE X.K B W c)) (hs : PA X es (tA X.K B W r)) : PA X (e :: es) (tA X.K B W (.v c r)) := by
  refine pa_imp (pa_cons he hs (star_ok hn)) fun σ H Q ⟨S, Z, Ψ, rl, bo, w, k⟩ => ?_
  refine tE_at rl bo w fun r1 S1 Z1 H1 v1 w1 st1 rv1 fr1 => ?_
  obtain ⟨dd, S1', Z1', w2, st1', rp⟩ := fzS_out w1 st1 rv1 fr1
  exact tA_at st1'.rl (bo.ste st1') w2 fun svs is S2 Z2 H2 T vs w3 st2 ar hT => k _ _ _ _ _ _ _ w3 (st1'.trans st2) (.v (rp.mono st2.ex.zz) ar) fun a h => st1'.ex.none (hT a h)
theorem a_t {e : Expr} {es : List Expr} {c : CE} {r : CAs} (hn : notStarB e = true) (he : PE X e (tE X.K B W c)) (hs : PA X es (tA X.K B W r)) : PA X (e :: es) (tA X.K B W (.t c r)) := by
  refine pa_imp (pa_cons he hs (star_ok hn)) fun σ H Q ⟨S, Z, Ψ, rl, bo, w, k⟩ => ?_
  refine tE_at rl bo w fun r1 S1 Z1 H1 v1 w1 st1 rv1 fr1 => ?_
  obtain ⟨sv, rfl, w2⟩ := w1
  refine tA_at st1.rl (bo.ste st1) w2 fun svs is S2 Z2 H2 T vs w3 st2 ar hT => ?_
  obtain ⟨o, ho⟩ : ∃ o, H1 (match v1 with | .ref a => a | _ => 0) = some o := by
    obtain ⟨a, rfl, _, q, _⟩ := rv1
    exact q.there
  have rv2 := rv1.keep st2
  obtain ⟨a, rfl, q1, q2, q3⟩ := rv2
  have ho : H1 a = some o := ho
  refine k _ _ _ _ _ _ _ w3 (st1.trans st2) (.t q1 q2 q3 (fun z => ?_) ar) fun b hb => ?_
  · rw [hT a z] at ho; cases ho
  · rcases hb with rfl | hb
    · exact fr1 b rfl
    · exact st1.ex.none (hT b hb)
theorem a_s {x : Str} {pos : Pos} {es : List Expr} {i : Nat} {r : CAs} (hs : X.env.scope = sc) (h : ckVar X.N sc i x = true) (ha : PA X es (tA X.K B W r)) : PA X (.Name x pos :: es) (tA X.K B W (.s i r)) := by
  obtain ⟨h1, h2, h3, h4⟩ := ckVar_of h
  refine pa_imp (pa_cons (pe_var h1 (by rw [hs]; exact h2) h3 h4) ha (star_ok rfl)) fun σ H Q ⟨S, Z, Ψ, rl, bo, w, k⟩ => ?_
  obtain ⟨⟨sv, e⟩, w⟩ := w
  obtain ⟨v, h5, h6⟩ := rl.at' i sv e
  refine ⟨v, h5, tA_at rl bo w fun svs is S2 Z2 H2 T vs w3 st2 ar hT => ?_⟩
  obtain ⟨s2, e2, o2, w4⟩ := w3
  exact k _ _ _ _ _ _ _ w4 st2 (.s e2 o2 h5 ar) hT
theorem e_call {k : Nat} {x : Str} {es : List Expr} {as : CAs} {p pos : Pos} (o : Wok X G d B W) (hs : X.env.scope = sc) (hk : G.M.fn k = some x) (hx : ckGl sc x = true) (hn : noStarsB es = true) (he : es.isEmpty = false) (ha : PA X es (tA X.K B W as)) :
    PE X (.Call (.Name x p) es [] pos) (tE X.K B W (.call k as)) := by
  obtain ⟨hg, hd⟩ := gl_of hs hx
  have g := o.gx
  obtain ⟨fn, ef⟩ := g.dom k x hk
  · obtain ⟨x', f, fd, ps, e1, e2, e3, e4, e5, F⟩ := g.fns k fn ef
    rw [hk] at e1; cases e1
    have spec : ∀ (σ : L2.St) (H : Hp) (Q : VK), tE X.K B W (.call k as) σ H Q → tA X.K B W as σ H fun vs H1 => spF X.K G d k vs H1 Q (WE (Wx X.K B G.cl W.xq) σ) := fun σ H Q ⟨S, Z, Ψ, rl, bo, w, kk⟩ => by
      refine tA_at rl bo w fun svs is S1 Z1 H1 T vs w1 st1 ar hT => ?_
      obtain ⟨nd, w2⟩ := w1
      rw [o.cw] at w2
      refine ⟨Z1, svs, _, _, ar.rl st1.rl nd, w2, fun r outs Z' H' v hr ce => ?_, fun c outs cls Z' H' dd hc hcl st kin => ?_⟩
      · obtain ⟨cb, ow⟩ := call_back ar st1 nd hT ce.st ce.kin
        refine kk _ _ _ _ hr cb v ?_ (ce.fr.from fun a h => st1.ex.none h)
        cases r with
        | z d => exact ce.rv
        | b i => exact absurd rfl (ce.nb i)
        | f sv =>
          obtain ⟨a, rfl, q1, q2, q3⟩ := ce.rv
          refine ⟨a, rfl, q1, q2, fun z => ?_⟩
          obtain ⟨u, hu⟩ := own_in st1.rl (ow a z)
          rw [ce.fr a rfl] at hu; cases hu
      · obtain ⟨cb, ow⟩ := call_back ar st1 nd hT st kin
        exact ⟨c, _, Z', hcl, cb.rl, bo.ste cb, hc⟩
    have pass : ∀ σ, PassesAt (L2.CX X.prog X.w) X σ (WE (Wx X.K B G.cl W.xq) σ) := fun σ => passAt o.tk σ
    cases es with
    | nil => cases he
    | cons e es =>
      have hn' : notStarB e = true ∧ noStarsB es = true := by simpa [noStarsB] using hn
      exact pe_imp (pe_callS F g.room hg e2 e3 e4 pass ha hd (star_ok hn'.1) (stars_ok hn'.2)) fun σ H Q w => spec σ H Q w
end
end Fw

set_option Elab.async false
set_option linter.all false
set_option maxRecDepth 100000
set_option maxHeartbeats 4000000
/-! Fw, part Ks: sum of lists, of tuples. -/
namespace Fw
open PySem PySem.Spec L2
theorem args_sum2 (a b : Value) : argsOk "sum" ⟨[a, b], []⟩ := by unfold argsOk; kernel_rfl
theorem sub_lstr : isSubtype (.type "list") (.type "str") = pure false := by rw [isSubtype_type]; kernel_rfl
theorem sub_lbytes : isSubtype (.type "list") (.type "bytes") = pure false := by rw [isSubtype_type]; kernel_rfl
theorem sub_lbytearray : isSubtype (.type "list") (.type "bytearray") = pure false := by rw [isSubtype_type]; kernel_rfl
def preCat (Ys : Nat → List Value) : Nat → List Value
  | 0 => []
  | j + 1 => preCat Ys j ++ Ys j
theorem preCat_le {Ys : Nat → List Value} {i n : Nat} (h : i ≤ n) : (preCat Ys i).length ≤ (preCat Ys n).length := by
  induction n with
  | zero => have : i = 0 := by omega
            subst this; exact Nat.le_refl _
  | succ n ih =>
    by_cases e : i = n + 1
    · subst e; exact Nat.le_refl _
    · have := ih (by omega)
      show _ ≤ (preCat Ys n ++ Ys n).length
      rw [List.length_append]; omega
section
variable {prog : Program} {w : World} {A : Around} {R : Result → Shared → Prop} {I S l : Addr} {items : Array Value} {Ys : Nat → List Value}
theorem codeAny_sum_lists (hh : A.in1.handled = none) (hlI : l ≠ I) (hSI : S ≠ I) (hSl : S ≠ l) (hz : (preCat Ys items.size).length ≤ sizeLine) :
    ∀ (k i : Nat) (s : Shared) (t : Addr) (n c : Nat), items.size - i = k → i ≤ items.size → (s.heap.IsListIter I l i ∧ s.heap.IsList l items) →
    s.heap.get? S = some { cls := .type "list", dict := none, data := .seq #[.ref t] c, slots := #[] } → PySem.IsL s.heap t (preCat Ys i).toArray n → t ≠ I → t ≠ S →
    (∀ (j : Nat) (v : Value), items[j]? = some v → ∃ a m, v = .ref a ∧ PySem.IsL s.heap a (Ys j).toArray m ∧ a ≠ I ∧ a ≠ S) →
    (∀ h' tk t' m, (∀ b o, b ≠ I → b ≠ S → s.heap.get? b = some o → h'.get? b = some o) → PySem.IsL h' t' (preCat Ys items.size).toArray m → t' ≠ I → t' ≠ S → ((i = items.size ∧ t' = t) ∨ s.heap.get? t' = none) → R (.ok (.ret (.ref t'))) { s with heap := h', toks := tk }) →
    codeAny (model prog w) A (.builtin "sum.loop" ⟨[.ref I, .ref S, rawInt 2, rawInt 0], []⟩) R s := by
  have W := Walks.list (prog := prog) (w := w) (A := A.in1) hh I l hlI items
  intro k
  induction k with
  | zero =>
    intro i s t n c hk hi hst hS ht htI htS hel hR
    have hin : i = items.size := by omega
    subst hin
    refine codeAny_builtin F.entry_sum_loop ?_
    rw [Around.under_plainId F.plain_sum_loop _]
    show wpAny _ A.in1 (seqItems? (.ref S) >>= _) _ _ s
    refine wpAny_bind (wpAny_seqItems hS rfl ?_)
    show wpAny _ A.in1 (tryCatch (pyNext (.ref I)) _ >>= _) _ _ s
    refine wpAny_bind (wpAny_tryCatch (W.done s _ _ hst fun h' tk hk' => ?_))
    have hk2 : ∀ b o, b ≠ I → s.heap.get? b = some o → h'.get? b = some o := fun b o hb e => hk' b o (by simpa using hb) e
    exact wpAny_pure (hR h' tk t n (fun b o hb _ e => hk2 b o hb e) (hk2 _ _ htI ht) htI htS (.inl ⟨rfl, rfl⟩))
  | succ k ih =>
    intro i s t n c hk hi hst hS ht htI htS hel hR
    have hlt : i < items.size := by omega
    refine codeAny_builtin F.entry_sum_loop ?_
    rw [Around.under_plainId F.plain_sum_loop _]
    show wpAny _ A.in1 (seqItems? (.ref S) >>= _) _ _ s
    refine wpAny_bind (wpAny_seqItems hS rfl ?_)
    show wpAny _ A.in1 (tryCatch (pyNext (.ref I)) _ >>= _) _ _ s
    refine wpAny_bind (wpAny_tryCatch (W.item i s _ _ hlt hst fun v h' tk hP hst' hk' => ?_))
    have hk2 : ∀ b o, b ≠ I → s.heap.get? b = some o → h'.get? b = some o := fun b o hb e => hk' b o (by simpa using hb) e
    obtain ⟨a, m, rfl, ha, haI, haS⟩ := hel i v hP
    have hS' := hk2 S _ hSI hS
    have ht' : PySem.IsL h' t _ _ := hk2 _ _ htI ht
    have ha' : PySem.IsL h' a _ _ := hk2 _ _ haI ha
    have hsz : (preCat Ys i).toArray.size + (Ys i).toArray.size ≤ sizeLine := by
      have := preCat_le (Ys := Ys) (show i + 1 ≤ items.size by omega)
      have e : (preCat Ys (i + 1)).length = (preCat Ys i).length + (Ys i).length := by show (preCat Ys i ++ Ys i).length = _; rw [List.length_append]
      simp only [List.size_toArray]; omega
    show wpAny _ A.in1 ((holding [Value.ref a] (binaryOp .Add (.ref t) (.ref a))).attempt >>= _) _ _ _
    refine wpAny_bind (wpAny_attempt (wpAny_holding (PySem.P.add_list (s := { s with heap := h', toks := tk }) ht' ha' ?_ hsz)))
    have hpS : (h'.push { cls := .type "list", data := .seq ((preCat Ys i).toArray ++ (Ys i).toArray) }).get? S = some { cls := .type "list", dict := none, data := .seq #[.ref t] c, slots := #[] } := Heap.get?_push_of_some _ hS'
    show wpAny _ A.in1 (updateSeq S (fun _ => #[.ref h'.objs.size]) >>= _) _ _ _
    refine wpAny_bind ?_
    refine wpAny_updateSeq hpS rfl ?_
    have hS2 := Heap.get?_update_self (Obj.mapSeq fun _ => #[Value.ref h'.objs.size]) hpS rfl
    refine wpAny_bind (wpAny_letGo ?_)
    refine wpAny_bind ?_
    have low : ∀ b o, h'.get? b = some o → b < h'.objs.size := fun b o e => Heap.lt_size e
    have nS : h'.objs.size ≠ S := fun e => Nat.lt_irrefl _ (e ▸ low _ _ hS')
    obtain ⟨oI, eI, _⟩ := hst'.1
    have nI : h'.objs.size ≠ I := fun e => Nat.lt_irrefl _ (e ▸ low _ _ eI)
    refine wpAny_updateSeq hS2 rfl (wpAny_pure ⟨plainId_quiet F.plain_sum_loop _, ?_⟩)
    have keep : ∀ b o, b ≠ S → h'.get? b = some o → (((h'.push { cls := .type "list", data := .seq ((preCat Ys i).toArray ++ (Ys i).toArray) }).update S (Obj.mapSeq fun _ => #[Value.ref h'.objs.size])).update S (Obj.mapSeq fun _ => #[Value.ref h'.objs.size])).get? b = some o := fun b o hb e =>
      (Heap.get?_update_other _ _ (Ne.symm hb)).trans ((Heap.get?_update_other _ _ (Ne.symm hb)).trans (Heap.get?_push_of_some _ e))
    have newL : PySem.IsL (((h'.push { cls := .type "list", data := .seq ((preCat Ys i).toArray ++ (Ys i).toArray) }).update S (Obj.mapSeq fun _ => #[Value.ref h'.objs.size])).update S (Obj.mapSeq fun _ => #[Value.ref h'.objs.size])) h'.objs.size (preCat Ys (i + 1)).toArray 0 := by
      refine (Heap.get?_update_other _ _ (Ne.symm nS)).trans ((Heap.get?_update_other _ _ (Ne.symm nS)).trans ?_)
      have e : (preCat Ys (i + 1)).toArray = (preCat Ys i).toArray ++ (Ys i).toArray := by show (preCat Ys i ++ Ys i).toArray = _; simp
      rw [e]
      exact Heap.get?_push_size _ rfl
    refine ih (i + 1) _ h'.objs.size 0 _ (by omega) hlt (W.frame _ _ _ hst' fun b hb o e => ?_) (Heap.get?_update_self _ hS2 rfl) newL nI nS (fun j v hj => ?_) fun h'' tk'' t'' m'' hk'' hi'' h1 h2 h3 => ?_
    · have hb' : b ≠ S := fun z => by
        subst z
        have : b = I ∨ b = l := by simpa using hb
        rcases this with z | z
        · exact hSI z
        · exact hSl z
      exact keep b o hb' e
    · obtain ⟨a2, m2, e2, q2, q3, q4⟩ := hel j v hj
      exact ⟨a2, m2, e2, keep _ _ q4 (hk2 _ _ q3 q2), q3, q4⟩
    · refine hR h'' tk'' t'' m'' (fun b o hb hbS e => hk'' b o hb hbS (keep b o hbS (hk2 b o hb e))) hi'' h1 h2 (.inr ?_)
      cases q : s.heap.get? t'' with
      | none => rfl
      | some o =>
        have q' := hk2 t'' o h1 q
        rcases h3 with h3 | h3
        · obtain ⟨_, rfl⟩ := h3
          exact absurd (low _ _ q') (Nat.lt_irrefl _)
        · rw [keep t'' o h2 q'] at h3; cases h3
end
section
variable {prog : Program} {w : World} {A : Around} {E : Value → Shared → Prop} {s : Shared} {l b : Addr} {items : Array Value} {Ys : Nat → List Value}
theorem sum_lists {nb : Nat} {Q : Value → Shared → Prop} (hh : A.handled = none) (hl : s.heap.IsList l items) (hb : PySem.IsL s.heap b #[] nb) (h0 : 0 < items.size) (hz : (preCat Ys items.size).length ≤ sizeLine)
    (hel : ∀ (j : Nat) (v : Value), items[j]? = some v → ∃ a m, v = .ref a ∧ PySem.IsL s.heap a (Ys j).toArray m)
    (h : ∀ h' tk t' m, (∀ b o, s.heap.get? b = some o → h'.get? b = some o) → PySem.IsL h' t' (preCat Ys items.size).toArray m → s.heap.get? t' = none → Q (.ref t') { s with heap := h', toks := tk }) :
    wpAny (model prog w) A (call (.builtin "sum") [.ref l, .ref b]) Q E s := by
  refine call_function_tree F.kind_sum F.plain_sum F.entry_sum (args_sum2 _ _) ?_
  unfold Builtin.«sum»
  simp only [List.length_cons, List.length_nil]
  rw [if_neg (by decide)]
  refine wpAny_bind (wpAny_of_eq (show Builtin.Builtins.bindParams "sum" ["start"] 0 ⟨[Value.ref b], []⟩ = pure [some (Value.ref b)] from rfl) ?_)
  have lb : b < s.heap.objs.size := Heap.lt_size hb
  have ll : l < s.heap.objs.size := by obtain ⟨_, e, _⟩ := hl; exact Heap.lt_size e
  refine wpAny_bind (wpAny_pyIter_list hl ?_)
  have hb1 : PySem.IsL (s.heap.push { cls := .type "list_iterator", data := .fields #[.ref l, .int 0 0] }) b #[] nb := Heap.get?_push_of_some _ hb
  have tb : ∀ (t : Shared), t.heap.get? b = some { cls := .type "list", dict := none, data := .seq #[] nb, slots := #[] } → t.TypeIs (.ref b) "list" := fun t e => ⟨_, e, rfl⟩
  refine wpAny_bind (wpAny_pure ?_)
  simp only [List.forIn_cons, List.forIn_nil]
  refine wpAny_bind (wpAny_bind (wpAny_bind (wpAny_isInstance (T := "list") (b := false) (tb _ hb1) sub_lstr ?_)))
  simp only [Bool.false_eq_true, if_false]
  refine wpAny_pure (wpAny_bind (wpAny_bind (wpAny_isInstance (T := "list") (b := false) (tb _ hb1) sub_lbytes ?_)))
  simp only [Bool.false_eq_true, if_false]
  refine wpAny_pure (wpAny_bind (wpAny_bind (wpAny_isInstance (T := "list") (b := false) (tb _ hb1) sub_lbytearray ?_)))
  simp only [Bool.false_eq_true, if_false]
  refine wpAny_pure (wpAny_pure ?_)
  refine wpAny_bind (wpAny_newObj_type ?_)
  have sI : (s.heap.push { cls := .type "list_iterator", data := .fields #[.ref l, .int 0 0] }).objs.size = s.heap.objs.size + 1 := Heap.size_push ..
  have gt : ∀ c : Addr, c < s.heap.objs.size + 1 → c ≠ (s.heap.push { cls := .type "list_iterator", data := .fields #[.ref l, .int 0 0] }).objs.size := fun c h => Nat.ne_of_lt (by rw [sI]; exact h)
  have old : ∀ c o, s.heap.get? c = some o → ((s.heap.push { cls := .type "list_iterator", data := .fields #[.ref l, .int 0 0] }).push { cls := .type "list", data := .seq #[Value.ref b] }).get? c = some o := fun c o e => Heap.get?_push_of_some _ (Heap.get?_push_of_some _ e)
  refine wpAny_pure ⟨plainId_quiet F.plain_sum_loop _, codeAny_sum_lists (I := s.heap.objs.size) (S := (s.heap.push { cls := .type "list_iterator", data := .fields #[.ref l, .int 0 0] }).objs.size) (l := l) (items := items) (Ys := Ys) hh (Nat.ne_of_lt ll) (Ne.symm (gt _ (Nat.lt_succ_self _))) (Ne.symm (gt _ (Nat.lt_succ_of_lt ll))) hz items.size 0 _ b nb 0 rfl (Nat.zero_le _)
    ⟨⟨_, Heap.get?_push_of_some _ (Heap.get?_push_size _ rfl), rfl, rfl⟩, ?_⟩ (Heap.get?_push_size _ rfl) (Heap.get?_push_of_some _ hb1) (Nat.ne_of_lt lb) (gt _ (Nat.lt_succ_of_lt lb)) (fun j v hj => ?_) fun h' tk t' m hk' hi' h1 h2 h3 => ?_⟩
  · obtain ⟨o, e, r⟩ := hl
    exact ⟨o, old _ _ e, r⟩
  · obtain ⟨a, m, e, q⟩ := hel j v hj
    have la : a < s.heap.objs.size := Heap.lt_size q
    exact ⟨a, m, e, old _ _ q, Nat.ne_of_lt la, gt _ (Nat.lt_succ_of_lt la)⟩
  · have hn : s.heap.get? t' = none := by
      rcases h3 with ⟨h3, _⟩ | h3
      · omega
      · cases q : s.heap.get? t' with
        | none => rfl
        | some o => rw [old _ _ q] at h3; cases h3
    refine h h' tk t' m (fun c o e => ?_) hi' hn
    have lc : c < s.heap.objs.size := Heap.lt_size e
    exact hk' c o (Nat.ne_of_lt lc) (gt _ (Nat.lt_succ_of_lt lc)) (old _ _ e)
end
section
variable {X : Cx}
/-- sum(lists, []), some lists -/
def rSumL (K : PySem.W.Frag) : List V → Hp → VK → Prop := fun vs H Q => ∃ (a b : Addr) (xs : List V) (yss : List (List V)), vs = [V.ref a, V.ref b] ∧ SqL K H a xs ∧ H b = some (.lst []) ∧ Paired (fun v ys => ∃ c, v = V.ref c ∧ H c = some (.lst ys)) xs yss ∧ xs ≠ [] ∧ yss.flatten.length ≤ sizeLine ∧
  ∀ p, H p = none → Q (.ref p) (upd H p (.lst yss.flatten))
theorem preCat_at {yss : List (List Value)} : ∀ n, preCat (fun j => yss.getD j []) n = (yss.take n).flatten
  | 0 => rfl
  | n + 1 => by
    show preCat _ n ++ yss.getD n [] = _
    rw [preCat_at n, List.take_add_one, List.flatten_append]
    congr 1
    cases h : yss[n]? with
    | none => simp [List.getD, h]
    | some y => simp [List.getD, h]
theorem vals_flat {H : Hp} {s : Shared} {pins : List (Addr × Obj)} {σ : L2.St} (I : Inv X pins σ H s) : ∀ {xs : List V} {yss : List (List V)} {us : List Value}, Paired (fun v ys => ∃ c, v = V.ref c ∧ H c = some (.lst ys)) xs yss → Vals xs us →
    ∃ uss : List (List Value), us.length = uss.length ∧ Vals yss.flatten uss.flatten ∧ ∀ (j : Nat) (v : Value), us[j]? = some v → ∃ a m its, uss[j]? = some its ∧ v = .ref a ∧ PySem.IsL s.heap a its.toArray m
  | _, _, _, .nil, .nil => ⟨[], rfl, .nil, fun j v h => by simp at h⟩
  | _, _, _, .cons r t, .cons q z => by
    obtain ⟨uss, h1, h2, h3⟩ := vals_flat I t z
    obtain ⟨c, rfl, hc⟩ := r
    obtain ⟨zz, its, n, ri, hl, e⟩ := I.lstM hc
    cases q
    refine ⟨its :: uss, by simp [h1], by rw [List.flatten_cons, List.flatten_cons]; exact ri.append h2, fun j v h => ?_⟩
    cases j with
    | zero => simp at h; subst h; exact ⟨c, n, its, rfl, rfl, e⟩
    | succ j => exact h3 j v (by simpa using h)
theorem cr_sumL (hc : X.calm = true) : CallR X (.builtin "sum") (rSumL X.K) := by
  intro pins s σ H vs us Q I r ⟨a, b, xs, yss, e, hs, hb, hp, hne, hz, q⟩
  subst e
  obtain ⟨u1, u2, rfl, r1, r2⟩ := r.two
  cases r1
  cases r2
  obtain ⟨its, rv, hl, _⟩ := I.list hs
  obtain ⟨_, itb, nb, rb, _, eb⟩ := I.lstM hb
  cases rb
  obtain ⟨uss, l1, l2, l3⟩ := vals_flat I hp rv
  have hlen : its.toArray.size = uss.length := by simpa using l1
  have full : preCat (fun j => uss.getD j []) its.toArray.size = uss.flatten := by rw [preCat_at, hlen, List.take_length]
  refine sum_lists (Ys := fun j => uss.getD j []) (I.ok.hd hc) hl.isList eb ?_ (by rw [full, ← l2.length]; exact hz) (fun j v hj => ?_) fun h' tk t' m hk hi hn => ?_
  · rw [List.size_toArray, ← rv.length]
    exact List.length_pos_iff.mpr hne
  · obtain ⟨c, m, it, g1, g2, g3⟩ := l3 j v (by simpa using hj)
    refine ⟨c, m, g2, ?_⟩
    have : uss.getD j [] = it := by simp [List.getD, g1]
    rw [this]; exact g3
  · have hH : H t' = none := by
      cases z : H t' with
      | none => rfl
      | some o =>
        obtain ⟨u, hu⟩ := objOk_get (I.hok t' o z)
        rw [hu] at hn; cases hn
    rw [full] at hi
    exact ⟨.ref t', _, I.laidN hk hn hH (show ObjOk X.prog X.w _ _ _ (.lst yss.flatten) from ⟨hz, _, m, l2, hi⟩), rfl, q _ hH⟩
/-- sum of a tuple of ints -/
theorem cr_sumT (hc : X.calm = true) : CallR X (.builtin "sum") (fun vs H Q => ∃ (a : Addr) (ns : List Int), vs = [V.ref a] ∧ SqT X.K H a (ns.map V.int) ∧ Q (.int ns.sum) H) := by
  intro pins s σ H vs us Q I r h
  obtain ⟨a, ns, rfl, hs, q⟩ := h
  obtain ⟨its, rv, hl, _⟩ := I.tuple hs
  rw [Vals.ref1 r]
  have hi := rv.ints
  obtain ⟨xs, hx⟩ := hi.allInts.items
  have hn : numsOf its.toArray.toList = ns := by rw [show its.toArray.toList = its from rfl, hi.numsOf]
  rw [hx] at hl hn
  rw [nums_intItems] at hn
  subst hn
  refine PySem.W.ktm_sumG (I.ok.hd hc) hl fun h' tk t' hk => ?_
  have e : preSum (numAt xs) xs.size = (xs.toList.map (·.1)).sum := by rw [preSum_eq, List.take_of_length_le (by simp)]
  rw [e]
  exact ⟨.int _, H, I.kept hk, ⟨_, rfl⟩, q⟩
end
end Fw

set_option Elab.async false
set_option linter.all false
set_option maxRecDepth 100000
set_option maxHeartbeats 4000000
/-! Fw, part Kt: how many a set of ints has. -/
namespace Fw
open PySem PySem.Spec L2 PyProof.Rows
theorem nodup_ed : ∀ (n : Nat) (m : List Int), m.length ≤ n → m.eraseDups.Nodup
  | _, [], _ => by simp
  | 0, a :: m, h => by simp at h
  | n + 1, a :: m, h => by
    rw [List.eraseDups_cons, List.nodup_cons]
    refine ⟨fun k => ?_, nodup_ed n _ (Nat.le_trans (List.length_filter_le _ _) (by simpa using h))⟩
    have := List.mem_filter.mp (List.mem_eraseDups.mp k)
    simp at this
theorem nodup_len {l m : List Int} (h1 : l.Nodup) (h2 : ∀ k, k ∈ l ↔ k ∈ m) : l.length = m.eraseDups.length := by
  have e : ∀ k, k ∈ l ↔ k ∈ m.eraseDups := fun k => by rw [h2 k, List.mem_eraseDups]
  exact ((List.perm_ext_iff_of_nodup h1 (nodup_ed _ m (Nat.le_refl _))).mpr e).length_eq
def tLenSetA (K : PySem.W.Frag) (ta : TA) : TE := fun σ H Q => ta σ H fun vs H1 => ∃ (l : Addr) (ns : List Int), vs = [V.ref l] ∧ (SqL K H1 l (ns.map V.int) ∨ SqT K H1 l (ns.map V.int)) ∧ ns.length ≤ 1000 ∧ Q (.int (ns.eraseDups.length : Nat)) H1
theorem pe_lenSetA {X : Cx} {a : Expr} {ta : TA} {p p2 q pos : Pos} (hg : Gl X "len") (hm : X.mg "len" = none) (hg2 : Gl X "set") (hm2 : X.mg "set" = none) (ha : PA X [a] ta) (hc : X.calm = true)
    (na : starEach [a] X.env = [(false, eval a X.env)] := by rfl) (nb : starEach [Expr.Call (.Name "set" p2) [a] [] q] X.env = (false, eval (Expr.Call (.Name "set" p2) [a] [] q) X.env) :: starEach [] X.env := by rfl) : PE X (.Call (.Name "len" p) [.Call (.Name "set" p2) [a] [] q] [] pos) (tLenSetA X.K ta) := by
  refine ⟨fun pins s σ H Q I h => Call_ (ld_blt I hg hm boot_len ?_)⟩
  refine callWith_builtin1 (PyProof.Rows.args_cons ?inner nb) nb rfl
  refine Call_ (ld_blt I hg2 hm2 boot_set (callWith_type1 ?_ na rfl))
  refine thn (ha.run q pins s σ H _ I h) fun us s1 ⟨vs, H1, I1, r1, q1⟩ => ?_
  obtain ⟨l, ns, rfl, hq, hl, q1⟩ := q1
  obtain ⟨u, rfl, r2⟩ := r1.one
  obtain rfl : u = Value.ref l := r2
  rcases hq with hq | hq
  · obtain ⟨its, r, pl, hz⟩ := I1.list hq
    have hlen : its.toArray.size = ns.length := by rw [List.size_toArray, ← r.length, List.length_map]
    refine call_set_list (ns := ns) (I1.ok.hd hc) pl.isList (by simpa using RZ.intsAre_vals r) (by rw [hlen]; unfold scanBound; omega) fun h' tk hS hk => ?_
    refine PyProof.Rows.args_nil ?_
    rw [hlen, PySem.W.oss_met, PySem.W.oss_dups] at hS
    obtain ⟨o, es, ep, t, ho, hex, hd, _, _, _, hf, hn⟩ := hS
    have hle : ns.eraseDups.length ≤ ns.length := by rw [← PySem.W.oss_dups]; exact PySem.W.oss_len ns
    have I2 : L2.Inv X pins σ H1 { s1 with heap := h', toks := tk } := I1.kept fun b o e => hk b o (Heap.lt_size e) e
    exact call_len_set ho hex hd hf (by rw [hn] <;> omega) ⟨.int (ns.eraseDups.length : Nat), H1, I2.tok _, ⟨_, by rw [hn]⟩, q1⟩
  · obtain ⟨its, r, pl, hz⟩ := I1.tuple hq
    refine call_set_tupI ns (I1.ok.hd hc) (show s1.heap.IsTuple l its.toArray from pl) (ints_of_vals r) (by unfold scanBound; omega) fun h' tk c R1 hcn k => ?_
    refine PyProof.Rows.args_nil ?_
    obtain ⟨o, es, ep, t, ho, hex, hdt, g, nd, hm2, hb, hf, hn, hr, hl2⟩ := R1
    have e : es.size = ns.eraseDups.length := by
      have := nodup_len nd (m := ns) fun k => by rw [← hm2 k, decide_eq_true_eq]
      rw [← this, List.length_map]; simp
    have I2 : L2.Inv X pins σ H1 { s1 with heap := h', toks := tk } := I1.kept k
    exact call_len_set (s := { s1 with heap := h', toks := tk }) ho hex hdt hf (by unfold scanBound at hb; omega) ⟨.int (ns.eraseDups.length : Nat), H1, I2.tok _, ⟨_, by rw [e]⟩, q1⟩
end Fw

set_option Elab.async false
set_option linter.all false
set_option maxRecDepth 100000
set_option maxHeartbeats 4000000
/-! Fw, part L: built-in functions. -/
namespace Fw
open PySem PySem.Spec L2

inductive SlRs (K : PySem.W.Frag) (Z H : Hp) : List SV → List V → Prop
  | nil : SlRs K Z H [] []
  | cons {s v ss vs} : SlR K Z H v s → s.isRo = false → SlRs K Z H ss vs → SlRs K Z H (s :: ss) (v :: vs)
theorem rdAll_out {K : PySem.W.Frag} {Z H : Hp} {S : SS} {σ : L2.St} : ∀ {rs : List RV} {vs : List V} {P : List SV → Prop}, rdAll S rs P → Rl K Z S σ H → RvRs K Z H S σ rs vs → ∃ ss, P ss ∧ SlRs K Z H ss vs
  | [], _, P, h, _, .nil => ⟨[], h, .nil⟩
  | r :: rs, _, P, h, rl, .cons r1 rt => by
    obtain ⟨s, w, sl, n⟩ := rdS_out h rl r1
    obtain ⟨ss, w2, sls⟩ := rdAll_out w rl rt
    exact ⟨s :: ss, w2, .cons sl n sls⟩
def rBi (K : PySem.W.Frag) (f : Bi) : List V → Hp → VK → Prop := fun vs H Q => ∃ (Z : Hp) (ss : List SV) (Ψ : RV → Prop), Sub Z H ∧ SlRs K Z H ss vs ∧ biW f ss Ψ ∧ ∀ Z1 r v Z' H', GrowT Z H Z1 → Ψ r → NewR K Z1 H r v Z' H' → Q v H'
theorem callr_imp {X : Cx} {f : Value} {r r' : List V → Hp → VK → Prop} (h : CallR X f r) (k : ∀ vs H Q, r' vs H Q → r vs H Q) : CallR X f r' := fun pins s σ H vs us Q I rv w => h pins s σ H vs us Q I rv (k vs H Q w)
theorem callr_or {X : Cx} {f : Value} {r r' : List V → Hp → VK → Prop} (h : CallR X f r) (h' : CallR X f r') : CallR X f (fun vs H Q => r vs H Q ∨ r' vs H Q) := fun pins s σ H vs us Q I rv w => w.elim (h pins s σ H vs us Q I rv) (h' pins s σ H vs us Q I rv)
section
variable {K : PySem.W.Frag} {Z H : Hp} {ss : List SV} {vs : List V}
theorem SlRs.one {s : SV} (h : SlRs K Z H [s] vs) : ∃ v, vs = [v] ∧ SlR K Z H v s ∧ s.isRo = false := by
  cases h with
  | cons a b t => cases t; exact ⟨_, rfl, a, b⟩
theorem SlRs.two {s t : SV} (h : SlRs K Z H [s, t] vs) : ∃ v w, vs = [v, w] ∧ SlR K Z H v s ∧ s.isRo = false ∧ SlR K Z H w t ∧ t.isRo = false := by
  cases h with
  | cons a b t =>
    obtain ⟨w, rfl, c, d⟩ := t.one
    exact ⟨_, w, rfl, a, b, c, d⟩
end
section
variable {X : Cx}
theorem bi_abs : CallR X (.builtin "abs") (rBi X.K .abs) := callr_imp call_abs fun vs H Q ⟨Z, ss, Ψ, sub, sl, w, k⟩ => by
  match ss, w with
  | [s], w =>
    obtain ⟨v, rfl, a, b⟩ := sl.one
    have w : (match s.d with | .int a => Ψ (.z (.int (if a < 0 then -a else a))) | _ => False) := w
    cases e : s.d with
    | int i => rw [e] at w; exact ⟨i, by rw [a.int e], k _ _ _ _ _ (.refl sub) w (.same (.int _))⟩
    | _ => rw [e] at w; exact False.elim w
theorem bi_int : CallR X (.type "int") (rBi X.K .int) := callr_imp call_int1 fun vs H Q ⟨Z, ss, Ψ, sub, sl, w, k⟩ => by
  match ss, w with
  | [s], w =>
    obtain ⟨v, rfl, a, b⟩ := sl.one
    have w : (match s.d with | .int a => Ψ (.z (.int a)) | .bool b => Ψ (.z (.int (if b then 1 else 0))) | _ => False) := w
    cases e : s.d with
    | int i => rw [e] at w; exact .inl ⟨i, by rw [a.int e], k _ _ _ _ _ (.refl sub) w (.same (.int _))⟩
    | bool i => rw [e] at w; exact .inr ⟨i, by rw [a.bl e], k _ _ _ _ _ (.refl sub) w (.same (.int _))⟩
    | _ => rw [e] at w; exact False.elim w
theorem bi_min2 (hc : X.calm = true) : CallR X (.builtin "min") (rBi X.K .min2) := callr_imp (call_min2 hc) fun vs H Q ⟨Z, ss, Ψ, sub, sl, w, k⟩ => by
  match ss, w with
  | [s, t], w =>
    obtain ⟨v, v2, rfl, a, b, a2, b2⟩ := sl.two
    have w : (match s.d, t.d with | .int a, .int b => Ψ (.z (.int (if b < a then b else a))) | _, _ => False) := w
    cases e : s.d with
    | int i => 
      cases e2 : t.d with
      | int j => rw [e, e2] at w; exact ⟨i, j, by rw [a.int e, a2.int e2], k _ _ _ _ _ (.refl sub) w (.same (.int _))⟩
      | _ => rw [e, e2] at w; exact False.elim w
    | _ => rw [e] at w; exact False.elim w
theorem bi_max2 (hc : X.calm = true) : CallR X (.builtin "max") (rBi X.K .max2) := callr_imp (call_max2 hc) fun vs H Q ⟨Z, ss, Ψ, sub, sl, w, k⟩ => by
  match ss, w with
  | [s, t], w =>
    obtain ⟨v, v2, rfl, a, b, a2, b2⟩ := sl.two
    have w : (match s.d, t.d with | .int a, .int b => Ψ (.z (.int (if b > a then b else a))) | _, _ => False) := w
    cases e : s.d with
    | int i => 
      cases e2 : t.d with
      | int j => rw [e, e2] at w; exact ⟨i, j, by rw [a.int e, a2.int e2], k _ _ _ _ _ (.refl sub) w (.same (.int _))⟩
      | _ => rw [e, e2] at w; exact False.elim w
    | _ => rw [e] at w; exact False.elim w
theorem bi_sum (hc : X.calm = true) : CallR X (.builtin "sum") (rBi X.K .sum) := callr_imp (callr_or (cr_sum hc) (cr_sumT hc)) fun vs H Q ⟨Z, ss, Ψ, sub, sl, w, k⟩ => by
  match ss, w with
  | [s], w =>
    obtain ⟨v, rfl, a, b⟩ := sl.one
    obtain ⟨ns, e, w⟩ := w
    rcases e with e | e
    · obtain ⟨ad, xs, rfl, h, ra⟩ := a.lst sub b e
      rw [ra.ints] at h
      exact .inl ⟨ad, ns, rfl, .inl (.inl h), k _ _ _ _ _ (.refl sub) w (.same (.int _))⟩
    · obtain ⟨ad, xs, rfl, h, ra⟩ := a.tup sub e
      rw [ra.ints] at h
      exact .inr ⟨ad, ns, rfl, SqT.of h, k _ _ _ _ _ (.refl sub) w (.same (.int _))⟩
theorem lists_of {K : PySem.W.Frag} {Z H : Hp} (sub : Sub Z H) : ∀ {xss : List (List D)} {xs : List V}, RpA K Z xs (xss.map PyData.list) → ∃ yss : List (List V), Paired (fun v ys => ∃ c, v = V.ref c ∧ H c = some (.lst ys)) xs yss ∧ RpA K Z yss.flatten xss.flatten ∧ xss.length = yss.length
  | [], _, .nil => ⟨[], .nil, .nil, rfl⟩
  | ds :: xss, _, .cons (.lst h r) t => by
    obtain ⟨yss, h1, h2, h3⟩ := lists_of sub t
    exact ⟨_ :: yss, .cons ⟨_, rfl, sub _ _ h⟩ h1, by rw [List.flatten_cons, List.flatten_cons]; exact r.append h2, by simp [h3]⟩
theorem bi_sumL (hc : X.calm = true) : CallR X (.builtin "sum") (rBi X.K .sumL) := callr_imp (cr_sumL hc) fun vs H Q ⟨Z, ss, Ψ, sub, sl, w, k⟩ => by
  match ss, w with
  | [s, t], w =>
    obtain ⟨v, v2, rfl, a, b, a2, b2⟩ := sl.two
    obtain ⟨xss, e, rfl, ⟨hne, hz⟩, w⟩ := w
    obtain ⟨ad, xs, rfl, h, ra⟩ := a.lst sub b e
    obtain ⟨ad2, rfl, _, ys, h2, ra2⟩ := a2
    cases ra2
    obtain ⟨yss, h3, h4, h5⟩ := lists_of sub ra
    refine ⟨ad, ad2, xs, yss, rfl, .inl (.inl h), h2, h3, fun z => ?_, by rw [h4.length]; exact hz, fun p hp => k _ _ _ _ _ (.refl sub) w (.obj hp ⟨_, upd_same, h4⟩)⟩
    subst z
    have : xss.map PyData.list = [] := by cases hq : xss.map PyData.list with
      | nil => rfl
      | cons a b => rw [hq] at ra; cases ra
    exact hne (List.map_eq_nil_iff.mp this)
theorem bi_all (hc : X.calm = true) : CallR X (.builtin "all") (rBi X.K .all) := callr_imp (cr_all hc) fun vs H Q ⟨Z, ss, Ψ, sub, sl, w, k⟩ => by
  match ss, w with
  | [s], w =>
    obtain ⟨v, rfl, a, b⟩ := sl.one
    obtain ⟨ns, e, w⟩ := w
    obtain ⟨ad, xs, rfl, h, ra⟩ := a.lst sub b e
    rw [ra.bls] at h
    exact ⟨ad, ns, rfl, .inl (.inl h), k _ _ _ _ _ (.refl sub) w (.same (.bl _))⟩
theorem bi_any (hc : X.calm = true) : CallR X (.builtin "any") (rBi X.K .any) := callr_imp (cr_any hc) fun vs H Q ⟨Z, ss, Ψ, sub, sl, w, k⟩ => by
  match ss, w with
  | [s], w =>
    obtain ⟨v, rfl, a, b⟩ := sl.one
    obtain ⟨ns, e, w⟩ := w
    obtain ⟨ad, xs, rfl, h, ra⟩ := a.lst sub b e
    rw [ra.bls] at h
    exact ⟨ad, ns, rfl, .inl (.inl h), k _ _ _ _ _ (.refl sub) w (.same (.bl _))⟩
def rLen (K : PySem.W.Frag) : List V → Hp → VK → Prop := fun xs H Q =>
  ((∃ p ys, xs = [.ref p] ∧ (SqL K H p ys ∨ SqT K H p ys) ∧ Q (.int ys.length) H) ∨ (∃ z, xs = [.str z] ∧ z.length ≤ sizeLine ∧ Q (.int z.length) H)) ∨
  ((∃ a kvs, xs = [V.ref a] ∧ H a = some (.dK kvs) ∧ Q (.int kvs.length) H) ∨ rLenT xs H Q)
theorem bi_len : CallR X (.builtin "len") (rBi X.K .len) := callr_imp (callr_or (callr_or call_len_seq call_len_str) (callr_or call_lenD call_len_dT)) fun vs H Q ⟨Z, ss, Ψ, sub, sl, w, k⟩ => by
  match ss, w with
  | [s], w =>
    obtain ⟨v, rfl, a, b⟩ := sl.one
    cases s with
    | dk kvs =>
      obtain ⟨ad, rfl, hz, ys, h, kp⟩ := a
      exact .inr (.inl ⟨ad, ys, rfl, h, by rw [kp.length]; exact k _ _ _ _ _ (.refl sub) w (.same (.int _))⟩)
    | dt kvs =>
      obtain ⟨ad, rfl, hz, ys, h, kp⟩ := a
      exact .inr (.inr ⟨ad, ys, rfl, h, by rw [kp.length]; exact k _ _ _ _ _ (.refl sub) w (.same (.int _))⟩)
    | ls ds =>
      obtain ⟨ad, rfl, hz, xs, h, ra⟩ := a
      exact .inl (.inl ⟨ad, xs, rfl, .inl (.inl (.inl h)), by rw [ra.length]; exact k _ _ _ _ _ (.refl sub) w (.same (.int _))⟩)
    | ro ds => cases b
    | val d =>
      cases d with
      | list xs =>
        have w : Ψ (.z (.int xs.length)) := w
        obtain ⟨ad, ys, rfl, h, ra⟩ := a.lst sub b (ds := xs) rfl
        exact .inl (.inl ⟨ad, ys, rfl, .inl (.inl (.inl h)), by rw [ra.length]; exact k _ _ _ _ _ (.refl sub) w (.same (.int _))⟩)
      | tuple xs =>
        have w : Ψ (.z (.int xs.length)) := w
        obtain ⟨ad, ys, rfl, h, ra⟩ := a.tup sub (ds := xs) rfl
        exact .inl (.inl ⟨ad, ys, rfl, .inr (.inl (.inl h)), by rw [ra.length]; exact k _ _ _ _ _ (.refl sub) w (.same (.int _))⟩)
      | str y =>
        have w : y.length ≤ sizeLine ∧ Ψ (.z (.int y.length)) := w
        have e := a.str (i := y) rfl
        subst e
        exact .inl (.inr ⟨y, rfl, w.1, k _ _ _ _ _ (.refl sub) w.2 (.same (.int _))⟩)
      | _ => exact False.elim w
/-- a value at a place of a list of values stands for the datum at that place -/
theorem Vals.at' : ∀ {vs : List V} {us : List Value} {i : Nat} {u : Value}, Vals vs us → us[i]? = some u → ∃ v, vs[i]? = some v ∧ RelV v u
  | _, _, _, _, .nil, h => by simp at h
  | _, _, 0, _, .cons r _, h => by simp at h; subst h; exact ⟨_, rfl, r⟩
  | _, _, i + 1, u, .cons _ t, h => by
    obtain ⟨v, h1, h2⟩ := Vals.at' (i := i) t (by simpa using h)
    exact ⟨v, by simpa using h1, h2⟩

theorem min_raw1 {s : Shared} {u : Value} {d : D} {ds : List D} {n : Nat} {vs : List V} {us : List Value} {i : Nat} {h' : Heap} {pins : List (Addr × Obj)} {σ : L2.St} {Z H : Hp} (I : Inv X pins σ H s) (sub : Sub Z H) (ok : okDs ds n = true) (ra : RpA X.K Z vs ds) (rv : Vals vs us)
    (hi : us[i]? = some u) (hk : ∀ b o, s.heap.get? b = some o → h'.get? b = some o) {bs : List Addr} (hr : Reads h' u d bs) : ∃ x, RelV x u ∧ Rp X.K Z x d := by
  obtain ⟨x, h1, h2⟩ := Vals.at' rv hi
  obtain ⟨d', h3, h4⟩ := ra.get' h1
  have okd : okD d' n = true := by
    clear hi hr I
    induction ds generalizing i vs us with
    | nil => simp at h3
    | cons a t ih =>
      have k' : okD a n = true ∧ okDs t n = true := by simpa [okDs] using ok
      cases i with
      | zero => simp at h3; subst h3; exact k'.1
      | succ i =>
        cases ra with
        | cons r1 r2 =>
          cases rv with
          | cons q1 q2 => exact ih k'.2 r2 q2 (by simpa using h1) (by simpa using h3)
  obtain ⟨as, r⟩ := Rp.reads I d' n x u okd (h4.mono sub) h2
  have e := PySem.SeqAt.Reads.unique d' d u _ _ (okD_lay d' n okd).1 (PyProof.Rows.Reads.keeps hk r) hr
  subst e
  exact ⟨x, h2, h4⟩
theorem bi_min1 (hc : X.calm = true) (hu : X.A.units + 64 < cLine) : CallR X (.builtin "min") (rBi X.K .min1) := by
  intro pins s σ H vs us Q I r ⟨Z, ss, Ψ, sub, sl, w, k⟩
  match ss, w with
  | [t], w =>
    obtain ⟨v, rfl, a, b⟩ := sl.one
    obtain ⟨x, xs, e, ⟨ok, al⟩, w⟩ := w
    obtain ⟨_, m2⟩ := okDs_lay _ _ ok
    rcases e with e | e
    · obtain ⟨ad, ys, rfl, h, ra⟩ := a.lst sub b e
      obtain ⟨its, rv, hl, _⟩ := I.list (SqL.of h)
      rw [Vals.ref1 r]
      obtain ⟨as, hr⟩ := Rp.readsAll I _ 40 ys its ok (RpA.mono sub ra) rv
      refine PySem.W.min_list_data (I.ok.hd hc) hl.isList hr al (by omega) fun i v h' tk bs hv hb hk => ?_
      obtain ⟨z, z1, z2⟩ := min_raw1 I sub ok ra rv (i := i) (by simpa using hv) hk hb
      exact ⟨z, H, I.kept hk, z1, k _ _ _ _ _ (.refl sub) w (.same z2)⟩
    · obtain ⟨ad, ys, rfl, h, ra⟩ := a.tup sub e
      obtain ⟨its, rv, hl, _⟩ := I.tuple (SqT.of h)
      rw [Vals.ref1 r]
      obtain ⟨as, hr⟩ := Rp.readsAll I _ 40 ys its ok (RpA.mono sub ra) rv
      refine PySem.W.min_tuple_data (I.ok.hd hc) hl hr al (by omega) fun i v h' tk bs hv hb hk => ?_
      obtain ⟨z, z1, z2⟩ := min_raw1 I sub ok ra rv (i := i) (by simpa using hv) hk hb
      exact ⟨z, H, I.kept hk, z1, k _ _ _ _ _ (.refl sub) w (.same z2)⟩
theorem bi_max1 (hc : X.calm = true) (hu : X.A.units + 64 < cLine) : CallR X (.builtin "max") (rBi X.K .max1) := by
  intro pins s σ H vs us Q I r ⟨Z, ss, Ψ, sub, sl, w, k⟩
  match ss, w with
  | [t], w =>
    obtain ⟨v, rfl, a, b⟩ := sl.one
    obtain ⟨x, xs, e, ⟨ok, al⟩, w⟩ := w
    obtain ⟨_, m2⟩ := okDs_lay _ _ ok
    rcases e with e | e
    · obtain ⟨ad, ys, rfl, h, ra⟩ := a.lst sub b e
      obtain ⟨its, rv, hl, _⟩ := I.list (SqL.of h)
      rw [Vals.ref1 r]
      obtain ⟨as, hr⟩ := Rp.readsAll I _ 40 ys its ok (RpA.mono sub ra) rv
      refine PySem.W.max_list_data (I.ok.hd hc) hl.isList hr al (by omega) fun i v h' tk bs hv hb hk => ?_
      obtain ⟨z, z1, z2⟩ := min_raw1 I sub ok ra rv (i := i) (by simpa using hv) hk hb
      exact ⟨z, H, I.kept hk, z1, k _ _ _ _ _ (.refl sub) w (.same z2)⟩
    · obtain ⟨ad, ys, rfl, h, ra⟩ := a.tup sub e
      obtain ⟨its, rv, hl, _⟩ := I.tuple (SqT.of h)
      rw [Vals.ref1 r]
      obtain ⟨as, hr⟩ := Rp.readsAll I _ 40 ys its ok (RpA.mono sub ra) rv
      refine PySem.W.max_tuple_data (I.ok.hd hc) hl hr al (by omega) fun i v h' tk bs hv hb hk => ?_
      obtain ⟨z, z1, z2⟩ := min_raw1 I sub ok ra rv (i := i) (by simpa using hv) hk hb
      exact ⟨z, H, I.kept hk, z1, k _ _ _ _ _ (.refl sub) w (.same z2)⟩
/-- values that stand for data, both ways -/
theorem each_of {K : PySem.W.Frag} {Z : Hp} : ∀ {vs : List V} {us : List Value} {ds : List D}, Vals vs us → RpA K Z vs ds → PySem.W.EachIs (fun u d => ∃ x, RelV x u ∧ Rp K Z x d) us ds
  | _, _, _, .nil, .nil => .nil
  | _, _, _, .cons r t, .cons q w => .cons ⟨_, r, q⟩ (each_of t w)
theorem of_each {K : PySem.W.Frag} {Z : Hp} : ∀ {us : List Value} {ds : List D}, PySem.W.EachIs (fun u d => ∃ x, RelV x u ∧ Rp K Z x d) us ds → ∃ vs, Vals vs us ∧ RpA K Z vs ds
  | _, _, .nil => ⟨[], .nil, .nil⟩
  | _, _, .cons ⟨x, h1, h2⟩ t => by
    obtain ⟨vs, h3, h4⟩ := of_each t
    exact ⟨x :: vs, .cons h1 h3, .cons h2 h4⟩
theorem each_reads {h : Heap} : ∀ {us : List Value} {ds : List D} {as : List Addr}, ReadsAll h us ds as → PySem.W.EachIs (fun u d => ∃ as, Reads h u (id d) as) us ds
  | _, _, _, .nil => .nil
  | _, _, _, .cons h1 h2 => .cons ⟨_, h1⟩ (each_reads h2)
theorem depth_mem {n : Nat} : ∀ {ds : List D}, okDs ds n = true → ∀ d ∈ ds, d.depth ≤ n
  | [], _, d, h => by cases h
  | e :: ds, ok, d, h => by
    have k' : okD e n = true ∧ okDs ds n = true := by simpa [okDs] using ok
    rcases List.mem_cons.mp h with rfl | h
    · exact (okD_lay _ n k'.1).2
    · exact depth_mem k'.2 d h
theorem keyReads {h : Heap} {k : Key} {u : Value} (r : RelV (kV k) u) : Reads h u (kD k) [] := by
  cases k with
  | inl i => obtain ⟨t, rfl⟩ := r; exact .int i t
  | inr x => obtain ⟨t, rfl⟩ := r; exact .str x t
theorem keysReads {h : Heap} : ∀ {ks : List Key} {us : List Value}, Vals (ks.map kV) us → ReadsAll h us (ks.map kD) []
  | [], _, r => by
    rw [List.map_nil] at r
    cases r
    exact .nil
  | k :: ks, _, r => by
    rw [List.map_cons] at r
    cases r with
    | cons r t => exact ReadsAll.cons (as := []) (keyReads r) (keysReads t)
theorem each_at {α β : Type} {R : α → β → Prop} : ∀ {us : List α} {ds : List β}, us.length = ds.length → (∀ (j : Nat) u d, us[j]? = some u → ds[j]? = some d → R u d) → PySem.W.EachIs R us ds
  | [], [], _, _ => .nil
  | u :: us, d :: ds, h, k => .cons (k 0 u d rfl rfl) (each_at (by simpa using h) fun j a b h1 h2 => k (j + 1) a b (by simpa using h1) (by simpa using h2))
  | [], _ :: _, h, _ => by simp at h
  | _ :: _, [], h, _ => by simp at h
theorem rp_key {K : PySem.W.Frag} {Z : Hp} (k : Key) : Rp K Z (kV k) (kD k) := by
  cases k with
  | inl i => exact .int i
  | inr x => exact .str x
theorem rp_keys {K : PySem.W.Frag} {Z : Hp} : ∀ ks : List Key, RpA K Z (ks.map kV) (ks.map kD)
  | [] => .nil
  | k :: ks => .cons (rp_key k) (rp_keys ks)
theorem KP.keys {K : PySem.W.Frag} {Z : Hp} {κ : Type} : ∀ {ys : List (κ × V)} {kvs : List (κ × D)}, KP K Z ys kvs → ys.map (·.1) = kvs.map (·.1)
  | _, _, .nil => rfl
  | _, _, .cons h t => by rw [List.map_cons, List.map_cons, h.1, KP.keys t]
theorem pair_get {α β : Type} {R : α → β → Prop} : ∀ {as : List α} {bs : List β} {j : Nat} {b : β}, Paired R as bs → bs[j]? = some b → ∃ a, as[j]? = some a ∧ R a b
  | _, _, _, _, .nil, h => by simp at h
  | _, _, 0, _, .cons r _, h => by simp at h; subst h; exact ⟨_, rfl, r⟩
  | _, _, j + 1, b, .cons _ t, h => by
    obtain ⟨a, h1, h2⟩ := pair_get (j := j) t (by simpa using h)
    exact ⟨a, by simpa using h1, h2⟩
theorem growKeys {Z H : Hp} {ys : List (List Key × V)} {bs : List Addr} (sub : Sub Z H) (h : IsKeys H ys bs) : ∃ Z1, GrowT Z H Z1 ∧ ∀ b, b ∈ bs → ∀ o, H b = some o → Z1 b = some o := by
  refine ⟨fun a => if a ∈ bs then H a else Z a, ⟨fun a o e => ?_, fun a o e => ?_, fun a o e => ?_⟩, fun b hb o e => ?_⟩
  · by_cases hb : a ∈ bs
    · simp [hb, sub a o e]
    · simp [hb, e]
  · by_cases hb : a ∈ bs
    · simpa [hb] using e
    · simp [hb] at e; exact sub a o e
  · by_cases hb : a ∈ bs
    · simp [hb] at e
      obtain ⟨j, hj⟩ := List.getElem?_of_mem hb
      obtain ⟨y, _, hy⟩ := pair_get h hj
      rw [hy] at e
      cases e
      exact .inr ⟨_, rfl⟩
    · simp [hb] at e; exact .inl e
  · simp [hb, e]
/-- sorted(d) of a dict: any source of keys -/
theorem sorted_src {r d : Addr} {n : Nat} {T : String} {P : Nat → Value → Prop} {OK : Heap → Prop} {pins : List (Addr × Obj)} {s : Shared} {σ : L2.St} {Z1 H : Hp} {ds : List D} {Q : VK} (I : Inv X pins σ H s) (hc : X.calm = true) (hu : X.A.units + 64 < cLine) (src : PySem.W.KdlSrc X.prog X.w T r d n P OK) (hok : OK s.heap)
    (hn : n ≤ sizeLine) (dl : ds.length = n) (ok : okDs ds 40 = true) (al : PySem.W.AllAlike ds) (so : PySem.W.Sortable ds)
    (key : ∀ (j : Nat) (u : Value) (e : D), P j u → ds[j]? = some e → (∃ x, RelV x u ∧ Rp X.K Z1 x e) ∧ ∀ h', (∀ b o, s.heap.get? b = some o → h'.get? b = some o) → Reads h' u e [])
    (q : ∀ (p : Addr) (ws : List V), H p = none → RpA X.K Z1 ws (ds.mergeSort (PySem.W.dataLe false id)) → Q (.ref p) (upd H p (.lst ws))) :
    wpAny (model X.prog X.w) X.A (call (.builtin "sorted") [.ref r]) (EP X pins σ Q) X.xe s := by
  refine Calls.call_function_entry PyProof.Rows.kind_sorted PyProof.Rows.plain_sorted PyProof.Rows.entry_sorted (PyProof.Rows.args_sorted1 _) ?_
  unfold Builtin.«sorted»
  refine wpAny_bind (m := checkCount "sorted" 1 1 _) (wpAny_pure ?_)
  refine wpAny_bind (PySem.W.kdu_collect (A := X.A.in1) src (I.ok.hd hc) hok hn fun h' tk acc hk hacc => ?_)
  have hal : acc.toList.length = n := by rw [Array.length_toList, hacc.1]
  have I1 : Inv X pins σ H { s with heap := h', toks := tk } := I.kept hk
  refine wpAny_bind (wpAny_newList ?_ (by rw [hal]; exact hn))
  have hoL : (h'.push (PyProof.Rows.seqObj "list" acc.toList.toArray 0)).get? h'.objs.size = some (PyProof.Rows.seqObj "list" acc.toList.toArray 0) := Heap.get?_push_size _ rfl
  show wpAny _ _ _ _ _ { s with heap := h'.push (PyProof.Rows.seqObj "list" acc.toList.toArray 0), toks := tk }
  have E1 : PySem.W.EachIs (fun u e => ∃ x, RelV x u ∧ Rp X.K Z1 x e) acc.toList ds := each_at (by rw [hal, dl]) fun j u e h1 h2 => (key j u e (hacc.2 j u (by rw [← Array.getElem?_toList]; exact h1)) h2).1
  have E2 : PySem.W.EachIs (fun u e => ∃ as, Reads (h'.push (PyProof.Rows.seqObj "list" acc.toList.toArray 0)) u (id e) as ∧ h'.objs.size ∉ as) acc.toList ds := each_at (by rw [hal, dl]) fun j u e h1 h2 =>
    ⟨[], (key j u e (hacc.2 j u (by rw [← Array.getElem?_toList]; exact h1)) h2).2 _ fun b o e => Heap.get?_push_of_some _ (hk b o e), by simp⟩
  refine wpAny_bind (wpAny_holding (PySem.W.list_sort_data (A := X.A.in1) (s := { s with heap := h'.push (PyProof.Rows.seqObj "list" acc.toList.toArray 0), toks := tk }) (enc := id) (bs := ds) hoL E1 E2 (by rw [List.map_id]; exact al) (by rw [List.map_id]; exact so) (by rw [dl]; exact hn)
    (fun e he => by have := depth_mem ok e he; show X.A.units + 1 + 1 + e.depth < _; omega) fun out h1 h2 => ?_))
  obtain ⟨ws, k1, k2⟩ := of_each h2
  obtain ⟨e', he'⟩ := PyProof.Rows.sortedHeap_at (vs := acc.toList) (out := out.toArray) hoL
  have hlen : ws.length ≤ sizeLine := by rw [k2.length, List.length_mergeSort, dl]; exact hn
  refine wpAny_pure ⟨_, rfl, .ref h'.objs.size, upd H h'.objs.size (.lst ws), I1.laid (t' := tk) (fun b u e => ?_) (Nat.le_refl _)
    (show ObjOk X.prog X.w _ _ _ (.lst ws) from ⟨hlen, out, e', k1, he'⟩), rfl, q _ _ (I1.hok.fresh (Nat.le_refl _)) k2⟩
  have hb : b < h'.objs.size := Heap.lt_size e
  rw [PyProof.Rows.sortedHeap_old (Nat.ne_of_lt hb) (by show b < (h'.objs.push _).size; rw [Array.size_push]; exact Nat.lt_succ_of_lt hb)]
  exact Heap.get?_push_of_some _ e
theorem bi_sorted (hc : X.calm = true) (hu : X.A.units + 64 < cLine) : CallR X (.builtin "sorted") (rBi X.K .sorted) := by
  intro pins s σ H vs us Q I r ⟨Z, ss, Ψ, sub, sl, w, k⟩
  match ss, w with
  | [t], w =>
    obtain ⟨v, rfl, a, b⟩ := sl.one
    obtain ⟨xs, e, ⟨ok, al, so⟩, w⟩ := w
    have list : (∃ ad ys, v = .ref ad ∧ H ad = some (.lst ys) ∧ RpA X.K Z ys xs) → wpAny (model X.prog X.w) X.A (call (.builtin "sorted") us) (EP X pins σ Q) X.xe s := fun ⟨ad, ys, ev, h, ra⟩ => by
      subst ev
      obtain ⟨its, rv, hl, hz⟩ := I.list (SqL.of h)
      obtain ⟨zz, _⟩ := I.lstM h
      rw [Vals.ref1 r]
      obtain ⟨as, hr⟩ := Rp.readsAll I _ 40 ys its ok (RpA.mono sub ra) rv
      refine PySem.W.sorted_data (enc := id) (bs := xs) hl.isList (each_of rv ra) (each_reads hr) (by rw [List.map_id]; exact al) (by rw [List.map_id]; exact so) (by rw [← ra.length]; exact zz)
        (fun d hd => by have := depth_mem ok d hd; show _ + (id d).depth < _; show _ + d.depth < _; omega) fun out h1 h2 => ?_
      obtain ⟨ws, k1, k2⟩ := of_each h2
      obtain ⟨ep, he'⟩ := PyProof.Rows.sortedAll_at s.heap its out.toArray
      have hp : H (s.heap.objs.size + 1) = none := I.hok.fresh (Nat.le_succ _)
      have hlen : ws.length ≤ sizeLine := by rw [k2.length, List.length_mergeSort, ← ra.length]; exact zz
      refine ⟨.ref _, upd H (s.heap.objs.size + 1) (.lst ws), I.laid (t' := s.toks) (fun _ _ => PyProof.Rows.sortedAll_old) (Nat.le_succ _) ⟨hlen, out, ep, k1, he'⟩, rfl, k _ _ _ _ _ (.refl sub) w (.obj hp ⟨ws, upd_same, k2⟩)⟩
    cases t with
    | ro ds => cases b
    | ls ds =>
      cases e
      obtain ⟨ad, rfl, _, ys, h, ra⟩ := a
      exact list ⟨ad, ys, rfl, h, ra⟩
    | val d =>
      cases d with
      | list ds =>
        cases e
        obtain ⟨ad, ys, rfl, h, ra⟩ := a.lst sub b (ds := xs) rfl
        exact list ⟨ad, ys, rfl, h, ra⟩
      | _ => cases e
    | dk kvs =>
      cases e
      obtain ⟨ad, rfl, _, ys, h, kp⟩ := a
      obtain ⟨z, lo, es, rel, dd⟩ := dk_rd I.hok (.inl h)
      obtain ⟨ep, hat⟩ := dd.dictAt
      rw [Vals.ref1 r]
      have l1 : ys.length = es.length := rel.length
      have l2 := kp.length
      refine sorted_src I hc hu (PySem.W.kdl_dict (knd := mixKind X.prog X.w) (kvs := es) (ep := ep) lo) hat (by rw [← l1]; exact z) (by rw [List.length_map]; omega) ok al so (Z1 := Z) (fun j u e h1 h2 => ?_) fun p ws hp ra => ?_
      · obtain ⟨kk, x, e1, e2⟩ := h1
        have ek : (kvs.map (·.1))[j]? = some kk := by
          have q1 : ys.map (·.1) = es.map (·.1) := rel.keys
          have q2 : ys.map (·.1) = kvs.map (·.1) := KP.keys kp
          rw [← q2, q1, List.getElem?_map, e1]; rfl
        have q3 : (kvs.map fun p => kD p.1) = (kvs.map (·.1)).map kD := by rw [List.map_map]; rfl
        rw [q3, List.getElem?_map, ek] at h2
        cases h2
        have rk : RelV (kV kk) u := keyIs_rel e2
        exact ⟨⟨_, rk, rp_key kk⟩, fun h' _ => keyReads rk⟩
      · exact k _ _ _ _ _ (.refl sub) w (.obj hp ⟨ws, upd_same, ra⟩)
    | dt kvs =>
      cases e
      obtain ⟨ad, rfl, _, ys, h, kp⟩ := a
      obtain ⟨z, hs, ks, pr, o, es, ep, ho, hx, hdt, he, hn⟩ := (show ObjOk X.prog X.w H s.heap ad (.dT ys) from I.hok ad _ h)
      rw [Vals.ref1 r]
      have l1 : es.size = ks.length := size_of_entries he
      have l2 : ys.length = ks.length := Paired.length pr
      have l3 := kp.length
      -- the keys are data
      obtain ⟨Z1, g, hZ⟩ := growKeys sub (isKeys_of pr)
      refine sorted_src I hc hu (kdl_raw hs hx hdt) ho (by omega) (by rw [List.length_map]; omega) ok al so (Z1 := Z1) (fun j u e h1 h2 => ?_) fun p ws hp ra => ?_
      · obtain ⟨en, hen, rfl⟩ := h1
        have qe := entry_at he j
        rw [hen] at qe
        cases hb : ks[j]? with
        | none =>
          rw [hb] at qe
          exact nomatch (show some en = none from qe)
        | some b =>
          rw [hb] at qe
          have e2 : en = entryOfKey (tupleKind (mixKind X.prog X.w)) b := Option.some.inj qe
          have hbm : (ks.map fun x => x.2.1)[j]? = some b.2.1 := by rw [List.getElem?_map, hb]; rfl
          obtain ⟨y, hy1, hy2⟩ := pair_get (isKeys_of pr) hbm
          have ek : (kvs.map (·.1))[j]? = some y.1 := by
            have q2 : ys.map (·.1) = kvs.map (·.1) := KP.keys kp
            rw [← q2, List.getElem?_map, hy1]; rfl
          have q3 : (kvs.map fun p => PyData.tuple (p.1.map kD)) = (kvs.map (·.1)).map fun k => PyData.tuple (k.map kD) := by rw [List.map_map]; rfl
          rw [q3, List.getElem?_map, ek] at h2
          cases h2
          rw [e2]
          refine ⟨⟨.ref b.2.1, rfl, .tup (hZ _ (List.mem_of_getElem? hbm) _ hy2) (rp_keys _)⟩, fun h' hk => ?_⟩
          obtain ⟨its, rv, ⟨o2, ho2, hc2, m2, hd2⟩, _⟩ := I.tuple (SqT.of hy2)
          exact .tuple (hk _ _ ho2) hc2 hd2 (keysReads rv)
      · exact k _ _ _ _ _ g w (.obj hp ⟨ws, upd_same, ra⟩)
end
end Fw

set_option Elab.async false
set_option linter.all false
set_option maxRecDepth 100000
set_option maxHeartbeats 4000000
/-! Fw, part M: nodes of built-ins: functions, isinstance, methods, list(range). -/
namespace Fw
open PySem PySem.Spec L2
section
variable {X : Cx}
theorem bi_lst (hc : X.calm = true) : CallR X (.type "list") (rBi X.K .lst) := callr_imp (callr_or call_list_of (callr_or (call_listD hc) (call_list_dT hc))) fun vs H Q ⟨Z, ss, Ψ, sub, sl, w, k⟩ => by
  match ss, w with
  | [t], w =>
    obtain ⟨v, rfl, a, b⟩ := sl.one
    obtain ⟨xs, e, w⟩ := w
    have list : (∃ ad ys, v = .ref ad ∧ H ad = some (.lst ys) ∧ RpA X.K Z ys xs) → ∃ p ys, [v] = [V.ref p] ∧ (SqL X.K H p ys ∨ SqT X.K H p ys) ∧ ∀ l, H l = none → Q (.ref l) (upd H l (.lst ys)) := fun ⟨ad, ys, ev, h, ra⟩ =>
      ⟨ad, ys, by rw [ev], .inl (SqL.of h), fun p hp => k _ _ _ _ _ (.refl sub) w (.obj hp ⟨ys, upd_same, ra⟩)⟩
    rcases e with e | e
    · obtain ⟨ad, ys, rfl, h, ra⟩ := a.tup sub e
      exact .inl ⟨ad, ys, rfl, .inr (SqT.of h), fun p hp => k _ _ _ _ _ (.refl sub) w (.obj hp ⟨ys, upd_same, ra⟩)⟩
    · cases t with
      | ro ds => cases b
      | ls ds =>
        cases e
        obtain ⟨ad, rfl, _, ys, h, ra⟩ := a
        exact .inl (list ⟨ad, ys, rfl, h, ra⟩)
      | val d =>
        cases d with
        | list ds =>
          cases e
          obtain ⟨ad, ys, rfl, h, ra⟩ := a.lst sub b (ds := xs) rfl
          exact .inl (list ⟨ad, ys, rfl, h, ra⟩)
        | _ => cases e
      | dk kvs =>
        cases e
        obtain ⟨ad, rfl, _, ys, h, kp⟩ := a
        refine .inr (.inl ⟨ad, ys, rfl, .inl h, fun p hp => k _ _ _ _ _ (.refl sub) w (.obj hp ⟨_, upd_same, ?_⟩)⟩)
        have q1 : (ys.map fun kv => kV kv.1) = (kvs.map (·.1)).map kV := by rw [← KP.keys kp, List.map_map]; rfl
        have q2 : (kvs.map fun p => kD p.1) = (kvs.map (·.1)).map kD := by rw [List.map_map]; rfl
        rw [q1, q2]
        exact rp_keys _
      | dt kvs =>
        cases e
        obtain ⟨ad, rfl, _, ys, h, kp⟩ := a
        refine .inr (.inr ⟨ad, ys, rfl, .inl h, fun p bs hp ik => ?_⟩)
        obtain ⟨Z1, g, hZ⟩ := growKeys sub ik
        refine k _ _ _ _ _ g w (.obj hp ⟨_, upd_same, ?_⟩)
        have q2 : (kvs.map fun p => PyData.tuple (p.1.map kD)) = (ys.map fun p => PyData.tuple (p.1.map kD)) := by
          have : (ys.map (·.1)).map (fun k => PyData.tuple (k.map kD)) = (kvs.map (·.1)).map fun k => PyData.tuple (k.map kD) := by rw [KP.keys kp]
          rw [List.map_map, List.map_map] at this
          exact this.symm
        rw [q2]
        clear q2 w g k
        have hZ' : ∀ b, b ∈ bs → ∀ o, H b = some o → Z1 b = some o := hZ
        clear hZ h kp
        unfold IsKeys at ik
        induction ik with
        | nil => exact .nil
        | cons r t ih => exact .cons (.tup (hZ' _ List.mem_cons_self _ r) (rp_keys _)) (ih fun b hb o e => hZ' b (List.mem_cons_of_mem _ hb) o e)
theorem bi_tup : CallR X (.type "tuple") (rBi X.K .tup) := callr_imp call_tuple_of fun vs H Q ⟨Z, ss, Ψ, sub, sl, w, k⟩ => by
  match ss, w with
  | [t], w =>
    obtain ⟨v, rfl, a, b⟩ := sl.one
    obtain ⟨xs, e, w⟩ := w
    rcases e with e | e
    · obtain ⟨ad, ys, rfl, h, ra⟩ := a.tup sub e
      have hr : Rp X.K Z (.ref ad) (.tuple xs) := by
        cases t with
        | val d => cases e; exact a
        | _ => cases e
      exact ⟨ad, ys, rfl, .inr ⟨SqT.of h, k _ _ _ _ _ (.refl sub) w (.same hr)⟩⟩
    · obtain ⟨ad, ys, rfl, h, ra⟩ := a.lst sub b e
      exact ⟨ad, ys, rfl, .inl ⟨SqL.of h, fun p hp => k _ _ _ _ _ (.refl sub) w (.tup hp ra)⟩⟩
end
section
variable {X : Cx} {G : Pg} {d : Nat} {B : Bs} {W : Wv} {sc : Scope}
theorem bi_end {f : Bi} {cs : CEs} (σ : L2.St) (H : Hp) (Q : VK) (h : tE X.K B W (.bi f cs) σ H Q) : tCB (rBi X.K f) (tR X.K B W cs) σ H Q := by
  obtain ⟨S, Z, Ψ, rl, bo, w, k⟩ := h
  refine tR_at rl bo w fun rs S1 Z1 H1 vs w1 st1 rvs => ?_
  obtain ⟨ss, w2, sls⟩ := rdAll_out w1 st1.rl rvs
  refine ⟨Z1, ss, _, st1.rl.sub, sls, w2, fun Z2 r v Z' H' g hr nw => ?_⟩
  obtain ⟨p1, p2, p3⟩ := nw.ste (g.ste st1)
  exact k _ _ _ _ hr p1 v p2 p3
theorem bi_B {f : Bi} {id : String} {x : Str} {es : List Expr} {cs : CEs} {p pos : Pos} (hc : CallR X (.builtin id) (rBi X.K f)) (hv : bootBuiltins x = some (.builtin id)) (hx : x ≠ "__name__") (hm : X.mg x = none) (hs : X.env.scope = sc) (hg : ckGl sc x = true)
    (hn : noStarsB es = true) (he : es.isEmpty = false) (ha : PA X es (tR X.K B W cs)) : PE X (.Call (.Name x p) es [] pos) (tE X.K B W (.bi f cs)) := by
  obtain ⟨h1, h2⟩ := gl_of hs hg
  cases es with
  | nil => cases he
  | cons e es =>
    have hn' : notStarB e = true ∧ noStarsB es = true := by simpa [noStarsB] using hn
    exact pe_imp (pe_callB hc h1 hm hv ha hx h2 (star_ok hn'.1) (stars_ok hn'.2)) bi_end
theorem bi_T {f : Bi} {id : String} {x : Str} {es : List Expr} {cs : CEs} {p pos : Pos} (hc : CallR X (.type id) (rBi X.K f)) (hv : bootBuiltins x = some (.type id)) (hx : x ≠ "__name__") (hm : X.mg x = none) (hs : X.env.scope = sc) (hg : ckGl sc x = true)
    (hn : noStarsB es = true) (he : es.isEmpty = false) (ha : PA X es (tR X.K B W cs)) : PE X (.Call (.Name x p) es [] pos) (tE X.K B W (.bi f cs)) := by
  obtain ⟨h1, h2⟩ := gl_of hs hg
  cases es with
  | nil => cases he
  | cons e es =>
    have hn' : notStarB e = true ∧ noStarsB es = true := by simpa [noStarsB] using hn
    exact pe_imp (pe_callTy hc h1 hm hv ha hx h2 (star_ok hn'.1) (stars_ok hn'.2)) bi_end
theorem e_bi {f : Bi} {x : Str} {es : List Expr} {cs : CEs} {p pos : Pos} (g : Gx X G d) (hb : biOk f = true) (hx : biName f = x) (hs : X.env.scope = sc) (hg : ckGl sc x = true) (hn : noStarsB es = true) (he : es.isEmpty = false) (ha : PA X es (tR X.K B W cs)) :
    PE X (.Call (.Name x p) es [] pos) (tE X.K B W (.bi f cs)) := by
  have hc := g.calm
  have hu : X.A.units + 64 < cLine := by have := g.room.un; omega
  subst hx
  have hm : X.mg (biName f) = none := g.blt _ (by cases f <;> decide)
  cases f with
  | abs => exact bi_B bi_abs (by decide) (by decide) hm hs hg hn he ha
  | int => exact bi_T bi_int (by decide) (by decide) hm hs hg hn he ha
  | len => exact bi_B bi_len (by decide) (by decide) hm hs hg hn he ha
  | min2 => exact bi_B (bi_min2 hc) (by decide) (by decide) hm hs hg hn he ha
  | max2 => exact bi_B (bi_max2 hc) (by decide) (by decide) hm hs hg hn he ha
  | min1 => exact bi_B (bi_min1 hc hu) (by decide) (by decide) hm hs hg hn he ha
  | max1 => exact bi_B (bi_max1 hc hu) (by decide) (by decide) hm hs hg hn he ha
  | sum => exact bi_B (bi_sum hc) (by decide) (by decide) hm hs hg hn he ha
  | all => exact bi_B (bi_all hc) (by decide) (by decide) hm hs hg hn he ha
  | any => exact bi_B (bi_any hc) (by decide) (by decide) hm hs hg hn he ha
  | sorted => exact bi_B (bi_sorted hc hu) (by decide) (by decide) hm hs hg hn he ha
  | lst => exact bi_T (bi_lst hc) (by decide) (by decide) hm hs hg hn he ha
  | tup => exact bi_T bi_tup (by decide) (by decide) hm hs hg hn he ha
  | sumL => exact bi_B (bi_sumL hc) (by decide) (by decide) hm hs hg hn he ha
  | repr => cases hb
  | str => cases hb
  | sset => cases hb
  | lset => cases hb
/-- len(set(x)) -/
theorem e_lset {x y : Str} {a : Expr} {cs : CEs} {p py q pos : Pos} (g : Gx X G d) (hx : biName .lset = x) (hy : y = ("set" : Str)) (hs : X.env.scope = sc) (h1 : ckGl sc x = true) (h2 : ckGl sc y = true) (n1 : notStarB a = true) (ha : PA X [a] (tR X.K B W cs)) :
    PE X (.Call (.Name x p) [.Call (.Name y py) [a] [] q] [] pos) (tE X.K B W (.bi .lset cs)) := by
  subst hx hy
  refine pe_imp (pe_lenSetA (gl_of hs h1).1 (g.blt _ (by decide)) (gl_of hs h2).1 (g.blt _ (by decide)) ha g.calm (star_ok n1)) fun σ H Q ⟨S, Z, Ψ, rl, bo, w, k⟩ => ?_
  refine tR_at rl bo w fun rs S1 Z1 H1 vs w1 st1 rvs => ?_
  obtain ⟨ss, w2, sls⟩ := rdAll_out w1 st1.rl rvs
  match ss, w2 with
  | [s], w2 =>
    obtain ⟨v, rfl, a, b⟩ := sls.one
    obtain ⟨ns, e, hl, w3⟩ := w2
    rcases e with e | e
    · obtain ⟨ad, xs, rfl, h, ra⟩ := a.lst st1.rl.sub b e
      rw [ra.ints] at h
      exact ⟨ad, ns, rfl, .inl (SqL.of h), hl, k _ _ _ _ w3 st1 _ (.int _) trivial⟩
    · obtain ⟨ad, xs, rfl, h, ra⟩ := a.tup st1.rl.sub e
      rw [ra.ints] at h
      exact ⟨ad, ns, rfl, .inr (SqT.of h), hl, k _ _ _ _ w3 st1 _ (.int _) trivial⟩
/-! ### isinstance -/
theorem isi_kit {t : String} (ht : isiNames.contains t = true) (dd : D) : kitB (tyD dd) t = some (isiB t dd) := by
  have ht' : t = "int" ∨ t = "bool" ∨ t = "str" ∨ t = "list" ∨ t = "tuple" ∨ t = "dict" := by simpa [isiNames] using ht
  rcases ht' with rfl | rfl | rfl | rfl | rfl | rfl <;> cases dd <;> (show kitB _ _ = some _) <;> simp only [tyD, isiB] <;> decide +kernel
theorem isi_boot {t : String} (ht : isiNames.contains t = true) : bootBuiltins (Str.ofString t) = some (.type t) ∧ Str.ofString t ≠ "__name__" ∧ Str.ofString t ∈ bltNames := by
  have ht' : t = "int" ∨ t = "bool" ∨ t = "str" ∨ t = "list" ∨ t = "tuple" ∨ t = "dict" := by simpa [isiNames] using ht
  rcases ht' with rfl | rfl | rfl | rfl | rfl | rfl <;> exact ⟨by decide, by decide, by decide⟩
theorem e_isi {t : String} {a : Expr} {ca : CE} {y : Str} {p py pos : Pos} (g : Gx X G d) (hs : X.env.scope = sc) (hx : ckGl sc ("isinstance" : Str) = true) (hy : y = Str.ofString t) (ht : isiNames.contains t = true) (hgy : ckGl sc y = true) (n1 : notStarB a = true) (ha : PE X a (tE X.K B W ca)) :
    PE X (.Call (.Name "isinstance" p) [a, .Name y py] [] pos) (tE X.K B W (.isi t ca)) := by
  subst hy
  obtain ⟨h1, h2⟩ := gl_of hs hx
  obtain ⟨h3, h4⟩ := gl_of hs hgy
  obtain ⟨b1, b2, b3⟩ := isi_boot ht
  have pt : PE X (.Name (Str.ofString t) py) (L2.tC (V.ty t)) := pe_bltn h3 (g.blt _ b3) b1 rfl b2 h4
  refine pe_imp (pe_callB call_isi h1 (g.blt _ (by decide)) (by decide) (pa_cons ha (pa_cons pt pa_nil (star_ok rfl)) (star_ok n1)) (by decide) h2 (star_ok n1) (stars_ok (by rfl))) fun σ H Q ⟨S, Z, Ψ, rl, bo, w, k⟩ => ?_
  refine tE_at rl bo w fun r1 S1 Z1 H1 v1 w1 st1 rv1 fr1 => ?_
  obtain ⟨s1, w2, sl1, n1⟩ := rdS_out w1 st1.rl rv1
  obtain ⟨ty, t1, t2⟩ := ty_out st1.rl.sub sl1 n1
  subst t2
  exact ⟨v1, .ty t, _, .type t, isiB t s1.d, rfl, .ty t, t1, kit_ty (isi_kit ht s1.d), k _ _ _ _ w2 st1 _ (.bl _) trivial⟩
end
end Fw

set_option Elab.async false
set_option linter.all false
set_option maxRecDepth 100000
set_option maxHeartbeats 4000000
/-! Fw, part N: methods, list(range). -/
namespace Fw
open PySem PySem.Spec L2 PyProof.Rows
section
variable {K : PySem.W.Frag} {S S0 : SS} {σ : L2.St} {Z H Z0 H0 : Hp} {i : Nat} {sv sv' : SV} {a : Addr} {ob : HO}
/-- a slot's own object changes -/
theorem Ste.put (st : Ste K S0 σ Z0 H0 S Z H) (e : S[i]? = some (some sv)) (o : sv.isOwn = true) (k : σ[i]? = some (some (.ref a))) (ow : OwnAt K Z (upd H a ob) a sv') : Ste K S0 σ Z0 H0 (S.set i (some sv')) Z (upd H a ob) := by
  have rl := st.rl
  have hl : i < S.length := (List.getElem?_eq_some_iff.mp e).1
  obtain ⟨a', k1, hz, h1, oa⟩ := rl.own e o
  rw [k] at k1; cases k1
  have o' := ow.own
  have get : ∀ (j : Nat) (x : SV), (S.set i (some sv'))[j]? = some (some x) → (j = i ∧ x = sv') ∨ (j ≠ i ∧ S[j]? = some (some x)) := fun j x h => by
    by_cases hj : j = i
    · subst hj
      rw [List.getElem?_set_self hl] at h
      cases h
      exact .inl ⟨rfl, rfl⟩
    · rw [List.getElem?_set_ne (Ne.symm hj)] at h
      exact .inr ⟨hj, h⟩
  have own1 : ∀ (j : Nat) (x : SV), (S.set i (some sv'))[j]? = some (some x) → x.isOwn = true → ∃ y : SV, S[j]? = some (some y) ∧ y.isOwn = true := fun j x h hx => by
    rcases get j x h with ⟨rfl, rfl⟩ | ⟨hj, h⟩
    · exact ⟨sv, e, o⟩
    · exact ⟨x, h, hx⟩
  have ow1 : ∀ b, OwnA (S.set i (some sv')) σ b → OwnA S σ b := fun b ⟨j, x, h, hx, hk⟩ => by
    obtain ⟨y, h1, h2⟩ := own1 j x h hx
    exact ⟨j, y, h1, h2, hk⟩
  refine ⟨⟨fun b u h => ?_, by rw [List.length_set]; exact rl.len, fun j x h => ?_, fun j l x y b h1 h2 h3 h4 h5 h6 => ?_⟩, ⟨st.ex.zz, fun b u h n => ?_, st.ex.zn, fun b u h => ?_⟩, fun b h => st.ow b (ow1 b h), fun j x h => ?_⟩
  · have hb : b ≠ a := fun z => by subst z; rw [hz] at h; cases h
    rw [upd_ne hb]; exact rl.sub b u h
  · rcases get j x h with ⟨rfl, rfl⟩ | ⟨hj, h⟩
    · exact ⟨_, k, SlR.mk hz ow⟩
    · obtain ⟨v, g1, g2⟩ := rl.at' j x h
      refine ⟨v, g1, g2.mono (.refl _) (fun b u hv hx hu => ?_) fun _ _ _ hn => hn⟩
      have hb : b ≠ a := fun z => by
        subst z
        exact hj (rl.sep j i x sv b h hx e o (by rw [g1, hv]) k)
      rw [upd_ne hb]; exact hu
  · obtain ⟨x', q1, q2⟩ := own1 j x h1 h2
    obtain ⟨y', q3, q4⟩ := own1 l y h3 h4
    exact rl.sep j l x' y' b q1 q2 q3 q4 h5 h6
  · have hb : b ≠ a := fun z => by subst z; exact n (st.ow b oa)
    rw [upd_ne hb]; exact st.ex.hh b u h n
  · obtain ⟨u', h'⟩ := st.ex.th b u h
    by_cases hb : b = a
    · subst hb; exact ⟨ob, upd_same⟩
    · exact ⟨u', by rw [upd_ne hb]; exact h'⟩
  · obtain ⟨y, h1⟩ := st.kp j x h
    exact kp_set S i _ j y h1
end
section
variable {X : Cx} {G : Pg} {d : Nat} {B : Bs} {W : Wv} {sc : Scope}
theorem att_ok {o : Expr} {m : Str} {env : Env} (h : notCallB o = true) : attributeBase o m env (eval o env) = eval o env := by
  cases o <;> first | rfl | cases h
theorem few_ok {pos : Pos} {env : Env} : ∀ {es : List Expr}, noStarsB es = true → (backTo pos (starEach es env)).all (fun x => !x.1) = true
  | [], _ => rfl
  | e :: es, h => by
    have h' : notStarB e = true ∧ noStarsB es = true := by simpa [noStarsB] using h
    rw [star_ok h'.1]
    show (true && (backTo pos (starEach es env)).all (fun x => !x.1)) = true
    rw [few_ok h'.2]; rfl
variable {o : Expr} {es : List Expr} {co : CE} {cs : CEs} {apos cpos : Pos}
theorem me_bm {T id : String} {name : Str} {r : V → List V → Hp → VK → Prop} {m : Me} (pa : PlainAttrs T) (slot : Slot T name id) (hty : typeOf (.builtin id) = pure (.type "method_descriptor")) (hm : MtR X id r) (hl : (apos.endLine == cpos.line) = true) (hlen : es.length < 20) (hb : notCallB o = true) (hn : noStarsB es = true)
    (he : es.isEmpty = false) (ho : PE X o (tE X.K B W co)) (ha : PA X es (tF X.K B W cs)) (k : ∀ σ H Q, tE X.K B W (.me m co cs) σ H Q → tBM X.K T r (tE X.K B W co) (tF X.K B W cs) σ H Q) : PE X (.Call (.Attribute o name apos) es [] cpos) (tE X.K B W (.me m co cs)) := by
  cases es with
  | nil => cases he
  | cons e es =>
    have hn' : notStarB e = true ∧ noStarsB es = true := by simpa [noStarsB] using hn
    refine pe_imp (pe_bm pa slot hty hm ho ha (att_ok hb) ?_ hl (star_ok hn'.1) (stars_ok hn'.2)) k
    rw [few_ok hn]
    show (true && true && decide ((e :: es).length + 0 + 0 < 30)) = true
    have : (e :: es).length + 0 + 0 < 30 := by omega
    rw [decide_eq_true this]; rfl
theorem me_bm0 {T id : String} {name : Str} {r : V → List V → Hp → VK → Prop} {m : Me} (pa : PlainAttrs T) (slot : Slot T name id) (hty : typeOf (.builtin id) = pure (.type "method_descriptor")) (hm : MtR X id r) (hl : (apos.endLine == cpos.line) = true) (hb : notCallB o = true)
    (he : es.isEmpty = true) (ho : PE X o (tE X.K B W co)) (k : ∀ σ H Q, tE X.K B W (.me m co cs) σ H Q → tBM0 X.K T r (tE X.K B W co) σ H Q) : PE X (.Call (.Attribute o name apos) es [] cpos) (tE X.K B W (.me m co cs)) := by
  cases es with
  | cons e es => cases he
  | nil => exact pe_imp (pe_bm0 pa slot hty hm ho (att_ok hb) hl) k
/-- a receiver that a slot holds alone -/
theorem recv {K : PySem.W.Frag} {S1 : SS} {σ : L2.St} {Z1 H1 : Hp} {r : RV} {v : V} {i : Nat} {sv : SV} (rl : Rl K Z1 S1 σ H1) (rv : RvR K Z1 H1 S1 σ r v) (hr : r = .b i) (e : S1[i]? = some (some sv)) (o : sv.isOwn = true) : ∃ a, v = .ref a ∧ σ[i]? = some (some (.ref a)) ∧ OwnAt K Z1 H1 a sv := by
  subst hr
  obtain ⟨sv', h1, h2⟩ := rv
  obtain ⟨a, k1, k2, k3, k4⟩ := rl.own e o
  rw [k1] at h2
  cases h2
  exact ⟨a, rfl, k1, k3⟩
theorem me_append (σ : L2.St) (H : Hp) (Q : VK) (h : tE X.K B W (.me .append co cs) σ H Q) : tBM X.K "list" rAppend (tE X.K B W co) (tF X.K B W cs) σ H Q := by
  obtain ⟨S, Z, Ψ, rl, bo, w, k⟩ := h
  refine tE_at rl bo w fun r1 S1 Z1 H1 v1 w1 st1 rv1 fr1 => ?_
  obtain ⟨⟨i, xs0, hr, e0⟩, w1⟩ := w1
  obtain ⟨a, rfl, ka, xs1, h1, _⟩ := recv st1.rl rv1 hr e0 rfl
  subst hr
  refine ⟨.inl ⟨rfl, xs1, SqL.of h1⟩, tF_at st1.rl (bo.ste st1) w1 fun ds S2 Z2 H2 vs w2 st2 ra => ?_⟩
  match ds, vs, ra, w2 with
  | [dd], [v], .cons r .nil, w2 =>
    have w2 : (match S2[i]? with | some (some (.ls xs)) => xs.length < sizeLine ∧ Ψ (.z .none) (S2.set i (some (.ls (xs ++ [dd])))) | _ => False) := w2
    split at w2
    · next xs e2 =>
      obtain ⟨a', k2, hz2, ⟨ys, h2, ra2⟩, oa⟩ := st2.rl.own e2 rfl
      rw [ka] at k2; cases k2
      have st3 := (st1.trans st2).put (sv' := .ls (xs ++ [dd])) (ob := .lst (ys ++ [v])) e2 rfl ka ⟨_, upd_same, ra2.append (.cons r .nil)⟩
      exact ⟨a, ys, v, rfl, rfl, h2, by rw [ra2.length]; exact w2.1, k _ _ _ _ w2.2 st3 _ .non trivial⟩
    · exact w2.elim
theorem me_extend (σ : L2.St) (H : Hp) (Q : VK) (h : tE X.K B W (.me .extend co cs) σ H Q) : tBM X.K "list" rExtend (tE X.K B W co) (tF X.K B W cs) σ H Q := by
  obtain ⟨S, Z, Ψ, rl, bo, w, k⟩ := h
  refine tE_at rl bo w fun r1 S1 Z1 H1 v1 w1 st1 rv1 fr1 => ?_
  obtain ⟨⟨i, xs0, hr, e0⟩, w1⟩ := w1
  obtain ⟨a, rfl, ka, xs1, h1, _⟩ := recv st1.rl rv1 hr e0 rfl
  subst hr
  refine ⟨.inl ⟨rfl, xs1, SqL.of h1⟩, tF_at st1.rl (bo.ste st1) w1 fun ds S2 Z2 H2 vs w2 st2 ra => ?_⟩
  match ds, vs, ra, w2 with
  | [.list dd], [.ref b], .cons (.lst (xs := zs) hb rb) .nil, w2 =>
    have w2 : (match S2[i]? with | some (some (.ls xs)) => xs.length + dd.length ≤ sizeLine ∧ Ψ (.z .none) (S2.set i (some (.ls (xs ++ dd)))) | _ => False) := w2
    split at w2
    · next xs e2 =>
      obtain ⟨a', k2, hz2, ⟨ys, h2, ra2⟩, oa⟩ := st2.rl.own e2 rfl
      rw [ka] at k2; cases k2
      have st3 := (st1.trans st2).put (sv' := .ls (xs ++ dd)) (ob := .lst (ys ++ zs)) e2 rfl ka ⟨_, upd_same, ra2.append rb⟩
      exact ⟨a, b, ys, zs, rfl, rfl, h2, st2.rl.sub _ _ hb, by rw [ra2.length, rb.length]; exact w2.1, k _ _ _ _ w2.2 st3 _ .non trivial⟩
    · exact w2.elim
theorem RpA.dropLast {K : PySem.W.Frag} {Z : Hp} {xs : List V} {ds : List D} (h : RpA K Z xs ds) : RpA K Z xs.dropLast ds.dropLast := by
  rw [List.dropLast_eq_take, List.dropLast_eq_take, h.length]
  exact h.take _
theorem RpA.eraseIdx {K : PySem.W.Frag} {Z : Hp} : ∀ {xs : List V} {ds : List D} (h : RpA K Z xs ds) (n : Nat), RpA K Z (xs.eraseIdx n) (ds.eraseIdx n)
  | _, _, .nil, _ => .nil
  | _, _, .cons r t, 0 => t
  | _, _, .cons r t, n + 1 => .cons r (RpA.eraseIdx t n)
theorem me_pop (σ : L2.St) (H : Hp) (Q : VK) (h : tE X.K B W (.me .pop co .nil) σ H Q) : tBM0 X.K "list" rPop (tE X.K B W co) σ H Q := by
  obtain ⟨S, Z, Ψ, rl, bo, w, k⟩ := h
  refine tE_at rl bo w fun r1 S1 Z1 H1 v1 w1 st1 rv1 fr1 => ?_
  obtain ⟨⟨i, xs0, hr, e0⟩, w1⟩ := w1
  obtain ⟨a, rfl, ka, xs1, h1, ra1⟩ := recv st1.rl rv1 hr e0 rfl
  subst hr
  refine ⟨.inl ⟨rfl, xs1, SqL.of h1⟩, ?_⟩
  have w2 : (match S1[i]? with | some (some (.ls xs)) => ∃ x, xs[xs.length - 1]? = some x ∧ Ψ (.z x) (S1.set i (some (.ls xs.dropLast))) | _ => False) := w1
  rw [e0] at w2
  obtain ⟨x, hx, w2⟩ := w2
  obtain ⟨v, hv, rv⟩ := ra1.get hx
  have st3 := st1.put (sv' := .ls xs0.dropLast) (ob := .lst xs1.dropLast) e0 rfl ka ⟨_, upd_same, ra1.dropLast⟩
  exact ⟨a, xs1, v, rfl, rfl, h1, by rw [ra1.length]; exact hv, k _ _ _ _ w2 st3 _ rv trivial⟩
theorem me_popAt (σ : L2.St) (H : Hp) (Q : VK) (h : tE X.K B W (.me .popAt co cs) σ H Q) : tBM X.K "list" rPopAt (tE X.K B W co) (tF X.K B W cs) σ H Q := by
  obtain ⟨S, Z, Ψ, rl, bo, w, k⟩ := h
  refine tE_at rl bo w fun r1 S1 Z1 H1 v1 w1 st1 rv1 fr1 => ?_
  obtain ⟨⟨i, xs0, hr, e0⟩, w1⟩ := w1
  obtain ⟨a, rfl, ka, xs1, h1, _⟩ := recv st1.rl rv1 hr e0 rfl
  subst hr
  refine ⟨.inl ⟨rfl, xs1, SqL.of h1⟩, tF_at st1.rl (bo.ste st1) w1 fun ds S2 Z2 H2 vs w2 st2 ra => ?_⟩
  match ds, vs, ra, w2 with
  | [.int n], [.int _], .cons (.int _) .nil, w2 =>
    have w2 : (match S2[i]? with | some (some (.ls xs)) => ∃ kk x, (-(2 ^ 63) ≤ n ∧ n < 2 ^ 63 ∧ seqIndex? n xs.length = some kk) ∧ xs[kk]? = some x ∧ Ψ (.z x) (S2.set i (some (.ls (xs.eraseIdx kk)))) | _ => False) := w2
    split at w2
    · next xs e2 =>
      obtain ⟨a', k2, hz2, ⟨ys, h2, ra2⟩, oa⟩ := st2.rl.own e2 rfl
      rw [ka] at k2; cases k2
      obtain ⟨kk, x, ⟨b1, b2, b3⟩, hx, w2⟩ := w2
      obtain ⟨v, hv, rv⟩ := ra2.get hx
      have st3 := (st1.trans st2).put (sv' := .ls (xs.eraseIdx kk)) (ob := .lst (ys.eraseIdx kk)) e2 rfl ka ⟨_, upd_same, ra2.eraseIdx kk⟩
      exact ⟨a, ys, n, kk, v, rfl, rfl, h2, b1, b2, by rw [ra2.length]; exact b3, hv, k _ _ _ _ w2 st3 _ rv trivial⟩
    · exact w2.elim
/-! dicts -/
def rGet1 : V → List V → Hp → VK → Prop := fun x xs H Q => ∃ a y o, x = .ref a ∧ xs = [y] ∧ DGet H a y o ∧ Q (o.getD .non) H
def rGet2 : V → List V → Hp → VK → Prop := fun x xs H Q => ∃ a y z o, x = .ref a ∧ xs = [y, z] ∧ DGet H a y o ∧ Q (o.getD z) H
theorem mt_get1 (hu : X.A.units + 1 < cLine) : MtR X "dict.get" rGet1 := by
  intro pins s σ H x xs v us Q I rx rxs ⟨a, y, o, h1, h2, g, q⟩
  subst h1 h2
  obtain rfl : v = Value.ref a := rx
  obtain ⟨u, rfl, ru⟩ := rxs.one
  exact d_get1 hu I g ru fun w' s3 I3 rw' => ⟨_, H, I3, rw', q⟩
theorem mt_get2 (hu : X.A.units + 1 < cLine) : MtR X "dict.get" rGet2 := by
  intro pins s σ H x xs v us Q I rx rxs ⟨a, y, z, o, h1, h2, g, q⟩
  subst h1 h2
  obtain rfl : v = Value.ref a := rx
  obtain ⟨u, u2, rfl, ru, ru2⟩ := rxs.two
  exact d_get2 hu I g ru ru2 fun w' s3 I3 rw' => ⟨_, H, I3, rw', q⟩
theorem dict_ty {K : PySem.W.Frag} {S1 : SS} {σ : L2.St} {Z1 H1 : Hp} {r : RV} {v : V} (rl : Rl K Z1 S1 σ H1) (rv : RvR K Z1 H1 S1 σ r v) {i : Nat} (hr : r = .b i) (h : (∃ kvs, S1[i]? = some (some (.dk kvs))) ∨ ∃ kvs, S1[i]? = some (some (.dt kvs))) :
    ∃ a, v = .ref a ∧ σ[i]? = some (some (.ref a)) ∧ tyV K "dict" v H1 := by
  rcases h with ⟨kvs, e⟩ | ⟨kvs, e⟩
  · obtain ⟨a, rfl, ka, ys, h1, _⟩ := recv rl rv hr e rfl
    exact ⟨a, rfl, ka, .inr (.inr (.inl ⟨rfl, .inl ⟨ys, h1⟩⟩))⟩
  · obtain ⟨a, rfl, ka, ys, h1, _⟩ := recv rl rv hr e rfl
    exact ⟨a, rfl, ka, .inr (.inr (.inl ⟨rfl, .inr ⟨ys, h1⟩⟩))⟩
theorem me_get (σ : L2.St) (H : Hp) (Q : VK) (h : tE X.K B W (.me .get co cs) σ H Q) : tBM X.K "dict" (fun x xs H Q => rGet1 x xs H Q) (tE X.K B W co) (tF X.K B W cs) σ H Q := by
  obtain ⟨S, Z, Ψ, rl, bo, w, k⟩ := h
  refine tE_at rl bo w fun r1 S1 Z1 H1 v1 w1 st1 rv1 fr1 => ?_
  obtain ⟨⟨i, hr, e0⟩, w1⟩ := w1
  obtain ⟨a, rfl, ka, ty⟩ := dict_ty st1.rl rv1 hr e0
  subst hr
  refine ⟨ty, tF_at st1.rl (bo.ste st1) w1 fun ds S2 Z2 H2 vs w2 st2 ra => ?_⟩
  match ds, vs, ra, w2 with
  | [dd], [v], .cons r .nil, w2 =>
    have w2 : (match S2[i]? with | some (some sv) => ∃ o, dGet sv dd = some o ∧ Ψ (.z (o.getD .none)) S2 | _ => False) := w2
    split at w2
    · next sv e2 =>
      obtain ⟨o, g, w2⟩ := w2
      obtain ⟨a', o', ev, dg, c⟩ := get_own (s1 := .val dd) st2.rl.sub r rfl (st2.rl.slot e2 ka) g
      cases ev
      refine ⟨a, v, o', rfl, rfl, dg, ?_⟩
      rcases c with ⟨rfl, rfl⟩ | ⟨v', d', rfl, rfl, rp⟩
      · exact k _ _ _ _ w2 (st1.trans st2) _ .non trivial
      · exact k _ _ _ _ w2 (st1.trans st2) _ rp trivial
    · exact w2.elim
theorem me_getOr (σ : L2.St) (H : Hp) (Q : VK) (h : tE X.K B W (.me .getOr co cs) σ H Q) : tBM X.K "dict" (fun x xs H Q => rGet2 x xs H Q) (tE X.K B W co) (tF X.K B W cs) σ H Q := by
  obtain ⟨S, Z, Ψ, rl, bo, w, k⟩ := h
  refine tE_at rl bo w fun r1 S1 Z1 H1 v1 w1 st1 rv1 fr1 => ?_
  obtain ⟨⟨i, hr, e0⟩, w1⟩ := w1
  obtain ⟨a, rfl, ka, ty⟩ := dict_ty st1.rl rv1 hr e0
  subst hr
  refine ⟨ty, tF_at st1.rl (bo.ste st1) w1 fun ds S2 Z2 H2 vs w2 st2 ra => ?_⟩
  match ds, vs, ra, w2 with
  | [dd, ee], [v, v2], .cons r (.cons r2 .nil), w2 =>
    have w2 : (match S2[i]? with | some (some sv) => ∃ o, dGet sv dd = some o ∧ Ψ (.z (o.getD ee)) S2 | _ => False) := w2
    split at w2
    · next sv e2 =>
      obtain ⟨o, g, w2⟩ := w2
      obtain ⟨a', o', ev, dg, c⟩ := get_own (s1 := .val dd) st2.rl.sub r rfl (st2.rl.slot e2 ka) g
      cases ev
      refine ⟨a, v, v2, o', rfl, rfl, dg, ?_⟩
      rcases c with ⟨rfl, rfl⟩ | ⟨v', d', rfl, rfl, rp⟩
      · exact k _ _ _ _ w2 (st1.trans st2) _ r2 trivial
      · exact k _ _ _ _ w2 (st1.trans st2) _ rp trivial
    · exact w2.elim
/-! index, count -/
def rIndexR (K : PySem.W.Frag) : V → List V → Hp → VK → Prop := fun x xs H Q => ∃ (a : Addr) (ys : List V) (y : V) (dd : D) (ds : List D) (j : Nat), x = V.ref a ∧ xs = [y] ∧ H a = some (.lst ys) ∧ RpA K H ys ds ∧ Rp K H y dd ∧ okDs ds 40 = true ∧ okD dd 40 = true ∧
  ds.findIdx? (fun z => PyData.eqv z dd) = some j ∧ Q (.int (j : Nat)) H
theorem mt_indexR (hu : X.A.units + 65 < cLine) : MtR X "list.index" (rIndexR X.K) := by
  intro pins s σ H x xs v us Q I rx rxs h
  obtain ⟨a, ys, y, dd, ds, j, rfl, rfl, hs, ha, hy, sl, sd, hf, q⟩ := h
  obtain ⟨hjd, hzj, hno⟩ := List.findIdx?_eq_some_iff_getElem.mp hf
  cases rx
  cases rxs with
  | cons ry rt =>
    rename_i uy ut
    cases rt
    obtain ⟨bs, r1⟩ := Rp.reads I dd 40 y uy sd hy ry
    obtain ⟨hxs, hd1⟩ := okDs_lay ds 40 sl
    obtain ⟨hcd, hd2⟩ := okD_lay dd 40 sd
    have hroom : X.A.units + 1 + min (PyData.depthAll ds) dd.depth < cLine := by omega
    obtain ⟨its, rv, ⟨⟨cls, dc, data, sls⟩, n, ho, hc, hdn, hdt⟩, hlen⟩ := I.list (SqL.of hs)
    simp only at hc hdt
    subst hc hdt
    obtain ⟨as, h4⟩ := Rp.readsAll I ds 40 _ its sl ha rv
    have hn : its.length = ds.length := SeqAt.ReadsAll.length ds its as h4
    have hmap : its.map (SeqAt.readOf s.heap) = ds := SeqAt.readsAll_map ds its as hxs h4
    have hvl := rv.length
    have hsl := sizeLine_eq
    have hj : j < its.toArray.size := by simpa [hn] using hjd
    have at_ : ∀ (m : Nat) (hm : m < its.toArray.size) (hm2 : m < ds.length), SeqAt.readOf s.heap its.toArray[m] = ds[m] := by
      intro m hm hm2
      have hml : m < its.length := by simpa using hm
      have e1 : (its.map (SeqAt.readOf s.heap))[m]? = some ds[m] := by rw [hmap, List.getElem?_eq_getElem hm2]
      rw [List.getElem?_map, List.getElem?_eq_getElem hml] at e1
      have e2 : SeqAt.readOf s.heap its[m] = ds[m] := Option.some.inj e1
      simpa using e2
    refine call_meets PySem.F.slot_list_index ⟨_, ho, rfl⟩ PySem.F.entry_list_index (PySem.F.args_list_index_2 _ _)
      (SeqAt.list_indexAt a its.toArray n dc sls uy (fun u => PyData.eqv (SeqAt.readOf s.heap u) dd) j hj (by omega) ?_ ?_) ⟨ho, SeqAt.items_eqAt (vs := its.toArray) (show ReadsAll s.heap its.toArray.toList ds as from h4) r1 hxs hcd hroom, ?_⟩
    · show PyData.eqv (SeqAt.readOf s.heap its.toArray[j]) dd = true
      rw [at_ j hj hjd]
      exact hzj
    · intro m hm hmj
      have hmd : m < ds.length := by omega
      show PyData.eqv (SeqAt.readOf s.heap its.toArray[m]) dd = false
      rw [at_ m hm hmd]
      have := hno m hmj
      simpa using this
    · exact ⟨.int (j : Nat), H, I.tok _, ⟨_, rfl⟩, q⟩
theorem me_index (σ : L2.St) (H : Hp) (Q : VK) (h : tE X.K B W (.me .index co cs) σ H Q) : tBM X.K "list" (rIndexR X.K) (tE X.K B W co) (tF X.K B W cs) σ H Q := by
  obtain ⟨S, Z, Ψ, rl, bo, w, k⟩ := h
  refine tE_at rl bo w fun r1 S1 Z1 H1 v1 w1 st1 rv1 fr1 => ?_
  obtain ⟨wk, w1⟩ := w1
  obtain ⟨s1, ⟨xs1, e1⟩, sl1, n1⟩ := rdS_out (P := fun s => ∃ xs, s.d = .list xs) wk st1.rl rv1
  obtain ⟨a, ys1, rfl, h1, ra1⟩ := sl1.lst st1.rl.sub n1 e1
  refine ⟨.inl ⟨rfl, ys1, SqL.of h1⟩, tF_at st1.rl (bo.ste st1) w1 fun ds S2 Z2 H2 vs w2 st2 ra => ?_⟩
  match ds, vs, ra, w2 with
  | [dd], [v], .cons r .nil, w2 =>
    obtain ⟨s2, ⟨xs, j, e2, ⟨o1, o2⟩, hf, w3⟩, sl2, n2⟩ := rdS_out (P := fun s => ∃ xs j, s.d = .list xs ∧ (okDs xs 40 = true ∧ okD dd 40 = true) ∧ xs.findIdx? (fun z => PyData.eqv z dd) = some j ∧ Ψ (.z (.int (j : Nat))) S2) w2 st2.rl (rv1.keep st2)
    obtain ⟨a', ys, ev, h2, ra2⟩ := sl2.lst st2.rl.sub n2 e2
    cases ev
    exact ⟨a, ys, v, dd, xs, j, rfl, rfl, h2, ra2.mono st2.rl.sub, r.mono st2.rl.sub, o1, o2, hf, k _ _ _ _ w3 (st1.trans st2) _ (.int _) trivial⟩
theorem me_count (σ : L2.St) (H : Hp) (Q : VK) (h : tE X.K B W (.me .count co cs) σ H Q) :
    tBM X.K "str" (fun x xs H Q => ∃ a b, x = .str a ∧ xs = [.str b] ∧ Q (.int (Txt.count a b)) H) (tE X.K B W co) (tF X.K B W cs) σ H Q := by
  obtain ⟨S, Z, Ψ, rl, bo, w, k⟩ := h
  refine tE_at rl bo w fun r1 S1 Z1 H1 v1 w1 st1 rv1 fr1 => ?_
  obtain ⟨wk, w1⟩ := w1
  obtain ⟨s1, ⟨x1, e1⟩, sl1, n1⟩ := rdS_out (P := fun s => ∃ a, s.d = .str a) wk st1.rl rv1
  obtain rfl := sl1.str e1
  refine ⟨rfl, tF_at st1.rl (bo.ste st1) w1 fun ds S2 Z2 H2 vs w2 st2 ra => ?_⟩
  match ds, vs, ra, w2 with
  | [dd], [v], .cons r .nil, w2 =>
    obtain ⟨s2, ⟨a, b, e2, e3, w3⟩, sl2, n2⟩ := rdS_out (P := fun s => ∃ a b, s.d = .str a ∧ dd = .str b ∧ Ψ (.z (.int (Txt.count a b))) S2) w2 st2.rl (rv1.keep st2)
    have ea := sl2.str e2
    cases ea
    subst e3
    cases r
    exact ⟨x1, b, rfl, rfl, k _ _ _ _ w3 (st1.trans st2) _ (.int _) trivial⟩
theorem me_lcount (σ : L2.St) (H : Hp) (Q : VK) (h : tE X.K B W (.me .lcount co cs) σ H Q) : tBM X.K "list" (rCntI X.K) (tE X.K B W co) (tF X.K B W cs) σ H Q := by
  obtain ⟨S, Z, Ψ, rl, bo, w, k⟩ := h
  refine tE_at rl bo w fun r1 S1 Z1 H1 v1 w1 st1 rv1 fr1 => ?_
  obtain ⟨wk, w1⟩ := w1
  obtain ⟨s1, ⟨xs1, e1⟩, sl1, n1⟩ := rdS_out (P := fun s => ∃ xs, s.d = .list xs) wk st1.rl rv1
  obtain ⟨a, ys1, rfl, h1, ra1⟩ := sl1.lst st1.rl.sub n1 e1
  refine ⟨.inl ⟨rfl, ys1, SqL.of h1⟩, tF_at st1.rl (bo.ste st1) w1 fun ds S2 Z2 H2 vs w2 st2 ra => ?_⟩
  match ds, vs, ra, w2 with
  | [dd], [v], .cons r .nil, w2 =>
    obtain ⟨s2, ⟨ns, kk, e2, e3, w3⟩, sl2, n2⟩ := rdS_out (P := fun s => ∃ (ns : List Int) (k : Int), s.d = .list (ns.map .int) ∧ dd = .int k ∧ Ψ (.z (.int (ns.count k : Nat))) S2) w2 st2.rl (rv1.keep st2)
    obtain ⟨a', ys, ev, h2, ra2⟩ := sl2.lst st2.rl.sub n2 e2
    cases ev
    subst e3
    cases r
    rw [ra2.ints] at h2
    exact ⟨a, ns, kk, rfl, rfl, SqL.of h2, k _ _ _ _ w3 (st1.trans st2) _ (.int _) trivial⟩
theorem e_me {m : Me} {x : Str} (g : Gx X G d) (hm : meOk m = true) (hx : meName m = x) (hl : (apos.endLine == cpos.line) = true) (hlen : es.length < 20) (hb : notCallB o = true) (hn : noStarsB es = true) (he : es.isEmpty = popB m) (hcs : m = .pop → cs = .nil)
    (ho : PE X o (tE X.K B W co)) (ha : PA X es (tF X.K B W cs)) : PE X (.Call (.Attribute o x apos) es [] cpos) (tE X.K B W (.me m co cs)) := by
  have hu : X.A.units + 65 < cLine := by have := g.room.un; omega
  subst hx
  cases m with
  | append => exact me_bm PySem.F.plainAttrs_list PySem.F.slot_list_append PySem.F.type_list_append mt_append hl hlen hb hn he ho ha me_append
  | extend => exact me_bm PySem.F.plainAttrs_list PySem.F.slot_list_extend PySem.F.type_list_extend mt_extend hl hlen hb hn he ho ha me_extend
  | pop =>
    rw [hcs rfl]
    exact me_bm0 PySem.F.plainAttrs_list PySem.F.slot_list_pop PySem.F.type_list_pop mt_pop hl hb he ho me_pop
  | popAt => exact me_bm PySem.F.plainAttrs_list PySem.F.slot_list_pop PySem.F.type_list_pop mt_popAt hl hlen hb hn he ho ha me_popAt
  | index => exact me_bm PySem.F.plainAttrs_list PySem.F.slot_list_index PySem.F.type_list_index (mt_indexR hu) hl hlen hb hn he ho ha me_index
  | count => exact me_bm PySem.F.plainAttrs_str PySem.F.slot_str_count PySem.F.type_str_count mt_count hl hlen hb hn he ho ha me_count
  | lcount => exact me_bm PySem.F.plainAttrs_list PySem.F.slot_list_count PySem.F.type_list_count mt_lcount hl hlen hb hn he ho ha me_lcount
  | get => exact me_bm PySem.F.plainAttrs_dict PySem.F.slot_dict_get PySem.F.type_dict_get (mt_get1 (by omega)) hl hlen hb hn he ho ha me_get
  | getOr => exact me_bm PySem.F.plainAttrs_dict PySem.F.slot_dict_get PySem.F.type_dict_get (mt_get2 (by omega)) hl hlen hb hn he ho ha me_getOr
  | _ => cases hm
/-! ### list(range(..)), tuple(range(..)) -/
theorem rgV_rng {K : PySem.W.Frag} {Z : Hp} (a b : Int) : RpA K Z (rgV a b) (rngL a (b - a).toNat) := by
  unfold rgV rngL
  generalize (b - a).toNat = n
  generalize List.range n = l
  induction l with
  | nil => exact .nil
  | cons x t ih => exact .cons (.int _) ih
theorem rngL_len (a : Int) (n : Nat) : (rngL a n).length = n := by unfold rngL; simp
variable {a b : Expr} {ca cb : CE} {p p2 pos pos2 : Pos}
theorem e_lst1 (g : Gx X G d) (hs : X.env.scope = sc) (h1 : ckGl sc ("list" : Str) = true) (h2 : ckGl sc ("range" : Str) = true) (n1 : notStarB a = true) (ha : PE X a (tE X.K B W ca)) : PE X (.Call (.Name "list" p) [.Call (.Name "range" p2) [a] [] pos2] [] pos) (tE X.K B W (.lstI (.rng1 ca))) := by
  refine pe_imp (pe_listRg g.calm (gl_of hs h1).1 (g.blt _ (by decide)) (prg_1 (gl_of hs h2).1 (g.blt _ (by decide)) ha (star_ok n1))) fun σ H Q ⟨S, Z, Ψ, rl, bo, w, k⟩ => ?_
  refine tE_at rl bo w fun r1 S1 Z1 H1 v1 w1 st1 rv1 fr1 => ?_
  obtain ⟨s1, w2, sl1, n1⟩ := rdS_out w1 st1.rl rv1
  cases e : s1.d with
  | int j =>
    rw [e] at w2
    have w2 : (-(2 ^ 62) ≤ j ∧ j < 2 ^ 62) ∧ (rngL 0 j.toNat).length ≤ sizeLine ∧ Ψ (.f (.ls (rngL 0 j.toNat))) S1 := w2
    obtain ⟨b1, b2, b3⟩ := w2
    rw [rngL_len, sizeLine_eq] at b2
    refine ⟨j, sl1.int e, ⟨by omega, by omega, b1.1, b1.2, by rw [Int.sub_zero]; omega⟩, fun q hq => ?_⟩
    obtain ⟨p1, p2, p3⟩ := (NewR.obj (sv := .ls (rngL 0 j.toNat)) (o := .lst (rgV 0 j)) hq ⟨_, upd_same, by have := rgV_rng (K := X.K) (Z := Z1) 0 j; rw [Int.sub_zero] at this; exact this⟩).ste st1
    exact k _ _ _ _ b3 p1 _ p2 p3
  | _ => rw [e] at w2; exact False.elim w2
theorem e_tup1 (g : Gx X G d) (hs : X.env.scope = sc) (h1 : ckGl sc ("tuple" : Str) = true) (h2 : ckGl sc ("range" : Str) = true) (n1 : notStarB a = true) (ha : PE X a (tE X.K B W ca)) : PE X (.Call (.Name "tuple" p) [.Call (.Name "range" p2) [a] [] pos2] [] pos) (tE X.K B W (.tupI (.rng1 ca))) := by
  refine pe_imp (pe_tupRg g.calm (gl_of hs h1).1 (g.blt _ (by decide)) (prg_1 (gl_of hs h2).1 (g.blt _ (by decide)) ha (star_ok n1))) fun σ H Q ⟨S, Z, Ψ, rl, bo, w, k⟩ => ?_
  refine tE_at rl bo w fun r1 S1 Z1 H1 v1 w1 st1 rv1 fr1 => ?_
  obtain ⟨s1, w2, sl1, n1⟩ := rdS_out w1 st1.rl rv1
  cases e : s1.d with
  | int j =>
    rw [e] at w2
    have w2 : (-(2 ^ 62) ≤ j ∧ j < 2 ^ 62) ∧ (rngL 0 j.toNat).length ≤ sizeLine ∧ Ψ (.z (.tuple (rngL 0 j.toNat))) S1 := w2
    obtain ⟨b1, b2, b3⟩ := w2
    rw [rngL_len, sizeLine_eq] at b2
    refine ⟨j, sl1.int e, ⟨by omega, by omega, b1.1, b1.2, by rw [Int.sub_zero]; omega⟩, fun q hq => ?_⟩
    obtain ⟨p1, p2, p3⟩ := (NewR.tup (ds := rngL 0 j.toNat) (xs := rgV 0 j) hq (by have := rgV_rng (K := X.K) (Z := Z1) 0 j; rw [Int.sub_zero] at this; exact this)).ste st1
    exact k _ _ _ _ b3 p1 _ p2 p3
  | _ => rw [e] at w2; exact False.elim w2
theorem e_lst2 (g : Gx X G d) (hs : X.env.scope = sc) (h1 : ckGl sc ("list" : Str) = true) (h2 : ckGl sc ("range" : Str) = true) (n1 : notStarB a = true) (n2 : notStarB b = true) (ha : PE X a (tE X.K B W ca)) (hb : PE X b (tE X.K B W cb)) :
    PE X (.Call (.Name "list" p) [.Call (.Name "range" p2) [a, b] [] pos2] [] pos) (tE X.K B W (.lstI (.rng2 ca cb))) := by
  refine pe_imp (pe_listRg g.calm (gl_of hs h1).1 (g.blt _ (by decide)) (prg_2 (gl_of hs h2).1 (g.blt _ (by decide)) ha hb (star_ok n1) (star_ok n2) (stars_ok (es := [b]) (by simp [noStarsB, n2])))) fun σ H Q ⟨S, Z, Ψ, rl, bo, w, k⟩ => ?_
  refine tE_at rl bo w fun r1 S1 Z1 H1 v1 w1 st1 rv1 fr1 => tE_at st1.rl (bo.ste st1) w1 fun r2 S2 Z2 H2 v2 w2 st2 rv2 fr2 => ?_
  obtain ⟨s1, w3, sl1, m1⟩ := rdS_out w2 st2.rl (rv1.keep st2)
  obtain ⟨s2, w4, sl2, m2⟩ := rdS_out w3 st2.rl rv2
  cases e : s1.d with
  | int i =>
    cases e2 : s2.d with
    | int j =>
      rw [e, e2] at w4
      have w4 : (-(2 ^ 62) ≤ i ∧ i < 2 ^ 62 ∧ -(2 ^ 62) ≤ j ∧ j < 2 ^ 62) ∧ (rngL i (j - i).toNat).length ≤ sizeLine ∧ Ψ (.f (.ls (rngL i (j - i).toNat))) S2 := w4
      obtain ⟨b1, b2, b3⟩ := w4
      rw [rngL_len, sizeLine_eq] at b2
      refine ⟨i, j, sl1.int e, sl2.int e2, ⟨b1.1, b1.2.1, b1.2.2.1, b1.2.2.2, b2⟩, fun q hq => ?_⟩
      obtain ⟨p1, p2, p3⟩ := (NewR.obj (sv := .ls (rngL i (j - i).toNat)) (o := .lst (rgV i j)) hq ⟨_, upd_same, rgV_rng i j⟩).ste (st1.trans st2)
      exact k _ _ _ _ b3 p1 _ p2 p3
    | _ => rw [e, e2] at w4; exact False.elim w4
  | _ => rw [e] at w4; exact False.elim w4
theorem e_tup2 (g : Gx X G d) (hs : X.env.scope = sc) (h1 : ckGl sc ("tuple" : Str) = true) (h2 : ckGl sc ("range" : Str) = true) (n1 : notStarB a = true) (n2 : notStarB b = true) (ha : PE X a (tE X.K B W ca)) (hb : PE X b (tE X.K B W cb)) :
    PE X (.Call (.Name "tuple" p) [.Call (.Name "range" p2) [a, b] [] pos2] [] pos) (tE X.K B W (.tupI (.rng2 ca cb))) := by
  refine pe_imp (pe_tupRg g.calm (gl_of hs h1).1 (g.blt _ (by decide)) (prg_2 (gl_of hs h2).1 (g.blt _ (by decide)) ha hb (star_ok n1) (star_ok n2) (stars_ok (es := [b]) (by simp [noStarsB, n2])))) fun σ H Q ⟨S, Z, Ψ, rl, bo, w, k⟩ => ?_
  refine tE_at rl bo w fun r1 S1 Z1 H1 v1 w1 st1 rv1 fr1 => tE_at st1.rl (bo.ste st1) w1 fun r2 S2 Z2 H2 v2 w2 st2 rv2 fr2 => ?_
  obtain ⟨s1, w3, sl1, m1⟩ := rdS_out w2 st2.rl (rv1.keep st2)
  obtain ⟨s2, w4, sl2, m2⟩ := rdS_out w3 st2.rl rv2
  cases e : s1.d with
  | int i =>
    cases e2 : s2.d with
    | int j =>
      rw [e, e2] at w4
      have w4 : (-(2 ^ 62) ≤ i ∧ i < 2 ^ 62 ∧ -(2 ^ 62) ≤ j ∧ j < 2 ^ 62) ∧ (rngL i (j - i).toNat).length ≤ sizeLine ∧ Ψ (.z (.tuple (rngL i (j - i).toNat))) S2 := w4
      obtain ⟨b1, b2, b3⟩ := w4
      rw [rngL_len, sizeLine_eq] at b2
      refine ⟨i, j, sl1.int e, sl2.int e2, ⟨b1.1, b1.2.1, b1.2.2.1, b1.2.2.2, b2⟩, fun q hq => ?_⟩
      obtain ⟨p1, p2, p3⟩ := (NewR.tup (ds := rngL i (j - i).toNat) (xs := rgV i j) hq (rgV_rng i j)).ste (st1.trans st2)
      exact k _ _ _ _ b3 p1 _ p2 p3
    | _ => rw [e, e2] at w4; exact False.elim w4
  | _ => rw [e] at w4; exact False.elim w4
variable {c : Expr} {cc : CE}
def rgV3 (a c : Int) (n : Nat) : List V := (List.range n).map fun i => V.int (a + (i : Nat) * c)
theorem vals_rg3 {a c : Int} {n : Nat} {acc : Array Value} (h : ItemsOf (fun i v => ∃ t, v = .int (a + i * c) t) acc n) : Vals (rgV3 a c n) acc.toList := by
  have e : acc.toList.length = n := by rw [Array.length_toList]; exact h.1
  unfold rgV3
  rw [← e]
  refine vals_of_get acc.toList _ fun j u hj => ?_
  obtain ⟨t, rfl⟩ := h.2 j u (by rw [← hj, Array.getElem?_toList])
  exact ⟨t, rfl⟩
theorem rgV3_rng {K : PySem.W.Frag} {Z : Hp} (a c : Int) (n : Nat) : RpA K Z (rgV3 a c n) ((List.range n).map fun k : Nat => PyData.int (a + k * c)) := by
  unfold rgV3
  generalize List.range n = l
  induction l with
  | nil => exact .nil
  | cons x t ih => exact .cons (.int _) ih
def tTupRg3 (ta : TA) : TE := fun σ H Q => ta σ H fun vs H1 => ∃ (i j k : Int) (n : Nat), vs = [.int i, .int j, .int k] ∧ RgC i j k n ∧ n ≤ 16777216 ∧ ∀ q, H1 q = none → Q (.ref q) (upd H1 q (.tup (rgV3 i k n)))
theorem pe_tupRg3 {ta : TA} (hc : X.calm = true) (hg : L2.Gl X "tuple") (hm : X.mg "tuple" = none) (hg2 : L2.Gl X "range") (hm2 : X.mg "range" = none) (ha : PA X [a, b, c] ta)
    (hs : starEach [a, b, c] X.env = (false, eval a X.env) :: starEach [b, c] X.env := by rfl) (hpl : (backTo pos2 (starEach [b, c] X.env)).any (·.1) = false := by rfl)
    (na : starEach [Expr.Call (.Name "range" p2) [a, b, c] [] pos2] X.env = (false, eval (Expr.Call (.Name "range" p2) [a, b, c] [] pos2) X.env) :: starEach [] X.env := by rfl) :
    PE X (.Call (.Name "tuple" p) [.Call (.Name "range" p2) [a, b, c] [] pos2] [] pos) (tTupRg3 ta) := by
  refine ⟨fun pins s σ H Q I h => ?_⟩
  have he : wpAny (model X.prog X.w) X.A (eval (Expr.Call (.Name "range" p2) [a, b, c] [] pos2) X.env) (fun x s' => ∃ r i j k n t u v H', x = .ref r ∧ IsRange s'.heap r i j k t u v ∧ L2.Inv X pins σ H' s' ∧ RgC i j k n ∧ n ≤ 16777216 ∧ ∀ q, H' q = none → Q (.ref q) (upd H' q (.tup (rgV3 i k n)))) X.xe s := by
    refine Call_ (ld_blt I hg2 hm2 boot_range (PyProof.Rows.callWith_type1 (thn (ha.run pos2 pins s σ H _ I h) fun us s1 ⟨vs, H1, I1, r1, q1⟩ => ?_) hs hpl))
    obtain ⟨i, j, k, n, e, hr, hn, q⟩ := q1
    obtain ⟨c0, c1, c2, c3⟩ := id hr
    subst e
    cases r1 with
    | cons r rr =>
      cases rr with
      | cons r' rr =>
        cases rr with
        | cons r'' rr =>
          cases rr
          obtain ⟨t, rfl⟩ := r
          obtain ⟨t', rfl⟩ := r'
          obtain ⟨t'', rfl⟩ := r''
          exact call_range_3 c0 ⟨_, i, j, k, n, _, _, _, H1, rfl, IsRange.new _ _ _ _ _ _ _, I1.kept fun b u e => Heap.get?_push_of_some _ e, hr, hn, q⟩ (.inl (PyProof.noPylong_small c1))
  refine Call_ (ld_blt I hg hm boot_tuple (PyProof.Rows.callWith_type1 (args_cons (thn he fun x s1 ⟨r, i, j, k, n, t, u, v, H1, ex, hr, I1, ok, hn, q⟩ => args_nil ?_) na) na))
  subst ex
  obtain ⟨b1, b2, b3, b4⟩ := ok
  refine call_tuple_range (n := n) (I1.ok.hd hc) hr b3 b4 (by omega) fun h' tk acc hk hi => ?_
  have I2 : L2.Inv X pins σ H1 { s1 with heap := h', toks := tk } := I1.kept hk
  refine ⟨.ref h'.objs.size, upd H1 h'.objs.size (.tup (rgV3 i k n)), I2.laid (t' := tk) (fun c o e => Heap.get?_push_of_some _ e) (Nat.le_refl _) (show ObjOk X.prog X.w _ _ _ (.tup (rgV3 i k n)) from ⟨?_, acc.toList, vals_rg3 hi, ?_⟩), rfl, q _ (I2.hok.fresh (Nat.le_refl _))⟩
  · unfold rgV3; rw [List.length_map, List.length_range, sizeLine_eq]; omega
  · rw [Array.toArray_toList]; exact IsTup.new _ _
theorem e_tup3 (g : Gx X G d) (hs : X.env.scope = sc) (h1 : ckGl sc ("tuple" : Str) = true) (h2 : ckGl sc ("range" : Str) = true) (n1 : notStarB a = true) (n2 : notStarB b = true) (n3 : notStarB c = true) (ha : PE X a (tE X.K B W ca)) (hb : PE X b (tE X.K B W cb)) (hc : PE X c (tE X.K B W cc)) :
    PE X (.Call (.Name "tuple" p) [.Call (.Name "range" p2) [a, b, c] [] pos2] [] pos) (tE X.K B W (.tupI (.rng3 ca cb cc))) := by
  refine pe_imp (pe_tupRg3 g.calm (gl_of hs h1).1 (g.blt _ (by decide)) (gl_of hs h2).1 (g.blt _ (by decide)) (pa_cons ha (pa_cons hb (pa_cons hc pa_nil (star_ok n3)) (star_ok n2)) (star_ok n1)) (by rw [star_ok n1, star_ok n2, star_ok n3] <;> rfl) (by rw [star_ok n2, star_ok n3] <;> rfl)) fun σ H Q ⟨S, Z, Ψ, rl, bo, w, k⟩ => ?_
  refine tE_at rl bo w fun r1 S1 Z1 H1 v1 w1 st1 rv1 fr1 => tE_at st1.rl (bo.ste st1) w1 fun r2 S2 Z2 H2 v2 w2 st2 rv2 fr2 => tE_at st2.rl ((bo.ste st1).ste st2) w2 fun r3 S3 Z3 H3 v3 w3 st3 rv3 fr3 => ?_
  obtain ⟨s1, w4, sl1, m1⟩ := rdS_out w3 st3.rl ((rv1.keep st2).keep st3)
  obtain ⟨s2, w5, sl2, m2⟩ := rdS_out w4 st3.rl (rv2.keep st3)
  obtain ⟨s3, w6, sl3, m3⟩ := rdS_out w5 st3.rl rv3
  generalize e1 : s1.d = d1 at w6
  generalize e2 : s2.d = d2 at w6
  generalize e3 : s3.d = d3 at w6
  cases d1 <;> cases d2 <;> cases d3 <;> first | exact False.elim w6 | skip
  obtain ⟨n, hr, b2, w7⟩ := w6
  rw [List.length_map, List.length_range, sizeLine_eq] at b2
  refine ⟨_, _, _, n, by rw [sl1.int e1, sl2.int e2, sl3.int e3], hr, b2, fun q hq => ?_⟩
  obtain ⟨p1, p2, p3⟩ := (NewR.tup hq (rgV3_rng _ _ n)).ste ((st1.trans st2).trans st3)
  exact k _ _ _ _ w7 p1 _ p2 p3
end
end Fw

set_option Elab.async false
set_option linter.all false
set_option maxRecDepth 100000
set_option maxHeartbeats 4000000
/-! Fw, part O: every expression does what its wish says. -/
namespace Fw
open PySem PySem.Spec L2

theorem takesNo {X : Cx} {K : PySem.W.Frag} {B : Bs} {cl : Nat → Option Value} : Takes X (Wx K B cl fun _ _ => False) := fun u s' x => by
  obtain ⟨a, BB, sI, pins, σ, H, cls, dd, e, I, nb, up, sky, na, os, ag, w⟩ := x
  obtain ⟨c, S, Z, _, _, _, hf⟩ := w
  exact hf.elim
theorem Wok.blk {X : Cx} {G : Pg} {d : Nat} {B : Bs} {W : Wv} (o : Wok X G d B W) (s : Shared) (H : Hp) (scope : Scope) (cenv : Env) (fp : List Addr) : Wok (X.blk s H scope cenv fp) G d B0 W.nox where
  gx := ⟨o.gx.nd, o.gx.calm, o.gx.room, o.gx.fns, o.gx.dom, o.gx.gls, o.gx.blt⟩
  cw := o.cw
  gl := o.gl
  tk := takesNo
theorem ands (h : (a && b) = true) : a = true ∧ b = true := by simpa using h
theorem nstar {e : Expr} (h : notStarB e = true) : notStarB e = true := h
theorem ckEs_ns {M : Nm} {N : List Str} {sc : Scope} : ∀ {cs : CEs} {es : List Expr}, ckEs M N sc cs es = true → noStarsB es = true
  | .nil, es, h => by
    unfold ckEs at h
    split at h
    · rfl
    · cases h
  | .cons c cs, es, h => by
    unfold ckEs at h
    split at h
    · obtain ⟨h1, h2⟩ := ands h
      obtain ⟨h0, h1⟩ := ands h1
      show (_ && _) = true
      rw [h0, ckEs_ns h2]; rfl
    · cases h
theorem ckA_ns {M : Nm} {N : List Str} {sc : Scope} : ∀ {cs : CAs} {es : List Expr}, ckA M N sc cs es = true → noStarsB es = true
  | .nil, es, h => by
    unfold ckA at h
    split at h
    · rfl
    · cases h
  | .v c cs, es, h => by
    unfold ckA at h
    split at h
    · obtain ⟨h1, h2⟩ := ands h
      obtain ⟨h0, h1⟩ := ands h1
      show (_ && _) = true
      rw [h0, ckA_ns h2]; rfl
    · cases h
  | .t c cs, es, h => by
    unfold ckA at h
    split at h
    · obtain ⟨h1, h2⟩ := ands h
      obtain ⟨h0, h1⟩ := ands h1
      show (_ && _) = true
      rw [h0, ckA_ns h2]; rfl
    · cases h
  | .s i cs, es, h => by
    unfold ckA at h
    split at h
    · obtain ⟨h1, h2⟩ := ands h
      show (_ && _) = true
      rw [ckA_ns h2]; rfl
    · cases h
theorem cs_nil {M : Nm} {N : List Str} {sc : Scope} {cs : CEs} {es : List Expr} (h : ckEs M N sc cs es = true) (he : es.isEmpty = true) : cs = .nil := by
  cases cs with
  | nil => rfl
  | cons c cs =>
    cases es with
    | nil => unfold ckEs at h; cases h
    | cons e es => cases he
theorem str_cast {x y : Str} (h : decide (x = y) = true) : x = y := by simpa using h
theorem ifs_ok {M : Nm} {X : Cx} {W : Wv} {sc : Scope} {c : CC} {es : List Expr} (pc : ∀ e, ckC M X.N sc c e = true → PT X e (tC X.K B0 W c)) (h : ckIfs M X.N sc c es = true) : PTs X es (tC X.K B0 W c) := by
  unfold ckIfs at h
  split at h
  · cases c <;> first | exact pts_yes | cases h
  · exact pts_one (pc _ h)
  · cases h
def isCmpB : CE → Bool
  | .cmp _ _ _ => true
  | .cmp2 _ _ _ _ _ => true
  | _ => false
def notCmpB : Expr → Bool
  | .Compare _ _ _ _ => false
  | _ => true
theorem ckE_ncmp {M : Nm} {N : List Str} {sc : Scope} {c : CE} {e : Expr} (hc : isCmpB c = false) (h : ckE M N sc c e = true) : notCmpB e = true := by
  cases c <;> first | (cases hc; done) | (unfold ckE at h; split at h <;> first | rfl | (cases h; done)) | (unfold ckE at h; cases h)
theorem plain_isTrue {e : Expr} {env : Env} (hp : plainTestB e = true) (hc : notCmpB e = true) (whole : Sem Value) : isTrue e env whole = (do let v ← whole; standAt e.pos; holding [v] (truthy v)) := by
  cases e with
  | UnaryOp op a p => cases op <;> first | rfl | cases hp
  | _ => first | rfl | (cases hp; done) | (cases hc; done)
section
variable {G : Pg} {d : Nat}
mutual
theorem sE : ∀ (c : CE) (X : Cx) (B : Bs) (W : Wv) (sc : Scope) (e : Expr), Wok X G d B W → X.env.scope = sc → ckE G.M X.N sc c e = true → PE X e (tE X.K B W c)
  | .var i, X, B, W, sc, e, o, hs, h => by
    unfold ckE at h
    split at h
    · exact e_var hs h
    · cases h
  | .int i, X, B, W, sc, e, o, hs, h => by
    unfold ckE at h
    split at h
    · obtain rfl : i = _ := by simpa using h
      exact e_const pe_int (fun Z => .int _) fun S Ψ w => w
    · cases h
  | .bl i, X, B, W, sc, e, o, hs, h => by
    unfold ckE at h
    split at h
    · obtain rfl : i = _ := by simpa using h
      exact e_const pe_bl (fun Z => .bl _) fun S Ψ w => w
    · cases h
  | .non, X, B, W, sc, e, o, hs, h => by
    unfold ckE at h
    split at h
    · exact e_const pe_non (fun Z => .non) fun S Ψ w => w
    · cases h
  | .str x, X, B, W, sc, e, o, hs, h => by
    unfold ckE at h
    split at h
    · obtain rfl : x = _ := by simpa using h
      exact e_const pe_str (fun Z => .str _) fun S Ψ w => w
    · cases h
  | .gl k, X, B, W, sc, e, o, hs, h => by
    unfold ckE at h
    split at h
    · obtain ⟨h1, h2⟩ := ands h
      exact e_gl hs o.gx o.gl (by simpa using h1) h2
    · cases h
  | .tup cs, X, B, W, sc, e, o, hs, h => by
    unfold ckE at h
    split at h
    · exact e_tup (sF cs X B W sc _ o hs h)
    · cases h
  | .lst cs, X, B, W, sc, e, o, hs, h => by
    unfold ckE at h
    split at h
    · exact e_lst (sF cs X B W sc _ o hs h)
    · cases h
  | .dK0, X, B, W, sc, e, o, hs, h => by
    unfold ckE at h
    split at h
    · exact e_dK0
    · cases h
  | .dT0, X, B, W, sc, e, o, hs, h => by
    unfold ckE at h
    split at h
    · exact e_dT0
    · cases h
  | .dik _ _, X, B, W, sc, e, o, hs, h => by
    unfold ckE at h
    cases h
  | .bin op a b, X, B, W, sc, e, o, hs, h => by
    unfold ckE at h
    split at h
    · obtain ⟨h1, h3⟩ := ands h
      obtain ⟨h1, h2⟩ := ands h1
      exact e_bin h1 (sE a X B W sc _ o hs h2) (sE b X B W sc _ o hs h3)
    · cases h
  | .neg a, X, B, W, sc, e, o, hs, h => by
    unfold ckE at h
    split at h
    · exact e_neg (sE a X B W sc _ o hs h)
    · cases h
  | .cmp op a b, X, B, W, sc, e, o, hs, h => by
    unfold ckE at h
    split at h
    · obtain ⟨h1, h4⟩ := ands h
      obtain ⟨h1, h3⟩ := ands h1
      obtain ⟨h1, h2⟩ := ands h1
      exact e_cmp o.gx h1 (by simpa using h2) (sE a X B W sc _ o hs h3) (sE b X B W sc _ o hs h4)
    · cases h
  | .cmp2 o1 o2 a b c, X, B, W, sc, e, o, hs, h => by
    unfold ckE at h
    split at h
    · obtain ⟨h1, h6⟩ := ands h
      obtain ⟨h1, h5⟩ := ands h1
      obtain ⟨h1, h4⟩ := ands h1
      obtain ⟨h1, h3⟩ := ands h1
      obtain ⟨h1, h2⟩ := ands h1
      exact e_cmp2 o.gx h1 h2 (by simpa using h3) (sE a X B W sc _ o hs h4) (sE b X B W sc _ o hs h5) (sE c X B W sc _ o hs h6)
    · cases h
  | .and cs, X, B, W, sc, e, o, hs, h => by
    unfold ckE at h
    split at h
    · exact sAnd cs X B W sc _ _ o hs h
    · cases h
  | .or cs, X, B, W, sc, e, o, hs, h => by
    unfold ckE at h
    split at h
    · exact sOr cs X B W sc _ _ o hs h
    · cases h
  | .not a, X, B, W, sc, e, o, hs, h => by
    unfold ckE at h
    split at h
    · exact e_not (sE a X B W sc _ o hs h)
    · cases h
  | .ife c a b, X, B, W, sc, e, o, hs, h => by
    unfold ckE at h
    split at h
    · obtain ⟨h1, h3⟩ := ands h
      obtain ⟨h1, h2⟩ := ands h1
      exact e_ife (sC c X B W sc _ o hs h1) (sE a X B W sc _ o hs h2) (sE b X B W sc _ o hs h3)
    · cases h
  | .ix a b, X, B, W, sc, e, o, hs, h => by
    unfold ckE at h
    split at h
    · obtain ⟨h1, h3⟩ := ands h
      obtain ⟨h1, h2⟩ := ands h1
      exact e_ix o.gx h1 (sE a X B W sc _ o hs h2) (sE b X B W sc _ o hs h3)
    · cases h
  | .sl a lo hi, X, B, W, sc, e, o, hs, h => by
    unfold ckE at h
    split at h
    · obtain ⟨h1, h3⟩ := ands h
      obtain ⟨h1, h2⟩ := ands h1
      exact e_sl (sE a X B W sc _ o hs h1) (sO lo X B W sc _ o hs h2) (sO hi X B W sc _ o hs h3)
    · cases h
  | .rev a, X, B, W, sc, e, o, hs, h => by
    unfold ckE at h
    split at h
    · exact e_revL (sE a X B W sc _ o hs h)
    · cases h
  | .call k as, X, B, W, sc, e, o, hs, h => by
    unfold ckE at h
    split at h
    · obtain ⟨h1, h4⟩ := ands h
      obtain ⟨h1, h3⟩ := ands h1
      obtain ⟨h1, h2⟩ := ands h1
      exact e_call o hs (by simpa using h1) h2 (ckA_ns h3) (by simpa using h4) (sA as X B W sc _ o hs h3)
    · cases h
  | .bi f cs, X, B, W, sc, e, o, hs, h => by
    unfold ckE at h
    split at h
    · split at h
      · rename_i hset
        split at h
        · obtain ⟨q5, h6⟩ := ands h
          obtain ⟨q4, h5⟩ := ands q5
          obtain ⟨q3, h4⟩ := ands q4
          obtain ⟨q2, h3⟩ := ands q3
          obtain ⟨h1, h2⟩ := ands q2
          have h6 := of_decide_eq_true h6
          have ns := ckEs_ns h5
          have ih := sR cs X B W sc _ o hs h5
          obtain ⟨a, rfl⟩ := List.length_eq_one_iff.mp h6
          have n1 : notStarB a = true := by simpa [noStarsB] using ns
          cases f with
          | lset => exact e_lset o.gx (by simpa using h1) (by simpa using h3) hs h2 h4 n1 ih
          | _ => cases hset
        · cases h
      · obtain ⟨h1, h4⟩ := ands h
        obtain ⟨h1, h3⟩ := ands h1
        obtain ⟨h1, h2⟩ := ands h1
        obtain ⟨h0, h1⟩ := ands h1
        exact e_bi o.gx h0 (by simpa using h1) hs h2 (ckEs_ns h3) (by simpa using h4) (sR cs X B W sc _ o hs h3)
    · cases h
  | .me m a cs, X, B, W, sc, e, o, hs, h => by
    unfold ckE at h
    split at h
    · obtain ⟨h1, h8⟩ := ands h
      obtain ⟨h1, h7⟩ := ands h1
      obtain ⟨h1, h6⟩ := ands h1
      obtain ⟨h1, h5⟩ := ands h1
      obtain ⟨h1, h4⟩ := ands h1
      obtain ⟨h1, h3⟩ := ands h1
      obtain ⟨h1, h2⟩ := ands h1
      obtain ⟨h9, h1⟩ := (⟨h5, h1⟩ : _ ∧ _)
      refine e_me o.gx h9 (by simpa using h1) h2 (by simpa using h3) h4 (ckEs_ns h8) (by simpa using h6) (fun hm => ?_) (sE a X B W sc _ o hs h7) (sF cs X B W sc _ o hs h8)
      subst hm
      exact cs_nil h8 (eq_of_beq h6)
    · cases h
  | .isi t a, X, B, W, sc, e, o, hs, h => by
    unfold ckE at h
    split at h
    · obtain ⟨h1, h7⟩ := ands h
      obtain ⟨h1, h6⟩ := ands h1
      obtain ⟨h1, h5⟩ := ands h1
      obtain ⟨h1, h4⟩ := ands h1
      obtain ⟨h1, h3⟩ := ands h1
      obtain ⟨h1, h2⟩ := ands h1
      have hx := str_cast h1
      subst hx
      exact e_isi o.gx hs h2 (str_cast h3) h4 h5 h6 (sE a X B W sc _ o hs h7)
    · cases h
  | .lstI src, X, B, W, sc, e, o, hs, h => by
    unfold ckE at h
    split at h
    · obtain ⟨h1, h5⟩ := ands h
      obtain ⟨h1, h4⟩ := ands h1
      obtain ⟨h1, h3⟩ := ands h1
      obtain ⟨h1, h2⟩ := ands h1
      have hx := str_cast h1
      subst hx
      cases src with
      | rng1 a =>
        unfold ckI at h5
        split at h5
        · obtain ⟨k1, k4⟩ := ands h5
          obtain ⟨k1, k3⟩ := ands k1
          obtain ⟨k1, k2⟩ := ands k1
          have hx := str_cast k1
          subst hx
          exact e_lst1 o.gx hs h2 k2 k3 (sE a X B W sc _ o hs k4)
        · cases h5
      | rng2 a b =>
        unfold ckI at h5
        split at h5
        · obtain ⟨k1, k6⟩ := ands h5
          obtain ⟨k1, k5⟩ := ands k1
          obtain ⟨k1, k4⟩ := ands k1
          obtain ⟨k1, k3⟩ := ands k1
          obtain ⟨k1, k2⟩ := ands k1
          have hx := str_cast k1
          subst hx
          exact e_lst2 o.gx hs h2 k2 k3 k4 (sE a X B W sc _ o hs k5) (sE b X B W sc _ o hs k6)
        · cases h5
      | _ => cases h4
    · cases h
  | .tupI src, X, B, W, sc, e, o, hs, h => by
    unfold ckE at h
    split at h
    · obtain ⟨h1, h5⟩ := ands h
      obtain ⟨h1, h4⟩ := ands h1
      obtain ⟨h1, h3⟩ := ands h1
      obtain ⟨h1, h2⟩ := ands h1
      have hx := str_cast h1
      subst hx
      cases src with
      | rng1 a =>
        unfold ckI at h5
        split at h5
        · obtain ⟨k1, k4⟩ := ands h5
          obtain ⟨k1, k3⟩ := ands k1
          obtain ⟨k1, k2⟩ := ands k1
          have hx := str_cast k1
          subst hx
          exact e_tup1 o.gx hs h2 k2 k3 (sE a X B W sc _ o hs k4)
        · cases h5
      | rng2 a b =>
        unfold ckI at h5
        split at h5
        · obtain ⟨k1, k6⟩ := ands h5
          obtain ⟨k1, k5⟩ := ands k1
          obtain ⟨k1, k4⟩ := ands k1
          obtain ⟨k1, k3⟩ := ands k1
          obtain ⟨k1, k2⟩ := ands k1
          have hx := str_cast k1
          subst hx
          exact e_tup2 o.gx hs h2 k2 k3 k4 (sE a X B W sc _ o hs k5) (sE b X B W sc _ o hs k6)
        · cases h5
      | rng3 a b c =>
        unfold ckI at h5
        split at h5
        · obtain ⟨k1, k8⟩ := ands h5
          obtain ⟨k1, k7⟩ := ands k1
          obtain ⟨k1, k6⟩ := ands k1
          obtain ⟨k1, k5⟩ := ands k1
          obtain ⟨k1, k4⟩ := ands k1
          obtain ⟨k1, k3⟩ := ands k1
          obtain ⟨k1, k2⟩ := ands k1
          have hx := str_cast k1
          subst hx
          exact e_tup3 o.gx hs h2 k2 k3 k4 k5 (sE a X B W sc _ o hs k6) (sE b X B W sc _ o hs k7) (sE c X B W sc _ o hs k8)
        · cases h5
      | _ => cases h4
    · cases h
  | .comp src tg cond elt own, X, B, W, sc, e, o, hs, h => by
    unfold ckE at h
    split at h
    · obtain ⟨h1, h9⟩ := ands h
      obtain ⟨h1, h8⟩ := ands h1
      obtain ⟨h1, h7⟩ := ands h1
      obtain ⟨h1, h6⟩ := ands h1
      obtain ⟨h1, h5⟩ := ands h1
      obtain ⟨h1, h4⟩ := ands h1
      obtain ⟨h1, h3⟩ := ands h1
      obtain ⟨h1, h2⟩ := ands h1
      refine e_comp o.gx hs h2 (sI src X B W sc _ _ o hs h1 h9) h3 (by simpa using h4) h6 h5 (fun s H C cl fp => ?_) fun s H C cl fp => ?_
      · subst hs
        exact ifs_ok (fun e he => sC cond (X.blk s H _ (compEnvC _ cl C X.env) fp) B0 W.nox _ e (o.blk s H _ _ fp) rfl he) h7
      · subst hs
        exact sE elt (X.blk s H _ (compEnvC _ cl C X.env) fp) B0 W.nox _ _ (o.blk s H _ _ fp) rfl h8
    · cases h
theorem sF : ∀ (cs : CEs) (X : Cx) (B : Bs) (W : Wv) (sc : Scope) (es : List Expr), Wok X G d B W → X.env.scope = sc → ckEs G.M X.N sc cs es = true → PA X es (tF X.K B W cs)
  | .nil, X, B, W, sc, es, o, hs, h => by
    unfold ckEs at h
    split at h
    · exact f_nil
    · cases h
  | .cons c cs, X, B, W, sc, es, o, hs, h => by
    unfold ckEs at h
    split at h
    · obtain ⟨h1, h3⟩ := ands h
      obtain ⟨h1, h2⟩ := ands h1
      exact f_cons h1 (sE c X B W sc _ o hs h2) (sF cs X B W sc _ o hs h3)
    · cases h
theorem sR : ∀ (cs : CEs) (X : Cx) (B : Bs) (W : Wv) (sc : Scope) (es : List Expr), Wok X G d B W → X.env.scope = sc → ckEs G.M X.N sc cs es = true → PA X es (tR X.K B W cs)
  | .nil, X, B, W, sc, es, o, hs, h => by
    unfold ckEs at h
    split at h
    · exact r_nil
    · cases h
  | .cons c cs, X, B, W, sc, es, o, hs, h => by
    unfold ckEs at h
    split at h
    · obtain ⟨h1, h3⟩ := ands h
      obtain ⟨h1, h2⟩ := ands h1
      exact r_cons h1 (sE c X B W sc _ o hs h2) (sR cs X B W sc _ o hs h3)
    · cases h
theorem sAnd : ∀ (cs : CEs) (X : Cx) (B : Bs) (W : Wv) (sc : Scope) (es : List Expr) (pos : Pos), Wok X G d B W → X.env.scope = sc → ckEs G.M X.N sc cs es = true → PE X (.BoolOp .And es pos) (tE X.K B W (.and cs))
  | .nil, X, B, W, sc, es, pos, o, hs, h => ⟨fun pins s σ H Q I ⟨S, Z, Ψ, rl, bo, w, k⟩ => w.elim⟩
  | .cons c .nil, X, B, W, sc, es, pos, o, hs, h => by
    unfold ckEs at h
    split at h
    · obtain ⟨h1, h3⟩ := ands h
      obtain ⟨h1, h2⟩ := ands h1
      unfold ckEs at h3
      split at h3
      · exact and_one (sE c X B W sc _ o hs h2)
      · cases h3
    · cases h
  | .cons c (.cons c' cs), X, B, W, sc, es, pos, o, hs, h => by
    unfold ckEs at h
    split at h
    · obtain ⟨h1, h3⟩ := ands h
      obtain ⟨h1, h2⟩ := ands h1
      have h3' := h3
      unfold ckEs at h3
      split at h3
      · exact and_cons (sE c X B W sc _ o hs h2) (sAnd (.cons c' cs) X B W sc _ pos o hs h3')
      · cases h3
    · cases h
theorem sOr : ∀ (cs : CEs) (X : Cx) (B : Bs) (W : Wv) (sc : Scope) (es : List Expr) (pos : Pos), Wok X G d B W → X.env.scope = sc → ckEs G.M X.N sc cs es = true → PE X (.BoolOp .Or es pos) (tE X.K B W (.or cs))
  | .nil, X, B, W, sc, es, pos, o, hs, h => ⟨fun pins s σ H Q I ⟨S, Z, Ψ, rl, bo, w, k⟩ => w.elim⟩
  | .cons c .nil, X, B, W, sc, es, pos, o, hs, h => by
    unfold ckEs at h
    split at h
    · obtain ⟨h1, h3⟩ := ands h
      obtain ⟨h1, h2⟩ := ands h1
      unfold ckEs at h3
      split at h3
      · exact or_one (sE c X B W sc _ o hs h2)
      · cases h3
    · cases h
  | .cons c (.cons c' cs), X, B, W, sc, es, pos, o, hs, h => by
    unfold ckEs at h
    split at h
    · obtain ⟨h1, h3⟩ := ands h
      obtain ⟨h1, h2⟩ := ands h1
      have h3' := h3
      unfold ckEs at h3
      split at h3
      · exact or_cons (sE c X B W sc _ o hs h2) (sOr (.cons c' cs) X B W sc _ pos o hs h3')
      · cases h3
    · cases h
theorem sO : ∀ (c : CO) (X : Cx) (B : Bs) (W : Wv) (sc : Scope) (e : Option Expr), Wok X G d B W → X.env.scope = sc → ckO G.M X.N sc c e = true → PO X e (tO X.K B W c)
  | .none, X, B, W, sc, e, o, hs, h => by
    unfold ckO at h
    split at h
    · exact o_none rfl
    · cases h
  | .some c, X, B, W, sc, e, o, hs, h => by
    unfold ckO at h
    split at h
    · exact o_some (sE c X B W sc _ o hs h)
    · cases h
theorem sA : ∀ (cs : CAs) (X : Cx) (B : Bs) (W : Wv) (sc : Scope) (es : List Expr), Wok X G d B W → X.env.scope = sc → ckA G.M X.N sc cs es = true → PA X es (tA X.K B W cs)
  | .nil, X, B, W, sc, es, o, hs, h => by
    unfold ckA at h
    split at h
    · exact a_nil
    · cases h
  | .v c cs, X, B, W, sc, es, o, hs, h => by
    unfold ckA at h
    split at h
    · obtain ⟨h1, h3⟩ := ands h
      obtain ⟨h1, h2⟩ := ands h1
      exact a_v h1 (sE c X B W sc _ o hs h2) (sA cs X B W sc _ o hs h3)
    · cases h
  | .t c cs, X, B, W, sc, es, o, hs, h => by
    unfold ckA at h
    split at h
    · obtain ⟨h1, h3⟩ := ands h
      obtain ⟨h1, h2⟩ := ands h1
      exact a_t h1 (sE c X B W sc _ o hs h2) (sA cs X B W sc _ o hs h3)
    · cases h
  | .s i cs, X, B, W, sc, es, o, hs, h => by
    unfold ckA at h
    split at h
    · obtain ⟨h1, h2⟩ := ands h
      exact a_s hs h1 (sA cs X B W sc _ o hs h2)
    · cases h
theorem sI : ∀ (c : CI) (X : Cx) (B : Bs) (W : Wv) (sc : Scope) (tg e : Expr), Wok X G d B W → X.env.scope = sc → ckI G.M X.N sc c e = true → tgtShapeB c tg = true → PI X tg e (tI X.K B W c)
  | .it c, X, B, W, sc, tg, e, o, hs, h, ht => by
    unfold ckI at h
    exact i_it (sE c X B W sc _ o hs h)
  | .rng1 a, X, B, W, sc, tg, e, o, hs, h, ht => by
    unfold ckI at h
    split at h
    · obtain ⟨h1, h4⟩ := ands h
      obtain ⟨h1, h3⟩ := ands h1
      obtain ⟨h1, h2⟩ := ands h1
      have hx := str_cast h1
      subst hx
      exact i_rng1 o.gx hs h2 h3 (sE a X B W sc _ o hs h4)
    · cases h
  | .rng2 a b, X, B, W, sc, tg, e, o, hs, h, ht => by
    unfold ckI at h
    split at h
    · obtain ⟨h1, h6⟩ := ands h
      obtain ⟨h1, h5⟩ := ands h1
      obtain ⟨h1, h4⟩ := ands h1
      obtain ⟨h1, h3⟩ := ands h1
      obtain ⟨h1, h2⟩ := ands h1
      have hx := str_cast h1
      subst hx
      exact i_rng2 o.gx hs h2 h3 h4 (sE a X B W sc _ o hs h5) (sE b X B W sc _ o hs h6)
    · cases h
  | .rng3 a b c, X, B, W, sc, tg, e, o, hs, h, ht => by
    unfold ckI at h
    split at h
    · obtain ⟨h1, h8⟩ := ands h
      obtain ⟨h1, h7⟩ := ands h1
      obtain ⟨h1, h6⟩ := ands h1
      obtain ⟨h1, h5⟩ := ands h1
      obtain ⟨h1, h4⟩ := ands h1
      obtain ⟨h1, h3⟩ := ands h1
      obtain ⟨h1, h2⟩ := ands h1
      have hx := str_cast h1
      subst hx
      exact i_rng3 o.gx hs h2 h3 h4 h5 (sE a X B W sc _ o hs h6) (sE b X B W sc _ o hs h7) (sE c X B W sc _ o hs h8)
    · cases h
  | .enum a, X, B, W, sc, tg, e, o, hs, h, ht => by
    unfold ckI at h
    split at h
    · obtain ⟨h1, h4⟩ := ands h
      obtain ⟨h1, h3⟩ := ands h1
      obtain ⟨h1, h2⟩ := ands h1
      have hx := str_cast h1
      subst hx
      unfold tgtShapeB at ht
      split at ht <;> first | cases ht; done | skip
      all_goals first | exact i_enum o.gx hs h2 h3 (sE a X B W sc _ o hs h4) | (rename_i q; cases q)
    · cases h
  | .zip a b, X, B, W, sc, tg, e, o, hs, h, ht => by
    unfold ckI at h
    split at h
    · obtain ⟨h1, h6⟩ := ands h
      obtain ⟨h1, h5⟩ := ands h1
      obtain ⟨h1, h4⟩ := ands h1
      obtain ⟨h1, h3⟩ := ands h1
      obtain ⟨h1, h2⟩ := ands h1
      have hx := str_cast h1
      subst hx
      unfold tgtShapeB at ht
      split at ht <;> first | cases ht; done | skip
      all_goals first | exact i_zip o.gx hs h2 h3 h4 (sE a X B W sc _ o hs h5) (sE b X B W sc _ o hs h6) | (rename_i q; cases q)
    · cases h
theorem sC : ∀ (c : CC) (X : Cx) (B : Bs) (W : Wv) (sc : Scope) (e : Expr), Wok X G d B W → X.env.scope = sc → ckC G.M X.N sc c e = true → PT X e (tC X.K B W c)
  | .e c, X, B, W, sc, e, o, hs, h => by
    unfold ckC at h
    obtain ⟨hp, h⟩ := ands h
    by_cases hc : isCmpB c = true
    · cases c with
      | cmp op a b =>
        unfold ckE at h
        split at h
        · obtain ⟨h1, h4⟩ := ands h
          obtain ⟨h1, h3⟩ := ands h1
          obtain ⟨h1, h2⟩ := ands h1
          exact c_cmp o.gx h1 (by simpa using h2) (sE a X B W sc _ o hs h3) (sE b X B W sc _ o hs h4)
        · cases h
      | cmp2 o1 o2 a b c =>
        unfold ckE at h
        split at h
        · obtain ⟨h1, h6⟩ := ands h
          obtain ⟨h1, h5⟩ := ands h1
          obtain ⟨h1, h4⟩ := ands h1
          obtain ⟨h1, h3⟩ := ands h1
          obtain ⟨h1, h2⟩ := ands h1
          exact c_cmp2 o.gx h1 h2 (by simpa using h3) (sE a X B W sc _ o hs h4) (sE b X B W sc _ o hs h5) (sE c X B W sc _ o hs h6)
        · cases h
      | _ => cases hc
    · exact c_plain (plain_isTrue hp (ckE_ncmp (by simpa using hc) h)) (sE c X B W sc e o hs h)
  | .not c, X, B, W, sc, e, o, hs, h => by
    unfold ckC at h
    split at h
    · exact c_not (sC c X B W sc _ o hs h)
    · cases h
  | .and cs, X, B, W, sc, e, o, hs, h => by
    unfold ckC at h
    split at h
    · exact (sCA cs X B W sc _ _ o hs h).pt
    · cases h
  | .or cs, X, B, W, sc, e, o, hs, h => by
    unfold ckC at h
    split at h
    · exact (sCO cs X B W sc _ _ o hs h).pt
    · cases h
  | .yes, X, B, W, sc, e, o, hs, h => by
    unfold ckC at h
    cases h
theorem sCA : ∀ (cs : CCs) (X : Cx) (B : Bs) (W : Wv) (sc : Scope) (es : List Expr) (pos : Pos), Wok X G d B W → X.env.scope = sc → ckCs G.M X.N sc cs es = true → PW X (.BoolOp .And es pos) (tC X.K B W (.and cs))
  | .nil, X, B, W, sc, es, pos, o, hs, h => ⟨fun wh pins s σ H Q I ⟨S, Z, Ψ, rl, bo, w, k⟩ => w.elim⟩
  | .cons c .nil, X, B, W, sc, es, pos, o, hs, h => by
    unfold ckCs at h
    split at h
    · obtain ⟨h1, h3⟩ := ands h
      unfold ckCs at h3
      split at h3
      · exact ca_one (sC c X B W sc _ o hs h1)
      · cases h3
    · cases h
  | .cons c (.cons c' cs), X, B, W, sc, es, pos, o, hs, h => by
    unfold ckCs at h
    split at h
    · obtain ⟨h1, h3⟩ := ands h
      have h3' := h3
      unfold ckCs at h3
      split at h3
      · exact ca_cons (sC c X B W sc _ o hs h1) (sCA (.cons c' cs) X B W sc _ pos o hs h3')
      · cases h3
    · cases h
theorem sCO : ∀ (cs : CCs) (X : Cx) (B : Bs) (W : Wv) (sc : Scope) (es : List Expr) (pos : Pos), Wok X G d B W → X.env.scope = sc → ckCs G.M X.N sc cs es = true → PW X (.BoolOp .Or es pos) (tC X.K B W (.or cs))
  | .nil, X, B, W, sc, es, pos, o, hs, h => ⟨fun wh pins s σ H Q I ⟨S, Z, Ψ, rl, bo, w, k⟩ => w.elim⟩
  | .cons c .nil, X, B, W, sc, es, pos, o, hs, h => by
    unfold ckCs at h
    split at h
    · obtain ⟨h1, h3⟩ := ands h
      unfold ckCs at h3
      split at h3
      · exact co_one (sC c X B W sc _ o hs h1)
      · cases h3
    · cases h
  | .cons c (.cons c' cs), X, B, W, sc, es, pos, o, hs, h => by
    unfold ckCs at h
    split at h
    · obtain ⟨h1, h3⟩ := ands h
      have h3' := h3
      unfold ckCs at h3
      split at h3
      · exact co_cons (sC c X B W sc _ o hs h1) (sCO (.cons c' cs) X B W sc _ pos o hs h3')
      · cases h3
    · cases h
end
end
end Fw

set_option Elab.async false
set_option linter.all false
set_option maxRecDepth 100000
set_option maxHeartbeats 4000000
/-! Fw, part P: statements. -/
namespace Fw
open PySem PySem.Spec L2

def isTupB : Expr → Bool
  | .Tuple _ _ _ => true
  | _ => false
def notCompB : Expr → Bool
  | .ListComp _ _ _ _ => false
  | .SetComp _ _ _ _ => false
  | .DictComp _ _ _ _ _ => false
  | _ => true
def tupLenB : Expr → Nat → Bool
  | .Tuple es _ _, n => decide (n ≤ es.length)
  | _, _ => true
/-- a plain local name at slot i -/
def ckN (N : List Str) (fx : List Nat) (sc : Scope) (i : Nat) (x : Str) : Bool := decide (N[i]? = some x) && islocB sc x && !fx.contains i
/-- a name that is not fast stands among the targets -/
def cellTB (sc : Scope) : Expr → Bool
  | .Tuple ts _ _ => ts.any (fun e => match e with | .Name x _ => !islocB sc x | _ => true)
  | _ => false
mutual
def ckS (M : Nm) (N : List Str) (fx : List Nat) (sc : Scope) : CS → Stmt → Bool
  | .set i e, st => match st with
    | .Assign [.Name x _] v _ => decide (N[i]? = some x) && locB sc x && !fx.contains i && ckE M N sc e v
    | _ => false
  | .setT t e, st => match st with
    | .Assign [tg] v _ => isTupB tg && (tupLenB tg 4 || !isTupB v || cellTB sc tg) && ckT N fx sc t tg && ckE M N sc e v
    | .AnnAssign _ _ _ _ _ => false
    | _ => false
  | .par is es, st => match is, st with
    | [i, j], .Assign [.Tuple [.Name x px, .Name y py] _ _] (.Tuple [a, b] _ _) _ => ckN N fx sc i x && ckN N fx sc j y && decide (i ≠ j) && decide (x ≠ y) && (py.line == px.line) && ckEs M N sc es [a, b] && !([a, b].all (foldedForSure 8)) && !([a, b].all (constantsAlone 8))
    | [i, j, l], .Assign [.Tuple [.Name x px, .Name y py, .Name z pz] _ _] (.Tuple [a, b, c] _ _) _ => ckN N fx sc i x && ckN N fx sc j y && ckN N fx sc l z && decide (i ≠ j) && decide (i ≠ l) && decide (j ≠ l) && decide (x ≠ y) && decide (x ≠ z) && decide (y ≠ z) &&
        (py.line == px.line) && (pz.line == px.line) && ckEs M N sc es [a, b, c] && !([a, b, c].all (foldedForSure 8)) && !([a, b, c].all (constantsAlone 8))
    | _, _ => false
  | .ixs o k e, st => match st with
    | .Assign [.Subscript oe ke _] v _ => notSliceB ke && ckE M N sc o oe && ckE M N sc k ke && ckE M N sc e v
    | _ => false
  | .ex e, st => match st with
    | .Expr v _ => notCompB v && ckE M N sc e v
    | _ => false
  | .ret e, st => match st with
    | .Return (some v) _ => ckE M N sc e v
    | _ => false
  | .retN, st => match st with
    | .Return none _ => true
    | _ => false
  | .iff c a b, st => match st with
    | .If t x y _ => ckC M N sc c t && ckB M N fx sc a x && ckB M N fx sc b y
    | _ => false
  | .for_ src tg body _, st => match st with
    | .For tge it bd [] _ => notSetB it && ckI M N sc src it && ckT N fx sc tg tge && tgtShapeB src tge && ckB M N fx sc body bd
    | _ => false
  | .whl c body _, st => match st with
    | .While t bd [] _ => ckC M N sc c t && ckB M N fx sc body bd
    | _ => false
  | .brk, st => match st with
    | .Break _ => true
    | _ => false
  | .pass, st => match st with
    | .Pass _ => true
    | _ => false
  | .raise _, _ => false
  | .dead, _ => true
def ckB (M : Nm) (N : List Str) (fx : List Nat) (sc : Scope) : CB → List Stmt → Bool
  | .nil, ss => match ss with
    | [] => true
    | _ => false
  | .cons s b, ss => match ss with
    | st :: ss => ckS M N fx sc s st && ckB M N fx sc b ss
    | _ => false
end

/-! ### readings -/
structure EnOk (K : PySem.W.Frag) (B : Bs) (Z : Hp) (E : En) (D : Ends) : Prop where
  nx : ∀ S' Z' σ' H', E.nx S' → Rl K Z' S' σ' H' → BaseOk B Z' S' σ' H' → Sub Z Z' → D.nx σ' H'
  bk : ∀ S' Z' σ' H', E.bk S' → Rl K Z' S' σ' H' → BaseOk B Z' S' σ' H' → Sub Z Z' → D.bk σ' H'
  rt : ∀ r S' Z' σ' H' v, E.rt r S' → Rl K Z' S' σ' H' → BaseOk B Z' S' σ' H' → RvR K Z' H' S' σ' r v → Fr0 B.H r v → D.rt v H'
def tSt (K : PySem.W.Frag) (B : Bs) (w : SS → En → Prop) : TS := fun D σ H => ∃ S Z E, Rl K Z S σ H ∧ BaseOk B Z S σ H ∧ w S E ∧ EnOk K B Z E D
theorem EnOk.mono {K : PySem.W.Frag} {B : Bs} {Z Z' : Hp} {E : En} {D : Ends} (h : EnOk K B Z E D) (e : Sub Z Z') : EnOk K B Z' E D :=
  ⟨fun S Z1 σ H a b c d => h.nx S Z1 σ H a b c (e.trans d), fun S Z1 σ H a b c d => h.bk S Z1 σ H a b c (e.trans d), h.rt⟩
/-- slots that may not change -/
abbrev FxOk (B : Bs) (fx : List Nat) : Prop := ∀ i, B.fx i → fx.contains i = true
theorem BaseOk.bd {B : Bs} {fx : List Nat} {Z H : Hp} {S S' : SS} {σ σ' : L2.St} {ts : List Nat} (b : BaseOk B Z S σ H) (x : BdR ts S σ S' σ') (hf : FxOk B fx) (ht : ∀ i ∈ ts, fx.contains i = false) : BaseOk B Z S' σ' H :=
  ⟨b.ex, fun a h => b.ow a (x.own h).1, fun i hi => by
    rw [(x.same i fun z => by have := ht i z; rw [hf i hi] at this; cases this).2]; exact b.fx i hi⟩
mutual
theorem ckT_fx {N : List Str} {fx : List Nat} {sc : Scope} : ∀ (t : CT) (e : Expr), ckT N fx sc t e = true → ∀ i ∈ ixT t, fx.contains i = false
  | .v i, e, h, j, hj => by
    unfold ckT at h
    split at h
    · obtain ⟨h1, h2⟩ := ands h
      have hj : j = i := by simpa [ixT] using hj
      subst hj
      simpa using h2
    · cases h
  | .t ts, e, h, j, hj => by
    unfold ckT at h
    split at h
    · exact ckTs_fx ts _ h j hj
    · cases h
theorem ckTs_fx {N : List Str} {fx : List Nat} {sc : Scope} : ∀ (ts : List CT) (es : List Expr), ckTs N fx sc ts es = true → ∀ i ∈ ixTs ts, fx.contains i = false
  | [], es, h, j, hj => by simp [ixTs] at hj
  | t :: ts, es, h, j, hj => by
    unfold ckTs at h
    split at h
    · obtain ⟨h1, h3⟩ := ands h
      obtain ⟨h1, h2⟩ := ands h1
      have hj : j ∈ ixT t ∨ j ∈ ixTs ts := by simpa [ixTs] using hj
      rcases hj with hj | hj
      · exact ckT_fx t _ h2 j hj
      · exact ckTs_fx ts _ h3 j hj
    · cases h
end
theorem Rl.kill {K : PySem.W.Frag} {Z H : Hp} {S : SS} {σ : L2.St} (rl : Rl K Z S σ H) (ks : List Nat) : Rl K Z (killS S ks) σ H := by
  have g : ∀ (j : Nat) (sv : SV), (killS S ks)[j]? = some (some sv) → S[j]? = some (some sv) := fun j sv e => by
    by_cases hj : j ∈ ks
    · exact absurd e ((killS_get ks S j).2 hj sv)
    · rw [← (killS_get ks S j).1 hj]; exact e
  exact ⟨rl.sub, by rw [killS_len]; exact rl.len, fun j sv e => rl.at' j sv (g j sv e), fun i j si sj a e1 o1 e2 o2 => rl.sep i j si sj a (g i si e1) o1 (g j sj e2) o2⟩
theorem BaseOk.kill {B : Bs} {Z H : Hp} {S : SS} {σ : L2.St} (b : BaseOk B Z S σ H) (ks : List Nat) : BaseOk B Z (killS S ks) σ H := by
  refine ⟨b.ex, fun a ⟨i, sv, e, o, k⟩ => b.ow a ⟨i, sv, ?_, o, k⟩, b.fx⟩
  by_cases hj : i ∈ ks
  · exact absurd e ((killS_get ks S i).2 hj sv)
  · rw [← (killS_get ks S i).1 hj]; exact e
/-- a new thing goes to a slot -/
theorem Rl.setNew {K : PySem.W.Frag} {Z H : Hp} {S : SS} {σ : L2.St} (rl : Rl K Z S σ H) {i : Nat} {a : Addr} {sv : SV} (hz : Z a = none) (ow : OwnAt K Z H a sv) (no : ¬ OwnA S σ a) : Rl K Z (S.set i (some sv)) (σ.set i (some (.ref a))) H where
  sub := rl.sub
  len := by rw [List.length_set, List.length_set]; exact rl.len
  at' := fun j x e => by
    by_cases hj : j = i
    · subst hj
      have hl : j < S.length := by have := (List.getElem?_eq_some_iff.mp e).1; rw [List.length_set] at this; exact this
      rw [List.getElem?_set_self hl] at e
      cases e
      exact ⟨_, List.getElem?_set_self (by rw [← rl.len]; exact hl), SlR.mk hz ow⟩
    · rw [List.getElem?_set_ne (Ne.symm hj)] at e
      obtain ⟨v, h1, h2⟩ := rl.at' j x e
      exact ⟨v, by rw [List.getElem?_set_ne (Ne.symm hj)]; exact h1, h2⟩
  sep := fun j l x y b e1 o1 e2 o2 k1 k2 => by
    by_cases hj : j = i
    · by_cases hl : l = i
      · rw [hj, hl]
      · subst hj
        rw [List.getElem?_set_ne (Ne.symm hl)] at e2 k2
        have hlt : j < σ.length := by have := (List.getElem?_eq_some_iff.mp k1).1; rw [List.length_set] at this; exact this
        rw [List.getElem?_set_self hlt] at k1
        cases k1
        exact absurd ⟨l, y, e2, o2, k2⟩ no
    · rw [List.getElem?_set_ne (Ne.symm hj)] at e1 k1
      by_cases hl : l = i
      · subst hl
        have hlt : l < σ.length := by have := (List.getElem?_eq_some_iff.mp k2).1; rw [List.length_set] at this; exact this
        rw [List.getElem?_set_self hlt] at k2
        cases k2
        exact absurd ⟨j, x, e1, o1, k1⟩ no
      · rw [List.getElem?_set_ne (Ne.symm hl)] at e2 k2
        exact rl.sep j l x y b e1 o1 e2 o2 k1 k2
theorem OwnA.setNew {S : SS} {σ : L2.St} {i : Nat} {a b : Addr} {sv : SV} (h : OwnA (S.set i (some sv)) (σ.set i (some (.ref a))) b) : b = a ∨ OwnA S σ b := by
  obtain ⟨j, x, e, o, k⟩ := h
  by_cases hj : j = i
  · subst hj
    have hlt : j < σ.length := by have := (List.getElem?_eq_some_iff.mp k).1; rw [List.length_set] at this; exact this
    rw [List.getElem?_set_self hlt] at k
    cases k
    exact .inl rfl
  · rw [List.getElem?_set_ne (Ne.symm hj)] at e k
    exact .inr ⟨j, x, e, o, k⟩
theorem BaseOk.fr {B : Bs} {Z H : Hp} {S : SS} {σ : L2.St} (b : BaseOk B Z S σ H) {r : RV} {v : V} (f : Fr0 H r v) : Fr0 B.H r v := f.from fun a h => b.ex.none h
theorem BaseOk.setNew {B : Bs} {fx : List Nat} {Z H : Hp} {S : SS} {σ : L2.St} (b : BaseOk B Z S σ H) (hf : FxOk B fx) {i : Nat} (hi : fx.contains i = false) {a : Addr} {sv : SV} (hn : B.H a = none) : BaseOk B Z (S.set i (some sv)) (σ.set i (some (.ref a))) H :=
  ⟨b.ex, fun c h => by
    rcases h.setNew with rfl | h
    · exact .inr hn
    · exact b.ow c h, fun j hj => by
    have : j ≠ i := fun z => by subst z; rw [hf j hj] at hi; cases hi
    rw [List.getElem?_set_ne (Ne.symm this)]; exact b.fx j hj⟩
section
variable {X : Cx} {G : Pg} {d : Nat} {B : Bs} {W : Wv} {sc : Scope} {fx : List Nat}
/-- one value into one slot -/
theorem set_out {S S0 : SS} {σ : L2.St} {Z H Z0 H0 : Hp} {i : Nat} {r : RV} {v : V} {E : En} {D : Ends} (hf : FxOk B fx) (hi : fx.contains i = false) (st : Ste X.K S0 σ Z0 H0 S Z H) (bo : BaseOk B Z0 S0 σ H0) (en : EnOk X.K B Z0 E D) (rv : RvR X.K Z H S σ r v) (fr : Fr0 H0 r v) (w : setW i r S E.nx) : D.nx (σ.set i (some v)) H := by
  have viaD : ∀ {dd : PyData} {S1 : SS} {Z1 : Hp}, Ste X.K S0 σ Z0 H0 S1 Z1 H → Rp X.K Z1 v dd → E.nx (S1.set i (some (.val dd))) → D.nx (σ.set i (some v)) H := fun {dd S1 Z1} st1 rp h => by
    obtain ⟨a, b⟩ := st1.rl.setBoth (i := i) rp
    exact en.nx _ _ _ _ h a ((bo.ste st1).bd b hf fun j hj => (by
      have : j = i := by simpa using hj
      rw [this]; exact hi)) st1.ex.zz
  cases r with
  | z dd => exact viaD st rv w
  | f sv =>
    obtain ⟨a, rfl, h1, h2, h3⟩ := rv
    exact en.nx _ _ _ _ w (st.rl.setNew h1 h2 h3) ((bo.ste st).setNew hf hi (bo.fr fr a rfl)) st.ex.zz
  | b j =>
    have w : fzS S (.b j) (fun dd S1 => E.nx (S1.set i (some (.val dd)))) := w
    obtain ⟨dd, S1, Z1, w1, st1, rp⟩ := fzS_out w st rv fr
    exact viaD st1 rp w1
theorem s_expr {c : CE} {e : Expr} {pos : Pos} (hn : notCompB e = true) (he : PE X e (tE X.K B W c)) : PS X (.Expr e pos) (tSt X.K B (wpS W (.ex c))) := by
  refine ps_imp (ps_expr he (by cases e <;> first | rfl | cases hn)) fun D σ H ⟨S, Z, E, rl, bo, w, en⟩ => ?_
  exact tE_at rl bo w fun r1 S1 Z1 H1 v1 w1 st1 rv1 fr1 => en.nx _ _ _ _ w1 st1.rl (bo.ste st1) st1.ex.zz
theorem s_ret {c : CE} {e : Expr} {pos : Pos} (he : PE X e (tE X.K B W c)) : PS X (.Return (some e) pos) (tSt X.K B (wpS W (.ret c))) := by
  refine ps_imp (ps_ret he) fun D σ H ⟨S, Z, E, rl, bo, w, en⟩ => ?_
  exact tE_at rl bo w fun r1 S1 Z1 H1 v1 w1 st1 rv1 fr1 => en.rt _ _ _ _ _ _ w1 st1.rl (bo.ste st1) rv1 (bo.fr fr1)
theorem s_retN {pos : Pos} : PS X (.Return none pos) (tSt X.K B (wpS W .retN)) :=
  ps_imp ps_retN fun D σ H ⟨S, Z, E, rl, bo, w, en⟩ => en.rt _ _ _ _ _ _ w rl bo .non trivial
theorem s_set {i : Nat} {x : Str} {p pos : Pos} {e : Expr} {c : CE} (g : Gx X G d) (hfn : ∀ x, X.fn x = true) (hf : FxOk B fx) (hi : fx.contains i = false) (hN : X.N[i]? = some x) (hx : L2.Loc X.env.scope x) (hs : swapsWith e (some (.Name x p)) pos.line X.env = pure false) (he : PE X e (tE X.K B W c)) :
    PS X (.Assign [.Name x p] e pos) (tSt X.K B (wpS W (.set i c))) := by
  refine ps_imp (ps_set g.nd hN hx he hs (.inl (hfn x))) fun D σ H ⟨S, Z, E, rl, bo, w, en⟩ => ?_
  exact tE_at rl bo w fun r1 S1 Z1 H1 v1 w1 st1 rv1 fr1 => set_out hf hi st1 bo en rv1 fr1 w1
theorem s_setT {t : CT} {tg e : Expr} {pos : Pos} {c : CE} (hf : FxOk B fx) (ht : ∀ i ∈ ixT t, fx.contains i = false) (hg : PG X tg (tgT X.K t)) (hs : swapsWithSole [tg] e pos.line X.env = pure false) (hw : swappedStores [tg] e X.env = pure none) (h1 : (assignEach [tg] X.env).map (·.2) = [assign tg X.env]) (he : PE X e (tE X.K B W c)) :
    PS X (.Assign [tg] e pos) (tSt X.K B (wpS W (.setT t c))) := by
  refine ps_imp (ps_asg he hg hs hw h1) fun D σ H ⟨S, Z, E, rl, bo, w, en⟩ => ?_
  refine tE_at rl bo w fun r1 S1 Z1 H1 v1 w1 st1 rv1 fr1 => ?_
  obtain ⟨dd, S1', Z1', w2, st1', rp⟩ := fzS_out w1 st1 rv1 fr1
  exact bind_out t w2 st1'.rl rp fun S' σ' h1 h2 h3 => en.nx _ _ _ _ h1 h2 ((bo.ste st1').bd h3 hf ht) st1'.ex.zz
theorem s_if {c : CC} {a b : CB} {t : Expr} {x y : List Stmt} {pos : Pos} (hc : PT X t (tC X.K B W c)) (ha : PSs X x (tSt X.K B (wpB W a))) (hb : PSs X y (tSt X.K B (wpB W b))) : PS X (.If t x y pos) (tSt X.K B (wpS W (.iff c a b))) := by
  refine ps_imp (ps_if hc ha hb) fun D σ H ⟨S, Z, E, rl, bo, w, en⟩ => ?_
  refine tC_at rl bo w fun k S1 Z1 H1 w1 st1 => ?_
  cases k with
  | true => exact iteT ⟨S1, Z1, E, st1.rl, bo.ste st1, w1.1 rfl, en.mono st1.ex.zz⟩
  | false => exact iteF ⟨S1, Z1, E, st1.rl, bo.ste st1, w1.2 rfl, en.mono st1.ex.zz⟩
theorem s_while {c : CC} {body : CB} {kill : List Nat} {t : Expr} {bd : List Stmt} {pos : Pos} (hp : PassesOwn (model X.prog X.w) X.A X.env X.xe) (hc : PT X t (tC X.K B W c)) (hb : PSs X bd (tSt X.K B (wpB W body))) : PS X (.While t bd [] pos) (tSt X.K B (wpS W (.whl c body kill))) := by
  refine ps_imp (ps_while hp hc hb) fun D σ H ⟨S, Z, E, rl, bo, w, en⟩ => ?_
  obtain ⟨n, w⟩ := w
  refine ⟨fun m σ' H' => ∃ S' Z', Rl X.K Z' S' σ' H' ∧ BaseOk B Z' S' σ' H' ∧ Sub Z Z' ∧ whlW kill (wpC W c) (wpB W body) m S' E, ⟨n, S, Z, rl, bo, .refl _, w⟩, ?_⟩
  rintro m σ1 H1 ⟨S1, Z1, rl1, bo1, z1, w1⟩
  cases m with
  | zero => exact w1.elim
  | succ m =>
    refine tC_at rl1 bo1 w1 fun k S2 Z2 H2 w2 st2 => ?_
    cases k with
    | true =>
      refine iteT ⟨fun σ' H' => ∃ S' Z', Rl X.K Z' S' σ' H' ∧ BaseOk B Z' S' σ' H' ∧ Sub Z Z' ∧ whlW kill (wpC W c) (wpB W body) m S' E, fun σ' H' h => ⟨m, Nat.lt_succ_self m, h⟩, S2, Z2, _, st2.rl, bo1.ste st2, w2.1 rfl, ?_, ?_, en.rt⟩
      · exact fun S' Z' σ' H' h rl' bo' z' => ⟨_, Z', rl'.kill kill, bo'.kill kill, (z1.trans st2.ex.zz).trans z', h⟩
      · exact fun S' Z' σ' H' h rl' bo' z' => en.nx _ _ _ _ h (rl'.kill kill) (bo'.kill kill) ((z1.trans st2.ex.zz).trans z')
    | false => exact iteF (en.nx _ _ _ _ (w2.2 rfl) st2.rl (bo1.ste st2) (z1.trans st2.ex.zz))
theorem s_for {src : CI} {tg : CT} {body : CB} {kill : List Nat} {tge it : Expr} {bd : List Stmt} {pos : Pos} (g : Gx X G d) (hp : PassesOwn (model X.prog X.w) X.A X.env X.xe) (hf : FxOk B fx) (ht : ∀ i ∈ ixT tg, fx.contains i = false) (hset : notSetB it = true) (hi : PI X tge it (tI X.K B W src)) (hg : PG X tge (tgT X.K tg))
    (hb : PSs X bd (tSt X.K B (wpB W body))) : PS X (.For tge it bd [] pos) (tSt X.K B (wpS W (.for_ src tg body kill))) := by
  refine ps_imp (ps_for hp g.calm hi hg hb (comp_fold hset)) fun D σ H ⟨S, Z, E, rl, bo, w, en⟩ => ?_
  refine tI_at rl bo w fun ds S1 Z1 H1 J w1 st1 jok => ?_
  obtain ⟨Gp, hG, wk⟩ := jok
  refine for_it wk (fun i σ' H' => ∃ S' Z', Rl X.K Z' S' σ' H' ∧ BaseOk B Z' S' σ' H' ∧ Sub Z1 Z' ∧ forW tg kill (wpB W body) (ds.drop i) S' E) ⟨S1, Z1, st1.rl, bo.ste st1, .refl _, w1⟩ ?_ ?_ ?_
  · rintro i σ' H' hi' ⟨S', Z', rl', _, z', _⟩
    exact hG _ (z'.trans rl'.sub)
  · rintro i x σ2 H2 H2' hi' ⟨S2, Z2, rl2, bo2, z2, w2⟩ ⟨dd, hdd, y⟩
    have hdrop : ds.drop i = dd :: ds.drop (i + 1) := by
      rw [List.drop_eq_getElem_cons hi']
      rw [List.getElem?_eq_getElem hi'] at hdd
      cases hdd; rfl
    rw [hdrop] at w2
    obtain ⟨Z2', sty, rpx⟩ := yok_ste rl2 (y.mono z2)
    have bo2' := bo2.ste sty
    refine bind_out tg w2 sty.rl rpx fun S3 σ3 w3 rl3 bd3 => ?_
    refine ⟨S3, Z2', _, rl3, bo2'.bd bd3 hf ht, w3, ?_, ?_, en.rt⟩
    · exact fun S' Z' σ' H' h rl' bo' z' => ⟨_, Z', rl'.kill kill, bo'.kill kill, (z2.trans sty.ex.zz).trans z', h⟩
    · exact fun S' Z' σ' H' h rl' bo' z' => en.nx _ _ _ _ h (rl'.kill kill) (bo'.kill kill) (st1.ex.zz.trans ((z2.trans sty.ex.zz).trans z'))
  · rintro σ' H' ⟨S', Z', rl', bo', z', w'⟩
    rw [List.drop_length] at w'
    exact en.nx _ _ _ _ w' rl' bo' (st1.ex.zz.trans z')
end
end Fw

set_option Elab.async false
set_option linter.all false
set_option maxRecDepth 100000
set_option maxHeartbeats 4000000
/-! Fw, part Q: more statements; every statement does what its wish says. -/
namespace Fw
open PySem PySem.Spec L2

/-! ### when stores are swapped -/
def swB (env : Env) (x : Str) (p : Pos) (scope : Scope) (cpos : Pos) : Bool :=
  env.blockKind == .function && env.kindOf x == some .local && p.line == cpos.line && !(scope.names.any fun (n, k) => n == x && (k == .local || k == .cell))
theorem sw_comp {elt : Expr} {gs : List Comprehension} {scope : Scope} {cpos p : Pos} {x : Str} {l : Nat} {env : Env} : swapsWith (.ListComp elt gs scope cpos) (some (.Name x p)) l env = pure (swB env x p scope cpos) := rfl
theorem sw_not {e : Expr} {t : Option Expr} {l : Nat} {env : Env} (h : notCompB e = true) : swapsWith e t l env = pure false := by
  cases e <;> first | rfl | cases h
theorem sw_tgt {e tg : Expr} {l : Nat} {env : Env} (h : ∀ x p, tg ≠ .Name x p) : swapsWith e (some tg) l env = pure false := by
  cases e <;> first
    | rfl
    | (cases tg <;> first | rfl | exact absurd rfl (h _ _))
theorem ss_none {tg e : Expr} {env : Env} (h : ∀ ts k p, tg ≠ .Tuple ts k p) (h2 : ∀ ts p, tg ≠ .List ts p) : swappedStores [tg] e env = pure none := by
  cases tg <;> first | rfl | exact absurd rfl (h _ _ _) | exact absurd rfl (h2 _ _)
theorem ss_long {ts : List Expr} {k : Nat} {p : Pos} {e : Expr} {env : Env} (h : tupLenB (.Tuple ts k p) 4 = true) : swappedStores [.Tuple ts k p] e env = pure none := by
  have h4 : 4 ≤ ts.length := by simpa [tupLenB] using h
  cases e with
  | Tuple vs k2 p2 =>
    unfold swappedStores
    have h2 : (ts.length == 2) = false := by simp; omega
    have h3 : (ts.length == 3) = false := by simp; omega
    simp [h2, h3]
  | _ => rfl
theorem ss_notTup {ts : List Expr} {k : Nat} {p : Pos} {e : Expr} {env : Env} (h : isTupB e = false) : swappedStores [.Tuple ts k p] e env = pure none := by
  cases e <;> first | rfl | cases h
theorem ss_cell {ts : List Expr} {k : Nat} {p : Pos} {e : Expr} {env : Env} {sc : Scope} (hs : env.scope = sc) (h : cellTB sc (.Tuple ts k p) = true) : swappedStores [.Tuple ts k p] e env = pure none := by
  have key : ∀ line : Nat, (ts.filterMap fun | .Name id pos => if env.kindOf id == some .local && pos.line == line then some id else none | _ => none).length ≠ ts.length := by
    intro line hl
    have h' : ts.any (fun e => match e with | .Name x _ => !islocB sc x | _ => true) = true := h
    obtain ⟨e, he, hb⟩ := List.any_eq_true.mp h'
    have all : ∀ (l : List Expr) (f : Expr → Option Str), (l.filterMap f).length = l.length → ∀ e ∈ l, (f e).isSome = true := by
      intro l f
      induction l with
      | nil => intro _ e he; cases he
      | cons a l ih =>
        intro hl e he
        have hle := List.length_filterMap_le f l
        cases ha : f a with
        | none =>
          rw [List.filterMap_cons, ha] at hl
          simp at hl; omega
        | some y =>
          rw [List.filterMap_cons, ha] at hl
          rcases List.mem_cons.mp he with rfl | he
          · rw [ha]; rfl
          · exact ih (by simpa using hl) e he
    have := all _ _ hl e he
    cases e with
    | Name x px =>
      have hb : (!islocB sc x) = true := hb
      have kx : env.kindOf x = sc.names.lookup x := by rw [← hs]; rfl
      have this : (if env.kindOf x == some .local && px.line == line then some x else none).isSome = true := this
      unfold islocB at hb
      rw [kx] at this
      cases hq : sc.names.lookup x with
      | none => rw [hq] at this; simp at this
      | some kd =>
        rw [hq] at this hb
        cases kd <;> simp_all
    | _ => cases this
  cases e with
  | Tuple vs k2 p2 =>
    unfold swappedStores
    have hk := key ((ts.head?.map (·.pos.line)).getD 0)
    show (if _ then _ else if _ then _ else if _ then _ else _) = _
    split
    · rfl
    · split
      · rfl
      · rw [if_pos]
        simp only [Bool.or_eq_true, bne_iff_ne, ne_eq]
        exact .inl hk
  | _ => rfl
theorem erase2 {x y : Str} (h : x ≠ y) : ([x, y].eraseDups.length != [x, y].length) = false := by
  have : (y == x) = false := by simpa using Ne.symm h
  simp [List.eraseDups_cons, List.filter, this]
theorem erase3 {x y z : Str} (h : x ≠ y) (h2 : x ≠ z) (h3 : y ≠ z) : ([x, y, z].eraseDups.length != [x, y, z].length) = false := by
  have a : (y == x) = false := by simpa using Ne.symm h
  have b : (z == x) = false := by simpa using Ne.symm h2
  have c : (z == y) = false := by simpa using Ne.symm h3
  simp [List.eraseDups_cons, List.filter, a, b, c]
theorem ss_two {x y : Str} {px py pt pt2 : Pos} {kt k2 : Nat} {a b : Expr} {env : Env} (hb : env.blockKind = .function) (hx : env.kindOf x = some .local) (hy : env.kindOf y = some .local) (hl : (py.line == px.line) = true) (hxy : x ≠ y) (na : notStarB a = true) (nb : notStarB b = true)
    (hf : [a, b].all (foldedForSure 8) = false) (hc : [a, b].all (constantsAlone 8) = false) : swappedStores [.Tuple [.Name x px, .Name y py] kt pt] (.Tuple [a, b] k2 pt2) env = pure (some [x, y]) := by
  unfold swappedStores
  have hl' : py.line = px.line := eq_of_beq hl
  have e2 := erase2 hxy
  simp only [List.length_cons, List.length_nil] at e2
  simp [hb, hx, hy, hl', hf, hc, Expr.pos, e2]
  intro h
  rcases h with h | h
  · cases a <;> first | (cases na; done) | (cases h; done)
  · cases b <;> first | (cases nb; done) | (cases h; done)
theorem ss_three {x y z : Str} {px py pz pt pt2 : Pos} {kt k2 : Nat} {a b c : Expr} {env : Env} (hb : env.blockKind = .function) (hx : env.kindOf x = some .local) (hy : env.kindOf y = some .local) (hz : env.kindOf z = some .local) (hl : (py.line == px.line) = true) (hl2 : (pz.line == px.line) = true) (hxy : x ≠ y) (hxz : x ≠ z) (hyz : y ≠ z)
    (na : notStarB a = true) (nb : notStarB b = true) (nc : notStarB c = true) (hf : [a, b, c].all (foldedForSure 8) = false) (hc : [a, b, c].all (constantsAlone 8) = false) : swappedStores [.Tuple [.Name x px, .Name y py, .Name z pz] kt pt] (.Tuple [a, b, c] k2 pt2) env = pure (some [x, y, z]) := by
  unfold swappedStores
  have hl' : py.line = px.line := eq_of_beq hl
  have hl2' : pz.line = px.line := eq_of_beq hl2
  have e2 := erase3 hxy hxz hyz
  simp only [List.length_cons, List.length_nil] at e2
  simp [hb, hx, hy, hz, hl', hl2', hf, hc, Expr.pos, e2]
  intro h
  rcases h with h | h | h
  · cases a <;> first | (cases na; done) | (cases h; done)
  · cases b <;> first | (cases nb; done) | (cases h; done)
  · cases c <;> first | (cases nc; done) | (cases h; done)

/-! ### arguments of parallel stores -/
inductive PR (K : PySem.W.Frag) (Z H : Hp) (S : SS) (σ : L2.St) : (Addr → Prop) → List RV → List V → Prop
  | nil : PR K Z H S σ (fun _ => False) [] []
  | z {T d v rs vs} : Rp K Z v d → PR K Z H S σ T rs vs → PR K Z H S σ T (.z d :: rs) (v :: vs)
  | f {T sv a rs vs} : Z a = none → OwnAt K Z H a sv → ¬ OwnA S σ a → ¬ T a → PR K Z H S σ T rs vs → PR K Z H S σ (fun b => b = a ∨ T b) (.f sv :: rs) (.ref a :: vs)
def tP (K : PySem.W.Frag) (B : Bs) (W : Wv) (cs : CEs) : TA := fun σ H Q => ∃ S Z Ψ, Rl K Z S σ H ∧ BaseOk B Z S σ H ∧ wpP W cs S Ψ ∧
  ∀ rs S' Z' H' T vs, Ψ rs S' → Ste K S σ Z H S' Z' H' → PR K Z' H' S' σ T rs vs → (∀ a, T a → H a = none) → Q vs H'
section
variable {X : Cx} {G : Pg} {d : Nat} {B : Bs} {W : Wv} {sc : Scope} {fx : List Nat}
theorem p_nil : PA X [] (tP X.K B W .nil) := pa_imp pa_nil fun σ H Q ⟨S, Z, Ψ, rl, bo, w, k⟩ => k _ _ _ _ _ _ w (Ste.refl rl) .nil fun _ h => h.elim
theorem p_cons {e : Expr} {es : List Expr} {c : CE} {cs : CEs} (hn : notStarB e = true) (he : PE X e (tE X.K B W c)) (hs : PA X es (tP X.K B W cs)) : PA X (e :: es) (tP X.K B W (.cons c cs)) := by
  refine pa_imp (pa_cons he hs (star_ok hn)) fun σ H Q ⟨S, Z, Ψ, rl, bo, w, k⟩ => ?_
  refine tE_at rl bo w fun r1 S1 Z1 H1 v1 w1 st1 rv1 fr1 => ?_
  cases r1 with
  | z dd =>
    exact ⟨S1, Z1, _, st1.rl, bo.ste st1, w1, fun rs S2 Z2 H2 T vs w2 st2 pr hT => k _ _ _ _ _ _ w2 (st1.trans st2) (.z (Rp.mono st2.ex.zz rv1) pr) fun a h => st1.ex.none (hT a h)⟩
  | f sv =>
    refine ⟨S1, Z1, _, st1.rl, bo.ste st1, w1, fun rs S2 Z2 H2 T vs w2 st2 pr hT => ?_⟩
    have rv1' : RvR X.K Z1 H1 S1 σ (.f sv) v1 := rv1
    have rv2 := rv1'.keep st2
    obtain ⟨a, rfl, q1, q2, q3⟩ := rv2
    obtain ⟨a', e', _, o1, _⟩ := rv1'
    cases e'
    obtain ⟨o, ho⟩ := o1.there
    refine k _ _ _ _ _ _ w2 (st1.trans st2) (.f q1 q2 q3 (fun z => ?_) pr) fun b hb => ?_
    · rw [hT _ z] at ho; cases ho
    · rcases hb with rfl | hb
      · exact fr1 _ rfl
      · exact st1.ex.none (hT b hb)
  | b i =>
    have w1 : fzS S1 (.b i) (fun d S2 => wpP W cs S2 fun rs S3 => Ψ (.z d :: rs) S3) := w1
    obtain ⟨dd, S1', Z1', w2, st1', rp⟩ := fzS_out w1 st1 rv1 fr1
    exact ⟨S1', Z1', _, st1'.rl, bo.ste st1', w2, fun rs S2 Z2 H2 T vs w2 st2 pr hT => k _ _ _ _ _ _ w2 (st1'.trans st2) (.z (rp.mono st2.ex.zz) pr) fun a h => st1'.ex.none (hT a h)⟩
def setAll : List Nat → List V → L2.St → L2.St
  | i :: is, v :: vs, σ => setAll is vs (σ.set i (some v))
  | _, _, σ => σ
theorem PR.sub {K : PySem.W.Frag} {Z H : Hp} {S S' : SS} {σ σ' : L2.St} {T : Addr → Prop} {rs : List RV} {vs : List V} (h : PR K Z H S σ T rs vs) (k : ∀ a, OwnA S' σ' a → OwnA S σ a ∨ ¬ T a) : PR K Z H S' σ' T rs vs := by
  induction h with
  | nil => exact .nil
  | z r _ ih => exact .z r (ih k)
  | f h1 h2 h3 h4 _ ih =>
    refine .f h1 h2 (fun z => ?_) h4 (ih fun a z => ?_)
    · rcases k _ z with z | z
      · exact h3 z
      · exact z (.inl rfl)
    · exact (k a z).imp id fun q w => q (.inr w)
theorem par_out {P : SS → Prop} {Z H : Hp} (hf : FxOk B fx) : ∀ (is : List Nat) (rs : List RV) (vs : List V) (T : Addr → Prop) (S : SS) (σ : L2.St), PR X.K Z H S σ T rs vs → parW is rs S P → Rl X.K Z S σ H → BaseOk B Z S σ H → (∀ i ∈ is, fx.contains i = false) → (∀ a, T a → B.H a = none) →
    ∃ S', P S' ∧ Rl X.K Z S' (setAll is vs σ) H ∧ BaseOk B Z S' (setAll is vs σ) H
  | [], [], vs, T, S, σ, pr, w, rl, bo, hi, hT => by
    cases pr
    exact ⟨S, w, rl, bo⟩
  | i :: is, r :: rs, vs, T, S, σ, pr, w, rl, bo, hi, hT => by
    cases pr with
    | z rp pr =>
      obtain ⟨a, b⟩ := rl.setBoth (i := i) rp
      refine par_out hf is rs _ T _ _ (pr.sub fun a h => .inl (b.own h).1) w a (bo.bd b hf fun j hj => ?_) (fun j hj => hi j (List.mem_cons_of_mem _ hj)) hT
      have : j = i := by simpa using hj
      rw [this]; exact hi i List.mem_cons_self
    | @f T' sv a rs vs h1 h2 h3 h4 pr =>
      refine par_out hf is rs _ T' _ _ (pr.sub fun b h => ?_) w (rl.setNew h1 h2 h3) (bo.setNew hf (hi i List.mem_cons_self) (hT a (.inl rfl))) (fun j hj => hi j (List.mem_cons_of_mem _ hj)) fun b h => hT b (.inr h)
      rcases h.setNew with rfl | h
      · exact .inr h4
      · exact .inl h
  | [], _ :: _, _, _, _, _, _, w, _, _, _, _ => w.elim
  | _ :: _, [], _, _, _, _, _, w, _, _, _, _ => w.elim
/-- a, b = .. -/
theorem s_par2 {i j : Nat} {x y : Str} {a b : Expr} {cs : CEs} {px py pt pt2 pos : Pos} {kt k2 : Nat} (g : Gx X G d) (hf : FxOk B fx) (hi : X.N[i]? = some x) (hj : X.N[j]? = some y) (hij : i ≠ j) (hx : X.env.scope.names.lookup x = some .local) (hy : X.env.scope.names.lookup y = some .local) (fi : fx.contains i = false) (fj : fx.contains j = false)
    (ha : PA X [a, b] (tP X.K B W cs)) (hw : swappedStores [.Tuple [.Name x px, .Name y py] kt pt] (.Tuple [a, b] k2 pt2) X.env = pure (some [x, y])) :
    PS X (.Assign [.Tuple [.Name x px, .Name y py] kt pt] (.Tuple [a, b] k2 pt2) pos) (tSt X.K B (wpS W (.par [i, j] cs))) := by
  refine ps_imp (ps_par g.calm g.nd hi hj hij hx hy ha hw) fun D σ H ⟨S, Z, E, rl, bo, w, en⟩ => ⟨S, Z, _, rl, bo, w, fun rs S' Z' H' T vs w1 st pr hT => ?_⟩
  obtain ⟨S2, w2, rl2, bo2⟩ := par_out hf [i, j] rs vs T S' σ pr w1 st.rl (bo.ste st) (fun l hl => by
    have : l = i ∨ l = j := by simpa using hl
    rcases this with rfl | rfl <;> assumption) fun a h => bo.ex.none (hT a h)
  have hl : ∃ v w, vs = [v, w] := by
    match rs, pr, w1 with
    | [r1, r2], pr, _ =>
      cases pr with
      | z _ p => cases p with
        | z _ q => cases q; exact ⟨_, _, rfl⟩
        | f _ _ _ _ q => cases q; exact ⟨_, _, rfl⟩
      | f _ _ _ _ p => cases p with
        | z _ q => cases q; exact ⟨_, _, rfl⟩
        | f _ _ _ _ q => cases q; exact ⟨_, _, rfl⟩
    | [], pr, w1 => exact w1.elim
    | [r1], pr, w1 => cases r1 <;> exact w1.elim
    | r1 :: r2 :: r3 :: r, pr, w1 =>
      cases r1 <;> first | exact w1.elim | (cases r2 <;> exact w1.elim)
  obtain ⟨v, w, rfl⟩ := hl
  exact ⟨v, w, rfl, en.nx _ _ _ _ w2 rl2 bo2 st.ex.zz⟩
theorem PR.len {K : PySem.W.Frag} {Z H : Hp} {S : SS} {σ : L2.St} {T : Addr → Prop} {rs : List RV} {vs : List V} (h : PR K Z H S σ T rs vs) : rs.length = vs.length := by
  induction h with
  | nil => rfl
  | z _ _ ih => simp [ih]
  | f _ _ _ _ _ ih => simp [ih]
theorem parW_len : ∀ {is : List Nat} {rs : List RV} {S : SS} {P : SS → Prop}, parW is rs S P → rs.length = is.length
  | [], [], _, _, _ => rfl
  | i :: is, r :: rs, S, P, w => by
    cases r with
    | z d => have := parW_len (is := is) w; simp [this]
    | f d => have := parW_len (is := is) w; simp [this]
    | b j => exact w.elim
  | [], _ :: _, _, _, w => w.elim
  | _ :: _, [], _, _, w => w.elim
theorem s_par3 {i j l : Nat} {x y z : Str} {a b c : Expr} {cs : CEs} {px py pz pt pt2 pos : Pos} {kt k2 : Nat} (g : Gx X G d) (hf : FxOk B fx) (hi : X.N[i]? = some x) (hj : X.N[j]? = some y) (hl : X.N[l]? = some z) (hij : i ≠ j) (hil : i ≠ l) (hjl : j ≠ l)
    (hx : X.env.scope.names.lookup x = some .local) (hy : X.env.scope.names.lookup y = some .local) (hz : X.env.scope.names.lookup z = some .local) (fi : fx.contains i = false) (fj : fx.contains j = false) (fl : fx.contains l = false)
    (ha : PA X [a, b, c] (tP X.K B W cs)) (hw : swappedStores [.Tuple [.Name x px, .Name y py, .Name z pz] kt pt] (.Tuple [a, b, c] k2 pt2) X.env = pure (some [x, y, z])) :
    PS X (.Assign [.Tuple [.Name x px, .Name y py, .Name z pz] kt pt] (.Tuple [a, b, c] k2 pt2) pos) (tSt X.K B (wpS W (.par [i, j, l] cs))) := by
  refine ps_imp (ps_par3 g.calm g.nd hi hj hl hij hil hjl hx hy hz ha hw) fun D σ H ⟨S, Z, E, rl, bo, w, en⟩ => ⟨S, Z, _, rl, bo, w, fun rs S' Z' H' T vs w1 st pr hT => ?_⟩
  obtain ⟨S2, w2, rl2, bo2⟩ := par_out hf [i, j, l] rs vs T S' σ pr w1 st.rl (bo.ste st) (fun m hm => by
    have : m = i ∨ m = j ∨ m = l := by simpa using hm
    rcases this with rfl | rfl | rfl <;> assumption) fun a h => bo.ex.none (hT a h)
  have h3 : vs.length = 3 := by rw [← pr.len, parW_len w1]; rfl
  match vs, h3 with
  | [u, v, w], _ => exact ⟨u, v, w, rfl, en.nx _ _ _ _ w2 rl2 bo2 st.ex.zz⟩
/-- o[k] = e -/
theorem s_ixs {oe ke v : Expr} {o k c : CE} {p' pos : Pos} (g : Gx X G d) (hsl : notSliceB ke = true) (ho : PE X oe (tE X.K B W o)) (hk : PE X ke (tE X.K B W k)) (he : PE X v (tE X.K B W c)) : PS X (.Assign [.Subscript oe ke p'] v pos) (tSt X.K B (wpS W (.ixs o k c))) := by
  have hu : X.A.units + 1 < cLine := by have := g.room.un; omega
  have hset : PSet X (fun o i v H Q => rSetL o i v H Q ∨ rSetD o i v H Q) := fun pins s σ H o i v ov iv u Q I ro ri rv h => h.elim (set_list pins s σ H o i v ov iv u Q I ro ri rv) (set_dict hu pins s σ H o i v ov iv u Q I ro ri rv)
  refine ps_imp (ps_asg he (pg_sub ho hk hset (by cases ke <;> first | (intro _; rfl) | cases hsl)) (show swapsWith v (some (.Subscript oe ke p')) pos.line X.env = pure false from sw_tgt (fun _ _ h => nomatch h)) (ss_none (fun _ _ _ h => nomatch h) (fun _ _ h => nomatch h))) fun D σ H ⟨S, Z, E, rl, bo, w, en⟩ => ?_
  refine tE_at rl bo w fun r1 S1 Z1 H1 v1 w1 st1 rv1 fr1 => ?_
  obtain ⟨dd, S1', Z1', w2, st1', rp⟩ := fzS_out w1 st1 rv1 fr1
  refine tE_at st1'.rl (bo.ste st1') w2 fun r2 S2 Z2 H2 v2 w3 st2 rv2 fr2 => ?_
  refine tE_at st2.rl ((bo.ste st1').ste st2) w3 fun r3 S3 Z3 H3 v3 w4 st3 rv3 fr3 => ?_
  obtain ⟨dk, S3', Z3', w5, st3', rp3⟩ := fzS_out w4 st3 rv3 fr3
  have rv2' := rv2.keep st3'
  have rp' := rp.mono (st2.ex.zz.trans st3'.ex.zz)
  have st := (st1'.trans st2).trans st3'
  cases r2 with
  | z _ => exact w5.elim
  | f _ => exact w5.elim
  | b i =>
    unfold ixsW at w5
    dsimp only at w5
    obtain ⟨sv, h1, h2⟩ := rv2'
    rw [h1] at w5
    cases sv with
    | val _ => exact w5.elim
    | ro _ => exact w5.elim
    | ls xs =>
      cases dk with
      | int n =>
        obtain ⟨j, hj, w6⟩ := w5
        obtain ⟨a, k1, k2, ⟨ys, k3, k4⟩, _⟩ := st3'.rl.own h1 rfl
        rw [h2] at k1
        cases k1
        cases rp3
        have st4 := st.put (sv' := .ls (xs.set j dd)) (ob := .lst (ys.set j v1)) h1 rfl h2 ⟨_, upd_same, k4.set rp' j⟩
        exact .inl ⟨a, ys, n, j, rfl, rfl, k3, by rw [k4.length]; exact hj, en.nx _ _ _ _ w6 st4.rl (bo.ste st4) st4.ex.zz⟩
      | _ => exact w5.elim
    | dk kvs =>
      obtain ⟨q, hq, hz, w6⟩ := w5
      obtain ⟨a, k1, k2, ⟨ys, k3, k4⟩, _⟩ := st3'.rl.own h1 rfl
      rw [h2] at k1
      cases k1
      rw [dKey_some hq] at rp3
      have ek := rp3.key
      subst ek
      have st4 := st.put (sv' := .dk (putD kvs q dd)) (ob := .dK (putK ys q v1)) h1 rfl h2 ⟨_, upd_same, k4.put rp'⟩
      exact .inr ⟨a, _, rfl, .inl ⟨ys, q, k3, rfl, by rw [k4.length]; exact hz, rfl⟩, en.nx _ _ _ _ w6 st4.rl (bo.ste st4) st4.ex.zz⟩
    | dt kvs =>
      cases dk with
      | tuple ks =>
        obtain ⟨q, hq, hz, w6⟩ := w5
        obtain ⟨a, k1, k2, ⟨ys, k3, k4⟩, _⟩ := st3'.rl.own h1 rfl
        rw [h2] at k1
        cases k1
        rw [dKeys_some hq] at rp3
        cases rp3 with
        | @tup b xs _ hb ra =>
          rw [ra.keys] at hb
          have st4 := st.put (sv' := .dt (putD kvs q dd)) (ob := .dT (putK ys q v1)) h1 rfl h2 ⟨_, upd_same, k4.put rp'⟩
          exact .inr ⟨a, _, rfl, .inr ⟨ys, q, b, k3, rfl, st3'.rl.sub _ _ hb, by rw [k4.length]; exact hz, rfl⟩, en.nx _ _ _ _ w6 st4.rl (bo.ste st4) st4.ex.zz⟩
      | _ => exact w5.elim
/-- x = [..], the store swapped with the end of the block -/
theorem s_comp {i : Nat} {x : Str} {p spos : Pos} {elt tge it : Expr} {ifs : List Expr} {scope : Scope} {pos : Pos} {src : CI} {tg : CT} {cond : CC} {ec : CE} {own : List Nat} (g : Gx X G d) (hf : FxOk B fx) (fi : fx.contains i = false) (hN : X.N[i]? = some x) (hxl : X.env.scope.names.lookup x = some .local)
    (hsw : swapsWith (.ListComp elt [⟨tge, it, ifs, 0⟩] scope pos) (some (.Name x p)) spos.line X.env = pure true) (hset : notSetB it = true) (hi : PI X tge it (tI X.K B W src))
    (hb : blkC X.N X.env.scope scope (ownOf X.N own) = true) (ho : (ownOf X.N own).map (·.2) = own) (hin : tgInB own tg = true) (hg : ckT X.N [] scope tg tge = true)
    (ht : ∀ (s : Shared) (H : Hp) (C : Addr) (cl : List (Str × Addr)) (fp : List Addr), PTs (X.blk s H scope (compEnvC scope cl C X.env) fp) ifs (tC X.K B0 W.nox cond))
    (he : ∀ (s : Shared) (H : Hp) (C : Addr) (cl : List (Str × Addr)) (fp : List Addr), PE (X.blk s H scope (compEnvC scope cl C X.env) fp) elt (tE X.K B0 W.nox ec)) :
    PS X (.Assign [.Name x p] (.ListComp elt [⟨tge, it, ifs, 0⟩] scope pos) spos) (tSt X.K B (wpS W (.set i (.comp src tg cond ec own)))) := by
  refine ps_imp (ps_setLc g.calm g.nd hN hxl hsw hi (blkOk_by hb) (comp_g g hg) ht he (comp_fold hset)) fun D σ H ⟨S, Z, E, rl, bo, w, en⟩ => ?_
  have w : wpE W (.comp src tg cond ec own) S (fun r S1 => setW i r S1 E.nx) := w
  exact comp_tlc ho hin σ H _ (tE_at rl bo w fun r1 S1 Z1 H1 v1 w1 st1 rv1 fr1 => set_out hf fi st1 bo en rv1 fr1 w1)
end
end Fw

set_option Elab.async false
set_option linter.all false
set_option maxRecDepth 100000
set_option maxHeartbeats 4000000
/-! Fw, part R: every statement does what its wish says. -/
namespace Fw
open PySem PySem.Spec L2
section
variable {X : Cx} {G : Pg} {d : Nat} {B : Bs} {W : Wv} {sc : Scope} {fx : List Nat}
theorem sP (o : Wok X G d B W) (hs : X.env.scope = sc) : ∀ (cs : CEs) (es : List Expr), ckEs G.M X.N sc cs es = true → PA X es (tP X.K B W cs)
  | .nil, es, h => by
    unfold ckEs at h
    split at h
    · exact p_nil
    · cases h
  | .cons c cs, es, h => by
    unfold ckEs at h
    split at h
    · obtain ⟨h1, h3⟩ := ands h
      obtain ⟨h1, h2⟩ := ands h1
      exact p_cons h1 (sE c X B W sc _ o hs h2) (sP o hs cs _ h3)
    · cases h
theorem nott {b : Bool} (h : (!b) = true) : b = false := by simpa using h
theorem b_nil : PSs X [] (tSt X.K B (wpB W .nil)) := ⟨fun pins s σ H D I ⟨S, Z, E, rl, bo, w, en⟩ => pss_nil.run pins s σ H D I (en.nx _ _ _ _ w rl bo (.refl _))⟩
theorem b_cons {s : CS} {b : CB} {st : Stmt} {ss : List Stmt} (h1 : PS X st (tSt X.K B (wpS W s))) (h2 : PSs X ss (tSt X.K B (wpB W b))) : PSs X (st :: ss) (tSt X.K B (wpB W (.cons s b))) :=
  ⟨fun pins s' σ H D I ⟨S, Z, E, rl, bo, w, en⟩ => (pss_cons h1 h2).run pins s' σ H D I ⟨S, Z, _, rl, bo, w, ⟨fun S' Z' σ' H' h rl' bo' z' => ⟨S', Z', E, rl', bo', h, en.mono z'⟩, en.bk, en.rt⟩⟩⟩
theorem ckN_of {N : List Str} {i : Nat} {x : Str} (h : ckN N fx sc i x = true) : N[i]? = some x ∧ sc.names.lookup x = some .local ∧ fx.contains i = false := by
  obtain ⟨h1, h3⟩ := ands h
  obtain ⟨h1, h2⟩ := ands h1
  refine ⟨by simpa using h1, ?_, by simpa using h3⟩
  unfold islocB at h2
  split at h2 <;> simp_all
theorem ns2 {M : Nm} {N : List Str} {cs : CEs} {e : Expr} {es : List Expr} (h : ckEs M N sc cs (e :: es) = true) : notStarB e = true ∧ noStarsB es = true := by
  have := ckEs_ns h
  simpa [noStarsB] using this
theorem local_swB {x : Str} {p cpos : Pos} {scope : Scope} {env : Env} (h : swB env x p scope cpos = true) : env.scope.names.lookup x = some .local := by
  unfold swB at h
  obtain ⟨h1, _⟩ := ands h
  obtain ⟨h1, _⟩ := ands h1
  obtain ⟨_, h2⟩ := ands h1
  have : env.kindOf x = some .local := by simpa using h2
  exact this
theorem s_setAny {i : Nat} {x : Str} {p pos : Pos} (o : Wok X G d B W) (hs : X.env.scope = sc) (hfn : ∀ x, X.fn x = true) (hf : FxOk B fx) (hi : fx.contains i = false) (hN : X.N[i]? = some x) (hx : L2.Loc X.env.scope x) : ∀ (c : CE) (v : Expr), ckE G.M X.N sc c v = true → PS X (.Assign [.Name x p] v pos) (tSt X.K B (wpS W (.set i c))) := by
  intro c v h
  by_cases hn : notCompB v = true
  · exact s_set o.gx hfn hf hi hN hx (sw_not hn) (sE c X B W sc v o hs h)
  · cases v with
    | ListComp elt gens scope cpos =>
      by_cases hb : swB X.env x p scope cpos = true
      · cases c with
        | comp src tg cond ec own =>
          unfold ckE at h
          split at h
          · rename_i heq
            cases heq
            obtain ⟨h1, h9⟩ := ands h
            obtain ⟨h1, h8⟩ := ands h1
            obtain ⟨h1, h7⟩ := ands h1
            obtain ⟨h1, h6⟩ := ands h1
            obtain ⟨h1, h5⟩ := ands h1
            obtain ⟨h1, h4⟩ := ands h1
            obtain ⟨h1, h3⟩ := ands h1
            obtain ⟨h1, h2⟩ := ands h1
            subst hs
            exact s_comp o.gx hf hi hN (local_swB hb) (by rw [sw_comp, hb]) h2 (sI src X B W _ _ _ o rfl h1 h9) h3 (by simpa using h4) h6 h5
              (fun s H C cl fp => ifs_ok (fun e he => sC cond (X.blk s H _ (compEnvC _ cl C X.env) fp) B0 W.nox _ e (o.blk s H _ _ fp) rfl he) h7)
              fun s H C cl fp => sE ec (X.blk s H _ (compEnvC _ cl C X.env) fp) B0 W.nox _ _ (o.blk s H _ _ fp) rfl h8
          · cases h
        | _ => unfold ckE at h; first | (cases h; done) | (split at h <;> first | (cases h; done) | (rename_i heq; cases heq; done))
      · exact s_set o.gx hfn hf hi hN hx (by rw [sw_comp]; simp only [Bool.not_eq_true] at hb; rw [hb]) (sE c X B W sc _ o hs h)
    | SetComp _ _ _ _ =>
      exfalso
      cases c <;> (unfold ckE at h; first | (cases h; done) | (split at h <;> first | (cases h; done) | (rename_i heq; cases heq; done)))
    | DictComp _ _ _ _ _ =>
      exfalso
      cases c <;> (unfold ckE at h; first | (cases h; done) | (split at h <;> first | (cases h; done) | (rename_i heq; cases heq; done)))
    | _ => exact absurd rfl hn
mutual
theorem sS (o : Wok X G d B W) (hs : X.env.scope = sc) (hk : X.env.scope.kind = .function) (hfn : ∀ x, X.fn x = true) (hp : PassesOwn (model X.prog X.w) X.A X.env X.xe) (hf : FxOk B fx) : ∀ (s : CS) (st : Stmt), ckS G.M X.N fx sc s st = true → PS X st (tSt X.K B (wpS W s))
  | .set i c, st, h => by
    unfold ckS at h
    split at h
    · obtain ⟨h1, h4⟩ := ands h
      obtain ⟨h1, h3⟩ := ands h1
      obtain ⟨h1, h2⟩ := ands h1
      exact s_setAny o hs hfn hf (by simpa using h3) (by simpa using h1) (by rw [hs]; exact loc_of h2) c _ h4
    · cases h
  | .setT t c, st, h => by
    unfold ckS at h
    split at h
    · rename_i tg v pos
      obtain ⟨h1, h4⟩ := ands h
      obtain ⟨h1, h3⟩ := ands h1
      obtain ⟨h1, h2⟩ := ands h1
      have hg : PG X tg (tgT X.K t) := g_ok o.gx.nd o.gx.calm (fun x hx => ⟨by rw [hs]; exact loc_of hx, .inl (hfn x)⟩) t tg h3
      cases tg with
      | Tuple ts k p =>
        refine s_setT hf (ckT_fx t _ h3) hg (show swapsWith v (some (.Tuple ts k p)) pos.line X.env = pure false from sw_tgt (fun _ _ h => nomatch h)) ?_ rfl (sE c X B W sc v o hs h4)
        rcases (by simpa [or_assoc] using h2 : tupLenB (.Tuple ts k p) 4 = true ∨ isTupB v = false ∨ cellTB sc (.Tuple ts k p) = true) with h2 | h2 | h2
        · exact ss_long h2
        · exact ss_notTup h2
        · exact ss_cell hs h2
      | _ => cases h1
    · cases h
    · cases h
  | .par is es, st, h => by
    unfold ckS at h
    split at h
    · obtain ⟨h1, h8⟩ := ands h
      obtain ⟨h1, h7⟩ := ands h1
      obtain ⟨h1, h6⟩ := ands h1
      obtain ⟨h1, h5⟩ := ands h1
      obtain ⟨h1, h4⟩ := ands h1
      obtain ⟨h1, h3⟩ := ands h1
      obtain ⟨h1, h2⟩ := ands h1
      obtain ⟨a1, a2, a3⟩ := ckN_of h1
      obtain ⟨b1, b2, b3⟩ := ckN_of h2
      obtain ⟨n1, n2⟩ := ns2 h6
      have n2' := n2
      simp only [noStarsB, Bool.and_true] at n2'
      have bk : X.env.blockKind = .function := by unfold Env.blockKind; rw [hk]; rfl
      refine s_par2 o.gx hf a1 b1 (by simpa using h3) (by rw [hs]; exact a2) (by rw [hs]; exact b2) a3 b3 (sP o hs es _ h6) (ss_two bk (by show X.env.scope.names.lookup _ = _; rw [hs]; exact a2) (by show X.env.scope.names.lookup _ = _; rw [hs]; exact b2) h5 (by simpa using h4) n1 n2' (nott h7) (nott h8))
    · obtain ⟨h1, h14⟩ := ands h
      obtain ⟨h1, h13⟩ := ands h1
      obtain ⟨h1, h12⟩ := ands h1
      obtain ⟨h1, h11⟩ := ands h1
      obtain ⟨h1, h10⟩ := ands h1
      obtain ⟨h1, h9⟩ := ands h1
      obtain ⟨h1, h8⟩ := ands h1
      obtain ⟨h1, h7⟩ := ands h1
      obtain ⟨h1, h6⟩ := ands h1
      obtain ⟨h1, h5⟩ := ands h1
      obtain ⟨h1, h4⟩ := ands h1
      obtain ⟨h1, h3⟩ := ands h1
      obtain ⟨h1, h2⟩ := ands h1
      obtain ⟨a1, a2, a3⟩ := ckN_of h1
      obtain ⟨b1, b2, b3⟩ := ckN_of h2
      obtain ⟨c1, c2, c3⟩ := ckN_of h3
      obtain ⟨n1, n2⟩ := ns2 h12
      have n2' := n2
      simp only [noStarsB, Bool.and_true, Bool.and_eq_true] at n2'
      have bk : X.env.blockKind = .function := by unfold Env.blockKind; rw [hk]; rfl
      refine s_par3 o.gx hf a1 b1 c1 (by simpa using h4) (by simpa using h5) (by simpa using h6) (by rw [hs]; exact a2) (by rw [hs]; exact b2) (by rw [hs]; exact c2) a3 b3 c3 (sP o hs es _ h12)
        (ss_three bk (by show X.env.scope.names.lookup _ = _; rw [hs]; exact a2) (by show X.env.scope.names.lookup _ = _; rw [hs]; exact b2) (by show X.env.scope.names.lookup _ = _; rw [hs]; exact c2) h10 h11 (by simpa using h7) (by simpa using h8) (by simpa using h9) n1 n2'.1 n2'.2 (nott h13) (nott h14))
    · cases h
  | .ixs oc k c, st, h => by
    unfold ckS at h
    split at h
    · obtain ⟨h1, h4⟩ := ands h
      obtain ⟨h1, h3⟩ := ands h1
      obtain ⟨h1, h2⟩ := ands h1
      exact s_ixs o.gx h1 (sE oc X B W sc _ o hs h2) (sE k X B W sc _ o hs h3) (sE c X B W sc _ o hs h4)
    · cases h
  | .ex c, st, h => by
    unfold ckS at h
    split at h
    · obtain ⟨h1, h2⟩ := ands h
      exact s_expr h1 (sE c X B W sc _ o hs h2)
    · cases h
  | .ret c, st, h => by
    unfold ckS at h
    split at h
    · exact s_ret (sE c X B W sc _ o hs h)
    · cases h
  | .retN, st, h => by
    unfold ckS at h
    split at h
    · exact s_retN
    · cases h
  | .iff c a b, st, h => by
    unfold ckS at h
    split at h
    · obtain ⟨h1, h3⟩ := ands h
      obtain ⟨h1, h2⟩ := ands h1
      exact s_if (sC c X B W sc _ o hs h1) (sB o hs hk hfn hp hf a _ h2) (sB o hs hk hfn hp hf b _ h3)
    · cases h
  | .for_ src tg body kill, st, h => by
    unfold ckS at h
    split at h
    · rename_i tge it bd pos
      obtain ⟨h1, h5⟩ := ands h
      obtain ⟨h1, h4⟩ := ands h1
      obtain ⟨h1, h3⟩ := ands h1
      obtain ⟨h1, h2⟩ := ands h1
      have hg : PG X tge (tgT X.K tg) := g_ok o.gx.nd o.gx.calm (fun x hx => ⟨by rw [hs]; exact loc_of hx, .inl (hfn x)⟩) tg tge h3
      exact s_for o.gx hp hf (ckT_fx tg _ h3) h1 (sI src X B W sc _ _ o hs h2 h4) hg (sB o hs hk hfn hp hf body _ h5)
    · cases h
  | .whl c body kill, st, h => by
    unfold ckS at h
    split at h
    · obtain ⟨h1, h2⟩ := ands h
      exact s_while hp (sC c X B W sc _ o hs h1) (sB o hs hk hfn hp hf body _ h2)
    · cases h
  | .brk, st, h => by
    unfold ckS at h
    split at h
    · exact ps_imp ps_break fun D σ H ⟨S, Z, E, rl, bo, w, en⟩ => en.bk _ _ _ _ w rl bo (.refl _)
    · cases h
  | .pass, st, h => by
    unfold ckS at h
    split at h
    · exact ps_imp ps_pass fun D σ H ⟨S, Z, E, rl, bo, w, en⟩ => en.nx _ _ _ _ w rl bo (.refl _)
    · cases h
  | .raise _, st, h => by
    unfold ckS at h
    cases h
  | .dead, st, h => ps_imp ps_never fun D σ H ⟨S, Z, E, rl, bo, w, en⟩ => w.elim
theorem sB (o : Wok X G d B W) (hs : X.env.scope = sc) (hk : X.env.scope.kind = .function) (hfn : ∀ x, X.fn x = true) (hp : PassesOwn (model X.prog X.w) X.A X.env X.xe) (hf : FxOk B fx) : ∀ (b : CB) (ss : List Stmt), ckB G.M X.N fx sc b ss = true → PSs X ss (tSt X.K B (wpB W b))
  | .nil, ss, h => by
    unfold ckB at h
    split at h
    · exact b_nil
    · cases h
  | .cons s b, ss, h => by
    unfold ckB at h
    split at h
    · obtain ⟨h1, h2⟩ := ands h
      exact b_cons (sS o hs hk hfn hp hf s _ h1) (sB o hs hk hfn hp hf b _ h2)
    · cases h
end
end
end Fw

set_option Elab.async false
set_option linter.all false
set_option maxRecDepth 100000
set_option maxHeartbeats 4000000
/-! Fw, part S: defs keep their promises, at any depth. -/
namespace Fw
open PySem PySem.Spec L2

def fxOf (io : List Bool) : List Nat := (List.range io.length).filter fun i => io.getD i false
theorem fxOf_has {io : List Bool} {i : Nat} (h : io[i]? = some true) : (fxOf io).contains i = true := by
  have hl : i < io.length := (List.getElem?_eq_some_iff.mp h).1
  have hg : io.getD i false = true := by rw [List.getD_eq_getElem?_getD, h]; rfl
  rw [List.contains_iff_mem]
  exact List.mem_filter.mpr ⟨List.mem_range.mpr hl, hg⟩
section
variable {K : PySem.W.Frag} {Z H Z' H' : Hp} {S : SS} {σ' : L2.St}
/-- what a def hands back, place by place -/
theorem outs_at : ∀ {io : List Bool} {args : List SV} {S : SS} {outs : List SV}, outsOf io args S = some outs → outs.length = args.length ∧ io.length = args.length ∧ ∀ (j : Nat) (a : SV), args[j]? = some a →
    ∃ o, outs[j]? = some o ∧ o.isOwn = a.isOwn ∧ ((io[j]? = some false ∧ o = a) ∨ (io[j]? = some true ∧ S[j]? = some (some o)))
  | [], [], S, outs, h => by cases h; exact ⟨rfl, rfl, fun j a e => by simp at e⟩
  | false :: io, a :: args, _ :: S, outs, h => by
    unfold outsOf at h
    cases q : outsOf io args S with
    | none => rw [q] at h; cases h
    | some os =>
      rw [q] at h
      cases h
      obtain ⟨h1, h2, h3⟩ := outs_at q
      refine ⟨by simp [h1], by simp [h2], fun j b e => ?_⟩
      cases j with
      | zero => simp at e; subst e; exact ⟨_, rfl, rfl, .inl ⟨rfl, rfl⟩⟩
      | succ j =>
        obtain ⟨o, k1, k2, k3⟩ := h3 j b (by simpa using e)
        exact ⟨o, by simpa using k1, k2, by simpa using k3⟩
  | true :: io, a :: args, some sv :: S, outs, h => by
    unfold outsOf at h
    split at h
    · rename_i hb
      cases q : outsOf io args S with
      | none => rw [q] at h; cases h
      | some os =>
        rw [q] at h
        cases h
        obtain ⟨h1, h2, h3⟩ := outs_at q
        obtain ⟨_, hk⟩ := ands hb
        refine ⟨by simp [h1], by simp [h2], fun j b e => ?_⟩
        cases j with
        | zero => simp at e; subst e; exact ⟨sv, rfl, eq_of_beq hk, .inr ⟨rfl, rfl⟩⟩
        | succ j =>
          obtain ⟨o, k1, k2, k3⟩ := h3 j b (by simpa using e)
          exact ⟨o, by simpa using k1, k2, by simpa using k3⟩
    · cases h
  | true :: io, a :: args, none :: S, outs, h => by unfold outsOf at h; cases h
  | [], _ :: _, _, _, h => by unfold outsOf at h; cases h
  | b :: _, [], _, _, h => by unfold outsOf at h; cases b <;> cases h
  | false :: _, _ :: _, [], _, h => by unfold outsOf at h; cases h
  | true :: _, _ :: _, [], _, h => by unfold outsOf at h; cases h
theorem ioOk_at : ∀ {io : List Bool} {args : List SV}, ioOk io args = true → ∀ (j : Nat) (a : SV), args[j]? = some a → io[j]? = some a.isRef
  | [], [], _, j, a, e => by simp at e
  | io :: ios, b :: as, h, j, a, e => by
    unfold ioOk at h
    obtain ⟨h1, h2⟩ := ands h
    cases j with
    | zero => simp at e; subst e; simp [eq_of_beq h1]
    | succ j => simpa using ioOk_at h2 j a (by simpa using e)
  | [], _ :: _, h, _, _, _ => by cases h
  | _ :: _, [], h, _, _, _ => by cases h
theorem own_ref {sv : SV} (h : sv.isOwn = true) : sv.isRef = true := by cases sv <;> first | rfl | cases h
theorem nref_val {sv : SV} (h : sv.isRef = false) : ∃ d, sv = .val d := by
  cases sv with
  | val d => exact ⟨d, rfl⟩
  | _ => cases h
/-- the base of a run -/
def runB (Z H : Hp) (io : List Bool) (args : List SV) (vs : List V) (σ : L2.St) : Bs := ⟨Z, H, OwnA (args.map some) (vs.map some), fun i => io[i]? = some true, σ⟩
variable {io : List Bool} {args outs : List SV} {vs : List V} {N : List Str}
theorem start_at {j : Nat} {v : V} (h : vs[j]? = some v) : (start N vs)[j]? = some (some v) := by
  unfold L2.start
  have hl : j < vs.length := (List.getElem?_eq_some_iff.mp h).1
  rw [List.getElem?_append_left (by rw [List.length_map]; exact hl)]
  exact map_some_get.mpr h
theorem end_ste (rl0 : Rl K Z (args.map some) (vs.map some) H) (hio : ioOk io args = true) (rl : Rl K Z' S σ' H') (bo : BaseOk (runB Z H io args vs (start N vs)) Z' S σ' H') (ho : outsOf io args S = some outs) :
    Ste K (args.map some) (vs.map some) Z H (outs.map some) Z' H' ∧ outs.map SV.isOwn = args.map SV.isOwn ∧ ∀ a, OwnA (outs.map some) (vs.map some) a → OwnA S σ' a := by
  obtain ⟨l1, l2, at1⟩ := outs_at ho
  have lv : args.length = vs.length := by have := rl0.len; simpa using this
  have back : ∀ (j : Nat) (o : SV), outs[j]? = some o → ∃ a, args[j]? = some a ∧ o.isOwn = a.isOwn ∧ ((io[j]? = some false ∧ o = a) ∨ (io[j]? = some true ∧ S[j]? = some (some o))) := fun j o e => by
    have hj : j < args.length := by rw [← l1]; exact (List.getElem?_eq_some_iff.mp e).1
    obtain ⟨o', k1, k2, k3⟩ := at1 j _ (List.getElem?_eq_getElem hj)
    rw [e] at k1
    cases k1
    exact ⟨_, List.getElem?_eq_getElem hj, k2, k3⟩
  have vat : ∀ (j : Nat) (a : SV), args[j]? = some a → ∃ v, vs[j]? = some v ∧ SlR K Z H v a := fun j a e => by
    obtain ⟨v, k1, k2⟩ := rl0.at' j a (map_some_get.mpr e)
    exact ⟨v, map_some_get.mp k1, k2⟩
  -- an own one stands where it stood
  have ownS : ∀ (j : Nat) (o : SV) (v : V), outs[j]? = some o → o.isOwn = true → vs[j]? = some v → S[j]? = some (some o) ∧ σ'[j]? = some (some v) := fun j o v e oo ev => by
    obtain ⟨a, k1, k2, k3⟩ := back j o e
    rcases k3 with ⟨k3, k4⟩ | ⟨k3, k4⟩
    · subst k4
      have := ioOk_at hio j o k1
      rw [own_ref oo, k3] at this
      cases this
    · refine ⟨k4, ?_⟩
      rw [bo.fx j k3]
      exact start_at ev
  refine ⟨⟨⟨rl.sub, ?_, fun j o e => ?_, fun j l oj ol a e1 o1 e2 o2 k1 k2 => ?_⟩, bo.ex, fun a h => ?_, fun j a e => ?_⟩, ?_, fun a h => ?_⟩
  · rw [List.length_map, List.length_map, l1, lv]
  · have e' := map_some_get.mp e
    obtain ⟨a, k1, k2, k3⟩ := back j o e'
    obtain ⟨v, k4, k5⟩ := vat j a k1
    refine ⟨v, map_some_get.mpr k4, ?_⟩
    rcases k3 with ⟨k3, rfl⟩ | ⟨k3, k6⟩
    · have hr : o.isRef = false := by
        have := ioOk_at hio j o k1
        rw [k3] at this
        exact (Option.some.inj this).symm
      obtain ⟨d, rfl⟩ := nref_val hr
      exact Rp.mono bo.ex.zz k5
    · obtain ⟨v', k7, k8⟩ := rl.at' j o k6
      rw [bo.fx j k3] at k7
      have : (start N vs)[j]? = some (some v) := start_at k4
      have e2 : (runB Z H io args vs (start N vs)).σ = start N vs := rfl
      rw [e2, this] at k7
      cases k7
      exact k8
  · obtain ⟨s1, s2⟩ := ownS j oj _ (map_some_get.mp e1) o1 (map_some_get.mp k1)
    obtain ⟨s3, s4⟩ := ownS l ol _ (map_some_get.mp e2) o2 (map_some_get.mp k2)
    exact rl.sep j l oj ol a s1 o1 s3 o2 s2 s4
  · obtain ⟨j, o, e, oo, k⟩ := h
    obtain ⟨a', k1, k2, _⟩ := back j o (map_some_get.mp e)
    exact ⟨j, a', map_some_get.mpr k1, by rw [← k2]; exact oo, k⟩
  · obtain ⟨o, k1, _⟩ := at1 j a (map_some_get.mp e)
    exact ⟨o, map_some_get.mpr k1⟩
  · apply List.ext_getElem?
    intro j
    rw [List.getElem?_map, List.getElem?_map]
    cases q : args[j]? with
    | none =>
      have : args.length ≤ j := List.getElem?_eq_none_iff.mp q
      rw [List.getElem?_eq_none (by rw [l1]; exact this)]
      all_goals rfl
    | some a =>
      obtain ⟨o, k1, k2, _⟩ := at1 j a q
      rw [k1]
      exact congrArg some k2
  · obtain ⟨j, o, e, oo, k⟩ := h
    obtain ⟨s1, s2⟩ := ownS j o _ (map_some_get.mp e) oo (map_some_get.mp k)
    exact ⟨j, o, s1, oo, s2⟩
theorem end_out {fn : Fn} {r : RV} {v : V} {Ψ : RV → List SV → Prop} (rl0 : Rl K Z (args.map some) (vs.map some) H) (hio : ioOk fn.io args = true) (w : endW fn args r S Ψ) (rl : Rl K Z' S σ' H') (bo : BaseOk (runB Z H fn.io args vs (start N vs)) Z' S σ' H')
    (rv : RvR K Z' H' S σ' r v) (fr : Fr0 H r v) : ∃ r' outs Z'', Ψ r' outs ∧ CallEnd K args vs Z H r' outs Z'' H' v := by
  have ownH : ∀ {outs : List SV} {a : Addr}, outs.map SV.isOwn = args.map SV.isOwn → OwnA (outs.map some) (vs.map some) a → ∃ o, H a = some o := fun {outs a} kin h => by
    obtain ⟨j, o, e, oo, k⟩ := h
    obtain ⟨sv, k1, k2⟩ := kin_at kin (map_some_get.mp e)
    exact own_in rl0 ⟨j, sv, map_some_get.mpr k1, by rw [k2]; exact oo, k⟩
  have done : ∀ {S1 : SS} {Z1 : Hp} {d : PyData} {outs : List SV}, Rl K Z1 S1 σ' H' → BaseOk (runB Z H fn.io args vs (start N vs)) Z1 S1 σ' H' → Rp K Z1 v d → outsOf fn.io args S1 = some outs → Ψ (.z d) outs → ∃ r' outs Z'', Ψ r' outs ∧ CallEnd K args vs Z H r' outs Z'' H' v := fun {S1 Z1 d outs} rl1 bo1 rp ho hΨ => by
    obtain ⟨st, kin, _⟩ := end_ste rl0 hio rl1 bo1 ho
    exact ⟨_, outs, Z1, hΨ, st, rp, trivial, kin, fun i h => by cases h⟩
  have new : ∀ {sv : SV} {a : Addr} {outs : List SV}, v = .ref a → Z' a = none → OwnAt K Z' H' a sv → H a = none → outsOf fn.io args S = some outs → Ψ (.f sv) outs → ∃ r' outs Z'', Ψ r' outs ∧ CallEnd K args vs Z H r' outs Z'' H' v := fun {sv a outs} hv hz ow hn ho hΨ => by
    subst hv
    obtain ⟨st, kin, _⟩ := end_ste rl0 hio rl bo ho
    refine ⟨_, outs, Z', hΨ, st, ⟨a, rfl, hz, ow, fun z => ?_⟩, fun b e => by cases e; exact hn, kin, fun i h => by cases h⟩
    obtain ⟨o, e⟩ := ownH kin z
    rw [hn] at e; cases e
  unfold endW at w
  split at w
  · cases r with
    | z d => exact w.elim
    | f sv =>
      obtain ⟨outs, ho, hΨ⟩ := w
      obtain ⟨a, rfl, h1, h2, h3⟩ := rv
      exact new rfl h1 h2 (fr a rfl) ho hΨ
    | b i =>
      obtain ⟨sv, e, oo, hi, outs, ho, hΨ⟩ := w
      obtain ⟨sv', e', k⟩ := rv
      rw [e] at e'; cases e'
      obtain ⟨a, k1, h1, h2, oa⟩ := rl.own e oo
      rw [k] at k1
      cases k1
      refine new rfl h1 h2 ?_ ho hΨ
      rcases bo.ow a oa with h | h
      · obtain ⟨j, aj, e1, o1, k1⟩ := h
        obtain ⟨_, _, at1⟩ := outs_at ho
        obtain ⟨o, q1, q2, q3⟩ := at1 j aj (map_some_get.mp e1)
        have hj := ioOk_at hio j aj (map_some_get.mp e1)
        rw [own_ref o1] at hj
        rcases q3 with ⟨q3, _⟩ | ⟨q3, q4⟩
        · rw [hj] at q3; cases q3
        · have hs : σ'[j]? = some (some (.ref a)) := by rw [bo.fx j q3]; exact start_at (map_some_get.mp k1)
          have := rl.sep i j sv o a e oo q4 (by rw [q2]; exact o1) k hs
          subst this
          rw [List.getD_eq_getElem?_getD, q3] at hi
          cases hi
      · exact h
  · cases r with
    | z d =>
      obtain ⟨outs, ho, hΨ⟩ := w
      exact done rl bo rv ho hΨ
    | f sv =>
      obtain ⟨outs, ho, hΨ⟩ := w
      obtain ⟨a, rfl, h1, h2, h3⟩ := rv
      obtain ⟨o, hoa⟩ := h2.there
      refine done (rl.grow hoa h1 h3) ⟨⟨bo.ex.zz.trans (upd_sub h1), bo.ex.hh, fun b u e => ?_, bo.ex.th⟩, bo.ow, bo.fx⟩ (h2.frozen (upd_sub h1) (by rw [upd_same, hoa])) ho hΨ
      by_cases hb : b = a
      · subst hb; exact .inr (.inl (.inl (fr _ rfl)))
      · rw [upd_ne hb] at e; exact bo.ex.zn b u e
    | b i =>
      obtain ⟨d, S1, Z1, ⟨outs, ho, hΨ⟩, st, rp⟩ := fzS_out w (Ste.refl rl) rv trivial
      exact done st.rl (bo.ste st) rp ho hΨ
end

/-! ### the text's defs -/
structure Md (P : Program) (w : World) (K : PySem.W.Frag) (mg : Str → Option Value) (G : Pg) (pss : Nat → List Str) : Prop where
  fns : ∀ k fn, G.T k = some fn → ∃ (x qual : Str) (st : Stmt) (f : Addr) (fd : FuncData) (N : List Str), G.M.fn k = some x ∧ mg x = some (.ref f) ∧ Fun K x qual st f fd ∧ (∀ (s : Shared) (us : List Value), us.length = (pss k).length → BindsTo s fd ⟨us, []⟩ ((pss k).zip us)) ∧ (pss k).length = fn.np ∧ N.length = fn.ns ∧ N.Nodup ∧ FnScope N (pss k) (defScope st) ∧
    ckB G.M N (fxOf fn.io) (defScope st) fn.body (defBody st) = true ∧ fn.np ≤ fn.ns
  dom : ∀ k x, G.M.fn k = some x → ∃ fn, G.T k = some fn
  gls : ∀ k x dd, G.M.gl k = some x → G.gl k = some dd → ∃ u v, mg x = some u ∧ RelV v u ∧ ∀ Z, Rp K Z v dd
  blt : ∀ x, x ∈ bltNames → mg x = none
section
variable {P : Program} {w : World} {K : PySem.W.Frag} {mg : Str → Option Value} {G : Pg} {pss : Nat → List Str}
theorem binds_of {fd : FuncData} {ps : List Str} (h : ∀ (s : Shared) (us : List Value), us.length = ps.length → BindsTo s fd ⟨us, []⟩ (ps.zip us)) : Binds K fd ps [] := fun s us _ hl => by
  rw [List.append_nil] at hl ⊢
  exact h s us hl
theorem defs_at (M : Md P w K mg G pss) : ∀ (d k : Nat) (fn : Fn), G.T k = some fn → ∃ x f fd, G.M.fn k = some x ∧ mg x = some (.ref f) ∧ PySem.W.keepIn K (.ref f) = true ∧ (∀ (s : Shared) (us : List Value), us.length = (pss k).length → BindsTo s fd ⟨us, []⟩ ((pss k).zip us)) ∧ (pss k).length = fn.np ∧ ∀ base : Heap, FnOk P w K mg base (L2.CX P w) d f fd (pss k) (spF K G d k)
  | 0, k, fn, h => by
    obtain ⟨x, qual, st, f, fd, N, h1, h2, F, h3, h4, _⟩ := M.fns k fn h
    exact ⟨x, f, fd, h1, h2, F.kp, h3, h4, fun base => ⟨fun vs H Q E ⟨Z, args, Ψ, Ξ, rl, cw, _⟩ => cw.elim, fun A outer s H args us vs Q E hr he hb hv ⟨Z, args, Ψ, Ξ, rl, cw, _⟩ => cw.elim⟩⟩
  | d + 1, k, fn, h => by
    obtain ⟨x, qual, st, f, fd, N, h1, h2, F, h3, h4, h5, h6, h7, h8, h9⟩ := M.fns k fn h
    refine ⟨x, f, fd, h1, h2, F.kp, h3, h4, fun base => F.okX h7 (fun vs H Q E ⟨Z, args, Ψ, Ξ, rl, cw, _⟩ => ?_) fun cdv A outer s H vs Q E hr ⟨Z, args, Ψ, Ξ, rl, cw, hQ, hE⟩ => ?_⟩
    · obtain ⟨fn', e, l, _⟩ := cw
      rw [h] at e; cases e
      have := rl.len
      simp at this
      omega
    · obtain ⟨fn', e, l, hio, wb⟩ := cw
      rw [h] at e; cases e
      have lv : args.length = vs.length := by have := rl.len; simpa using this
      generalize hX : cxOf (L2.CX P w) P w K mg base N qual (defScope st) f cdv A outer s H E = X
      have gx : Gx X G d := by
        subst hX
        exact ⟨h6, rfl, hr, fun k fn hk => by
          obtain ⟨x, f, fd, q1, q2, q3, q4, q5, q6⟩ := defs_at M d k fn hk
          exact ⟨x, f, fd, _, q1, q2, q3, binds_of q4, q5, q6 base⟩, M.dom, M.gls, M.blt⟩
      have tk : Takes X (fun cls dd _ H' => E cls dd H') := by subst hX; exact takes_of rfl rfl rfl rfl
      have hp : PassesOwn (model X.prog X.w) X.A X.env X.xe := by subst hX; exact (PassesOwn.leaving : PassesOwn _ _ _ _)
      have hK : X.K = K := by subst hX; rfl
      have hN : X.N = N := by subst hX; rfl
      have hsc : X.env.scope = defScope st := by subst hX; rfl
      have hfn : ∀ x, X.fn x = true := by subst hX; exact fun _ => rfl
      subst hK hN
      let B := runB Z H fn.io args vs (start X.N vs)
      let W : Wv := ⟨callW G.T G.gl d, G.gl, fun c S => ∃ outs, outsOf fn.io args S = some outs ∧ Ξ c outs⟩
      have wok : Wok X G d B W := ⟨gx, rfl, rfl, tk.imp fun cls dd σ H' ⟨c, S, Z', hcl, rl', bo', outs, ho, hΞ⟩ => by
        obtain ⟨ste, kin, _⟩ := end_ste rl hio rl' bo' ho
        exact hE c outs cls Z' H' dd hΞ hcl ste kin⟩
      refine ⟨_, sB (fx := fxOf fn.io) wok hsc (by rw [hsc]; exact h7.kind) hfn hp (fun i hi => fxOf_has hi) fn.body (defBody st) h8, ?_⟩
      have gS : ∀ (j : Nat) (sv : SV), (args.map some ++ List.replicate (fn.ns - fn.np) none)[j]? = some (some sv) → (args.map some)[j]? = some (some sv) := fun j sv e => by
        by_cases hj : j < (args.map some).length
        · rw [List.getElem?_append_left hj] at e; exact e
        · rw [List.getElem?_append_right (by omega)] at e
          have := List.mem_of_getElem? e
          rw [List.mem_replicate] at this
          exact absurd this.2 (by simp)
      have gσ : ∀ (j : Nat) (v : V), (start X.N vs)[j]? = some (some v) → j < args.length → (vs.map some)[j]? = some (some v) := fun j v e hj => by
        unfold L2.start at e
        rw [List.getElem?_append_left (by rw [List.length_map, ← lv]; exact hj)] at e
        exact e
      have lt : ∀ (j : Nat) (sv : SV), (args.map some)[j]? = some (some sv) → j < args.length := fun j sv e => by
        have := (List.getElem?_eq_some_iff.mp e).1
        rw [List.length_map] at this; exact this
      have rl0 : Rl X.K Z (args.map some ++ List.replicate (fn.ns - fn.np) none) (start X.N vs) H := by
        refine ⟨rl.sub, ?_, fun j sv e => ?_, fun i j si sj a e1 o1 e2 o2 k1 k2 => ?_⟩
        · unfold L2.start
          rw [List.length_append, List.length_append, List.length_map, List.length_map, List.length_replicate, List.length_replicate, lv, h5, ← l, lv]
        · obtain ⟨v, k1, k2⟩ := rl.at' j sv (gS j sv e)
          exact ⟨v, start_at (map_some_get.mp k1), k2⟩
        · exact rl.sep i j si sj a (gS i si e1) o1 (gS j sj e2) o2 (gσ i _ k1 (lt i si (gS i si e1))) (gσ j _ k2 (lt j sj (gS j sj e2)))
      have bo0 : BaseOk B Z (args.map some ++ List.replicate (fn.ns - fn.np) none) (start X.N vs) H :=
        ⟨.refl, fun a ⟨j, sv, e, o, k⟩ => .inl ⟨j, sv, gS j sv e, o, gσ j _ k (lt j sv (gS j sv e))⟩, fun i _ => rfl⟩
      refine ⟨_, Z, _, rl0, bo0, wb, ⟨fun S' Z' σ' H' hw rl' bo' _ => ?_, fun S' Z' σ' H' hw _ _ _ => hw.elim, fun r S' Z' σ' H' v hw rl' bo' rv fr => ?_⟩⟩
      · obtain ⟨r', outs, Z'', hΨ, ce⟩ := end_out (v := .non) rl hio hw rl' bo' .non trivial
        exact hQ r' outs Z'' H' .non hΨ ce
      · obtain ⟨r', outs, Z'', hΨ, ce⟩ := end_out rl hio hw rl' bo' rv fr
        exact hQ r' outs Z'' H' v hΨ ce
end
end Fw

set_option Elab.async false
set_option linter.all false
set_option maxRecDepth 100000
set_option maxHeartbeats 4000000
/-! Fw, part T: a table of defs, the head of a law. -/
namespace Fw
open PySem PySem.Spec L2

/-- a def of the text -/
structure De where
  x : Str
  st : Stmt
  N : List Str
  ps : List Str
  fn : Fn
def fnScopeB (N P : List Str) (sc : Scope) : Bool :=
  (match sc.kind with | .function => true | _ => false) && !sc.isCoroutine && !sc.isGenerator && decide N.Nodup && decide (N.take P.length = P) && P.all (fun x => locB sc x) && sc.names.all fun y => match y.2 with | .free => false | _ => true
theorem fnScope_of {N P : List Str} {sc : Scope} (h : fnScopeB N P sc = true) : FnScope N P sc := by
  unfold fnScopeB at h
  simp only [Bool.and_eq_true, decide_eq_true_eq, Bool.not_eq_true', List.all_eq_true] at h
  obtain ⟨⟨⟨⟨⟨⟨h1, h2⟩, h3⟩, h4⟩, h5⟩, h6⟩, h7⟩ := h
  refine ⟨?_, h2, h3, h4, h5, fun x hx => ?_, fun y hy e => ?_⟩
  · split at h1 <;> first | assumption | cases h1
  · have := h6 x hx
    unfold locB at this
    split at this <;> simp_all
  · have := h7 y hy
    rw [e] at this
    cases this
def chkD (M : Nm) (e : De) : Bool :=
  decide (e.ps.length = e.fn.np) && decide (e.N.length = e.fn.ns) && decide e.N.Nodup && fnScopeB e.N e.ps (defScope e.st) && ckB M e.N (fxOf e.fn.io) (defScope e.st) e.fn.body (defBody e.st) && decide (e.fn.np ≤ e.fn.ns)
/-- it stands behind the top -/
def DefAt (K : PySem.W.Frag) (e : De) : Prop := ∃ (f : Addr) (fd : FuncData), PySem.W.nsIn K mainGlobals e.x = some (some (.ref f)) ∧ Fun K e.x e.x e.st f fd
theorem DefAt.mk {K : PySem.W.Frag} {e : De} {f : Addr} {oc : Value} {od an : Option Addr} {osl : Array (Option Value)} {kV doc pm cdv ct : Value} (a : PySem.W.nsIn K mainGlobals e.x = some (some (.ref f)))
    (l : K.lookup f = some ⟨oc, od, .func (PySem.W.fnOf e.x e.x (defArgs e.st) (defBody e.st) (defScope e.st) .none kV doc pm an cdv ct), osl⟩) (c : PySem.W.codeIn K cdv e.x = true) (k : PySem.W.keepIn K (.ref f) = true) : DefAt K e := ⟨f, _, a, fun_mk l c k⟩
/-- how its arguments are bound -/
def BdAt (e : De) : Prop := ∀ (kV doc pm : Value) (an : Option Addr) (cdv ct : Value) (us : List Value), us.length = e.ps.length → bindArgs (PySem.W.fnOf e.x e.x (defArgs e.st) (defBody e.st) (defScope e.st) .none kV doc pm an cdv ct) ⟨us, []⟩ = pure (e.ps.zip us)
def AllP {α : Type} (P : α → Prop) : List α → Prop
  | [] => True
  | e :: r => P e ∧ AllP P r
theorem AllP.get {α : Type} {P : α → Prop} : ∀ {l : List α} {i : Nat} {e : α}, AllP P l → l[i]? = some e → P e
  | [], _, _, _, h => by simp at h
  | _ :: _, 0, _, h, e => by simp at e; subst e; exact h.1
  | _ :: _, i + 1, _, h, e => AllP.get (i := i) h.2 (by simpa using e)
/-- a constant of the module -/
def GlAt (K : PySem.W.Frag) (p : Str × PyData) : Prop :=
  match p.2 with
  | .int i => ∃ t, PySem.W.nsIn K mainGlobals p.1 = some (some (.int i t))
  | .str x => ∃ t, PySem.W.nsIn K mainGlobals p.1 = some (some (.str x t))
  | _ => False
def NoAt (K : PySem.W.Frag) (x : Str) : Prop := PySem.W.nsIn K mainGlobals x = some none
theorem NoAt.mk {K : PySem.W.Frag} {x : Str} (h : PySem.W.nsIn K mainGlobals x = some none) : NoAt K x := h
theorem GlAt.i {K : PySem.W.Frag} {x : Str} {i : Int} {t : Tok} (h : PySem.W.nsIn K mainGlobals x = some (some (.int i t))) : GlAt K (x, .int i) := ⟨t, h⟩
theorem GlAt.s {K : PySem.W.Frag} {x y : Str} {t : Tok} (h : PySem.W.nsIn K mainGlobals x = some (some (.str y t))) : GlAt K (x, .str y) := ⟨t, h⟩
def pgOf (tbl : List De) (gls : List (Str × PyData)) (cl : Nat → Option Value) : Pg where
  M := ⟨fun k => tbl[k]?.map (·.x), fun k => gls[k]?.map (·.1)⟩
  T := fun k => tbl[k]?.map (·.fn)
  gl := fun k => gls[k]?.map (·.2)
  cl := cl
def chkAll (tbl : List De) (gls : List (Str × PyData)) : Bool := tbl.all (chkD (pgOf tbl gls fun _ => none).M)
theorem md_of {P : Program} {w : World} {K : PySem.W.Frag} {h : Heap} {mg : Str → Option Value} {tbl : List De} {gls : List (Str × PyData)} {cl : Nat → Option Value} (X : K.In h) (G : h.Ns mainGlobals mg) (hc : chkAll tbl gls = true) (A : AllP (DefAt K) tbl) (B : AllP BdAt tbl) (C : AllP (GlAt K) gls)
    (D : AllP (NoAt K) bltNames) : Md P w K mg (pgOf tbl gls cl) (fun k => (tbl[k]?.map (·.ps)).getD []) where
  fns := fun k fn e => by
    have e : (tbl[k]?.map (·.fn)) = some fn := e
    cases q : tbl[k]? with
    | none => rw [q] at e; cases e
    | some de =>
      rw [q] at e
      cases e
      have ck := List.all_eq_true.mp hc de (List.mem_of_getElem? q)
      unfold chkD at ck
      simp only [Bool.and_eq_true, decide_eq_true_eq] at ck
      obtain ⟨⟨⟨⟨⟨c1, c2⟩, c3⟩, c4⟩, c5⟩, c6⟩ := ck
      obtain ⟨f, fd, a, F⟩ := A.get q
      have bd := B.get q
      refine ⟨de.x, de.x, de.st, f, fd, de.N, by show tbl[k]?.map (fun z => z.x) = _; rw [q]; rfl, PySem.W.mg_of X G a, F, fun s us hl => ?_, c1, c2, c3, fnScope_of c4, c5, c6⟩
      obtain ⟨oc, od, kV, doc, pm, an, cdv, ct, osl, rfl, lk, hcd⟩ := F.ex
      exact .of_eq (bd kV doc pm an cdv ct us hl)
  dom := fun k x e => by
    have e : (tbl[k]?.map (·.x)) = some x := e
    cases q : tbl[k]? with
    | none => rw [q] at e; cases e
    | some de => exact ⟨de.fn, by show tbl[k]?.map (·.fn) = _; rw [q]; rfl⟩
  gls := fun k x dd e1 e2 => by
    have e1 : (gls[k]?.map (·.1)) = some x := e1
    have e2 : (gls[k]?.map (·.2)) = some dd := e2
    cases q : gls[k]? with
    | none => rw [q] at e1; cases e1
    | some p =>
      rw [q] at e1 e2
      cases e1
      cases e2
      have g := C.get q
      obtain ⟨x, dd⟩ := p
      cases dd with
      | int i =>
        obtain ⟨t, g⟩ := g
        exact ⟨_, .int i, PySem.W.mg_of X G g, ⟨t, rfl⟩, fun Z => .int i⟩
      | str y =>
        obtain ⟨t, g⟩ := g
        exact ⟨_, .str y, PySem.W.mg_of X G g, ⟨t, rfl⟩, fun Z => .str y⟩
      | _ => exact g.elim
  blt := fun x hx => by
    obtain ⟨i, hi⟩ := List.getElem?_of_mem hx
    exact PySem.W.mg_none_of X G (AllP.get (P := NoAt K) D hi)
/-- the law's def keeps its promise -/
theorem head_of {P : Program} {w : World} {K : PySem.W.Frag} {h : Heap} {mg : Str → Option Value} {fa : Addr} {tbl : List De} {gls : List (Str × PyData)} (d kl : Nat) (X : K.In h) (G : h.Ns mainGlobals mg) (hfa : mg "law" = some (.ref fa)) (hc : chkAll tbl gls = true) (B : AllP BdAt tbl)
    (hl : ∃ de, tbl[kl]? = some de ∧ de.x = ("law" : Str) ∧ de.ps = [("script" : Str)]) (A : AllP (DefAt K) tbl) (C : AllP (GlAt K) gls) (D : AllP (NoAt K) bltNames) :
    ∃ fd : FuncData, (∀ (s : Shared) (u : Value), BindsTo s fd ⟨[u], []⟩ [("script", u)]) ∧ ∀ base : Heap, K.In base → base.Ns mainGlobals mg → FnOk P w K mg base (L2.CX P w) d fa fd ["script"] (spF K (pgOf tbl gls fun _ => none) d kl) := by
  obtain ⟨de, q, qx, qp⟩ := hl
  have M := md_of (P := P) (w := w) (cl := fun _ => none) X G hc A B C D
  have e : (pgOf tbl gls fun _ => none).T kl = some de.fn := by show tbl[kl]?.map (fun z => z.fn) = _; rw [q]; rfl
  obtain ⟨x', f', fd', h1, h2, h3, h4, h5, h6⟩ := defs_at M d kl de.fn e
  have hp : ((tbl[kl]?.map (·.ps)).getD []) = [("script" : Str)] := by rw [q]; exact qp
  rw [hp] at h6 h4
  have h1 : (tbl[kl]?.map (·.x)) = some x' := h1
  rw [q] at h1
  have hx : x' = "law" := by rw [← qx]; exact (Option.some.inj h1).symm
  rw [hx, hfa] at h2
  cases h2
  exact ⟨fd', fun s u => h4 s [u] rfl, fun base _ _ => h6 base⟩
theorem noCX {P : Program} {w : World} {H : Hp} {s : Shared} {e : Value} {s' : Shared} (h : L2.CX P w [] H s (fun _ _ _ => False) e s') : False := by
  obtain ⟨_, _, _, _, _, _, _, _, _, _, _, _, z⟩ := h
  exact z
/-- from the plain law -/
theorem plain_of {K : PySem.W.Frag} {tbl : List De} {gls : List (Str × PyData)} {d kl : Nat} {n : Nat} (law : ∀ ns : List Int, ns.length ≤ n → callW (pgOf tbl gls fun _ => none).T (pgOf tbl gls fun _ => none).gl d kl [.ro (ns.map .int)] (fun r _ => r = .z (.bool true)) (fun _ _ => False))
    {H : Hp} {a : Addr} {ns : List Int} (hl : ns.length ≤ n) (hS : SqL K H a (ns.map V.int)) : spF K (pgOf tbl gls fun _ => none) d kl [.ref a] H (fun v _ => v = .bl true) fun _ _ _ => False := by
  refine ⟨H, [.ro (ns.map .int)], _, _, ⟨.refl _, rfl, fun i sv e => ?_, fun i j si sj a e o => ?_⟩, law ns hl, fun r outs Z' H' v hr ce => ?_, fun c outs cls Z' H' dd hc => hc.elim⟩
  · cases i with
    | zero =>
      cases e
      exact ⟨_, rfl, a, _, rfl, hS, .ofInts ns⟩
    | succ i => cases e
  · cases i with
    | zero => cases e; cases o
    | succ i => cases e
  · subst hr
    have rv := ce.rv
    cases rv
    rfl
end Fw

set_option Elab.async false
set_option linter.all false
set_option maxRecDepth 100000
set_option maxHeartbeats 4000000
/-! Fw, part U: reckoning with wishes. -/
namespace Fw
open PySem PySem.Spec L2
theorem callW_succ {T : Tb} {gl : Nat → Option D} {d k : Nat} {args : List SV} {Q : RV → List SV → Prop} {Xq : Nat → List SV → Prop} {fn : Fn} (h : T k = some fn) (l : args.length = fn.np) (i : ioOk fn.io args = true)
    (w : wpB ⟨callW T gl d, gl, fun c S => ∃ outs, outsOf fn.io args S = some outs ∧ Xq c outs⟩ fn.body (args.map some ++ List.replicate (fn.ns - fn.np) none) ⟨fun S => endW fn args (.z .none) S Q, fun r S => endW fn args r S Q, fun _ => False⟩) : callW T gl (d + 1) k args Q Xq := ⟨fn, h, l, i, w⟩
/-- the same, whatever follows -/
theorem callW_in {T : Tb} {gl : Nat → Option D} {d k : Nat} {args : List SV} {Q : RV → List SV → Prop} {Xq : Nat → List SV → Prop} {fn : Fn} (h : T k = some fn) (l : args.length = fn.np) (i : ioOk fn.io args = true)
    (w : ∀ (xq : Nat → SS → Prop) (E : En), (∀ r S, endW fn args r S Q → E.rt r S) → (∀ S, endW fn args (.z .none) S Q → E.nx S) → wpB ⟨callW T gl d, gl, xq⟩ fn.body (args.map some ++ List.replicate (fn.ns - fn.np) none) E) : callW T gl (d + 1) k args Q Xq :=
  callW_succ h l i (w _ _ (fun _ _ h => h) fun _ h => h)
@[simp ↓] theorem hold1 {α : Type} {P : α → Prop} {t : Tag P} {a : α} : hold P t a = P a := rfl
@[simp ↓] theorem hold2 {α β : Type} {P : α → β → Prop} {t : Tag P} {a : α} {b : β} : hold P t a b = P a b := rfl
@[simp ↓] theorem hold_nx {E : En} {t : Tag E} {S : SS} : (hold E t).nx S = E.nx S := rfl
@[simp ↓] theorem hold_bk {E : En} {t : Tag E} {S : SS} : (hold E t).bk S = E.bk S := rfl
@[simp ↓] theorem hold_rt {E : En} {t : Tag E} {r : RV} {S : SS} : (hold E t).rt r S = E.rt r S := rfl
def bindO {α : Type} (o : Option α) (P : α → Prop) : Prop := match o with
  | some x => P x
  | none => False
@[simp ↓] theorem bindO_some {α : Type} {x : α} {P : α → Prop} : bindO (some x) P = P x := rfl
@[simp ↓] theorem ex_o {α : Type} {o : Option α} {P : α → Prop} : (∃ x, o = some x ∧ P x) = bindO o (hold P ⟨⟩) := by
  show _ = bindO o P
  apply propext
  cases o with
  | none => exact ⟨fun ⟨x, h, _⟩ => (by cases h), fun h => h.elim⟩
  | some y => exact ⟨fun ⟨x, h, p⟩ => by cases h; exact p, fun h => ⟨y, rfl, h⟩⟩
@[simp ↓] theorem ex_o1 {α : Type} {o : Option α} : (∃ x, o = some x) = bindO o fun _ => True := by
  apply propext
  cases o with
  | none => exact ⟨fun ⟨x, h⟩ => (by cases h), fun h => h.elim⟩
  | some y => exact ⟨fun _ => trivial, fun _ => ⟨y, rfl⟩⟩
def bindOO {α : Type} (o : Option (Option α)) (P : α → Prop) : Prop := match o with
  | some (some x) => P x
  | _ => False
@[simp ↓] theorem bindOO_some {α : Type} {x : α} {P : α → Prop} : bindOO (some (some x)) P = P x := rfl
@[simp ↓] theorem ex_oo {α : Type} {o : Option (Option α)} {P : α → Prop} : (∃ x, o = some (some x) ∧ P x) = bindOO o (hold P ⟨⟩) := by
  show _ = bindOO o P
  apply propext
  rcases o with _ | _ | y
  · exact ⟨fun ⟨x, h, _⟩ => (by cases h), fun h => h.elim⟩
  · exact ⟨fun ⟨x, h, _⟩ => (by cases h), fun h => h.elim⟩
  · exact ⟨fun ⟨x, h, p⟩ => by cases h; exact p, fun h => ⟨y, rfl, h⟩⟩
@[simp ↓] theorem ex_oo1 {α : Type} {o : Option (Option α)} : (∃ x, o = some (some x)) = bindOO o fun _ => True := by
  apply propext
  rcases o with _ | _ | y
  · exact ⟨fun ⟨x, h⟩ => (by cases h), fun h => h.elim⟩
  · exact ⟨fun ⟨x, h⟩ => (by cases h), fun h => h.elim⟩
  · exact ⟨fun _ => trivial, fun _ => ⟨y, rfl⟩⟩
def bindB (d : D) (P : Bool → Prop) : Prop := match d with
  | .bool k => P k
  | _ => False
@[simp ↓] theorem bindB_b {k : Bool} {P : Bool → Prop} : bindB (.bool k) P = P k := rfl
@[simp ↓] theorem ex_b {d : D} {P : Bool → Prop} : (∃ k, d = .bool k ∧ P k) = bindB d (hold P ⟨⟩) := by
  show _ = bindB d P
  apply propext
  constructor
  · intro ⟨k, e, p⟩
    subst e
    exact p
  · intro h
    cases d <;> first | exact ⟨_, rfl, h⟩ | exact h.elim
def bindF (r : RV) (P : SV → Prop) : Prop := match r with
  | .f sv => P sv
  | _ => False
@[simp ↓] theorem bindF_f {sv : SV} {P : SV → Prop} : bindF (.f sv) P = P sv := rfl
@[simp ↓] theorem ex_f {r : RV} {P : SV → Prop} : (∃ sv, r = .f sv ∧ P sv) = bindF r (hold P ⟨⟩) := by
  show _ = bindF r P
  apply propext
  constructor
  · intro ⟨k, e, p⟩
    subst e
    exact p
  · intro h
    cases r <;> first | exact ⟨_, rfl, h⟩ | exact h.elim
@[simp] theorem isOwn_val {x : D} : (SV.val x).isOwn = false := rfl
@[simp] theorem isOwn_ro {x : List D} : (SV.ro x).isOwn = false := rfl
@[simp] theorem isOwn_ls {x : List D} : (SV.ls x).isOwn = true := rfl
@[simp] theorem isOwn_dk {x : List (Key × D)} : (SV.dk x).isOwn = true := rfl
@[simp] theorem isOwn_dt {x : List (List Key × D)} : (SV.dt x).isOwn = true := rfl
@[simp] theorem isRef_val {x : D} : (SV.val x).isRef = false := rfl
@[simp] theorem isRef_ro {x : List D} : (SV.ro x).isRef = true := rfl
@[simp] theorem isRef_ls {x : List D} : (SV.ls x).isRef = true := rfl
@[simp] theorem isRef_dk {x : List (Key × D)} : (SV.dk x).isRef = true := rfl
@[simp] theorem isRef_dt {x : List (List Key × D)} : (SV.dt x).isRef = true := rfl
@[simp] theorem isRo_val {x : D} : (SV.val x).isRo = false := rfl
@[simp] theorem isRo_ro {x : List D} : (SV.ro x).isRo = true := rfl
@[simp] theorem isRo_ls {x : List D} : (SV.ls x).isRo = false := rfl
@[simp] theorem isRo_dk {x : List (Key × D)} : (SV.dk x).isRo = false := rfl
@[simp] theorem isRo_dt {x : List (List Key × D)} : (SV.dt x).isRo = false := rfl
@[simp] theorem d_val {x : D} : (SV.val x).d = x := rfl
@[simp] theorem d_ro {x : List D} : (SV.ro x).d = .list x := rfl
@[simp] theorem d_ls {x : List D} : (SV.ls x).d = .list x := rfl
@[simp] theorem d_dk {x : List (Key × D)} : (SV.dk x).d = .dict (x.map fun p => (kD p.1, p.2)) := rfl
@[simp] theorem d_dt {x : List (List Key × D)} : (SV.dt x).d = .dict (x.map fun p => (.tuple (p.1.map kD), p.2)) := rfl
@[simp] theorem eqOk_ii {i j : Int} : eqOk (.int i) (.int j) = True := rfl
@[simp] theorem eqOk_bb {i j : Bool} : eqOk (.bool i) (.bool j) = True := rfl
@[simp] theorem eqOk_ss {i j : Str} : eqOk (.str i) (.str j) = True := rfl
@[simp] theorem eqOk_nn : eqOk .none .none = True := rfl
@[simp] theorem eqOk_ni {i : Int} : eqOk .none (.int i) = True := rfl
@[simp] theorem eqOk_in {i : Int} : eqOk (.int i) .none = True := rfl
@[simp] theorem eqOk_ns {i : Str} : eqOk .none (.str i) = True := rfl
@[simp] theorem eqOk_sn {i : Str} : eqOk (.str i) .none = True := rfl
@[simp] theorem sz_eq : sizeLine = 16777216 := sizeLine_eq
/-- places -/
@[simp] theorem atI_0 {α : Type} {x : α} {xs : List α} : atI (x :: xs) 0 = some x := atI_nat (j := 0) rfl
@[simp] theorem atI_1 {α : Type} {x y : α} {xs : List α} : atI (x :: y :: xs) 1 = some y := atI_nat (j := 1) rfl
@[simp] theorem atI_2 {α : Type} {x y z : α} {xs : List α} : atI (x :: y :: z :: xs) 2 = some z := atI_nat (j := 2) rfl
@[simp] theorem atI_3 {α : Type} {x y z u : α} {xs : List α} : atI (x :: y :: z :: u :: xs) 3 = some u := atI_nat (j := 3) rfl
@[simp] theorem atI_4 {α : Type} {x y z u v : α} {xs : List α} : atI (x :: y :: z :: u :: v :: xs) 4 = some v := atI_nat (j := 4) rfl
@[simp] theorem ixN_50 : ixN 5 0 = some 0 := by decide
@[simp] theorem ixN_51 : ixN 5 1 = some 1 := by decide
@[simp] theorem ixN_52 : ixN 5 2 = some 2 := by decide
@[simp] theorem ixN_53 : ixN 5 3 = some 3 := by decide
@[simp] theorem ixN_54 : ixN 5 4 = some 4 := by decide
/-- isinstance -/
@[simp] theorem isi_ii {i : Int} : isiB "int" (.int i) = true := by simp [isiB, tyD]
@[simp] theorem isi_bi {i : Int} : isiB "bool" (.int i) = false := by simp [isiB, tyD]
@[simp] theorem isi_ib {b : Bool} : isiB "int" (.bool b) = true := by simp [isiB, tyD]
@[simp] theorem isi_bb {b : Bool} : isiB "bool" (.bool b) = true := by simp [isiB, tyD]
@[simp] theorem isi_tt {xs : List D} : isiB "tuple" (.tuple xs) = true := by simp [isiB, tyD]
@[simp] theorem isi_ti {i : Int} : isiB "tuple" (.int i) = false := by simp [isiB, tyD]
@[simp] theorem isi_tb {b : Bool} : isiB "tuple" (.bool b) = false := by simp [isiB, tyD]
@[simp] theorem isi_ts {x : Str} : isiB "tuple" (.str x) = false := by simp [isiB, tyD]
@[simp] theorem isi_tn : isiB "tuple" .none = false := by simp [isiB, tyD]
@[simp] theorem isi_tl {xs : List D} : isiB "tuple" (.list xs) = false := by simp [isiB, tyD]
@[simp] theorem isi_td {xs : List (D × D)} : isiB "tuple" (.dict xs) = false := by simp [isiB, tyD]
@[simp] theorem isi_li {i : Int} : isiB "list" (.int i) = false := by simp [isiB, tyD]
@[simp] theorem isi_lb {b : Bool} : isiB "list" (.bool b) = false := by simp [isiB, tyD]
@[simp] theorem isi_ls {x : Str} : isiB "list" (.str x) = false := by simp [isiB, tyD]
@[simp] theorem isi_ln : isiB "list" .none = false := by simp [isiB, tyD]
@[simp] theorem isi_ll {xs : List D} : isiB "list" (.list xs) = true := by simp [isiB, tyD]
@[simp] theorem isi_lt {xs : List D} : isiB "list" (.tuple xs) = false := by simp [isiB, tyD]
@[simp] theorem isi_ld {xs : List (D × D)} : isiB "list" (.dict xs) = false := by simp [isiB, tyD]
@[simp] theorem isi_it {xs : List D} : isiB "int" (.tuple xs) = false := by simp [isiB, tyD]
@[simp] theorem isi_il {xs : List D} : isiB "int" (.list xs) = false := by simp [isiB, tyD]
@[simp] theorem isi_is {x : Str} : isiB "int" (.str x) = false := by simp [isiB, tyD]
@[simp] theorem isi_in : isiB "int" .none = false := by simp [isiB, tyD]
@[simp] theorem isi_id {xs : List (D × D)} : isiB "int" (.dict xs) = false := by simp [isiB, tyD]
@[simp] theorem isi_bt {xs : List D} : isiB "bool" (.tuple xs) = false := by simp [isiB, tyD]
@[simp] theorem isi_bl {xs : List D} : isiB "bool" (.list xs) = false := by simp [isiB, tyD]
@[simp] theorem isi_bs {x : Str} : isiB "bool" (.str x) = false := by simp [isiB, tyD]
@[simp] theorem isi_bn : isiB "bool" .none = false := by simp [isiB, tyD]
@[simp] theorem isi_bd {xs : List (D × D)} : isiB "bool" (.dict xs) = false := by simp [isiB, tyD]
@[simp] theorem isi_di {i : Int} : isiB "dict" (.int i) = false := by simp [isiB, tyD]
@[simp] theorem isi_db {b : Bool} : isiB "dict" (.bool b) = false := by simp [isiB, tyD]
@[simp] theorem isi_ds {x : Str} : isiB "dict" (.str x) = false := by simp [isiB, tyD]
@[simp] theorem isi_dn : isiB "dict" .none = false := by simp [isiB, tyD]
@[simp] theorem isi_dl {xs : List D} : isiB "dict" (.list xs) = false := by simp [isiB, tyD]
@[simp] theorem isi_dt {xs : List D} : isiB "dict" (.tuple xs) = false := by simp [isiB, tyD]
@[simp] theorem isi_dd {xs : List (D × D)} : isiB "dict" (.dict xs) = true := by simp [isiB, tyD]
@[simp] theorem isi_si {i : Int} : isiB "str" (.int i) = false := by simp [isiB, tyD]
@[simp] theorem isi_sb {b : Bool} : isiB "str" (.bool b) = false := by simp [isiB, tyD]
@[simp] theorem isi_ss {x : Str} : isiB "str" (.str x) = true := by simp [isiB, tyD]
@[simp] theorem isi_sn : isiB "str" .none = false := by simp [isiB, tyD]
@[simp] theorem isi_sl {xs : List D} : isiB "str" (.list xs) = false := by simp [isiB, tyD]
@[simp] theorem isi_st {xs : List D} : isiB "str" (.tuple xs) = false := by simp [isiB, tyD]
@[simp] theorem isi_sd {xs : List (D × D)} : isiB "str" (.dict xs) = false := by simp [isiB, tyD]
@[simp] theorem allB_rep {n : Nat} : allB (List.replicate n true) = true := by unfold allB; simp
theorem allB_map {α : Type} {p : α → Bool} {l : List α} : allB (l.map p) = l.all p := by unfold allB; rw [List.all_map]; rfl
theorem anyB_map {α : Type} {p : α → Bool} {l : List α} : anyB (l.map p) = l.any p := by unfold anyB; rw [List.any_map]; rfl
/-- == of plain data -/
@[simp] theorem eqv_ii {i j : Int} : PyData.eqv (.int i) (.int j) = decide (i = j) := by unfold PyData.eqv; first | rfl | (simp; done) | (by_cases h : i = j <;> simp [h])
@[simp] theorem eqv_bb {i j : Bool} : PyData.eqv (.bool i) (.bool j) = decide (i = j) := by unfold PyData.eqv; cases i <;> cases j <;> rfl
/-- a comprehension whose turns leave the state as it was -/
theorem comp_ok {bt : D → SS → (SS → Prop) → Prop} {ct : SS → (Bool → SS → Prop) → Prop} {et : SS → (RV → SS → Prop) → Prop} {own : List Nat} {S : SS} (f : D → Option D) : ∀ {ds : List D} {Q : List D → SS → Prop},
    (∀ d ∈ ds, ∀ N : Option D → SS → Prop, N (f d) S → bt d S fun S1 => ct S1 fun b S2 => (b = true → et S2 fun r S3 => fzS S3 r fun x S4 => N (some x) (killS S4 own)) ∧ (b = false → N none (killS S2 own))) →
    Q (ds.filterMap f) S → compW bt ct et own ds S Q
  | [], Q, _, h => h
  | d :: ds, Q, step, h => by
    refine step d List.mem_cons_self (fun o S' => match o with
      | some x => compW bt ct et own ds S' fun xs S5 => Q (x :: xs) S5
      | none => compW bt ct et own ds S' Q) ?_
    cases e : f d with
    | some x =>
      refine comp_ok f (fun d hd => step d (List.mem_cons_of_mem _ hd)) ?_
      rw [List.filterMap_cons, e] at h
      exact h
    | none =>
      refine comp_ok f (fun d hd => step d (List.mem_cons_of_mem _ hd)) ?_
      rw [List.filterMap_cons, e] at h
      exact h
/-- a for: what holds ahead of turn i -/
theorem for_ok {tg : CT} {kill : List Nat} {bw : SS → En → Prop} {E : En} {Ds : List D} (P : Nat → SS → Prop)
    (step : ∀ (i : Nat) (d : D) (S : SS) (N : SS → Prop), Ds[i]? = some d → P i S → (∀ S2, P (i + 1) S2 → N S2) → bindT tg d S fun S1 => bw S1 ⟨fun S2 => N (killS S2 kill), E.rt, fun S2 => E.nx (killS S2 kill)⟩)
    (fin : ∀ S, P Ds.length S → E.nx S) : ∀ {S : SS}, P 0 S → forW tg kill bw Ds S E := by
  have go : ∀ (ds : List D) (i : Nat) (S : SS), Ds.drop i = ds → i + ds.length = Ds.length → P i S → forW tg kill bw ds S E := by
    intro ds
    induction ds with
    | nil =>
      intro i S h1 h2 h3
      have : i = Ds.length := by simpa using h2
      subst this
      exact fin S h3
    | cons d ds ih =>
      intro i S h1 h2 h3
      have hd : Ds[i]? = some d := by
        have := congrArg (fun l => l[0]?) h1
        simpa [List.getElem?_drop] using this
      refine step i d S (fun S2 => forW tg kill bw ds S2 E) hd h3 fun S2 h => ih (i + 1) S2 ?_ (by simp at h2; omega) h
      have := congrArg List.tail h1
      simpa [List.tail_drop] using this
  exact fun {S} h => go Ds 0 S rfl (by simp) h
/-- a while, by a measure -/
theorem whl_ok {kill : List Nat} {cw : SS → (Bool → SS → Prop) → Prop} {bw : SS → En → Prop} {E : En} (P : SS → Prop) (μ : SS → Nat)
    (step : ∀ (S : SS) (N : SS → Prop), P S → (∀ S2, P S2 → μ S2 < μ S → N S2) → cw S fun b S1 => (b = true → bw S1 ⟨fun S2 => N (killS S2 kill), E.rt, fun S2 => E.nx (killS S2 kill)⟩) ∧ (b = false → E.nx S1)) {S : SS} (h : P S) :
    ∃ n, whlW kill cw bw n S E := by
  have go : ∀ (n : Nat) (S : SS), P S → μ S < n → whlW kill cw bw n S E := by
    intro n
    induction n with
    | zero => intro S _ h; omega
    | succ n ih => exact fun S hP hn => step S (fun S2 => whlW kill cw bw n S2 E) hP fun S2 h1 h2 => ih S2 h1 (by omega)
  exact ⟨_, go (μ S + 1) S h (by omega)⟩
/-- a block's first statement, the rest -/
def hdB : CB → CS
  | .cons s _ => s
  | .nil => .pass
def tlB : CB → CB
  | .cons _ b => b
  | .nil => .nil
/-- the drawing hand: cells, the next one's place, what is left of a wide one, the seed, how many were drawn -/
def hndV (cells : List Int) (i big seed n : Int) : SV := .ls [.list (cells.map .int), .int i, .int big, .int seed, .int n]
def Hnd (sv : SV) : Prop := ∃ (cells : List Int) (i big seed n : Int), sv = hndV cells i big seed n ∧ (∀ c ∈ cells, 0 ≤ c) ∧ 0 ≤ i ∧ 0 ≤ big ∧ 0 ≤ seed ∧ seed < 2 ^ 31 ∧ 0 ≤ n
theorem atI_of {α : Type} {xs : List α} {i : Int} (h0 : 0 ≤ i) (h1 : i < xs.length) : ∃ x, atI xs i = some x ∧ x ∈ xs := by
  obtain ⟨j, rfl⟩ := Int.eq_ofNat_of_zero_le h0
  have hj : j < xs.length := by exact_mod_cast h1
  exact ⟨xs[j], atI_nat (List.getElem?_eq_getElem hj), List.getElem_mem hj⟩
def takeB : Nat → CB → CB
  | 0, _ => .nil
  | _ + 1, .nil => .nil
  | n + 1, .cons s b => .cons s (takeB n b)
def dropB : Nat → CB → CB
  | 0, b => b
  | _ + 1, .nil => .nil
  | n + 1, .cons _ b => dropB n b
/-- a block, cut behind its n-th statement -/
theorem cutB {W : Wv} : ∀ (n : Nat) (b : CB) {S : SS} {E : En}, wpB W b S E = wpB W (takeB n b) S ⟨fun S1 => wpB W (dropB n b) S1 E, E.rt, E.bk⟩
  | 0, _, _, _ => rfl
  | _ + 1, .nil, _, _ => rfl
  | n + 1, .cons s b, S, E => by
    show wpS W s S ⟨fun S1 => wpB W b S1 E, E.rt, E.bk⟩ = wpS W s S ⟨fun S1 => wpB W (takeB n b) S1 ⟨fun S1 => wpB W (dropB n b) S1 E, E.rt, E.bk⟩, E.rt, E.bk⟩
    have e : (fun S1 => wpB W b S1 E) = fun S1 => wpB W (takeB n b) S1 ⟨fun S1 => wpB W (dropB n b) S1 E, E.rt, E.bk⟩ := funext fun S1 => cutB n b
    rw [e]
theorem Hnd.ref {hd : SV} (h : Hnd hd) : hd.isRef = true := by obtain ⟨_, _, _, _, _, rfl, _⟩ := h; rfl
theorem Hnd.own {hd : SV} (h : Hnd hd) : hd.isOwn = true := by obtain ⟨_, _, _, _, _, rfl, _⟩ := h; rfl
theorem Hnd.nro {hd : SV} (h : Hnd hd) : hd.isRo = false := by obtain ⟨_, _, _, _, _, rfl, _⟩ := h; rfl
end Fw

set_option Elab.async false
set_option linter.all false
set_option maxRecDepth 100000
set_option maxHeartbeats 4000000
/-! Fw, part V: the defs that most laws share, and what they do. -/
namespace Fw
open PySem PySem.Spec L2
def vInteger : Fn := ⟨1, 1, [false], false, (.cons (.ret (.and (.cons (.isi "int" (.var 0)) (.cons (.not (.isi "bool" (.var 0))) .nil)))) .nil)⟩
def vWithin (k0 : Nat) : Fn := ⟨3, 3, [false, false, false], false, (.cons (.ret (.and (.cons (.call k0 (.v (.var 0) .nil)) (.cons (.cmp2 .le .le (.var 1) (.var 0) (.var 2)) .nil)))) .nil)⟩
def vNumber (k0 : Nat) : Fn := ⟨1, 1, [false], false, (.cons (.ret (.and (.cons (.call k0 (.v (.var 0) .nil)) (.cons (.cmp .ge (.var 0) (.int 0)) .nil)))) .nil)⟩
def vTuple : Fn := ⟨3, 3, [false, false, false], false, (.cons (.ret (.and (.cons (.isi "tuple" (.var 0)) (.cons (.cmp2 .le .le (.var 1) (.bi .len (.cons (.var 0) .nil)) (.var 2)) .nil)))) .nil)⟩
def vLot (k1 : Nat) : Fn := ⟨2, 4, [false, false], false, (.cons (.iff (.or (.cons (.not (.e (.isi "tuple" (.var 0)))) (.cons (.not (.e (.bi .all (.cons (.comp (.it (.var 0)) (.v 2) .yes (.call k1 (.v (.var 2) (.v (.int 0) (.v (.bin .sub (.var 1) (.int 1)) .nil)))) [2]) .nil)))) .nil))) (.cons (.ret (.bl false)) .nil) .nil) (.cons (.ret (.bi .all (.cons (.comp (.zip (.var 0) (.sl (.var 0) (.some (.int 1)) .none)) (.t [(.v 2), (.v 3)]) .yes (.cmp .lt (.var 2) (.var 3)) [2, 3]) .nil))) .nil))⟩
def vDivisor : Fn := ⟨2, 2, [false, false], false, (.cons (.par [0, 1] (.cons (.bi .abs (.cons (.var 0) .nil)) (.cons (.bi .abs (.cons (.var 1) .nil)) .nil))) (.cons (.whl (.e (.cmp .ne (.var 1) (.int 0))) (.cons (.par [0, 1] (.cons (.var 1) (.cons (.bin .mod (.var 0) (.var 1)) .nil))) .nil) []) (.cons (.ret (.var 0)) .nil)))⟩
def vCommon : Fn := ⟨2, 2, [false, false], false, (.cons (.whl (.e (.cmp .ne (.var 1) (.int 0))) (.cons (.par [0, 1] (.cons (.var 1) (.cons (.bin .mod (.bi .int (.cons (.var 0) .nil)) (.bi .int (.cons (.var 1) .nil))) .nil))) .nil) []) (.cons (.ret (.var 0)) .nil))⟩
def vHand (c1 c2 : Int) : Fn := ⟨1, 3, [true], true, (.cons (.set 1 (.comp (.it (.sl (.var 0) .none (.some (.int 63)))) (.v 2) .yes (.bi .abs (.cons (.bi .int (.cons (.var 2) .nil)) .nil)) [2])) (.cons (.ret (.lst (.cons (.var 1) (.cons (.int 0) (.cons (.int 0) (.cons (.bin .add (.int c1) (.bin .mul (.int c2) (.bi .len (.cons (.var 1) .nil)))) (.cons (.int 0) .nil))))))) .nil))⟩
def vDrawA : Fn := ⟨2, 5, [true, false], false, (.cons (.iff (.and (.cons (.e (.cmp .eq (.ix (.var 0) (.int 2)) (.int 0))) (.cons (.e (.cmp .lt (.ix (.var 0) (.int 1)) (.bi .len (.cons (.ix (.var 0) (.int 0)) .nil)))) .nil))) (.cons (.set 2 (.ix (.ix (.var 0) (.int 0)) (.ix (.var 0) (.int 1)))) (.cons (.ixs (.var 0) (.int 1) (.bin .add (.ix (.var 0) (.int 1)) (.int 1))) (.cons (.ixs (.var 0) (.int 3) (.bin .mod (.bi .int (.cons (.bin .add (.bin .add (.bin .mul (.ix (.var 0) (.int 3)) (.int 69621)) (.var 2)) (.int 29)) .nil)) (.int 2147483629))) (.cons (.iff (.e (.cmp .ge (.var 2) (.bin .pow (.int 10) (.int 18)))) (.cons (.ixs (.var 0) (.int 2) (.var 2)) .nil) .nil) .nil)))) .nil) (.cons (.iff (.e (.cmp .gt (.ix (.var 0) (.int 2)) (.int 0))) (.cons (.set 3 (.bin .mod (.bi .int (.cons (.ix (.var 0) (.int 2)) .nil)) (.var 1))) (.cons (.ixs (.var 0) (.int 2) (.bin .fdiv (.ix (.var 0) (.int 2)) (.var 1))) (.cons (.ret (.var 3)) .nil))) .nil) (.cons (.ixs (.var 0) (.int 4) (.bin .add (.ix (.var 0) (.int 4)) (.int 1))) (.cons (.set 4 (.bin .mod (.bi .int (.cons (.bin .mul (.bi .int (.cons (.bin .add (.ix (.var 0) (.int 3)) (.bin .mul (.int 7919) (.ix (.var 0) (.int 4)))) .nil)) (.int 48271)) .nil)) (.int 2147483647))) (.cons (.set 4 (.bin .mod (.bi .int (.cons (.bin .mul (.var 4) (.bin .add (.bin .fdiv (.var 4) (.int 1009)) (.int 69621))) .nil)) (.int 2147483647))) (.cons (.set 4 (.bin .mod (.bi .int (.cons (.bin .mul (.var 4) (.bin .add (.bin .fdiv (.var 4) (.int 2003)) (.int 40692))) .nil)) (.int 2147483399))) (.cons (.ret (.bin .mod (.bi .int (.cons (.bin .fdiv (.var 4) (.int 16)) .nil)) (.var 1))) .nil)))))))⟩
def vDrawB : Fn := ⟨2, 5, [true, false], false, (.cons (.iff (.and (.cons (.e (.cmp .eq (.ix (.var 0) (.int 2)) (.int 0))) (.cons (.e (.cmp .lt (.ix (.var 0) (.int 1)) (.bi .len (.cons (.ix (.var 0) (.int 0)) .nil)))) .nil))) (.cons (.set 2 (.ix (.ix (.var 0) (.int 0)) (.ix (.var 0) (.int 1)))) (.cons (.ixs (.var 0) (.int 1) (.bin .add (.ix (.var 0) (.int 1)) (.int 1))) (.cons (.ixs (.var 0) (.int 3) (.bin .mod (.bi .int (.cons (.bin .add (.bin .add (.bin .mul (.ix (.var 0) (.int 3)) (.int 48271)) (.bin .mul (.var 2) (.int 7))) (.int 31)) .nil)) (.int 2147483587))) (.cons (.ixs (.var 0) (.int 2) (.ife (.e (.cmp .ge (.var 2) (.bin .pow (.int 10) (.int 18)))) (.var 2) (.int 0))) .nil)))) .nil) (.cons (.iff (.e (.cmp .gt (.ix (.var 0) (.int 2)) (.int 0))) (.cons (.set 3 (.bin .mod (.bi .int (.cons (.ix (.var 0) (.int 2)) .nil)) (.var 1))) (.cons (.ixs (.var 0) (.int 2) (.bin .fdiv (.ix (.var 0) (.int 2)) (.var 1))) (.cons (.ret (.var 3)) .nil))) .nil) (.cons (.ixs (.var 0) (.int 4) (.bin .add (.ix (.var 0) (.int 4)) (.int 1))) (.cons (.set 4 (.bin .mod (.bi .int (.cons (.bin .mul (.bi .int (.cons (.bin .add (.ix (.var 0) (.int 3)) (.bin .mul (.int 7919) (.ix (.var 0) (.int 4)))) .nil)) (.int 69621)) .nil)) (.int 2147483647))) (.cons (.set 4 (.bin .mod (.bi .int (.cons (.bin .mul (.var 4) (.bin .add (.bin .fdiv (.var 4) (.int 1009)) (.int 40692))) .nil)) (.int 2147483399))) (.cons (.set 4 (.bin .mod (.bi .int (.cons (.bin .mul (.var 4) (.bin .add (.bin .fdiv (.var 4) (.int 2003)) (.int 48271))) .nil)) (.int 2147483629))) (.cons (.ret (.bin .mod (.bi .int (.cons (.bin .fdiv (.var 4) (.int 16)) .nil)) (.var 1))) .nil)))))))⟩
def vSome (kd : Nat) : Fn := ⟨2, 2, [true, false], false, (.cons (.ret (.ix (.var 1) (.call kd (.s 0 (.v (.bi .len (.cons (.var 1) .nil)) .nil))))) .nil)⟩
def vIs (ki : Nat) : Fn := ⟨2, 5, [false, false], false, (.cons (.iff (.or (.cons (.e (.isi "bool" (.var 0))) (.cons (.e (.isi "bool" (.var 1))) .nil))) (.cons (.ret (.and (.cons (.isi "bool" (.var 0)) (.cons (.isi "bool" (.var 1)) (.cons (.cmp .eq (.var 0) (.var 1)) .nil))))) .nil) .nil) (.cons (.iff (.or (.cons (.e (.isi "tuple" (.var 0))) (.cons (.e (.isi "list" (.var 0))) .nil))) (.cons (.iff (.or (.cons (.e (.cmp .ne (.isi "tuple" (.var 0)) (.isi "tuple" (.var 1)))) (.cons (.e (.cmp .ne (.isi "list" (.var 0)) (.isi "list" (.var 1)))) .nil))) (.cons (.ret (.bl false)) .nil) .nil) (.cons (.ret (.and (.cons (.cmp .eq (.bi .len (.cons (.var 0) .nil)) (.bi .len (.cons (.var 1) .nil))) (.cons (.bi .all (.cons (.comp (.zip (.var 0) (.var 1)) (.t [(.v 2), (.v 3)]) .yes (.call ki (.v (.var 2) (.v (.var 3) .nil))) [2, 3]) .nil)) .nil)))) .nil)) .nil) (.cons (.iff (.e (.isi "dict" (.var 0))) (.cons (.iff (.or (.cons (.not (.e (.isi "dict" (.var 1)))) (.cons (.e (.cmp .ne (.bi .len (.cons (.var 0) .nil)) (.bi .len (.cons (.var 1) .nil)))) .nil))) (.cons (.ret (.bl false)) .nil) .nil) (.cons (.ret (.bi .all (.cons (.comp (.it (.var 0)) (.v 4) .yes (.and (.cons (.cmp .isin (.var 4) (.var 1)) (.cons (.call ki (.v (.ix (.var 0) (.var 4)) (.v (.ix (.var 1) (.var 4)) .nil))) .nil))) [4]) .nil))) .nil)) .nil) (.cons (.ret (.and (.cons (.cmp .eq (.isi "int" (.var 0)) (.isi "int" (.var 1))) (.cons (.cmp .eq (.var 0) (.var 1)) .nil)))) .nil))))⟩
section
variable {T : Tb} {gl : Nat → Option D} {d k k0 k1 kd ki : Nat} {Q : RV → List SV → Prop} {Xq : Nat → List SV → Prop}
def intB (v : PyData) : Bool := isiB "int" v && !isiB "bool" v
theorem sp_integer (hT : T k = some vInteger) {v : PyData} (h : Q (.z (.bool (intB v))) [.val v]) : callW T gl (d + 1) k [.val v] Q Xq := by
  refine callW_in (fn := vInteger) hT rfl rfl fun xq E rt _ => ?_
  simp -dsimp [vInteger]
  unfold intB at h
  refine ⟨fun e => rt _ _ ?_, fun e => rt _ _ ?_⟩ <;> (rw [e] at h; simpa -dsimp [vInteger] using h)
def withinB : PyData → Int → Int → Bool
  | .int x, a, b => decide (a ≤ x) && decide (x ≤ b)
  | _, _, _ => false
@[simp] theorem withinB_i {x a b : Int} : withinB (.int x) a b = (decide (a ≤ x) && decide (x ≤ b)) := rfl
@[simp] theorem intB_i {x : Int} : intB (.int x) = true := by simp [intB]
@[simp] theorem intB_b {x : Bool} : intB (.bool x) = false := by simp [intB]
@[simp] theorem intB_s {x : Str} : intB (.str x) = false := by simp [intB]
@[simp] theorem intB_n : intB .none = false := by simp [intB]
@[simp] theorem intB_t {x : List PyData} : intB (.tuple x) = false := by simp [intB]
@[simp] theorem intB_l {x : List PyData} : intB (.list x) = false := by simp [intB]
@[simp] theorem intB_d {x : List (PyData × PyData)} : intB (.dict x) = false := by simp [intB]
theorem sp_within (h0 : T k0 = some vInteger) (hT : T k = some (vWithin k0)) {v : PyData} {a b : Int} (h : Q (.z (.bool (withinB v a b))) [.val v, .val (.int a), .val (.int b)]) : callW T gl (d + 2) k [.val v, .val (.int a), .val (.int b)] Q Xq := by
  refine callW_in (fn := vWithin k0) hT rfl rfl fun xq E rt _ => ?_
  simp -dsimp [vWithin]
  refine sp_integer h0 ?_
  cases v with
  | int v =>
    simp -dsimp
    refine ⟨fun e => rt _ _ ?_, fun e => rt _ _ ?_⟩
    · simp -dsimp [vWithin]
      simpa [e] using h
    · have e' : ¬ a ≤ v := by omega
      simp -dsimp [vWithin]
      simpa [e'] using h
  | _ =>
    simp -dsimp
    refine rt _ _ ?_
    simp -dsimp [vWithin]
    exact h
def numberB : PyData → Bool
  | .int x => decide (0 ≤ x)
  | _ => false
@[simp] theorem numberB_i {x : Int} : numberB (.int x) = decide (0 ≤ x) := rfl
theorem sp_number (h0 : T k0 = some vInteger) (hT : T k = some (vNumber k0)) {v : PyData} (h : Q (.z (.bool (numberB v))) [.val v]) : callW T gl (d + 2) k [.val v] Q Xq := by
  refine callW_in (fn := vNumber k0) hT rfl rfl fun xq E rt _ => ?_
  simp -dsimp [vNumber]
  refine sp_integer h0 ?_
  cases v with
  | int v =>
    simp -dsimp
    refine rt _ _ ?_
    simp -dsimp [vNumber]
    simpa using h
  | _ =>
    simp -dsimp
    refine rt _ _ ?_
    simp -dsimp [vNumber]
    exact h
def tupleB : PyData → Int → Int → Bool
  | .tuple xs, a, b => decide (a ≤ (xs.length : Int)) && decide ((xs.length : Int) ≤ b)
  | _, _, _ => false
@[simp] theorem tupleB_t {xs : List PyData} {a b : Int} : tupleB (.tuple xs) a b = (decide (a ≤ (xs.length : Int)) && decide ((xs.length : Int) ≤ b)) := rfl
theorem sp_tuple (hT : T k = some vTuple) {v : PyData} {a b : Int} (h : Q (.z (.bool (tupleB v a b))) [.val v, .val (.int a), .val (.int b)]) : callW T gl (d + 1) k [.val v, .val (.int a), .val (.int b)] Q Xq := by
  refine callW_in (fn := vTuple) hT rfl rfl fun xq E rt _ => ?_
  simp -dsimp [vTuple]
  cases v with
  | tuple xs =>
    simp -dsimp
    refine ⟨fun e => rt _ _ ?_, fun e => rt _ _ ?_⟩
    · simp -dsimp [vTuple]
      simpa [e] using h
    · have e' : ¬ a ≤ (xs.length : Int) := by omega
      simp -dsimp [vTuple]
      simpa [e'] using h
  | _ =>
    simp -dsimp
    refine rt _ _ ?_
    simp -dsimp [vTuple]
    exact h
theorem fm_bool {α : Type} {p : α → Bool} : ∀ {l : List α}, (l.filterMap fun x => some (PyData.bool (p x))) = (l.map p).map PyData.bool
  | [] => rfl
  | x :: l => by rw [List.filterMap_cons, fm_bool]; rfl
theorem fm_some {α : Type} {p : α → PyData} : ∀ {l : List α}, (l.filterMap fun x => some (p x)) = l.map p
  | [] => rfl
  | x :: l => by rw [List.filterMap_cons, fm_some]; rfl
theorem fm_map {α : Type} {l : List α} {g : α → PyData} {f : PyData → Option PyData} {f' : α → Option PyData} (h : ∀ x, f (g x) = f' x) : (l.map g).filterMap f = l.filterMap f' := by
  rw [List.filterMap_map]
  exact congrArg (fun q => l.filterMap q) (funext h)
theorem gcd_step (x y : Int) : Int.gcd (x % y) y = Int.gcd x y := by
  have h := Int.gcd_add_mul_left_left y (x % y) (x / y)
  have e : x % y + y * (x / y) = x := by first | exact Int.emod_add_mul_ediv x y | exact Int.emod_add_ediv x y
  rw [e] at h
  exact h.symm
def mu2 : SS → Nat
  | [_, some (.val (.int y))] => y.toNat
  | _ => 0
theorem sp_divisor (hT : T k = some vDivisor) {a b : Int} (ha : 0 ≤ a) (hb : 0 ≤ b) (h : Q (.z (.int (Int.gcd a b))) [.val (.int a), .val (.int b)]) : callW T gl (d + 1) k [.val (.int a), .val (.int b)] Q Xq := by
  refine callW_in (fn := vDivisor) hT rfl rfl fun xq E rt _ => ?_
  have ea : (if a < 0 then -a else a) = a := if_neg (by omega)
  have eb : (if b < 0 then -b else b) = b := if_neg (by omega)
  simp -dsimp [vDivisor, ea, eb]
  refine whl_ok (fun S => ∃ x y : Int, 0 ≤ x ∧ 0 ≤ y ∧ Int.gcd x y = Int.gcd a b ∧ S = [some (.val (.int x)), some (.val (.int y))]) mu2 ?_ ⟨a, b, ha, hb, rfl, rfl⟩
  rintro S N ⟨x, y, hx, hy, hg, rfl⟩ hN
  simp -dsimp
  refine ⟨fun e => ?_, fun e => rt _ _ ?_⟩
  · refine ⟨by omega, hN _ ⟨y, x % y, hy, Int.emod_nonneg _ e, ?_, rfl⟩ ?_⟩
    · rw [Int.gcd_comm y, gcd_step, hg]
    · have := Int.emod_lt_of_pos x (b := y) (by omega)
      have := Int.emod_nonneg x (b := y) e
      simp [mu2]
      omega
  · subst e
    simp -dsimp [vDivisor]
    have : (Int.gcd x 0 : Int) = x := by rw [Int.gcd_zero]; omega
    rw [← hg, this] at h
    exact h
theorem sp_common (hT : T k = some vCommon) {a b : Int} (ha : 0 ≤ a) (hb : 0 ≤ b) (h : Q (.z (.int (Int.gcd a b))) [.val (.int a), .val (.int b)]) : callW T gl (d + 1) k [.val (.int a), .val (.int b)] Q Xq := by
  refine callW_in (fn := vCommon) hT rfl rfl fun xq E rt _ => ?_
  simp -dsimp [vCommon]
  refine whl_ok (fun S => ∃ x y : Int, 0 ≤ x ∧ 0 ≤ y ∧ Int.gcd x y = Int.gcd a b ∧ S = [some (.val (.int x)), some (.val (.int y))]) mu2 ?_ ⟨a, b, ha, hb, rfl, rfl⟩
  rintro S N ⟨x, y, hx, hy, hg, rfl⟩ hN
  simp -dsimp
  refine ⟨fun e => ?_, fun e => rt _ _ ?_⟩
  · refine ⟨by omega, hN _ ⟨y, x % y, hy, Int.emod_nonneg _ e, ?_, rfl⟩ ?_⟩
    · rw [Int.gcd_comm y, gcd_step, hg]
    · have := Int.emod_lt_of_pos x (b := y) (by omega)
      have := Int.emod_nonneg x (b := y) e
      simp [mu2]
      omega
  · subst e
    simp -dsimp [vCommon]
    have : (Int.gcd x 0 : Int) = x := by rw [Int.gcd_zero]; omega
    rw [← hg, this] at h
    exact h
theorem sp_drawA (hT : T k = some vDrawA) {hd : SV} (hh : Hnd hd) {m : Int} (m0 : 0 < m) (m1 : m < 2 ^ 30) (h : ∀ r hd', Hnd hd' → 0 ≤ r → r < m → Q (.z (.int r)) [hd', .val (.int m)]) : callW T gl (d + 1) k [hd, .val (.int m)] Q Xq := by
  obtain ⟨cells, i, big, seed, n, rfl, hc, hi, hb, hs, hs2, hn⟩ := hh
  have hh : Hnd (hndV cells i big seed n) := ⟨cells, i, big, seed, n, rfl, hc, hi, hb, hs, hs2, hn⟩
  refine callW_in (fn := vDrawA) hT rfl rfl fun xq E rt _ => ?_
  have part2 : ∀ (hd2 : SV) (c : Option SV), Hnd hd2 → wpB ⟨callW T gl d, gl, xq⟩ (tlB vDrawA.body) [some hd2, some (.val (.int m)), c, none, none] E := by
    rintro hd2 c ⟨cells, i, big, seed, n, rfl, hc, hi, hb, hs, hs2, hn⟩
    unfold hndV
    by_cases hbig : 0 < big
    · simp -dsimp [tlB, vDrawA, hbig, m0, CDiv]
      refine ⟨by omega, rt _ _ ?_⟩
      simp -dsimp [vDrawA]
      exact h _ _ ⟨cells, i, big / m, seed, n, rfl, hc, hi, Int.ediv_nonneg hb (by omega), hs, hs2, hn⟩ (Int.emod_nonneg _ (by omega)) (Int.emod_lt_of_pos _ m0)
    · have : big = 0 := by omega
      subst this
      simp -dsimp [tlB, vDrawA, m0, CDiv, CMul]
      refine ⟨.inl ⟨by omega, by omega⟩, .inl ⟨by omega, by omega⟩, rt _ _ ?_⟩
      simp -dsimp [vDrawA]
      exact h _ _ ⟨cells, i, 0, seed, n + 1, rfl, hc, hi, by omega, hs, hs2, by omega⟩ (Int.emod_nonneg _ (by omega)) (Int.emod_lt_of_pos _ m0)
  show wpB _ (.cons (hdB vDrawA.body) (tlB vDrawA.body)) _ _
  generalize hb2 : tlB vDrawA.body = b2 at part2 ⊢
  unfold hndV at hh ⊢
  by_cases hbig : big = 0
  · by_cases hlt : i < cells.length
    · obtain ⟨x, hx, hm⟩ := atI_of (xs := cells.map PyData.int) hi (by simpa using hlt)
      obtain ⟨c, hcm, rfl⟩ := List.mem_map.mp hm
      have c0 := hc c hcm
      subst hbig
      simp -dsimp [hdB, vDrawA, hlt, hx, CMul, CPow]
      have hnd : ∀ bg, 0 ≤ bg → Hnd (hndV cells (i + 1) bg ((seed * 69621 + c + 29) % 2147483629) n) := fun bg h0 => ⟨_, _, _, _, _, rfl, hc, by omega, h0, Int.emod_nonneg _ (by decide), by have := Int.emod_lt_of_pos (seed * 69621 + c + 29) (b := 2147483629) (by decide); omega, hn⟩
      exact ⟨fun _ => part2 _ _ (hnd _ c0), fun _ => part2 _ _ (hnd 0 (by omega))⟩
    · simp -dsimp [hdB, vDrawA, hlt, hbig]
      subst hbig
      exact part2 _ _ hh
  · simp -dsimp [hdB, vDrawA, hbig]
    exact part2 _ _ hh
theorem sp_drawB (hT : T k = some vDrawB) {hd : SV} (hh : Hnd hd) {m : Int} (m0 : 0 < m) (m1 : m < 2 ^ 30) (h : ∀ r hd', Hnd hd' → 0 ≤ r → r < m → Q (.z (.int r)) [hd', .val (.int m)]) : callW T gl (d + 1) k [hd, .val (.int m)] Q Xq := by
  obtain ⟨cells, i, big, seed, n, rfl, hc, hi, hb, hs, hs2, hn⟩ := hh
  have hh : Hnd (hndV cells i big seed n) := ⟨cells, i, big, seed, n, rfl, hc, hi, hb, hs, hs2, hn⟩
  refine callW_in (fn := vDrawB) hT rfl rfl fun xq E rt _ => ?_
  have part2 : ∀ (hd2 : SV) (c : Option SV), Hnd hd2 → wpB ⟨callW T gl d, gl, xq⟩ (tlB vDrawB.body) [some hd2, some (.val (.int m)), c, none, none] E := by
    rintro hd2 c ⟨cells, i, big, seed, n, rfl, hc, hi, hb, hs, hs2, hn⟩
    unfold hndV
    by_cases hbig : 0 < big
    · simp -dsimp [tlB, vDrawB, hbig, m0, CDiv]
      refine ⟨by omega, rt _ _ ?_⟩
      simp -dsimp [vDrawB]
      exact h _ _ ⟨cells, i, big / m, seed, n, rfl, hc, hi, Int.ediv_nonneg hb (by omega), hs, hs2, hn⟩ (Int.emod_nonneg _ (by omega)) (Int.emod_lt_of_pos _ m0)
    · have : big = 0 := by omega
      subst this
      simp -dsimp [tlB, vDrawB, m0, CDiv, CMul]
      refine ⟨.inl ⟨by omega, by omega⟩, .inl ⟨by omega, by omega⟩, rt _ _ ?_⟩
      simp -dsimp [vDrawB]
      exact h _ _ ⟨cells, i, 0, seed, n + 1, rfl, hc, hi, by omega, hs, hs2, by omega⟩ (Int.emod_nonneg _ (by omega)) (Int.emod_lt_of_pos _ m0)
  show wpB _ (.cons (hdB vDrawB.body) (tlB vDrawB.body)) _ _
  generalize hb2 : tlB vDrawB.body = b2 at part2 ⊢
  unfold hndV at hh ⊢
  by_cases hbig : big = 0
  · by_cases hlt : i < cells.length
    · obtain ⟨x, hx, hm⟩ := atI_of (xs := cells.map PyData.int) hi (by simpa using hlt)
      obtain ⟨c, hcm, rfl⟩ := List.mem_map.mp hm
      have c0 := hc c hcm
      subst hbig
      simp -dsimp [hdB, vDrawB, hlt, hx, CMul, CPow]
      have hnd : ∀ bg, 0 ≤ bg → Hnd (hndV cells (i + 1) bg ((seed * 48271 + c * 7 + 31) % 2147483587) n) := fun bg h0 => ⟨_, _, _, _, _, rfl, hc, by omega, h0, Int.emod_nonneg _ (by decide), by have := Int.emod_lt_of_pos (seed * 48271 + c * 7 + 31) (b := 2147483587) (by decide); omega, hn⟩
      exact ⟨fun _ => part2 _ _ (hnd _ c0), fun _ => part2 _ _ (hnd 0 (by omega))⟩
    · simp -dsimp [hdB, vDrawB, hlt, hbig]
      subst hbig
      exact part2 _ _ hh
  · simp -dsimp [hdB, vDrawB, hbig]
    exact part2 _ _ hh
def absD : PyData → Option PyData
  | .int i => some (.int (if i < 0 then -i else i))
  | _ => none
theorem sp_hand {c1 c2 : Int} (hT : T k = some (vHand c1 c2)) (h1 : 0 ≤ c1 ∧ c1 ≤ 10000) (h2 : 0 ≤ c2 ∧ c2 ≤ 10000) {ns : List Int} (hl : ns.length ≤ 63) (h : ∀ hd, Hnd hd → Q (.f hd) [.ro (ns.map .int)]) : callW T gl (d + 1) k [.ro (ns.map .int)] Q Xq := by
  refine callW_in (fn := vHand c1 c2) hT rfl rfl fun xq E rt _ => ?_
  simp -dsimp [vHand]
  have e : cutD (ns.map PyData.int) none (some 63) = (((ns.drop (HT.sIx (ns.map PyData.int).length 0 none)).take (HT.sIx (ns.map PyData.int).length (ns.map PyData.int).length (some 63) - HT.sIx (ns.map PyData.int).length 0 none)).map PyData.int) := by
    unfold cutD
    rw [List.map_take, List.map_drop]
  rw [e]
  generalize hc : (ns.drop (HT.sIx (ns.map PyData.int).length 0 none)).take (HT.sIx (ns.map PyData.int).length (ns.map PyData.int).length (some 63) - HT.sIx (ns.map PyData.int).length 0 none) = cs
  have hcl : cs.length ≤ 63 := by
    rw [← hc, List.length_take, List.length_drop]
    omega
  refine ⟨by simp; omega, comp_ok absD (fun x hx N hN => ?_) ?_⟩
  · obtain ⟨i, _, rfl⟩ := List.mem_map.mp hx
    simp -dsimp
    exact hN
  · have e2 : (cs.map PyData.int).filterMap absD = (cs.map fun i => if i < 0 then -i else i).map PyData.int := by
      rw [List.filterMap_map, List.map_map, ← List.filterMap_eq_map]
      rfl
    rw [e2]
    have hb : 0 ≤ c2 * (cs.length : Int) ∧ c2 * (cs.length : Int) ≤ 10000 * 63 := ⟨Int.mul_nonneg h2.1 (by omega), Int.mul_le_mul h2.2 (by omega) (by omega) (by omega)⟩
    simp -dsimp [CMul]
    refine ⟨by omega, rt _ _ ?_⟩
    simp -dsimp [vHand]
    have e3 : (cs.map (PyData.int ∘ fun i => if i < 0 then -i else i)) = (cs.map fun i => if i < 0 then -i else i).map PyData.int := by rw [List.map_map]
    rw [e3]
    refine h _ ⟨_, _, _, _, _, rfl, fun c hc => ?_, by omega, by omega, by omega, by omega, by omega⟩
    obtain ⟨i, _, rfl⟩ := List.mem_map.mp hc
    split <;> omega
theorem sp_someA (hK : T kd = some vDrawA) (hT : T k = some (vSome kd)) {hd : SV} (hh : Hnd hd) {xs : List PyData} (h0 : 0 < xs.length) (h1 : xs.length < 2 ^ 30) (h : ∀ x hd', x ∈ xs → Hnd hd' → Q (.z x) [hd', .val (.list xs)]) : callW T gl (d + 2) k [hd, .val (.list xs)] Q Xq := by
  refine callW_in (fn := vSome kd) hT rfl (by simp [vSome, hh.ref]) fun xq E rt _ => ?_
  simp -dsimp [vSome, hh.ref]
  refine sp_drawA hK hh (by omega) (by exact_mod_cast h1) fun r hd' hh' r0 r1 => ?_
  obtain ⟨x, hx, hm⟩ := atI_of (xs := xs) r0 r1
  simp -dsimp [hx]
  refine rt _ _ ?_
  simp -dsimp [vSome, hh'.ref, hh'.own, hh.own]
  exact h x hd' hm hh'
theorem sp_someB (hK : T kd = some vDrawB) (hT : T k = some (vSome kd)) {hd : SV} (hh : Hnd hd) {xs : List PyData} (h0 : 0 < xs.length) (h1 : xs.length < 2 ^ 30) (h : ∀ x hd', x ∈ xs → Hnd hd' → Q (.z x) [hd', .val (.list xs)]) : callW T gl (d + 2) k [hd, .val (.list xs)] Q Xq := by
  refine callW_in (fn := vSome kd) hT rfl (by simp [vSome, hh.ref]) fun xq E rt _ => ?_
  simp -dsimp [vSome, hh.ref]
  refine sp_drawB hK hh (by omega) (by exact_mod_cast h1) fun r hd' hh' r0 r1 => ?_
  obtain ⟨x, hx, hm⟩ := atI_of (xs := xs) r0 r1
  simp -dsimp [hx]
  refine rt _ _ ?_
  simp -dsimp [vSome, hh'.ref, hh'.own, hh.own]
  exact h x hd' hm hh'
@[simp] theorem eqv_ss {x : Str} : PyData.eqv (.str x) (.str x) = true := by unfold PyData.eqv; simp
@[simp] theorem eqv_nn : PyData.eqv .none .none = true := by unfold PyData.eqv; rfl
mutual
/-- texts, numbers, flags, None, in tuples and lists no deeper than n, none of them long -/
def plainD : PyData → Nat → Bool
  | .none, _ => true
  | .bool _, _ => true
  | .int _, _ => true
  | .str _, _ => true
  | .list xs, n => match n with
    | 0 => false
    | n + 1 => decide (xs.length ≤ 16777216) && plainDs xs n
  | .tuple xs, n => match n with
    | 0 => false
    | n + 1 => decide (xs.length ≤ 16777216) && plainDs xs n
  | .dict _, _ => false
def plainDs : List PyData → Nat → Bool
  | [], _ => true
  | d :: ds, n => plainD d n && plainDs ds n
end
theorem plainDs_mem {n : Nat} : ∀ {xs : List PyData}, plainDs xs n = true → ∀ x ∈ xs, plainD x n = true
  | [], _, x, h => by cases h
  | y :: ys, ok, x, h => by
    have k' : plainD y n = true ∧ plainDs ys n = true := by simpa [plainDs] using ok
    rcases List.mem_cons.mp h with rfl | h
    · exact k'.1
    · exact plainDs_mem k'.2 x h
theorem plainDs_of {n : Nat} : ∀ {xs : List PyData}, (∀ x ∈ xs, plainD x n = true) → plainDs xs n = true
  | [], _ => rfl
  | y :: ys, h => by
    show (plainD y n && plainDs ys n) = true
    rw [h y List.mem_cons_self, plainDs_of fun x hx => h x (List.mem_cons_of_mem _ hx)]
    rfl
theorem plainD_tup {n : Nat} {xs : List PyData} (hl : xs.length ≤ 16777216) (h : ∀ x ∈ xs, plainD x n = true) : plainD (.tuple xs) (n + 1) = true := by
  show (decide (xs.length ≤ 16777216) && plainDs xs n) = true
  rw [plainDs_of h, decide_eq_true hl]; rfl
theorem plainD_lst {n : Nat} {xs : List PyData} (hl : xs.length ≤ 16777216) (h : ∀ x ∈ xs, plainD x n = true) : plainD (.list xs) (n + 1) = true := by
  show (decide (xs.length ≤ 16777216) && plainDs xs n) = true
  rw [plainDs_of h, decide_eq_true hl]; rfl
theorem okDs_of {n : Nat} : ∀ {xs : List PyData}, (∀ x ∈ xs, okD x n = true) → okDs xs n = true
  | [], _ => rfl
  | y :: ys, h => by
    show (okD y n && okDs ys n) = true
    rw [h y List.mem_cons_self, okDs_of fun x hx => h x (List.mem_cons_of_mem _ hx)]
    rfl
theorem okDs_mem {n : Nat} : ∀ {xs : List PyData}, okDs xs n = true → ∀ x ∈ xs, okD x n = true
  | [], _, x, h => by cases h
  | y :: ys, ok, x, h => by
    have k' : okD y n = true ∧ okDs ys n = true := by simpa [okDs] using ok
    rcases List.mem_cons.mp h with rfl | h
    · exact k'.1
    · exact okDs_mem k'.2 x h
theorem zip_mem {xs : List PyData} {p : PyData} (h : p ∈ List.zipWith (fun x y => PyData.tuple [x, y]) xs xs) : ∃ x ∈ xs, p = .tuple [x, x] := by
  rw [List.zipWith_self] at h
  obtain ⟨x, hx, rfl⟩ := List.mem_map.mp h
  exact ⟨x, hx, rfl⟩
theorem all_true {α : Type} {l : List α} : (l.filterMap fun _ => some (PyData.bool true)) = (List.replicate l.length true).map PyData.bool := by
  induction l with
  | nil => rfl
  | cons x l ih => rw [List.filterMap_cons]; simp [ih, List.replicate_succ]
theorem sp_is (hT : T k = some (vIs k)) : ∀ (n : Nat) (v : PyData) {d : Nat} {Q : RV → List SV → Prop} {Xq : Nat → List SV → Prop}, plainD v n = true → Q (.z (.bool true)) [.val v, .val v] → callW T gl (d + n + 1) k [.val v, .val v] Q Xq := by
  intro n
  induction n with
  | zero =>
    intro v d Q Xq ok h
    refine callW_in (fn := vIs k) hT rfl rfl fun xq E rt _ => ?_
    cases v with
    | int i => simp -dsimp [vIs]; refine rt _ _ ?_; simp -dsimp [vIs]; exact h
    | bool i => simp -dsimp [vIs]; refine rt _ _ ?_; simp -dsimp [vIs]; exact h
    | str i => simp -dsimp [vIs]; refine rt _ _ ?_; simp -dsimp [vIs]; exact h
    | none => simp -dsimp [vIs]; refine rt _ _ ?_; simp -dsimp [vIs]; exact h
    | tuple xs => simp [plainD] at ok
    | list xs => simp [plainD] at ok
    | dict xs => simp [plainD] at ok
  | succ n ih =>
    intro v d Q Xq ok h
    refine callW_in (fn := vIs k) hT rfl rfl fun xq E rt _ => ?_
    cases v with
    | int i => simp -dsimp [vIs]; refine rt _ _ ?_; simp -dsimp [vIs]; exact h
    | bool i => simp -dsimp [vIs]; refine rt _ _ ?_; simp -dsimp [vIs]; exact h
    | str i => simp -dsimp [vIs]; refine rt _ _ ?_; simp -dsimp [vIs]; exact h
    | none => simp -dsimp [vIs]; refine rt _ _ ?_; simp -dsimp [vIs]; exact h
    | tuple xs =>
      have ok' : xs.length ≤ 16777216 ∧ plainDs xs n = true := by simpa [plainD] using ok
      simp -dsimp [vIs]
      refine ⟨xs, xs, ⟨rfl, rfl⟩, by omega, comp_ok (fun _ => some (.bool true)) (fun p hp N hN => ?_) ?_⟩
      · obtain ⟨x, hx, rfl⟩ := zip_mem hp
        simp -dsimp
        refine ih x (plainDs_mem ok'.2 x hx) ?_
        simp -dsimp
        exact hN
      · rw [all_true]
        simp -dsimp
        refine ⟨List.replicate xs.length true, by rw [List.map_replicate], ?_⟩
        rw [allB_rep]
        refine rt _ _ ?_
        simp -dsimp [vIs]
        exact h
    | list xs =>
      have ok' : xs.length ≤ 16777216 ∧ plainDs xs n = true := by simpa [plainD] using ok
      simp -dsimp [vIs]
      refine ⟨xs, xs, ⟨rfl, rfl⟩, by omega, comp_ok (fun _ => some (.bool true)) (fun p hp N hN => ?_) ?_⟩
      · obtain ⟨x, hx, rfl⟩ := zip_mem hp
        simp -dsimp
        refine ih x (plainDs_mem ok'.2 x hx) ?_
        simp -dsimp
        exact hN
      · rw [all_true]
        simp -dsimp
        refine ⟨List.replicate xs.length true, by rw [List.map_replicate], ?_⟩
        rw [allB_rep]
        refine rt _ _ ?_
        simp -dsimp [vIs]
        exact h
    | dict xs => simp [plainD] at ok
end
end Fw

set_option Elab.async false
set_option linter.all false
set_option maxRecDepth 100000
set_option maxHeartbeats 4000000
/-! Fw, part W: plain helpers: == of plain data, sorting of ints, places. -/
namespace Fw
open PySem PySem.Spec L2
mutual
/-- no flags, no dicts: == is being the same -/
def sameD : PyData → Bool
  | .none => true
  | .bool _ => false
  | .int _ => true
  | .str _ => true
  | .list xs => sameDs xs
  | .tuple xs => sameDs xs
  | .dict _ => false
def sameDs : List PyData → Bool
  | [] => true
  | x :: xs => sameD x && sameDs xs
end
theorem sameDs_of : ∀ {xs : List PyData}, (∀ x ∈ xs, sameD x = true) → sameDs xs = true
  | [], _ => rfl
  | y :: ys, h => by
    show (sameD y && sameDs ys) = true
    rw [h y List.mem_cons_self, sameDs_of fun x hx => h x (List.mem_cons_of_mem _ hx)]
    rfl
mutual
theorem eqv_same : ∀ d e : PyData, sameD d = true → sameD e = true → (PyData.eqv d e = true ↔ d = e)
  | .none, e, h, k => by cases e <;> first | (cases k; done) | simp [PyData.eqv]
  | .bool _, e, h, k => by cases h
  | .int i, e, h, k => by cases e <;> first | (cases k; done) | simp [PyData.eqv]
  | .str i, e, h, k => by cases e <;> first | (cases k; done) | simp [PyData.eqv]
  | .list xs, e, h, k => by
    cases e with
    | list ys =>
      have := eqvAll_same xs ys h k
      rw [PyData.eqv, this]
      constructor
      · rintro rfl; rfl
      · intro h; cases h; rfl
    | bool _ => cases k
    | dict _ => cases k
    | _ => simp [PyData.eqv]
  | .tuple xs, e, h, k => by
    cases e with
    | tuple ys =>
      have := eqvAll_same xs ys h k
      rw [PyData.eqv, this]
      constructor
      · rintro rfl; rfl
      · intro h; cases h; rfl
    | bool _ => cases k
    | dict _ => cases k
    | _ => simp [PyData.eqv]
  | .dict _, e, h, k => by cases h
theorem eqvAll_same : ∀ xs ys : List PyData, sameDs xs = true → sameDs ys = true → (PyData.eqvAll xs ys = true ↔ xs = ys)
  | [], ys, h, k => by cases ys <;> simp [PyData.eqvAll]
  | x :: xs, ys, h, k => by
    cases ys with
    | nil => simp [PyData.eqvAll]
    | cons y ys =>
      have h' : sameD x = true ∧ sameDs xs = true := by simpa [sameDs] using h
      have k' : sameD y = true ∧ sameDs ys = true := by simpa [sameDs] using k
      have e1 := eqv_same x y h'.1 k'.1
      have e2 := eqvAll_same xs ys h'.2 k'.2
      rw [PyData.eqvAll, Bool.and_eq_true, e1, e2]
      constructor
      · rintro ⟨rfl, rfl⟩; rfl
      · intro h; cases h; exact ⟨rfl, rfl⟩
end
theorem eqv_refl_same {d : PyData} (h : sameD d = true) : PyData.eqv d d = true := (eqv_same d d h h).mpr rfl
theorem eqv_ne {d e : PyData} (h : sameD d = true) (k : sameD e = true) (n : d ≠ e) : PyData.eqv d e = false := by
  cases q : PyData.eqv d e with
  | false => rfl
  | true => exact absurd ((eqv_same d e h k).mp q) n
@[simp] theorem atI_lastv {α : Type} {xs : List α} {v : α} : atI (xs ++ [v]) (-1) = some v := atI_last xs v
theorem dataLe_ii {a b : Int} : PySem.W.dataLe false id (.int a) (.int b) = decide (a ≤ b) := by
  rw [PySem.W.dataLe_eq]
  show (!PySem.W.dataLt (.int b) (.int a)) = _
  rw [PySem.W.dataLt_int]
  by_cases h : a ≤ b
  · have : ¬ b < a := by omega
    simp [h, this]
  · have : b < a := by omega
    simp [h, this]
theorem sort_ints {l m : List Int} (hp : l.Perm m) (hs : m.Pairwise (· ≤ ·)) : (l.map PyData.int).mergeSort (PySem.W.dataLe false id) = m.map PyData.int := by
  have e : (l.mergeSort fun a b => decide (a ≤ b)).map PyData.int = (l.map PyData.int).mergeSort (PySem.W.dataLe false id) := List.map_mergeSort fun a _ b _ => dataLe_ii.symm
  rw [← e]
  congr 1
  refine List.Perm.eq_of_pairwise (le := (· ≤ ·)) (fun a b _ _ h1 h2 => Int.le_antisymm h1 h2) ?_ hs ((List.mergeSort_perm _ _).trans hp)
  have := List.pairwise_mergeSort (le := fun a b : Int => decide (a ≤ b)) (fun a b c h1 h2 => by simp at *; omega) (fun a b => by simp; omega) l
  exact this.imp fun h => by simpa using h
theorem ok_ints {l : List Int} {n : Nat} : okDs (l.map PyData.int) n = true := okDs_of fun x hx => by obtain ⟨i, _, rfl⟩ := List.mem_map.mp hx; rfl
theorem srt_ints {l : List Int} : okDs (l.map PyData.int) 40 = true ∧ PySem.W.AllAlike (l.map PyData.int) ∧ PySem.W.Sortable (l.map PyData.int) :=
  ⟨ok_ints, PySem.W.AllAlike.of fun _ _ => rfl, PySem.W.Sortable.others (enc := PyData.int) fun i => ⟨(by simp), fun _ => (by simp)⟩⟩
theorem same_ints {l : List Int} : sameDs (l.map PyData.int) = true := sameDs_of fun x hx => by obtain ⟨i, _, rfl⟩ := List.mem_map.mp hx; rfl
theorem plain_ints {l : List Int} {n : Nat} : plainDs (l.map PyData.int) n = true := plainDs_of fun x hx => by obtain ⟨i, _, rfl⟩ := List.mem_map.mp hx; rfl
theorem int_inj : ∀ {l m : List Int}, l.map PyData.int = m.map PyData.int → l = m
  | [], [], _ => rfl
  | [], _ :: _, h => by simp at h
  | _ :: _, [], h => by simp at h
  | a :: l, b :: m, h => by
    rw [List.map_cons, List.map_cons] at h
    injection h with h1 h2
    cases h1
    rw [int_inj h2]
theorem fm_if {α : Type} {p : α → Bool} {g h : α → PyData} {f : PyData → Option PyData} (hf : ∀ a, f (g a) = if p a = true then some (h a) else none) : ∀ {l : List α}, (l.map g).filterMap f = (l.filter p).map h
  | [] => rfl
  | a :: l => by
    rw [List.map_cons, List.filterMap_cons, hf a, fm_if hf]
    by_cases e : p a = true
    · rw [if_pos e, List.filter_cons_of_pos e]; rfl
    · rw [if_neg e, List.filter_cons_of_neg e]
/-- pairs of ints -/
theorem zip_ints_mem {xs ys : List Int} {p : PyData} (h : p ∈ List.zipWith (fun x y => PyData.tuple [x, y]) (xs.map PyData.int) (ys.map PyData.int)) : ∃ a b : Int, a ∈ xs ∧ b ∈ ys ∧ p = .tuple [.int a, .int b] := by
  rw [List.zipWith_map] at h
  obtain ⟨i, hi, e⟩ := List.mem_iff_getElem.mp h
  rw [List.getElem_zipWith] at e
  exact ⟨_, _, List.getElem_mem _, List.getElem_mem _, e.symm⟩
theorem zip_ints_fm {f : PyData → Option PyData} {g : Int → Int → PyData} (hf : ∀ a b : Int, f (.tuple [.int a, .int b]) = some (g a b)) : ∀ (xs ys : List Int), (List.zipWith (fun x y => PyData.tuple [x, y]) (xs.map PyData.int) (ys.map PyData.int)).filterMap f = List.zipWith g xs ys
  | [], _ => rfl
  | _ :: _, [] => rfl
  | x :: xs, y :: ys => by
    rw [List.map_cons, List.map_cons, List.zipWith_cons_cons, List.filterMap_cons, hf, zip_ints_fm hf xs ys]
    rfl
theorem any_int {xs : List Int} {p : Int} : ((xs.map PyData.int).any fun d => PyData.eqv d (.int p)) = xs.contains p := by
  rw [List.any_map, List.contains_eq_any_beq]
  congr 1
  funext x
  show PyData.eqv (.int x) (.int p) = (p == x)
  rw [eqv_ii]
  by_cases h : x = p
  · subst h; simp
  · have h' : ¬ p = x := fun z => h z.symm
    simp [h, h']
theorem cutD_nn {xs : List PyData} : cutD xs none none = xs := by
  unfold cutD
  rw [HT.sIx_none, HT.sIx_none]
  simp
theorem cutD_from {xs : List PyData} (i : Nat) : cutD xs (some (i : Int)) none = xs.drop i := by
  unfold cutD
  rw [HT.sIx_nat, HT.sIx_none]
  by_cases h : i ≤ xs.length
  · rw [Nat.min_eq_left h, List.take_of_length_le (by simp)]
  · rw [Nat.min_eq_right (by omega), List.drop_eq_nil_of_le (Nat.le_refl _), List.drop_eq_nil_of_le (by omega)]; simp
theorem cutD_to {xs : List PyData} (i : Nat) : cutD xs none (some (i : Int)) = xs.take i := by
  unfold cutD
  rw [HT.sIx_nat, HT.sIx_none, List.drop_zero, Nat.sub_zero]
  by_cases h : i ≤ xs.length
  · rw [Nat.min_eq_left h]
  · rw [Nat.min_eq_right (by omega), List.take_of_length_le (Nat.le_refl _), List.take_of_length_le (by omega)]
theorem cutD_ft {xs : List PyData} (i j : Nat) : cutD xs (some (i : Int)) (some (j : Int)) = (xs.drop i).take (j - i) := by
  unfold cutD
  rw [HT.sIx_nat, HT.sIx_nat]
  by_cases h : i ≤ xs.length
  · rw [Nat.min_eq_left h]
    by_cases h2 : j ≤ xs.length
    · rw [Nat.min_eq_left h2]
    · rw [Nat.min_eq_right (by omega), List.take_of_length_le (by simp), List.take_of_length_le (by simp; omega)]
  · rw [Nat.min_eq_right (show xs.length ≤ i by omega), List.drop_eq_nil_of_le (Nat.le_refl _), List.drop_eq_nil_of_le (by omega)]; simp
theorem rng_at {a : Int} {n i : Nat} {x : PyData} (h : (rngL a n)[i]? = some x) : x = .int (a + (i : Int)) ∧ i < n := by
  unfold rngL at h
  rw [List.getElem?_map] at h
  by_cases z : i < n
  · rw [List.getElem?_range z] at h
    exact ⟨(Option.some.inj h).symm, z⟩
  · rw [List.getElem?_eq_none (by simp; omega)] at h
    cases h
theorem enum_at {ds : List PyData} {i : Nat} {x : PyData} (h : (enumFr 0 ds)[i]? = some x) : ∃ y, ds[i]? = some y ∧ x = .tuple [.int (i : Nat), y] := by
  have hi : i < ds.length := by
    have := (List.getElem?_eq_some_iff.mp h).1
    rwa [enumFr_len] at this
  have e := enumFr_get 0 ds i ds[i] (List.getElem?_eq_getElem hi)
  rw [h, Nat.zero_add] at e
  exact ⟨_, List.getElem?_eq_getElem hi, Option.some.inj e⟩
/-- a comprehension whose turns change the state: what holds behind i items -/
theorem comp_st {bt : PyData → SS → (SS → Prop) → Prop} {ct : SS → (Bool → SS → Prop) → Prop} {et : SS → (RV → SS → Prop) → Prop} {own : List Nat} (I : Nat → List PyData → SS → Prop) {Ds : List PyData} {Q : List PyData → SS → Prop}
    (step : ∀ (i : Nat) (d : PyData) (acc : List PyData) (S : SS) (N : Option PyData → SS → Prop), Ds[i]? = some d → I i acc S → (∀ x S', I (i + 1) (acc ++ [x]) S' → N (some x) S') → (∀ S', I (i + 1) acc S' → N none S') →
      bt d S fun S1 => ct S1 fun b S2 => (b = true → et S2 fun r S3 => fzS S3 r fun x S4 => N (some x) (killS S4 own)) ∧ (b = false → N none (killS S2 own)))
    (fin : ∀ acc S, I Ds.length acc S → Q acc S) {S : SS} (h : I 0 [] S) : compW bt ct et own Ds S Q := by
  have go : ∀ (ds : List PyData) (i : Nat) (acc : List PyData) (S : SS), Ds.drop i = ds → i + ds.length = Ds.length → I i acc S → compW bt ct et own ds S fun xs S' => Q (acc ++ xs) S' := by
    intro ds
    induction ds with
    | nil =>
      intro i acc S h1 h2 h3
      have : i = Ds.length := by simpa using h2
      subst this
      show Q (acc ++ []) S
      rw [List.append_nil]
      exact fin acc S h3
    | cons d ds ih =>
      intro i acc S h1 h2 h3
      have hd : Ds[i]? = some d := by
        have := congrArg (fun l => l[0]?) h1
        simpa [List.getElem?_drop] using this
      have ht : Ds.drop (i + 1) = ds := by
        have := congrArg List.tail h1
        simpa [List.tail_drop] using this
      have key := step i d acc S (fun o S' => match o with
        | some x => compW bt ct et own ds S' fun xs S5 => Q (acc ++ (x :: xs)) S5
        | none => compW bt ct et own ds S' fun xs S5 => Q (acc ++ xs) S5) hd h3 (fun x S' h => by
          have := ih (i + 1) (acc ++ [x]) S' ht (by simp at h2; omega) h
          simp only [List.append_assoc, List.singleton_append] at this
          exact this) fun S' h => ih (i + 1) acc S' ht (by simp at h2; omega) h
      exact key
  exact go Ds 0 [] S rfl (by simp) h
theorem cutD_from1 {xs : List PyData} (i : Nat) : cutD xs (some ((i : Int) + 1)) none = xs.drop (i + 1) := cutD_from (i + 1)
@[simp] theorem cutD_1 {xs : List PyData} : cutD xs (some 1) none = xs.drop 1 := cutD_from 1
section
variable {T : Tb} {gl : Nat → Option D} {d k k0 k1 : Nat} {Q : RV → List SV → Prop} {Xq : Nat → List SV → Prop}
def lotB (xs : List Int) (m : Int) : Bool := (xs.all fun x => decide (0 ≤ x) && decide (x ≤ m - 1)) && (List.zipWith (fun a b : Int => decide (a < b)) xs (xs.drop 1)).all id
def ltD : PyData → Option PyData
  | .tuple [.int a, .int b] => some (.bool (decide (a < b)))
  | _ => none
theorem zip_lt : ∀ (xs ys : List Int), (List.zipWith (fun x y => PyData.tuple [x, y]) (xs.map PyData.int) (ys.map PyData.int)).filterMap ltD = (List.zipWith (fun a b : Int => decide (a < b)) xs ys).map PyData.bool
  | [], _ => rfl
  | _ :: _, [] => rfl
  | x :: xs, y :: ys => by
    rw [List.map_cons, List.map_cons, List.zipWith_cons_cons, List.filterMap_cons, zip_lt xs ys]
    rfl
theorem sp_lot (h0 : T k0 = some vInteger) (h1 : T k1 = some (vWithin k0)) (hT : T k = some (vLot k1)) {xs : List Int} {m : Int} (hl : xs.length ≤ 16777216) (h : Q (.z (.bool (lotB xs m))) [.val (.tuple (xs.map .int)), .val (.int m)]) : callW T gl (d + 3) k [.val (.tuple (xs.map .int)), .val (.int m)] Q Xq := by
  refine callW_in (fn := vLot k1) hT rfl rfl fun xq E rt _ => ?_
  simp -dsimp [vLot]
  refine ⟨hl, comp_ok (fun v => some (.bool (withinB v 0 (m - 1)))) (fun p hp N hN => ?_) ?_⟩
  · obtain ⟨x, _, rfl⟩ := List.mem_map.mp hp
    simp -dsimp
    refine sp_within h0 h1 ?_
    simp -dsimp
    exact hN
  · rw [fm_bool]
    simp -dsimp
    refine ⟨xs.map fun x => decide (0 ≤ x) && decide (x ≤ m - 1), by rw [List.map_map]; rfl, ?_⟩
    rw [allB_map]
    unfold lotB at h
    generalize hb : (xs.all fun x => decide (0 ≤ x) && decide (x ≤ m - 1)) = b at h ⊢
    cases b
    · simp -dsimp
      refine rt _ _ ?_
      simp -dsimp [vLot]
      exact h
    · simp -dsimp
      refine ⟨_, _, ⟨rfl, rfl⟩, by simp; omega, comp_ok ltD (fun p hp N hN => ?_) ?_⟩
      · rw [← List.drop_one, ← List.map_drop] at hp
        have hp : p ∈ List.zipWith (fun x y => PyData.tuple [x, y]) (xs.map PyData.int) ((xs.drop 1).map PyData.int) := hp
        rw [List.zipWith_map] at hp
        obtain ⟨a, c, rfl⟩ : ∃ a c : Int, p = .tuple [.int a, .int c] := by
          obtain ⟨i, hi, e⟩ := List.mem_iff_getElem.mp hp
          rw [List.getElem_zipWith] at e
          exact ⟨_, _, e.symm⟩
        simp -dsimp
        exact hN
      · rw [← List.drop_one, ← List.map_drop, zip_lt]
        simp -dsimp
        refine ⟨List.zipWith (fun a b : Int => decide (a < b)) xs xs.tail, by rw [List.map_zipWith], ?_⟩
        refine rt _ _ ?_
        simp -dsimp [vLot]
        rw [Bool.true_and, List.drop_one] at h
        exact h
/-- no tuple -/
theorem sp_lotN (h0 : T k0 = some vInteger) (h1 : T k1 = some (vWithin k0)) (hT : T k = some (vLot k1)) {v : PyData} {m : Int} (hv : isiB "tuple" v = false) (h : Q (.z (.bool false)) [.val v, .val (.int m)]) : callW T gl (d + 3) k [.val v, .val (.int m)] Q Xq := by
  refine callW_in (fn := vLot k1) hT rfl rfl fun xq E rt _ => ?_
  simp -dsimp [vLot, hv]
  refine rt _ _ ?_
  simp -dsimp [vLot]
  exact h
end
end Fw

set_option linter.all false
set_option maxRecDepth 100000
set_option maxHeartbeats 4000000
namespace Fwk96
open PySem PySem.Spec L2 Fw
/-! the plain law of beams -/
def plc (m : Nat) : List Int := ((List.range (2 * m + 1)).map fun j : Nat => -(m : Int) + (j : Int)).filter fun p => decide (p ≠ 0)
def stepL (m : Nat) (rows : List (List Int)) : List (List Int) := rows.flatMap fun row => ((plc m).filter fun p => !row.contains p).map fun p => row ++ [p]
def seatsL (m : Nat) : Nat → List (List Int)
  | 0 => [[]]
  | n + 1 => stepL m (seatsL m n)
def mulL (cs s : List Int) : List Int := List.zipWith (fun a b : Int => a * b) cs s
def wh (cs s : List Int) : Int := (mulL cs s).sum
/-- what is asked of rows -/
def chainB : List (List Int) → Bool
  | r :: s :: l => decide (r ≤ s) && chainB (s :: l)
  | _ => true
def goodB (m n : Nat) (r : List Int) : Bool := decide (r.length = n) && r.all (fun p => decide (p ≠ 0) && decide (-(m : Int) ≤ p) && decide (p ≤ m)) && decide (r.eraseDups.length = n) && decide ((r.map fun p => 0 - p).eraseDups.length = n)
theorem rows_all : (List.range 4).all (fun m => (List.range 4).all fun n => n > 2 * (m + 1) || (chainB (seatsL (m + 1) n) && (seatsL (m + 1) n).all (goodB (m + 1) n) && decide (0 < (seatsL (m + 1) n).length) && decide ((seatsL (m + 1) n).length ≤ 400))) = true := by decide +kernel
theorem alone_all : (List.range 4).all (fun m => (List.range 12).all fun a => (List.range 12).all fun b => (seatsL (m + 1) 2).any (fun s => wh [(a : Int) + 1, (b : Int) + 1] s == 0) == (((List.range (m + 1)).map fun k : Nat => (1 : Int) + k).any fun x => decide (((a : Int) + 1) * x % ((b : Int) + 1) = 0) && decide (((a : Int) + 1) * x / ((b : Int) + 1) ≤ (m : Int) + 1))) = true := by decide +kernel
end Fwk96

set_option linter.all false
set_option maxRecDepth 100000
set_option maxHeartbeats 4000000
namespace Fwk96
open PySem PySem.Spec L2 Fw
theorem chain_pw : ∀ {l : List (List Int)}, chainB l = true → l.Pairwise (· ≤ ·)
  | [], _ => .nil
  | [r], _ => by simp
  | r :: s :: l, h => by
    have h' : r ≤ s ∧ chainB (s :: l) = true := by simpa [chainB] using h
    have ih := chain_pw h'.2
    refine .cons (fun x hx => ?_) ih
    rcases List.mem_cons.mp hx with rfl | hx
    · exact h'.1
    · exact List.le_trans h'.1 ((List.pairwise_cons.mp ih).1 x hx)
structure Rw (m n : Nat) : Prop where
  m1 : 1 ≤ m
  m4 : m ≤ 4
  n3 : n ≤ 3
  nm : n ≤ 2 * m
  srt : (seatsL m n).Pairwise (· ≤ ·)
  good : ∀ r ∈ seatsL m n, r.length = n ∧ (∀ p ∈ r, p ≠ 0 ∧ -(m : Int) ≤ p ∧ p ≤ m) ∧ r.eraseDups.length = n ∧ (r.map fun p => 0 - p).eraseDups.length = n
  pos : 0 < (seatsL m n).length
  len : (seatsL m n).length ≤ 400
theorem rw_of {m n : Nat} (h1 : 1 ≤ m) (h4 : m ≤ 4) (h3 : n ≤ 3) (hn : n ≤ 2 * m) : Rw m n := by
  obtain ⟨k, rfl⟩ : ∃ k, m = k + 1 := ⟨m - 1, by omega⟩
  have h := List.all_eq_true.mp rows_all k (List.mem_range.mpr (by omega))
  have h := List.all_eq_true.mp h n (List.mem_range.mpr (by omega))
  have e : decide (n > 2 * (k + 1)) = false := decide_eq_false (by omega)
  rw [e, Bool.false_or] at h
  simp only [Bool.and_eq_true, decide_eq_true_eq, List.all_eq_true, goodB] at h
  exact ⟨h1, h4, h3, hn, chain_pw h.1.1.1, fun r hr => ⟨(h.1.1.2 r hr).1.1.1, fun p hp => by have := (h.1.1.2 r hr).1.1.2 p hp; exact ⟨this.1.1, this.1.2, this.2⟩, (h.1.1.2 r hr).1.2, (h.1.1.2 r hr).2⟩, h.1.2, h.2⟩
/-! the least off, the first of them -/
def argm (f : List Int → Int) (x : List Int) (l : List (List Int)) : List Int := l.foldl (fun a y => if f y < f a then y else a) x
theorem argm_le {f : List Int → Int} : ∀ {l : List (List Int)} {x : List Int}, f (argm f x l) ≤ f x ∧ ∀ y ∈ l, f (argm f x l) ≤ f y
  | [], x => ⟨Int.le_refl _, fun y h => by cases h⟩
  | z :: l, x => by
    have e : argm f x (z :: l) = argm f (if f z < f x then z else x) l := rfl
    rw [e]
    have ih := argm_le (f := f) (l := l) (x := if f z < f x then z else x)
    have h2 : f (if f z < f x then z else x) ≤ f x ∧ f (if f z < f x then z else x) ≤ f z := by split <;> omega
    refine ⟨by omega, fun y hy => ?_⟩
    rcases List.mem_cons.mp hy with rfl | hy
    · omega
    · exact ih.2 y hy
theorem argm_mem {f : List Int → Int} : ∀ {l : List (List Int)} {x : List Int}, argm f x l = x ∨ argm f x l ∈ l
  | [], x => .inl rfl
  | z :: l, x => by
    have e : argm f x (z :: l) = argm f (if f z < f x then z else x) l := rfl
    rw [e]
    rcases argm_mem (f := f) (l := l) (x := if f z < f x then z else x) with h | h
    · rw [h]
      split
      · exact .inr List.mem_cons_self
      · exact .inl rfl
    · exact .inr (List.mem_cons_of_mem _ h)
theorem argm_zero0 {f : List Int → Int} : ∀ {l : List (List Int)} {x : List Int}, (∀ y ∈ l, 0 ≤ f y) → f x = 0 → argm f x l = x
  | [], x, _, _ => rfl
  | z :: l, x, h, hx => by
    have hz := h z List.mem_cons_self
    have e : argm f x (z :: l) = argm f (if f z < f x then z else x) l := rfl
    rw [e, if_neg (by omega)]
    exact argm_zero0 (fun y hy => h y (List.mem_cons_of_mem _ hy)) hx
/-- one that comes out even: the first of them -/
theorem argm_zero {f : List Int → Int} : ∀ {l : List (List Int)} {x g : List Int} {gs : List (List Int)}, (∀ y ∈ x :: l, 0 ≤ f y) → (x :: l).filter (fun s => f s == 0) = g :: gs → argm f x l = g
  | [], x, g, gs, h, e => by
    by_cases hx : f x = 0
    · rw [List.filter_cons_of_pos (by simpa using hx)] at e
      injection e
    · rw [List.filter_cons_of_neg (by simpa using hx)] at e
      cases e
  | z :: l, x, g, gs, h, e => by
    have e0 : argm f x (z :: l) = argm f (if f z < f x then z else x) l := rfl
    have hx0 := h x List.mem_cons_self
    have hz0 := h z (List.mem_cons_of_mem _ List.mem_cons_self)
    by_cases hx : f x = 0
    · rw [List.filter_cons_of_pos (by simpa using hx)] at e
      injection e with e1 _
      subst e1
      exact argm_zero0 (fun y hy => h y (List.mem_cons_of_mem _ hy)) hx
    · rw [List.filter_cons_of_neg (by simpa using hx)] at e
      rw [e0]
      by_cases hz : f z = 0
      · rw [if_pos (by omega)]
        exact argm_zero (fun y hy => h y (List.mem_cons_of_mem _ hy)) e
      · rw [List.filter_cons_of_neg (by simpa using hz)] at e
        refine argm_zero (gs := gs) (fun y hy => ?_) ?_
        · rcases List.mem_cons.mp hy with rfl | hy
          · split <;> omega
          · exact h y (List.mem_cons_of_mem _ (List.mem_cons_of_mem _ hy))
        · rw [List.filter_cons_of_neg (by split <;> simpa)]
          exact e
/-! more places let no fewer -/
theorem plc_sub (m : Nat) : (plc m).Sublist (plc (m + 1)) := by
  unfold plc
  refine List.Sublist.filter _ ?_
  have e : ((List.range (2 * (m + 1) + 1)).map fun j : Nat => -((m + 1 : Nat) : Int) + (j : Int)) = -((m + 1 : Nat) : Int) :: (((List.range (2 * m + 1)).map fun j : Nat => -(m : Int) + (j : Int)) ++ [(m : Int) + 1]) := by
    have e1 : 2 * (m + 1) + 1 = (2 * m + 1) + 1 + 1 := by omega
    rw [e1, List.range_succ_eq_map, List.range_succ, List.map_cons, List.map_append, List.map_append, List.map_map, List.map_map]
    refine List.cons_eq_cons.mpr ⟨by show -((m + 1 : Nat) : Int) + ((0 : Nat) : Int) = _; omega, ?_⟩
    have a : ((List.range (2 * m + 1)).map ((fun j : Nat => -((m + 1 : Nat) : Int) + (j : Int)) ∘ Nat.succ)) = (List.range (2 * m + 1)).map fun j : Nat => -(m : Int) + (j : Int) := List.map_congr_left fun j _ => by
      show -((m + 1 : Nat) : Int) + ((j + 1 : Nat) : Int) = _
      omega
    have b : ([2 * m + 1].map ((fun j : Nat => -((m + 1 : Nat) : Int) + (j : Int)) ∘ Nat.succ)) = [(m : Int) + 1] := by
      show [-((m + 1 : Nat) : Int) + ((2 * m + 1 + 1 : Nat) : Int)] = _
      refine List.cons_eq_cons.mpr ⟨by omega, rfl⟩
    rw [a, b]
  rw [e]
  exact (List.sublist_append_left _ _).trans (List.sublist_cons_self _ _)
theorem flatMap_sub {α β : Type} {f g : α → List β} (h : ∀ a, (f a).Sublist (g a)) : ∀ {l k : List α}, l.Sublist k → (l.flatMap f).Sublist (k.flatMap g)
  | _, _, .slnil => by simp
  | _, _, .cons a s => by
    rw [List.flatMap_cons]
    exact (flatMap_sub h s).trans (List.sublist_append_right _ _)
  | _, _, .cons₂ a s => by
    rw [List.flatMap_cons, List.flatMap_cons]
    exact List.Sublist.append (h a) (flatMap_sub h s)
theorem seats_sub (m : Nat) : ∀ n, (seatsL m n).Sublist (seatsL (m + 1) n)
  | 0 => List.Sublist.refl _
  | n + 1 => flatMap_sub (fun row => ((plc_sub m).filter _).map _) (seats_sub m n)
end Fwk96

set_option Elab.async false
set_option linter.all false
set_option maxRecDepth 100000
set_option maxHeartbeats 4000000
/-! the codes of law k96, as wip/gen.py prints them -/
namespace Fwk96
open PySem PySem.Spec L2 Fw
abbrev top (i : Nat) : Stmt := PySem.Challenge.pw_fewtoys_k96_whole_children_seated_on_a_b.main.body.getD i (.Pass ⟨0, 0, 0, 0⟩)
/-- is_integer: 0=thing -/
abbrev i_is_integer : Nat := 0
def b_is_integer : CB := (.cons (.ret (.and (.cons (.isi "int" (.var 0)) (.cons (.not (.isi "bool" (.var 0))) .nil)))) .nil)
def f_is_integer : Fn := ⟨1, 1, [false], false, b_is_integer⟩
def e_is_integer : De := ⟨"is_integer", top 1, ["thing"], ["thing"], f_is_integer⟩
theorem d_is_integer : BdAt e_is_integer := fun _ _ _ _ _ _ us hl => match us, hl with | [_], _ => rfl
/-- is_within: 0=thing 1=low 2=high -/
abbrev i_is_within : Nat := 1
def b_is_within : CB := (.cons (.ret (.and (.cons (.call 0 (.v (.var 0) .nil)) (.cons (.cmp2 .le .le (.var 1) (.var 0) (.var 2)) .nil)))) .nil)
def f_is_within : Fn := ⟨3, 3, [false, false, false], false, b_is_within⟩
def e_is_within : De := ⟨"is_within", top 2, ["thing", "low", "high"], ["thing", "low", "high"], f_is_within⟩
theorem d_is_within : BdAt e_is_within := fun _ _ _ _ _ _ us hl => match us, hl with | [_, _, _], _ => rfl
/-- is_tuple: 0=thing 1=least 2=most -/
abbrev i_is_tuple : Nat := 2
def b_is_tuple : CB := (.cons (.ret (.and (.cons (.isi "tuple" (.var 0)) (.cons (.cmp2 .le .le (.var 1) (.bi .len (.cons (.var 0) .nil)) (.var 2)) .nil)))) .nil)
def f_is_tuple : Fn := ⟨3, 3, [false, false, false], false, b_is_tuple⟩
def e_is_tuple : De := ⟨"is_tuple", top 3, ["thing", "least", "most"], ["thing", "least", "most"], f_is_tuple⟩
theorem d_is_tuple : BdAt e_is_tuple := fun _ _ _ _ _ _ us hl => match us, hl with | [_, _, _], _ => rfl
/-- check_children: 0=children 1=one -/
abbrev i_check_children : Nat := 3
def b_check_children : CB := (.cons (.iff (.or (.cons (.not (.e (.call 2 (.v (.var 0) (.v (.int 1) (.v (.gl 1) .nil)))))) (.cons (.not (.e (.bi .all (.cons (.comp (.it (.var 0)) (.v 1) .yes (.call 1 (.v (.var 1) (.v (.int 1) (.v (.gl 2) .nil)))) [1]) .nil)))) .nil))) (.cons .dead .nil) .nil) .nil)
def f_check_children : Fn := ⟨1, 2, [false], false, b_check_children⟩
def e_check_children : De := ⟨"check_children", top 13, ["children", "one"], ["children"], f_check_children⟩
theorem d_check_children : BdAt e_check_children := fun _ _ _ _ _ _ us hl => match us, hl with | [_], _ => rfl
/-- check_beam: 0=m 1=children -/
abbrev i_check_beam : Nat := 4
def b_check_beam : CB := (.cons (.iff (.not (.e (.call 1 (.v (.var 0) (.v (.int 1) (.v (.gl 0) .nil)))))) (.cons .dead .nil) .nil) (.cons (.ex (.call 3 (.v (.var 1) .nil))) (.cons (.iff (.e (.cmp .gt (.bi .len (.cons (.var 1) .nil)) (.bin .mul (.int 2) (.var 0)))) (.cons .dead .nil) .nil) .nil)))
def f_check_beam : Fn := ⟨2, 2, [false, false], false, b_check_beam⟩
def e_check_beam : De := ⟨"check_beam", top 14, ["m", "children"], ["m", "children"], f_check_beam⟩
theorem d_check_beam : BdAt e_check_beam := fun _ _ _ _ _ _ us hl => match us, hl with | [_, _], _ => rfl
/-- places_of: 0=m 1=place -/
abbrev i_places_of : Nat := 5
def b_places_of : CB := (.cons (.ret (.comp (.rng2 (.neg (.var 0)) (.bin .add (.var 0) (.int 1))) (.v 1) (.e (.cmp .ne (.var 1) (.int 0))) (.var 1) [1])) .nil)
def f_places_of : Fn := ⟨1, 2, [false], false, b_places_of⟩
def e_places_of : De := ⟨"places_of", top 15, ["m", "place"], ["m"], f_places_of⟩
theorem d_places_of : BdAt e_places_of := fun _ _ _ _ _ _ us hl => match us, hl with | [_], _ => rfl
/-- all_seats: 0=m 1=children 2=found 3=child 4=longer 5=row 6=place -/
abbrev i_all_seats : Nat := 6
def b_all_seats : CB := (.cons (.set 2 (.lst (.cons (.tup .nil) .nil))) (.cons (.for_ (.it (.var 1)) (.v 3) (.cons (.set 4 (.lst .nil)) (.cons (.for_ (.it (.var 2)) (.v 5) (.cons (.ex (.me .extend (.var 4) (.cons (.comp (.it (.call 5 (.v (.var 0) .nil))) (.v 6) (.e (.cmp .notin (.var 6) (.var 5))) (.bin .add (.var 5) (.tup (.cons (.var 6) .nil))) [6]) .nil))) .nil) [5, 6]) (.cons (.set 2 (.var 4)) .nil))) [3, 4, 5, 6]) (.cons (.ret (.var 2)) .nil)))
def f_all_seats : Fn := ⟨2, 7, [false, false], false, b_all_seats⟩
def e_all_seats : De := ⟨"all_seats", top 16, ["m", "children", "found", "child", "longer", "row", "place"], ["m", "children"], f_all_seats⟩
theorem d_all_seats : BdAt e_all_seats := fun _ _ _ _ _ _ us hl => match us, hl with | [_, _], _ => rfl
/-- whole_of: 0=children 1=seats 2=weight 3=place -/
abbrev i_whole_of : Nat := 7
def b_whole_of : CB := (.cons (.ret (.bi .sum (.cons (.comp (.zip (.var 0) (.var 1)) (.t [(.v 2), (.v 3)]) .yes (.bin .mul (.var 2) (.var 3)) [2, 3]) .nil))) .nil)
def f_whole_of : Fn := ⟨2, 4, [false, false], false, b_whole_of⟩
def e_whole_of : De := ⟨"whole_of", top 17, ["children", "seats", "weight", "place"], ["children", "seats"], f_whole_of⟩
theorem d_whole_of : BdAt e_whole_of := fun _ _ _ _ _ _ us hl => match us, hl with | [_, _], _ => rfl
/-- told_of: 0=m 1=children 2=low 3=seats -/
abbrev i_told_of : Nat := 8
def b_told_of : CB := (.cons (.setT (.t [(.v 2), (.v 3)]) (.bi .min1 (.cons (.comp (.it (.call 6 (.v (.var 0) (.v (.var 1) .nil)))) (.v 3) .yes (.tup (.cons (.bi .abs (.cons (.call 7 (.v (.var 1) (.v (.var 3) .nil))) .nil)) (.cons (.var 3) .nil))) [3]) .nil))) (.cons (.ret (.ife (.e (.cmp .eq (.var 2) (.int 0))) (.tup (.cons (.str "even") (.cons (.var 3) .nil))) (.tup (.cons (.str "off") (.cons (.var 2) .nil))))) .nil))
def f_told_of : Fn := ⟨2, 4, [false, false], false, b_told_of⟩
def e_told_of : De := ⟨"told_of", top 18, ["m", "children", "low", "seats"], ["m", "children"], f_told_of⟩
theorem d_told_of : BdAt e_told_of := fun _ _ _ _ _ _ us hl => match us, hl with | [_, _], _ => rfl
/-- even_or_off: 0=m 1=children -/
abbrev i_even_or_off : Nat := 9
def b_even_or_off : CB := (.cons (.ex (.call 4 (.v (.var 0) (.v (.var 1) .nil)))) (.cons (.ret (.call 8 (.v (.var 0) (.v (.var 1) .nil)))) .nil))
def f_even_or_off : Fn := ⟨2, 2, [false, false], false, b_even_or_off⟩
def e_even_or_off : De := ⟨"even_or_off", top 19, ["m", "children"], ["m", "children"], f_even_or_off⟩
theorem d_even_or_off : BdAt e_even_or_off := fun _ _ _ _ _ _ us hl => match us, hl with | [_, _], _ => rfl
/-- are_seats: 0=children 1=thing 2=most 3=many 4=one -/
abbrev i_are_seats : Nat := 10
def b_are_seats : CB := (.cons (.set 3 (.bi .len (.cons (.var 0) .nil))) (.cons (.iff (.or (.cons (.not (.e (.call 2 (.v (.var 1) (.v (.var 3) (.v (.var 3) .nil)))))) (.cons (.not (.e (.bi .all (.cons (.comp (.it (.var 1)) (.v 4) .yes (.and (.cons (.call 0 (.v (.var 4) .nil)) (.cons (.cmp2 .le .le (.int 1) (.bi .abs (.cons (.var 4) .nil)) (.var 2)) .nil))) [4]) .nil)))) .nil))) (.cons (.ret (.bl false)) .nil) .nil) (.cons (.ret (.cmp .eq (.bi .lset (.cons (.var 1) .nil)) (.var 3))) .nil)))
def f_are_seats : Fn := ⟨3, 5, [false, false, false], false, b_are_seats⟩
def e_are_seats : De := ⟨"are_seats", top 20, ["children", "thing", "most", "many", "one"], ["children", "thing", "most"], f_are_seats⟩
theorem d_are_seats : BdAt e_are_seats := fun _ _ _ _ _ _ us hl => match us, hl with | [_, _, _], _ => rfl
/-- is_even_or_off: 0=m 1=children 2=thing -/
abbrev i_is_even_or_off : Nat := 11
def b_is_even_or_off : CB := (.cons (.ex (.call 4 (.v (.var 0) (.v (.var 1) .nil)))) (.cons (.iff (.or (.cons (.not (.e (.call 2 (.v (.var 2) (.v (.int 2) (.v (.int 2) .nil)))))) (.cons (.not (.e (.isi "str" (.ix (.var 2) (.int 0))))) .nil))) (.cons (.ret (.bl false)) .nil) .nil) (.cons (.iff (.e (.cmp .eq (.ix (.var 2) (.int 0)) (.str "even"))) (.cons (.ret (.and (.cons (.call 10 (.v (.var 1) (.v (.ix (.var 2) (.int 1)) (.v (.var 0) .nil)))) (.cons (.cmp .eq (.call 7 (.v (.var 1) (.v (.ix (.var 2) (.int 1)) .nil))) (.int 0)) .nil)))) .nil) .nil) (.cons (.ret (.and (.cons (.cmp .eq (.ix (.var 2) (.int 0)) (.str "off")) (.cons (.call 0 (.v (.ix (.var 2) (.int 1)) .nil)) (.cons (.cmp .eq (.var 2) (.call 8 (.v (.var 0) (.v (.var 1) .nil)))) .nil))))) .nil))))
def f_is_even_or_off : Fn := ⟨3, 3, [false, false, false], false, b_is_even_or_off⟩
def e_is_even_or_off : De := ⟨"is_even_or_off", top 21, ["m", "children", "thing"], ["m", "children", "thing"], f_is_even_or_off⟩
theorem d_is_even_or_off : BdAt e_is_even_or_off := fun _ _ _ _ _ _ us hl => match us, hl with | [_, _, _], _ => rfl
/-- seats_count: 0=m 1=children 2=seats -/
abbrev i_seats_count : Nat := 12
def b_seats_count : CB := (.cons (.ex (.call 4 (.v (.var 0) (.v (.var 1) .nil)))) (.cons (.ret (.bi .len (.cons (.comp (.it (.call 6 (.v (.var 0) (.v (.var 1) .nil)))) (.v 2) (.e (.cmp .eq (.call 7 (.v (.var 1) (.v (.var 2) .nil))) (.int 0))) (.int 1) [2]) .nil))) .nil))
def f_seats_count : Fn := ⟨2, 3, [false, false], false, b_seats_count⟩
def e_seats_count : De := ⟨"seats_count", top 22, ["m", "children", "seats"], ["m", "children"], f_seats_count⟩
theorem d_seats_count : BdAt e_seats_count := fun _ _ _ _ _ _ us hl => match us, hl with | [_, _], _ => rfl
/-- check_seats: 0=children 1=seats 2=most -/
abbrev i_check_seats : Nat := 13
def b_check_seats : CB := (.cons (.ex (.call 3 (.v (.var 0) .nil))) (.cons (.iff (.not (.e (.call 10 (.v (.var 0) (.v (.var 1) (.v (.var 2) .nil)))))) (.cons .dead .nil) .nil) .nil))
def f_check_seats : Fn := ⟨3, 3, [false, false, false], false, b_check_seats⟩
def e_check_seats : De := ⟨"check_seats", top 23, ["children", "seats", "most"], ["children", "seats", "most"], f_check_seats⟩
theorem d_check_seats : BdAt e_check_seats := fun _ _ _ _ _ _ us hl => match us, hl with | [_, _, _], _ => rfl
/-- comes_to: 0=children 1=seats -/
abbrev i_comes_to : Nat := 14
def b_comes_to : CB := (.cons (.ex (.call 13 (.v (.var 0) (.v (.var 1) (.v (.gl 0) .nil))))) (.cons (.ret (.call 7 (.v (.var 0) (.v (.var 1) .nil)))) .nil))
def f_comes_to : Fn := ⟨2, 2, [false, false], false, b_comes_to⟩
def e_comes_to : De := ⟨"comes_to", top 24, ["children", "seats"], ["children", "seats"], f_comes_to⟩
theorem d_comes_to : BdAt e_comes_to := fun _ _ _ _ _ _ us hl => match us, hl with | [_, _], _ => rfl
/-- heaviest_side: 0=children 1=seats 2=whole -/
abbrev i_heaviest_side : Nat := 15
def b_heaviest_side : CB := (.cons (.ex (.call 13 (.v (.var 0) (.v (.var 1) (.v (.gl 0) .nil))))) (.cons (.set 2 (.call 7 (.v (.var 0) (.v (.var 1) .nil)))) (.cons (.ret (.ife (.e (.cmp .eq (.var 2) (.int 0))) (.str "even") (.ife (.e (.cmp .gt (.var 2) (.int 0))) (.str "right") (.str "left")))) .nil)))
def f_heaviest_side : Fn := ⟨2, 3, [false, false], false, b_heaviest_side⟩
def e_heaviest_side : De := ⟨"heaviest_side", top 25, ["children", "seats", "whole"], ["children", "seats"], f_heaviest_side⟩
theorem d_heaviest_side : BdAt e_heaviest_side := fun _ _ _ _ _ _ us hl => match us, hl with | [_, _], _ => rfl
/-- moved_even: 0=m 1=children 2=seats 3=child 4=place 5=other -/
abbrev i_moved_even : Nat := 16
def b_moved_even : CB := (.cons (.ex (.call 4 (.v (.var 0) (.v (.var 1) .nil)))) (.cons (.ex (.call 13 (.v (.var 1) (.v (.var 2) (.v (.var 0) .nil))))) (.cons (.for_ (.rng1 (.bi .len (.cons (.var 1) .nil))) (.v 3) (.cons (.for_ (.it (.call 5 (.v (.var 0) .nil))) (.v 4) (.cons (.set 5 (.bin .add (.bin .add (.sl (.var 2) .none (.some (.var 3))) (.tup (.cons (.var 4) .nil))) (.sl (.var 2) (.some (.bin .add (.var 3) (.int 1))) .none))) (.cons (.iff (.and (.cons (.e (.cmp .notin (.var 4) (.var 2))) (.cons (.e (.cmp .eq (.call 7 (.v (.var 1) (.v (.var 5) .nil))) (.int 0))) .nil))) (.cons (.ret (.tup (.cons (.var 3) (.cons (.var 4) .nil)))) .nil) .nil) .nil)) [4, 5]) .nil) [3, 4, 5]) (.cons (.ret .non) .nil))))
def f_moved_even : Fn := ⟨3, 6, [false, false, false], false, b_moved_even⟩
def e_moved_even : De := ⟨"moved_even", top 26, ["m", "children", "seats", "child", "place", "other"], ["m", "children", "seats"], f_moved_even⟩
theorem d_moved_even : BdAt e_moved_even := fun _ _ _ _ _ _ us hl => match us, hl with | [_, _, _], _ => rfl
/-- who_alone: 0=m 1=children 2=found 3=i 4=one 5=some 6=j -/
abbrev i_who_alone : Nat := 17
def b_who_alone : CB := (.cons (.ex (.call 4 (.v (.var 0) (.v (.var 1) .nil)))) (.cons (.set 2 (.lst .nil)) (.cons (.for_ (.enum (.var 1)) (.t [(.v 3), (.v 4)]) (.cons (.set 5 (.comp (.rng2 (.bin .add (.var 3) (.int 1)) (.bi .len (.cons (.var 1) .nil))) (.v 6) (.e (.cmp .eq (.ix (.call 8 (.v (.var 0) (.v (.tup (.cons (.var 4) (.cons (.ix (.var 1) (.var 6)) .nil))) .nil))) (.int 0)) (.str "even"))) (.var 6) [6])) (.cons (.ex (.me .extend (.var 2) (.cons (.comp (.it (.var 5)) (.v 6) .yes (.tup (.cons (.var 3) (.cons (.var 6) .nil))) [6]) .nil))) .nil)) [3, 4, 5, 6]) (.cons (.ret (.bi .tup (.cons (.var 2) .nil))) .nil))))
def f_who_alone : Fn := ⟨2, 7, [false, false], false, b_who_alone⟩
def e_who_alone : De := ⟨"who_alone", top 27, ["m", "children", "found", "i", "one", "some", "j"], ["m", "children"], f_who_alone⟩
theorem d_who_alone : BdAt e_who_alone := fun _ _ _ _ _ _ us hl => match us, hl with | [_, _], _ => rfl
/-- turned_seats: 0=seats 1=one -/
abbrev i_turned_seats : Nat := 18
def b_turned_seats : CB := (.cons (.iff (.or (.cons (.not (.e (.call 2 (.v (.var 0) (.v (.int 1) (.v (.gl 1) .nil)))))) (.cons (.not (.e (.call 10 (.v (.var 0) (.v (.var 0) (.v (.gl 0) .nil)))))) .nil))) (.cons .dead .nil) .nil) (.cons (.ret (.bi .tup (.cons (.comp (.it (.var 0)) (.v 1) .yes (.bin .sub (.int 0) (.var 1)) [1]) .nil))) .nil))
def f_turned_seats : Fn := ⟨1, 2, [false], false, b_turned_seats⟩
def e_turned_seats : De := ⟨"turned_seats", top 28, ["seats", "one"], ["seats"], f_turned_seats⟩
theorem d_turned_seats : BdAt e_turned_seats := fun _ _ _ _ _ _ us hl => match us, hl with | [_], _ => rfl
/-- _law_hand: 0=script 1=cells 2=cell -/
abbrev i__law_hand : Nat := 19
def b__law_hand : CB := (.cons (.set 1 (.comp (.it (.sl (.var 0) .none (.some (.int 63)))) (.v 2) .yes (.bi .abs (.cons (.bi .int (.cons (.var 2) .nil)) .nil)) [2])) (.cons (.ret (.lst (.cons (.var 1) (.cons (.int 0) (.cons (.int 0) (.cons (.bin .add (.int 487) (.bin .mul (.int 79) (.bi .len (.cons (.var 1) .nil)))) (.cons (.int 0) .nil))))))) .nil))
def f__law_hand : Fn := ⟨1, 3, [true], true, b__law_hand⟩
def e__law_hand : De := ⟨"_law_hand", top 30, ["script", "cells", "cell"], ["script"], f__law_hand⟩
theorem d__law_hand : BdAt e__law_hand := fun _ _ _ _ _ _ us hl => match us, hl with | [_], _ => rfl
/-- _law_draw: 0=hand 1=sides 2=cell 3=digit 4=number -/
abbrev i__law_draw : Nat := 20
def b__law_draw : CB := (.cons (.iff (.and (.cons (.e (.cmp .eq (.ix (.var 0) (.int 2)) (.int 0))) (.cons (.e (.cmp .lt (.ix (.var 0) (.int 1)) (.bi .len (.cons (.ix (.var 0) (.int 0)) .nil)))) .nil))) (.cons (.set 2 (.ix (.ix (.var 0) (.int 0)) (.ix (.var 0) (.int 1)))) (.cons (.ixs (.var 0) (.int 1) (.bin .add (.ix (.var 0) (.int 1)) (.int 1))) (.cons (.ixs (.var 0) (.int 3) (.bin .mod (.bi .int (.cons (.bin .add (.bin .add (.bin .mul (.ix (.var 0) (.int 3)) (.int 69621)) (.var 2)) (.int 29)) .nil)) (.int 2147483629))) (.cons (.iff (.e (.cmp .ge (.var 2) (.bin .pow (.int 10) (.int 18)))) (.cons (.ixs (.var 0) (.int 2) (.var 2)) .nil) .nil) .nil)))) .nil) (.cons (.iff (.e (.cmp .gt (.ix (.var 0) (.int 2)) (.int 0))) (.cons (.set 3 (.bin .mod (.bi .int (.cons (.ix (.var 0) (.int 2)) .nil)) (.var 1))) (.cons (.ixs (.var 0) (.int 2) (.bin .fdiv (.ix (.var 0) (.int 2)) (.var 1))) (.cons (.ret (.var 3)) .nil))) .nil) (.cons (.ixs (.var 0) (.int 4) (.bin .add (.ix (.var 0) (.int 4)) (.int 1))) (.cons (.set 4 (.bin .mod (.bi .int (.cons (.bin .mul (.bi .int (.cons (.bin .add (.ix (.var 0) (.int 3)) (.bin .mul (.int 7919) (.ix (.var 0) (.int 4)))) .nil)) (.int 48271)) .nil)) (.int 2147483647))) (.cons (.set 4 (.bin .mod (.bi .int (.cons (.bin .mul (.var 4) (.bin .add (.bin .fdiv (.var 4) (.int 1009)) (.int 69621))) .nil)) (.int 2147483647))) (.cons (.set 4 (.bin .mod (.bi .int (.cons (.bin .mul (.var 4) (.bin .add (.bin .fdiv (.var 4) (.int 2003)) (.int 40692))) .nil)) (.int 2147483399))) (.cons (.ret (.bin .mod (.bi .int (.cons (.bin .fdiv (.var 4) (.int 16)) .nil)) (.var 1))) .nil)))))))
def f__law_draw : Fn := ⟨2, 5, [true, false], false, b__law_draw⟩
def e__law_draw : De := ⟨"_law_draw", top 31, ["hand", "sides", "cell", "digit", "number"], ["hand", "sides"], f__law_draw⟩
theorem d__law_draw : BdAt e__law_draw := fun _ _ _ _ _ _ us hl => match us, hl with | [_, _], _ => rfl
/-- _law_some: 0=hand 1=things -/
abbrev i__law_some : Nat := 21
def b__law_some : CB := (.cons (.ret (.ix (.var 1) (.call 20 (.s 0 (.v (.bi .len (.cons (.var 1) .nil)) .nil))))) .nil)
def f__law_some : Fn := ⟨2, 2, [true, false], false, b__law_some⟩
def e__law_some : De := ⟨"_law_some", top 32, ["hand", "things"], ["hand", "things"], f__law_some⟩
theorem d__law_some : BdAt e__law_some := fun _ _ _ _ _ _ us hl => match us, hl with | [_, _], _ => rfl
/-- _law_is: 0=one 1=other 2=mine 3=yours 4=key -/
abbrev i__law_is : Nat := 22
def b__law_is : CB := (.cons (.iff (.or (.cons (.e (.isi "bool" (.var 0))) (.cons (.e (.isi "bool" (.var 1))) .nil))) (.cons (.ret (.and (.cons (.isi "bool" (.var 0)) (.cons (.isi "bool" (.var 1)) (.cons (.cmp .eq (.var 0) (.var 1)) .nil))))) .nil) .nil) (.cons (.iff (.or (.cons (.e (.isi "tuple" (.var 0))) (.cons (.e (.isi "list" (.var 0))) .nil))) (.cons (.iff (.or (.cons (.e (.cmp .ne (.isi "tuple" (.var 0)) (.isi "tuple" (.var 1)))) (.cons (.e (.cmp .ne (.isi "list" (.var 0)) (.isi "list" (.var 1)))) .nil))) (.cons (.ret (.bl false)) .nil) .nil) (.cons (.ret (.and (.cons (.cmp .eq (.bi .len (.cons (.var 0) .nil)) (.bi .len (.cons (.var 1) .nil))) (.cons (.bi .all (.cons (.comp (.zip (.var 0) (.var 1)) (.t [(.v 2), (.v 3)]) .yes (.call 22 (.v (.var 2) (.v (.var 3) .nil))) [2, 3]) .nil)) .nil)))) .nil)) .nil) (.cons (.iff (.e (.isi "dict" (.var 0))) (.cons (.iff (.or (.cons (.not (.e (.isi "dict" (.var 1)))) (.cons (.e (.cmp .ne (.bi .len (.cons (.var 0) .nil)) (.bi .len (.cons (.var 1) .nil)))) .nil))) (.cons (.ret (.bl false)) .nil) .nil) (.cons (.ret (.bi .all (.cons (.comp (.it (.var 0)) (.v 4) .yes (.and (.cons (.cmp .isin (.var 4) (.var 1)) (.cons (.call 22 (.v (.ix (.var 0) (.var 4)) (.v (.ix (.var 1) (.var 4)) .nil))) .nil))) [4]) .nil))) .nil)) .nil) (.cons (.ret (.and (.cons (.cmp .eq (.isi "int" (.var 0)) (.isi "int" (.var 1))) (.cons (.cmp .eq (.var 0) (.var 1)) .nil)))) .nil))))
def f__law_is : Fn := ⟨2, 5, [false, false], false, b__law_is⟩
def e__law_is : De := ⟨"_law_is", top 33, ["one", "other", "mine", "yours", "key"], ["one", "other"], f__law_is⟩
theorem d__law_is : BdAt e__law_is := fun _ _ _ _ _ _ us hl => match us, hl with | [_, _], _ => rfl
/-- _law_seats: 0=m 1=many 2=found 3=child 4=longer 5=seats 6=at -/
abbrev i__law_seats : Nat := 23
def b__law_seats : CB := (.cons (.set 2 (.lst (.cons (.tup .nil) .nil))) (.cons (.for_ (.rng1 (.var 1)) (.v 3) (.cons (.set 4 (.lst .nil)) (.cons (.for_ (.it (.var 2)) (.v 5) (.cons (.ex (.me .extend (.var 4) (.cons (.comp (.rng2 (.bin .sub (.int 0) (.var 0)) (.bin .add (.var 0) (.int 1))) (.v 6) (.and (.cons (.e (.cmp .ne (.var 6) (.int 0))) (.cons (.e (.cmp .notin (.var 6) (.var 5))) .nil))) (.bin .add (.var 5) (.tup (.cons (.var 6) .nil))) [6]) .nil))) .nil) [5, 6]) (.cons (.set 2 (.var 4)) .nil))) [3, 4, 5, 6]) (.cons (.ret (.var 2)) .nil)))
def f__law_seats : Fn := ⟨2, 7, [false, false], false, b__law_seats⟩
def e__law_seats : De := ⟨"_law_seats", top 34, ["m", "many", "found", "child", "longer", "seats", "at"], ["m", "many"], f__law_seats⟩
theorem d__law_seats : BdAt e__law_seats := fun _ _ _ _ _ _ us hl => match us, hl with | [_, _], _ => rfl
/-- _law_sum_at: 0=children 1=seats 2=one 3=seat -/
abbrev i__law_sum_at : Nat := 24
def b__law_sum_at : CB := (.cons (.ret (.bi .sum (.cons (.comp (.zip (.var 0) (.var 1)) (.t [(.v 2), (.v 3)]) .yes (.bin .mul (.var 2) (.var 3)) [2, 3]) .nil))) .nil)
def f__law_sum_at : Fn := ⟨2, 4, [false, false], false, b__law_sum_at⟩
def e__law_sum_at : De := ⟨"_law_sum_at", top 35, ["children", "seats", "one", "seat"], ["children", "seats"], f__law_sum_at⟩
theorem d__law_sum_at : BdAt e__law_sum_at := fun _ _ _ _ _ _ us hl => match us, hl with | [_, _], _ => rfl
/-- law: 0=script 1=hand 2=turn 3=m 4=children 5=every 6=sums 7=good 8=due 9=seats 10=whole 11=bad 12=sides 13=told 14=child 15=seat 16=other 17=alone 18=i 19=one 20=j 21=its 22=some 23=again 24=a -/
abbrev i_law : Nat := 25
def b_law : CB := (.cons (.set 1 (.call 19 (.s 0 .nil))) (.cons (.for_ (.rng1 (.int 4)) (.v 2) (.cons (.set 3 (.bin .add (.int 1) (.call 20 (.s 1 (.v (.int 4) .nil))))) (.cons (.set 4 (.bi .tup (.cons (.comp (.rng1 (.bin .add (.int 1) (.call 20 (.s 1 (.v (.bi .min2 (.cons (.bin .mul (.int 2) (.var 3)) (.cons (.int 3) .nil))) .nil))))) (.v 23) .yes (.bin .add (.int 1) (.call 20 (.s 1 (.v (.int 12) .nil)))) [23]) .nil))) (.cons (.set 5 (.call 23 (.v (.var 3) (.v (.bi .len (.cons (.var 4) .nil)) .nil)))) (.cons (.set 6 (.comp (.it (.var 5)) (.v 9) .yes (.call 24 (.v (.var 4) (.v (.var 9) .nil))) [9])) (.cons (.set 7 (.comp (.zip (.var 5) (.var 6)) (.t [(.v 9), (.v 10)]) (.e (.cmp .eq (.var 10) (.int 0))) (.var 9) [9, 10])) (.cons (.set 8 (.ife (.e (.cmp .gt (.bi .len (.cons (.var 7) .nil)) (.int 0))) (.tup (.cons (.str "even") (.cons (.ix (.var 7) (.int 0)) .nil))) (.tup (.cons (.str "off") (.cons (.bi .min1 (.cons (.comp (.it (.var 6)) (.v 10) .yes (.bi .abs (.cons (.var 10) .nil)) [10]) .nil)) .nil))))) (.cons (.iff (.not (.e (.call 22 (.v (.call 9 (.v (.var 3) (.v (.var 4) .nil))) (.v (.var 8) .nil))))) (.cons (.ret (.bl false)) .nil) .nil) (.cons (.set 9 (.call 21 (.s 1 (.v (.var 5) .nil)))) (.cons (.set 10 (.call 24 (.v (.var 4) (.v (.var 9) .nil)))) (.cons (.iff (.not (.e (.call 22 (.v (.call 11 (.v (.var 3) (.v (.var 4) (.v (.tup (.cons (.str "even") (.cons (.var 9) .nil))) .nil)))) (.v (.cmp .eq (.var 10) (.int 0)) .nil))))) (.cons (.ret (.bl false)) .nil) .nil) (.cons (.iff (.not (.e (.call 22 (.v (.call 11 (.v (.var 3) (.v (.var 4) (.v (.tup (.cons (.str "off") (.cons (.bi .abs (.cons (.var 10) .nil)) .nil))) .nil)))) (.v (.cmp .eq (.var 8) (.tup (.cons (.str "off") (.cons (.bi .abs (.cons (.var 10) .nil)) .nil)))) .nil))))) (.cons (.ret (.bl false)) .nil) .nil) (.cons (.set 11 (.call 21 (.s 1 (.v (.lst (.cons .non (.cons (.tup (.cons (.str "even") .nil)) (.cons (.tup (.cons (.str "even") (.cons (.bi .lst (.cons (.var 9) .nil)) .nil))) (.cons (.tup (.cons (.str "off") (.cons .non .nil))) (.cons (.tup (.cons (.str "even") (.cons (.bin .mul (.tup (.cons (.int 0) .nil)) (.bi .len (.cons (.var 4) .nil))) .nil))) .nil)))))) .nil)))) (.cons (.iff (.e (.cmp .notN (.call 11 (.v (.var 3) (.v (.var 4) (.v (.var 11) .nil)))) (.bl false))) (.cons (.ret (.bl false)) .nil) .nil) (.cons (.iff (.or (.cons (.not (.e (.call 22 (.v (.call 14 (.v (.var 4) (.v (.var 9) .nil))) (.v (.var 10) .nil))))) (.cons (.e (.cmp .ne (.call 14 (.v (.var 4) (.v (.call 18 (.v (.var 9) .nil)) .nil))) (.bin .sub (.int 0) (.var 10)))) .nil))) (.cons (.ret (.bl false)) .nil) .nil) (.cons (.set 12 (.lst (.cons (.call 15 (.v (.var 4) (.v (.var 9) .nil))) (.cons (.call 15 (.v (.var 4) (.v (.call 18 (.v (.var 9) .nil)) .nil))) .nil)))) (.cons (.iff (.e (.cmp .ne (.var 12) (.ife (.e (.cmp .eq (.var 10) (.int 0))) (.lst (.cons (.str "even") (.cons (.str "even") .nil))) (.ife (.e (.cmp .gt (.var 10) (.int 0))) (.lst (.cons (.str "right") (.cons (.str "left") .nil))) (.lst (.cons (.str "left") (.cons (.str "right") .nil))))))) (.cons (.ret (.bl false)) .nil) .nil) (.cons (.iff (.not (.e (.call 22 (.v (.call 12 (.v (.var 3) (.v (.var 4) .nil))) (.v (.bi .len (.cons (.var 7) .nil)) .nil))))) (.cons (.ret (.bl false)) .nil) .nil) (.cons (.iff (.and (.cons (.e (.cmp .lt (.var 3) (.int 4))) (.cons (.e (.cmp .lt (.call 12 (.v (.bin .add (.var 3) (.int 1)) (.v (.var 4) .nil))) (.bi .len (.cons (.var 7) .nil)))) .nil))) (.cons (.ret (.bl false)) .nil) .nil) (.cons (.iff (.e (.cmp .ne (.var 10) (.int 0))) (.cons (.set 13 (.call 16 (.v (.var 3) (.v (.var 4) (.v (.var 9) .nil))))) (.cons (.iff (.e (.cmp .notN (.var 13) .non)) (.cons (.setT (.t [(.v 14), (.v 15)]) (.var 13)) (.cons (.set 16 (.bin .add (.bin .add (.sl (.var 9) .none (.some (.var 14))) (.tup (.cons (.var 15) .nil))) (.sl (.var 9) (.some (.bin .add (.var 14) (.int 1))) .none))) (.cons (.iff (.or (.cons (.e (.cmp .isin (.var 15) (.var 9))) (.cons (.e (.cmp .eq (.var 15) (.int 0))) (.cons (.e (.cmp .gt (.bi .abs (.cons (.var 15) .nil)) (.var 3))) (.cons (.e (.cmp .ne (.call 24 (.v (.var 4) (.v (.var 16) .nil))) (.int 0))) .nil))))) (.cons (.ret (.bl false)) .nil) .nil) .nil))) .nil) .nil)) .nil) (.cons (.set 17 (.lst .nil)) (.cons (.for_ (.enum (.var 4)) (.t [(.v 18), (.v 19)]) (.cons (.for_ (.rng2 (.bin .add (.var 18) (.int 1)) (.bi .len (.cons (.var 4) .nil))) (.v 20) (.cons (.set 21 (.ix (.var 4) (.var 20))) (.cons (.set 22 (.comp (.rng2 (.int 1) (.bin .add (.var 3) (.int 1))) (.v 24) (.and (.cons (.e (.cmp .eq (.bin .mod (.bi .int (.cons (.bin .mul (.var 19) (.var 24)) .nil)) (.var 21)) (.int 0))) (.cons (.e (.cmp .le (.bin .fdiv (.bin .mul (.var 19) (.var 24)) (.var 21)) (.var 3))) .nil))) (.var 24) [24])) (.cons (.ex (.me .extend (.var 17) (.cons (.ife (.e (.cmp .gt (.bi .len (.cons (.var 22) .nil)) (.int 0))) (.lst (.cons (.tup (.cons (.var 18) (.cons (.var 20) .nil))) .nil)) (.lst .nil)) .nil))) .nil))) [20, 21, 22, 24]) .nil) [18, 19, 20, 21, 22, 24]) (.cons (.iff (.not (.e (.call 22 (.v (.call 17 (.v (.var 3) (.v (.var 4) .nil))) (.v (.bi .tup (.cons (.var 17) .nil)) .nil))))) (.cons (.ret (.bl false)) .nil) .nil) .nil)))))))))))))))))))))) [2, 3, 4, 5, 6, 7, 8, 9, 10, 11, 12, 13, 14, 15, 16, 17, 18, 19, 20, 21, 22, 23, 24]) (.cons (.ret (.and (.cons (.cmp .eq (.call 9 (.v (.int 1) (.v (.tup (.cons (.int 3) (.cons (.int 3) .nil))) .nil))) (.tup (.cons (.str "even") (.cons (.tup (.cons (.neg (.int 1)) (.cons (.int 1) .nil))) .nil)))) (.cons (.cmp .eq (.call 9 (.v (.int 1) (.v (.tup (.cons (.int 1) (.cons (.int 2) .nil))) .nil))) (.tup (.cons (.str "off") (.cons (.int 1) .nil)))) .nil)))) .nil)))
def f_law : Fn := ⟨1, 25, [true], false, b_law⟩
def e_law : De := ⟨"law", top 36, ["script", "hand", "turn", "m", "children", "every", "sums", "good", "due", "seats", "whole", "bad", "sides", "told", "child", "seat", "other", "alone", "i", "one", "j", "its", "some", "again", "a"], ["script"], f_law⟩
theorem d_law : BdAt e_law := fun _ _ _ _ _ _ us hl => match us, hl with | [_], _ => rfl
def tbl : List De := [e_is_integer, e_is_within, e_is_tuple, e_check_children, e_check_beam, e_places_of, e_all_seats, e_whole_of, e_told_of, e_even_or_off, e_are_seats, e_is_even_or_off, e_seats_count, e_check_seats, e_comes_to, e_heaviest_side, e_moved_even, e_who_alone, e_turned_seats, e__law_hand, e__law_draw, e__law_some, e__law_is, e__law_seats, e__law_sum_at, e_law]
def gls : List (Str × PyData) := [("MOST_PLACES", .int 4), ("MOST_CHILDREN", .int 4), ("HEAVIEST", .int 40)]
theorem k_is_integer : chkD (pgOf tbl gls fun _ => none).M e_is_integer = true := by decide +kernel
theorem k_is_within : chkD (pgOf tbl gls fun _ => none).M e_is_within = true := by decide +kernel
theorem k_is_tuple : chkD (pgOf tbl gls fun _ => none).M e_is_tuple = true := by decide +kernel
theorem k_check_children : chkD (pgOf tbl gls fun _ => none).M e_check_children = true := by decide +kernel
theorem k_check_beam : chkD (pgOf tbl gls fun _ => none).M e_check_beam = true := by decide +kernel
theorem k_places_of : chkD (pgOf tbl gls fun _ => none).M e_places_of = true := by decide +kernel
theorem k_all_seats : chkD (pgOf tbl gls fun _ => none).M e_all_seats = true := by decide +kernel
theorem k_whole_of : chkD (pgOf tbl gls fun _ => none).M e_whole_of = true := by decide +kernel
theorem k_told_of : chkD (pgOf tbl gls fun _ => none).M e_told_of = true := by decide +kernel
theorem k_even_or_off : chkD (pgOf tbl gls fun _ => none).M e_even_or_off = true := by decide +kernel
theorem k_are_seats : chkD (pgOf tbl gls fun _ => none).M e_are_seats = true := by decide +kernel
theorem k_is_even_or_off : chkD (pgOf tbl gls fun _ => none).M e_is_even_or_off = true := by decide +kernel
theorem k_seats_count : chkD (pgOf tbl gls fun _ => none).M e_seats_count = true := by decide +kernel
theorem k_check_seats : chkD (pgOf tbl gls fun _ => none).M e_check_seats = true := by decide +kernel
theorem k_comes_to : chkD (pgOf tbl gls fun _ => none).M e_comes_to = true := by decide +kernel
theorem k_heaviest_side : chkD (pgOf tbl gls fun _ => none).M e_heaviest_side = true := by decide +kernel
theorem k_moved_even : chkD (pgOf tbl gls fun _ => none).M e_moved_even = true := by decide +kernel
theorem k_who_alone : chkD (pgOf tbl gls fun _ => none).M e_who_alone = true := by decide +kernel
theorem k_turned_seats : chkD (pgOf tbl gls fun _ => none).M e_turned_seats = true := by decide +kernel
theorem k__law_hand : chkD (pgOf tbl gls fun _ => none).M e__law_hand = true := by decide +kernel
theorem k__law_draw : chkD (pgOf tbl gls fun _ => none).M e__law_draw = true := by decide +kernel
theorem k__law_some : chkD (pgOf tbl gls fun _ => none).M e__law_some = true := by decide +kernel
theorem k__law_is : chkD (pgOf tbl gls fun _ => none).M e__law_is = true := by decide +kernel
theorem k__law_seats : chkD (pgOf tbl gls fun _ => none).M e__law_seats = true := by decide +kernel
theorem k__law_sum_at : chkD (pgOf tbl gls fun _ => none).M e__law_sum_at = true := by decide +kernel
theorem k_law : chkD (pgOf tbl gls fun _ => none).M e_law = true := by decide +kernel
theorem chk : chkAll tbl gls = true := List.all_eq_true.mpr fun e he => by
  simp only [tbl, List.mem_cons, List.not_mem_nil, or_false] at he
  rcases he with rfl | rfl | rfl | rfl | rfl | rfl | rfl | rfl | rfl | rfl | rfl | rfl | rfl | rfl | rfl | rfl | rfl | rfl | rfl | rfl | rfl | rfl | rfl | rfl | rfl | rfl
  · exact k_is_integer
  · exact k_is_within
  · exact k_is_tuple
  · exact k_check_children
  · exact k_check_beam
  · exact k_places_of
  · exact k_all_seats
  · exact k_whole_of
  · exact k_told_of
  · exact k_even_or_off
  · exact k_are_seats
  · exact k_is_even_or_off
  · exact k_seats_count
  · exact k_check_seats
  · exact k_comes_to
  · exact k_heaviest_side
  · exact k_moved_even
  · exact k_who_alone
  · exact k_turned_seats
  · exact k__law_hand
  · exact k__law_draw
  · exact k__law_some
  · exact k__law_is
  · exact k__law_seats
  · exact k__law_sum_at
  · exact k_law
theorem bds : AllP BdAt tbl := ⟨d_is_integer, d_is_within, d_is_tuple, d_check_children, d_check_beam, d_places_of, d_all_seats, d_whole_of, d_told_of, d_even_or_off, d_are_seats, d_is_even_or_off, d_seats_count, d_check_seats, d_comes_to, d_heaviest_side, d_moved_even, d_who_alone, d_turned_seats, d__law_hand, d__law_draw, d__law_some, d__law_is, d__law_seats, d__law_sum_at, d_law, True.intro⟩
abbrev G : Pg := pgOf tbl gls fun _ => none
@[simp] theorem gl_0 : G.gl 0 = some (.int 4) := rfl
@[simp] theorem gl_1 : G.gl 1 = some (.int 4) := rfl
@[simp] theorem gl_2 : G.gl 2 = some (.int 40) := rfl
end Fwk96

set_option linter.all false
set_option maxRecDepth 100000
set_option maxHeartbeats 4000000
namespace Fwk96
open PySem PySem.Spec L2 Fw
variable {d : Nat} {Q : RV → List SV → Prop} {Xq : Nat → List SV → Prop} {m n : Nat}
def rowD (r : List Int) : PyData := .tuple (r.map .int)
def rowsD (l : List (List Int)) : List PyData := l.map rowD
@[simp] theorem rowsD_len {l : List (List Int)} : (rowsD l).length = l.length := by simp [rowsD]
def neO : PyData → Option PyData
  | .int p => if decide (p ≠ 0) = true then some (.int p) else none
  | _ => none
theorem plc_fm : (rngL (-(m : Int)) (2 * m + 1)).filterMap neO = (plc m).map PyData.int := by
  unfold rngL plc
  have e : ((List.range (2 * m + 1)).map fun k : Nat => PyData.int (-(m : Int) + (k : Int))) = ((List.range (2 * m + 1)).map fun k : Nat => -(m : Int) + (k : Int)).map PyData.int := by rw [List.map_map]; rfl
  rw [e]
  exact fm_if (p := fun p : Int => decide (p ≠ 0)) (h := PyData.int) (fun a => rfl)
theorem plc_len : (plc m).length ≤ 2 * m + 1 := by
  unfold plc
  refine Nat.le_trans (List.length_filter_le _ _) ?_
  simp
theorem sp_places (hm : m ≤ 1000) (h : Q (.z (.list ((plc m).map .int))) [.val (.int m)]) : callW G.T G.gl (d + 1) i_places_of [.val (.int m)] Q Xq := by
  refine callW_in (fn := f_places_of) rfl rfl rfl fun xq E rt _ => ?_
  have e : ((m : Int) + 1 + (m : Int)).toNat = 2 * m + 1 := by omega
  simp -dsimp [f_places_of, b_places_of, e]
  refine ⟨by omega, by unfold rngL; simp; omega, comp_ok neO (fun p hp N hN => ?_) ?_⟩
  · unfold rngL at hp
    obtain ⟨k, _, rfl⟩ := List.mem_map.mp hp
    simp -dsimp
    have e2 : neO (.int (-(m : Int) + (k : Int))) = if decide (-(m : Int) + (k : Int) ≠ 0) = true then some (.int (-(m : Int) + (k : Int))) else none := rfl
    rw [e2] at hN
    refine ⟨fun z => ?_, fun z => ?_⟩
    · rw [if_pos (by simpa using z)] at hN
      exact hN
    · rw [if_neg (by simpa using z)] at hN
      exact hN
  · rw [plc_fm]
    refine rt _ _ ?_
    simp -dsimp [f_places_of]
    exact h
def mulO : PyData → Option PyData
  | .tuple [.int a, .int b] => some (.int (a * b))
  | _ => none
theorem mul_fm (cs s : List Int) : (List.zipWith (fun x y => PyData.tuple [x, y]) (cs.map PyData.int) (s.map PyData.int)).filterMap mulO = (mulL cs s).map PyData.int := by
  rw [zip_ints_fm (g := fun a b => PyData.int (a * b)) (fun a b => rfl)]
  unfold mulL
  rw [List.map_zipWith]
theorem sp_whole {cs s : List Int} (hc : ∀ c ∈ cs, 0 ≤ c ∧ c ≤ 1000) (hl : cs.length ≤ 1000) (h : Q (.z (.int (wh cs s))) [.val (rowD cs), .val (rowD s)]) : callW G.T G.gl (d + 1) i_whole_of [.val (rowD cs), .val (rowD s)] Q Xq := by
  refine callW_in (fn := f_whole_of) rfl rfl rfl fun xq E rt _ => ?_
  unfold rowD at h ⊢
  simp -dsimp [f_whole_of, b_whole_of]
  refine ⟨_, _, ⟨rfl, rfl⟩, by simp; omega, comp_ok mulO (fun p hp N hN => ?_) ?_⟩
  · obtain ⟨a, b, ha, hb, rfl⟩ := zip_ints_mem hp
    have := hc a ha
    simp -dsimp [CMul]
    exact ⟨.inl ⟨by omega, by omega⟩, hN⟩
  · rw [mul_fm]
    simp -dsimp
    refine ⟨_, rfl, rt _ _ ?_⟩
    simp -dsimp [f_whole_of]
    exact h
theorem sp_sum_at {cs s : List Int} (hc : ∀ c ∈ cs, 0 ≤ c ∧ c ≤ 1000) (hl : cs.length ≤ 1000) (h : Q (.z (.int (wh cs s))) [.val (rowD cs), .val (rowD s)]) : callW G.T G.gl (d + 1) i__law_sum_at [.val (rowD cs), .val (rowD s)] Q Xq := by
  refine callW_in (fn := f__law_sum_at) rfl rfl rfl fun xq E rt _ => ?_
  unfold rowD at h ⊢
  simp -dsimp [f__law_sum_at, b__law_sum_at]
  refine ⟨_, _, ⟨rfl, rfl⟩, by simp; omega, comp_ok mulO (fun p hp N hN => ?_) ?_⟩
  · obtain ⟨a, b, ha, hb, rfl⟩ := zip_ints_mem hp
    have := hc a ha
    simp -dsimp [CMul]
    exact ⟨.inl ⟨by omega, by omega⟩, hN⟩
  · rw [mul_fm]
    simp -dsimp
    refine ⟨_, rfl, rt _ _ ?_⟩
    simp -dsimp [f__law_sum_at]
    exact h
end Fwk96

set_option linter.all false
set_option maxRecDepth 100000
set_option maxHeartbeats 4000000
namespace Fwk96
open PySem PySem.Spec L2 Fw
variable {d : Nat} {Q : RV → List SV → Prop} {Xq : Nat → List SV → Prop} {m n : Nat}
def stepR (m : Nat) (row : List Int) : List (List Int) := ((plc m).filter fun p => !row.contains p).map fun p => row ++ [p]
theorem stepL_eq {rows : List (List Int)} : stepL m rows = rows.flatMap (stepR m) := rfl
def rowO (row : List Int) : PyData → Option PyData
  | .int p => if (!row.contains p) = true then some (rowD (row ++ [p])) else none
  | _ => none
theorem row_fm {row : List Int} : ((plc m).map PyData.int).filterMap (rowO row) = rowsD (stepR m row) := by
  rw [fm_if (p := fun p : Int => !row.contains p) (h := fun p => rowD (row ++ [p])) (fun a => rfl)]
  unfold rowsD stepR
  rw [List.map_map]
  rfl
theorem stepR_len {row : List Int} : (stepR m row).length ≤ 2 * m + 1 := by
  unfold stepR
  rw [List.length_map]
  exact Nat.le_trans (List.length_filter_le _ _) plc_len
theorem rows_at {rows : List (List Int)} {i : Nat} {x : PyData} (h : (rowsD rows)[i]? = some x) : ∃ row, rows[i]? = some row ∧ x = rowD row ∧ rows.take (i + 1) = rows.take i ++ [row] := by
  unfold rowsD at h
  rw [List.getElem?_map] at h
  cases e : rows[i]? with
  | none => rw [e] at h; cases h
  | some row =>
    rw [e] at h
    refine ⟨row, rfl, (Option.some.inj h).symm, ?_⟩
    rw [List.take_add_one, e]; rfl
theorem part_len {rows : List (List Int)} {i : Nat} {f : List Int → List (List Int)} : ((rows.take i).flatMap f).length ≤ (rows.flatMap f).length := by
  conv => rhs; rw [← List.take_append_drop i rows, List.flatMap_append, List.length_append]
  omega
theorem rowD_app {row : List Int} {p : Int} : PyData.tuple (row.map PyData.int ++ [.int p]) = rowD (row ++ [p]) := by
  unfold rowD
  rw [List.map_append]
  rfl
/-- what the first rows lead to -/
def partL (m : Nat) (rows : List (List Int)) (j : Nat) : List (List Int) := (rows.take j).flatMap (stepR m)
theorem partL_le {rows : List (List Int)} {j : Nat} : (partL m rows j).length ≤ (stepL m rows).length := part_len
theorem partL_succ {rows : List (List Int)} {j : Nat} {row : List Int} (ht : rows.take (j + 1) = rows.take j ++ [row]) : partL m rows (j + 1) = partL m rows j ++ stepR m row := by
  unfold partL
  rw [ht, List.flatMap_append]
  simp
theorem partL_all {rows : List (List Int)} : partL m rows (rowsD rows).length = stepL m rows := by
  unfold partL
  rw [rowsD_len, List.take_length]; rfl
theorem rowsD_app {a b : List (List Int)} : rowsD (a ++ b) = rowsD a ++ rowsD b := by unfold rowsD; rw [List.map_append]
def IsL (sv : SV) (l : List PyData) : Prop := sv = .ls l ∨ sv = .val (.list l)
theorem sp_all_seats {cs : List Int} (hm : 1 ≤ m ∧ m ≤ 4) (hn : cs.length ≤ 3 ∧ cs.length ≤ 2 * m) (h : Q (.z (.list (rowsD (seatsL m cs.length)))) [.val (.int m), .val (rowD cs)]) : callW G.T G.gl (d + 2) i_all_seats [.val (.int m), .val (rowD cs)] Q Xq := by
  refine callW_in (fn := f_all_seats) rfl rfl rfl fun xq E rt _ => ?_
  unfold rowD at h ⊢
  simp -dsimp [f_all_seats, b_all_seats]
  refine for_ok (fun i S => ∃ sv, IsL sv (rowsD (seatsL m i)) ∧ S = [some (.val (.int m)), some (.val (.tuple (cs.map .int))), some sv, none, none, none, none]) ?_ ?_ ⟨_, .inl rfl, rfl⟩
  · rintro i x S N hx ⟨sv, hsv, rfl⟩ hN
    have hi : i < cs.length := by have := (List.getElem?_eq_some_iff.mp hx).1; simpa using this
    have r1 := rw_of (m := m) (n := i + 1) hm.1 hm.2 (by omega) (by omega)
    have hfull : (stepL m (seatsL m i)).length ≤ 400 := r1.len
    have hN' := hN _ ⟨_, .inr rfl, rfl⟩
    have body : ∀ (N2 : En), N2.nx [some (.val (.int m)), some (.val (.tuple (cs.map .int))), some (.val (.list (rowsD (seatsL m i)))), some (.val x), some (.ls (rowsD (seatsL m (i + 1)))), none, none] →
        forW (.v 5) [5, 6] (hold (wpB ⟨callW G.T G.gl (d + 1), G.gl, xq⟩ (.cons (.ex (.me .extend (.var 4) (.cons (.comp (.it (.call 5 (.v (.var 0) .nil))) (.v 6) (.e (.cmp .notin (.var 6) (.var 5))) (.bin .add (.var 5) (.tup (.cons (.var 6) .nil))) [6]) .nil))) .nil)) ⟨⟩) (rowsD (seatsL m i))
          [some (.val (.int m)), some (.val (.tuple (cs.map .int))), some (.val (.list (rowsD (seatsL m i)))), some (.val x), some (.ls []), none, none] N2 := by
      intro N2 hN2
      refine for_ok (fun j S => S = [some (.val (.int m)), some (.val (.tuple (cs.map .int))), some (.val (.list (rowsD (seatsL m i)))), some (.val x), some (.ls (rowsD (partL m (seatsL m i) j))), none, none]) ?_ ?_ rfl
      · rintro j y S N3 hy rfl hN3
        obtain ⟨row, hr, rfl, ht⟩ := rows_at hy
        have hN3 := hN3 _ rfl
        rw [partL_succ ht, rowsD_app] at hN3
        have h1 := partL_le (m := m) (rows := seatsL m i) (j := j)
        have h2 := stepR_len (m := m) (row := row)
        unfold rowD
        simp -dsimp
        refine sp_places (by omega) ?_
        simp -dsimp
        refine ⟨by have := plc_len (m := m); omega, comp_ok (rowO row) (fun p hp N4 hN4 => ?_) ?_⟩
        · obtain ⟨p, _, rfl⟩ := List.mem_map.mp hp
          have e2 : rowO row (.int p) = if (!row.contains p) = true then some (rowD (row ++ [p])) else none := rfl
          rw [e2] at hN4
          have e3 : okDs (row.map PyData.int) 40 = true ∧ okD (.int p) 40 = true := ⟨ok_ints, rfl⟩
          have hl : row.length ≤ 3 := by
            have r0 := rw_of (m := m) (n := i) hm.1 hm.2 (by omega) (by omega)
            have := (r0.good row (List.mem_of_getElem? hr)).1
            omega
          simp -dsimp [e3, any_int, rowD_app]
          refine ⟨fun z => ⟨by omega, ?_⟩, fun z => ?_⟩
          · have hc : (!row.contains p) = true := by simp; exact fun z' => z p z' rfl
            rw [if_pos hc] at hN4
            exact hN4
          · have hc : ¬ (!row.contains p) = true := by simpa using z
            rw [if_neg hc] at hN4
            exact hN4
        · rw [row_fm]
          simp -dsimp
          exact ⟨by omega, hN3⟩
      · rintro S rfl
        rw [partL_all]
        exact hN2
    rcases hsv with rfl | rfl
    · simp -dsimp
      refine body _ ?_
      simp -dsimp
      exact hN'
    · simp -dsimp
      refine body _ ?_
      simp -dsimp
      exact hN'
  · rintro S ⟨sv, hsv, rfl⟩
    have e : (cs.map PyData.int).length = cs.length := by simp
    rw [e] at hsv
    rcases hsv with rfl | rfl
    · simp -dsimp
      refine rt _ _ ?_
      simp -dsimp [f_all_seats]
      exact h
    · simp -dsimp
      refine rt _ _ ?_
      simp -dsimp [f_all_seats]
      exact h
end Fwk96

set_option linter.all false
set_option maxRecDepth 100000
set_option maxHeartbeats 4000000
namespace Fwk96
open PySem PySem.Spec L2 Fw
variable {d : Nat} {Q : RV → List SV → Prop} {Xq : Nat → List SV → Prop} {m n : Nat}
def rowO2 (row : List Int) : PyData → Option PyData
  | .int p => if (decide (p ≠ 0) && !row.contains p) = true then some (rowD (row ++ [p])) else none
  | _ => none
theorem row_fm2 {row : List Int} : (rngL (-(m : Int)) (2 * m + 1)).filterMap (rowO2 row) = rowsD (stepR m row) := by
  unfold rngL stepR plc
  have e : ((List.range (2 * m + 1)).map fun k : Nat => PyData.int (-(m : Int) + (k : Int))) = ((List.range (2 * m + 1)).map fun k : Nat => -(m : Int) + (k : Int)).map PyData.int := by rw [List.map_map]; rfl
  rw [e, fm_if (p := fun p : Int => decide (p ≠ 0) && !row.contains p) (h := fun p => rowD (row ++ [p])) (fun a => rfl), List.filter_filter]
  unfold rowsD
  rw [List.map_map]
  have e2 : (fun p : Int => decide (p ≠ 0) && !row.contains p) = fun p : Int => (!row.contains p) && decide (p ≠ 0) := by
    funext p
    exact Bool.and_comm ..
  rw [e2]
  rfl
theorem sp_law_seats (hm : 1 ≤ m ∧ m ≤ 4) (hn : n ≤ 3 ∧ n ≤ 2 * m) (h : Q (.z (.list (rowsD (seatsL m n)))) [.val (.int m), .val (.int n)]) : callW G.T G.gl (d + 2) i__law_seats [.val (.int m), .val (.int n)] Q Xq := by
  refine callW_in (fn := f__law_seats) rfl rfl rfl fun xq E rt _ => ?_
  simp -dsimp [f__law_seats, b__law_seats]
  have hlen : (rngL 0 n).length = n := by unfold rngL; simp
  refine ⟨by omega, for_ok (fun i S => ∃ sv, IsL sv (rowsD (seatsL m i)) ∧ S = [some (.val (.int m)), some (.val (.int n)), some sv, none, none, none, none]) ?_ ?_ ⟨_, .inl rfl, rfl⟩⟩
  · rintro i x S N hx ⟨sv, hsv, rfl⟩ hN
    have hi : i < n := by have := (List.getElem?_eq_some_iff.mp hx).1; omega
    have r1 := rw_of (m := m) (n := i + 1) hm.1 hm.2 (by omega) (by omega)
    have hfull : (stepL m (seatsL m i)).length ≤ 400 := r1.len
    have hN' := hN _ ⟨_, .inr rfl, rfl⟩
    have body : ∀ (N2 : En), N2.nx [some (.val (.int m)), some (.val (.int n)), some (.val (.list (rowsD (seatsL m i)))), some (.val x), some (.ls (rowsD (seatsL m (i + 1)))), none, none] →
        forW (.v 5) [5, 6] (hold (wpB ⟨callW G.T G.gl (d + 1), G.gl, xq⟩ (.cons (.ex (.me .extend (.var 4) (.cons (.comp (.rng2 (.bin .sub (.int 0) (.var 0)) (.bin .add (.var 0) (.int 1))) (.v 6) (.and (.cons (.e (.cmp .ne (.var 6) (.int 0))) (.cons (.e (.cmp .notin (.var 6) (.var 5))) .nil))) (.bin .add (.var 5) (.tup (.cons (.var 6) .nil))) [6]) .nil))) .nil)) ⟨⟩) (rowsD (seatsL m i))
          [some (.val (.int m)), some (.val (.int n)), some (.val (.list (rowsD (seatsL m i)))), some (.val x), some (.ls []), none, none] N2 := by
      intro N2 hN2
      refine for_ok (fun j S => S = [some (.val (.int m)), some (.val (.int n)), some (.val (.list (rowsD (seatsL m i)))), some (.val x), some (.ls (rowsD (partL m (seatsL m i) j))), none, none]) ?_ ?_ rfl
      · rintro j y S N3 hy rfl hN3
        obtain ⟨row, hr, rfl, ht⟩ := rows_at hy
        have hN3 := hN3 _ rfl
        rw [partL_succ ht, rowsD_app] at hN3
        have h1 := partL_le (m := m) (rows := seatsL m i) (j := j)
        have h2 := stepR_len (m := m) (row := row)
        unfold rowD
        have e : ((m : Int) + 1 - -(m : Int)).toNat = 2 * m + 1 := by omega
        have e' : ((m : Int) + 1 + (m : Int)).toNat = 2 * m + 1 := by omega
        simp -dsimp [e, e']
        refine ⟨by omega, by unfold rngL; simp; omega, comp_ok (rowO2 row) (fun p hp N4 hN4 => ?_) ?_⟩
        · unfold rngL at hp
          obtain ⟨k, _, rfl⟩ := List.mem_map.mp hp
          generalize -(m : Int) + (k : Int) = p at hN4 ⊢
          have e2 : rowO2 row (.int p) = if (decide (p ≠ 0) && !row.contains p) = true then some (rowD (row ++ [p])) else none := rfl
          rw [e2] at hN4
          have e3 : okDs (row.map PyData.int) 40 = true ∧ okD (.int p) 40 = true := ⟨ok_ints, rfl⟩
          have hl : row.length ≤ 3 := by
            have r0 := rw_of (m := m) (n := i) hm.1 hm.2 (by omega) (by omega)
            have := (r0.good row (List.mem_of_getElem? hr)).1
            omega
          simp -dsimp [e3, any_int, rowD_app]
          refine ⟨fun z0 => ⟨fun z => ⟨by omega, ?_⟩, fun z => ?_⟩, fun z => ?_⟩
          · have hc : (decide (p ≠ 0) && !row.contains p) = true := by simp [z0]; exact fun z' => z p z' rfl
            rw [if_pos hc] at hN4
            exact hN4
          · have hc : ¬ (decide (p ≠ 0) && !row.contains p) = true := by simp [z]
            rw [if_neg hc] at hN4
            exact hN4
          · have hc : ¬ (decide (p ≠ 0) && !row.contains p) = true := by simp [z]
            rw [if_neg hc] at hN4
            exact hN4
        · rw [row_fm2]
          simp -dsimp
          exact ⟨by omega, hN3⟩
      · rintro S rfl
        rw [partL_all]
        exact hN2
    rcases hsv with rfl | rfl
    · simp -dsimp
      refine body _ ?_
      simp -dsimp
      exact hN'
    · simp -dsimp
      refine body _ ?_
      simp -dsimp
      exact hN'
  · rintro S ⟨sv, hsv, rfl⟩
    have e : ((n : Int).toNat) = n := by omega
    have hsv : IsL sv (rowsD (seatsL m n)) := by rw [← hlen]; exact hsv
    rcases hsv with rfl | rfl
    · simp -dsimp
      refine rt _ _ ?_
      simp -dsimp [f__law_seats]
      exact h
    · simp -dsimp
      refine rt _ _ ?_
      simp -dsimp [f__law_seats]
      exact h
end Fwk96

set_option linter.all false
set_option maxRecDepth 100000
set_option maxHeartbeats 4000000
namespace Fwk96
open PySem PySem.Spec L2 Fw
variable {d : Nat} {Q : RV → List SV → Prop} {Xq : Nat → List SV → Prop} {m n : Nat}
def ab (w : Int) : Int := if w < 0 then -w else w
def offF (cs r : List Int) : Int := ab (wh cs r)
def pairD (cs r : List Int) : PyData := .tuple [.int (offF cs r), rowD r]
theorem lt_rows {r s : List Int} : PySem.W.dataLt (rowD r) (rowD s) = !decide (s ≤ r) := by
  have e1 : PySem.W.dataLt (rowD r) (rowD s) = PySem.W.dataLt (.list (r.map .int)) (.list (s.map .int)) := by
    unfold rowD
    rw [PySem.W.dataLt_tuple, PySem.W.dataLt_list]
  have e2 := congrFun (congrFun (PySem.W.dataLe_rows (β := List Int) id) s) r
  rw [PySem.W.dataLe_eq] at e2
  have e3 : (!PySem.W.dataLt (.list (r.map .int)) (.list (s.map .int))) = decide (s ≤ r) := e2
  rw [e1, ← e3, Bool.not_not]
theorem alike_rows {r s : List Int} : PySem.W.alike (rowD r) (rowD s) = true := PySem.W.alike_ints r s
theorem alike_pair {cs r s : List Int} : PySem.W.alike (pairD cs r) (pairD cs s) = true := by
  show (true && (PySem.W.alike (rowD r) (rowD s) && true)) = true
  rw [alike_rows]; rfl
theorem lt_pair {cs a y : List Int} (h : a ≤ y) : PySem.W.dataLt (pairD cs y) (pairD cs a) = decide (offF cs y < offF cs a) := by
  unfold pairD
  rw [PySem.W.dataLt_tuple]
  by_cases e : offF cs y = offF cs a
  · rw [PySem.W.dataLt_all_yes rfl (by rw [e]; exact eqv_refl_same rfl)]
    have e1 : decide (offF cs y < offF cs a) = false := decide_eq_false (by omega)
    rw [e1]
    cases q : PyData.eqv (rowD y) (rowD a) with
    | true => rw [PySem.W.dataLt_all_yes alike_rows q]; rfl
    | false => rw [PySem.W.dataLt_all_no alike_rows q, lt_rows, decide_eq_true h]; rfl
  · rw [PySem.W.dataLt_all_no rfl (eqv_ne rfl rfl (by simpa using e)), PySem.W.dataLt_int]
theorem min_pairs {cs : List Int} : ∀ {l : List (List Int)} {x : List Int}, (∀ y ∈ l, x ≤ y) → l.Pairwise (· ≤ ·) → PySem.W.minD (pairD cs x) (l.map (pairD cs)) = pairD cs (argm (offF cs) x l)
  | [], x, _, _ => rfl
  | z :: l, x, h, p => by
    have e1 : PySem.W.minD (pairD cs x) ((z :: l).map (pairD cs)) = PySem.W.minD (if PySem.W.dataLt (pairD cs z) (pairD cs x) = true then pairD cs z else pairD cs x) (l.map (pairD cs)) := rfl
    have e2 : argm (offF cs) x (z :: l) = argm (offF cs) (if offF cs z < offF cs x then z else x) l := rfl
    have p' := List.pairwise_cons.mp p
    rw [e1, e2, lt_pair (h z List.mem_cons_self)]
    by_cases c : offF cs z < offF cs x
    · rw [if_pos (by simpa using c), if_pos c]
      exact min_pairs p'.1 p'.2
    · rw [if_neg (by simpa using c), if_neg c]
      exact min_pairs (fun y hy => h y (List.mem_cons_of_mem _ hy)) p'.2
theorem min_offs {f : List Int → Int} : ∀ {l : List (List Int)} {x : List Int}, PySem.W.minD (.int (f x)) (l.map fun r => PyData.int (f r)) = .int (f (argm f x l))
  | [], x => rfl
  | z :: l, x => by
    have e1 : PySem.W.minD (.int (f x)) ((z :: l).map fun r => PyData.int (f r)) = PySem.W.minD (if PySem.W.dataLt (.int (f z)) (.int (f x)) = true then .int (f z) else .int (f x)) (l.map fun r => PyData.int (f r)) := rfl
    have e2 : argm f x (z :: l) = argm f (if f z < f x then z else x) l := rfl
    rw [e1, e2, PySem.W.dataLt_int]
    by_cases c : f z < f x
    · rw [if_pos (by simpa using c), if_pos c]
      exact min_offs
    · rw [if_neg (by simpa using c), if_neg c]
      exact min_offs
theorem ab_pos (w : Int) : 0 ≤ ab w := by unfold ab; split <;> omega
theorem ab_zero (w : Int) : ab w = 0 ↔ w = 0 := by unfold ab; split <;> omega
/-- what is told of children on a beam -/
def toldV (m : Nat) (cs : List Int) : PyData := match seatsL m cs.length with
  | [] => .none
  | x :: l => if offF cs (argm (offF cs) x l) = 0 then .tuple [.str "even", rowD (argm (offF cs) x l)] else .tuple [.str "off", .int (offF cs (argm (offF cs) x l))]
theorem intsOf_map : ∀ (xs : List Int), intsOf (xs.map PyData.int) = some xs
  | [] => rfl
  | x :: xs => by
    show (intsOf (xs.map PyData.int)).map (x :: ·) = _
    rw [intsOf_map xs]; rfl
/-- a function of rows, on data -/
def rowF (f : List Int → Option PyData) : PyData → Option PyData
  | .tuple xs => match intsOf xs with
    | some r => f r
    | none => none
  | _ => none
theorem rowF_at {f : List Int → Option PyData} (r : List Int) : rowF f (rowD r) = f r := by
  show (match intsOf (r.map PyData.int) with | some r => f r | none => none) = f r
  rw [intsOf_map]
theorem rows_fm {f : List Int → PyData} {l : List (List Int)} : (rowsD l).filterMap (rowF fun r => some (f r)) = l.map f := by
  unfold rowsD
  rw [fm_map (f' := fun r => some (f r)) (by intro r; rw [rowF_at]), fm_some]
theorem rows_fmi {p : List Int → Bool} {f : List Int → PyData} {l : List (List Int)} : (rowsD l).filterMap (rowF fun r => if p r = true then some (f r) else none) = (l.filter p).map f := by
  unfold rowsD
  exact fm_if (fun r => by rw [rowF_at])
theorem mem_rows {l : List (List Int)} {p : PyData} (h : p ∈ rowsD l) : ∃ r ∈ l, p = rowD r := by
  obtain ⟨r, hr, rfl⟩ := List.mem_map.mp h
  exact ⟨r, hr, rfl⟩
/-- children that sit -/
structure Ch (cs : List Int) : Prop where
  wt : ∀ c ∈ cs, 1 ≤ c ∧ c ≤ 12
  l1 : 1 ≤ cs.length
  l3 : cs.length ≤ 3
theorem ok_pairs {cs : List Int} {l : List (List Int)} : okDs (l.map (pairD cs)) 40 = true ∧ PySem.W.AlikeAll (l.map (pairD cs)) := by
  refine ⟨okDs_of fun x hx => ?_, fun x hx y hy => ?_, fun x hx => ?_⟩
  · obtain ⟨r, _, rfl⟩ := List.mem_map.mp hx
    show (true && (okDs (r.map .int) 38 && true)) = true
    rw [ok_ints]; rfl
  · obtain ⟨r, _, rfl⟩ := List.mem_map.mp hx
    obtain ⟨s, _, rfl⟩ := List.mem_map.mp hy
    exact alike_pair
  · obtain ⟨r, _, rfl⟩ := List.mem_map.mp hx
    intro h; cases h
theorem sp_told {cs : List Int} (ch : Ch cs) (hm : 1 ≤ m ∧ m ≤ 4) (hn : cs.length ≤ 2 * m) (h : Q (.z (toldV m cs)) [.val (.int m), .val (rowD cs)]) : callW G.T G.gl (d + 3) i_told_of [.val (.int m), .val (rowD cs)] Q Xq := by
  refine callW_in (fn := f_told_of) rfl rfl rfl fun xq E rt _ => ?_
  have r := rw_of (m := m) (n := cs.length) hm.1 hm.2 ch.l3 hn
  have hc : ∀ c ∈ cs, 0 ≤ c ∧ c ≤ 1000 := fun c hc => by have := ch.wt c hc; omega
  have hl3 := ch.l3
  have hlen := r.len
  simp -dsimp [f_told_of, b_told_of]
  refine sp_all_seats hm ⟨ch.l3, hn⟩ ?_
  simp -dsimp
  refine ⟨by omega, comp_ok (rowF fun s => some (pairD cs s)) (fun p hp N hN => ?_) ?_⟩
  · obtain ⟨s, hs, rfl⟩ := mem_rows hp
    rw [rowF_at] at hN
    simp -dsimp
    refine sp_whole hc (by omega) ?_
    simp -dsimp
    exact hN
  · rw [rows_fm]
    have srt := r.srt
    have pos := r.pos
    unfold toldV at h
    cases hs : seatsL m cs.length with
    | nil => rw [hs] at pos; simp at pos
    | cons x l =>
      rw [hs] at h srt
      have p := List.pairwise_cons.mp srt
      simp -dsimp
      refine ⟨pairD cs x, l.map (pairD cs), ⟨rfl, rfl⟩, ok_pairs (l := x :: l), ?_⟩
      rw [min_pairs p.1 p.2]
      unfold pairD
      simp -dsimp
      refine ⟨fun e => rt _ _ ?_, fun e => rt _ _ ?_⟩
      · simp -dsimp [f_told_of]
        have h' : Q (.z (.tuple [.str "even", rowD (argm (offF cs) x l)])) [.val (.int m), .val (rowD cs)] := by
          have := h
          simp only [] at this
          rw [if_pos e] at this
          exact this
        exact h'
      · simp -dsimp [f_told_of]
        have h' : Q (.z (.tuple [.str "off", .int (offF cs (argm (offF cs) x l))])) [.val (.int m), .val (rowD cs)] := by
          have := h
          simp only [] at this
          rw [if_neg e] at this
          exact this
        exact h'
end Fwk96

set_option linter.all false
set_option maxRecDepth 100000
set_option maxHeartbeats 4000000
namespace Fwk96
open PySem PySem.Spec L2 Fw
variable {d : Nat} {Q : RV → List SV → Prop} {Xq : Nat → List SV → Prop} {m n : Nat} {cs s : List Int}
theorem sp_children (ch : Ch cs) (h : Q (.z .none) [.val (rowD cs)]) : callW G.T G.gl (d + 3) i_check_children [.val (rowD cs)] Q Xq := by
  refine callW_in (fn := f_check_children) rfl rfl rfl fun xq E _ nx => ?_
  have h1 := ch.l1; have h3 := ch.l3
  unfold rowD at h ⊢
  simp -dsimp [f_check_children, b_check_children]
  refine sp_tuple rfl ?_
  have e1 : decide ((1 : Int) ≤ ((cs.map PyData.int).length : Int)) = true := decide_eq_true (by simp; omega)
  have e2 : decide (((cs.map PyData.int).length : Int) ≤ 4) = true := decide_eq_true (by simp; omega)
  rw [tupleB_t, e1, e2]
  simp -dsimp
  refine ⟨by omega, comp_ok (fun v => some (.bool (withinB v 1 40))) (fun p hp N hN => ?_) ?_⟩
  · obtain ⟨c, _, rfl⟩ := List.mem_map.mp hp
    simp -dsimp
    refine sp_within rfl rfl ?_
    simp -dsimp
    exact hN
  · rw [fm_bool]
    simp -dsimp
    refine ⟨cs.map fun c => decide (1 ≤ c) && decide (c ≤ 40), by rw [List.map_map]; rfl, ?_⟩
    have e : allB (cs.map fun c => decide (1 ≤ c) && decide (c ≤ 40)) = true := by
      rw [allB_map, List.all_eq_true]
      intro c hc
      have := ch.wt c hc
      rw [decide_eq_true (by omega : 1 ≤ c), decide_eq_true (by omega : c ≤ 40)]; rfl
    rw [e]
    simp -dsimp
    refine nx _ ?_
    simp -dsimp [f_check_children]
    exact h
theorem sp_beam (ch : Ch cs) (hm : 1 ≤ m ∧ m ≤ 4) (hn : cs.length ≤ 2 * m) (h : Q (.z .none) [.val (.int m), .val (rowD cs)]) : callW G.T G.gl (d + 4) i_check_beam [.val (.int m), .val (rowD cs)] Q Xq := by
  refine callW_in (fn := f_check_beam) rfl rfl rfl fun xq E _ nx => ?_
  simp -dsimp [f_check_beam, b_check_beam]
  refine sp_within rfl rfl ?_
  have e1 : decide ((1 : Int) ≤ (m : Int)) = true := decide_eq_true (by omega)
  have e2 : decide ((m : Int) ≤ 4) = true := decide_eq_true (by omega)
  simp -dsimp [e1, e2]
  refine sp_children ch ?_
  unfold rowD at h ⊢
  simp -dsimp [CMul]
  refine ⟨by omega, fun _ => nx _ ?_⟩
  simp -dsimp [f_check_beam]
  exact h
theorem sp_even_or_off (ch : Ch cs) (hm : 1 ≤ m ∧ m ≤ 4) (hn : cs.length ≤ 2 * m) (h : Q (.z (toldV m cs)) [.val (.int m), .val (rowD cs)]) : callW G.T G.gl (d + 5) i_even_or_off [.val (.int m), .val (rowD cs)] Q Xq := by
  refine callW_in (fn := f_even_or_off) rfl rfl rfl fun xq E rt _ => ?_
  simp -dsimp [f_even_or_off, b_even_or_off]
  refine sp_beam ch hm hn ?_
  simp -dsimp
  refine sp_told ch hm hn ?_
  simp -dsimp
  refine rt _ _ ?_
  simp -dsimp [f_even_or_off]
  exact h
/-- seats on a beam -/
def seatB (k : Int) (s : List Int) : Bool := s.all fun p => decide (1 ≤ ab p) && decide (ab p ≤ k)
def seO (k : Int) : PyData → Option PyData
  | .int p => some (.bool (decide (1 ≤ ab p) && decide (ab p ≤ k)))
  | _ => none
theorem se_fm {k : Int} : (s.map PyData.int).filterMap (seO k) = (s.map fun p => decide (1 ≤ ab p) && decide (ab p ≤ k)).map PyData.bool := by
  rw [fm_map (f' := fun p => some (PyData.bool (decide (1 ≤ ab p) && decide (ab p ≤ k)))) (by intro p; rfl), fm_some, List.map_map]
  rfl
theorem sp_are {k : Int} (hl : s.length = cs.length) (h3 : cs.length ≤ 3) (h : Q (.z (.bool (seatB k s && decide (s.eraseDups.length = cs.length)))) [.val (rowD cs), .val (rowD s), .val (.int k)]) : callW G.T G.gl (d + 2) i_are_seats [.val (rowD cs), .val (rowD s), .val (.int k)] Q Xq := by
  refine callW_in (fn := f_are_seats) rfl rfl rfl fun xq E rt _ => ?_
  unfold rowD at h ⊢
  simp -dsimp [f_are_seats, b_are_seats]
  refine sp_tuple rfl ?_
  have e1 : tupleB (.tuple (s.map PyData.int)) (cs.length : Int) (cs.length : Int) = true := by
    rw [tupleB_t, decide_eq_true (by simp [hl]), decide_eq_true (by simp [hl])]; rfl
  rw [e1]
  simp -dsimp
  refine ⟨by omega, comp_ok (seO k) (fun p hp N hN => ?_) ?_⟩
  · obtain ⟨p, _, rfl⟩ := List.mem_map.mp hp
    simp -dsimp
    refine sp_integer rfl ?_
    have e2 : seO k (.int p) = some (.bool (decide (1 ≤ ab p) && decide (ab p ≤ k))) := rfl
    rw [e2] at hN
    have e3 : (if p < 0 then -p else p) = ab p := rfl
    simp -dsimp [e3]
    refine ⟨fun z => ?_, fun z => ?_⟩
    · have z' : decide (1 ≤ ab p) = true := decide_eq_true z
      rw [z', Bool.true_and] at hN
      exact hN
    · have z' : decide (1 ≤ ab p) = false := decide_eq_false (by omega)
      rw [z', Bool.false_and] at hN
      exact hN
  · rw [se_fm]
    simp -dsimp
    refine ⟨s.map fun p => decide (1 ≤ ab p) && decide (ab p ≤ k), by rw [List.map_map], ?_⟩
    rw [allB_map]
    have e4 : (s.all fun p => decide (1 ≤ ab p) && decide (ab p ≤ k)) = seatB k s := rfl
    rw [e4]
    cases e5 : seatB k s with
    | false =>
      rw [e5] at h
      simp -dsimp
      refine rt _ _ ?_
      simp -dsimp [f_are_seats]
      exact h
    | true =>
      rw [e5, Bool.true_and] at h
      simp -dsimp
      refine ⟨s, rfl, by omega, rt _ _ ?_⟩
      simp -dsimp [f_are_seats]
      have e6 : decide (((s.eraseDups.length : Nat) : Int) = ((cs.length : Nat) : Int)) = decide (s.eraseDups.length = cs.length) := decide_eq_decide.mpr (by omega)
      rw [← e6] at h
      exact h
theorem sp_areN {k : Int} {v : PyData} (hv : isiB "tuple" v = false) (h : Q (.z (.bool false)) [.val (rowD cs), .val v, .val (.int k)]) : callW G.T G.gl (d + 2) i_are_seats [.val (rowD cs), .val v, .val (.int k)] Q Xq := by
  refine callW_in (fn := f_are_seats) rfl rfl rfl fun xq E rt _ => ?_
  unfold rowD at h ⊢
  simp -dsimp [f_are_seats, b_are_seats]
  refine sp_tuple rfl ?_
  have e1 : tupleB v (cs.length : Int) (cs.length : Int) = false := by
    cases v <;> first | rfl | (simp at hv)
  rw [e1]
  simp -dsimp
  refine rt _ _ ?_
  simp -dsimp [f_are_seats]
  exact h
end Fwk96

set_option linter.all false
set_option maxRecDepth 100000
set_option maxHeartbeats 4000000
namespace Fwk96
open PySem PySem.Spec L2 Fw
variable {d : Nat} {Q : RV → List SV → Prop} {Xq : Nat → List SV → Prop} {m n : Nat} {cs s : List Int}
theorem ch_wt (ch : Ch cs) : ∀ c ∈ cs, 0 ≤ c ∧ c ≤ 1000 := fun c hc => by have := ch.wt c hc; omega
theorem sok_even : PyData.strOk "even" = true := by decide +kernel
theorem sok_off : PyData.strOk "off" = true := by decide +kernel
theorem eqv_eo : PyData.eqv (.str "off") (.str "even") = false := by decide +kernel
theorem same_row : sameD (rowD s) = true := same_ints
theorem ok_row {k : Nat} : okD (rowD s) (k + 1) = true := ok_ints
theorem ok_told {k : Nat} : okD (toldV m cs) (k + 2) = true := by
  unfold toldV
  split
  · rfl
  · split
    · show (PyData.strOk "even" && (okD (rowD _) (k + 1) && true)) = true
      rw [ok_row, sok_even]; rfl
    · show (PyData.strOk "off" && (true && true)) = true
      rw [sok_off]; rfl
theorem same_told : sameD (toldV m cs) = true := by
  unfold toldV
  split
  · rfl
  · split
    · show (true && (sameD (rowD _) && true)) = true
      rw [same_row]; rfl
    · rfl
/-- a seat row that fits -/
def FitS (k : Int) (cs s : List Int) : Prop := s.length = cs.length ∧ seatB k s = true ∧ s.eraseDups.length = cs.length
theorem sp_isE (ch : Ch cs) (hm : 1 ≤ m ∧ m ≤ 4) (hn : cs.length ≤ 2 * m) (fs : FitS m cs s) (h : Q (.z (.bool (decide (wh cs s = 0)))) [.val (.int m), .val (rowD cs), .val (.tuple [.str "even", rowD s])]) :
    callW G.T G.gl (d + 5) i_is_even_or_off [.val (.int m), .val (rowD cs), .val (.tuple [.str "even", rowD s])] Q Xq := by
  refine callW_in (fn := f_is_even_or_off) rfl rfl rfl fun xq E rt _ => ?_
  simp -dsimp [f_is_even_or_off, b_is_even_or_off]
  refine sp_beam ch hm hn ?_
  simp -dsimp
  refine sp_tuple rfl ?_
  simp -dsimp
  refine sp_are fs.1 ch.l3 ?_
  rw [fs.2.1, decide_eq_true fs.2.2]
  simp -dsimp
  refine sp_whole (ch_wt ch) (by have := ch.l3; omega) ?_
  simp -dsimp
  refine rt _ _ ?_
  simp -dsimp [f_is_even_or_off]
  exact h
theorem sp_isF (ch : Ch cs) (hm : 1 ≤ m ∧ m ≤ 4) (hn : cs.length ≤ 2 * m) {v : PyData} (hv : isiB "tuple" v = false) (h : Q (.z (.bool false)) [.val (.int m), .val (rowD cs), .val (.tuple [.str "even", v])]) :
    callW G.T G.gl (d + 5) i_is_even_or_off [.val (.int m), .val (rowD cs), .val (.tuple [.str "even", v])] Q Xq := by
  refine callW_in (fn := f_is_even_or_off) rfl rfl rfl fun xq E rt _ => ?_
  simp -dsimp [f_is_even_or_off, b_is_even_or_off]
  refine sp_beam ch hm hn ?_
  simp -dsimp
  refine sp_tuple rfl ?_
  simp -dsimp
  refine sp_areN hv ?_
  simp -dsimp
  refine rt _ _ ?_
  simp -dsimp [f_is_even_or_off]
  exact h
theorem sp_isZ (ch : Ch cs) (hm : 1 ≤ m ∧ m ≤ 4) (hn : cs.length ≤ 2 * m) (hl : s.length = cs.length) (hs : seatB m s = false) (h : Q (.z (.bool false)) [.val (.int m), .val (rowD cs), .val (.tuple [.str "even", rowD s])]) :
    callW G.T G.gl (d + 5) i_is_even_or_off [.val (.int m), .val (rowD cs), .val (.tuple [.str "even", rowD s])] Q Xq := by
  refine callW_in (fn := f_is_even_or_off) rfl rfl rfl fun xq E rt _ => ?_
  simp -dsimp [f_is_even_or_off, b_is_even_or_off]
  refine sp_beam ch hm hn ?_
  simp -dsimp
  refine sp_tuple rfl ?_
  simp -dsimp
  refine sp_are hl ch.l3 ?_
  rw [hs]
  simp -dsimp
  refine rt _ _ ?_
  simp -dsimp [f_is_even_or_off]
  exact h
theorem sp_isO (ch : Ch cs) (hm : 1 ≤ m ∧ m ≤ 4) (hn : cs.length ≤ 2 * m) {w : Int} (h : Q (.z (.bool (PyData.eqv (.tuple [.str "off", .int w]) (toldV m cs)))) [.val (.int m), .val (rowD cs), .val (.tuple [.str "off", .int w])]) :
    callW G.T G.gl (d + 5) i_is_even_or_off [.val (.int m), .val (rowD cs), .val (.tuple [.str "off", .int w])] Q Xq := by
  refine callW_in (fn := f_is_even_or_off) rfl rfl rfl fun xq E rt _ => ?_
  simp -dsimp [f_is_even_or_off, b_is_even_or_off]
  refine sp_beam ch hm hn ?_
  simp -dsimp
  refine sp_tuple rfl ?_
  simp -dsimp [eqv_eo]
  refine sp_integer rfl ?_
  simp -dsimp
  refine sp_told ch hm hn ?_
  have e : eqOk (.tuple [.str "off", .int w]) (toldV m cs) := by
    unfold eqOk
    exact ⟨by show (PyData.strOk "off" && (true && true)) = true; rw [sok_off]; rfl, ok_told⟩
  simp -dsimp [e]
  refine rt _ _ ?_
  simp -dsimp [f_is_even_or_off]
  exact h
theorem sp_isN (ch : Ch cs) (hm : 1 ≤ m ∧ m ≤ 4) (hn : cs.length ≤ 2 * m) (h : Q (.z (.bool false)) [.val (.int m), .val (rowD cs), .val (.tuple [.str "off", .none])]) :
    callW G.T G.gl (d + 5) i_is_even_or_off [.val (.int m), .val (rowD cs), .val (.tuple [.str "off", .none])] Q Xq := by
  refine callW_in (fn := f_is_even_or_off) rfl rfl rfl fun xq E rt _ => ?_
  simp -dsimp [f_is_even_or_off, b_is_even_or_off]
  refine sp_beam ch hm hn ?_
  simp -dsimp
  refine sp_tuple rfl ?_
  simp -dsimp [eqv_eo]
  refine sp_integer rfl ?_
  simp -dsimp
  refine rt _ _ ?_
  simp -dsimp [f_is_even_or_off]
  exact h
theorem sp_is0 (ch : Ch cs) (hm : 1 ≤ m ∧ m ≤ 4) (hn : cs.length ≤ 2 * m) {v : PyData} (hv : tupleB v 2 2 = false) (h : Q (.z (.bool false)) [.val (.int m), .val (rowD cs), .val v]) :
    callW G.T G.gl (d + 5) i_is_even_or_off [.val (.int m), .val (rowD cs), .val v] Q Xq := by
  refine callW_in (fn := f_is_even_or_off) rfl rfl rfl fun xq E rt _ => ?_
  simp -dsimp [f_is_even_or_off, b_is_even_or_off]
  refine sp_beam ch hm hn ?_
  simp -dsimp
  refine sp_tuple rfl ?_
  rw [hv]
  simp -dsimp
  refine rt _ _ ?_
  simp -dsimp [f_is_even_or_off]
  exact h
end Fwk96

set_option linter.all false
set_option maxRecDepth 100000
set_option maxHeartbeats 4000000
namespace Fwk96
open PySem PySem.Spec L2 Fw
variable {d : Nat} {Q : RV → List SV → Prop} {Xq : Nat → List SV → Prop} {m n : Nat} {cs s : List Int}
def evL (m : Nat) (cs : List Int) : List (List Int) := (seatsL m cs.length).filter fun s => decide (wh cs s = 0)
theorem sp_count (ch : Ch cs) (hm : 1 ≤ m ∧ m ≤ 4) (hn : cs.length ≤ 2 * m) (h : Q (.z (.int ((evL m cs).length : Nat))) [.val (.int m), .val (rowD cs)]) : callW G.T G.gl (d + 5) i_seats_count [.val (.int m), .val (rowD cs)] Q Xq := by
  refine callW_in (fn := f_seats_count) rfl rfl rfl fun xq E rt _ => ?_
  have r := rw_of (m := m) (n := cs.length) hm.1 hm.2 ch.l3 hn
  have hl := r.len
  simp -dsimp [f_seats_count, b_seats_count]
  refine sp_beam ch hm hn ?_
  simp -dsimp
  refine sp_all_seats hm ⟨ch.l3, hn⟩ ?_
  simp -dsimp
  refine ⟨by omega, comp_ok (rowF fun s => if decide (wh cs s = 0) = true then some (.int 1) else none) (fun p hp N hN => ?_) ?_⟩
  · obtain ⟨s, hs, rfl⟩ := mem_rows hp
    rw [rowF_at] at hN
    simp -dsimp
    refine sp_whole (ch_wt ch) (by have := ch.l3; omega) ?_
    simp -dsimp
    refine ⟨fun e => ?_, fun e => ?_⟩
    · rw [if_pos (by simpa using e)] at hN
      exact hN
    · rw [if_neg (by simpa using e)] at hN
      exact hN
  · rw [rows_fmi]
    have e : ((seatsL m cs.length).filter fun s => decide (wh cs s = 0)) = evL m cs := rfl
    rw [e]
    simp -dsimp
    refine rt _ _ ?_
    simp -dsimp [f_seats_count]
    exact h
theorem sp_check_seats {k : Int} (ch : Ch cs) (fs : FitS k cs s) (h : Q (.z .none) [.val (rowD cs), .val (rowD s), .val (.int k)]) : callW G.T G.gl (d + 4) i_check_seats [.val (rowD cs), .val (rowD s), .val (.int k)] Q Xq := by
  refine callW_in (fn := f_check_seats) rfl rfl rfl fun xq E _ nx => ?_
  simp -dsimp [f_check_seats, b_check_seats]
  refine sp_children ch ?_
  simp -dsimp
  refine sp_are fs.1 ch.l3 ?_
  rw [fs.2.1, decide_eq_true fs.2.2]
  simp -dsimp
  refine nx _ ?_
  simp -dsimp [f_check_seats]
  exact h
theorem sp_comes (ch : Ch cs) (fs : FitS 4 cs s) (h : Q (.z (.int (wh cs s))) [.val (rowD cs), .val (rowD s)]) : callW G.T G.gl (d + 5) i_comes_to [.val (rowD cs), .val (rowD s)] Q Xq := by
  refine callW_in (fn := f_comes_to) rfl rfl rfl fun xq E rt _ => ?_
  simp -dsimp [f_comes_to, b_comes_to]
  refine sp_check_seats ch fs ?_
  simp -dsimp
  refine sp_whole (ch_wt ch) (by have := ch.l3; omega) ?_
  simp -dsimp
  refine rt _ _ ?_
  simp -dsimp [f_comes_to]
  exact h
def sideV (w : Int) : Str := if w = 0 then "even" else if 0 < w then "right" else "left"
theorem sp_heaviest (ch : Ch cs) (fs : FitS 4 cs s) (h : Q (.z (.str (sideV (wh cs s)))) [.val (rowD cs), .val (rowD s)]) : callW G.T G.gl (d + 5) i_heaviest_side [.val (rowD cs), .val (rowD s)] Q Xq := by
  refine callW_in (fn := f_heaviest_side) rfl rfl rfl fun xq E rt _ => ?_
  simp -dsimp [f_heaviest_side, b_heaviest_side]
  refine sp_check_seats ch fs ?_
  simp -dsimp
  refine sp_whole (ch_wt ch) (by have := ch.l3; omega) ?_
  unfold sideV at h
  simp -dsimp
  refine ⟨fun e => rt _ _ ?_, fun e => ⟨fun e2 => rt _ _ ?_, fun e2 => rt _ _ ?_⟩⟩
  · rw [if_pos e] at h
    simp -dsimp [f_heaviest_side]
    exact h
  · rw [if_neg e, if_pos e2] at h
    simp -dsimp [f_heaviest_side]
    exact h
  · rw [if_neg e, if_neg (by omega)] at h
    simp -dsimp [f_heaviest_side]
    exact h
def negL (s : List Int) : List Int := s.map fun p => 0 - p
def negO : PyData → Option PyData
  | .int p => some (.int (0 - p))
  | _ => none
theorem neg_fm : (s.map PyData.int).filterMap negO = (negL s).map PyData.int := by
  rw [fm_map (f' := fun p => some (PyData.int (0 - p))) (by intro p; rfl), fm_some]
  unfold negL
  rw [List.map_map]
  rfl
theorem sp_turned (fs : FitS 4 s s) (h1 : 1 ≤ s.length) (h3 : s.length ≤ 3) (h : Q (.z (rowD (negL s))) [.val (rowD s)]) : callW G.T G.gl (d + 3) i_turned_seats [.val (rowD s)] Q Xq := by
  refine callW_in (fn := f_turned_seats) rfl rfl rfl fun xq E rt _ => ?_
  have e1 : tupleB (rowD s) 1 4 = true := by
    unfold rowD
    rw [tupleB_t, decide_eq_true (by simp; omega), decide_eq_true (by simp; omega)]; rfl
  simp -dsimp [f_turned_seats, b_turned_seats]
  refine sp_tuple rfl ?_
  rw [e1]
  simp -dsimp
  refine sp_are fs.1 h3 ?_
  rw [fs.2.1, decide_eq_true fs.2.2]
  unfold rowD at h ⊢
  simp -dsimp
  refine ⟨by omega, comp_ok negO (fun p hp N hN => ?_) ?_⟩
  · obtain ⟨p, _, rfl⟩ := List.mem_map.mp hp
    have e2 : negO (.int p) = some (.int (0 - p)) := rfl
    rw [e2] at hN
    simp -dsimp
    simpa using hN
  · rw [neg_fm]
    simp -dsimp
    refine rt _ _ ?_
    simp -dsimp [f_turned_seats]
    exact h
theorem wh_neg : ∀ (cs s : List Int), wh cs (negL s) = 0 - wh cs s
  | [], s => by simp [wh, mulL, negL]
  | c :: cs, [] => by simp [wh, mulL, negL]
  | c :: cs, p :: s => by
    have ih := wh_neg cs s
    unfold wh mulL negL at ih ⊢
    rw [List.map_cons, List.zipWith_cons_cons, List.zipWith_cons_cons, List.sum_cons, List.sum_cons, ih]
    have : c * (0 - p) = - (c * p) := by rw [Int.zero_sub, Int.mul_neg]
    omega
theorem fit_row (hm : 1 ≤ m ∧ m ≤ 4) (ch : Ch cs) (hn : cs.length ≤ 2 * m) (hs : s ∈ seatsL m cs.length) {k : Int} (hk : (m : Int) ≤ k) : FitS k cs s ∧ FitS k s s ∧ FitS k cs (negL s) ∧ s.length = cs.length := by
  have r := rw_of (m := m) (n := cs.length) hm.1 hm.2 ch.l3 hn
  obtain ⟨g1, g2, g3, g4⟩ := r.good s hs
  have b : seatB k s = true := by
    unfold seatB
    rw [List.all_eq_true]
    intro p hp
    have := g2 p hp
    unfold ab
    rw [Bool.and_eq_true, decide_eq_true_eq, decide_eq_true_eq]
    split <;> omega
  have b2 : seatB k (negL s) = true := by
    unfold seatB negL
    rw [List.all_map, List.all_eq_true]
    intro p hp
    have := g2 p hp
    show (decide (1 ≤ ab (0 - p)) && decide (ab (0 - p) ≤ k)) = true
    unfold ab
    rw [Bool.and_eq_true, decide_eq_true_eq, decide_eq_true_eq]
    split <;> omega
  exact ⟨⟨g1, b, g3⟩, ⟨rfl, b, by rw [g1]; exact g3⟩, ⟨by unfold negL; rw [List.length_map]; exact g1, b2, g4⟩, g1⟩
end Fwk96

set_option linter.all false
set_option maxRecDepth 100000
set_option maxHeartbeats 4000000
set_option pp.deepTerms false
set_option pp.deepTerms.threshold 9
namespace Fwk96
open PySem PySem.Spec L2 Fw
variable {d : Nat} {Q : RV → List SV → Prop} {Xq : Nat → List SV → Prop} {m n : Nat} {cs s : List Int}
def otherR (s : List Int) (i : Nat) (p : Int) : List Int := s.take i ++ [p] ++ s.drop (i + 1)
theorem other_eq {i : Nat} {p : Int} : PyData.tuple ((s.map PyData.int).take i ++ [.int p] ++ (s.map PyData.int).drop (i + 1)) = rowD (otherR s i p) := by
  unfold rowD otherR
  rw [← List.map_take, ← List.map_drop, List.map_append, List.map_append]
  rfl
/-- what may be told of one that is moved -/
def MvR (m : Nat) (cs s : List Int) (v : PyData) : Prop := v = .none ∨ ∃ (i : Nat) (p : Int), i < cs.length ∧ v = .tuple [.int i, .int p] ∧ p ∉ s ∧ p ∈ plc m ∧ wh cs (otherR s i p) = 0
theorem sp_whole_eq {v : PyData} (hv : v = rowD s) (hc : ∀ c ∈ cs, 0 ≤ c ∧ c ≤ 1000) (hl : cs.length ≤ 1000) (h : Q (.z (.int (wh cs s))) [.val (rowD cs), .val v]) : callW G.T G.gl (d + 1) i_whole_of [.val (rowD cs), .val v] Q Xq := by
  subst hv
  exact sp_whole hc hl h
theorem sp_moved (ch : Ch cs) (hm : 1 ≤ m ∧ m ≤ 4) (hn : cs.length ≤ 2 * m) (fs : FitS m cs s) (h : ∀ v, MvR m cs s v → Q (.z v) [.val (.int m), .val (rowD cs), .val (rowD s)]) : callW G.T G.gl (d + 6) i_moved_even [.val (.int m), .val (rowD cs), .val (rowD s)] Q Xq := by
  refine callW_in (fn := f_moved_even) rfl rfl rfl fun xq E rt _ => ?_
  have h3 := ch.l3
  have hsl := fs.1
  simp -dsimp [f_moved_even, b_moved_even]
  refine sp_beam ch hm hn ?_
  simp -dsimp
  refine sp_check_seats ch fs ?_
  unfold rowD at h ⊢
  simp -dsimp
  refine ⟨by omega, for_ok (fun i S => S = [some (.val (.int m)), some (.val (.tuple (cs.map .int))), some (.val (.tuple (s.map .int))), none, none, none]) ?_ ?_ rfl⟩
  · rintro i x S N hx rfl hN
    have hN := hN _ rfl
    have hx' : x = .int (i : Int) ∧ i < cs.length := by
      obtain ⟨h1, h2⟩ := rng_at hx
      have e0 : (0 : Int) + (i : Int) = i := by omega
      rw [e0] at h1
      exact ⟨h1, h2⟩
    obtain ⟨rfl, hi⟩ := hx'
    simp -dsimp
    refine sp_places (by omega) ?_
    simp -dsimp
    refine for_ok (fun j S => S = [some (.val (.int m)), some (.val (.tuple (cs.map .int))), some (.val (.tuple (s.map .int))), some (.val (.int i)), none, none]) ?_ ?_ rfl
    · rintro j y S N2 hy rfl hN2
      have hN2 := hN2 _ rfl
      obtain ⟨p, hp, rfl⟩ := List.mem_map.mp (List.mem_of_getElem? hy)
      have e3 : okDs (s.map PyData.int) 40 = true ∧ okD (.int p) 40 = true := ⟨ok_ints, rfl⟩
      have eo := other_eq (s := s) (i := i) (p := p)
      have lt : (s.take i).length ≤ 3 := by simp; omega
      simp -dsimp [cutD_to, cutD_from1, e3, any_int]
      refine ⟨by omega, by omega, fun z => ?_, fun _ => hN2⟩
      refine sp_whole_eq (s := otherR s i p) (by unfold rowD otherR; simp) (ch_wt ch) (by omega) ?_
      simp -dsimp
      refine ⟨fun e => rt _ _ ?_, fun _ => hN2⟩
      simp -dsimp [f_moved_even]
      exact h _ (.inr ⟨i, p, hi, rfl, fun hp => z p hp rfl, hp, e⟩)
    · rintro S rfl
      simp -dsimp
      exact hN
  · rintro S rfl
    simp -dsimp
    refine rt _ _ ?_
    simp -dsimp [f_moved_even]
    exact h _ (.inl rfl)
end Fwk96

set_option linter.all false
set_option maxRecDepth 100000
set_option maxHeartbeats 4000000
set_option pp.deepTerms false
set_option pp.deepTerms.threshold 9
namespace Fwk96
open PySem PySem.Spec L2 Fw
variable {d : Nat} {Q : RV → List SV → Prop} {Xq : Nat → List SV → Prop} {m n : Nat} {cs s : List Int}
def evenB (m : Nat) (a b : Int) : Bool := (seatsL m 2).any fun s => wh [a, b] s == 0
theorem eqv_even : PyData.eqv (.str "even") (.str "even") = true := by decide +kernel
theorem told_even {a b : Int} (hm : 1 ≤ m ∧ m ≤ 4) : ∃ w x, toldV m [a, b] = .tuple [.str w, x] ∧ PyData.eqv (.str w) (.str "even") = evenB m a b := by
  have r := rw_of (m := m) (n := 2) hm.1 hm.2 (by omega) (by omega)
  have pos := r.pos
  unfold toldV evenB
  have e0 : seatsL m [a, b].length = seatsL m 2 := rfl
  rw [e0]
  cases hs : seatsL m 2 with
  | nil => rw [hs] at pos; simp at pos
  | cons x l =>
    show ∃ w y, (if offF [a, b] (argm (offF [a, b]) x l) = 0 then PyData.tuple [.str "even", rowD (argm (offF [a, b]) x l)] else .tuple [.str "off", .int (offF [a, b] (argm (offF [a, b]) x l))]) = .tuple [.str w, y] ∧ _
    by_cases h : offF [a, b] (argm (offF [a, b]) x l) = 0
    · refine ⟨"even", _, by rw [if_pos h], ?_⟩
      rw [eqv_even]
      have hw : wh [a, b] (argm (offF [a, b]) x l) = 0 := (ab_zero _).mp h
      refine (List.any_eq_true.mpr ⟨argm (offF [a, b]) x l, ?_, by simpa using hw⟩).symm
      rcases argm_mem (f := offF [a, b]) (x := x) (l := l) with e | e
      · rw [e]; exact List.mem_cons_self
      · exact List.mem_cons_of_mem _ e
    · refine ⟨"off", _, by rw [if_neg h], ?_⟩
      rw [eqv_eo]
      refine (List.any_eq_false.mpr fun y hy => ?_).symm
      have hle : offF [a, b] (argm (offF [a, b]) x l) ≤ offF [a, b] y := by
        have := argm_le (f := offF [a, b]) (x := x) (l := l)
        rcases List.mem_cons.mp hy with rfl | hy
        · exact this.1
        · exact this.2 y hy
      have h0 : 0 ≤ offF [a, b] (argm (offF [a, b]) x l) := ab_pos _
      have hy0 : offF [a, b] y ≠ 0 := by omega
      have : wh [a, b] y ≠ 0 := fun z => hy0 ((ab_zero _).mpr z)
      simpa using this
def cI (cs : List Int) (i : Nat) : Int := cs.getD i 0
theorem at_cI {i : Nat} (h : i < cs.length) : atI (cs.map PyData.int) (i : Int) = some (.int (cI cs i)) := by
  refine atI_nat ?_
  rw [List.getElem?_map, List.getElem?_eq_getElem h]
  unfold cI
  rw [List.getD_eq_getElem?_getD, List.getElem?_eq_getElem h]
  rfl
theorem cI_mem {i : Nat} (h : i < cs.length) : cI cs i ∈ cs := by
  unfold cI
  rw [List.getD_eq_getElem?_getD, List.getElem?_eq_getElem h]
  exact List.getElem_mem h
def jsL (m : Nat) (cs : List Int) (i : Nat) : List Nat := ((List.range (cs.length - (i + 1))).map fun k => i + 1 + k).filter fun j => evenB m (cI cs i) (cI cs j)
def prD (i j : Nat) : PyData := .tuple [.int (i : Int), .int (j : Int)]
def aloneL (m : Nat) (cs : List Int) (t : Nat) : List PyData := (List.range t).flatMap fun i => (jsL m cs i).map (prD i)
theorem jsL_len {i : Nat} : (jsL m cs i).length ≤ cs.length := by
  unfold jsL
  refine Nat.le_trans (List.length_filter_le _ _) ?_
  simp
theorem aloneL_succ {t : Nat} : aloneL m cs (t + 1) = aloneL m cs t ++ (jsL m cs t).map (prD t) := by
  unfold aloneL
  rw [List.range_succ, List.flatMap_append]
  simp
theorem aloneL_len : ∀ t, (aloneL m cs t).length ≤ t * cs.length
  | 0 => by simp [aloneL]
  | t + 1 => by
    rw [aloneL_succ, List.length_append, List.length_map, Nat.succ_mul]
    have := aloneL_len t
    have := jsL_len (m := m) (cs := cs) (i := t)
    omega
def jO (m : Nat) (cs : List Int) (i : Nat) : PyData → Option PyData
  | .int j => if evenB m (cI cs i) (cI cs j.toNat) = true then some (.int j) else none
  | _ => none
theorem js_fm {i : Nat} : (rngL ((i : Int) + 1) (cs.length - (i + 1))).filterMap (jO m cs i) = (jsL m cs i).map fun j : Nat => PyData.int (j : Int) := by
  unfold rngL jsL
  have e : ((List.range (cs.length - (i + 1))).map fun k : Nat => PyData.int ((i : Int) + 1 + (k : Int))) = ((List.range (cs.length - (i + 1))).map fun k => i + 1 + k).map fun j : Nat => PyData.int (j : Int) := by
    rw [List.map_map]
    refine List.map_congr_left fun k _ => ?_
    show PyData.int _ = PyData.int ((i + 1 + k : Nat) : Int)
    congr 1
  rw [e]
  exact fm_if (p := fun j : Nat => evenB m (cI cs i) (cI cs j)) (h := fun j : Nat => PyData.int (j : Int)) (fun j => by
    show (if evenB m (cI cs i) (cI cs ((j : Int).toNat)) = true then _ else _) = _
    rw [Int.toNat_natCast])
def pO (i : Nat) : PyData → Option PyData
  | .int j => some (.tuple [.int (i : Int), .int j])
  | _ => none
theorem p_fm {i : Nat} {l : List Nat} : (l.map fun j : Nat => PyData.int (j : Int)).filterMap (pO i) = l.map (prD i) := by
  rw [fm_map (f' := fun j : Nat => some (prD i j)) (by intro j; rfl), fm_some]
theorem sp_alone (ch : Ch cs) (hm : 1 ≤ m ∧ m ≤ 4) (hn : cs.length ≤ 2 * m) (h : Q (.z (.tuple (aloneL m cs cs.length))) [.val (.int m), .val (rowD cs)]) : callW G.T G.gl (d + 5) i_who_alone [.val (.int m), .val (rowD cs)] Q Xq := by
  refine callW_in (fn := f_who_alone) rfl rfl rfl fun xq E rt _ => ?_
  have h3 := ch.l3
  simp -dsimp [f_who_alone, b_who_alone]
  refine sp_beam ch hm hn ?_
  unfold rowD at h ⊢
  simp -dsimp
  refine for_ok (fun i S => S = [some (.val (.int m)), some (.val (.tuple (cs.map .int))), some (.ls (aloneL m cs i)), none, none, none, none]) ?_ ?_ rfl
  · rintro i x S N hx rfl hN
    have hN := hN _ rfl
    obtain ⟨y, hy, rfl⟩ := enum_at hx
    have hi : i < cs.length := by have := (List.getElem?_eq_some_iff.mp hy).1; simpa using this
    have hy' : y = .int (cI cs i) := by
      have := at_cI hi
      have e := atI_nat (j := i) hy
      rw [e] at this
      exact Option.some.inj this
    subst hy'
    have e1 : ((cs.length : Int) - ((i : Int) + 1)).toNat = cs.length - (i + 1) := by omega
    have al := aloneL_len (m := m) (cs := cs) i
    have jl := jsL_len (m := m) (cs := cs) (i := i)
    have al2 : (aloneL m cs i).length ≤ 9 := Nat.le_trans al (Nat.mul_le_mul (by omega : i ≤ 3) h3)
    simp -dsimp [e1]
    refine ⟨by omega, by unfold rngL; simp; omega, comp_ok (jO m cs i) (fun p hp N2 hN2 => ?_) ?_⟩
    · unfold rngL at hp
      obtain ⟨k, hk, rfl⟩ := List.mem_map.mp hp
      have hk := List.mem_range.mp hk
      have e2 : (i : Int) + 1 + (k : Int) = ((i + 1 + k : Nat) : Int) := by omega
      rw [e2] at hN2 ⊢
      have hj : i + 1 + k < cs.length := by omega
      have e3 : jO m cs i (.int ((i + 1 + k : Nat) : Int)) = if evenB m (cI cs i) (cI cs (i + 1 + k)) = true then some (.int ((i + 1 + k : Nat) : Int)) else none := by
        show (if evenB m (cI cs i) (cI cs ((((i + 1 + k : Nat) : Int)).toNat)) = true then _ else _) = _
        rw [Int.toNat_natCast]
      rw [e3] at hN2
      generalize i + 1 + k = j at hj hN2 ⊢
      simp -dsimp [at_cI hj]
      have ch2 : Ch [cI cs i, cI cs j] := ⟨fun c hc => by
        simp only [List.mem_cons, List.not_mem_nil, or_false] at hc
        rcases hc with rfl | rfl
        · exact ch.wt _ (cI_mem hi)
        · exact ch.wt _ (cI_mem hj), by simp, by simp⟩
      refine sp_told (cs := [cI cs i, cI cs j]) ch2 hm (by simp; omega) ?_
      obtain ⟨w, v, t1, t2⟩ := told_even (m := m) (a := cI cs i) (b := cI cs j) hm
      rw [t1]
      simp -dsimp [t2]
      refine ⟨fun z => ?_, fun z => ?_⟩
      · rw [if_pos z] at hN2
        exact hN2
      · rw [if_neg (by simp [z])] at hN2
        exact hN2
    · rw [js_fm]
      simp -dsimp
      refine ⟨by omega, comp_ok (pO i) (fun p hp N2 hN2 => ?_) ?_⟩
      · obtain ⟨j, _, rfl⟩ := List.mem_map.mp hp
        simp -dsimp
        exact hN2
      · rw [p_fm]
        simp -dsimp
        rw [aloneL_succ] at hN
        exact ⟨by omega, hN⟩
  · rintro S rfl
    have e : (enumFr 0 (cs.map PyData.int)).length = cs.length := by rw [enumFr_len]; simp
    rw [e]
    simp -dsimp
    refine rt _ _ ?_
    simp -dsimp [f_who_alone]
    exact h
end Fwk96

set_option linter.all false
set_option maxRecDepth 100000
set_option maxHeartbeats 4000000
set_option pp.deepTerms false
set_option pp.deepTerms.threshold 9
namespace Fwk96
open PySem PySem.Spec L2 Fw
def dep : Nat := 12
abbrev W11 (xq : Nat → SS → Prop) : Wv := ⟨callW G.T G.gl 11, G.gl, xq⟩
def turnB : CB := match hdB (tlB b_law) with
  | .for_ _ _ b _ => b
  | _ => .nil
variable {xq : Nat → SS → Prop} {E : En} {ns : List Int} {hd t : SV} {m : Nat} {cs s : List Int}
def SX (ns : List Int) (hd t : SV) (a3 a4 a5 a6 a7 a8 a9 a10 a11 a12 a13 a14 a15 a16 a17 : Option SV) : SS := [some (.ro (ns.map .int)), some hd, some t, a3, a4, a5, a6, a7, a8, a9, a10, a11, a12, a13, a14, a15, a16, a17, none, none, none, none, none, none, none]
abbrev vi (n : Nat) : Option SV := some (.val (.int n))
abbrev vr (r : List Int) : Option SV := some (.val (rowD r))
structure Ok (m : Nat) (cs : List Int) : Prop where
  m1 : 1 ≤ m ∧ m ≤ 4
  ch : Ch cs
  nm : cs.length ≤ 2 * m
theorem t0 (hh : Hnd hd) (rest : ∀ hd m cs, Ok m cs → Hnd hd → wpB (W11 xq) (dropB 2 turnB) (SX ns hd t (vi m) (vr cs) none none none none none none none none none none none none none) E) :
    wpB (W11 xq) turnB (SX ns hd t none none none none none none none none none none none none none none none) E := by
  rw [cutB 2]
  generalize hq : dropB 2 turnB = q at rest ⊢
  have r0 := hh.ref
  unfold SX at rest ⊢
  simp -dsimp [takeB, turnB, hdB, tlB, b_law, r0]
  refine sp_drawA rfl hh (by decide) (by decide) fun w hd hh w0 w1 => ?_
  have r0 := hh.ref
  simp -dsimp [r0, CMul]
  generalize em : 1 + w = M
  obtain ⟨m, rfl⟩ := Int.eq_ofNat_of_zero_le (show 0 ≤ M by omega)
  have hm : (if (3 : Int) < 2 * (m : Int) then (3 : Int) else 2 * (m : Int)) = ((min (2 * m) 3 : Nat) : Int) := by split <;> omega
  rw [hm]
  refine sp_drawA rfl hh (by omega) (by omega) fun k hd hh k0 k1 => ?_
  simp -dsimp
  generalize ek : 1 + k = K
  obtain ⟨n, rfl⟩ := Int.eq_ofNat_of_zero_le (show 0 ≤ K by omega)
  have rl : (rngL 0 n).length = n := by unfold rngL; simp
  simp -dsimp
  refine ⟨by omega, by omega, comp_st (fun i acc S => ∃ hd cs, Hnd hd ∧ acc = cs.map .int ∧ cs.length = i ∧ (∀ c ∈ cs, 1 ≤ c ∧ c ≤ 12) ∧ S = [some (.ro (ns.map .int)), some hd, some t, vi m, none, none, none, none, none, none, none, none, none, none, none, none, none, none, none, none, none, none, none, none, none]) ?_ ?_ ⟨hd, [], hh, rfl, rfl, (fun c hc => by cases hc), rfl⟩⟩
  · rintro i d acc S N hd' ⟨hd, cs, hh, rfl, hl, hc, rfl⟩ hN hN0
    have r0 := hh.ref
    simp -dsimp [r0]
    refine sp_drawA rfl hh (by decide) (by decide) fun w hd hh w0 w1 => ?_
    simp -dsimp
    refine hN _ _ ⟨hd, cs ++ [1 + w], hh, by rw [List.map_append]; rfl, by simp [hl], fun c hc' => ?_, rfl⟩
    rcases List.mem_append.mp hc' with h | h
    · exact hc c h
    · simp at h; omega
  · rintro acc S ⟨hd, cs, hh, rfl, hl, hc, rfl⟩
    rw [rl] at hl
    simp -dsimp
    exact rest hd m cs ⟨by omega, ⟨hc, by omega, by omega⟩, by omega⟩ hh
end Fwk96

set_option linter.all false
set_option maxRecDepth 100000
set_option maxHeartbeats 4000000
set_option pp.deepTerms false
set_option pp.deepTerms.threshold 9
namespace Fwk96
open PySem PySem.Spec L2 Fw
variable {xq : Nat → SS → Prop} {E : En} {ns : List Int} {hd t : SV} {m : Nat} {cs s : List Int}
abbrev rows (m : Nat) (cs : List Int) : List (List Int) := seatsL m cs.length
abbrev evS (m : Nat) (cs : List Int) : Option SV := some (.val (.list (rowsD (seatsL m cs.length))))
def whsD (m : Nat) (cs : List Int) : List PyData := (seatsL m cs.length).map fun r => .int (wh cs r)
@[simp] theorem whsD_len : (whsD m cs).length = (seatsL m cs.length).length := by simp [whsD]
abbrev smS (m : Nat) (cs : List Int) : Option SV := some (.val (.list (whsD m cs)))
abbrev gdS (m : Nat) (cs : List Int) : Option SV := some (.ls (rowsD (evL m cs)))
def gO : PyData → Option PyData
  | .tuple [x, .int w] => if decide (w = 0) = true then some x else none
  | _ => none
theorem good_fm : (List.zipWith (fun x y => PyData.tuple [x, y]) (rowsD (seatsL m cs.length)) (whsD m cs)).filterMap gO = rowsD (evL m cs) := by
  unfold rowsD whsD evL
  generalize seatsL m cs.length = l
  induction l with
  | nil => rfl
  | cons r l ih =>
    rw [List.map_cons, List.map_cons, List.zipWith_cons_cons, List.filterMap_cons, ih]
    have e : gO (.tuple [rowD r, .int (wh cs r)]) = if decide (wh cs r = 0) = true then some (rowD r) else none := rfl
    rw [e]
    by_cases h : wh cs r = 0
    · rw [if_pos (by simpa using h), List.filter_cons_of_pos (by simpa using h)]; rfl
    · rw [if_neg (by simpa using h), List.filter_cons_of_neg (by simpa using h)]
theorem zip_mem2 {p : PyData} (h : p ∈ List.zipWith (fun x y => PyData.tuple [x, y]) (rowsD (seatsL m cs.length)) (whsD m cs)) : ∃ r, p = .tuple [rowD r, .int (wh cs r)] := by
  unfold rowsD whsD at h
  rw [List.zipWith_map] at h
  obtain ⟨i, hi, e⟩ := List.mem_iff_getElem.mp h
  rw [List.getElem_zipWith] at e
  exact ⟨_, e.symm⟩
theorem t2 (ok : Ok m cs) (rest : wpB (W11 xq) (dropB 5 turnB) (SX ns hd t (vi m) (vr cs) (evS m cs) (smS m cs) (gdS m cs) none none none none none none none none none none) E) :
    wpB (W11 xq) (dropB 2 turnB) (SX ns hd t (vi m) (vr cs) none none none none none none none none none none none none none) E := by
  rw [cutB 3]
  have rest : wpB (W11 xq) (dropB 3 (dropB 2 turnB)) (SX ns hd t (vi m) (vr cs) (evS m cs) (smS m cs) (gdS m cs) none none none none none none none none none none) E := rest
  generalize hq : dropB 3 (dropB 2 turnB) = q at rest ⊢
  have r := rw_of (m := m) (n := cs.length) ok.m1.1 ok.m1.2 ok.ch.l3 ok.nm
  have hl := r.len
  have h3 := ok.ch.l3
  unfold SX at rest ⊢
  have e0 : rowD cs = .tuple (cs.map .int) := rfl
  simp -dsimp [takeB, dropB, turnB, hdB, tlB, b_law]
  rw [e0]
  simp -dsimp
  refine sp_law_seats ok.m1 ⟨ok.ch.l3, ok.nm⟩ ?_
  simp -dsimp
  refine ⟨by omega, comp_ok (rowF fun r => some (.int (wh cs r))) (fun p hp N hN => ?_) ?_⟩
  · obtain ⟨s, hs, rfl⟩ := mem_rows hp
    rw [rowF_at] at hN
    simp -dsimp
    refine sp_sum_at (ch_wt ok.ch) (by omega) ?_
    simp -dsimp
    exact hN
  · rw [rows_fm]
    have ew : ((seatsL m cs.length).map fun r => PyData.int (wh cs r)) = whsD m cs := rfl
    rw [ew]
    simp -dsimp
    refine ⟨_, _, ⟨rfl, rfl⟩, by simp; omega, comp_ok gO (fun p hp N hN => ?_) ?_⟩
    · obtain ⟨s, rfl⟩ := zip_mem2 hp
      have e : gO (.tuple [rowD s, .int (wh cs s)]) = if decide (wh cs s = 0) = true then some (rowD s) else none := rfl
      rw [e] at hN
      simp -dsimp
      refine ⟨fun z => ?_, fun z => ?_⟩
      · rw [if_pos (by simpa using z)] at hN
        exact hN
      · rw [if_neg (by simpa using z)] at hN
        exact hN
    · rw [good_fm]
      simp -dsimp
      exact rest
theorem told_good {g : List Int} {gs : List (List Int)} (h : evL m cs = g :: gs) : toldV m cs = .tuple [.str "even", rowD g] := by
  unfold evL at h
  unfold toldV
  cases hs : seatsL m cs.length with
  | nil => rw [hs] at h; cases h
  | cons x l =>
    rw [hs] at h
    have f1 : ((x :: l).filter fun s => offF cs s == 0) = g :: gs := by
      rw [← h]
      refine List.filter_congr fun y _ => ?_
      rw [Bool.eq_iff_iff]
      simp
      exact ab_zero _
    have e := argm_zero (f := offF cs) (fun y _ => ab_pos _) f1
    have g0 : offF cs g = 0 := by
      have : g ∈ (x :: l).filter fun s => offF cs s == 0 := by rw [f1]; exact List.mem_cons_self
      simpa using (List.mem_filter.mp this).2
    show (if offF cs (argm (offF cs) x l) = 0 then _ else _) = _
    rw [e, if_pos g0]
theorem told_none {x : List Int} {l : List (List Int)} (hs : seatsL m cs.length = x :: l) (h : evL m cs = []) : toldV m cs = .tuple [.str "off", .int (offF cs (argm (offF cs) x l))] := by
  unfold evL at h
  unfold toldV
  rw [hs] at h ⊢
  show (if offF cs (argm (offF cs) x l) = 0 then _ else _) = _
  rw [if_neg]
  intro z
  have hm : argm (offF cs) x l ∈ x :: l := by
    rcases argm_mem (f := offF cs) (x := x) (l := l) with e | e
    · rw [e]; exact List.mem_cons_self
    · exact List.mem_cons_of_mem _ e
  have := List.filter_eq_nil_iff.mp h _ hm
  simp at this
  exact this ((ab_zero _).mp z)
def abO : PyData → Option PyData
  | .int w => some (.int (ab w))
  | _ => none
theorem abs_fm : (whsD m cs).filterMap abO = (seatsL m cs.length).map fun r => PyData.int (offF cs r) := by
  unfold whsD
  rw [fm_map (f' := fun r => some (PyData.int (offF cs r))) (by intro r; rfl), fm_some]
theorem alike_is {α : Type} {f : α → Int} {l : List α} : okDs (l.map fun r => PyData.int (f r)) 40 = true ∧ PySem.W.AlikeAll (l.map fun r => PyData.int (f r)) := by
  refine ⟨okDs_of fun x hx => ?_, fun x hx y hy => ?_, fun x hx => ?_⟩
  · obtain ⟨r, _, rfl⟩ := List.mem_map.mp hx
    rfl
  · obtain ⟨r, _, rfl⟩ := List.mem_map.mp hx
    obtain ⟨s, _, rfl⟩ := List.mem_map.mp hy
    rfl
  · obtain ⟨r, _, rfl⟩ := List.mem_map.mp hx
    intro h; cases h
theorem plain_row {k : Nat} (h : s.length ≤ 1000) : plainD (rowD s) (k + 1) = true := plainD_tup (by simp; omega) fun x hx => plainDs_mem (plain_ints (l := s)) x hx
theorem plain_told (ok : Ok m cs) : plainD (toldV m cs) 2 = true := by
  have r := rw_of (m := m) (n := cs.length) ok.m1.1 ok.m1.2 ok.ch.l3 ok.nm
  have h3 := ok.ch.l3
  have good := r.good
  unfold toldV
  cases hs : seatsL m cs.length with
  | nil => rfl
  | cons x l =>
    show plainD (if offF cs (argm (offF cs) x l) = 0 then _ else _) 2 = true
    split
    · refine plainD_tup (by simp) fun y hy => ?_
      simp only [List.mem_cons, List.not_mem_nil, or_false] at hy
      rcases hy with rfl | rfl
      · rfl
      · have hm : argm (offF cs) x l ∈ x :: l := by
          rcases argm_mem (f := offF cs) (x := x) (l := l) with e | e
          · rw [e]; exact List.mem_cons_self
          · exact List.mem_cons_of_mem _ e
        rw [hs] at good
        have := (good _ hm).1
        exact plain_row (by omega)
    · rfl
theorem t5 (ok : Ok m cs) (rest : wpB (W11 xq) (dropB 7 turnB) (SX ns hd t (vi m) (vr cs) (evS m cs) (smS m cs) (gdS m cs) (some (.val (toldV m cs))) none none none none none none none none none) E) :
    wpB (W11 xq) (dropB 5 turnB) (SX ns hd t (vi m) (vr cs) (evS m cs) (smS m cs) (gdS m cs) none none none none none none none none none none) E := by
  rw [cutB 1]
  have r := rw_of (m := m) (n := cs.length) ok.m1.1 ok.m1.2 ok.ch.l3 ok.nm
  have pos := r.pos
  have key : wpB (W11 xq) (dropB 6 turnB) (SX ns hd t (vi m) (vr cs) (evS m cs) (smS m cs) (gdS m cs) (some (.val (toldV m cs))) none none none none none none none none none) E := by
    rw [cutB 1]
    have rest : wpB (W11 xq) (dropB 1 (dropB 6 turnB)) (SX ns hd t (vi m) (vr cs) (evS m cs) (smS m cs) (gdS m cs) (some (.val (toldV m cs))) none none none none none none none none none) E := rest
    generalize hq : dropB 1 (dropB 6 turnB) = q at rest ⊢
    unfold SX at rest ⊢
    simp -dsimp [takeB, dropB, turnB, hdB, tlB, b_law]
    refine sp_even_or_off ok.ch ok.m1 ok.nm ?_
    simp -dsimp
    refine sp_is rfl 2 _ (plain_told ok) ?_
    simp -dsimp
    exact rest
  have key : wpB (W11 xq) (dropB 1 (dropB 5 turnB)) (SX ns hd t (vi m) (vr cs) (evS m cs) (smS m cs) (gdS m cs) (some (.val (toldV m cs))) none none none none none none none none none) E := key
  generalize hq : dropB 1 (dropB 5 turnB) = q at key ⊢
  unfold SX gdS at key ⊢
  have hc : evL m cs = [] ∨ ∃ g gs, evL m cs = g :: gs := by
    cases evL m cs with
    | nil => exact .inl rfl
    | cons g gs => exact .inr ⟨g, gs, rfl⟩
  rcases hc with hg | ⟨g, gs, hg⟩
  · cases hs : seatsL m cs.length with
    | nil => rw [hs] at pos; simp at pos
    | cons x l =>
      have e0 : rowsD (evL m cs) = [] := by rw [hg]; rfl
      rw [told_none hs hg, e0] at key
      rw [e0]
      simp -dsimp [takeB, dropB, turnB, hdB, tlB, b_law]
      refine ⟨by have := r.len; omega, comp_ok abO (fun p hp N hN => ?_) ?_⟩
      · unfold whsD at hp
        obtain ⟨r, _, rfl⟩ := List.mem_map.mp hp
        simp -dsimp
        exact hN
      · rw [abs_fm, hs]
        simp -dsimp
        refine ⟨_, _, ⟨rfl, rfl⟩, alike_is (f := offF cs) (l := x :: l), ?_⟩
        rw [min_offs]
        exact key
  · have e0 : rowsD (evL m cs) = rowD g :: rowsD gs := by rw [hg]; rfl
    rw [told_good hg, e0] at key
    rw [e0]
    simp -dsimp [takeB, dropB, turnB, hdB, tlB, b_law]
    exact key
end Fwk96

set_option linter.all false
set_option maxRecDepth 100000
set_option maxHeartbeats 4000000
set_option pp.deepTerms false
set_option pp.deepTerms.threshold 9
namespace Fwk96
open PySem PySem.Spec L2 Fw
variable {xq : Nat → SS → Prop} {E : En} {ns : List Int} {hd t : SV} {m : Nat} {cs s : List Int}
abbrev duS (m : Nat) (cs : List Int) : Option SV := some (.val (toldV m cs))
abbrev wS (cs s : List Int) : Option SV := some (.val (.int (wh cs s)))
theorem t7 (ok : Ok m cs) (hh : Hnd hd) (rest : ∀ hd s, Hnd hd → s ∈ seatsL m cs.length → wpB (W11 xq) (dropB 9 turnB) (SX ns hd t (vi m) (vr cs) (evS m cs) (smS m cs) (gdS m cs) (duS m cs) (vr s) (wS cs s) none none none none none none none) E) :
    wpB (W11 xq) (dropB 7 turnB) (SX ns hd t (vi m) (vr cs) (evS m cs) (smS m cs) (gdS m cs) (duS m cs) none none none none none none none none none) E := by
  rw [cutB 2]
  have rest : ∀ hd s, Hnd hd → s ∈ seatsL m cs.length → wpB (W11 xq) (dropB 2 (dropB 7 turnB)) (SX ns hd t (vi m) (vr cs) (evS m cs) (smS m cs) (gdS m cs) (duS m cs) (vr s) (wS cs s) none none none none none none none) E := rest
  generalize hq : dropB 2 (dropB 7 turnB) = q at rest ⊢
  have r := rw_of (m := m) (n := cs.length) ok.m1.1 ok.m1.2 ok.ch.l3 ok.nm
  have hl := r.len; have hp := r.pos
  have r0 := hh.ref
  unfold SX at rest ⊢
  simp -dsimp [takeB, dropB, turnB, hdB, tlB, b_law, r0]
  refine sp_someA rfl rfl hh (by simpa using hp) (by simp; omega) fun x hd hx hh => ?_
  obtain ⟨s, hs, rfl⟩ := mem_rows hx
  simp -dsimp
  refine sp_sum_at (ch_wt ok.ch) (by have := ok.ch.l3; omega) ?_
  simp -dsimp
  exact rest hd s hh hs
theorem t9 (ok : Ok m cs) (hs : s ∈ seatsL m cs.length) (rest : wpB (W11 xq) (dropB 11 turnB) (SX ns hd t (vi m) (vr cs) (evS m cs) (smS m cs) (gdS m cs) (duS m cs) (vr s) (wS cs s) none none none none none none none) E) :
    wpB (W11 xq) (dropB 9 turnB) (SX ns hd t (vi m) (vr cs) (evS m cs) (smS m cs) (gdS m cs) (duS m cs) (vr s) (wS cs s) none none none none none none none) E := by
  rw [cutB 2]
  have rest : wpB (W11 xq) (dropB 2 (dropB 9 turnB)) (SX ns hd t (vi m) (vr cs) (evS m cs) (smS m cs) (gdS m cs) (duS m cs) (vr s) (wS cs s) none none none none none none none) E := rest
  generalize hq : dropB 2 (dropB 9 turnB) = q at rest ⊢
  obtain ⟨f1, f2, f3, f4⟩ := fit_row ok.m1 ok.ch ok.nm hs (k := m) (Int.le_refl _)
  unfold SX at rest ⊢
  simp -dsimp [takeB, dropB, turnB, hdB, tlB, b_law]
  refine sp_isE ok.ch ok.m1 ok.nm f1 ?_
  simp -dsimp
  refine sp_is rfl 0 _ rfl ?_
  simp -dsimp
  have ea : (if wh cs s < 0 then -wh cs s else wh cs s) = ab (wh cs s) := rfl
  rw [ea]
  refine sp_isO ok.ch ok.m1 ok.nm ?_
  have e : ∀ w, eqOk (toldV m cs) (.tuple [.str "off", .int w]) := by
    intro w
    have h1 : okD (toldV m cs) 40 = true := ok_told
    have h2 : okD (.tuple [.str "off", .int w]) 40 = true := by show (PyData.strOk "off" && (true && true)) = true; rw [sok_off]; rfl
    unfold eqOk
    split <;> first | trivial | exact ⟨h1, h2⟩
  have e2 : PyData.eqv (.tuple [.str "off", .int (ab (wh cs s))]) (toldV m cs) = PyData.eqv (toldV m cs) (.tuple [.str "off", .int (ab (wh cs s))]) := by
    rw [Bool.eq_iff_iff, eqv_same _ _ rfl same_told, eqv_same _ _ same_told rfl]
    exact eq_comm
  rw [e2]
  simp -dsimp [e]
  refine sp_is rfl 0 _ rfl ?_
  simp -dsimp
  exact rest
theorem t11 (ok : Ok m cs) (hh : Hnd hd) (hs : s ∈ seatsL m cs.length) (rest : ∀ hd x, Hnd hd → wpB (W11 xq) (dropB 13 turnB) (SX ns hd t (vi m) (vr cs) (evS m cs) (smS m cs) (gdS m cs) (duS m cs) (vr s) (wS cs s) (some (.val x)) none none none none none none) E) :
    wpB (W11 xq) (dropB 11 turnB) (SX ns hd t (vi m) (vr cs) (evS m cs) (smS m cs) (gdS m cs) (duS m cs) (vr s) (wS cs s) none none none none none none none) E := by
  rw [cutB 2]
  have rest : ∀ hd x, Hnd hd → wpB (W11 xq) (dropB 2 (dropB 11 turnB)) (SX ns hd t (vi m) (vr cs) (evS m cs) (smS m cs) (gdS m cs) (duS m cs) (vr s) (wS cs s) (some (.val x)) none none none none none none) E := rest
  generalize hq : dropB 2 (dropB 11 turnB) = q at rest ⊢
  obtain ⟨f1, f2, f3, f4⟩ := fit_row ok.m1 ok.ch ok.nm hs (k := m) (Int.le_refl _)
  have h1 := ok.ch.l1; have h3 := ok.ch.l3
  have r0 := hh.ref
  unfold SX vr at rest ⊢
  have e1 : rowD cs = .tuple (cs.map .int) := rfl
  have e2 : rowD s = .tuple (s.map .int) := rfl
  rw [e1, e2] at rest ⊢
  simp -dsimp [takeB, dropB, turnB, hdB, tlB, b_law, r0]
  refine .inl ⟨⟨by omega, by omega⟩, sp_someA rfl rfl hh (by simp) (by simp) fun x hd hx hh => ?_⟩
  have r0 := hh.ref
  simp -dsimp [r0]
  have hz : seatB m (List.replicate cs.length 0) = false := by
    unfold seatB
    cases hc : cs.length with
    | zero => omega
    | succ k => rfl
  have fin : ∀ v, v ∈ ([.none, .tuple [.str "even"], .tuple [.str "even", .list (s.map .int)], .tuple [.str "off", .none], .tuple [.str "even", .tuple (List.replicate cs.length (.int 0))]] : List PyData) → ∀ {Q : RV → List SV → Prop} {Xq : Nat → List SV → Prop}, Q (.z (.bool false)) [.val (.int m), .val (rowD cs), .val v] → callW G.T G.gl 11 i_is_even_or_off [.val (.int m), .val (rowD cs), .val v] Q Xq := by
    intro v hv Q Xq h
    simp only [List.mem_cons, List.not_mem_nil, or_false] at hv
    rcases hv with rfl | rfl | rfl | rfl | rfl
    · exact sp_is0 ok.ch ok.m1 ok.nm rfl h
    · exact sp_is0 ok.ch ok.m1 ok.nm (by decide) h
    · exact sp_isF ok.ch ok.m1 ok.nm rfl h
    · exact sp_isN ok.ch ok.m1 ok.nm h
    · have e : PyData.tuple (List.replicate cs.length (.int 0)) = rowD (List.replicate cs.length 0) := by unfold rowD; rw [List.map_replicate]
      rw [e] at h ⊢
      exact sp_isZ ok.ch ok.m1 ok.nm (by simp) hz h
  refine fin x (by simpa using hx) ?_
  simp -dsimp
  exact rest _ _ hh
theorem t13 (ok : Ok m cs) (hs : s ∈ seatsL m cs.length) {x : PyData} (rest : wpB (W11 xq) (dropB 14 turnB) (SX ns hd t (vi m) (vr cs) (evS m cs) (smS m cs) (gdS m cs) (duS m cs) (vr s) (wS cs s) (some (.val x)) none none none none none none) E) :
    wpB (W11 xq) (dropB 13 turnB) (SX ns hd t (vi m) (vr cs) (evS m cs) (smS m cs) (gdS m cs) (duS m cs) (vr s) (wS cs s) (some (.val x)) none none none none none none) E := by
  rw [cutB 1]
  have rest : wpB (W11 xq) (dropB 1 (dropB 13 turnB)) (SX ns hd t (vi m) (vr cs) (evS m cs) (smS m cs) (gdS m cs) (duS m cs) (vr s) (wS cs s) (some (.val x)) none none none none none none) E := rest
  generalize hq : dropB 1 (dropB 13 turnB) = q at rest ⊢
  obtain ⟨f1, f2, f3, f4⟩ := fit_row ok.m1 ok.ch ok.nm hs (k := 4) (by have := ok.m1; omega)
  have h1 := ok.ch.l1; have h3 := ok.ch.l3
  unfold SX at rest ⊢
  simp -dsimp [takeB, dropB, turnB, hdB, tlB, b_law]
  refine sp_comes ok.ch f1 ?_
  simp -dsimp
  refine sp_is rfl 0 _ rfl ?_
  simp -dsimp
  refine sp_turned f2 (by omega) (by omega) ?_
  simp -dsimp
  refine sp_comes ok.ch f3 ?_
  have e := wh_neg cs s
  rw [e]
  simp -dsimp
  exact rest
def sideL (w : Int) : List PyData := [.str (sideV w), .str (sideV (0 - w))]
theorem sides_eq (w : Int) : sideL w = if w = 0 then [.str "even", .str "even"] else if 0 < w then [.str "right", .str "left"] else [.str "left", .str "right"] := by
  unfold sideL sideV
  by_cases h : w = 0
  · subst h; rfl
  · by_cases h2 : 0 < w
    · rw [if_neg h, if_pos h2, if_neg (by omega), if_neg (by omega), if_neg h, if_pos h2]
    · rw [if_neg h, if_neg h2, if_neg (by omega), if_pos (by omega), if_neg h, if_neg h2]
theorem sok_r : PyData.strOk "right" = true := by decide +kernel
theorem sok_l : PyData.strOk "left" = true := by decide +kernel
theorem t14 (ok : Ok m cs) (hs : s ∈ seatsL m cs.length) {x : PyData} (rest : ∀ v, wpB (W11 xq) (dropB 16 turnB) (SX ns hd t (vi m) (vr cs) (evS m cs) (smS m cs) (gdS m cs) (duS m cs) (vr s) (wS cs s) (some (.val x)) (some v) none none none none none) E) :
    wpB (W11 xq) (dropB 14 turnB) (SX ns hd t (vi m) (vr cs) (evS m cs) (smS m cs) (gdS m cs) (duS m cs) (vr s) (wS cs s) (some (.val x)) none none none none none none) E := by
  rw [cutB 2]
  have rest : ∀ v, wpB (W11 xq) (dropB 2 (dropB 14 turnB)) (SX ns hd t (vi m) (vr cs) (evS m cs) (smS m cs) (gdS m cs) (duS m cs) (vr s) (wS cs s) (some (.val x)) (some v) none none none none none) E := rest
  generalize hq : dropB 2 (dropB 14 turnB) = q at rest ⊢
  obtain ⟨f1, f2, f3, f4⟩ := fit_row ok.m1 ok.ch ok.nm hs (k := 4) (by have := ok.m1; omega)
  have h1 := ok.ch.l1; have h3 := ok.ch.l3
  unfold SX at rest ⊢
  simp -dsimp [takeB, dropB, turnB, hdB, tlB, b_law]
  refine sp_heaviest ok.ch f1 ?_
  simp -dsimp
  refine sp_turned f2 (by omega) (by omega) ?_
  simp -dsimp
  refine sp_heaviest ok.ch f3 ?_
  have e := wh_neg cs s
  rw [e]
  have e2 := sides_eq (wh cs s)
  unfold sideL at e2
  rw [Int.zero_sub] at e2
  simp -dsimp
  have oke : eqOk (.list [.str "even", .str "even"]) (.list [.str "even", .str "even"]) ∧ PyData.eqv (.list [.str "even", .str "even"]) (.list [.str "even", .str "even"]) = true := by
    refine ⟨⟨?_, ?_⟩, eqv_refl_same rfl⟩ <;> (show (PyData.strOk "even" && (PyData.strOk "even" && true)) = true; rw [sok_even]; rfl)
  have okr : eqOk (.list [.str "right", .str "left"]) (.list [.str "right", .str "left"]) ∧ PyData.eqv (.list [.str "right", .str "left"]) (.list [.str "right", .str "left"]) = true := by
    refine ⟨⟨?_, ?_⟩, eqv_refl_same rfl⟩ <;> (show (PyData.strOk "right" && (PyData.strOk "left" && true)) = true; rw [sok_r, sok_l]; rfl)
  have okl : eqOk (.list [.str "left", .str "right"]) (.list [.str "left", .str "right"]) ∧ PyData.eqv (.list [.str "left", .str "right"]) (.list [.str "left", .str "right"]) = true := by
    refine ⟨⟨?_, ?_⟩, eqv_refl_same rfl⟩ <;> (show (PyData.strOk "left" && (PyData.strOk "right" && true)) = true; rw [sok_r, sok_l]; rfl)
  refine ⟨fun e => ?_, fun e => ⟨fun e3 => ?_, fun e3 => ?_⟩⟩
  · rw [if_pos e] at e2
    rw [e2]
    exact ⟨oke.1, (fun z => absurd (z.symm.trans oke.2) (by decide)), fun _ => rest _⟩
  · rw [if_neg e, if_pos e3] at e2
    rw [e2]
    exact ⟨okr.1, (fun z => absurd (z.symm.trans okr.2) (by decide)), fun _ => rest _⟩
  · rw [if_neg e, if_neg (by omega)] at e2
    rw [e2]
    exact ⟨okl.1, (fun z => absurd (z.symm.trans okl.2) (by decide)), fun _ => rest _⟩
theorem ev_mono (m : Nat) (cs : List Int) : (evL m cs).length ≤ (evL (m + 1) cs).length := ((seats_sub m cs.length).filter _).length_le
theorem t16 (ok : Ok m cs) {x : PyData} {v : SV} (rest : wpB (W11 xq) (dropB 18 turnB) (SX ns hd t (vi m) (vr cs) (evS m cs) (smS m cs) (gdS m cs) (duS m cs) (vr s) (wS cs s) (some (.val x)) (some v) none none none none none) E) :
    wpB (W11 xq) (dropB 16 turnB) (SX ns hd t (vi m) (vr cs) (evS m cs) (smS m cs) (gdS m cs) (duS m cs) (vr s) (wS cs s) (some (.val x)) (some v) none none none none none) E := by
  rw [cutB 2]
  have rest : wpB (W11 xq) (dropB 2 (dropB 16 turnB)) (SX ns hd t (vi m) (vr cs) (evS m cs) (smS m cs) (gdS m cs) (duS m cs) (vr s) (wS cs s) (some (.val x)) (some v) none none none none none) E := rest
  generalize hq : dropB 2 (dropB 16 turnB) = q at rest ⊢
  have hmono := ev_mono m cs
  unfold SX at rest ⊢
  simp -dsimp [takeB, dropB, turnB, hdB, tlB, b_law]
  refine sp_count ok.ch ok.m1 ok.nm ?_
  simp -dsimp
  refine sp_is rfl 0 _ rfl ?_
  simp -dsimp
  refine ⟨fun e => ?_, fun _ => rest⟩
  have e1 : ((m : Int) + 1) = ((m + 1 : Nat) : Int) := by omega
  rw [e1]
  refine sp_count ok.ch ⟨by omega, by omega⟩ (by have := ok.nm; omega) ?_
  simp -dsimp
  exact ⟨fun z => by omega, fun _ => rest⟩
theorem sp_sum_at_eq {d : Nat} {Q : RV → List SV → Prop} {Xq : Nat → List SV → Prop} {v : PyData} (hv : v = rowD s) (hc : ∀ c ∈ cs, 0 ≤ c ∧ c ≤ 1000) (hl : cs.length ≤ 1000) (h : Q (.z (.int (wh cs s))) [.val (rowD cs), .val v]) : callW G.T G.gl (d + 1) i__law_sum_at [.val (rowD cs), .val v] Q Xq := by
  subst hv
  exact sp_sum_at hc hl h
theorem t18 (ok : Ok m cs) (hs : s ∈ seatsL m cs.length) {x : PyData} {v : SV} (rest : ∀ a13 a14 a15 a16, wpB (W11 xq) (dropB 19 turnB) (SX ns hd t (vi m) (vr cs) (evS m cs) (smS m cs) (gdS m cs) (duS m cs) (vr s) (wS cs s) (some (.val x)) (some v) a13 a14 a15 a16 none) E) :
    wpB (W11 xq) (dropB 18 turnB) (SX ns hd t (vi m) (vr cs) (evS m cs) (smS m cs) (gdS m cs) (duS m cs) (vr s) (wS cs s) (some (.val x)) (some v) none none none none none) E := by
  rw [cutB 1]
  have rest : ∀ a13 a14 a15 a16, wpB (W11 xq) (dropB 1 (dropB 18 turnB)) (SX ns hd t (vi m) (vr cs) (evS m cs) (smS m cs) (gdS m cs) (duS m cs) (vr s) (wS cs s) (some (.val x)) (some v) a13 a14 a15 a16 none) E := rest
  generalize hq : dropB 1 (dropB 18 turnB) = q at rest ⊢
  obtain ⟨f1, f2, f3, f4⟩ := fit_row ok.m1 ok.ch ok.nm hs (k := m) (Int.le_refl _)
  have h3 := ok.ch.l3
  unfold SX vr at rest ⊢
  have e1 : rowD s = .tuple (s.map .int) := rfl
  simp -dsimp [takeB, dropB, turnB, hdB, tlB, b_law]
  refine ⟨fun e => sp_moved ok.ch ok.m1 ok.nm f1 fun u hu => ?_, fun _ => rest _ _ _ _⟩
  rcases hu with rfl | ⟨i, p, hi, rfl, hp, hpl, hw⟩
  · simp -dsimp
    exact rest _ _ _ _
  · have e3 : okDs (s.map PyData.int) 40 = true ∧ okD (.int p) 40 = true := ⟨ok_ints, rfl⟩
    have hp0 : p ≠ 0 ∧ -(m : Int) ≤ p ∧ p ≤ m := by
      unfold plc at hpl
      obtain ⟨h1, h2⟩ := List.mem_filter.mp hpl
      obtain ⟨j, hj, rfl⟩ := List.mem_map.mp h1
      have := List.mem_range.mp hj
      refine ⟨by simpa using h2, by omega, by omega⟩
    rw [e1]
    simp -dsimp [cutD_to, cutD_from1, e3, any_int]
    have hab : (if p < 0 then -p else p) ≤ (m : Int) := by split <;> omega
    refine ⟨by omega, by omega, fun z => absurd z hp, fun _ => ⟨fun z => absurd z hp0.1, fun _ => ⟨fun z => absurd z (by omega), fun _ => ?_⟩⟩⟩
    refine sp_sum_at_eq (s := otherR s i p) (by unfold rowD otherR; simp) (ch_wt ok.ch) (by omega) ?_
    simp -dsimp [hw]
    exact rest _ _ _ _
end Fwk96

set_option linter.all false
set_option maxRecDepth 100000
set_option maxHeartbeats 4000000
set_option pp.deepTerms false
set_option pp.deepTerms.threshold 9
namespace Fwk96
open PySem PySem.Spec L2 Fw
variable {xq : Nat → SS → Prop} {E : En} {ns : List Int} {hd t : SV} {m : Nat} {cs s : List Int}
def sP (m : Nat) (a b x : Int) : Bool := decide (a * x % b = 0) && decide (a * x / b ≤ (m : Int))
def someL (m : Nat) (a b : Int) : List Int := ((List.range m).map fun k : Nat => (1 : Int) + (k : Int)).filter (sP m a b)
theorem some_even {a b : Int} (hm : 1 ≤ m ∧ m ≤ 4) (ha : 1 ≤ a ∧ a ≤ 12) (hb : 1 ≤ b ∧ b ≤ 12) : (0 < (someL m a b).length) ↔ evenB m a b = true := by
  obtain ⟨k, rfl⟩ : ∃ k, m = k + 1 := ⟨m - 1, by omega⟩
  obtain ⟨x, rfl⟩ : ∃ x : Nat, a = (x : Int) + 1 := ⟨(a - 1).toNat, by omega⟩
  obtain ⟨y, rfl⟩ : ∃ y : Nat, b = (y : Int) + 1 := ⟨(b - 1).toNat, by omega⟩
  have h := List.all_eq_true.mp alone_all k (List.mem_range.mpr (by omega))
  have h := List.all_eq_true.mp h x (List.mem_range.mpr (by omega))
  have h := List.all_eq_true.mp h y (List.mem_range.mpr (by omega))
  have h := eq_of_beq h
  have e : evenB (k + 1) ((x : Int) + 1) ((y : Int) + 1) = (seatsL (k + 1) 2).any (fun s => wh [(x : Int) + 1, (y : Int) + 1] s == 0) := rfl
  rw [e, h, List.any_eq_true]
  unfold someL
  constructor
  · intro hl
    obtain ⟨z, hz⟩ := List.exists_mem_of_length_pos hl
    obtain ⟨h1, h2⟩ := List.mem_filter.mp hz
    exact ⟨z, h1, h2⟩
  · rintro ⟨z, h1, h2⟩
    exact List.length_pos_of_mem (List.mem_filter.mpr ⟨h1, h2⟩)
def sO (m : Nat) (a b : Int) : PyData → Option PyData
  | .int x => if sP m a b x = true then some (.int x) else none
  | _ => none
theorem some_fm {a b : Int} : (rngL 1 m).filterMap (sO m a b) = (someL m a b).map PyData.int := by
  unfold rngL someL
  have e : ((List.range m).map fun k : Nat => PyData.int ((1 : Int) + (k : Int))) = ((List.range m).map fun k : Nat => (1 : Int) + (k : Int)).map PyData.int := by rw [List.map_map]; rfl
  rw [e]
  exact fm_if (p := sP m a b) (h := PyData.int) (fun x => rfl)
/-- the first k of those behind i -/
def jsP (m : Nat) (cs : List Int) (i k : Nat) : List Nat := ((List.range k).map fun k => i + 1 + k).filter fun j => evenB m (cI cs i) (cI cs j)
theorem jsP_succ {i k : Nat} : jsP m cs i (k + 1) = if evenB m (cI cs i) (cI cs (i + 1 + k)) = true then jsP m cs i k ++ [i + 1 + k] else jsP m cs i k := by
  unfold jsP
  rw [List.range_succ, List.map_append, List.filter_append, List.map_singleton]
  by_cases h : evenB m (cI cs i) (cI cs (i + 1 + k)) = true
  · rw [if_pos h, List.filter_cons_of_pos (p := fun j => evenB m (cI cs i) (cI cs j)) h]; rfl
  · rw [if_neg h, List.filter_cons_of_neg (p := fun j => evenB m (cI cs i) (cI cs j)) h]; simp
theorem jsP_len {i k : Nat} : (jsP m cs i k).length ≤ k := by
  unfold jsP
  refine Nat.le_trans (List.length_filter_le _ _) ?_
  simp
theorem alone_plain (ok : Ok m cs) : plainD (.tuple (aloneL m cs cs.length)) 2 = true := by
  have h3 := ok.ch.l3
  have h1 := aloneL_len (m := m) (cs := cs) cs.length
  have h2 : cs.length * cs.length ≤ 3 * 3 := Nat.mul_le_mul h3 h3
  refine plainD_tup (by omega) fun x hx => ?_
  unfold aloneL at hx
  obtain ⟨i, _, hx⟩ := List.mem_flatMap.mp hx
  obtain ⟨j, _, rfl⟩ := List.mem_map.mp hx
  rfl
theorem t19 (ok : Ok m cs) {a5 a6 a7 a8 a9 a10 a11 a12 a13 a14 a15 a16 : Option SV} (rest : ∀ v, E.nx (SX ns hd t (vi m) (vr cs) a5 a6 a7 a8 a9 a10 a11 a12 a13 a14 a15 a16 (some v))) :
    wpB (W11 xq) (dropB 19 turnB) (SX ns hd t (vi m) (vr cs) a5 a6 a7 a8 a9 a10 a11 a12 a13 a14 a15 a16 none) E := by
  have last : wpB (W11 xq) (dropB 21 turnB) (SX ns hd t (vi m) (vr cs) a5 a6 a7 a8 a9 a10 a11 a12 a13 a14 a15 a16 (some (.ls (aloneL m cs cs.length)))) E := by
    unfold SX at rest ⊢
    simp -dsimp [dropB, turnB, hdB, tlB, b_law]
    refine sp_alone ok.ch ok.m1 ok.nm ?_
    simp -dsimp
    refine sp_is rfl 2 _ (alone_plain ok) ?_
    simp -dsimp
    exact rest _
  rw [cutB 2]
  have last : wpB (W11 xq) (dropB 2 (dropB 19 turnB)) (SX ns hd t (vi m) (vr cs) a5 a6 a7 a8 a9 a10 a11 a12 a13 a14 a15 a16 (some (.ls (aloneL m cs cs.length)))) E := last
  generalize hq : dropB 2 (dropB 19 turnB) = q at last ⊢
  have h3 := ok.ch.l3
  unfold SX vr at last ⊢
  have e1 : rowD cs = .tuple (cs.map .int) := rfl
  rw [e1] at last ⊢
  simp -dsimp [takeB, dropB, turnB, hdB, tlB, b_law]
  refine for_ok (fun i S => S = [some (.ro (ns.map .int)), some hd, some t, vi m, some (.val (.tuple (cs.map .int))), a5, a6, a7, a8, a9, a10, a11, a12, a13, a14, a15, a16, some (.ls (aloneL m cs i)), none, none, none, none, none, none, none]) ?_ ?_ rfl
  · rintro i x S N hx rfl hN
    have hN := hN _ rfl
    obtain ⟨y, hy, rfl⟩ := enum_at hx
    have hi : i < cs.length := by have := (List.getElem?_eq_some_iff.mp hy).1; simpa using this
    have hy' : y = .int (cI cs i) := by
      have := at_cI hi
      have e := atI_nat (j := i) hy
      rw [e] at this
      exact Option.some.inj this
    subst hy'
    have e2 : ((cs.length : Int) - ((i : Int) + 1)).toNat = cs.length - (i + 1) := by omega
    have al := aloneL_len (m := m) (cs := cs) i
    have al2 : (aloneL m cs i).length ≤ 9 := Nat.le_trans al (Nat.mul_le_mul (by omega : i ≤ 3) h3)
    have ca := ok.ch.wt _ (cI_mem hi)
    simp -dsimp [e2]
    refine ⟨by omega, for_ok (fun k S => S = [some (.ro (ns.map .int)), some hd, some t, vi m, some (.val (.tuple (cs.map .int))), a5, a6, a7, a8, a9, a10, a11, a12, a13, a14, a15, a16, some (.ls (aloneL m cs i ++ (jsP m cs i k).map (prD i))), some (.val (.int i)), some (.val (.int (cI cs i))), none, none, none, none, none]) ?_ ?_ ?_⟩
    · rintro k x S N2 hx rfl hN2
      have hN2 := hN2 _ rfl
      obtain ⟨rfl, hk⟩ := rng_at hx
      have e4 : (i : Int) + 1 + (k : Int) = ((i + 1 + k : Nat) : Int) := by omega
      rw [e4]
      have hj : i + 1 + k < cs.length := by omega
      have cb := ok.ch.wt _ (cI_mem hj)
      have se := some_even (m := m) ok.m1 ca cb
      have jl := jsP_len (m := m) (cs := cs) (i := i) (k := k)
      rw [jsP_succ] at hN2
      have hm := ok.m1
      have e5 : ((m : Int) + 1 - 1).toNat = m := by omega
      have hb0 : 0 < cI cs (i + 1 + k) := by omega
      generalize hjj : i + 1 + k = j at hj cb se hN2 hb0 ⊢
      simp -dsimp [at_cI hj, e5]
      refine ⟨⟨by omega, by omega⟩, by unfold rngL; simp; omega, comp_ok (sO m (cI cs i) (cI cs j)) (fun p hp N3 hN3 => ?_) ?_⟩
      · obtain ⟨k', e7⟩ := List.mem_iff_getElem?.mp hp
        obtain ⟨rfl, hk'⟩ := rng_at e7
        have hs : sO m (cI cs i) (cI cs j) (.int (1 + (k' : Int))) = if sP m (cI cs i) (cI cs j) (1 + (k' : Int)) = true then some (.int (1 + (k' : Int))) else none := rfl
        rw [hs] at hN3
        unfold sP at hN3
        simp -dsimp [CMul, CDiv, hb0]
        refine ⟨by omega, fun h1 => ⟨by omega, by omega, fun h2 => ?_, fun h2 => ?_⟩, fun h1 => ?_⟩
        · rw [decide_eq_true h1, decide_eq_true h2] at hN3; exact hN3
        · rw [decide_eq_false (by omega : ¬ cI cs i * (1 + (k' : Int)) / cI cs j ≤ (m : Int)), Bool.and_false] at hN3; exact hN3
        · rw [decide_eq_false h1] at hN3; exact hN3
      · rw [some_fm]
        simp -dsimp
        refine ⟨fun h => ⟨by omega, ?_⟩, fun h => ⟨by omega, ?_⟩⟩
        · rw [if_pos (se.mp h), List.map_append] at hN2
          exact hN2
        · rw [if_neg (fun z => by have := se.mpr z; rw [h] at this; exact absurd this (by decide))] at hN2
          exact hN2
    · rintro S rfl
      have e6 : (rngL ((i : Int) + 1) (cs.length - (i + 1))).length = cs.length - (i + 1) := by unfold rngL; simp
      rw [e6]
      simp -dsimp
      rw [aloneL_succ] at hN
      exact hN
    · simp [jsP]
  · rintro S rfl
    have e : (enumFr 0 (cs.map PyData.int)).length = cs.length := by rw [enumFr_len]; simp
    rw [e]
    simp -dsimp
    exact last
end Fwk96

set_option linter.all false
set_option maxRecDepth 100000
set_option maxHeartbeats 4000000
set_option pp.deepTerms false
set_option pp.deepTerms.threshold 9
namespace Fwk96
open PySem PySem.Spec L2 Fw
variable {xq : Nat → SS → Prop} {E : En} {ns : List Int} {hd t : SV} {m : Nat} {cs s : List Int}
theorem turnT (x : PyData) (E2 : En) (hh : Hnd hd) (N : ∀ hd a3 a4 a5 a6 a7 a8 a9 a10 a11 a12 a13 a14 a15 a16 a17, Hnd hd → E2.nx (SX ns hd (.val x) a3 a4 a5 a6 a7 a8 a9 a10 a11 a12 a13 a14 a15 a16 a17)) :
    wpB (W11 xq) turnB (SX ns hd (.val x) none none none none none none none none none none none none none none none) E2 := by
  refine t0 hh ?_
  intro hd m cs ok hh
  refine t2 ok ?_
  refine t5 ok ?_
  refine t7 ok hh ?_
  intro hd s hh hs
  refine t9 ok hs ?_
  refine t11 ok hh hs ?_
  intro hd x hh
  refine t13 ok hs ?_
  refine t14 ok hs ?_
  intro v
  refine t16 ok ?_
  refine t18 ok hs ?_
  intro a13 a14 a15 a16
  refine t19 ok ?_
  intro v
  exact N _ _ _ _ _ _ _ _ _ _ _ _ _ _ _ _ hh
theorem s12 : seatsL 1 2 = [[-1, 1], [1, -1]] := by decide +kernel
theorem toldA : toldV 1 [3, 3] = .tuple [.str "even", rowD [-1, 1]] := by
  unfold toldV
  rw [show ([3, 3] : List Int).length = 2 from rfl, s12]
  rfl
theorem toldB : toldV 1 [1, 2] = .tuple [.str "off", .int 1] := by
  unfold toldV
  rw [show ([1, 2] : List Int).length = 2 from rfl, s12]
  rfl
theorem ch33 : Ch [3, 3] := ⟨by decide, by decide, by decide⟩
theorem ch12 : Ch [1, 2] := ⟨by decide, by decide, by decide⟩
def SZ (ns : List Int) (hd : SV) : SS := [some (.ro (ns.map .int)), some hd, none, none, none, none, none, none, none, none, none, none, none, none, none, none, none, none, none, none, none, none, none, none, none]
theorem sp_even_eq {d : Nat} {Q : RV → List SV → Prop} {Xq : Nat → List SV → Prop} {k : Int} {v : PyData} (hk : k = (m : Int)) (hv : v = rowD cs) (ch : Ch cs) (hm : 1 ≤ m ∧ m ≤ 4) (hn : cs.length ≤ 2 * m) (h : Q (.z (toldV m cs)) [.val (.int k), .val v]) : callW G.T G.gl (d + 5) i_even_or_off [.val (.int k), .val v] Q Xq := by
  subst hk hv
  exact sp_even_or_off ch hm hn h
theorem kill_all {a3 a4 a5 a6 a7 a8 a9 a10 a11 a12 a13 a14 a15 a16 a17 : Option SV} : killS (SX ns hd t a3 a4 a5 a6 a7 a8 a9 a10 a11 a12 a13 a14 a15 a16 a17) [2, 3, 4, 5, 6, 7, 8, 9, 10, 11, 12, 13, 14, 15, 16, 17, 18, 19, 20, 21, 22, 23, 24] = SZ ns hd := by
  unfold SX SZ
  simp -dsimp
theorem ret (rt : E.rt (.z (.bool true)) (SZ ns hd)) : wpB (W11 xq) (tlB (tlB b_law)) (SZ ns hd) E := by
  unfold SZ
  simp -dsimp [hdB, tlB, b_law]
  refine sp_even_eq (m := 1) (cs := [3, 3]) rfl rfl ch33 (by decide) (by decide) ?_
  rw [toldA]
  simp -dsimp
  have q1 : PyData.eqv (.tuple [.str "even", rowD [-1, 1]]) (.tuple [.str "even", .tuple [.int (-1), .int 1]]) = true := eqv_refl_same rfl
  refine ⟨⟨by decide +kernel, by decide +kernel⟩, fun _ => ?_, fun e => absurd (e.symm.trans q1) (by decide)⟩
  refine sp_even_eq (m := 1) (cs := [1, 2]) rfl rfl ch12 (by decide) (by decide) ?_
  have q2 : PyData.eqv (.tuple [.str "off", .int 1]) (.tuple [.str "off", .int 1]) = true := eqv_refl_same rfl
  rw [toldB]
  simp -dsimp
  refine ⟨⟨by decide +kernel, by decide +kernel⟩, ?_⟩
  unfold SZ at rt
  have z : Str.ofString "off" = "off" := rfl
  rw [q2]
  exact rt
theorem law_plain : ∀ ns : List Int, ns.length ≤ 63 → callW G.T G.gl dep 25 [.ro (ns.map .int)] (fun r _ => r = .z (.bool true)) (fun _ _ => False) := by
  intro ns hl
  refine callW_in (fn := f_law) rfl rfl rfl fun xq E rt _ => ?_
  show wpB (W11 xq) (.cons (hdB b_law) (.cons (.for_ (.rng1 (.int 4)) (.v 2) turnB [2, 3, 4, 5, 6, 7, 8, 9, 10, 11, 12, 13, 14, 15, 16, 17, 18, 19, 20, 21, 22, 23, 24]) (tlB (tlB b_law)))) _ _
  have turn : ∀ (hd : SV) (x : PyData) (E2 : En), Hnd hd → (∀ hd a3 a4 a5 a6 a7 a8 a9 a10 a11 a12 a13 a14 a15 a16 a17, Hnd hd → E2.nx (SX ns hd (.val x) a3 a4 a5 a6 a7 a8 a9 a10 a11 a12 a13 a14 a15 a16 a17)) → wpB (W11 xq) turnB (SX ns hd (.val x) none none none none none none none none none none none none none none none) E2 := fun hd x E2 hh N => turnT x E2 hh N
  have last : ∀ hd, wpB (W11 xq) (tlB (tlB b_law)) (SZ ns hd) E := fun hd => ret (rt _ _ (by simp -dsimp [f_law, SZ]))
  generalize hq : tlB (tlB b_law) = q at last ⊢
  generalize hq : turnB = tb at turn ⊢
  simp -dsimp [hdB, b_law, f_law]
  refine sp_hand rfl (by decide) (by decide) hl fun hd hh => ?_
  simp -dsimp
  refine for_ok (fun i S => ∃ hd, Hnd hd ∧ S = SZ ns hd) ?_ ?_ ⟨hd, hh, rfl⟩
  · rintro i x S N hx ⟨hd, hh, e⟩ hN
    subst e
    refine turn hd x _ hh fun hd a3 a4 a5 a6 a7 a8 a9 a10 a11 a12 a13 a14 a15 a16 a17 hh => ?_
    simp only [kill_all]
    exact hN _ ⟨hd, hh, rfl⟩
  · rintro S ⟨hd, hh, rfl⟩
    exact last hd
end Fwk96

open PySem PySem.W PyProof.Rows
set_option Elab.async false
set_option linter.all false
set_option maxRecDepth 100000
set_option maxHeartbeats 0 in
theorem PySem.Challenge.cw_fewtoys_k96_whole_children_seated_on_a_b_holds : PySem.Challenge.rw_fewtoys_k96_whole_children_seated_on_a_b.Holds := by
  w_on; o_law; k_head; (case hw => w_witness2)
  k_fill
  refine L2.walk_of (l := PySem.Challenge.rw_fewtoys_k96_whole_children_seated_on_a_b) (n := 63) (k := Fwk96.dep) (x := "script") (CX := fun w => L2.CX PySem.Challenge.rw_fewtoys_k96_whole_children_seated_on_a_b.prog w) (sp := fun w => Fw.spF _ Fwk96.G Fwk96.dep 25) rfl (by decide) rfl ⟨rfl, by decide, by decide⟩ (fun w h Y => PySem.W.kIn_of Y) ?F (fun _ _ a ns hl _ hS => Fw.plain_of Fwk96.law_plain hl hS) (fun _ _ _ _ _ h => Fw.noCX h)
  case F =>
    intro w mg fa h KX G hmg
    refine' Fw.head_of (tbl := Fwk96.tbl) (gls := Fwk96.gls) Fwk96.dep 25 KX G hmg Fwk96.chk Fwk96.bds ⟨_, rfl, rfl, rfl⟩ ?A ?C ?D
    case A => refine' ⟨Fw.DefAt.mk ?a0 ?l0 ?c0 ?k0, Fw.DefAt.mk ?a1 ?l1 ?c1 ?k1, Fw.DefAt.mk ?a2 ?l2 ?c2 ?k2, Fw.DefAt.mk ?a3 ?l3 ?c3 ?k3, Fw.DefAt.mk ?a4 ?l4 ?c4 ?k4, Fw.DefAt.mk ?a5 ?l5 ?c5 ?k5, Fw.DefAt.mk ?a6 ?l6 ?c6 ?k6, Fw.DefAt.mk ?a7 ?l7 ?c7 ?k7, Fw.DefAt.mk ?a8 ?l8 ?c8 ?k8, Fw.DefAt.mk ?a9 ?l9 ?c9 ?k9, Fw.DefAt.mk ?a10 ?l10 ?c10 ?k10, Fw.DefAt.mk ?a11 ?l11 ?c11 ?k11, Fw.DefAt.mk ?a12 ?l12 ?c12 ?k12, Fw.DefAt.mk ?a13 ?l13 ?c13 ?k13, Fw.DefAt.mk ?a14 ?l14 ?c14 ?k14, Fw.DefAt.mk ?a15 ?l15 ?c15 ?k15, Fw.DefAt.mk ?a16 ?l16 ?c16 ?k16, Fw.DefAt.mk ?a17 ?l17 ?c17 ?k17, Fw.DefAt.mk ?a18 ?l18 ?c18 ?k18, Fw.DefAt.mk ?a19 ?l19 ?c19 ?k19, Fw.DefAt.mk ?a20 ?l20 ?c20 ?k20, Fw.DefAt.mk ?a21 ?l21 ?c21 ?k21, Fw.DefAt.mk ?a22 ?l22 ?c22 ?k22, Fw.DefAt.mk ?a23 ?l23 ?c23 ?k23, Fw.DefAt.mk ?a24 ?l24 ?c24 ?k24, Fw.DefAt.mk ?a25 ?l25 ?c25 ?k25, True.intro⟩
              (case a0 => k_is); (case l0 => k_is); (case c0 => k_is); (case k0 => k_is); (case a1 => k_is); (case l1 => k_is); (case c1 => k_is); (case k1 => k_is); (case a2 => k_is); (case l2 => k_is); (case c2 => k_is); (case k2 => k_is); (case a3 => k_is); (case l3 => k_is); (case c3 => k_is); (case k3 => k_is); (case a4 => k_is); (case l4 => k_is); (case c4 => k_is); (case k4 => k_is); (case a5 => k_is); (case l5 => k_is); (case c5 => k_is); (case k5 => k_is); (case a6 => k_is); (case l6 => k_is); (case c6 => k_is); (case k6 => k_is); (case a7 => k_is); (case l7 => k_is); (case c7 => k_is); (case k7 => k_is); (case a8 => k_is); (case l8 => k_is); (case c8 => k_is); (case k8 => k_is); (case a9 => k_is); (case l9 => k_is); (case c9 => k_is); (case k9 => k_is); (case a10 => k_is); (case l10 => k_is); (case c10 => k_is); (case k10 => k_is); (case a11 => k_is); (case l11 => k_is); (case c11 => k_is); (case k11 => k_is); (case a12 => k_is); (case l12 => k_is); (case c12 => k_is); (case k12 => k_is); (case a13 => k_is); (case l13 => k_is); (case c13 => k_is); (case k13 => k_is); (case a14 => k_is); (case l14 => k_is); (case c14 => k_is); (case k14 => k_is); (case a15 => k_is); (case l15 => k_is); (case c15 => k_is); (case k15 => k_is); (case a16 => k_is); (case l16 => k_is); (case c16 => k_is); (case k16 => k_is); (case a17 => k_is); (case l17 => k_is); (case c17 => k_is); (case k17 => k_is); (case a18 => k_is); (case l18 => k_is); (case c18 => k_is); (case k18 => k_is); (case a19 => k_is); (case l19 => k_is); (case c19 => k_is); (case k19 => k_is); (case a20 => k_is); (case l20 => k_is); (case c20 => k_is); (case k20 => k_is); (case a21 => k_is); (case l21 => k_is); (case c21 => k_is); (case k21 => k_is); (case a22 => k_is); (case l22 => k_is); (case c22 => k_is); (case k22 => k_is); (case a23 => k_is); (case l23 => k_is); (case c23 => k_is); (case k23 => k_is); (case a24 => k_is); (case l24 => k_is); (case c24 => k_is); (case k24 => k_is); (case a25 => k_is); (case l25 => k_is); (case c25 => k_is); (case k25 => k_is)
    case C => refine' ⟨Fw.GlAt.i ?gl0, Fw.GlAt.i ?gl1, Fw.GlAt.i ?gl2, True.intro⟩
              (case gl0 => k_is); (case gl1 => k_is); (case gl2 => k_is)
    case D => refine' ⟨Fw.NoAt.mk ?z0, Fw.NoAt.mk ?z1, Fw.NoAt.mk ?z2, Fw.NoAt.mk ?z3, Fw.NoAt.mk ?z4, Fw.NoAt.mk ?z5, Fw.NoAt.mk ?z6, Fw.NoAt.mk ?z7, Fw.NoAt.mk ?z8, Fw.NoAt.mk ?z9, Fw.NoAt.mk ?z10, Fw.NoAt.mk ?z11, Fw.NoAt.mk ?z12, Fw.NoAt.mk ?z13, Fw.NoAt.mk ?z14, Fw.NoAt.mk ?z15, Fw.NoAt.mk ?z16, Fw.NoAt.mk ?z17, Fw.NoAt.mk ?z18, Fw.NoAt.mk ?z19, Fw.NoAt.mk ?z20, True.intro⟩
              (case z0 => k_is); (case z1 => k_is); (case z2 => k_is); (case z3 => k_is); (case z4 => k_is); (case z5 => k_is); (case z6 => k_is); (case z7 => k_is); (case z8 => k_is); (case z9 => k_is); (case z10 => k_is); (case z11 => k_is); (case z12 => k_is); (case z13 => k_is); (case z14 => k_is); (case z15 => k_is); (case z16 => k_is); (case z17 => k_is); (case z18 => k_is); (case z19 => k_is); (case z20 => k_is)

