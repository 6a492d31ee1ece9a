import PyProof.Rows.All
import Wide.All
import OpenK.AllK
import Wide.FinOn
import HandS.ForMost
import HandS.ForExc
import HandS.CallSlots
import HandS.ExcInit
import KE.KDictKeyed
import HandS.TupAny
import HandS.TupMul
import PyProof.ListMulAny
import KE.DataEq
import KE.DataCmp
import KE.DataIsa
import HandS.SortKw
import KE.DataAny
import KE.DataMinMax
import KE.SortData
import KE.SortLaws
import KE.OsSortAny
import HandS.TupSets
import PyProof.ReprRoads
import HandS.Zip
import HandS.ExcOwn
import HandS.WordsExc
import HandS.Lambda
import HandS.Style
import HandS.SetFor
import HandS.Strs
import PyProof.IsInstanceT
import PyProof.IsiNone
import HandS.Iter
import KE.KDictDisplayH
import PyProof.EnumMake
import KE.GoesMore
import HandS.WideBits
import PyProof.CallFns
import HandS.ForDict
import HandS.Wide
import HandS.TryMany
import HandS.ExcField
import HandS.Ends
import HandS.EndTab
import PySem.Challenge.RW_boxfillings_k64_inner_numbers
set_option Elab.async false
set_option linter.all false
set_option maxRecDepth 100000
set_option maxHeartbeats 4000000
/-! Sx: expressions and statements as plain functions upon told data, over the hand layer's judgements. -/
namespace L2
open PySem PySem.Spec
section
variable {K : PySem.W.Frag} {G H : Hp}
theorem DpAll.length : ∀ {vs : List V} {ds : List PyData}, DpAll K G vs ds → vs.length = ds.length
  | _, _, .nil => rfl
  | _, _, .cons _ t => by simp [DpAll.length t]
theorem DpAll.get : ∀ {vs : List V} {ds : List PyData} {i : Nat} {d : PyData}, DpAll K G vs ds → ds[i]? = some d → ∃ v, vs[i]? = some v ∧ Dp K G v d
  | _, _, _, _, .nil, h => by simp at h
  | _, _, 0, _, .cons h t, e => by simp at e; subst e; exact ⟨_, rfl, h⟩
  | _, _, i + 1, d, .cons h t, e => by
    obtain ⟨v, h1, h2⟩ := DpAll.get (i := i) (d := d) t (by simpa using e)
    exact ⟨v, by simpa using h1, h2⟩
theorem DpAll.get' : ∀ {vs : List V} {ds : List PyData} {i : Nat} {v : V}, DpAll K G vs ds → vs[i]? = some v → ∃ d, ds[i]? = some d ∧ Dp K G v d
  | _, _, _, _, .nil, h => by simp at h
  | _, _, 0, _, .cons h t, e => by simp at e; subst e; exact ⟨_, rfl, h⟩
  | _, _, i + 1, v, .cons h t, e => by
    obtain ⟨d, h1, h2⟩ := DpAll.get' (i := i) (v := v) t (by simpa using e)
    exact ⟨d, by simpa using h1, h2⟩
theorem DpAll.append : ∀ {vs ws : List V} {ds es : List PyData}, DpAll K G vs ds → DpAll K G ws es → DpAll K G (vs ++ ws) (ds ++ es)
  | _, _, _, _, .nil, h => h
  | _, _, _, _, .cons h t, h' => .cons h (DpAll.append t h')
theorem DpAll.take : ∀ {vs : List V} {ds : List PyData} (n : Nat), DpAll K G vs ds → DpAll K G (vs.take n) (ds.take n)
  | _, _, 0, _ => .nil
  | _, _, _ + 1, .nil => .nil
  | _, _, n + 1, .cons h t => .cons h (DpAll.take n t)
theorem DpAll.drop : ∀ {vs : List V} {ds : List PyData} (n : Nat), DpAll K G vs ds → DpAll K G (vs.drop n) (ds.drop n)
  | _, _, 0, h => h
  | _, _, _ + 1, .nil => .nil
  | _, _, n + 1, .cons _ t => DpAll.drop n t
theorem DpAll.set {v : V} {d : PyData} (h : Dp K G v d) : ∀ {vs : List V} {ds : List PyData} (i : Nat), DpAll K G vs ds → DpAll K G (vs.set i v) (ds.set i d)
  | _, _, _, .nil => .nil
  | _, _, 0, .cons _ t => .cons h t
  | _, _, i + 1, .cons q t => .cons q (DpAll.set h i t)
theorem DpAll.rev : ∀ {vs : List V} {ds : List PyData}, DpAll K G vs ds → DpAll K G vs.reverse ds.reverse
  | _, _, .nil => .nil
  | _, _, .cons h t => by
    rw [List.reverse_cons, List.reverse_cons]
    exact DpAll.append (DpAll.rev t) (.cons h .nil)
end
end L2
namespace Sx
open PySem PySem.Spec L2

abbrev D := PyData

/-- what a slot holds, what an expression gives: data that no one changes any more, a list or dict of the def's own, a slot's content by its name, the pen -/
inductive SV where
  | fr (d : D) | ol (ds : List D) | od (kvs : List (D × D)) | bor (i : Nat) | pen
/-- the law's pen -/
structure Pen where
  cells : List Int
  at_ : Nat
  digits : Int
  count : Int
  fold : Int
structure AS where
  sl : List (Option SV)
  pn : Option Pen
/-- an exception of an own class: its name, its fields -/
structure Ex where
  name : Str
  fs : List (Str × D)
inductive R (α : Type) where
  | ok (a : α) (s : AS) | ex (e : Ex) (s : AS) | no
def R.bind {α β : Type} : R α → (α → AS → R β) → R β
  | .ok a s, f => f a s
  | .ex e s, _ => .ex e s
  | .no, _ => .no
abbrev EF := AS → R SV
inductive Fl where
  | next | brk | cont | ret (v : SV)
abbrev SF := AS → R Fl

def getS (s : AS) (i : Nat) : Option SV := match s.sl[i]? with | some (some v) => some v | _ => none
def setS (s : AS) (i : Nat) (v : SV) : AS := { s with sl := s.sl.set i (some v) }
def delS (s : AS) (i : Nat) : AS := { s with sl := s.sl.set i none }

/-! ### data over an abstract heap, kept -/
def Le (G H : Hp) : Prop := ∀ a o, G a = some o → H a = some o
theorem Le.refl (G : Hp) : Le G G := fun _ _ h => h
theorem Le.trans {G H J : Hp} (a : Le G H) (b : Le H J) : Le G J := fun x o h => b x o (a x o h)
section
variable {K : PySem.W.Frag} {G H : Hp}
theorem Le.sqL (e : Le G H) {a : Addr} {xs : List V} (h : SqL K G a xs) : SqL K H a xs := by
  rcases h with (h | ⟨o, h⟩) | h
  · exact .inl (.inl (e _ _ h))
  · exact .inl (.inr ⟨o, e _ _ h⟩)
  · exact .inr h
theorem Le.sqT (e : Le G H) {a : Addr} {xs : List V} (h : SqT K G a xs) : SqT K H a xs := by
  rcases h with (h | ⟨o, h⟩) | h
  · exact .inl (.inl (e _ _ h))
  · exact .inl (.inr ⟨o, e _ _ h⟩)
  · exact .inr h
mutual
theorem Le.dp (e : Le G H) : ∀ (d : D) (v : V), Dp K G v d → Dp K H v d
  | .none, _, h => by cases h; exact .non
  | .bool b, _, h => by cases h; exact .bl b
  | .int i, _, h => by cases h; exact .int i
  | .str x, _, h => by cases h; exact .str x
  | .list ds, _, h => by cases h with | lst s a => exact .lst (e.sqL s) (Le.dpAll e ds _ a)
  | .tuple ds, _, h => by cases h with | tup s a => exact .tup (e.sqT s) (Le.dpAll e ds _ a)
  | .dict kvs, _, h => by cases h
theorem Le.dpAll (e : Le G H) : ∀ (ds : List D) (vs : List V), DpAll K G vs ds → DpAll K H vs ds
  | [], _, h => by cases h; exact .nil
  | d :: ds, _, h => by cases h with | cons h1 h2 => exact .cons (Le.dp e d _ h1) (Le.dpAll e ds _ h2)
end
theorem dpInts : ∀ ns : List Int, DpAll K G (ns.map V.int) (ns.map PyData.int)
  | [] => .nil
  | n :: ns => .cons (.int n) (dpInts ns)
end

/-! ### an own dict: its entries as they stand -/
/-- the entries of a dict whose keys are tuples (nested ones too) -/
abbrev Ent := NestedKey × Addr × Value
def rawD (w : World) (P : Program) (a : Addr) (x : Nat × List Ent) : HO := .ext fun h => x.2.length ≤ sizeLine ∧ (a == sysModules) = false ∧ ∃ o es, h.get? a = some o ∧ o.ExactDict ∧ o.data = .dict es x.1 ∧ es.toList = x.2.map (entryOfKey (nestedKind P w)) ∧ (x.2.map (·.1)).Nodup
/-- where one stands: the program, the world, the written part, the pen's address -/
structure Ct where
  P : Program
  w : World
  K : PySem.W.Frag
  pa : Addr
mutual
/-- told data, dicts among them (a dict's values may be dicts) -/
inductive Fd (C : Ct) (G : Hp) : V → D → Prop
  | pl {v : V} {d : D} (h : Dp C.K G v d) : Fd C G v d
  | dic {a : Addr} {xs : Nat × List Ent} {kvs : List (D × D)} (h : G a = some (rawD C.w C.P a xs)) (e : FdEnts C G xs.2 kvs) : Fd C G (.ref a) (.dict kvs)
inductive FdEnts (C : Ct) (G : Hp) : List Ent → List (D × D) → Prop
  | nil : FdEnts C G [] []
  | cons {k : NestedKey} {b : Addr} {u : Value} {v : V} {d : D} {xs : List Ent} {kvs : List (D × D)} (h1 : Dp C.K G (.ref b) k.data) (h0 : k.depth ≤ 8) (h2 : RelV v u) (h3 : Fd C G v d) (t : FdEnts C G xs kvs) : FdEnts C G ((k, b, u) :: xs) ((k.data, d) :: kvs)
end
mutual
theorem Le.fd {C : Ct} {G H : Hp} (e : Le G H) : ∀ {v : V} {d : D}, Fd C G v d → Fd C H v d
  | _, _, .pl h => .pl (e.dp _ _ h)
  | _, _, .dic h t => .dic (e _ _ h) (Le.fdEnts e t)
theorem Le.fdEnts {C : Ct} {G H : Hp} (e : Le G H) : ∀ {xs : List Ent} {kvs : List (D × D)}, FdEnts C G xs kvs → FdEnts C H xs kvs
  | _, _, .nil => .nil
  | _, _, .cons h1 h0 h2 h3 t => .cons (e.dp _ _ h1) h0 h2 (Le.fd e h3) (Le.fdEnts e t)
end
/-- a slot's or an expression's data -/
def FrV (C : Ct) (G : Hp) (v : V) (d : D) : Prop := match d with
  | .dict kvs => ∃ a xs, v = .ref a ∧ G a = some (rawD C.w C.P a xs) ∧ FdEnts C G xs.2 kvs
  | .none => Dp C.K G v .none
  | .bool b => Dp C.K G v (.bool b)
  | .int i => Dp C.K G v (.int i)
  | .str x => Dp C.K G v (.str x)
  | .list ds => Dp C.K G v (.list ds)
  | .tuple ds => Dp C.K G v (.tuple ds)
theorem FrV.of {C : Ct} {G : Hp} {v : V} {d : D} (h : Dp C.K G v d) : FrV C G v d := by
  cases d with
  | dict kvs => cases h
  | _ => exact h
def isDict : D → Bool
  | .dict _ => true
  | _ => false
theorem FrV.dp {C : Ct} {G : Hp} {v : V} {d : D} (h : FrV C G v d) (n : isDict d = false) : Dp C.K G v d := by
  cases d with
  | dict kvs => cases n
  | _ => exact h
theorem FrV.fd {C : Ct} {G : Hp} {v : V} {d : D} (h : FrV C G v d) : Fd C G v d := by
  cases d with
  | dict kvs => obtain ⟨a, xs, rfl, h1, h2⟩ := h; exact .dic h1 h2
  | _ => exact .pl h
theorem Fd.fr {C : Ct} {G : Hp} {v : V} {d : D} (h : Fd C G v d) : FrV C G v d := by
  cases h with
  | pl h => exact .of h
  | dic h e => exact ⟨_, _, rfl, h, e⟩
theorem Le.fr {C : Ct} {G H : Hp} (e : Le G H) {v : V} {d : D} (h : FrV C G v d) : FrV C H v d := (e.fd h.fd).fr
inductive FrAll (C : Ct) (G : Hp) : List V → List D → Prop
  | nil : FrAll C G [] []
  | cons {v : V} {d : D} {vs : List V} {ds : List D} (h : FrV C G v d) (t : FrAll C G vs ds) : FrAll C G (v :: vs) (d :: ds)
theorem Le.frAll {C : Ct} {G H : Hp} (e : Le G H) : ∀ {vs : List V} {ds : List D}, FrAll C G vs ds → FrAll C H vs ds
  | _, _, .nil => .nil
  | _, _, .cons h t => .cons (e.fr h) (Le.frAll e t)
theorem FrAll.length {C : Ct} {G : Hp} : ∀ {vs : List V} {ds : List D}, FrAll C G vs ds → vs.length = ds.length
  | _, _, .nil => rfl
  | _, _, .cons _ t => by simp [FrAll.length t]
theorem FrAll.get {C : Ct} {G : Hp} : ∀ {vs : List V} {ds : List D} {i : Nat} {d : D}, FrAll C G vs ds → ds[i]? = some d → ∃ v, vs[i]? = some v ∧ FrV C G v d
  | _, _, _, _, .nil, h => by simp at h
  | _, _, 0, _, .cons h t, e => by simp at e; subst e; exact ⟨_, rfl, h⟩
  | _, _, i + 1, d, .cons h t, e => by
    obtain ⟨v, h1, h2⟩ := FrAll.get (i := i) (d := d) t (by simpa using e)
    exact ⟨v, by simpa using h1, h2⟩

/-! ### the state, told -/
def penKV (c : Addr) (p : Pen) : List (Key × V) := [(.inr (Str.ofString "cells"), .ref c), (.inr (Str.ofString "at"), .int p.at_), (.inr (Str.ofString "digits"), .int p.digits), (.inr (Str.ofString "count"), .int p.count), (.inr (Str.ofString "fold"), .int p.fold)]
structure PenAt (C : Ct) (p : Pen) (G H : Hp) : Prop where
  fr : G C.pa = none
  at_ : ∃ c, H C.pa = some (.dK (penKV c p)) ∧ SqL C.K G c (p.cells.map V.int)
def OwnL (C : Ct) (G H : Hp) (a : Addr) (ds : List D) : Prop := G a = none ∧ ∃ vs, H a = some (.lst vs) ∧ DpAll C.K G vs ds
def OwnD (C : Ct) (G H : Hp) (a : Addr) (kvs : List (D × D)) : Prop := G a = none ∧ ∃ xs, H a = some (rawD C.w C.P a xs) ∧ FdEnts C G xs.2 kvs
/-- a slot's value -/
def RelS (C : Ct) (G H : Hp) : SV → V → Prop
  | .fr d, v => FrV C G v d
  | .ol ds, v => ∃ a, v = .ref a ∧ OwnL C G H a ds
  | .od kvs, v => ∃ a, v = .ref a ∧ OwnD C G H a kvs
  | .bor _, _ => False
  | .pen, v => v = .ref C.pa
def SV.own : SV → Bool
  | .ol _ => true
  | .od _ => true
  | _ => false
/-- the addresses that one may change -/
def Own (C : Ct) (α : AS) (σ : St) (a : Addr) : Prop := (α.pn.isSome = true ∧ a = C.pa) ∨ ∃ i sv, getS α i = some sv ∧ sv.own = true ∧ σ[i]? = some (some (.ref a))
/-- a tuple that is told for good has no dict of its own -/
def tupOk : HO → Prop
  | .tup _ => False
  | .frz o (.tup _) => o.dict = none
  | _ => True
def NG (G : Hp) : Prop := ∀ a o, G a = some o → tupOk o
structure Rel (C : Ct) (α : AS) (σ : St) (G H : Hp) : Prop where
  le : Le G H
  nt : NG G
  len : α.sl.length = σ.length
  sl : ∀ i sv, getS α i = some sv → ∃ v, σ[i]? = some (some v) ∧ RelS C G H sv v
  apart : ∀ i j x y a, getS α i = some x → getS α j = some y → x.own = true → y.own = true → σ[i]? = some (some (.ref a)) → σ[j]? = some (some (.ref a)) → i = j
  pen : ∀ p, α.pn = some p → PenAt C p G H
  ps : ∀ i, getS α i = some .pen → α.pn.isSome = true
  pne : α.pn.isSome = true → ∀ i sv, getS α i = some sv → sv.own = true → σ[i]? ≠ some (some (.ref C.pa))
structure Step (C : Ct) (α : AS) (σ : St) (G H : Hp) (α' : AS) (σ' : St) (G' H' : Hp) : Prop where
  g : Le G G'
  k : ∀ a o, H a = some o → ¬ Own C α σ a → H' a = some o ∧ G' a = G a
  t : ∀ a, H a ≠ none → H' a ≠ none
  o : ∀ a, Own C α' σ' a → Own C α σ a ∨ H a = none
  p : α'.pn.isSome = α.pn.isSome
section
variable {C : Ct} {α α1 α2 : AS} {σ σ1 σ2 : St} {G G1 G2 H H1 H2 : Hp}
theorem Step.refl : Step C α σ G H α σ G H := ⟨Le.refl _, fun _ _ h _ => ⟨h, rfl⟩, fun _ h => h, fun _ h => .inl h, rfl⟩
theorem Step.trans (a : Step C α σ G H α1 σ1 G1 H1) (b : Step C α1 σ1 G1 H1 α2 σ2 G2 H2) : Step C α σ G H α2 σ2 G2 H2 where
  g := a.g.trans b.g
  k := fun x o h n => by
    obtain ⟨h1, g1⟩ := a.k x o h n
    obtain ⟨h2, g2⟩ := b.k x o h1 fun z => (a.o x z).elim n fun q => by rw [h] at q; cases q
    exact ⟨h2, g2.trans g1⟩
  t := fun x h => b.t x (a.t x h)
  o := fun x h => by
    rcases b.o x h with q | q
    · exact a.o x q
    · refine .inr ?_
      cases e : H x with
      | none => rfl
      | some o => exact absurd q (a.t x (by rw [e]; exact fun z => nomatch z))
  p := b.p.trans a.p
end

/-- an expression's value; 'n' : the heap at which a value of one's own was new -/
def ValV (C : Ct) (α : AS) (σ : St) (G H : Hp) : SV → V → Prop
  | .fr d, v => FrV C G v d
  | .ol ds, v => ∃ a, v = .ref a ∧ OwnL C G H a ds ∧ ¬ Own C α σ a
  | .od kvs, v => ∃ a, v = .ref a ∧ OwnD C G H a kvs ∧ ¬ Own C α σ a
  | .bor i, v => σ[i]? = some (some v)
  | .pen, v => v = .ref C.pa ∧ α.pn.isSome = true
/-- .. and it is new since H₀ -/
def NewV (H₀ : Hp) : SV → V → Prop
  | .ol _, v => ∀ a, v = .ref a → H₀ a = none
  | .od _, v => ∀ a, v = .ref a → H₀ a = none
  | _, _ => True

/-- an exception as it flies: its class, its own dict -/
def RelX (C : Ct) (mg : Str → Option Value) (G H : Hp) (e : Ex) (cls : Value) (d : Option Addr) : Prop :=
  ∃ (c dx : Addr) (fs : List (Str × V)), cls = .ref c ∧ mg e.name = some (.ref c) ∧ d = some dx ∧ H dx = some (.xd fs) ∧ fs.map (·.1) = e.fs.map (·.1) ∧ DpAll C.K G (fs.map (·.2)) (e.fs.map (·.2))

/-- what an expression's end is to bring -/
def Res (C : Ct) (mg : Str → Option Value) (W : WX) (σ : St) (α : AS) (G H : Hp) (r : R SV) (Q : VK) : Prop := match r with
  | .ok sv α' => ∀ v G' H', Rel C α' σ G' H' → Step C α σ G H α' σ G' H' → ValV C α' σ G' H' sv v → NewV H sv v → Q v H'
  | .ex e α' => ∀ cls d G' H', Rel C α' σ G' H' → Step C α σ G H α' σ G' H' → RelX C mg G' H' e cls d → W cls d σ H'
  | .no => False
end Sx

namespace Sx
open PySem PySem.Spec L2

section
variable {C : Ct} {mg : Str → Option Value} {W : WX} {α α1 α2 : AS} {σ : St} {G G1 G2 H H1 H2 : Hp} {x : SV} {v : V} {Q : VK}
theorem some_ne {o : Option HO} {u : HO} (h : o = some u) : o ≠ none := by rw [h]; exact fun z => nomatch z
theorem Step.new (st : Step C α σ G H α1 σ G1 H1) {a : Addr} (h : H1 a = none) : H a = none := by
  cases e : H a with
  | none => rfl
  | some o => exact absurd h (st.t a (some_ne e))
theorem NewV.back (st : Step C α σ G H α1 σ G1 H1) (h : NewV H1 x v) : NewV H x v := by
  cases x with
  | ol ds => exact fun a e => st.new (h a e)
  | od ds => exact fun a e => st.new (h a e)
  | fr d => trivial
  | bor i => trivial
  | pen => trivial
theorem Res.shift (st : Step C α σ G H α1 σ G1 H1) {r : R SV} (h : Res C mg W σ α G H r Q) : Res C mg W σ α1 G1 H1 r Q := by
  cases r with
  | ok y α' => exact fun v G' H' rel s' rv nv => h v G' H' rel (st.trans s') rv (nv.back st)
  | ex e α' => exact fun cls d G' H' rel s' rx => h cls d G' H' rel (st.trans s') rx
  | no => exact h
theorem ValV.step (st : Step C α σ G H α1 σ G1 H1) (h : ValV C α σ G H x v) : ValV C α1 σ G1 H1 x v := by
  cases x with
  | fr d => exact st.g.fr h
  | ol ds =>
    obtain ⟨a, rfl, ⟨hg, vs, hv, hd⟩, hn⟩ := h
    obtain ⟨h1, h2⟩ := st.k a _ hv hn
    exact ⟨a, rfl, ⟨h2.trans hg, vs, h1, st.g.dpAll _ _ hd⟩, fun z => (st.o a z).elim hn fun q => by rw [hv] at q; cases q⟩
  | od kvs =>
    obtain ⟨a, rfl, ⟨hg, vs, hv, hd⟩, hn⟩ := h
    obtain ⟨h1, h2⟩ := st.k a _ hv hn
    exact ⟨a, rfl, ⟨h2.trans hg, vs, h1, st.g.fdEnts hd⟩, fun z => (st.o a z).elim hn fun q => by rw [hv] at q; cases q⟩
  | bor i => exact h
  | pen => exact ⟨h.1, by rw [st.p]; exact h.2⟩
theorem NewV.step (st : Step C α σ G H α1 σ G1 H1) (h : NewV H x v) : NewV H x v := h

/-- the first part's end, and what is then to be shown of the rest -/
def Mid (C : Ct) (mg : Str → Option Value) (W : WX) (σ : St) (α : AS) (G H : Hp) (f : R SV) (k : SV → AS → R SV) (Q : VK) (v : V) (H1 : Hp) : Prop :=
  ∃ x α1 G1, f = .ok x α1 ∧ Rel C α1 σ G1 H1 ∧ Step C α σ G H α1 σ G1 H1 ∧ ValV C α1 σ G1 H1 x v ∧ NewV H x v ∧ Res C mg W σ α1 G1 H1 (k x α1) Q
theorem Res.mid {f : R SV} {k : SV → AS → R SV} (h : Res C mg W σ α G H (f.bind k) Q) : Res C mg W σ α G H f (Mid C mg W σ α G H f k Q) := by
  cases f with
  | ok y α' => exact fun v G' H' rel st rv nv => ⟨y, α', G', rfl, rel, st, rv, nv, Res.shift st h⟩
  | ex e α' => exact h
  | no => exact h
theorem Res.mono {r : R SV} {Q' : VK} (h : Res C mg W σ α G H r Q) (hq : ∀ v H, Q v H → Q' v H) : Res C mg W σ α G H r Q' := by
  cases r with
  | ok y α' => exact fun v G' H' rel st rv nv => hq _ _ (h v G' H' rel st rv nv)
  | ex e α' => exact h
  | no => exact h
/-- an end at once -/
theorem Res.ret (rel : Rel C α σ G H) (rv : ValV C α σ G H x v) (nv : NewV H x v) (h : Res C mg W σ α G H (.ok x α) Q) : Q v H := h v G H rel Step.refl rv nv
end

/-! ### judgements -/
abbrev ct (X : Cx) (pa : Addr) : Ct := ⟨X.prog, X.w, X.K, pa⟩
def tE (X : Cx) (W : WX) (f : EF) : TE := fun σ H Q => ∃ pa α G, Rel (ct X pa) α σ G H ∧ Res (ct X pa) X.mg W σ α G H (f α) Q
/-- the expression e does what f tells -/
abbrev SE (X : Cx) (W : WX) (e : Expr) (f : EF) : Prop := PE X e (tE X W f)
theorem _root_.L2.PE.conseq {X : Cx} {e : Expr} {t t' : TE} (h : PE X e t) (i : ∀ σ H Q, t' σ H Q → t σ H Q) : PE X e t' := ⟨fun pins s σ H Q I q => h.run pins s σ H Q I (i σ H Q q)⟩
/-- tests -/
abbrev BF := AS → R Bool
def ResB (C : Ct) (mg : Str → Option Value) (W : WX) (σ : St) (α : AS) (G H : Hp) (r : R Bool) (Q : Bool → Hp → Prop) : Prop := match r with
  | .ok b α' => ∀ G' H', Rel C α' σ G' H' → Step C α σ G H α' σ G' H' → Q b H'
  | .ex e α' => ∀ cls d G' H', Rel C α' σ G' H' → Step C α σ G H α' σ G' H' → RelX C mg G' H' e cls d → W cls d σ H'
  | .no => False
def tB (X : Cx) (W : WX) (f : BF) : TT := fun σ H Q => ∃ pa α G, Rel (ct X pa) α σ G H ∧ ResB (ct X pa) X.mg W σ α G H (f α) Q
abbrev ST (X : Cx) (W : WX) (e : Expr) (f : BF) : Prop := PT X e (tB X W f)
theorem _root_.L2.PT.conseq {X : Cx} {e : Expr} {t t' : TT} (h : PT X e t) (i : ∀ σ H Q, t' σ H Q → t σ H Q) : PT X e t' := ⟨fun pins s σ H Q I q => h.run pins s σ H Q I (i σ H Q q)⟩
theorem _root_.L2.PW.conseq {X : Cx} {e : Expr} {t t' : TT} (h : PW X e t) (i : ∀ σ H Q, t' σ H Q → t σ H Q) : PW X e t' := ⟨fun wh pins s σ H Q I q => h.run wh pins s σ H Q I (i σ H Q q)⟩
/-- argument lists: all of it told data, or the pen -/
abbrev AF := AS → R (List SV)
def ArgV (C : Ct) (α : AS) (G : Hp) : SV → V → Prop
  | .fr d, v => FrV C G v d
  | .pen, v => v = .ref C.pa ∧ α.pn.isSome = true
  | _, _ => False
inductive ArgsV (C : Ct) (α : AS) (G : Hp) : List SV → List V → Prop
  | nil : ArgsV C α G [] []
  | cons {x : SV} {v : V} {xs : List SV} {vs : List V} : ArgV C α G x v → ArgsV C α G xs vs → ArgsV C α G (x :: xs) (v :: vs)
def ResA (C : Ct) (mg : Str → Option Value) (W : WX) (σ : St) (α : AS) (G H : Hp) (r : R (List SV)) (Q : List V → Hp → Prop) : Prop := match r with
  | .ok xs α' => ∀ vs G' H', Rel C α' σ G' H' → Step C α σ G H α' σ G' H' → ArgsV C α' G' xs vs → Q vs H'
  | .ex e α' => ∀ cls d G' H', Rel C α' σ G' H' → Step C α σ G H α' σ G' H' → RelX C mg G' H' e cls d → W cls d σ H'
  | .no => False
def tA (X : Cx) (W : WX) (f : AF) : TA := fun σ H Q => ∃ pa α G, Rel (ct X pa) α σ G H ∧ ResA (ct X pa) X.mg W σ α G H (f α) Q
abbrev SA (X : Cx) (W : WX) (es : List Expr) (f : AF) : Prop := PA X es (tA X W f)
theorem _root_.L2.PA.conseq {X : Cx} {e : List Expr} {t t' : TA} (h : PA X e t) (i : ∀ σ H Q, t' σ H Q → t σ H Q) : PA X e t' := ⟨fun pos pins s σ H Q I q => h.run pos pins s σ H Q I (i σ H Q q)⟩

section
variable {C : Ct} {mg : Str → Option Value} {W : WX} {α α1 α2 : AS} {σ : St} {G G1 G2 H H1 H2 : Hp}
theorem ArgV.step (st : Step C α σ G H α1 σ G1 H1) {x : SV} {v : V} (h : ArgV C α G x v) : ArgV C α1 G1 x v := by
  cases x with
  | fr d => exact st.g.fr h
  | pen => exact ⟨h.1, by rw [st.p]; exact h.2⟩
  | ol ds => exact h
  | od ds => exact h
  | bor i => exact h
theorem ArgsV.step (st : Step C α σ G H α1 σ G1 H1) : ∀ {xs : List SV} {vs : List V}, ArgsV C α G xs vs → ArgsV C α1 G1 xs vs
  | _, _, .nil => .nil
  | _, _, .cons h t => .cons (h.step st) (ArgsV.step st t)
theorem ResB.shift (st : Step C α σ G H α1 σ G1 H1) {r : R Bool} {Q : Bool → Hp → Prop} (h : ResB C mg W σ α G H r Q) : ResB C mg W σ α1 G1 H1 r Q := by
  cases r with
  | ok y α' => exact fun G' H' rel s' => h G' H' rel (st.trans s')
  | ex e α' => exact fun cls d G' H' rel s' rx => h cls d G' H' rel (st.trans s') rx
  | no => exact h
theorem ResA.shift (st : Step C α σ G H α1 σ G1 H1) {r : R (List SV)} {Q : List V → Hp → Prop} (h : ResA C mg W σ α G H r Q) : ResA C mg W σ α1 G1 H1 r Q := by
  cases r with
  | ok y α' => exact fun vs G' H' rel s' av => h vs G' H' rel (st.trans s') av
  | ex e α' => exact fun cls d G' H' rel s' rx => h cls d G' H' rel (st.trans s') rx
  | no => exact h
end

/-! ### names and constants -/
def eC (d : D) : EF := fun s => .ok (.fr d) s
def eV (i : Nat) : EF := fun s => match getS s i with
  | some .pen => .ok .pen s
  | some (.fr d) => .ok (.fr d) s
  | some _ => .ok (.bor i) s
  | none => .no
section
variable {X : Cx} {W : WX}
theorem se_c {e : Expr} {v : V} {d : D} (h : PE X e (L2.tC v)) (hd : ∀ G : Hp, Dp X.K G v d) : SE X W e (eC d) := h.conseq fun σ H Q ⟨pa, α, G, rel, h⟩ => h v G H rel Step.refl (.of (hd G)) trivial
theorem se_int {i j pos} : SE X W (.Constant (.int i) j pos) (eC (.int i)) := se_c pe_int fun _ => .int i
theorem se_bl {b j pos} : SE X W (.Constant (.bool b) j pos) (eC (.bool b)) := se_c pe_bl fun _ => .bl b
theorem se_non {j pos} : SE X W (.Constant .none j pos) (eC .none) := se_c pe_non fun _ => .non
theorem se_str {x j pos} : SE X W (.Constant (.str x) j pos) (eC (.str x)) := se_c pe_str fun _ => .str x
theorem se_v (i : Nat) {x : Str} {pos : Pos} (hN : X.N[i]? = some x) (hv : Vis X.env.scope x) (hd : (x == ("__debug__" : Str)) = false := by decide) (hcd : (x == ("__classdict__" : Str)) = false := by decide) : SE X W (.Name x pos) (eV i) := by
  refine (pe_var hN hv hd hcd).conseq fun σ H Q ⟨pa, α, G, rel, h⟩ => ?_
  unfold eV at h
  cases e : getS α i with
  | none => rw [e] at h; exact h.elim
  | some sv =>
    obtain ⟨v, hs, hr⟩ := rel.sl i sv e
    refine ⟨v, hs, ?_⟩
    rw [e] at h
    cases sv with
    | fr d => exact h v G H rel Step.refl hr trivial
    | ol ds => exact h v G H rel Step.refl hs trivial
    | od ds => exact h v G H rel Step.refl hs trivial
    | bor j => exact hr.elim
    | pen =>
      exact h v G H rel Step.refl ⟨hr, rel.ps i e⟩ trivial
end

/-! ### a value is given away: from now on no one changes it -/
def fz (s : AS) : SV → Option (SV × AS)
  | .fr d => some (.fr d, s)
  | .ol ds => some (.fr (.list ds), s)
  | .od kvs => some (.fr (.dict kvs), s)
  | .pen => some (.pen, s)
  | .bor i => match getS s i with
    | some (.fr d) => some (.fr d, s)
    | some (.ol ds) => some (.fr (.list ds), setS s i (.fr (.list ds)))
    | some (.od kvs) => some (.fr (.dict kvs), setS s i (.fr (.dict kvs)))
    | _ => none
theorem getS_set {s : AS} {i j : Nat} {v : SV} (hi : i < s.sl.length) : getS (setS s i v) j = if j = i then some v else getS s j := by
  unfold getS setS
  by_cases h : j = i
  · subst h
    rw [if_pos rfl, List.getElem?_set_self hi]
  · rw [if_neg h, List.getElem?_set_ne (Ne.symm h)]
theorem getS_lt {s : AS} {i : Nat} {v : SV} (h : getS s i = some v) : i < s.sl.length := by
  unfold getS at h
  cases e : s.sl[i]? with
  | none => rw [e] at h; cases h
  | some o => exact (List.getElem?_eq_some_iff.mp e).1
section
variable {C : Ct} {mg : Str → Option Value} {W : WX} {α α0 α1 α2 : AS} {σ : St} {G G0 G1 G2 H H0 H1 H2 : Hp} {x y : SV} {v : V} {Q : VK}
theorem upd_le {G H : Hp} {a : Addr} {o : HO} (hl : Le G H) (hg : G a = none) (ha : H a = some o) : Le (upd G a o) H := fun b u e => by
  by_cases h : b = a
  · subst h; rw [upd_same] at e; cases e; exact ha
  · rw [upd_ne h] at e; exact hl b u e
theorem le_upd {G : Hp} {a : Addr} {o : HO} (hg : G a = none) : Le G (upd G a o) := fun b u e => by
  rw [upd_ne (ne_of_none e hg)]; exact e
theorem ng_upd {G : Hp} {a : Addr} {o : HO} (h : NG G) (ho : tupOk o) : NG (upd G a o) := fun b u e => by
  by_cases hb : b = a
  · subst hb; rw [upd_same] at e; cases e; exact ho
  · rw [upd_ne hb] at e; exact h b u e
/-- what is told frozen grows by one address -/
theorem Rel.frz (rel : Rel C α σ G H) {a : Addr} {o : HO} (to : tupOk o) (hg : G a = none) (ha : H a = some o) (hn : ¬ Own C α σ a) : Rel C α σ (upd G a o) H where
  le := upd_le rel.le hg ha
  nt := ng_upd rel.nt to
  len := rel.len
  sl := fun i sv e => by
    obtain ⟨w, h1, h2⟩ := rel.sl i sv e
    refine ⟨w, h1, ?_⟩
    cases sv with
    | fr d => exact (le_upd hg).fr h2
    | ol ds =>
      obtain ⟨b, rfl, hb, vs, h3, h4⟩ := h2
      have hba : b ≠ a := fun z => hn (z ▸ .inr ⟨i, _, e, rfl, h1⟩)
      exact ⟨b, rfl, by rw [upd_ne hba]; exact hb, vs, h3, (le_upd hg).dpAll _ _ h4⟩
    | od ds =>
      obtain ⟨b, rfl, hb, vs, h3, h4⟩ := h2
      have hba : b ≠ a := fun z => hn (z ▸ .inr ⟨i, _, e, rfl, h1⟩)
      exact ⟨b, rfl, by rw [upd_ne hba]; exact hb, vs, h3, (le_upd hg).fdEnts h4⟩
    | bor i => exact h2
    | pen => exact h2
  apart := rel.apart
  pen := fun p e => by
    obtain ⟨h1, c, h2, h3⟩ := rel.pen p e
    have hpa : C.pa ≠ a := fun z => hn (z ▸ .inl ⟨by rw [e]; rfl, rfl⟩)
    exact ⟨by rw [upd_ne hpa]; exact h1, c, h2, (le_upd hg).sqL h3⟩
  ps := rel.ps
  pne := rel.pne
/-- a slot's own list or dict is frozen -/
theorem Rel.frzS (rel : Rel C α σ G H) {i : Nat} {y : SV} {d : D} {o : HO} {a : Addr} (e : getS α i = some y) (yo : y.own = true) (hs : σ[i]? = some (some (.ref a))) (hg : G a = none) (hv : H a = some o) (to : tupOk o) (dv : FrV C (upd G a o) (.ref a) d) :
    Own C α σ a ∧ Rel C (setS α i (.fr d)) σ (upd G a o) H ∧ (∀ b, Own C (setS α i (.fr d)) σ b → Own C α σ b) := by
  have hi := getS_lt e
  have own : Own C α σ a := .inr ⟨i, _, e, yo, hs⟩
  have less : ∀ b, Own C (setS α i (.fr d)) σ b → Own C α σ b := fun b hb => by
    rcases hb with hb | ⟨j, sv, h1, h2, h3⟩
    · exact .inl hb
    · rw [getS_set hi] at h1
      by_cases hj : j = i
      · rw [if_pos hj] at h1; cases h1; cases h2
      · rw [if_neg hj] at h1; exact .inr ⟨j, sv, h1, h2, h3⟩
  refine ⟨own, ⟨upd_le rel.le hg hv, ng_upd rel.nt to, by unfold setS; rw [List.length_set]; exact rel.len, fun j sv h => ?_, fun j k p q b hj hk hp hq hjs hks => ?_, fun p h => ?_, fun j h => ?_, fun h j sv h1 h2 => ?_⟩, less⟩
  · rw [getS_set hi] at h
    by_cases hj : j = i
    · subst hj
      rw [if_pos rfl] at h; cases h
      exact ⟨_, hs, dv⟩
    · rw [if_neg hj] at h
      obtain ⟨w, h1, h2⟩ := rel.sl j sv h
      refine ⟨w, h1, ?_⟩
      cases sv with
      | fr d => exact (le_upd hg).fr h2
      | ol ds' =>
        obtain ⟨b, rfl, hb, vs', h3, h4⟩ := h2
        have hba : b ≠ a := fun z => hj (rel.apart j i _ _ a h e rfl yo (z ▸ h1) hs)
        exact ⟨b, rfl, by rw [upd_ne hba]; exact hb, vs', h3, (le_upd hg).dpAll _ _ h4⟩
      | od ds' =>
        obtain ⟨b, rfl, hb, vs', h3, h4⟩ := h2
        have hba : b ≠ a := fun z => hj (rel.apart j i _ _ a h e rfl yo (z ▸ h1) hs)
        exact ⟨b, rfl, by rw [upd_ne hba]; exact hb, vs', h3, (le_upd hg).fdEnts h4⟩
      | bor i => exact h2
      | pen => exact h2
  · rw [getS_set hi] at hj hk
    by_cases h1 : j = i
    · rw [if_pos h1] at hj; cases hj; cases hp
    · by_cases h2 : k = i
      · rw [if_pos h2] at hk; cases hk; cases hq
      · rw [if_neg h1] at hj; rw [if_neg h2] at hk
        exact rel.apart j k p q b hj hk hp hq hjs hks
  · obtain ⟨h1, c, h2, h3⟩ := rel.pen p h
    have hpa : C.pa ≠ a := fun z => rel.pne (by rw [show α.pn = some p from h]; rfl) i _ e yo (z ▸ hs)
    exact ⟨by rw [upd_ne hpa]; exact h1, c, h2, (le_upd hg).sqL h3⟩
  · rw [getS_set hi] at h
    by_cases hj : j = i
    · rw [if_pos hj] at h; cases h
    · rw [if_neg hj] at h; exact rel.ps j h
  · rw [getS_set hi] at h1
    by_cases hj : j = i
    · rw [if_pos hj] at h1; cases h1; cases h2
    · rw [if_neg hj] at h1; exact rel.pne h j sv h1 h2

/-- THE GIVING AWAY: from an expression's end -/
theorem fz_ok (rel : Rel C α1 σ G1 H1) (st : Step C α σ G H α1 σ G1 H1) (rv : ValV C α1 σ G1 H1 x v) (nv : NewV H x v) (e : fz α1 x = some (y, α2)) :
    ∃ G2, Rel C α2 σ G2 H1 ∧ Step C α σ G H α2 σ G2 H1 ∧ ArgV C α2 G2 y v := by
  cases x with
  | fr d => cases e; exact ⟨G1, rel, st, rv⟩
  | pen => cases e; exact ⟨G1, rel, st, rv⟩
  | od kvs =>
    cases e
    obtain ⟨a, rfl, ⟨hg, xs, hv, hd⟩, hn⟩ := rv
    have ha := nv a rfl
    refine ⟨upd G1 a (rawD C.w C.P a xs), rel.frz True.intro hg hv hn, ⟨st.g.trans (le_upd hg), fun b o hb nb => ?_, st.t, st.o, st.p⟩, ⟨a, xs, rfl, upd_same, (le_upd hg).fdEnts hd⟩⟩
    obtain ⟨h1, h2⟩ := st.k b o hb nb
    exact ⟨h1, by rw [upd_ne (ne_of_none hb ha)]; exact h2⟩
  | ol ds =>
    cases e
    obtain ⟨a, rfl, ⟨hg, vs, hv, hd⟩, hn⟩ := rv
    have ha := nv a rfl
    refine ⟨upd G1 a (.lst vs), rel.frz True.intro hg hv hn, ⟨st.g.trans (le_upd hg), fun b o hb nb => ?_, st.t, st.o, st.p⟩, .lst (.inl (.inl upd_same)) ((le_upd hg).dpAll _ _ hd)⟩
    obtain ⟨h1, h2⟩ := st.k b o hb nb
    exact ⟨h1, by rw [upd_ne (ne_of_none hb ha)]; exact h2⟩
  | bor i =>
    unfold fz at e
    cases g : getS α1 i with
    | none => simp only [g] at e; cases e
    | some sv =>
      simp only [g] at e
      cases sv with
      | fr d =>
        cases e
        obtain ⟨w, h1, h2⟩ := rel.sl i _ g
        have hw : σ[i]? = some (some v) := rv
        rw [hw] at h1; cases h1
        exact ⟨G1, rel, st, h2⟩
      | ol ds =>
        cases e
        obtain ⟨w, h1, a, rfl, hg, vs, hv, hd⟩ := rel.sl i _ g
        have hw : σ[i]? = some (some v) := rv
        rw [hw] at h1; cases h1
        obtain ⟨own, rel2, less⟩ := rel.frzS (d := .list ds) g rfl hw hg hv True.intro (.lst (.inl (.inl upd_same)) ((le_upd hg).dpAll _ _ hd))
        refine ⟨_, rel2, ⟨st.g.trans (le_upd hg), fun b o hb nb => ?_, st.t, fun b hb => st.o b (less b hb), st.p⟩, .lst (.inl (.inl upd_same)) ((le_upd hg).dpAll _ _ hd)⟩
        obtain ⟨h1, h2⟩ := st.k b o hb nb
        have hba : b ≠ a := fun z => by
          subst z
          rcases st.o b own with q | q
          · exact nb q
          · rw [hb] at q; cases q
        exact ⟨h1, by rw [upd_ne hba]; exact h2⟩
      | od kvs =>
        cases e
        obtain ⟨w, h1, a, rfl, hg, xs, hv, hd⟩ := rel.sl i _ g
        have hw : σ[i]? = some (some v) := rv
        rw [hw] at h1; cases h1
        have dv : FrV C (upd G1 a (rawD C.w C.P a xs)) (.ref a) (.dict kvs) := ⟨a, xs, rfl, upd_same, (le_upd hg).fdEnts hd⟩
        obtain ⟨own, rel2, less⟩ := rel.frzS (d := .dict kvs) g rfl hw hg hv True.intro dv
        refine ⟨_, rel2, ⟨st.g.trans (le_upd hg), fun b o hb nb => ?_, st.t, fun b hb => st.o b (less b hb), st.p⟩, dv⟩
        obtain ⟨h1, h2⟩ := st.k b o hb nb
        have hba : b ≠ a := fun z => by
          subst z
          rcases st.o b own with q | q
          · exact nb q
          · rw [hb] at q; cases q
        exact ⟨h1, by rw [upd_ne hba]; exact h2⟩
      | bor j => cases e
      | pen => cases e
end
def eFz (f : EF) : EF := fun s => (f s).bind fun x s1 => match fz s1 x with
  | some (y, s2) => .ok y s2
  | none => .no
def aNil : AF := fun s => .ok [] s
def aCons (f : EF) (g : AF) : AF := fun s => (f s).bind fun x s1 => match fz s1 x with
  | some (y, s2) => (g s2).bind fun ys s3 => .ok (y :: ys) s3
  | none => .no
section
variable {X : Cx} {W : WX}
theorem sa_nil : SA X W [] aNil := pa_nil.conseq fun σ H Q ⟨pa, α, G, rel, h⟩ => h [] G H rel Step.refl .nil
theorem sa_cons {e : Expr} {es : List Expr} {f : EF} {g : AF} (he : SE X W e f) (hes : SA X W es g) (hs : starEach (e :: es) X.env = (false, eval e X.env) :: starEach es X.env := by rfl) : SA X W (e :: es) (aCons f g) := by
  refine (pa_cons he hes hs).conseq fun σ H Q ⟨pa, α, G, rel, h⟩ => ?_
  refine ⟨pa, α, G, rel, ?_⟩
  unfold aCons at h
  cases r : f α with
  | no => rw [r] at h; exact h
  | ex e α' => rw [r] at h; exact h
  | ok x α1 =>
    rw [r] at h
    intro v G1 H1 rel1 st1 rv nv
    simp only [R.bind] at h
    cases r2 : fz α1 x with
    | none => rw [r2] at h; exact h.elim
    | some p =>
      obtain ⟨y, α2⟩ := p
      rw [r2] at h
      obtain ⟨G2, rel2, st2, av⟩ := fz_ok rel1 st1 rv nv r2
      refine ⟨pa, α2, G2, rel2, ?_⟩
      simp only at h
      cases r3 : g α2 with
      | no => rw [r3] at h; exact h
      | ex e α' => rw [r3] at h; exact fun cls d G' H' rel' st' rx => h cls d G' H' rel' (st2.trans st') rx
      | ok ys α3 =>
        rw [r3] at h
        exact fun vs G3 H3 rel3 st3 avs => h _ G3 H3 rel3 (st2.trans st3) (.cons (av.step st3) avs)
end
end Sx

namespace Sx
open PySem PySem.Spec L2

/-! ### reading a value where it stands -/
def nod (d : D) : Option D := match d with
  | .dict _ => none
  | d => some d
theorem nod_eq {d e : D} (h : nod d = some e) : d = e ∧ isDict d = false := by
  cases d with
  | dict _ => cases h
  | _ => cases h; exact ⟨rfl, rfl⟩
def rdv (s : AS) : SV → Option D
  | .fr d => nod d
  | .ol ds => some (.list ds)
  | .bor i => match getS s i with
    | some (.fr d) => nod d
    | some (.ol ds) => some (.list ds)
    | _ => none
  | _ => none
/-- it may be a list that is still changed: its items are told, the list itself stands in H alone -/
def RdD (K : PySem.W.Frag) (G H : Hp) (v : V) : D → Prop
  | .list ds => ∃ a vs, v = .ref a ∧ SqL K H a vs ∧ DpAll K G vs ds
  | d => Dp K G v d
section
variable {C : Ct} {mg : Str → Option Value} {W : WX} {α α1 α2 : AS} {σ : St} {G G1 G2 H H1 H2 : Hp} {x y : SV} {v u : V} {Q : VK} {d e : D}
theorem RdD.of {K : PySem.W.Frag} (hl : Le G H) (h : Dp K G v d) : RdD K G H v d := by
  cases d with
  | list ds => cases h with | lst s a => exact ⟨_, _, rfl, hl.sqL s, a⟩
  | _ => exact h
theorem RdD.dp {K : PySem.W.Frag} (hl : Le G H) (h : RdD K G H v d) : Dp K H v d := by
  cases d with
  | list ds =>
    obtain ⟨a, vs, rfl, s, t⟩ := h
    exact .lst s (hl.dpAll _ _ t)
  | none => exact hl.dp _ _ h
  | bool b => exact hl.dp _ _ h
  | int b => exact hl.dp _ _ h
  | str b => exact hl.dp _ _ h
  | tuple b => exact hl.dp _ _ h
  | dict b => exact hl.dp _ _ h
theorem rdv_ok (rel : Rel C α σ G H) (rv : ValV C α σ G H x v) (e : rdv α x = some d) : RdD C.K G H v d := by
  have own : ∀ {a ds}, OwnL C G H a ds → RdD C.K G H (.ref a) (.list ds) := fun ⟨_, vs, h1, h2⟩ => ⟨_, vs, rfl, .inl (.inl h1), h2⟩
  cases x with
  | fr d' => obtain ⟨rfl, n⟩ := nod_eq e; exact .of rel.le (FrV.dp rv n)
  | ol ds => cases e; obtain ⟨a, rfl, h, _⟩ := rv; exact own h
  | od ds => cases e
  | pen => cases e
  | bor i =>
    unfold rdv at e
    cases g : getS α i with
    | none => simp only [g] at e; cases e
    | some sv =>
      obtain ⟨w, h1, h2⟩ := rel.sl i _ g
      have hw : σ[i]? = some (some v) := rv
      rw [hw] at h1; cases h1
      simp only [g] at e
      cases sv with
      | fr d' => obtain ⟨rfl, n⟩ := nod_eq e; exact .of rel.le (FrV.dp h2 n)
      | ol ds => cases e; obtain ⟨a, rfl, h⟩ := h2; exact own h
      | od ds => cases e
      | bor j => cases e
      | pen => cases e
/-! ### making -/
theorem out_d (rel : Rel C α σ G H) (h : Res C mg W σ α G H (.ok (.fr d) α) Q) (hd : Dp C.K G v d) : Q v H := h v G H rel Step.refl (.of hd) trivial
theorem Own.eqP {a : Addr} : Own C α σ a → Own C α σ a := id
theorem own_some (rel : Rel C α σ G H) {a : Addr} (h : Own C α σ a) : H a ≠ none := by
  rcases h with ⟨h, rfl⟩ | ⟨i, sv, h1, h2, h3⟩
  · cases e : α.pn with
    | none => rw [e] at h; cases h
    | some p => obtain ⟨_, c, q, _⟩ := rel.pen p e; exact some_ne q
  · obtain ⟨v, q1, q2⟩ := rel.sl i sv h1
    rw [h3] at q1; cases q1
    cases sv with
    | ol ds => obtain ⟨b, e, _, vs, q, _⟩ := q2; cases e; exact some_ne q
    | od ds => obtain ⟨b, e, _, vs, q, _⟩ := q2; cases e; exact some_ne q
    | fr d => cases h2
    | bor i => cases h2
    | pen => cases h2
theorem not_own (rel : Rel C α σ G H) {p : Addr} (hp : H p = none) : ¬ Own C α σ p := fun h => own_some rel h hp
theorem Rel.gone (rel : Rel C α σ G H) {p : Addr} (hp : H p = none) : G p = none := by
  cases e : G p with
  | none => rfl
  | some o => have := rel.le p o e; rw [hp] at this; cases this
/-- a new object is laid -/
theorem Rel.laid (rel : Rel C α σ G H) {p : Addr} (o : HO) (hp : H p = none) : Rel C α σ G (upd H p o) where
  le := fun a u e => by
    rw [upd_ne (ne_of_none (rel.le a u e) hp)]; exact rel.le a u e
  nt := rel.nt
  len := rel.len
  sl := fun i sv e => by
    obtain ⟨w, h1, h2⟩ := rel.sl i sv e
    refine ⟨w, h1, ?_⟩
    cases sv with
    | fr d => exact h2
    | ol ds =>
      obtain ⟨b, rfl, hb, vs, h3, h4⟩ := h2
      exact ⟨b, rfl, hb, vs, by rw [upd_ne (ne_of_none h3 hp)]; exact h3, h4⟩
    | od ds =>
      obtain ⟨b, rfl, hb, vs, h3, h4⟩ := h2
      exact ⟨b, rfl, hb, vs, by rw [upd_ne (ne_of_none h3 hp)]; exact h3, h4⟩
    | bor i => exact h2
    | pen => exact h2
  apart := rel.apart
  pen := fun p' e => by
    obtain ⟨h1, c, h2, h3⟩ := rel.pen p' e
    exact ⟨h1, c, by rw [upd_ne (ne_of_none h2 hp)]; exact h2, h3⟩
  ps := rel.ps
  pne := rel.pne
theorem Step.laid {p : Addr} (o : HO) (hp : H p = none) : Step C α σ G H α σ G (upd H p o) := ⟨Le.refl _, fun b u h _ => ⟨by rw [upd_ne (ne_of_none h hp)]; exact h, rfl⟩, fun b h => by
  unfold upd; split
  · exact fun z => nomatch z
  · exact h, fun _ h => .inl h, rfl⟩
theorem Step.laidF {p : Addr} (o : HO) (hp : H p = none) (hg : G p = none) : Step C α σ G H α σ (upd G p o) (upd H p o) := ⟨le_upd hg, fun b u h _ => ⟨by rw [upd_ne (ne_of_none h hp)]; exact h, by rw [upd_ne (ne_of_none h hp)]⟩, fun b h => by
  unfold upd; split
  · exact fun z => nomatch z
  · exact h, fun _ h => .inl h, rfl⟩
theorem Rel.laidF (rel : Rel C α σ G H) {p : Addr} (o : HO) (to : tupOk o) (hp : H p = none) : Rel C α σ (upd G p o) (upd H p o) :=
  (rel.laid o hp).frz to (rel.gone hp) upd_same (not_own rel hp)
theorem out_tup (rel : Rel C α σ G H) {ds : List D} {vs : List V} (h : Res C mg W σ α G H (.ok (.fr (.tuple ds)) α) Q) (hd : DpAll C.K G vs ds) : ∀ p o, H p = none → o.dict = none → Q (.ref p) (upd H p (.frz o (.tup vs))) := fun p o hp ho =>
  h _ _ _ (rel.laidF _ ho hp) (Step.laidF _ hp (rel.gone hp)) (.tup (.inl (.inr ⟨o, upd_same⟩)) ((le_upd (rel.gone hp)).dpAll _ _ hd)) trivial
theorem out_lst (rel : Rel C α σ G H) {ds : List D} {vs : List V} (h : Res C mg W σ α G H (.ok (.ol ds) α) Q) (hd : DpAll C.K G vs ds) : ∀ p, H p = none → Q (.ref p) (upd H p (.lst vs)) := fun p hp =>
  h _ _ _ (rel.laid _ hp) (Step.laid _ hp) ⟨p, rfl, ⟨rel.gone hp, vs, upd_same, hd⟩, not_own rel hp⟩ fun a e => by cases e; exact hp
end

/-! ### new tuples: the object itself is told -/
section
variable {X : Cx}
abbrev tupObj (its : List Value) : Obj := { cls := .type "tuple", data := .seq its.toArray }
theorem lay_tup {pins : List (Addr × Obj)} {s : Shared} {σ : St} {H : Hp} {xs : List V} {its : List Value} (I : L2.Inv X pins σ H s) (r : Vals xs its) (hz : xs.length ≤ sizeLine) :
    L2.Inv X pins σ (upd H s.heap.objs.size (.frz (tupObj its) (.tup xs))) { s with heap := s.heap.push (tupObj its) } :=
  I.laid (t' := s.toks) (fun b u e => Heap.get?_push_of_some _ e) (Nat.le_refl _) ⟨Heap.get?_push_size _ rfl, hz, its, r, ⟨_, Heap.get?_push_size _ rfl, rfl, _, rfl⟩⟩
/-- a new tuple, told whole -/
def NT (Q : VK) (H : Hp) (xs : List V) : Prop := ∀ p o, H p = none → o.dict = none → Q (.ref p) (upd H p (.frz o (.tup xs)))
theorem NT.ends {pins : List (Addr × Obj)} {s : Shared} {σ : St} {H : Hp} {xs : List V} {its : List Value} {Q : VK} (I : L2.Inv X pins σ H s) (r : Vals xs its) (hz : xs.length ≤ sizeLine) (q : NT Q H xs) :
    EP X pins σ Q (.ref s.heap.objs.size) { s with heap := s.heap.push (tupObj its) } := ⟨.ref s.heap.objs.size, _, lay_tup I r hz, rfl, q _ _ (I.hok.fresh (Nat.le_refl _)) rfl⟩
/-- t + u -/
def rCatF (K : PySem.W.Frag) : R2 := fun x y H Q => ∃ a b xs ys, x = .ref a ∧ y = .ref b ∧ SqT K H a xs ∧ SqT K H b ys ∧ xs.length + ys.length ≤ sizeLine ∧
  (xs = [] → Q (.ref b) H) ∧ (xs ≠ [] → ys = [] → Q (.ref a) H) ∧ (xs ≠ [] → ys ≠ [] → NT Q H (xs ++ ys))
theorem op_catF : OpR X (binaryOp .Add) (rCatF X.K) := by
  intro pins s σ H x y v u Q I rx ry h
  obtain ⟨a, b, xs, ys, rfl, rfl, ha, hb, hz, q0, q1, q2⟩ := h
  by_cases hx : xs = []
  · exact op_catA pins s σ H _ _ v u Q I rx ry ⟨a, b, xs, ys, rfl, rfl, ha, hb, hz, q0, fun n => absurd hx n, fun n => absurd hx n⟩
  · by_cases hy : ys = []
    · exact op_catA pins s σ H _ _ v u Q I rx ry ⟨a, b, xs, ys, rfl, rfl, ha, hb, hz, q0, q1, fun _ n => absurd hy n⟩
    · obtain rfl : v = Value.ref a := rx
      obtain rfl : u = Value.ref b := ry
      obtain ⟨its, r1, p1, _⟩ := I.tuple ha
      obtain ⟨its2, r2, p2, _⟩ := I.tuple hb
      have e1 : its ≠ [] := fun z => hx (by subst z; cases r1; rfl)
      have e2 : its2 ≠ [] := fun z => hy (by subst z; cases r2; rfl)
      have := NT.ends I (r1.append r2) (by rw [List.length_append]; exact hz) (q2 hx hy)
      refine HT.cat_tup p1 p2 (fun z => e1 (by simpa using z)) (fun z => absurd (by simpa using z) e2) (fun _ => ?_) (by rw [← r1.length, ← r2.length]; exact hz)
      exact this
end
/-! ### one and two operands -/
def op1 (g : D → Option SV) (f : EF) : EF := fun s => (f s).bind fun x s1 => match rdv s1 x with
  | some d => match g d with
    | some z => .ok z s1
    | none => .no
  | none => .no
def op2 (g : D → D → Option SV) (f1 f2 : EF) : EF := fun s => (f1 s).bind fun x s1 => (f2 s1).bind fun y s2 => match rdv s2 x with
  | some d => match rdv s2 y with
    | some e => match g d e with
      | some z => .ok z s2
      | none => .no
    | none => .no
  | none => .no
/-- the state at an operation upon told operands -/
structure At (X : Cx) (W : WX) (σ : St) (H : Hp) (Q : VK) (z : SV) (pa : Addr) (α : AS) (G : Hp) : Prop where
  rel : Rel (ct X pa) α σ G H
  res : Res (ct X pa) X.mg W σ α G H (.ok z α) Q
def T1 (X : Cx) (W : WX) (g : D → Option SV) : St → V → Hp → VK → Prop := fun σ v H Q => ∃ pa α G d z, At X W σ H Q z pa α G ∧ RdD X.K G H v d ∧ g d = some z
def T2 (X : Cx) (W : WX) (g : D → D → Option SV) : St → V → V → Hp → VK → Prop := fun σ v u H Q => ∃ pa α G d e z, At X W σ H Q z pa α G ∧ RdD X.K G H v d ∧ RdD X.K G H u e ∧ g d e = some z
section
variable {X : Cx} {W : WX} {σ : St} {H : Hp} {Q : VK}
theorem t_op1 {g : D → Option SV} {f : EF} (h : tE X W (op1 g f) σ H Q) : tE X W f σ H fun v H1 => T1 X W g σ v H1 Q := by
  obtain ⟨pa, α, G, rel, h⟩ := h
  refine ⟨pa, α, G, rel, (Res.mid h).mono fun v H1 ⟨x, α1, G1, _, rel1, st1, rv, nv, r⟩ => ?_⟩
  cases e : rdv α1 x with
  | none => simp only [e] at r; exact r.elim
  | some d =>
    simp only [e] at r
    cases e2 : g d with
    | none => simp only [e2] at r; exact r.elim
    | some z =>
      simp only [e2] at r
      exact ⟨pa, α1, G1, d, z, ⟨rel1, r⟩, rdv_ok rel1 rv e, e2⟩
theorem t_op2 {g : D → D → Option SV} {f1 f2 : EF} (h : tE X W (op2 g f1 f2) σ H Q) : tE X W f1 σ H fun v H1 => tE X W f2 σ H1 fun u H2 => T2 X W g σ v u H2 Q := by
  obtain ⟨pa, α, G, rel, h⟩ := h
  refine ⟨pa, α, G, rel, (Res.mid h).mono fun v H1 ⟨x, α1, G1, _, rel1, st1, rv, nv, r⟩ => ?_⟩
  refine ⟨pa, α1, G1, rel1, (Res.mid r).mono fun u H2 ⟨y, α2, G2, _, rel2, st2, rv2, nv2, r2⟩ => ?_⟩
  have rv1 := rv.step st2
  cases e : rdv α2 x with
  | none => simp only [e] at r2; exact r2.elim
  | some d =>
    simp only [e] at r2
    cases e' : rdv α2 y with
    | none => simp only [e'] at r2; exact r2.elim
    | some d' =>
      simp only [e'] at r2
      cases e2 : g d d' with
      | none => simp only [e2] at r2; exact r2.elim
      | some z =>
        simp only [e2] at r2
        exact ⟨pa, α2, G2, d, d', z, ⟨rel2, r2⟩, rdv_ok rel2 rv1 e, rdv_ok rel2 rv2 e', e2⟩
end
/-- a value-level rule meets g -/
def Op2 (X : Cx) (W : WX) (f : Value → Value → Sem Value) (g : D → D → Option SV) : Prop := ∀ σ, ∃ r : R2, OpR X f r ∧ ∀ v u H Q, T2 X W g σ v u H Q → r v u H Q
section
variable {X : Cx} {W : WX} {a b : Expr} {fa fb : EF} {pos : Pos} {g : D → D → Option SV}
/-- an OpR at each σ -/
theorem opr_run {f : Value → Value → Sem Value} (ho : Op2 X W f g) {pins : List (Addr × Obj)} {s : Shared} {σ : St} {H : Hp} {x y : V} {v u : Value} {Q : VK} (I : Inv X pins σ H s) (rx : RelV x v) (ry : RelV y u) (h : T2 X W g σ x y H Q) :
    wpAny (model X.prog X.w) X.A (f v u) (EP X pins σ Q) X.xe s := by
  obtain ⟨r, hr, hi⟩ := ho σ
  exact hr pins s σ H x y v u Q I rx ry (hi x y H Q h)
theorem se_bin {op : Operator} (ho : Op2 X W (binaryOp op) g) (ha : SE X W a fa) (hb : SE X W b fb) : SE X W (.BinOp a op b pos) (op2 g fa fb) := by
  refine ⟨fun pins s σ H Q I h => ?_⟩
  exact wpAny_BinOp (binT ha hb I (t_op2 h) fun v u s2 x y H2 I2 rx ry q => opr_run ho I2 rx ry q)
theorem se_cmp {op : CmpOp} (ho : Op2 X W (compareOp op) g) (ha : SE X W a fa) (hb : SE X W b fb) (hm : behindInMarks op b = false) : SE X W (.Compare a [op] [b] pos) (op2 g fa fb) := by
  refine ⟨fun pins s σ H Q I h => ?_⟩
  exact wpAny_Compare1 (binT ha hb I (t_op2 h) fun v u s2 x y H2 I2 rx ry q => opr_run ho I2 rx ry q) hm
end
end Sx

namespace Sx
open PySem PySem.Spec L2

/-! ### depth, no dict within -/
mutual
theorem dp_plain {K : PySem.W.Frag} {H : Hp} : ∀ (d : D) (v : V), Dp K H v d → d.plain = true
  | .none, _, _ => rfl
  | .bool b, _, _ => rfl
  | .int i, _, _ => rfl
  | .str x, _, _ => rfl
  | .list ds, _, h => by cases h with | lst s a => simp only [PyData.plain]; exact dp_plainAll ds _ a
  | .tuple ds, _, h => by cases h with | tup s a => simp only [PyData.plain]; exact dp_plainAll ds _ a
  | .dict kvs, _, h => by cases h
theorem dp_plainAll {K : PySem.W.Frag} {H : Hp} : ∀ (ds : List D) (vs : List V), DpAll K H vs ds → PyData.plainAll ds = true
  | [], _, _ => rfl
  | d :: ds, _, h => by cases h with | cons h1 h2 => simp only [PyData.plainAll, dp_plain d _ h1, dp_plainAll ds _ h2]; rfl
end
/-- nested at most n deep -/
def shal : Nat → D → Bool
  | _, .none => true
  | _, .bool _ => true
  | _, .int _ => true
  | _, .str _ => true
  | 0, _ => false
  | n + 1, .list ds => ds.all (shal n)
  | n + 1, .tuple ds => ds.all (shal n)
  | _ + 1, .dict _ => false
theorem depthAll_le {n : Nat} : ∀ {ds : List D}, (∀ d ∈ ds, d.depth ≤ n) → PyData.depthAll ds ≤ n
  | [], _ => by simp [PyData.depthAll]
  | d :: ds, h => by
    simp only [PyData.depthAll]
    exact Nat.max_le.mpr ⟨h d List.mem_cons_self, depthAll_le fun e he => h e (List.mem_cons_of_mem _ he)⟩
theorem shal_depth : ∀ (n : Nat) (d : D), shal n d = true → d.depth ≤ n
  | n, .none, _ => by simp [PyData.depth]
  | n, .bool _, _ => by simp [PyData.depth]
  | n, .int _, _ => by simp [PyData.depth]
  | n, .str _, _ => by simp [PyData.depth]
  | 0, .list ds, h => by simp [shal] at h
  | 0, .tuple ds, h => by simp [shal] at h
  | 0, .dict ds, h => by simp [shal] at h
  | n + 1, .list ds, h => by
    simp only [shal, List.all_eq_true] at h
    have := depthAll_le (n := n) fun d hd => shal_depth n d (h d hd)
    simp only [PyData.depth]; omega
  | n + 1, .tuple ds, h => by
    simp only [shal, List.all_eq_true] at h
    have := depthAll_le (n := n) fun d hd => shal_depth n d (h d hd)
    simp only [PyData.depth]; omega
  | n + 1, .dict ds, h => by simp [shal] at h

/-! ### + - * // % ** -/
def szOk (n : Nat) : Bool := Nat.ble n 16777216
theorem szOk_le {n : Nat} (h : szOk n = true) : n ≤ sizeLine := by rw [sizeLine_eq]; exact Nat.le_of_ble_eq_true h
def gAdd : D → D → Option SV
  | .int i, .int j => some (.fr (.int (i + j)))
  | .tuple xs, .tuple ys => if szOk (xs.length + ys.length) then some (.fr (.tuple (xs ++ ys))) else none
  | .list xs, .list ys => if szOk (xs.length + ys.length) then some (.ol (xs ++ ys)) else none
  | _, _ => none
section
variable {X : Cx} {W : WX}
def rCatL (K : PySem.W.Frag) : R2 := fun x y H Q => ∃ a b xs ys, x = .ref a ∧ y = .ref b ∧ SqL K H a xs ∧ SqL K H b ys ∧ xs.length + ys.length ≤ sizeLine ∧ ∀ p, H p = none → Q (.ref p) (upd H p (.lst (xs ++ ys)))
theorem op_catL : OpR X (binaryOp .Add) (rCatL X.K) := by
  intro pins s σ H x y v u Q I rx ry h
  obtain ⟨a, b, xs, ys, rfl, rfl, ha, hb, hz, q⟩ := h
  cases rx
  cases ry
  obtain ⟨its, r1, ⟨⟨cls, dd, data, sl⟩, n, ho, hc, hdn, hd⟩, _⟩ := I.list ha
  obtain ⟨its2, r2, ⟨⟨cls2, dd2, data2, sl2⟩, n2, ho2, hc2, hdn2, hd2⟩, _⟩ := I.list hb
  simp only at hc hd hc2 hd2
  subst hc hd hc2 hd2
  have l1 := r1.length
  have l2 := r2.length
  refine concat_meets ⟨_, ho, rfl⟩ ⟨_, ho2, rfl⟩ noFill_list_add seq_list_add PySem.F.slot_list_add PySem.F.entry_list_add (PySem.F.args_list_add_2 _ _)
    (PyProof.Rows.list_addW a b its.toArray its2.toArray n n2 dd dd2 sl sl2 (by simp only [List.size_toArray]; omega)) ⟨ho, ho2, ?_⟩
  refine ⟨.ref s.heap.objs.size, _, I.laid (t' := s.toks) (o := .lst (xs ++ ys)) (fun b ob q => Heap.get?_push_of_some _ q) (Nat.le_refl _) ?_, rfl, q _ (I.hok.fresh (Nat.le_refl _))⟩
  exact ⟨by rw [List.length_append]; exact hz, its ++ its2, 0, r1.append r2, by rw [← List.append_toArray]; exact Heap.get?_push_size _ rfl⟩
theorem op2_add : Op2 X W (binaryOp .Add) gAdd := fun σ => by
  refine ⟨_, (op_add.or op_catF).or op_catL, fun v u H Q ⟨pa, α, G, d, e, z, hat, hd, he, hg⟩ => ?_⟩
  cases d with
  | int i =>
    cases e with
    | int j =>
      cases hg
      cases hd
      cases he
      exact .inl (.inl ⟨i, j, rfl, rfl, out_d hat.rel hat.res (.int _)⟩)
    | _ => cases hg
  | tuple xs =>
    cases e with
    | tuple ys =>
      simp only [gAdd] at hg
      split at hg
      · rename_i hz
        cases hg
        cases hd with | @tup a vs _ s1 t1 =>
        cases he with | @tup b ws _ s2 t2 =>
        have l1 := t1.length
        have l2 := t2.length
        refine .inl (.inr ⟨a, b, vs, ws, rfl, rfl, hat.rel.le.sqT s1, hat.rel.le.sqT s2, by rw [l1, l2]; exact szOk_le hz, fun e1 => ?_, fun e1 e2 => ?_, fun e1 e2 => out_tup hat.rel hat.res (t1.append t2)⟩)
        · subst e1; cases t1
          exact out_d hat.rel hat.res (.tup s2 t2)
        · subst e2; cases t2
          refine out_d hat.rel hat.res ?_
          rw [List.append_nil]; exact .tup s1 t1
      · cases hg
    | _ => cases hg
  | list xs =>
    cases e with
    | list ys =>
      simp only [gAdd] at hg
      split at hg
      · rename_i hz
        cases hg
        obtain ⟨a, vs, rfl, s1, t1⟩ := hd
        obtain ⟨b, ws, rfl, s2, t2⟩ := he
        have l1 := t1.length
        have l2 := t2.length
        exact .inr ⟨a, b, vs, ws, rfl, rfl, s1, s2, by rw [l1, l2]; exact szOk_le hz, out_lst hat.rel hat.res (t1.append t2)⟩
      · cases hg
    | _ => cases hg
  | _ => cases hg
/-- two ints -/
theorem op2_int {f : Value → Value → Sem Value} {C : Int → Int → Prop} {k : Int → Int → Int} {c : Int → Int → Bool} (ho : OpR X f (rI C fun i j => .int (k i j))) (hc : ∀ i j, c i j = true → C i j) :
    Op2 X W f (fun d e => match d, e with | .int i, .int j => if c i j then some (.fr (.int (k i j))) else none | _, _ => none) := fun σ => by
  refine ⟨_, ho, fun v u H Q ⟨pa, α, G, d, e, z, hat, hd, he, hg⟩ => ?_⟩
  cases d with
  | int i =>
    cases e with
    | int j =>
      simp only at hg
      split at hg
      · rename_i hz
        cases hg
        cases hd
        cases he
        exact ⟨i, j, rfl, rfl, hc i j hz, out_d hat.rel hat.res (.int _)⟩
      · cases hg
    | _ => cases hg
  | _ => cases hg
theorem op2_int0 {f : Value → Value → Sem Value} {k : Int → Int → Int} (ho : OpR X f (rI0 fun i j => .int (k i j))) :
    Op2 X W f (fun d e => match d, e with | .int i, .int j => some (.fr (.int (k i j))) | _, _ => none) := fun σ => by
  refine ⟨_, ho, fun v u H Q ⟨pa, α, G, d, e, z, hat, hd, he, hg⟩ => ?_⟩
  cases d with
  | int i =>
    cases e with
    | int j =>
      cases hg
      cases hd
      cases he
      exact ⟨i, j, rfl, rfl, out_d hat.rel hat.res (.int _)⟩
    | _ => cases hg
  | _ => cases hg
theorem op2_cmp {f : Value → Value → Sem Value} {k : Int → Int → Bool} (ho : OpR X f (rI0 fun i j => .bl (k i j))) :
    Op2 X W f (fun d e => match d, e with | .int i, .int j => some (.fr (.bool (k i j))) | _, _ => none) := fun σ => by
  refine ⟨_, ho, fun v u H Q ⟨pa, α, G, d, e, z, hat, hd, he, hg⟩ => ?_⟩
  cases d with
  | int i =>
    cases e with
    | int j =>
      cases hg
      cases hd
      cases he
      exact ⟨i, j, rfl, rfl, out_d hat.rel hat.res (.bl _)⟩
    | _ => cases hg
  | _ => cases hg
end
def gSub : D → D → Option SV := fun d e => match d, e with | .int i, .int j => some (.fr (.int (i - j))) | _, _ => none
def cDiv (i j : Int) : Bool := decide (0 < j) && decide (j < 1073741824)
def gDiv : D → D → Option SV := fun d e => match d, e with | .int i, .int j => if cDiv i j then some (.fr (.int (i / j))) else none | _, _ => none
def gMod : D → D → Option SV := fun d e => match d, e with | .int i, .int j => if decide (0 < j) then some (.fr (.int (i % j))) else none | _, _ => none
def cPow (i j : Int) : Bool := decide (0 ≤ j) && decide (j ≤ 1000000) && decide (i.natAbs < 18446744073709551616)
def gPow : D → D → Option SV := fun d e => match d, e with | .int i, .int j => if cPow i j then some (.fr (.int (i ^ j.toNat))) else none | _, _ => none
def gLt : D → D → Option SV := fun d e => match d, e with | .int i, .int j => some (.fr (.bool (decide (i < j)))) | _, _ => none
def gLe : D → D → Option SV := fun d e => match d, e with | .int i, .int j => some (.fr (.bool (decide (i ≤ j)))) | _, _ => none
def gGt : D → D → Option SV := fun d e => match d, e with | .int i, .int j => some (.fr (.bool (decide (j < i)))) | _, _ => none
def gGe : D → D → Option SV := fun d e => match d, e with | .int i, .int j => some (.fr (.bool (decide (j ≤ i)))) | _, _ => none
section
variable {X : Cx} {W : WX}
theorem op2_sub : Op2 X W (binaryOp .Sub) gSub := op2_int0 op_sub
theorem op2_div : Op2 X W (binaryOp .FloorDiv) gDiv := op2_int op_fdiv fun i j h => by simp only [cDiv, Bool.and_eq_true, decide_eq_true_eq] at h; exact h
theorem op2_mod : Op2 X W (binaryOp .Mod) gMod := op2_int (c := fun i j => decide (0 < j)) op_mod fun i j h => of_decide_eq_true h
theorem op2_pow : Op2 X W (binaryOp .Pow) gPow := op2_int op_pow fun i j h => by
  simp only [cPow, Bool.and_eq_true, decide_eq_true_eq] at h
  exact ⟨h.1.1, h.1.2, h.2⟩
theorem op2_lt : Op2 X W (compareOp .Lt) gLt := op2_cmp op_lt
theorem op2_le : Op2 X W (compareOp .LtE) gLe := op2_cmp op_le
theorem op2_gt : Op2 X W (compareOp .Gt) gGt := op2_cmp op_gt
theorem op2_ge : Op2 X W (compareOp .GtE) gGe := op2_cmp op_ge
end

/-! ### == != in, not in -/
def shal2 (d e : D) : Bool := shal 60 d || shal 60 e
def gEq : D → D → Option SV := fun d e => if shal2 d e then some (.fr (.bool (PyData.eqv d e))) else none
def gNe : D → D → Option SV := fun d e => if shal2 d e then some (.fr (.bool (!PyData.eqv d e))) else none
def gIn : D → D → Option SV := fun d e => match e with
  | .list ds => if shal2 d e then some (.fr (.bool (ds.any fun y => PyData.eqv y d))) else none
  | .tuple ds => if shal2 d e then some (.fr (.bool (ds.any fun y => PyData.eqv y d))) else none
  | _ => none
def gNotIn : D → D → Option SV := fun d e => match e with
  | .list ds => if shal2 d e then some (.fr (.bool (!ds.any fun y => PyData.eqv y d))) else none
  | .tuple ds => if shal2 d e then some (.fr (.bool (!ds.any fun y => PyData.eqv y d))) else none
  | _ => none
section
variable {X : Cx} {W : WX}
theorem shal2_room {d e : D} (hu : X.A.units + 100 < cLine) (h : shal2 d e = true) : X.A.units + min d.depth e.depth < cLine := by
  simp only [shal2, Bool.or_eq_true] at h
  rcases h with h | h <;> have := shal_depth _ _ h <;> omega
/-- by two told values -/
def rD2 (K : PySem.W.Frag) (g : D → D → Option Bool) : R2 := fun x y H Q => ∃ d e b, Dp K H x d ∧ Dp K H y e ∧ g d e = some b ∧ Q (.bl b) H
theorem op2_D2 {f : Value → Value → Sem Value} {g : D → D → Option Bool} (ho : OpR X f (rD2 X.K g)) : Op2 X W f (fun d e => (g d e).map fun b => .fr (.bool b)) := fun σ => by
  refine ⟨_, ho, fun v u H Q ⟨pa, α, G, d, e, z, hat, hd, he, hg⟩ => ?_⟩
  dsimp only at hg
  cases k : g d e with
  | none => rw [k] at hg; cases hg
  | some b =>
    rw [k] at hg; cases hg
    exact ⟨d, e, b, hd.dp hat.rel.le, he.dp hat.rel.le, k, out_d hat.rel hat.res (.bl b)⟩
theorem op_eqD (hu : X.A.units + 100 < cLine) : OpR X (compareOp .Eq) (rD2 X.K fun d e => if shal2 d e then some (PyData.eqv d e) else none) := by
  intro pins s σ H x y v u Q I rx ry ⟨d, e, b, hd, he, hg, q⟩
  dsimp only at hg
  split at hg
  · rename_i hz
    cases hg
    obtain ⟨as, r1⟩ := Dp.reads I d x v hd rx
    obtain ⟨bs, r2⟩ := Dp.reads I e y u he ry
    exact SeqAt.eq_plain r1 r2 (dp_plain _ _ hd) (dp_plain _ _ he) (shal2_room hu hz) ⟨.bl _, H, I, rfl, q⟩
  · cases hg
theorem op_neD (hu : X.A.units + 100 < cLine) : OpR X (compareOp .NotEq) (rD2 X.K fun d e => if shal2 d e then some (!PyData.eqv d e) else none) := by
  intro pins s σ H x y v u Q I rx ry ⟨d, e, b, hd, he, hg, q⟩
  dsimp only at hg
  split at hg
  · rename_i hz
    cases hg
    obtain ⟨as, r1⟩ := Dp.reads I d x v hd rx
    obtain ⟨bs, r2⟩ := Dp.reads I e y u he ry
    exact SeqAt.ne_plain r1 r2 (dp_plain _ _ hd) (dp_plain _ _ he) (shal2_room hu hz) ⟨.bl _, H, I, rfl, q⟩
  · cases hg
theorem op2_eq (hu : X.A.units + 100 < cLine) : Op2 X W (compareOp .Eq) gEq := by
  have h := op2_D2 (W := W) (op_eqD (X := X) hu)
  have e : (fun d e => ((fun d e => if shal2 d e then some (PyData.eqv d e) else none) d e : Option Bool).map fun b => SV.fr (.bool b)) = gEq := by
    funext d e; unfold gEq; dsimp only; split <;> rfl
  rw [← e]; exact h
theorem op2_ne (hu : X.A.units + 100 < cLine) : Op2 X W (compareOp .NotEq) gNe := by
  have h := op2_D2 (W := W) (op_neD (X := X) hu)
  have e : (fun d e => ((fun d e => if shal2 d e then some (!PyData.eqv d e) else none) d e : Option Bool).map fun b => SV.fr (.bool b)) = gNe := by
    funext d e; unfold gNe; dsimp only; split <;> rfl
  rw [← e]; exact h
theorem in_room {d : D} {ds : List D} {e : D} (he : e.depth = PyData.depthAll ds + 1) (hu : X.A.units + 100 < cLine) (h : shal2 d e = true) : X.A.units + 1 + min (PyData.depthAll ds) d.depth < cLine := by
  simp only [shal2, Bool.or_eq_true] at h
  rcases h with h | h <;> have := shal_depth _ _ h <;> omega
theorem op_inDD (hu : X.A.units + 100 < cLine) : OpR X (compareOp .In) (rD2 X.K fun d e => match e with | .list ds => if shal2 d e then some (ds.any fun y => PyData.eqv y d) else none | .tuple ds => if shal2 d e then some (ds.any fun y => PyData.eqv y d) else none | _ => none) := by
  intro pins s σ H x y v u Q I rx ry ⟨d, e, b, hd, he, hg, q⟩
  obtain ⟨as, r1⟩ := Dp.reads I d x v hd rx
  obtain ⟨bs, r2⟩ := Dp.reads I e y u he ry
  have p1 := dp_plain _ _ hd
  have p2 := dp_plain _ _ he
  cases e with
  | list ds =>
    simp only at hg
    split at hg
    · rename_i hz
      cases hg
      exact SeqAt.in_list_data r2 r1 (by simpa only [PyData.plain] using p2) p1 (in_room (by simp only [PyData.depth]) hu hz) ⟨.bl _, H, I, rfl, q⟩
    · cases hg
  | tuple ds =>
    simp only at hg
    split at hg
    · rename_i hz
      cases hg
      exact SeqAt.in_tuple_data r2 r1 (by simpa only [PyData.plain] using p2) p1 (in_room (by simp only [PyData.depth]) hu hz) ⟨.bl _, H, I, rfl, q⟩
    · cases hg
  | _ => cases hg
theorem op_notInDD (hu : X.A.units + 100 < cLine) : OpR X (compareOp .NotIn) (rD2 X.K fun d e => match e with | .list ds => if shal2 d e then some (!ds.any fun y => PyData.eqv y d) else none | .tuple ds => if shal2 d e then some (!ds.any fun y => PyData.eqv y d) else none | _ => none) := by
  intro pins s σ H x y v u Q I rx ry ⟨d, e, b, hd, he, hg, q⟩
  obtain ⟨as, r1⟩ := Dp.reads I d x v hd rx
  obtain ⟨bs, r2⟩ := Dp.reads I e y u he ry
  have p1 := dp_plain _ _ hd
  have p2 := dp_plain _ _ he
  cases e with
  | list ds =>
    simp only at hg
    split at hg
    · rename_i hz
      cases hg
      exact SeqAt.notIn_list_data r2 r1 (by simpa only [PyData.plain] using p2) p1 (in_room (by simp only [PyData.depth]) hu hz) ⟨.bl _, H, I, rfl, q⟩
    · cases hg
  | tuple ds =>
    simp only at hg
    split at hg
    · rename_i hz
      cases hg
      exact SeqAt.notIn_tuple_data r2 r1 (by simpa only [PyData.plain] using p2) p1 (in_room (by simp only [PyData.depth]) hu hz) ⟨.bl _, H, I, rfl, q⟩
    · cases hg
  | _ => cases hg
theorem op2_in (hu : X.A.units + 100 < cLine) : Op2 X W (compareOp .In) gIn := by
  have h := op2_D2 (W := W) (op_inDD (X := X) hu)
  refine fun σ => (h σ).imp fun r ⟨h1, h2⟩ => ⟨h1, fun v u H Q ⟨pa, α, G, d, e, z, hat, hd, he, hg⟩ => h2 v u H Q ⟨pa, α, G, d, e, z, hat, hd, he, ?_⟩⟩
  cases e <;> simp only [gIn] at hg ⊢ <;> first | exact hg | (split at hg <;> first | (rename_i hz; rw [if_pos hz]; exact hg) | cases hg) | cases hg
theorem op2_notIn (hu : X.A.units + 100 < cLine) : Op2 X W (compareOp .NotIn) gNotIn := by
  have h := op2_D2 (W := W) (op_notInDD (X := X) hu)
  refine fun σ => (h σ).imp fun r ⟨h1, h2⟩ => ⟨h1, fun v u H Q ⟨pa, α, G, d, e, z, hat, hd, he, hg⟩ => h2 v u H Q ⟨pa, α, G, d, e, z, hat, hd, he, ?_⟩⟩
  cases e <;> simp only [gNotIn] at hg ⊢ <;> first | exact hg | (split at hg <;> first | (rename_i hz; rw [if_pos hz]; exact hg) | cases hg) | cases hg
end
end Sx

namespace Sx
open PySem PySem.Spec L2
open Sem (wp)

/-! ### tuple * int, list * int -/
theorem tuple_mul_same (l : Addr) (items : Array Value) (n : Nat) (dd : Option Addr) (sl : Array (Option Value)) (x : Int) (u : Tok) (c0 : (decide (x < -(2 ^ 63)) || decide (x ≥ 2 ^ 63)) = false) (c1 : (items.isEmpty || x == 1) = true) :
    Meets (Builtin.«tuple.__mul__» ⟨[.ref l, .int x u], []⟩) (fun _ R s => s.heap.get? l = some { cls := .type "tuple", dict := dd, data := .seq items n, slots := sl } ∧
      R (.ok (.ret (Value.ref l))) s) :=
  .of_wp fun prog w A R s h => by
    obtain ⟨hp, g, d, tk, os⟩ := s
    obtain ⟨hl, h⟩ := h
    have f1 := AutoSeq1.idx_int
    wp_walk using wpAny_loadPart' hl
    repeat (first
      | (refine wpAny_ite_false (decide_eq_false (by rw [c0]; exact Bool.false_ne_true)) ?_; wp_walk using wpAny_loadPart' hl)
      | (refine wpAny_ite_true (decide_eq_true (by rw [c1])) ?_; wp_walk using wpAny_loadPart' hl))
    exact ⟨_, rfl, h⟩
theorem tuple_mul_none (l : Addr) (items : Array Value) (n : Nat) (dd : Option Addr) (sl : Array (Option Value)) (x : Int) (u : Tok) (c0 : (decide (x < -(2 ^ 63)) || decide (x ≥ 2 ^ 63)) = false) (c1 : (items.isEmpty || x == 1) = false) (c2 : (decide (x ≤ 0) || items.isEmpty) = true) :
    Meets (Builtin.«tuple.__mul__» ⟨[.ref l, .int x u], []⟩) (fun _ R s => s.heap.get? l = some { cls := .type "tuple", dict := dd, data := .seq items n, slots := sl } ∧
      R (.ok (.ret (Value.ref s.heap.objs.size))) { s with heap := s.heap.push { cls := Value.type "tuple", data := Data.seq #[] }, toks := s.toks }) :=
  .of_wp fun prog w A R s h => by
    obtain ⟨hp, g, d, tk, os⟩ := s
    obtain ⟨hl, h⟩ := h
    have f1 := AutoSeq1.idx_int
    wp_walk using wpAny_loadPart' hl
    repeat (first
      | (refine wpAny_ite_false (decide_eq_false (by rw [c0]; exact Bool.false_ne_true)) ?_; wp_walk using wpAny_loadPart' hl)
      | (refine wpAny_ite_false (decide_eq_false (by rw [c1]; exact Bool.false_ne_true)) ?_; wp_walk using wpAny_loadPart' hl)
      | (refine wpAny_ite_true (decide_eq_true (by rw [c2])) ?_; wp_walk using wpAny_loadPart' hl))
    exact ⟨_, rfl, h⟩

section
variable {X : Cx} {W : WX}
/-- t * k: t itself, or a new tuple -/
def rRepA (K : PySem.W.Frag) : R2 := fun x y H Q => ∃ l k xs, x = .ref l ∧ y = .int k ∧ SqT K H l xs ∧ -1000000 ≤ k ∧ k ≤ 1000 ∧ xs.length ≤ 1000 ∧
  (xs = [] ∨ k = 1 → Q (.ref l) H) ∧ (¬ (xs = [] ∨ k = 1) → NT Q H (List.replicate k.toNat xs).flatten)
theorem op_repA : OpR X (binaryOp .Mult) (rRepA X.K) := by
  intro pins s σ H x y v u Q I rx ry h
  obtain ⟨l, k, xs, rfl, rfl, hT, h1, h2, hz, q1, q2⟩ := h
  cases rx
  obtain ⟨t, rfl⟩ := ry
  obtain ⟨its, r, ⟨⟨cls, dd, data, sl⟩, ho, hc, n, hd⟩, hs⟩ := I.tuple hT
  simp only at hc hd
  subst hc hd
  have hle : its.length = xs.length := r.length.symm
  have c0 : (decide (k < -(2 ^ 63)) || decide (k ≥ 2 ^ 63)) = false := by
    rw [decide_eq_false (by omega), decide_eq_false (by omega)] <;> rfl
  have hemp : its.toArray.isEmpty = xs.isEmpty := by
    cases r <;> simp
  refine wpAny_binaryOp_repeat_ref (T := "tuple") (U := "int") (by decide) ⟨_, ho, rfl⟩ (fun s' => typeIs_int s' k t) noFill_tuple_mul F.fills_int_mul F.slot_int_rmul repeat_tuple F.slot_int_index.lookup
    (call_meets F.slot_int_rmul (typeIs_int s k t) F.entry_int_rmul (F.args_int_rmul_2 _ _) (int_rmul_tuple k t l its.toArray n dd sl) ⟨ho, rfl, ⟨_, ho, rfl⟩, ?_⟩)
  by_cases hbig : xs ≠ [] ∧ 2 ≤ k
  · obtain ⟨b1, b2⟩ := hbig
    have e1 : its.toArray.isEmpty = false := by
      rw [hemp]; cases xs with
      | nil => exact absurd rfl b1
      | cons _ _ => rfl
    have pr : k.toNat * xs.length ≤ 1000000 := by have : k.toNat ≤ 1000 := by omega
                                                  exact Nat.mul_le_mul this hz
    have pi : ((its.toArray.size : Nat) : Int) * k ≤ 1000000 := by
      have ek : k = ((k.toNat : Nat) : Int) := by omega
      have e3 : ((its.toArray.size : Nat) : Int) * k = ((k.toNat * xs.length : Nat) : Int) := by
        rw [List.size_toArray, hle, Int.mul_comm, Int.natCast_mul, ← ek]
      rw [e3]
      exact Int.ofNat_le.mpr pr
    have fl : (List.replicate k.toNat its).flatten.length ≤ sizeLine := by
      rw [PyProof.Rows.lm_len_rep_flat, hle, sizeLine_eq]; omega
    refine call_meets F.slot_tuple_mul ⟨_, ho, rfl⟩ F.entry_tuple_mul (F.args_tuple_mul_2 _ _) (tuple_mulW l its.toArray n dd sl k t c0 ?_ ?_ (by omega) ?_ ?_) ⟨ho, ?_⟩
    · rw [e1]; exact beq_eq_false_iff_ne.mpr (by omega)
    · rw [e1, decide_eq_false (show ¬ k ≤ 0 by omega)]; rfl
    · unfold Builtin.Tuple.tupleTooMany; rw [sizeLine_eq]; exact decide_eq_false (by omega)
    · rw [size_rep, List.size_toArray]; exact fl
    · rw [size_rep]
      exact NT.ends (its := (List.replicate k.toNat its).flatten) I (r.rep k.toNat) (by rw [PyProof.Rows.lm_len_rep_flat, sizeLine_eq]; omega) (q2 (by rintro (e | e); exact b1 e; omega))
  by_cases hsame : xs = [] ∨ k = 1
  · have c1 : (its.toArray.isEmpty || k == 1) = true := by
      rw [hemp]
      rcases hsame with e | e
      · subst e; rfl
      · subst e; simp
    exact call_meets F.slot_tuple_mul ⟨_, ho, rfl⟩ F.entry_tuple_mul (F.args_tuple_mul_2 _ _) (tuple_mul_same l its.toArray n dd sl k t c0 c1) ⟨ho, ⟨.ref l, H, I, rfl, q1 hsame⟩⟩
  · have hx : xs ≠ [] := fun e => hsame (.inl e)
    have hk : k ≤ 0 := by
      by_cases c : 2 ≤ k
      · exact absurd ⟨hx, c⟩ hbig
      · have : k ≠ 1 := fun e => hsame (.inr e)
        omega
    have c1 : (its.toArray.isEmpty || k == 1) = false := by
      rw [hemp]
      cases xs with
      | nil => exact absurd rfl hx
      | cons a b =>
        show (false || k == 1) = false
        rw [Bool.false_or]; exact beq_eq_false_iff_ne.mpr (by omega)
    have c2 : (decide (k ≤ 0) || its.toArray.isEmpty) = true := by rw [decide_eq_true hk]; rfl
    refine call_meets F.slot_tuple_mul ⟨_, ho, rfl⟩ F.entry_tuple_mul (F.args_tuple_mul_2 _ _) (tuple_mul_none l its.toArray n dd sl k t c0 c1 c2) ⟨ho, ?_⟩
    have e0 : (List.replicate k.toNat xs).flatten = [] := by rw [show k.toNat = 0 by omega]; rfl
    have q := q2 hsame
    rw [e0] at q
    exact NT.ends (its := []) I .nil (Nat.zero_le _) q
/-- l * k -/
def rRepL (K : PySem.W.Frag) : R2 := fun x y H Q => ∃ l k xs, x = .ref l ∧ y = .int k ∧ SqL K H l xs ∧ -1000000 ≤ k ∧ k ≤ 1000 ∧ xs.length ≤ 1000 ∧ ∀ p, H p = none → Q (.ref p) (upd H p (.lst (List.replicate k.toNat xs).flatten))
theorem op_repL : OpR X (binaryOp .Mult) (rRepL X.K) := by
  intro pins s σ H x y v u Q I rx ry h
  obtain ⟨l, k, xs, rfl, rfl, hT, h1, h2, hz, q⟩ := h
  cases rx
  obtain ⟨t, rfl⟩ := ry
  obtain ⟨its, r, ⟨⟨cls, dd, data, sl⟩, n, ho, hc, hdn, hd⟩, hs⟩ := I.list hT
  simp only at hc hd
  subst hc hd
  have hle : its.length = xs.length := r.length.symm
  have hm : its.toArray.size * k.toNat ≤ 1000 * 1000 := by rw [List.size_toArray]; exact Nat.mul_le_mul (by omega) (by omega)
  have flen : (List.replicate k.toNat xs).flatten.length ≤ sizeLine := by
    rw [PyProof.Rows.lm_len_rep_flat, sizeLine_eq]
    have a1 : k.toNat * xs.length ≤ 1000 * 1000 := Nat.mul_le_mul (by omega) hz
    omega
  refine wpAny_binaryOp_repeat_ref (T := "list") (U := "int") (by decide) ⟨_, ho, rfl⟩ (fun s' => typeIs_int s' k t) noFill_list_mul F.fills_int_mul F.slot_int_rmul repeat_list F.slot_int_index.lookup
    (call_meets F.slot_int_rmul (typeIs_int s k t) F.entry_int_rmul (F.args_int_rmul_2 _ _) (lm_int_rmul_list_any k t l its.toArray n dd sl) ⟨ho, rfl, ⟨_, ho, rfl⟩, ?_⟩)
  have c0 : ¬(!Builtin.List.listFitsIndex k) = true := by
    unfold Builtin.List.listFitsIndex
    simp; omega
  have c2 : ¬Builtin.List.listTooLong (its.toArray.size * k.toNat) = true := by
    simp only [Builtin.List.listTooLong, decide_eq_true_eq]; rw [sizeLine_eq]; omega
  refine call_meets F.slot_list_mul ⟨_, ho, rfl⟩ F.entry_list_mul (F.args_list_mul_2 _ _) (lm_list_mul_any l its.toArray n dd sl k t c0 (by omega) c2) ⟨ho, ?_⟩
  have e : List.foldl (fun x1 x2 => x1 ++ x2) #[] (List.replicate (if its.toArray.isEmpty = true then 0 else k.toNat) its.toArray) = (List.replicate k.toNat its).flatten.toArray := by
    cases its with
    | nil => simp
    | cons a b => exact size_rep (a :: b) k.toNat
  rw [e]
  exact ⟨.ref s.heap.objs.size, _, I.laid (t' := s.toks) (o := .lst (List.replicate k.toNat xs).flatten) (fun b ob q => Heap.get?_push_of_some _ q) (Nat.le_refl _) ⟨flen, _, 0, r.rep k.toNat, Heap.get?_push_size _ rfl⟩, rfl, q _ (I.hok.fresh (Nat.le_refl _))⟩
end
def cMul (i j : Int) : Bool := decide (i.natAbs < 18446744073709551616) || decide (j.natAbs < 18446744073709551616)
def cRep (n : Nat) (k : Int) : Bool := decide (-1000000 ≤ k) && decide (k ≤ 1000) && Nat.ble n 1000
def gMul : D → D → Option SV
  | .int i, .int j => if cMul i j then some (.fr (.int (i * j))) else none
  | .tuple xs, .int k => if cRep xs.length k then some (.fr (.tuple (List.replicate k.toNat xs).flatten)) else none
  | .list xs, .int k => if cRep xs.length k then some (.ol (List.replicate k.toNat xs).flatten) else none
  | _, _ => none
theorem dpAll_rep {K : PySem.W.Frag} {G : Hp} {vs : List V} {ds : List D} (h : DpAll K G vs ds) : ∀ n : Nat, DpAll K G (List.replicate n vs).flatten (List.replicate n ds).flatten
  | 0 => .nil
  | n + 1 => by
    rw [List.replicate_succ, List.replicate_succ, List.flatten_cons, List.flatten_cons]
    exact h.append (dpAll_rep h n)
section
variable {X : Cx} {W : WX}
theorem cMul_ok {i j : Int} (h : cMul i j = true) : CMul i j := by
  simp only [cMul, Bool.or_eq_true, decide_eq_true_eq] at h
  rcases h with h | h
  · exact .inl ⟨by omega, by omega⟩
  · exact .inr ⟨by omega, by omega⟩
theorem op2_mul : Op2 X W (binaryOp .Mult) gMul := fun σ => by
  refine ⟨_, (op_mul.or op_repA).or op_repL, fun v u H Q ⟨pa, α, G, d, e, z, hat, hd, he, hg⟩ => ?_⟩
  cases e with
  | int k =>
    cases d with
    | int i =>
      simp only [gMul] at hg
      split at hg
      · rename_i hz
        cases hg
        cases hd
        cases he
        exact .inl (.inl ⟨i, k, rfl, rfl, cMul_ok hz, out_d hat.rel hat.res (.int _)⟩)
      · cases hg
    | tuple xs =>
      simp only [gMul] at hg
      split at hg
      · rename_i hz
        simp only [cRep, Bool.and_eq_true, decide_eq_true_eq] at hz
        have hz3 := Nat.le_of_ble_eq_true hz.2
        cases hg
        cases hd with | @tup a vs _ s1 t1 =>
        cases he
        have l1 := t1.length
        refine .inl (.inr ⟨a, k, vs, rfl, rfl, hat.rel.le.sqT s1, hz.1.1, hz.1.2, by omega, fun e1 => ?_, fun e1 => out_tup hat.rel hat.res (dpAll_rep t1 _)⟩)
        refine out_d hat.rel hat.res ?_
        rcases e1 with e1 | e1
        · subst e1
          cases t1
          rw [show (List.replicate k.toNat ([] : List D)).flatten = [] by simp]
          exact .tup s1 .nil
        · subst e1
          rw [show (List.replicate (1 : Int).toNat xs).flatten = xs by simp]
          exact .tup s1 t1
      · cases hg
    | list xs =>
      simp only [gMul] at hg
      split at hg
      · rename_i hz
        simp only [cRep, Bool.and_eq_true, decide_eq_true_eq] at hz
        have hz3 := Nat.le_of_ble_eq_true hz.2
        cases hg
        obtain ⟨a, vs, rfl, s1, t1⟩ := hd
        cases he
        have l1 := t1.length
        exact .inr ⟨a, k, vs, rfl, rfl, s1, hz.1.1, hz.1.2, by omega, out_lst hat.rel hat.res (dpAll_rep t1 _)⟩
      · cases hg
    | _ => cases hg
  | _ => cases d <;> cases hg
end
end Sx

namespace Sx
open PySem PySem.Spec L2

/-! ### tests -/
def bE (f : EF) : BF := fun s => (f s).bind fun x s1 => match x with
  | .fr (.bool b) => .ok b s1
  | _ => .no
/-- truth of told data -/
def truD : D → Option Bool
  | .none => some false
  | .bool b => some b
  | .int i => some (i != 0)
  | .list ds => some (!ds.isEmpty)
  | .tuple ds => some (!ds.isEmpty)
  | _ => none
def bT (f : EF) : BF := fun s => (f s).bind fun x s1 => match rdv s1 x with
  | some d => match truD d with
    | some b => .ok b s1
    | none => .no
  | none => .no
def bNot (f : BF) : BF := fun s => (f s).bind fun b s1 => .ok (!b) s1
def bAnd (f g : BF) : BF := fun s => (f s).bind fun b s1 => bif b then g s1 else .ok false s1
def bOr (f g : BF) : BF := fun s => (f s).bind fun b s1 => bif b then .ok true s1 else g s1
def eNot (f : EF) : EF := fun s => (f s).bind fun x s1 => match x with
  | .fr (.bool b) => .ok (.fr (.bool (!b))) s1
  | _ => .no
def eAnd (f g : EF) : EF := fun s => (f s).bind fun x s1 => match x with
  | .fr (.bool b) => bif b then g s1 else .ok (.fr (.bool false)) s1
  | _ => .no
def eOr (f g : EF) : EF := fun s => (f s).bind fun x s1 => match x with
  | .fr (.bool b) => bif b then .ok (.fr (.bool true)) s1 else g s1
  | _ => .no
def eIf (c : BF) (f g : EF) : EF := fun s => (c s).bind fun b s1 => bif b then f s1 else g s1
section
variable {C : Ct} {mg : Str → Option Value} {W : WX} {α α1 : AS} {σ : St} {G G1 H H1 : Hp}
def MidB (C : Ct) (mg : Str → Option Value) (W : WX) (σ : St) (α : AS) (G H : Hp) (f : R SV) (k : SV → AS → R Bool) (Q : Bool → Hp → Prop) (v : V) (H1 : Hp) : Prop :=
  ∃ x α1 G1, f = .ok x α1 ∧ Rel C α1 σ G1 H1 ∧ Step C α σ G H α1 σ G1 H1 ∧ ValV C α1 σ G1 H1 x v ∧ NewV H x v ∧ ResB C mg W σ α1 G1 H1 (k x α1) Q
theorem Res.midB {f : R SV} {k : SV → AS → R Bool} {Q : Bool → Hp → Prop} (h : ResB C mg W σ α G H (f.bind k) Q) : Res C mg W σ α G H f (MidB C mg W σ α G H f k Q) := by
  cases f with
  | ok y α' => exact fun v G' H' rel st rv nv => ⟨y, α', G', rfl, rel, st, rv, nv, ResB.shift st h⟩
  | ex e α' => exact h
  | no => exact h
theorem ResB.midB {f : R Bool} {k : Bool → AS → R Bool} {Q : Bool → Hp → Prop} (h : ResB C mg W σ α G H (f.bind k) Q) :
    ResB C mg W σ α G H f fun b H1 => ∃ α1 G1, f = .ok b α1 ∧ Rel C α1 σ G1 H1 ∧ Step C α σ G H α1 σ G1 H1 ∧ ResB C mg W σ α1 G1 H1 (k b α1) Q := by
  cases f with
  | ok y α' => exact fun G' H' rel st => ⟨α', G', rfl, rel, st, ResB.shift st h⟩
  | ex e α' => exact h
  | no => exact h
theorem ResB.midE {f : R Bool} {k : Bool → AS → R SV} {Q : VK} (h : Res C mg W σ α G H (f.bind k) Q) :
    ResB C mg W σ α G H f fun b H1 => ∃ α1 G1, f = .ok b α1 ∧ Rel C α1 σ G1 H1 ∧ Step C α σ G H α1 σ G1 H1 ∧ Res C mg W σ α1 G1 H1 (k b α1) Q := by
  cases f with
  | ok y α' => exact fun G' H' rel st => ⟨α', G', rfl, rel, st, Res.shift st h⟩
  | ex e α' => exact h
  | no => exact h
theorem ResB.mono {r : R Bool} {Q Q' : Bool → Hp → Prop} (h : ResB C mg W σ α G H r Q) (hq : ∀ b H, Q b H → Q' b H) : ResB C mg W σ α G H r Q' := by
  cases r with
  | ok y α' => exact fun G' H' rel st => hq _ _ (h G' H' rel st)
  | ex e α' => exact h
  | no => exact h
end
section
variable {X : Cx} {W : WX} {a b c e : Expr} {rest : List Expr} {fa fb fc : EF} {ga gb : BF} {pos : Pos} {σ : St} {H : Hp}
theorem t_bE {Q : Bool → Hp → Prop} (h : tB X W (bE fa) σ H Q) : tE X W fa σ H fun v H1 => ∃ k, v = .bl k ∧ Q k H1 := by
  obtain ⟨pa, α, G, rel, h⟩ := h
  refine ⟨pa, α, G, rel, (Res.midB h).mono fun v H1 ⟨x, α1, G1, _, rel1, st1, rv, nv, r⟩ => ?_⟩
  cases x with
  | fr d =>
    cases d with
    | bool b => cases rv; exact ⟨b, rfl, r G1 H1 rel1 Step.refl⟩
    | _ => exact r.elim
  | _ => exact r.elim
theorem st_cmp {op : CmpOp} {g : D → D → Option SV} (ho : Op2 X W (compareOp op) g) (ha : SE X W a fa) (hb : SE X W b fb) (hm : behindInMarks op b = false) : ST X W (.Compare a [op] [b] pos) (bE (op2 g fa fb)) := by
  refine ⟨fun pins s σ H Q I h => ?_⟩
  refine wpAny_isTrue_Compare1 (binT ha hb I (t_op2 (t_bE h)) fun v u s2 x y H2 I2 rx ry q => thn (opr_run ho I2 rx ry q) fun w s3 ⟨z, H3, I3, r3, k, e, q3⟩ => ?_) hm
  subst e
  cases r3
  exact wpAny_truthy_bool ⟨H3, I3, q3⟩
theorem truD_ok {K : PySem.W.Frag} {G H : Hp} {v : V} {d : D} {k : Bool} (hl : Le G H) (h : RdD K G H v d) (e : truD d = some k) : TruV K v H k := by
  cases d with
  | none => cases h; cases e; rfl
  | bool b => cases h; cases e; rfl
  | int i => cases h; cases e; rfl
  | list ds =>
    obtain ⟨a, vs, rfl, s1, t1⟩ := h
    cases e
    refine .inl ⟨vs, s1, ?_⟩
    cases t1 <;> rfl
  | tuple ds =>
    cases h with | tup s1 t1 =>
    cases e
    refine .inr (.inl ⟨_, hl.sqT s1, ?_⟩)
    cases t1 <;> rfl
  | _ => cases e
theorem st_truth (ha : SE X W a fa) (he : ∀ whole, isTrue a X.env whole = (do let v ← whole; standAt a.pos; holding [v] (truthy v))) : ST X W a (bT fa) := by
  refine (pt_truth ha he).conseq fun σ H Q ⟨pa, α, G, rel, h⟩ => ?_
  refine ⟨pa, α, G, rel, (Res.midB h).mono fun v H1 ⟨x, α1, G1, _, rel1, st1, rv, nv, r⟩ => ?_⟩
  cases e1 : rdv α1 x with
  | none => simp only [e1] at r; exact r.elim
  | some d =>
    simp only [e1] at r
    cases e2 : truD d with
    | none => simp only [e2] at r; exact r.elim
    | some k =>
      simp only [e2] at r
      exact ⟨k, truD_ok rel1.le (rdv_ok rel1 rv e1) e2, r G1 H1 rel1 Step.refl⟩
theorem st_not (ha : ST X W a ga) : ST X W (.UnaryOp .Not a pos) (bNot ga) := (pt_not ha).conseq fun σ H Q ⟨pa, α, G, rel, h⟩ =>
  ⟨pa, α, G, rel, (ResB.midB h).mono fun b H1 ⟨α1, G1, _, rel1, st1, r⟩ => r G1 H1 rel1 Step.refl⟩
/-- and, or: any whole -/
abbrev SW (X : Cx) (W : WX) (e : Expr) (f : BF) : Prop := PW X e (tB X W f)
theorem sw_pt (h : SW X W e ga) : ST X W e ga := h.pt
theorem sw_and1 (ha : ST X W a ga) : SW X W (.BoolOp .And [a] pos) ga := pw_and1 ha
theorem sw_or1 (ha : ST X W a ga) : SW X W (.BoolOp .Or [a] pos) ga := pw_or1 ha
theorem sw_and (ha : ST X W a ga) (hb : SW X W (.BoolOp .And (b :: rest) pos) gb) : SW X W (.BoolOp .And (a :: b :: rest) pos) (bAnd ga gb) := (pw_and ha hb).conseq fun σ H Q ⟨pa, α, G, rel, h⟩ => by
  refine ⟨pa, α, G, rel, (ResB.midB h).mono fun b H1 ⟨α1, G1, _, rel1, st1, r⟩ => ?_⟩
  cases b with
  | true => rw [if_pos rfl]; exact ⟨pa, α1, G1, rel1, r⟩
  | false => rw [if_neg Bool.false_ne_true]; exact r G1 H1 rel1 Step.refl
theorem sw_or (ha : ST X W a ga) (hb : SW X W (.BoolOp .Or (b :: rest) pos) gb) : SW X W (.BoolOp .Or (a :: b :: rest) pos) (bOr ga gb) := (pw_or ha hb).conseq fun σ H Q ⟨pa, α, G, rel, h⟩ => by
  refine ⟨pa, α, G, rel, (ResB.midB h).mono fun b H1 ⟨α1, G1, _, rel1, st1, r⟩ => ?_⟩
  cases b with
  | true => rw [if_pos rfl]; exact r G1 H1 rel1 Step.refl
  | false => rw [if_neg Bool.false_ne_true]; exact ⟨pa, α1, G1, rel1, r⟩
theorem se_not (ha : SE X W a fa) : SE X W (.UnaryOp .Not a pos) (eNot fa) := (pe_not ha).conseq fun σ H Q ⟨pa, α, G, rel, h⟩ => by
  refine ⟨pa, α, G, rel, (Res.mid h).mono fun v H1 ⟨x, α1, G1, _, rel1, st1, rv, nv, r⟩ => ?_⟩
  cases x with
  | fr d =>
    cases d with
    | bool b => cases rv; exact ⟨b, rfl, out_d rel1 r (.bl _)⟩
    | _ => exact r.elim
  | _ => exact r.elim
theorem se_one {op : BoolOp} (ha : SE X W a fa) : SE X W (.BoolOp op [a] pos) fa := pe_one ha
theorem se_and (ha : SE X W a fa) (hb : SE X W (.BoolOp .And (b :: rest) pos) fb) : SE X W (.BoolOp .And (a :: b :: rest) pos) (eAnd fa fb) := (pe_and ha hb).conseq fun σ H Q ⟨pa, α, G, rel, h⟩ => by
  refine ⟨pa, α, G, rel, (Res.mid h).mono fun v H1 ⟨x, α1, G1, _, rel1, st1, rv, nv, r⟩ => ?_⟩
  cases x with
  | fr d =>
    cases d with
    | bool b =>
      cases rv
      refine ⟨b, rfl, ?_⟩
      cases b with
      | true => rw [if_pos rfl]; exact ⟨pa, α1, G1, rel1, r⟩
      | false => rw [if_neg Bool.false_ne_true]; exact out_d rel1 r (.bl _)
    | _ => exact r.elim
  | _ => exact r.elim
theorem se_or (ha : SE X W a fa) (hb : SE X W (.BoolOp .Or (b :: rest) pos) fb) : SE X W (.BoolOp .Or (a :: b :: rest) pos) (eOr fa fb) := (pe_or ha hb).conseq fun σ H Q ⟨pa, α, G, rel, h⟩ => by
  refine ⟨pa, α, G, rel, (Res.mid h).mono fun v H1 ⟨x, α1, G1, _, rel1, st1, rv, nv, r⟩ => ?_⟩
  cases x with
  | fr d =>
    cases d with
    | bool b =>
      cases rv
      refine ⟨b, rfl, ?_⟩
      cases b with
      | true => rw [if_pos rfl]; exact out_d rel1 r (.bl _)
      | false => rw [if_neg Bool.false_ne_true]; exact ⟨pa, α1, G1, rel1, r⟩
    | _ => exact r.elim
  | _ => exact r.elim
theorem se_if (hc : ST X W c ga) (ha : SE X W a fa) (hb : SE X W b fb) : SE X W (.IfExp c a b pos) (eIf ga fa fb) := (pe_ifExp hc ha hb).conseq fun σ H Q ⟨pa, α, G, rel, h⟩ => by
  refine ⟨pa, α, G, rel, (ResB.midE h).mono fun b H1 ⟨α1, G1, _, rel1, st1, r⟩ => ?_⟩
  cases b with
  | true => rw [if_pos rfl]; exact ⟨pa, α1, G1, rel1, r⟩
  | false => rw [if_neg Bool.false_ne_true]; exact ⟨pa, α1, G1, rel1, r⟩
end

/-! ### a minus ahead, is None -/
def gNeg : D → Option SV
  | .int i => some (.fr (.int (-i)))
  | _ => none
def gIsN (neg : Bool) : D → Option SV := fun d => some (.fr (.bool (match d with | .none => !neg | _ => neg)))
section
variable {X : Cx} {W : WX} {a : Expr} {fa : EF} {pos pos' : Pos} {j : Nat}
theorem rdD_non {K : PySem.W.Frag} {G H : Hp} {v : V} {d : D} (h : RdD K G H v d) : decide (v = .non) = (match d with | .none => true | _ => false) := by
  cases d with
  | list ds => obtain ⟨a, vs, rfl, _⟩ := h; rfl
  | none => cases h; rfl
  | bool b => cases h; rfl
  | int b => cases h; rfl
  | str b => cases h; rfl
  | tuple b => cases h; rfl
  | dict b => cases h
theorem se_neg (ha : SE X W a fa) : SE X W (.UnaryOp .USub a pos) (op1 gNeg fa) := by
  refine ⟨fun pins s σ H Q I h => ?_⟩
  refine PyProof.Rows.UnaryOp_ (thn (ha.run pins s σ H _ I (t_op1 h)) fun v s1 ⟨x, H1, I1, r1, pa, α, G, d, z, hat, hd, hg⟩ => ?_)
  cases d with
  | int i =>
    cases hg
    cases hd
    exact un_neg pins s1 σ H1 _ v Q I1 r1 ⟨i, rfl, out_d hat.rel hat.res (.int _)⟩
  | _ => cases hg
theorem isN_out {neg : Bool} {v : V} {σ : St} {H : Hp} {Q : VK} (h : T1 X W (gIsN neg) σ v H Q) : Q (.bl (bif neg then !decide (v = .non) else decide (v = .non))) H := by
  obtain ⟨pa, α, G, d, z, hat, hd, hg⟩ := h
  cases hg
  have e := rdD_non hd
  rw [e]
  have := out_d hat.rel hat.res (.bl _)
  cases d <;> cases neg <;> exact this
theorem se_isN (ha : SE X W a fa) : SE X W (.Compare a [.Is] [.Constant .none j pos'] pos) (op1 (gIsN false) fa) := (pe_cmp (pc_isN ha)).conseq fun σ H Q h => by
  obtain ⟨pa, α, G, rel, r⟩ := t_op1 h
  exact ⟨pa, α, G, rel, r.mono fun v H1 q => isN_out q⟩
theorem se_notN (ha : SE X W a fa) : SE X W (.Compare a [.IsNot] [.Constant .none j pos'] pos) (op1 (gIsN true) fa) := (pe_cmp (pc_notN ha)).conseq fun σ H Q h => by
  obtain ⟨pa, α, G, rel, r⟩ := t_op1 h
  exact ⟨pa, α, G, rel, r.mono fun v H1 q => isN_out q⟩
theorem st_isN (ha : SE X W a fa) : ST X W (.Compare a [.Is] [.Constant .none j pos'] pos) (bE (op1 (gIsN false) fa)) := (pt_cmp (pc_isN ha)).conseq fun σ H Q h => by
  obtain ⟨pa, α, G, rel, r⟩ := t_op1 (t_bE h)
  exact ⟨pa, α, G, rel, r.mono fun v H1 q => isN_out q⟩
theorem st_notN (ha : SE X W a fa) : ST X W (.Compare a [.IsNot] [.Constant .none j pos'] pos) (bE (op1 (gIsN true) fa)) := (pt_cmp (pc_notN ha)).conseq fun σ H Q h => by
  obtain ⟨pa, α, G, rel, r⟩ := t_op1 (t_bE h)
  exact ⟨pa, α, G, rel, r.mono fun v H1 q => isN_out q⟩
end

/-! ### displays -/
def eTup (f : AF) : EF := fun s => (f s) |> fun r => match r with
  | .ok xs s1 => match datsOf xs with
    | some ds => if szOk ds.length then .ok (.fr (.tuple ds)) s1 else .no
    | none => .no
  | .ex e s1 => .ex e s1
  | .no => .no
where datsOf : List SV → Option (List D)
  | [] => some []
  | .fr d :: r => match nod d with
    | some d => match datsOf r with
      | some ds => some (d :: ds)
      | none => none
    | none => none
  | _ => none
def eLst (f : AF) : EF := fun s => match f s with
  | .ok xs s1 => match eTup.datsOf xs with
    | some ds => if szOk ds.length then .ok (.ol ds) s1 else .no
    | none => .no
  | .ex e s1 => .ex e s1
  | .no => .no
section
variable {X : Cx} {W : WX} {es : List Expr} {f : AF} {pos : Pos}
theorem args_dats {C : Ct} {α : AS} {G : Hp} : ∀ {xs : List SV} {vs : List V} {ds : List D}, ArgsV C α G xs vs → eTup.datsOf xs = some ds → DpAll C.K G vs ds
  | [], _, _, h, e => by cases h; cases e; exact .nil
  | .fr d :: r, _, _, h, e => by
    cases h with | cons h1 h2 =>
    simp only [eTup.datsOf] at e
    cases q0 : nod d with
    | none => rw [q0] at e; cases e
    | some d' =>
    rw [q0] at e
    obtain ⟨rfl, nd⟩ := nod_eq q0
    simp only at e
    cases q : eTup.datsOf r with
    | none => rw [q] at e; cases e
    | some ds' => rw [q] at e; cases e; exact .cons (FrV.dp h1 nd) (args_dats h2 q)
  | .ol _ :: _, _, _, _, e => by simp [eTup.datsOf] at e
  | .od _ :: _, _, _, _, e => by simp [eTup.datsOf] at e
  | .bor _ :: _, _, _, _, e => by simp [eTup.datsOf] at e
  | .pen :: _, _, _, _, e => by simp [eTup.datsOf] at e
def tTupF (ta : TA) : TE := fun σ H Q => ta σ H fun xs H1 => xs.length ≤ sizeLine ∧ NT Q H1 xs
theorem pe_tupF {x1 : Nat} {ta : TA} (h : PA X es ta) : PE X (.Tuple es x1 pos) (tTupF ta) := by
  refine ⟨fun pins s σ H Q I hq => ?_⟩
  refine wpAny_Tuple_spliced ?_
  refine thn (h.run pos pins s σ H _ I hq) fun us s1 ⟨xs, H1, I1, r, z, q⟩ => ?_
  exact ⟨by rw [← r.length]; exact z, NT.ends I1 r z q⟩
theorem se_tup {x1 : Nat} (h : SA X W es f) : SE X W (.Tuple es x1 pos) (eTup f) := (pe_tupF h).conseq fun σ H Q ⟨pa, α, G, rel, r⟩ => by
  refine ⟨pa, α, G, rel, ?_⟩
  unfold eTup at r
  cases e : f α with
  | no => simp only [e] at r; exact r
  | ex x α' => simp only [e] at r; exact r
  | ok xs α1 =>
    simp only [e] at r
    cases e2 : eTup.datsOf xs with
    | none => simp only [e2] at r; exact r.elim
    | some ds =>
      simp only [e2] at r
      split at r
      · rename_i hz
        intro vs G1 H1 rel1 st1 av
        have dp := args_dats av e2
        have l := dp.length
        exact ⟨by rw [l]; exact szOk_le hz, out_tup rel1 (Res.shift st1 r) dp⟩
      · exact r.elim
theorem se_lst (h : SA X W es f) : SE X W (.List es pos) (eLst f) := (pe_lst h).conseq fun σ H Q ⟨pa, α, G, rel, r⟩ => by
  refine ⟨pa, α, G, rel, ?_⟩
  unfold eLst at r
  cases e : f α with
  | no => simp only [e] at r; exact r
  | ex x α' => simp only [e] at r; exact r
  | ok xs α1 =>
    simp only [e] at r
    cases e2 : eTup.datsOf xs with
    | none => simp only [e2] at r; exact r.elim
    | some ds =>
      simp only [e2] at r
      split at r
      · rename_i hz
        intro vs G1 H1 rel1 st1 av
        have dp := args_dats av e2
        have l := dp.length
        exact ⟨by rw [l]; exact szOk_le hz, out_lst rel1 (Res.shift st1 r) dp⟩
      · exact r.elim
end
end Sx

namespace Sx
open PySem PySem.Spec L2
open PyProof.Rows hiding St
open Sem (wp)

/-! ### calls of built-ins with one argument -/
def C1 (X : Cx) (W : WX) (f : Value) (g : D → Option SV) : Prop := ∀ (pins : List (Addr × Obj)) (s : Shared) (σ : St) (H : Hp) (x : V) (v : Value) (Q : VK), L2.Inv X pins σ H s → RelV x v → T1 X W g σ x H Q →
  wpAny (model X.prog X.w) X.A (call f [v]) (EP X pins σ Q) X.xe s
section
variable {X : Cx} {W : WX} {e : Expr} {f : EF} {x : Str} {p pos : Pos} {g : D → Option SV} {id T : String}
theorem one_arg {pins : List (Addr × Obj)} {s : Shared} {σ : St} {H : Hp} {Q : VK} (he : SE X W e f) (I : L2.Inv X pins σ H s) (h : tE X W (op1 g f) σ H Q) :
    wpAny (model X.prog X.w) X.A (spliced (backTo pos (starEach [e] X.env))) (AP X pins σ fun vs H1 => ∃ v, vs = [v] ∧ T1 X W g σ v H1 Q) X.xe s → True := fun _ => trivial
theorem se_b1 (hc : C1 X W (.builtin id) g) (hg : Gl X x) (hm : X.mg x = none) (hv : bootBuiltins x = some (.builtin id)) (he : SE X W e f) (hn : x ≠ "__name__" := by decide) (hdb : (x == ("__debug__" : Str)) = false := by decide)
    (hs : starEach [e] X.env = (false, eval e X.env) :: starEach [] X.env := by rfl) (hpl : (backTo pos (starEach [] X.env)).any (·.1) = false := by rfl) : SE X W (.Call (.Name x p) [e] [] pos) (op1 g f) := by
  refine ⟨fun pins s σ H Q I h => ?_⟩
  refine wpAny_Call_Name_kw (ld_blt I hg hm hv ?_ hn hdb)
  have ha := (pa_cons he pa_nil hs).run pos pins s σ H (fun vs H1 => ∃ v, vs = [v] ∧ T1 X W g σ v H1 Q) I (show tE X W f σ H _ by
    obtain ⟨pa, α, G, rel, r⟩ := t_op1 h
    exact ⟨pa, α, G, rel, r.mono fun v H1 q => ⟨v, rfl, q⟩⟩)
  refine PyProof.Rows.callWith_builtin1 (thn ha fun us s1 ⟨vs, H1, I1, r1, v, e1, q⟩ => ?_) hs hpl
  subst e1
  obtain ⟨u, rfl, ru⟩ := vals1 r1
  exact hc pins s1 σ H1 v u Q I1 ru q
theorem se_t1 (hc : C1 X W (.type T) g) (hg : Gl X x) (hm : X.mg x = none) (hv : bootBuiltins x = some (.type T)) (he : SE X W e f) (hn : x ≠ "__name__" := by decide) (hdb : (x == ("__debug__" : Str)) = false := by decide)
    (hs : starEach [e] X.env = (false, eval e X.env) :: starEach [] X.env := by rfl) (hpl : (backTo pos (starEach [] X.env)).any (·.1) = false := by rfl) : SE X W (.Call (.Name x p) [e] [] pos) (op1 g f) := by
  refine ⟨fun pins s σ H Q I h => ?_⟩
  refine wpAny_Call_Name_kw (ld_blt I hg hm hv ?_ hn hdb)
  have ha := (pa_cons he pa_nil hs).run pos pins s σ H (fun vs H1 => ∃ v, vs = [v] ∧ T1 X W g σ v H1 Q) I (show tE X W f σ H _ by
    obtain ⟨pa, α, G, rel, r⟩ := t_op1 h
    exact ⟨pa, α, G, rel, r.mono fun v H1 q => ⟨v, rfl, q⟩⟩)
  refine PyProof.Rows.callWith_type1 (thn ha fun us s1 ⟨vs, H1, I1, r1, v, e1, q⟩ => ?_) hs hpl
  subst e1
  obtain ⟨u, rfl, ru⟩ := vals1 r1
  exact hc pins s1 σ H1 v u Q I1 ru q
/-- by a CallR -/
theorem c1_of {f : Value} {r : List V → Hp → VK → Prop} (hc : CallR X f r) (h : ∀ σ v H Q, T1 X W g σ v H Q → r [v] H Q) : C1 X W f g := fun pins s σ H x v Q I rx q =>
  hc pins s σ H [x] [v] Q I (.cons rx .nil) (h σ x H Q q)
end
def intsD : List D → Option (List Int)
  | [] => some []
  | .int i :: r => match intsD r with
    | some ns => some (i :: ns)
    | none => none
  | _ :: _ => none
theorem intsD_eq : ∀ {ds : List D} {ns : List Int}, intsD ds = some ns → ds = ns.map .int
  | [], _, h => by cases h; rfl
  | .int i :: r, ns, h => by
    simp only [intsD] at h
    cases e : intsD r with
    | none => rw [e] at h; cases h
    | some ms => rw [e] at h; cases h; rw [intsD_eq e]; rfl
  | .none :: _, _, h => by simp [intsD] at h
  | .bool _ :: _, _, h => by simp [intsD] at h
  | .str _ :: _, _, h => by simp [intsD] at h
  | .list _ :: _, _, h => by simp [intsD] at h
  | .tuple _ :: _, _, h => by simp [intsD] at h
  | .dict _ :: _, _, h => by simp [intsD] at h
theorem dpAll_ints {K : PySem.W.Frag} {G : Hp} : ∀ {ns : List Int} {vs : List V}, DpAll K G vs (ns.map PyData.int) → vs = ns.map V.int
  | [], _, h => by cases h; rfl
  | n :: ns, _, h => by cases h with | cons h1 h2 => cases h1; rw [dpAll_ints h2]; rfl
def gLen : D → Option SV
  | .list ds => some (.fr (.int ds.length))
  | .tuple ds => some (.fr (.int ds.length))
  | _ => none
def gSum : D → Option SV
  | .list ds => match intsD ds with
    | some ns => some (.fr (.int ns.sum))
    | none => none
  | .tuple ds => match intsD ds with
    | some ns => some (.fr (.int ns.sum))
    | none => none
  | _ => none
def gMax : D → Option SV
  | .list ds => match intsD ds with
    | some (n :: ns) => some (.fr (.int (ns.foldl max n)))
    | _ => none
  | .tuple ds => match intsD ds with
    | some (n :: ns) => some (.fr (.int (ns.foldl max n)))
    | _ => none
  | _ => none
def gMin : D → Option SV
  | .list ds => match intsD ds with
    | some (n :: ns) => some (.fr (.int (ns.foldl min n)))
    | _ => none
  | .tuple ds => match intsD ds with
    | some (n :: ns) => some (.fr (.int (ns.foldl min n)))
    | _ => none
  | _ => none
def truAll : List D → Option (List Bool)
  | [] => some []
  | d :: r => match truD d with
    | some b => match truAll r with
      | some bs => some (b :: bs)
      | none => none
    | none => none
def gAny : D → Option SV
  | .list ds => match truAll ds with
    | some bs => some (.fr (.bool (bs.any id)))
    | none => none
  | .tuple ds => match truAll ds with
    | some bs => some (.fr (.bool (bs.any id)))
    | none => none
  | _ => none
def gAll : D → Option SV
  | .list ds => match truAll ds with
    | some bs => some (.fr (.bool (bs.all id)))
    | none => none
  | .tuple ds => match truAll ds with
    | some bs => some (.fr (.bool (bs.all id)))
    | none => none
  | _ => none
def gInt : D → Option SV
  | .int i => some (.fr (.int i))
  | .bool b => some (.fr (.int (if b then 1 else 0)))
  | _ => none
def gAbs : D → Option SV
  | .int i => some (.fr (.int (if i < 0 then -i else i)))
  | _ => none
def gTuple : D → Option SV
  | .list ds => some (.fr (.tuple ds))
  | .tuple ds => some (.fr (.tuple ds))
  | _ => none
def gList : D → Option SV
  | .list ds => some (.ol ds)
  | .tuple ds => some (.ol ds)
  | _ => none
section
variable {X : Cx} {W : WX} {pins : List (Addr × Obj)} {s : Shared} {σ : St} {G H : Hp} {x : V} {v : Value} {ds : List D}
/-- a told list as the library reads it -/
theorem list_reads (I : L2.Inv X pins σ H s) (hl : Le G H) (rx : RelV x v) (h : RdD X.K G H x (.list ds)) : ∃ l vs its as, v = .ref l ∧ s.heap.IsList l its.toArray ∧ ReadsAll s.heap its ds as ∧ Vals vs its ∧ DpAll X.K G vs ds ∧ vs.length ≤ sizeLine := by
  obtain ⟨a, vs, rfl, s1, t1⟩ := h
  cases rx
  obtain ⟨its, rv, pl, hz⟩ := I.list s1
  obtain ⟨as, ra⟩ := Dp.readsAll I ds vs its (hl.dpAll _ _ t1) rv
  exact ⟨a, vs, its, as, rfl, pl.isList, ra, rv, t1, hz⟩
theorem tup_reads (I : L2.Inv X pins σ H s) (hl : Le G H) (rx : RelV x v) (h : RdD X.K G H x (.tuple ds)) : ∃ l vs its as, v = .ref l ∧ s.heap.IsTuple l its.toArray ∧ ReadsAll s.heap its ds as ∧ Vals vs its ∧ DpAll X.K G vs ds ∧ vs.length ≤ sizeLine := by
  cases h with | @tup a vs _ s1 t1 =>
  cases rx
  obtain ⟨its, rv, pl, hz⟩ := I.tuple (hl.sqT s1)
  obtain ⟨as, ra⟩ := Dp.readsAll I ds vs its (hl.dpAll _ _ t1) rv
  exact ⟨a, vs, its, as, rfl, pl, ra, rv, t1, hz⟩
theorem c1_len : C1 X W (.builtin "len") gLen := c1_of call_len fun σ v H Q ⟨pa, α, G, d, z, hat, hd, hg⟩ => by
  cases d with
  | list ds =>
    cases hg
    obtain ⟨a, vs, rfl, s1, t1⟩ := hd
    exact ⟨.ref a, ds.length, rfl, .inl ⟨vs, s1, t1.length.symm⟩, out_d hat.rel hat.res (.int _)⟩
  | tuple ds =>
    cases hg
    cases hd with | @tup a vs _ s1 t1 =>
    exact ⟨.ref a, ds.length, rfl, .inr ⟨vs, hat.rel.le.sqT s1, t1.length.symm⟩, out_d hat.rel hat.res (.int _)⟩
  | _ => cases hg
theorem sum_tuple {prog : Program} {w : World} {A : Around} {E : Value → Shared → Prop} {s : Shared} {l : Addr} {its : List Value} {ns : List Int} {Q : Value → Shared → Prop} (hh : A.handled = none) (hl : s.heap.IsTuple l its.toArray) (hi : IntsAre its ns)
    (h : ∀ h' tk t', (∀ b o, s.heap.get? b = some o → h'.get? b = some o) → Q (.int ns.sum t') { s with heap := h', toks := tk }) : wpAny (model prog w) A (call (.builtin "sum") [.ref l]) Q E s := by
  obtain ⟨xs, e⟩ := hi.allInts.items
  have hn : numsOf (intItems xs).toList = ns := by rw [← e]; exact hi.numsOf
  rw [nums_intItems] at hn
  rw [e] at hl
  refine call_sum_walkAnyS (PySem.W.iter_tupleW (A := A.in1) hh hl fun s₂ e2 Wk st hfp hw hk => ?_)
  refine ⟨_, _, _, _, _, _, _, numAt xs, rfl, Wk, st, hfp, (fun _ _ => intItems_at), fun s' t' m => ?_⟩
  obtain ⟨h', tk, rfl, hk'⟩ := PySem.W.moved_old e2 rfl m
  have := h h' tk t' hk'
  rw [preSum_eq, List.take_of_length_le (by simp [intItems]), hn]; exact this
theorem c1_sum (hc : X.calm = true) : C1 X W (.builtin "sum") gSum := fun pins s σ H x v Q I rx ⟨pa, α, G, d, z, hat, hd, hg⟩ => by
  cases d with
  | list ds =>
    simp only [gSum] at hg
    cases e : intsD ds with
    | none => rw [e] at hg; cases hg
    | some ns =>
      rw [e] at hg; cases hg
      cases intsD_eq e
      obtain ⟨l, vs, its, as, rfl, hl, ra, rv, t1, _⟩ := list_reads I hat.rel.le rx hd
      cases dpAll_ints t1
      exact sum_raw (I.ok.hd hc) hl rv.ints fun h' tk t' hk => ⟨.int _, H, I.kept hk, ⟨_, rfl⟩, out_d hat.rel hat.res (.int _)⟩
  | tuple ds =>
    simp only [gSum] at hg
    cases e : intsD ds with
    | none => rw [e] at hg; cases hg
    | some ns =>
      rw [e] at hg; cases hg
      cases intsD_eq e
      obtain ⟨l, vs, its, as, rfl, hl, ra, rv, t1, _⟩ := tup_reads I hat.rel.le rx hd
      cases dpAll_ints t1
      exact sum_tuple (I.ok.hd hc) hl rv.ints fun h' tk t' hk => ⟨.int _, H, I.kept hk, ⟨_, rfl⟩, out_d hat.rel hat.res (.int _)⟩
  | _ => cases hg
end
end Sx

namespace Sx
open PySem PySem.Spec L2
open PyProof.Rows hiding St
open Sem (wp)

theorem ints_alike (n : Int) (ns : List Int) : PySem.W.AlikeAll ((n :: ns).map PyData.int) := by
  refine ⟨fun x hx y hy => ?_, fun x hx => ?_⟩
  · obtain ⟨i, _, rfl⟩ := List.mem_map.mp hx
    obtain ⟨j, _, rfl⟩ := List.mem_map.mp hy
    rfl
  · obtain ⟨i, _, rfl⟩ := List.mem_map.mp hx
    exact fun z => nomatch z
theorem truD_truthy {d : D} {b : Bool} (h : truD d = some b) : d.truthy = b := by
  cases d <;> simp [truD] at h <;> simp [PyData.truthy, h]
theorem truAll_eq : ∀ {ds : List D} {bs : List Bool}, truAll ds = some bs → ds.map PyData.truthy = bs
  | [], _, h => by cases h; rfl
  | d :: r, bs, h => by
    simp only [truAll] at h
    cases e : truD d with
    | none => rw [e] at h; cases h
    | some b =>
      simp only [e] at h
      cases e2 : truAll r with
      | none => rw [e2] at h; cases h
      | some cs => rw [e2] at h; cases h; rw [List.map_cons, truAll_eq e2, truD_truthy e]
theorem any_of {ds : List D} {bs : List Bool} (h : truAll ds = some bs) : ds.any PyData.truthy = bs.any id := by
  rw [← truAll_eq h, List.any_map]; rfl
theorem all_of {ds : List D} {bs : List Bool} (h : truAll ds = some bs) : ds.all PyData.truthy = bs.all id := by
  rw [← truAll_eq h, List.all_map]; rfl
/-- lists within data are not too long -/
theorem dp_fits {X : Cx} {pins : List (Addr × Obj)} {s : Shared} {σ : St} {H : Hp} {v : V} {d : D} (I : L2.Inv X pins σ H s) (h : Dp X.K H v d) : truD d ≠ none → d.fits63 := by
  have hs : sizeLine = 16777216 := sizeLine_eq
  intro ht
  cases h with
  | lst s1 t1 =>
    obtain ⟨_, _, _, hz⟩ := I.list s1
    have l := t1.length
    show ((List.length _ : Nat) : Int) < 2 ^ 63
    omega
  | tup s1 t1 =>
    obtain ⟨_, _, _, hz⟩ := I.tuple s1
    have l := t1.length
    show ((List.length _ : Nat) : Int) < 2 ^ 63
    omega
  | non => trivial
  | bl b => trivial
  | int i => trivial
  | str x => exact absurd rfl ht
theorem dpAll_fits {X : Cx} {pins : List (Addr × Obj)} {s : Shared} {σ : St} {H : Hp} (I : L2.Inv X pins σ H s) : ∀ {ds : List D} {vs : List V} {bs : List Bool}, DpAll X.K H vs ds → truAll ds = some bs → ∀ x ∈ ds, x.fits63
  | [], _, _, _, _, _, hx => nomatch hx
  | d :: r, _, bs, h, e, x, hx => by
    cases h with | cons h1 h2 =>
    simp only [truAll] at e
    cases e1 : truD d with
    | none => rw [e1] at e; cases e
    | some b =>
      simp only [e1] at e
      cases e2 : truAll r with
      | none => rw [e2] at e; cases e
      | some cs =>
        rcases List.mem_cons.mp hx with rfl | hx
        · exact dp_fits I h1 (by rw [e1]; exact fun z => nomatch z)
        · exact dpAll_fits I h2 e2 x hx
section
variable {X : Cx} {W : WX}
theorem int_back {h : Heap} {v : Value} {m : Int} {bs : List Addr} (r : Reads h v (.int m) bs) : ∃ t, v = .int m t := by
  cases r; exact ⟨_, rfl⟩
theorem c1_max (hc : X.calm = true) (hu : X.A.units + 100 < cLine) : C1 X W (.builtin "max") gMax := fun pins s σ H x v Q I rx ⟨pa, α, G, d, z, hat, hd, hg⟩ => by
  cases d with
  | list ds =>
    simp only [gMax] at hg
    cases e : intsD ds with
    | none => rw [e] at hg; cases hg
    | some ns =>
      rw [e] at hg
      cases ns with
      | nil => cases hg
      | cons n ns =>
        cases hg
        cases intsD_eq e
        obtain ⟨l, vs, its, as, rfl, hl, ra, rv, t1, _⟩ := list_reads I hat.rel.le rx hd
        refine PySem.W.max_list_data (I.ok.hd hc) hl (by simpa using ra) (ints_alike n ns) (by have := PySem.W.depth_ints (n :: ns); simp only [List.map_cons] at this; omega) fun i v h' tk bs _ r k => ?_
        rw [PySem.W.maxD_ints] at r
        obtain ⟨t, rfl⟩ := int_back r
        exact ⟨.int _, H, I.kept k, ⟨_, rfl⟩, out_d hat.rel hat.res (.int _)⟩
  | tuple ds =>
    simp only [gMax] at hg
    cases e : intsD ds with
    | none => rw [e] at hg; cases hg
    | some ns =>
      rw [e] at hg
      cases ns with
      | nil => cases hg
      | cons n ns =>
        cases hg
        cases intsD_eq e
        obtain ⟨l, vs, its, as, rfl, hl, ra, rv, t1, _⟩ := tup_reads I hat.rel.le rx hd
        refine PySem.W.max_tuple_data (I.ok.hd hc) hl (by simpa using ra) (ints_alike n ns) (by have := PySem.W.depth_ints (n :: ns); simp only [List.map_cons] at this; omega) fun i v h' tk bs _ r k => ?_
        rw [PySem.W.maxD_ints] at r
        obtain ⟨t, rfl⟩ := int_back r
        exact ⟨.int _, H, I.kept k, ⟨_, rfl⟩, out_d hat.rel hat.res (.int _)⟩
  | _ => cases hg
theorem c1_min (hc : X.calm = true) (hu : X.A.units + 100 < cLine) : C1 X W (.builtin "min") gMin := fun pins s σ H x v Q I rx ⟨pa, α, G, d, z, hat, hd, hg⟩ => by
  cases d with
  | list ds =>
    simp only [gMin] at hg
    cases e : intsD ds with
    | none => rw [e] at hg; cases hg
    | some ns =>
      rw [e] at hg
      cases ns with
      | nil => cases hg
      | cons n ns =>
        cases hg
        cases intsD_eq e
        obtain ⟨l, vs, its, as, rfl, hl, ra, rv, t1, _⟩ := list_reads I hat.rel.le rx hd
        refine PySem.W.min_list_data (I.ok.hd hc) hl (by simpa using ra) (ints_alike n ns) (by have := PySem.W.depth_ints (n :: ns); simp only [List.map_cons] at this; omega) fun i v h' tk bs _ r k => ?_
        rw [PySem.W.minD_ints] at r
        obtain ⟨t, rfl⟩ := int_back r
        exact ⟨.int _, H, I.kept k, ⟨_, rfl⟩, out_d hat.rel hat.res (.int _)⟩
  | tuple ds =>
    simp only [gMin] at hg
    cases e : intsD ds with
    | none => rw [e] at hg; cases hg
    | some ns =>
      rw [e] at hg
      cases ns with
      | nil => cases hg
      | cons n ns =>
        cases hg
        cases intsD_eq e
        obtain ⟨l, vs, its, as, rfl, hl, ra, rv, t1, _⟩ := tup_reads I hat.rel.le rx hd
        refine PySem.W.min_tuple_data (I.ok.hd hc) hl (by simpa using ra) (ints_alike n ns) (by have := PySem.W.depth_ints (n :: ns); simp only [List.map_cons] at this; omega) fun i v h' tk bs _ r k => ?_
        rw [PySem.W.minD_ints] at r
        obtain ⟨t, rfl⟩ := int_back r
        exact ⟨.int _, H, I.kept k, ⟨_, rfl⟩, out_d hat.rel hat.res (.int _)⟩
  | _ => cases hg
theorem c1_any (hc : X.calm = true) : C1 X W (.builtin "any") gAny := fun pins s σ H x v Q I rx ⟨pa, α, G, d, z, hat, hd, hg⟩ => by
  cases d with
  | list ds =>
    simp only [gAny] at hg
    cases e : truAll ds with
    | none => rw [e] at hg; cases hg
    | some bs =>
      rw [e] at hg; cases hg
      obtain ⟨l, vs, its, as, rfl, hl, ra, rv, t1, _⟩ := list_reads I hat.rel.le rx hd
      have t2 := hat.rel.le.dpAll _ _ t1
      refine PySem.W.any_list_data (I.ok.hd hc) hl (by simpa using ra) (dp_plainAll _ _ t2) (dpAll_fits I t2 e) fun h' tk k => ?_
      rw [any_of e]
      exact ⟨.bl _, H, I.kept k, rfl, out_d hat.rel hat.res (.bl _)⟩
  | tuple ds =>
    simp only [gAny] at hg
    cases e : truAll ds with
    | none => rw [e] at hg; cases hg
    | some bs =>
      rw [e] at hg; cases hg
      obtain ⟨l, vs, its, as, rfl, hl, ra, rv, t1, _⟩ := tup_reads I hat.rel.le rx hd
      have t2 := hat.rel.le.dpAll _ _ t1
      refine PySem.W.any_tuple_data (I.ok.hd hc) hl (by simpa using ra) (dp_plainAll _ _ t2) (dpAll_fits I t2 e) fun h' tk k => ?_
      rw [any_of e]
      exact ⟨.bl _, H, I.kept k, rfl, out_d hat.rel hat.res (.bl _)⟩
  | _ => cases hg
theorem c1_all (hc : X.calm = true) : C1 X W (.builtin "all") gAll := fun pins s σ H x v Q I rx ⟨pa, α, G, d, z, hat, hd, hg⟩ => by
  cases d with
  | list ds =>
    simp only [gAll] at hg
    cases e : truAll ds with
    | none => rw [e] at hg; cases hg
    | some bs =>
      rw [e] at hg; cases hg
      obtain ⟨l, vs, its, as, rfl, hl, ra, rv, t1, _⟩ := list_reads I hat.rel.le rx hd
      have t2 := hat.rel.le.dpAll _ _ t1
      refine PySem.W.all_list_data (I.ok.hd hc) hl (by simpa using ra) (dp_plainAll _ _ t2) (dpAll_fits I t2 e) fun h' tk k => ?_
      rw [all_of e]
      exact ⟨.bl _, H, I.kept k, rfl, out_d hat.rel hat.res (.bl _)⟩
  | tuple ds =>
    simp only [gAll] at hg
    cases e : truAll ds with
    | none => rw [e] at hg; cases hg
    | some bs =>
      rw [e] at hg; cases hg
      obtain ⟨l, vs, its, as, rfl, hl, ra, rv, t1, _⟩ := tup_reads I hat.rel.le rx hd
      have t2 := hat.rel.le.dpAll _ _ t1
      refine PySem.W.all_tuple_data (I.ok.hd hc) hl (by simpa using ra) (dp_plainAll _ _ t2) (dpAll_fits I t2 e) fun h' tk k => ?_
      rw [all_of e]
      exact ⟨.bl _, H, I.kept k, rfl, out_d hat.rel hat.res (.bl _)⟩
  | _ => cases hg
theorem c1_int : C1 X W (.type "int") gInt := c1_of call_int1 fun σ v H Q ⟨pa, α, G, d, z, hat, hd, hg⟩ => by
  cases d with
  | int i => cases hg; cases hd; exact .inl ⟨i, rfl, out_d hat.rel hat.res (.int _)⟩
  | bool b => cases hg; cases hd; exact .inr ⟨b, rfl, out_d hat.rel hat.res (.int _)⟩
  | _ => cases hg
theorem c1_abs : C1 X W (.builtin "abs") gAbs := c1_of call_abs fun σ v H Q ⟨pa, α, G, d, z, hat, hd, hg⟩ => by
  cases d with
  | int i => cases hg; cases hd; exact ⟨i, rfl, out_d hat.rel hat.res (.int _)⟩
  | _ => cases hg
/-- tuple(l), the new one told whole -/
theorem call_tupF : CallR X (.type "tuple") (fun xs H Q => ∃ (a : Addr) (vs : List V), xs = [V.ref a] ∧ ((SqL X.K H a vs ∧ NT Q H vs) ∨ (SqT X.K H a vs ∧ Q (.ref a) H))) := by
  intro pins s σ H xs us Q I r h
  obtain ⟨a, vs, rfl, h⟩ := h
  rw [Vals.ref1 r]
  rcases h with ⟨hs, q⟩ | ⟨hs, q⟩
  · obtain ⟨its, rv, pl, hz⟩ := I.list hs
    refine call_tuple_list pl.isList (fun h' hk => ?_) (by rw [List.size_toArray, ← rv.length]; exact hz)
    have I1 : L2.Inv X pins σ H { s with heap := h' } := I.kept (t' := s.toks) hk
    exact NT.ends I1 rv hz q
  · obtain ⟨its, rv, pl, hz⟩ := I.tuple hs
    exact call_tuple_tup pl ⟨.ref a, H, I, rfl, q⟩
theorem c1_tuple : C1 X W (.type "tuple") gTuple := c1_of call_tupF fun σ v H Q ⟨pa, α, G, d, z, hat, hd, hg⟩ => by
  cases d with
  | list ds =>
    cases hg
    obtain ⟨a, vs, rfl, s1, t1⟩ := hd
    exact ⟨a, vs, rfl, .inl ⟨s1, out_tup hat.rel hat.res t1⟩⟩
  | tuple ds =>
    cases hg
    cases hd with | @tup a vs _ s1 t1 =>
    exact ⟨a, vs, rfl, .inr ⟨hat.rel.le.sqT s1, out_d hat.rel hat.res (.tup s1 t1)⟩⟩
  | _ => cases hg
theorem c1_list : C1 X W (.type "list") gList := c1_of call_list_of fun σ v H Q ⟨pa, α, G, d, z, hat, hd, hg⟩ => by
  cases d with
  | list ds =>
    cases hg
    obtain ⟨a, vs, rfl, s1, t1⟩ := hd
    exact ⟨a, vs, rfl, .inl s1, out_lst hat.rel hat.res t1⟩
  | tuple ds =>
    cases hg
    cases hd with | @tup a vs _ s1 t1 =>
    exact ⟨a, vs, rfl, .inr (hat.rel.le.sqT s1), out_lst hat.rel hat.res t1⟩
  | _ => cases hg
end

/-! ### max(a, b), min(a, b), isinstance -/
def gMax2 : D → D → Option SV := fun d e => match d, e with | .int i, .int j => some (.fr (.int (if j > i then j else i))) | _, _ => none
def gMin2 : D → D → Option SV := fun d e => match d, e with | .int i, .int j => some (.fr (.int (if j < i then j else i))) | _, _ => none
def C2 (X : Cx) (W : WX) (f : Value) (g : D → D → Option SV) : Prop := ∀ (pins : List (Addr × Obj)) (s : Shared) (σ : St) (H : Hp) (x y : V) (v u : Value) (Q : VK), L2.Inv X pins σ H s → RelV x v → RelV y u → T2 X W g σ x y H Q →
  wpAny (model X.prog X.w) X.A (call f [v, u]) (EP X pins σ Q) X.xe s
section
variable {X : Cx} {W : WX} {e e2 : Expr} {f f2 : EF} {x : Str} {p pos : Pos} {g : D → D → Option SV} {id T : String}
theorem two_args (he : SE X W e f) (he2 : SE X W e2 f2) (hs : starEach [e, e2] X.env = (false, eval e X.env) :: starEach [e2] X.env) (hs2 : starEach [e2] X.env = (false, eval e2 X.env) :: starEach [] X.env) :
    PA X [e, e2] (fun σ H Q => tE X W f σ H fun v H1 => tE X W f2 σ H1 fun u H2 => Q [v, u] H2) := pa_cons he (pa_cons he2 pa_nil hs2) hs
theorem se_b2 (hc : C2 X W (.builtin id) g) (hg : Gl X x) (hm : X.mg x = none) (hv : bootBuiltins x = some (.builtin id)) (he : SE X W e f) (he2 : SE X W e2 f2) (hn : x ≠ "__name__" := by decide) (hdb : (x == ("__debug__" : Str)) = false := by decide)
    (hs : starEach [e, e2] X.env = (false, eval e X.env) :: starEach [e2] X.env := by rfl) (hs2 : starEach [e2] X.env = (false, eval e2 X.env) :: starEach [] X.env := by rfl) (hpl : (backTo pos (starEach [e2] X.env)).any (·.1) = false := by rfl) :
    SE X W (.Call (.Name x p) [e, e2] [] pos) (op2 g f f2) := by
  refine ⟨fun pins s σ H Q I h => ?_⟩
  refine wpAny_Call_Name_kw (ld_blt I hg hm hv ?_ hn hdb)
  have ha := (two_args he he2 hs hs2).run pos pins s σ H (fun vs H1 => ∃ v u, vs = [v, u] ∧ T2 X W g σ v u H1 Q) I (by
    obtain ⟨pa, α, G, rel, r⟩ := t_op2 h
    exact ⟨pa, α, G, rel, r.mono fun v H1 ⟨pa', α', G', rel', r'⟩ => ⟨pa', α', G', rel', r'.mono fun u H2 q => ⟨v, u, rfl, q⟩⟩⟩)
  refine PyProof.Rows.callWith_builtin1 (thn ha fun us s1 ⟨vs, H1, I1, r1, v, u, e1, q⟩ => ?_) hs hpl
  subst e1
  obtain ⟨w, w2, rfl, ru, ru2⟩ := vals2 r1
  exact hc pins s1 σ H1 v u w w2 Q I1 ru ru2 q
theorem c2_max (hc : X.calm = true) : C2 X W (.builtin "max") gMax2 := fun pins s σ H x y v u Q I rx ry ⟨pa, α, G, d, e, z, hat, hd, he, hg⟩ => by
  cases d with
  | int i =>
    cases e with
    | int j =>
      cases hg; cases hd; cases he
      exact call_max2 hc pins s σ H [.int i, .int j] [v, u] Q I (.cons rx (.cons ry .nil)) ⟨i, j, rfl, out_d hat.rel hat.res (.int _)⟩
    | _ => cases hg
  | _ => cases hg
theorem c2_min (hc : X.calm = true) : C2 X W (.builtin "min") gMin2 := fun pins s σ H x y v u Q I rx ry ⟨pa, α, G, d, e, z, hat, hd, he, hg⟩ => by
  cases d with
  | int i =>
    cases e with
    | int j =>
      cases hg; cases hd; cases he
      exact call_min2 hc pins s σ H [.int i, .int j] [v, u] Q I (.cons rx (.cons ry .nil)) ⟨i, j, rfl, out_d hat.rel hat.res (.int _)⟩
    | _ => cases hg
  | _ => cases hg
/-- isinstance(x, T), T int, bool, list, tuple, str, dict -/
def isD : String → D → Option Bool
  | "int", d => some d.isInt
  | "bool", d => some d.isBool
  | "list", d => some d.isList
  | "tuple", d => some d.isTuple
  | "str", d => some d.isStr
  | "dict", d => some d.isDict
  | _, _ => none
def gIs (T : String) : D → Option SV := fun d => match isD T d with
  | some b => some (.fr (.bool b))
  | none => none
theorem is_run {prog : Program} {w : World} {A : Around} {E : Value → Shared → Prop} {s : Shared} {v : Value} {d : D} {as : List Addr} {T : String} {b : Bool} {Q : Value → Shared → Prop} (r : Reads s.heap v d as) (e : isD T d = some b)
    (h : ∀ tk, s.toks ≤ tk → Q (.bool b) { s with toks := tk }) : wpAny (model prog w) A (call (.builtin "isinstance") [v, .type T]) Q E s := by
  unfold isD at e
  split at e <;> cases e
  · exact PySem.W.isinstance_int_data r h
  · exact PySem.W.isinstance_bool_data r h
  · exact PySem.W.isinstance_list_data r h
  · exact PySem.W.isinstance_tuple_data r h
  · exact PySem.W.isinstance_str_data r h
  · exact PySem.W.isinstance_dict_data r h
theorem se_is {T' : Str} {q : Pos} (hg : Gl X "isinstance") (hm : X.mg "isinstance" = none) (he : SE X W e f) (hgT : Gl X T') (hmT : X.mg T' = none) (hvT : bootBuiltins T' = some (.type T)) (hnT : T' ≠ "__name__" := by decide) (hdT : (T' == ("__debug__" : Str)) = false := by decide)
    (hs : starEach [e, .Name T' q] X.env = (false, eval e X.env) :: starEach [.Name T' q] X.env := by rfl) (hs2 : starEach [.Name T' q] X.env = (false, eval (.Name T' q) X.env) :: starEach [] X.env := by rfl) (hpl : (backTo pos (starEach [.Name T' q] X.env)).any (·.1) = false := by rfl) :
    SE X W (.Call (.Name "isinstance" p) [e, .Name T' q] [] pos) (op1 (gIs T) f) := by
  refine ⟨fun pins s σ H Q I h => ?_⟩
  refine wpAny_Call_Name_kw (ld_blt I hg hm PyProof.Rows.boot_isinstance ?_ (by decide) (by decide))
  have ha := (pa_cons he (pa_cons (pe_bltn (v := .ty T) hgT hmT hvT rfl hnT hdT) pa_nil hs2) hs).run pos pins s σ H (fun vs H1 => ∃ v, vs = [v, .ty T] ∧ T1 X W (gIs T) σ v H1 Q) I (by
    obtain ⟨pa, α, G, rel, r⟩ := t_op1 h
    exact ⟨pa, α, G, rel, r.mono fun v H1 q => ⟨v, rfl, q⟩⟩)
  refine PyProof.Rows.callWith_builtin1 (thn ha fun us s1 ⟨vs, H1, I1, r1, v, e1, pa, α, G, d, z, hat, hd, hg⟩ => ?_) hs hpl
  subst e1
  obtain ⟨w, w2, rfl, ru, ru2⟩ := vals2 r1
  cases (show w2 = Value.type T from ru2)
  obtain ⟨as, ra⟩ := Dp.reads I1 d v w (hd.dp hat.rel.le) ru
  unfold gIs at hg
  cases e1 : isD T d with
  | none => rw [e1] at hg; cases hg
  | some b =>
    rw [e1] at hg; cases hg
    exact is_run ra e1 fun tk _ => ⟨.bl b, H1, I1.tok tk, rfl, out_d hat.rel hat.res (.bl _)⟩
end
end Sx

namespace Sx
open PySem PySem.Spec L2

/-! ### statements -/
def ResS (C : Ct) (mg : Str → Option Value) (W : WX) (σ : St) (α : AS) (G H : Hp) (r : R Fl) (Dn : Ends) : Prop := match r with
  | .ok .next α' => ∀ σ' G' H', Rel C α' σ' G' H' → Step C α σ G H α' σ' G' H' → Dn.nx σ' H'
  | .ok .brk α' => ∀ σ' G' H', Rel C α' σ' G' H' → Step C α σ G H α' σ' G' H' → Dn.bk σ' H'
  | .ok .cont α' => ∀ σ' G' H', Rel C α' σ' G' H' → Step C α σ G H α' σ' G' H' → Dn.ct σ' H'
  | .ok (.ret x) α' => ∀ v σ' G' H', Rel C α' σ' G' H' → Step C α σ G H α' σ' G' H' → ArgV C α' G' x v → Dn.rt v H'
  | .ex e α' => ∀ cls d σ' G' H', Rel C α' σ' G' H' → Step C α σ G H α' σ' G' H' → RelX C mg G' H' e cls d → W cls d σ' H'
  | .no => False
def tS (X : Cx) (W : WX) (f : SF) : TS := fun Dn σ H => ∃ pa α G, Rel (ct X pa) α σ G H ∧ ResS (ct X pa) X.mg W σ α G H (f α) Dn
abbrev SS (X : Cx) (W : WX) (st : Stmt) (f : SF) : Prop := PS X st (tS X W f)
abbrev SSs (X : Cx) (W : WX) (st : List Stmt) (f : SF) : Prop := PSs X st (tS X W f)
theorem _root_.L2.PS.conseq {X : Cx} {e : Stmt} {t t' : TS} (h : PS X e t) (i : ∀ D σ H, t' D σ H → t D σ H) : PS X e t' := ⟨fun pins s σ H D I q => h.run pins s σ H D I (i D σ H q)⟩
theorem _root_.L2.PSs.conseq {X : Cx} {e : List Stmt} {t t' : TS} (h : PSs X e t) (i : ∀ D σ H, t' D σ H → t D σ H) : PSs X e t' := ⟨fun pins s σ H D I q => h.run pins s σ H D I (i D σ H q)⟩
section
variable {C : Ct} {mg : Str → Option Value} {W : WX} {α α1 α2 : AS} {σ σ1 σ2 : St} {G G1 G2 H H1 H2 : Hp} {Dn : Ends}
theorem ResS.shift (st : Step C α σ G H α1 σ1 G1 H1) {r : R Fl} (h : ResS C mg W σ α G H r Dn) : ResS C mg W σ1 α1 G1 H1 r Dn := by
  cases r with
  | ok fl α' =>
    cases fl with
    | next => exact fun σ' G' H' rel s' => h σ' G' H' rel (st.trans s')
    | brk => exact fun σ' G' H' rel s' => h σ' G' H' rel (st.trans s')
    | cont => exact fun σ' G' H' rel s' => h σ' G' H' rel (st.trans s')
    | ret x => exact fun v σ' G' H' rel s' => h v σ' G' H' rel (st.trans s')
  | ex e α' => exact fun cls d σ' G' H' rel s' => h cls d σ' G' H' rel (st.trans s')
  | no => exact h
/-- an expression ahead of the rest -/
theorem Res.midS {f : R SV} {k : SV → AS → R Fl} (h : ResS C mg W σ α G H (f.bind k) Dn) :
    Res C mg W σ α G H f fun v H1 => ∃ x α1 G1, f = .ok x α1 ∧ Rel C α1 σ G1 H1 ∧ Step C α σ G H α1 σ G1 H1 ∧ ValV C α1 σ G1 H1 x v ∧ NewV H x v ∧ ResS C mg W σ α1 G1 H1 (k x α1) Dn := by
  cases f with
  | ok y α' => exact fun v G' H' rel st rv nv => ⟨y, α', G', rfl, rel, st, rv, nv, ResS.shift st h⟩
  | ex e α' => exact fun cls d G' H' rel s' rx => h cls d σ G' H' rel s' rx
  | no => exact h
theorem ResB.midS {f : R Bool} {k : Bool → AS → R Fl} (h : ResS C mg W σ α G H (f.bind k) Dn) :
    ResB C mg W σ α G H f fun b H1 => ∃ α1 G1, f = .ok b α1 ∧ Rel C α1 σ G1 H1 ∧ Step C α σ G H α1 σ G1 H1 ∧ ResS C mg W σ α1 G1 H1 (k b α1) Dn := by
  cases f with
  | ok y α' => exact fun G' H' rel st => ⟨α', G', rfl, rel, st, ResS.shift st h⟩
  | ex e α' => exact fun cls d G' H' rel s' rx => h cls d σ G' H' rel s' rx
  | no => exact h
end
def sNext : SF := fun s => .ok .next s
def sSeq (f g : SF) : SF := fun s => match f s with
  | .ok .next s1 => g s1
  | .ok fl s1 => .ok fl s1
  | .ex e s1 => .ex e s1
  | .no => .no
def sBrk : SF := fun s => .ok .brk s
def sCont : SF := fun s => .ok .cont s
def sDrop (f : EF) : SF := fun s => (f s).bind fun _ s1 => .ok .next s1
def sRet (f : EF) : SF := fun s => (f s).bind fun x s1 => match fz s1 x with
  | some (y, s2) => .ok (.ret y) s2
  | none => .no
def sIf (c : BF) (f g : SF) : SF := fun s => (c s).bind fun b s1 => bif b then f s1 else g s1
section
variable {X : Cx} {W : WX} {st : Stmt} {rest : List Stmt} {f g : SF} {pos : Pos} {e : Expr} {fe : EF}
theorem ss_nil : SSs X W [] sNext := pss_nil.conseq fun D σ H ⟨pa, α, G, rel, h⟩ => h σ G H rel Step.refl
theorem ss_cons (h1 : SS X W st f) (h2 : SSs X W rest g) : SSs X W (st :: rest) (sSeq f g) := (pss_cons h1 h2).conseq fun D σ H ⟨pa, α, G, rel, h⟩ => by
  refine ⟨pa, α, G, rel, ?_⟩
  unfold sSeq at h
  cases r : f α with
  | no => rw [r] at h; exact h
  | ex e α' => rw [r] at h; exact h
  | ok fl α1 =>
    rw [r] at h
    cases fl with
    | next => exact fun σ1 G1 H1 rel1 st1 => ⟨pa, α1, G1, rel1, ResS.shift st1 h⟩
    | brk => exact h
    | cont => exact h
    | ret x => exact h
theorem ss_one (h1 : SS X W st f) : SSs X W [st] f := pss_one h1
theorem ss_pass : SS X W (.Pass pos) sNext := ps_pass.conseq fun D σ H ⟨pa, α, G, rel, h⟩ => h σ G H rel Step.refl
theorem ss_break : SS X W (.Break pos) sBrk := ps_break.conseq fun D σ H ⟨pa, α, G, rel, h⟩ => h σ G H rel Step.refl
theorem ss_continue : SS X W (.Continue pos) sCont := ps_continue.conseq fun D σ H ⟨pa, α, G, rel, h⟩ => h σ G H rel Step.refl
theorem ss_expr (he : SE X W e fe) (hs : swapsWith e none pos.line X.env = pure false := by rfl) : SS X W (.Expr e pos) (sDrop fe) := (ps_expr he hs).conseq fun D σ H ⟨pa, α, G, rel, h⟩ =>
  ⟨pa, α, G, rel, (Res.midS h).mono fun v H1 ⟨x, α1, G1, _, rel1, st1, rv, nv, r⟩ => r σ G1 H1 rel1 Step.refl⟩
theorem ss_ret (he : SE X W e fe) : SS X W (.Return (some e) pos) (sRet fe) := (ps_ret he).conseq fun D σ H ⟨pa, α, G, rel, h⟩ => by
  refine ⟨pa, α, G, rel, ?_⟩
  unfold sRet at h
  cases r : fe α with
  | no => rw [r] at h; exact h
  | ex e α' => rw [r] at h; exact fun cls d G' H' rel' s' rx => h cls d σ G' H' rel' s' rx
  | ok x α1 =>
    rw [r] at h
    intro v G1 H1 rel1 st1 rv nv
    simp only [R.bind] at h
    cases r2 : fz α1 x with
    | none => rw [r2] at h; exact h.elim
    | some p =>
      obtain ⟨y, α2⟩ := p
      rw [r2] at h
      obtain ⟨G2, rel2, st2, av⟩ := fz_ok rel1 st1 rv nv r2
      exact h v σ G2 H1 rel2 st2 av
theorem ss_if {c : Expr} {a b : List Stmt} {gc : BF} (hc : ST X W c gc) (ha : SSs X W a f) (hb : SSs X W b g) : SS X W (.If c a b pos) (sIf gc f g) := (ps_if hc ha hb).conseq fun D σ H ⟨pa, α, G, rel, h⟩ => by
  refine ⟨pa, α, G, rel, (ResB.midS h).mono fun b H1 ⟨α1, G1, _, rel1, st1, r⟩ => ?_⟩
  cases b with
  | true => rw [if_pos rfl]; exact ⟨pa, α1, G1, rel1, r⟩
  | false => rw [if_neg Bool.false_ne_true]; exact ⟨pa, α1, G1, rel1, r⟩
end

/-! ### names are stored -/
/-- x is stored in slot i; a borrowed own list or dict moves -/
def asn (s : AS) (i : Nat) (x : SV) : Option AS := if i < s.sl.length then (match x with
  | .bor j => match getS s j with
    | some (.ol ds) => some (setS (delS s j) i (.ol ds))
    | some (.od kvs) => some (setS (delS s j) i (.od kvs))
    | _ => none
  | y => some (setS s i y)) else none
theorem getS_del {s : AS} {i j : Nat} : getS (delS s i) j = if j = i then none else getS s j := by
  unfold getS delS
  by_cases h : j = i
  · subst h
    rw [if_pos rfl]
    by_cases hl : j < s.sl.length
    · rw [List.getElem?_set_self hl]
    · rw [List.getElem?_eq_none (by rw [List.length_set]; omega)]
  · rw [if_neg h, List.getElem?_set_ne (Ne.symm h)]
section
variable {C : Ct} {mg : Str → Option Value} {W : WX} {α α0 α1 α2 : AS} {σ : St} {G G0 G1 G2 H H0 H1 H2 : Hp} {x y : SV} {v : V} {i j : Nat}
theorem Rel.del (rel : Rel C α σ G H) (j : Nat) : Rel C (delS α j) σ G H := by
  have less : ∀ {k sv}, getS (delS α j) k = some sv → getS α k = some sv := fun {k sv} e => by
    rw [getS_del] at e
    split at e
    · cases e
    · exact e
  exact ⟨rel.le, rel.nt, by unfold delS; rw [List.length_set]; exact rel.len, fun k sv e => rel.sl k sv (less e), fun a b x y c ha hb => rel.apart a b x y c (less ha) (less hb), rel.pen, fun k e => rel.ps k (less e), fun h k sv e => rel.pne h k sv (less e)⟩
/-- slot i gets the value v -/
theorem Rel.set (rel : Rel C α σ G H) (hi : i < α.sl.length) (hv : RelS C G H x v) (hp : x = .pen → α.pn.isSome = true) (ap : ∀ a, x.own = true → v = .ref a → (∀ k sv, getS α k = some sv → sv.own = true → k ≠ i → σ[k]? ≠ some (some (.ref a))) ∧ (α.pn.isSome = true → a ≠ C.pa)) :
    Rel C (setS α i x) (σ.set i (some v)) G H := by
  have hiσ : i < σ.length := rel.len ▸ hi
  refine ⟨rel.le, rel.nt, by unfold setS; rw [List.length_set, List.length_set]; exact rel.len, fun k sv e => ?_, fun a b p q c ha hb hp hq hσa hσb => ?_, rel.pen, fun k e => ?_, fun h k sv e ho z => ?_⟩
  · rw [getS_set hi] at e
    by_cases hk : k = i
    · subst hk
      rw [if_pos rfl] at e
      cases e
      exact ⟨v, List.getElem?_set_self hiσ, hv⟩
    · rw [if_neg hk] at e
      rw [List.getElem?_set_ne (Ne.symm hk)]
      exact rel.sl k sv e
  · rw [getS_set hi] at ha hb
    by_cases h1 : a = i
    · by_cases h2 : b = i
      · rw [h1, h2]
      · subst h1
        rw [if_pos rfl] at ha
        rw [if_neg h2] at hb
        cases ha
        rw [List.getElem?_set_self hiσ] at hσa
        rw [List.getElem?_set_ne (Ne.symm h2)] at hσb
        exact absurd hσb ((ap c hp (Option.some.inj (Option.some.inj hσa))).1 b q hb hq h2)
    · by_cases h2 : b = i
      · subst h2
        rw [if_pos rfl] at hb
        rw [if_neg h1] at ha
        cases hb
        rw [List.getElem?_set_self hiσ] at hσb
        rw [List.getElem?_set_ne (Ne.symm h1)] at hσa
        exact absurd hσa ((ap c hq (Option.some.inj (Option.some.inj hσb))).1 a p ha hp h1)
      · rw [if_neg h1] at ha
        rw [if_neg h2] at hb
        rw [List.getElem?_set_ne (Ne.symm h1)] at hσa
        rw [List.getElem?_set_ne (Ne.symm h2)] at hσb
        exact rel.apart a b p q c ha hb hp hq hσa hσb
  · rw [getS_set hi] at e
    by_cases hk : k = i
    · rw [if_pos hk] at e
      exact hp (Option.some.inj e)
    · rw [if_neg hk] at e
      exact rel.ps k e
  · rw [getS_set hi] at e
    by_cases hk : k = i
    · subst hk
      rw [if_pos rfl] at e
      cases e
      rw [List.getElem?_set_self hiσ] at z
      exact (ap C.pa ho (Option.some.inj (Option.some.inj z))).2 h rfl
    · rw [if_neg hk] at e
      rw [List.getElem?_set_ne (Ne.symm hk)] at z
      exact rel.pne h k sv e ho z
/-- what is one's own behind it -/
theorem own_set (hi : i < α.sl.length) (rel : Rel C α σ G H) {b : Addr} (h : Own C (setS α i x) (σ.set i (some v)) b) : Own C α σ b ∨ (x.own = true ∧ v = .ref b) := by
  rcases h with h | ⟨k, sv, h1, h2, h3⟩
  · exact .inl (.inl h)
  · rw [getS_set hi] at h1
    by_cases hk : k = i
    · subst hk
      rw [if_pos rfl] at h1
      cases h1
      rw [List.getElem?_set_self (rel.len ▸ hi)] at h3
      exact .inr ⟨h2, Option.some.inj (Option.some.inj h3)⟩
    · rw [if_neg hk] at h1
      rw [List.getElem?_set_ne (Ne.symm hk)] at h3
      exact .inl (.inr ⟨k, sv, h1, h2, h3⟩)
/-- THE STORE: from an expression's end -/
theorem asn_ok (rel : Rel C α1 σ G1 H1) (st : Step C α σ G H α1 σ G1 H1) (rv : ValV C α1 σ G1 H1 x v) (nv : NewV H x v) (e : asn α1 i x = some α2) : Rel C α2 (σ.set i (some v)) G1 H1 ∧ Step C α σ G H α2 (σ.set i (some v)) G1 H1 := by
  unfold asn at e
  by_cases hi : i < α1.sl.length
  case neg => rw [if_neg hi] at e; cases e
  rw [if_pos hi] at e
  have mk : ∀ {y : SV} {β : AS} (rb : Rel C β σ G1 H1) (hb : i < β.sl.length) (pb : β.pn = α1.pn) (le : ∀ b, Own C β σ b → Own C α1 σ b) (hv : RelS C G1 H1 y v) (hp : y = .pen → β.pn.isSome = true) (ho : ∀ a, y.own = true → v = .ref a → ¬ Own C β σ a) (hn : ∀ a, y.own = true → v = .ref a → H a = none ∨ Own C α1 σ a),
      Rel C (setS β i y) (σ.set i (some v)) G1 H1 ∧ Step C α σ G H (setS β i y) (σ.set i (some v)) G1 H1 := fun {y β} rb hb pb le hv hp ho hn => by
    refine ⟨rb.set hb hv hp fun a h1 h2 => ⟨fun k sv e1 e2 _ z => ho a h1 h2 (.inr ⟨k, sv, e1, e2, z⟩), fun hps z => ho a h1 h2 (.inl ⟨hps, z⟩)⟩, st.g, st.k, st.t, fun b h => ?_, (show β.pn.isSome = α.pn.isSome by rw [pb]; exact st.p)⟩
    rcases own_set hb rb h with h | ⟨h1, h2⟩
    · exact st.o b (le b h)
    · rcases hn b h1 h2 with h | h
      · exact .inr h
      · exact st.o b h
  cases x with
  | fr d =>
    cases e
    exact mk rel hi rfl (fun _ h => h) rv (fun z => nomatch z) (fun _ z => nomatch z) (fun _ z => nomatch z)
  | pen =>
    cases e
    exact mk rel hi rfl (fun _ h => h) rv.1 (fun _ => rv.2) (fun _ z => nomatch z) (fun _ z => nomatch z)
  | ol ds =>
    cases e
    obtain ⟨a, rfl, h1, h2⟩ := rv
    exact mk rel hi rfl (fun _ h => h) ⟨a, rfl, h1⟩ (fun z => nomatch z) (fun b _ z => by cases z; exact h2) (fun b _ z => .inl (nv b z))
  | od kvs =>
    cases e
    obtain ⟨a, rfl, h1, h2⟩ := rv
    exact mk rel hi rfl (fun _ h => h) ⟨a, rfl, h1⟩ (fun z => nomatch z) (fun b _ z => by cases z; exact h2) (fun b _ z => .inl (nv b z))
  | bor j =>
    have hσ : σ[j]? = some (some v) := rv
    have go : ∀ {y : SV}, getS α1 j = some y → y.own = true → RelS C G1 H1 y v → some (setS (delS α1 j) i y) = some α2 → Rel C α2 (σ.set i (some v)) G1 H1 ∧ Step C α σ G H α2 (σ.set i (some v)) G1 H1 := fun {y} hj ho hr e => by
      cases e
      have less : ∀ b, Own C (delS α1 j) σ b → Own C α1 σ b := fun b h => by
        rcases h with h | ⟨k, sv, h1, h2, h3⟩
        · exact .inl h
        · rw [getS_del] at h1
          split at h1
          · cases h1
          · exact .inr ⟨k, sv, h1, h2, h3⟩
      refine mk (rel.del j) (by unfold delS; rw [List.length_set]; exact hi) rfl less hr (fun z => by rw [z] at ho; cases ho) (fun a _ z h => ?_) (fun a _ z => .inr (.inr ⟨j, y, hj, ho, by rw [hσ, z]⟩))
      subst z
      rcases h with ⟨h, hp⟩ | ⟨k, sv, h1, h2, h3⟩
      · exact rel.pne h j y hj ho (hp ▸ hσ)
      · rw [getS_del] at h1
        split at h1
        · cases h1
        · rename_i nk
          exact nk (rel.apart k j sv y a h1 hj h2 ho h3 hσ)
    simp only at e
    cases g : getS α1 j with
    | none => rw [g] at e; cases e
    | some y =>
      obtain ⟨u, h1, h2⟩ := rel.sl j y g
      rw [hσ] at h1
      cases h1
      rw [g] at e
      cases y with
      | ol ds => exact go g rfl h2 e
      | od kvs => exact go g rfl h2 e
      | fr d => cases e
      | bor k => cases e
      | pen => cases e
end
def sSet (i : Nat) (f : EF) : SF := fun s => (f s).bind fun x s1 => match asn s1 i x with
  | some s2 => .ok .next s2
  | none => .no
section
variable {X : Cx} {W : WX} {f : EF} {pos : Pos} {e : Expr}
theorem ss_set {i : Nat} {x : Str} {pos' : Pos} (hN : X.N.Nodup) (hi : X.N[i]? = some x) (hx : Loc X.env.scope x) (he : SE X W e f) (hs : swapsWith e (some (.Name x pos')) pos.line X.env = pure false := by rfl) (hf : X.fn x = true ∨ X.env.scope.names.lookup x = some .local := by first | exact .inl rfl | exact .inr rfl | assumption) :
    SS X W (.Assign [.Name x pos'] e pos) (sSet i f) := (ps_set hN hi hx he hs hf).conseq fun D σ H ⟨pa, α, G, rel, h⟩ => by
  refine ⟨pa, α, G, rel, ?_⟩
  unfold sSet at h
  cases r : f α with
  | no => rw [r] at h; exact h
  | ex e α' => rw [r] at h; exact fun cls d G' H' rel' s' rx => h cls d σ G' H' rel' s' rx
  | ok x α1 =>
    rw [r] at h
    intro v G1 H1 rel1 st1 rv nv
    simp only [R.bind] at h
    cases r2 : asn α1 i x with
    | none => rw [r2] at h; exact h.elim
    | some α2 =>
      rw [r2] at h
      obtain ⟨rel2, st2⟩ := asn_ok rel1 st1 rv nv r2
      exact h _ G1 H1 rel2 st2
end
end Sx

namespace Sx
open PySem PySem.Spec L2

/-! ### targets -/
/-- what a loop hands over: data, or a new pair (no one else has it) -/
inductive LI where
  | d (d : D) | pr (ds : List D)
def ItV (C : Ct) (G H : Hp) (v : V) : LI → Prop
  | .d d => Dp C.K G v d
  | .pr ds => ∃ p vs, v = .ref p ∧ H p = some (.tup vs) ∧ DpAll C.K G vs ds
abbrev TF := LI → AS → Option AS
abbrev TFs := List D → AS → Option AS
/-- σ' is σ but at the slots ks -/
def But (ks : List Nat) (σ σ' : St) : Prop := σ'.length = σ.length ∧ ∀ k, k ∉ ks → σ'[k]? = σ[k]?
theorem But.refl (ks : List Nat) (σ : St) : But ks σ σ := ⟨rfl, fun _ _ => rfl⟩
theorem But.trans {ks : List Nat} {σ σ1 σ2 : St} (a : But ks σ σ1) (b : But ks σ1 σ2) : But ks σ σ2 := ⟨b.1.trans a.1, fun k h => (b.2 k h).trans (a.2 k h)⟩
theorem But.mono {ks js : List Nat} {σ σ' : St} (a : But ks σ σ') (h : ∀ k ∈ ks, k ∈ js) : But js σ σ' := ⟨a.1, fun k n => a.2 k fun z => n (h k z)⟩
def gT (X : Cx) (ks : List Nat) (t : TF) : TG := fun v σ H Q => ∃ pa α G d α', Rel (ct X pa) α σ G H ∧ ItV (ct X pa) G H v d ∧ t d α = some α' ∧ ∀ σ', But ks σ σ' → Rel (ct X pa) α' σ' G H → Step (ct X pa) α σ G H α' σ' G H → Q σ' H
def gTs (X : Cx) (ks : List Nat) (t : TFs) : TGs := fun vs σ H Q => ∃ pa α G ds α', Rel (ct X pa) α σ G H ∧ DpAll X.K G vs ds ∧ t ds α = some α' ∧ ∀ σ', But ks σ σ' → Rel (ct X pa) α' σ' G H → Step (ct X pa) α σ G H α' σ' G H → Q σ' H
abbrev SG (X : Cx) (tg : Expr) (ks : List Nat) (t : TF) : Prop := PG X tg (gT X ks t)
abbrev SGs (X : Cx) (tgs : List Expr) (ks : List Nat) (t : TFs) : Prop := PGs X tgs (gTs X ks t)
def tNm (i : Nat) : TF := fun x s => match x with
  | .d d => if i < s.sl.length then some (setS s i (.fr d)) else none
  | .pr _ => none
def tsNil : TFs := fun ds s => match ds with
  | [] => some s
  | _ => none
def tsCons (t : TF) (u : TFs) : TFs := fun ds s => match ds with
  | d :: r => match t (.d d) s with
    | some s1 => u r s1
    | none => none
  | [] => none
def tTp (n : Nat) (u : TFs) : TF := fun d s => match d with
  | .d (.tuple ds) => if ds.length = n then u ds s else none
  | .pr ds => if ds.length = n then u ds s else none
  | _ => none
theorem _root_.L2.PG.conseq {X : Cx} {e : Expr} {t t' : TG} (h : PG X e t) (i : ∀ v σ H Q, t' v σ H Q → t v σ H Q) : PG X e t' := ⟨fun pins s σ H v u Q I r q => h.run pins s σ H v u Q I r (i v σ H Q q)⟩
theorem _root_.L2.PGs.conseq {X : Cx} {e : List Expr} {t t' : TGs} (h : PGs X e t) (i : ∀ v σ H Q, t' v σ H Q → t v σ H Q) : PGs X e t' := ⟨fun pins s σ H v u Q I r q => h.run pins s σ H v u Q I r (i v σ H Q q)⟩
section
variable {X : Cx} {pos : Pos}
theorem set_fr {C : Ct} {α : AS} {σ : St} {G H : Hp} {i : Nat} {v : V} {d : D} (rel : Rel C α σ G H) (hi : i < α.sl.length) (hd : FrV C G v d) : Rel C (setS α i (.fr d)) (σ.set i (some v)) G H ∧ Step C α σ G H (setS α i (.fr d)) (σ.set i (some v)) G H := by
  refine ⟨rel.set hi hd (fun z => nomatch z) (fun _ z => nomatch z), Le.refl _, fun _ _ h _ => ⟨h, rfl⟩, fun _ h => h, fun b h => ?_, rfl⟩
  rcases own_set hi rel h with h | ⟨h1, _⟩
  · exact .inl h
  · cases h1
theorem sg_name {i : Nat} {x : Str} (hN : X.N.Nodup) (hi : X.N[i]? = some x) (hx : Loc X.env.scope x) (hf : X.fn x = true ∨ X.env.scope.names.lookup x = some .local := by first | exact .inl rfl | exact .inr rfl | assumption) : SG X (.Name x pos) [i] (tNm i) :=
  (pg_name hN hi hx hf).conseq fun v σ H Q ⟨pa, α, G, d, α', rel, hd, e, q⟩ => by
    cases d with
    | pr ds => cases e
    | d d =>
    unfold tNm at e
    simp only at e
    by_cases h : i < α.sl.length
    · rw [if_pos h] at e
      cases e
      obtain ⟨r1, s1⟩ := set_fr rel h (.of hd)
      exact q _ ⟨List.length_set .., fun k hk => List.getElem?_set_ne (fun (z : i = k) => hk (by rw [z]; exact List.mem_cons_self))⟩ r1 s1
    · rw [if_neg h] at e; cases e
theorem sgs_nil : SGs X [] [] tsNil := pgs_nil.conseq fun vs σ H Q ⟨pa, α, G, ds, α', rel, hd, e, q⟩ => by
  cases hd with
  | nil => cases e; exact ⟨rfl, q _ (But.refl _ _) rel Step.refl⟩
  | cons _ _ => cases e
theorem sgs_cons {e : Expr} {es : List Expr} {t : TF} {u : TFs} {ks js : List Nat} (h1 : SG X e ks t) (h2 : SGs X es js u) (hs : (assignEach (e :: es) X.env).map (·.2) = assign e X.env :: (assignEach es X.env).map (·.2) := by rfl) : SGs X (e :: es) (ks ++ js) (tsCons t u) :=
  (pgs_cons h1 h2 hs).conseq fun vs σ H Q ⟨pa, α, G, ds, α', rel, hd, e, q⟩ => by
    cases hd with
    | nil => cases e
    | @cons v vs d ds h1 h2 =>
      simp only [tsCons] at e
      cases e1 : t (.d d) α with
      | none => rw [e1] at e; cases e
      | some α1 =>
        rw [e1] at e
        exact ⟨v, vs, rfl, pa, α, G, .d d, α1, rel, h1, e1, fun σ1 b1 r1 s1 => ⟨pa, α1, G, ds, α', r1, h2, e, fun σ2 b2 r2 s2 => q σ2 ((b1.mono fun _ h => List.mem_append_left _ h).trans (b2.mono fun _ h => List.mem_append_right _ h)) r2 (s1.trans s2)⟩⟩
theorem sg_tup {es : List Expr} {k n : Nat} {t : TFs} {ks : List Nat} (hc : X.calm = true) (h : SGs X es ks t) (hn : (assignEach es X.env).length = n := by rfl) (hst : (assignEach es X.env).findIdx? (·.1) = none := by rfl) : SG X (.Tuple es k pos) ks (tTp n t) :=
  (pg_tup hc h hn hst).conseq fun v σ H Q ⟨pa, α, G, d, α', rel, hd, e, q⟩ => by
    cases d with
    | pr ds =>
      obtain ⟨p, vs, rfl, hp, hds⟩ := hd
      simp only [tTp] at e
      by_cases hl : ds.length = n
      · rw [if_pos hl] at e
        exact ⟨p, vs, rfl, .inl (.inl hp), hds.length.trans hl, pa, α, G, ds, α', rel, hds, e, q⟩
      · rw [if_neg hl] at e; cases e
    | d d =>
    have hd : Dp X.K G v d := hd
    cases hd with
    | @tup a vs ds hs hds =>
      simp only [tTp] at e
      by_cases hl : ds.length = n
      · rw [if_pos hl] at e
        exact ⟨a, vs, rfl, rel.le.sqT hs, hds.length.trans hl, pa, α, G, ds, α', rel, hds, e, q⟩
      · rw [if_neg hl] at e; cases e
    | _ => cases e
end

/-! ### what is walked -/
/-- J yields the items ds, from a state whose frozen part is G0 on -/
def Yld (C : Ct) (J : It) (ds : List LI) (G0 : Hp) : Prop := ∀ (α : AS) (σ : St) (G H : Hp), Le G0 G → Rel C α σ G H → (∀ i d, ds[i]? = some d → J.go i H ∧ ∀ x H2, J.yld i H x H2 → ∃ G2, Rel C α σ G2 H2 ∧ Step C α σ G H α σ G2 H2 ∧ ItV C G2 H2 x d) ∧ J.stop ds.length H
abbrev IF := AS → R (List LI)
def tI (X : Cx) (W : WX) (f : IF) : TI := fun σ H Rk => ∃ pa α G, Rel (ct X pa) α σ G H ∧ match f α with
  | .ok ds α' => ∀ J G' H', Rel (ct X pa) α' σ G' H' → Step (ct X pa) α σ G H α' σ G' H' → Yld (ct X pa) J ds G' → Rk J H'
  | .ex e α' => ∀ cls d G' H', Rel (ct X pa) α' σ G' H' → Step (ct X pa) α σ G H α' σ G' H' → RelX (ct X pa) X.mg G' H' e cls d → W cls d σ H'
  | .no => False
abbrev SI (X : Cx) (W : WX) (tg iter : Expr) (f : IF) : Prop := PI X tg iter (tI X W f)
theorem _root_.L2.PI.conseq {X : Cx} {tg e : Expr} {t t' : TI} (h : PI X tg e t) (i : ∀ σ H Q, t' σ H Q → t σ H Q) : PI X tg e t' := ⟨fun pins s σ H Q I q => h.run pins s σ H Q I (i σ H Q q)⟩
/-- a list or a tuple -/
def iSeq (K : PySem.W.Frag) (tl : TE) : TI := fun σ H R => tl σ H fun x H1 => ∃ a, x = .ref a ∧ (((∃ xs, SqL K H1 a xs) ∧ R (Itl K a) H1) ∨ ((∃ xs, SqT K H1 a xs) ∧ R (Itt K a) H1))
theorem pi_seq {X : Cx} {tg l : Expr} {tl : TE} (hl : PE X l tl) : PI X tg l (iSeq X.K tl) := ⟨fun pins s σ H R I h => thn (hl.run pins s σ H _ I h) fun v s1 ⟨x, H1, I1, r1, a, e, q⟩ => by
  subst e
  cases r1
  have new : ∀ (o : Obj), ∃ e', (s1.heap.push o).get? s1.heap.objs.size = e' := fun o => ⟨_, rfl⟩
  have fp : ∀ b ∈ [s1.heap.objs.size], FpOk X pins H1 b := fun b hb => by
    rw [List.mem_singleton.mp hb]
    exact I1.fpOk (Nat.le_refl _) (I1.hok.fresh (Nat.le_refl _))
  rcases q with ⟨⟨xs, hq⟩, q⟩ | ⟨⟨xs, hq⟩, q⟩
  · obtain ⟨its, _, p, _⟩ := I1.list hq
    exact wpAny_pyIter_list p.isList ⟨_, [s1.heap.objs.size], _, _, H1, rfl, I1.kept (t' := s1.toks) (fun b o e => Heap.get?_push_of_some _ e), turn_list a _, ⟨_, Heap.get?_push_size _ rfl, rfl, rfl⟩, fp, q⟩
  · obtain ⟨its, _, p, _⟩ := I1.tuple hq
    exact wpAny_pyIter_tuple (show s1.heap.IsTuple a its.toArray from p) ⟨_, [s1.heap.objs.size], _, _, H1, rfl, I1.kept (t' := s1.toks) (fun b o e => Heap.get?_push_of_some _ e), turn_tuple a _, ⟨_, Heap.get?_push_size _ rfl, rfl, rfl⟩, fp, q⟩⟩
def iSq (f : EF) : IF := fun s => (f s).bind fun x s1 => match fz s1 x with
  | some (.fr (.list ds), s2) => .ok (ds.map .d) s2
  | some (.fr (.tuple ds), s2) => .ok (ds.map .d) s2
  | _ => .no
theorem map_d_get {ds : List D} {i : Nat} {x : LI} (h : (ds.map LI.d)[i]? = some x) : ∃ d, ds[i]? = some d ∧ x = .d d := by
  rw [List.getElem?_map] at h
  cases e : ds[i]? with
  | none => rw [e] at h; cases h
  | some d => rw [e] at h; cases h; exact ⟨d, rfl, rfl⟩
section
variable {X : Cx} {W : WX} {tg e : Expr} {f : EF} {pos p : Pos}
theorem yld_list {C : Ct} {a : Addr} {vs : List V} {ds : List D} {G : Hp} (hs : SqL C.K G a vs) (hd : DpAll C.K G vs ds) : Yld C (Itl C.K a) (ds.map .d) G := fun α σ G1 H1 le rel => by
  have s1 : SqL C.K H1 a vs := (le.trans rel.le).sqL hs
  refine ⟨fun i d e => ?_, vs, s1, by rw [List.length_map]; exact Nat.le_of_eq hd.length⟩
  obtain ⟨d0, e0, rfl⟩ := map_d_get e
  obtain ⟨v, e1, dv⟩ := hd.get e0
  refine ⟨⟨vs, v, s1, e1⟩, fun x H2 ⟨e2, h⟩ => ?_⟩
  subst e2
  have := (h vs s1).symm.trans e1
  cases this
  exact ⟨G1, rel, Step.refl, le.dp _ _ dv⟩
theorem yld_tup {C : Ct} {a : Addr} {vs : List V} {ds : List D} {G : Hp} (hs : SqT C.K G a vs) (hd : DpAll C.K G vs ds) : Yld C (Itt C.K a) (ds.map .d) G := fun α σ G1 H1 le rel => by
  have s1 : SqT C.K H1 a vs := (le.trans rel.le).sqT hs
  refine ⟨fun i d e => ?_, vs, s1, by rw [List.length_map]; exact Nat.le_of_eq hd.length⟩
  obtain ⟨d0, e0, rfl⟩ := map_d_get e
  obtain ⟨v, e1, dv⟩ := hd.get e0
  refine ⟨⟨vs, v, s1, e1⟩, fun x H2 ⟨e2, h⟩ => ?_⟩
  subst e2
  have := (h vs s1).symm.trans e1
  cases this
  exact ⟨G1, rel, Step.refl, le.dp _ _ dv⟩
theorem si_seq (he : SE X W e f) : SI X W tg e (iSq f) := (pi_seq he).conseq fun σ H Q ⟨pa, α, G, rel, h⟩ => by
  refine ⟨pa, α, G, rel, ?_⟩
  unfold iSq at h
  cases r : f α with
  | no => rw [r] at h; exact h
  | ex x α' => rw [r] at h; exact h
  | ok x α1 =>
    rw [r] at h
    intro v G1 H1 rel1 st1 rv nv
    simp only [R.bind] at h
    cases r2 : fz α1 x with
    | none => rw [r2] at h; exact h.elim
    | some q =>
      obtain ⟨y, α2⟩ := q
      rw [r2] at h
      obtain ⟨G2, rel2, st2, av⟩ := fz_ok rel1 st1 rv nv r2
      cases y with
      | fr d =>
        cases d with
        | list ds =>
          cases (show Dp X.K G2 v (.list ds) from av) with
          | @lst a vs _ hs hd => exact ⟨a, rfl, .inl ⟨⟨vs, rel2.le.sqL hs⟩, h _ G2 H1 rel2 st2 (yld_list hs hd)⟩⟩
        | tuple ds =>
          cases (show Dp X.K G2 v (.tuple ds) from av) with
          | @tup a vs _ hs hd => exact ⟨a, rfl, .inr ⟨⟨vs, rel2.le.sqT hs⟩, h _ G2 H1 rel2 st2 (yld_tup hs hd)⟩⟩
        | _ => exact h.elim
      | _ => exact h.elim
/-! ranges -/
def rangeD (lo c : Int) (n : Nat) : List LI := (List.range n).map fun i => .d (.int (lo + (i : Nat) * c))
theorem rangeD_get {lo c : Int} {n i : Nat} {d : LI} (h : (rangeD lo c n)[i]? = some d) : i < n ∧ d = .d (.int (lo + (i : Nat) * c)) := by
  unfold rangeD at h
  rw [List.getElem?_map] at h
  by_cases hi : i < n
  · rw [List.getElem?_range hi] at h
    cases h
    exact ⟨hi, rfl⟩
  · rw [List.getElem?_eq_none (by rw [List.length_range]; omega)] at h
    cases h
theorem rangeD_len {lo c : Int} {n : Nat} : (rangeD lo c n).length = n := by unfold rangeD; rw [List.length_map, List.length_range]
def big (i : Int) : Bool := decide (-(2 ^ 62) ≤ i) && decide (i < 2 ^ 62)
theorem big_of {i : Int} (h : big i = true) : -(2 ^ 62) ≤ i ∧ i < 2 ^ 62 := by
  unfold big at h
  simpa using h
def intsS : List SV → Option (List Int)
  | [] => some []
  | .fr (.int i) :: r => match intsS r with
    | some ns => some (i :: ns)
    | none => none
  | _ :: _ => none
theorem args_ints {C : Ct} {α : AS} {G : Hp} : ∀ {xs : List SV} {ns : List Int} {vs : List V}, intsS xs = some ns → ArgsV C α G xs vs → vs = ns.map V.int
  | [], _, _, h, a => by cases h; cases a; rfl
  | .fr (.int i) :: r, ns, _, h, a => by
    simp only [intsS] at h
    cases e : intsS r with
    | none => rw [e] at h; cases h
    | some ms =>
      rw [e] at h
      cases h
      cases a with
      | cons h1 t =>
        cases (show Dp C.K G _ (.int i) from h1)
        rw [args_ints e t]
        rfl
  | .fr .none :: _, _, _, h, _ => by simp [intsS] at h
  | .fr (.bool _) :: _, _, _, h, _ => by simp [intsS] at h
  | .fr (.str _) :: _, _, _, h, _ => by simp [intsS] at h
  | .fr (.list _) :: _, _, _, h, _ => by simp [intsS] at h
  | .fr (.tuple _) :: _, _, _, h, _ => by simp [intsS] at h
  | .fr (.dict _) :: _, _, _, h, _ => by simp [intsS] at h
  | .ol _ :: _, _, _, h, _ => by simp [intsS] at h
  | .od _ :: _, _, _, h, _ => by simp [intsS] at h
  | .bor _ :: _, _, _, h, _ => by simp [intsS] at h
  | .pen :: _, _, _, h, _ => by simp [intsS] at h
/-- the items of a range, from its arguments -/
def rg1 : List Int → Option (List LI)
  | [j] => if big j then some (rangeD 0 1 j.toNat) else none
  | _ => none
def rg2 : List Int → Option (List LI)
  | [i, j] => if big i && big j then some (rangeD i 1 (j - i).toNat) else none
  | _ => none
def rg3 : List Int → Option (List LI)
  | [i, j, c] => if big i && big j && decide (c = -1) then some (rangeD i (-1) (i - j).toNat) else none
  | _ => none
def iRg (rg : List Int → Option (List LI)) (f : AF) : IF := fun s => (f s).bind fun xs s1 => match intsS xs with
  | some ns => match rg ns with
    | some ds => .ok ds s1
    | none => .no
  | none => .no
theorem yld_range {C : Ct} {lo : Int} {n : Nat} {G : Hp} : Yld C (Itr lo n) (rangeD lo 1 n) G := fun α σ G1 H1 le rel => by
  refine ⟨fun i d e => ?_, by rw [rangeD_len]; exact Nat.le_refl _⟩
  obtain ⟨hi, rfl⟩ := rangeD_get e
  refine ⟨hi, fun x H2 ⟨e1, e2⟩ => ?_⟩
  subst e1 e2
  rw [Int.mul_one]
  exact ⟨G1, rel, Step.refl, Dp.int _⟩
theorem yld_rangeC {C : Ct} {lo c : Int} {n : Nat} {G : Hp} : Yld C (Itc lo c n) (rangeD lo c n) G := fun α σ G1 H1 le rel => by
  refine ⟨fun i d e => ?_, by rw [rangeD_len]; exact Nat.le_refl _⟩
  obtain ⟨hi, rfl⟩ := rangeD_get e
  refine ⟨hi, fun x H2 ⟨e1, e2⟩ => ?_⟩
  subst e1 e2
  exact ⟨G1, rel, Step.refl, Dp.int _⟩
variable {a b c : Expr} {fa : AF}
theorem rg_core {rg : List Int → Option (List LI)} {W' : WX} {σ : St} {H : Hp} {Q : It → Hp → Prop} {r : List V → Hp → Prop} (h : tI X W' (iRg rg fa) σ H Q) (k : ∀ pa α G H1 (ns : List Int) ds, rg ns = some ds → Rel (ct X pa) α σ G H1 → (∀ J, Yld (ct X pa) J ds G → Q J H1) → r (ns.map V.int) H1) : tA X W' fa σ H r := by
  obtain ⟨pa, α, G, rel, h⟩ := h
  refine ⟨pa, α, G, rel, ?_⟩
  unfold iRg at h
  cases e : fa α with
  | no => rw [e] at h; exact h
  | ex x α' => rw [e] at h; exact h
  | ok xs α1 =>
    rw [e] at h
    intro vs G1 H1 rel1 st1 av
    simp only [R.bind] at h
    cases e1 : intsS xs with
    | none => rw [e1] at h; exact h.elim
    | some ns =>
      rw [e1] at h
      simp only at h
      cases e2 : rg ns with
      | none => rw [e2] at h; exact h.elim
      | some ds =>
        rw [e2] at h
        rw [args_ints e1 av]
        exact k pa α1 G1 H1 ns ds e2 rel1 fun J y => h J G1 H1 rel1 st1 y
theorem si_range1 (hg : Gl X "range") (hm : X.mg "range" = none) (ha : SA X W [a] fa) (hs : starEach [a] X.env = [(false, eval a X.env)] := by rfl) : SI X W tg (.Call (.Name "range" p) [a] [] pos) (iRg rg1 fa) := (pi_range1 hg hm ha hs).conseq fun σ H Q h =>
  rg_core h fun pa α G H1 ns ds e rel y => by
    unfold rg1 at e
    split at e
    · split at e
      · rename_i j hb
        cases e
        obtain ⟨h1, h2⟩ := big_of hb
        exact ⟨j, rfl, h1, h2, y _ yld_range⟩
      · cases e
    · cases e
theorem si_range2 (hg : Gl X "range") (hm : X.mg "range" = none) (ha : SA X W [a, b] fa) (hs : starEach [a, b] X.env = [(false, eval a X.env), (false, eval b X.env)] := by rfl) (hs2 : starEach [b] X.env = [(false, eval b X.env)] := by rfl) :
    SI X W tg (.Call (.Name "range" p) [a, b] [] pos) (iRg rg2 fa) := (pi_range2 hg hm ha hs hs2).conseq fun σ H Q h =>
  rg_core h fun pa α G H1 ns ds e rel y => by
    unfold rg2 at e
    split at e
    · split at e
      · rename_i i j hb
        cases e
        rw [Bool.and_eq_true] at hb
        obtain ⟨h1, h2⟩ := big_of hb.1
        obtain ⟨h3, h4⟩ := big_of hb.2
        exact ⟨i, j, rfl, ⟨h1, h2, h3, h4⟩, y _ yld_range⟩
      · cases e
    · cases e
theorem si_range3 (hg : Gl X "range") (hm : X.mg "range" = none) (ha : SA X W [a, b, c] fa) (hs : starEach [a, b, c] X.env = (false, eval a X.env) :: starEach [b, c] X.env := by rfl) (hpl : (backTo pos (starEach [b, c] X.env)).any (·.1) = false := by rfl) :
    SI X W tg (.Call (.Name "range" p) [a, b, c] [] pos) (iRg rg3 fa) := (pi_range3 hg hm ha hs hpl).conseq fun σ H Q h =>
  rg_core h fun pa α G H1 ns ds e rel y => by
    unfold rg3 at e
    split at e
    · split at e
      · rename_i i j c hb
        cases e
        rw [Bool.and_eq_true, Bool.and_eq_true] at hb
        obtain ⟨h1, h2⟩ := big_of hb.1.1
        obtain ⟨h3, h4⟩ := big_of hb.1.2
        have hc := of_decide_eq_true hb.2
        subst hc
        exact ⟨i, j, -1, _, rfl, RgC.neg h1 h2 h3 h4, y _ yld_rangeC⟩
      · cases e
    · cases e
/-! zip, enumerate: new pairs -/
def listD : SV → Option (Bool × List D)
  | .fr (.list ds) => some (true, ds)
  | .fr (.tuple ds) => some (false, ds)
  | _ => none
def zipD : List D → List D → List LI
  | a :: as, b :: bs => .pr [a, b] :: zipD as bs
  | _, _ => []
theorem zipD_get : ∀ {as bs : List D} {i : Nat} {d : LI}, (zipD as bs)[i]? = some d → ∃ a b, as[i]? = some a ∧ bs[i]? = some b ∧ d = .pr [a, b]
  | [], _, _, _, h => by simp [zipD] at h
  | _ :: _, [], _, _, h => by simp [zipD] at h
  | a :: as, b :: bs, 0, d, h => ⟨a, b, rfl, rfl, (Option.some.inj h).symm⟩
  | a :: as, b :: bs, i + 1, d, h => zipD_get (as := as) (bs := bs) (i := i) h
theorem zipD_len : ∀ (as bs : List D), as.length ≤ (zipD as bs).length ∨ bs.length ≤ (zipD as bs).length
  | [], _ => .inl (Nat.zero_le _)
  | _ :: _, [] => .inr (Nat.zero_le _)
  | a :: as, b :: bs => (zipD_len as bs).imp Nat.succ_le_succ Nat.succ_le_succ
/-- zip of two lists, of two tuples -/
def iZp (f : AF) : IF := fun s => (f s).bind fun xs s1 => match xs with
  | [x, y] => match listD x, listD y with
    | some (true, as), some (true, bs) => .ok (zipD as bs) s1
    | some (false, as), some (false, bs) => .ok (zipD as bs) s1
    | _, _ => .no
  | _ => .no
theorem pair_new {C : Ct} {α : AS} {σ : St} {G H : Hp} {T : Addr} {v u : V} {d e : D} (rel : Rel C α σ G H) (nT : H T = none) (h1 : Dp C.K G v d) (h2 : Dp C.K G u e) :
    ∃ G2, Rel C α σ G2 (upd H T (.tup [v, u])) ∧ Step C α σ G H α σ G2 (upd H T (.tup [v, u])) ∧ ItV C G2 (upd H T (.tup [v, u])) (.ref T) (.pr [d, e]) :=
  ⟨G, rel.laid _ nT, Step.laid _ nT, T, _, rfl, upd_same, .cons h1 (.cons h2 .nil)⟩
theorem yld_zip {C : Ct} {a b : Addr} {vs us : List V} {ds es : List D} {G : Hp} (hs : SqL C.K G a vs) (hd : DpAll C.K G vs ds) (ht : SqL C.K G b us) (he : DpAll C.K G us es) : Yld C (Itz C.K a b) (zipD ds es) G := fun α σ G1 H1 le rel => by
  have s1 : SqL C.K H1 a vs := (le.trans rel.le).sqL hs
  have s2 : SqL C.K H1 b us := (le.trans rel.le).sqL ht
  refine ⟨fun i d e => ?_, vs, us, s1, s2, by rw [hd.length, he.length]; exact zipD_len ds es⟩
  obtain ⟨x, y, e1, e2, rfl⟩ := zipD_get e
  obtain ⟨v, q1, dv⟩ := hd.get e1
  obtain ⟨u, q2, du⟩ := he.get e2
  refine ⟨⟨vs, us, v, u, s1, s2, q1, q2⟩, fun z H2 ⟨T, z1, z2, e3, nT, e4, h1, h2⟩ => ?_⟩
  subst e3 e4
  cases (h1 vs s1).symm.trans q1
  cases (h2 us s2).symm.trans q2
  exact pair_new rel nT (le.dp _ _ dv) (le.dp _ _ du)
theorem yld_zipT {C : Ct} {a b : Addr} {vs us : List V} {ds es : List D} {G : Hp} (hs : SqT C.K G a vs) (hd : DpAll C.K G vs ds) (ht : SqT C.K G b us) (he : DpAll C.K G us es) : Yld C (RZ.ItzT C.K a b) (zipD ds es) G := fun α σ G1 H1 le rel => by
  have s1 : SqT C.K H1 a vs := (le.trans rel.le).sqT hs
  have s2 : SqT C.K H1 b us := (le.trans rel.le).sqT ht
  refine ⟨fun i d e => ?_, vs, us, s1, s2, by rw [hd.length, he.length]; exact zipD_len ds es⟩
  obtain ⟨x, y, e1, e2, rfl⟩ := zipD_get e
  obtain ⟨v, q1, dv⟩ := hd.get e1
  obtain ⟨u, q2, du⟩ := he.get e2
  refine ⟨⟨vs, us, v, u, s1, s2, q1, q2⟩, fun z H2 ⟨T, z1, z2, e3, nT, e4, h1, h2⟩ => ?_⟩
  subst e3 e4
  cases (h1 vs s1).symm.trans q1
  cases (h2 us s2).symm.trans q2
  exact pair_new rel nT (le.dp _ _ dv) (le.dp _ _ du)
theorem si_zip {elts : List Expr} {kk : Nat} {tpos : Pos} (hg : Gl X "zip") (hm : X.mg "zip" = none) (ha : SA X W [a, b] fa) (hs : starEach [a, b] X.env = (false, eval a X.env) :: starEach [b] X.env := by rfl) (hpl : (backTo pos (starEach [b] X.env)).any (·.1) = false := by rfl) :
    SI X W (.Tuple elts kk tpos) (.Call (.Name "zip" p) [a, b] [] pos) (iZp fa) := (RZ.pi_zipA hg hm ha hs hpl).conseq fun σ H Q ⟨pa, α, G, rel, h⟩ => by
  refine ⟨pa, α, G, rel, ?_⟩
  unfold iZp at h
  cases e : fa α with
  | no => rw [e] at h; exact h
  | ex x α' => rw [e] at h; exact h
  | ok xs α1 =>
    rw [e] at h
    intro vs G1 H1 rel1 st1 av
    simp only [R.bind] at h
    match xs, av with
    | [], _ => exact h.elim
    | [_], _ => exact h.elim
    | _ :: _ :: _ :: _, _ => exact h.elim
    | [x, y], .cons v1 (.cons v2 .nil) =>
      cases x with
      | fr d =>
        cases y with
        | fr d' =>
          cases d with
          | list ds =>
            cases d' with
            | list es =>
              cases (show Dp X.K G1 _ (.list ds) from v1) with
              | lst hs hd => cases (show Dp X.K G1 _ (.list es) from v2) with
                | lst ht he => exact ⟨_, _, _, _, rfl, .inl ⟨rel1.le.sqL hs, rel1.le.sqL ht, h _ G1 H1 rel1 st1 (yld_zip hs hd ht he)⟩⟩
            | _ => exact h.elim
          | tuple ds =>
            cases d' with
            | tuple es =>
              cases (show Dp X.K G1 _ (.tuple ds) from v1) with
              | tup hs hd => cases (show Dp X.K G1 _ (.tuple es) from v2) with
                | tup ht he => exact ⟨_, _, _, _, rfl, .inr ⟨rel1.le.sqT hs, rel1.le.sqT ht, h _ G1 H1 rel1 st1 (yld_zipT hs hd ht he)⟩⟩
            | _ => exact h.elim
          | _ => exact h.elim
        | _ => cases d <;> exact h.elim
      | _ => exact h.elim
end
end Sx

namespace Sx
open PySem PySem.Spec L2

/-! ### for -/
def loopD (t : TF) (body : SF) : List LI → SF
  | [], s => .ok .next s
  | d :: ds, s => match t d s with
    | none => .no
    | some s1 => match body s1 with
      | .ok .next s2 => loopD t body ds s2
      | .ok .cont s2 => loopD t body ds s2
      | .ok .brk s2 => .ok .next s2
      | .ok (.ret x) s2 => .ok (.ret x) s2
      | .ex e s2 => .ex e s2
      | .no => .no
def sFor (it : IF) (t : TF) (body : SF) : SF := fun s => (it s).bind fun ds s1 => loopD t body ds s1
theorem le_step {C : Ct} {α α1 : AS} {σ σ1 : St} {G G1 H H1 : Hp} (st : Step C α σ G H α1 σ1 G1 H1) : Le G G1 := st.g
section
variable {X : Cx} {W : WX} {tg iter : Expr} {it : IF} {t : TF} {ks : List Nat} {body : List Stmt} {fb : SF} {pos : Pos}
theorem ss_for (hp : PassesOwn (model X.prog X.w) X.A X.env X.xe) (hc : X.calm = true) (hi : SI X W tg iter it) (hg : SG X tg ks t) (hb : SSs X W body fb) (hs : ∀ x, foldedSetIterable iter X.env x = pure x := by intro _; rfl) :
    SS X W (.For tg iter body [] pos) (sFor it t fb) := (ps_for hp hc hi hg hb hs).conseq fun D σ H ⟨pa, α, G, rel, h⟩ => by
  refine ⟨pa, α, G, rel, ?_⟩
  unfold sFor at h
  cases e : it α with
  | no => rw [e] at h; exact h
  | ex x α' => rw [e] at h; exact fun cls d G' H' rel' s' rx => h cls d σ G' H' rel' s' rx
  | ok ds α1 =>
    rw [e] at h
    intro J G1 H1 rel1 st1 yl
    refine ⟨fun i m σ' H' => m = ds.length - i ∧ i ≤ ds.length ∧ ∃ β G', Rel (ct X pa) β σ' G' H' ∧ Le G1 G' ∧ ResS (ct X pa) X.mg W σ' β G' H' (loopD t fb (ds.drop i) β) D, ⟨ds.length, by simp, Nat.zero_le _, α1, G1, rel1, Le.refl _, ResS.shift st1 h⟩, ?_⟩
    rintro i m σ2 H2 ⟨rfl, hi, β, G2, rel2, le2, h2⟩
    obtain ⟨y1, y2⟩ := yl β σ2 G2 H2 le2 rel2
    by_cases hlt : i < ds.length
    · refine .inr ?_
      have ed : ds[i]? = some ds[i] := List.getElem?_eq_getElem hlt
      obtain ⟨go, y3⟩ := y1 i _ ed
      refine ⟨go, fun σ' H' => ∃ β G', Rel (ct X pa) β σ' G' H' ∧ Le G1 G' ∧ ResS (ct X pa) X.mg W σ' β G' H' (loopD t fb (ds.drop (i + 1)) β) D, fun σ' H' n => ⟨ds.length - (i + 1), by omega, rfl, hlt, n⟩, fun x H3 hy => ?_⟩
      obtain ⟨G3, rel3, st3, dx⟩ := y3 x H3 hy
      rw [List.drop_eq_getElem_cons hlt] at h2
      simp only [loopD] at h2
      cases e1 : t ds[i] β with
      | none => rw [e1] at h2; exact h2.elim
      | some β1 =>
        rw [e1] at h2
        refine ⟨pa, β, G3, _, β1, rel3, dx, e1, fun σ4 b4 rel4 st4 => ⟨pa, β1, G3, rel4, ?_⟩⟩
        have st34 := st3.trans st4
        simp only at h2
        cases e2 : fb β1 with
        | no => rw [e2] at h2; exact h2
        | ex x α' => rw [e2] at h2; exact ResS.shift (r := .ex x α') st34 h2
        | ok fl β2 =>
          rw [e2] at h2
          cases fl with
          | next => exact fun σ5 G5 H5 rel5 st5 => ⟨β2, G5, rel5, (le2.trans st34.g).trans st5.g, ResS.shift (st34.trans st5) h2⟩
          | cont => exact fun σ5 G5 H5 rel5 st5 => ⟨β2, G5, rel5, (le2.trans st34.g).trans st5.g, ResS.shift (st34.trans st5) h2⟩
          | brk => exact fun σ5 G5 H5 rel5 st5 => h2 σ5 G5 H5 rel5 (st34.trans st5)
          | ret x => exact fun v σ5 G5 H5 rel5 st5 => h2 v σ5 G5 H5 rel5 (st34.trans st5)
    · have ei : i = ds.length := by omega
      subst ei
      rw [List.drop_length] at h2
      exact .inl ⟨y2, h2 σ2 G2 H2 rel2 Step.refl⟩
/-! ### while -/
def loopW (c : BF) (body : SF) : Nat → SF
  | 0, _ => .no
  | n + 1, s => (c s).bind fun b s1 => bif b then (match body s1 with
      | .ok .next s2 => loopW c body n s2
      | .ok .cont s2 => loopW c body n s2
      | .ok .brk s2 => .ok .next s2
      | .ok (.ret x) s2 => .ok (.ret x) s2
      | .ex e s2 => .ex e s2
      | .no => .no) else .ok .next s1
theorem ss_while {c : Expr} {gc : BF} (n : Nat) (hp : PassesOwn (model X.prog X.w) X.A X.env X.xe) (hc : ST X W c gc) (hb : SSs X W body fb) : SS X W (.While c body [] pos) (loopW gc fb n) := (ps_while hp hc hb).conseq fun D σ H ⟨pa, α, G, rel, h⟩ => by
  refine ⟨fun m σ' H' => ∃ β G', Rel (ct X pa) β σ' G' H' ∧ ResS (ct X pa) X.mg W σ' β G' H' (loopW gc fb m β) D, ⟨n, α, G, rel, h⟩, ?_⟩
  rintro m σ1 H1 ⟨β, G1, rel1, h1⟩
  cases m with
  | zero => exact h1.elim
  | succ m =>
    refine ⟨pa, β, G1, rel1, (ResB.midS h1).mono fun b H2 ⟨β2, G2, _, rel2, st2, r⟩ => ?_⟩
    cases b with
    | false => rw [if_neg Bool.false_ne_true]; exact r σ1 G2 H2 rel2 Step.refl
    | true =>
      rw [if_pos rfl]
      refine ⟨fun σ' H' => ∃ β G', Rel (ct X pa) β σ' G' H' ∧ ResS (ct X pa) X.mg W σ' β G' H' (loopW gc fb m β) D, fun σ' H' n => ⟨m, Nat.lt_succ_self _, n⟩, pa, β2, G2, rel2, ?_⟩
      simp only [cond_true] at r
      cases e2 : fb β2 with
      | no => rw [e2] at r; exact r
      | ex x α' => rw [e2] at r; exact r
      | ok fl β3 =>
        rw [e2] at r
        cases fl with
        | next => exact fun σ5 G5 H5 rel5 st5 => ⟨β3, G5, rel5, ResS.shift st5 r⟩
        | cont => exact fun σ5 G5 H5 rel5 st5 => ⟨β3, G5, rel5, ResS.shift st5 r⟩
        | brk => exact fun σ5 G5 H5 rel5 st5 => r σ5 G5 H5 rel5 st5
        | ret x => exact fun v σ5 G5 H5 rel5 st5 => r v σ5 G5 H5 rel5 st5
end

/-! ### comprehensions -/
/-- the slots vs forgotten -/
def wipeA (s : AS) : List Nat → AS
  | [] => s
  | v :: vs => delS (wipeA s vs) v
theorem getS_wipe {s : AS} : ∀ {vs : List Nat} {j : Nat}, getS (wipeA s vs) j = if j ∈ vs then none else getS s j
  | [], j => by rw [if_neg (by simp)]; rfl
  | v :: vs, j => by
    show getS (delS (wipeA s vs) v) j = _
    rw [getS_del, getS_wipe]
    by_cases h : j = v
    · rw [if_pos h, if_pos (by rw [h]; exact List.mem_cons_self)]
    · rw [if_neg h]
      by_cases h2 : j ∈ vs
      · rw [if_pos h2, if_pos (List.mem_cons_of_mem _ h2)]
      · rw [if_neg h2, if_neg (by simp [h, h2])]
theorem wipeA_len {s : AS} : ∀ {vs : List Nat}, (wipeA s vs).sl.length = s.sl.length
  | [] => rfl
  | v :: vs => by
    show (delS (wipeA s vs) v).sl.length = _
    unfold delS
    rw [List.length_set, wipeA_len]
theorem wipeA_pn {s : AS} : ∀ {vs : List Nat}, (wipeA s vs).pn = s.pn
  | [] => rfl
  | v :: vs => (wipeA_pn (s := s) (vs := vs))
section
variable {C : Ct} {α β : AS} {σ σ1 : St} {G G1 H H1 : Hp} {vs : List Nat}
theorem Rel.wipe (rel : Rel C α σ G H) : ∀ vs, Rel C (wipeA α vs) σ G H
  | [] => rel
  | v :: vs => (Rel.wipe rel vs).del v
theorem own_wipe {b : Addr} (h : Own C (wipeA α vs) σ b) : Own C α σ b := by
  rcases h with ⟨h, e⟩ | ⟨k, sv, h1, h2, h3⟩
  · rw [wipeA_pn] at h
    exact .inl ⟨h, e⟩
  · rw [getS_wipe] at h1
    split at h1
    · cases h1
    · exact .inr ⟨k, sv, h1, h2, h3⟩
theorem Step.wipe : Step C α σ G H (wipeA α vs) σ G H := ⟨Le.refl _, fun _ _ h _ => ⟨h, rfl⟩, fun _ h => h, fun _ h => .inl (own_wipe h), by rw [wipeA_pn]⟩
/-- the frame changed at the forgotten slots -/
theorem Rel.swap (rel : Rel C (wipeA α vs) σ G H) (hl : σ1.length = σ.length) (hk : ∀ k, k ∉ vs → σ1[k]? = σ[k]?) : Rel C (wipeA α vs) σ1 G H := by
  have at_ : ∀ {k sv}, getS (wipeA α vs) k = some sv → σ1[k]? = σ[k]? := fun {k sv} e => hk k fun z => by
    rw [getS_wipe, if_pos z] at e
    cases e
  exact ⟨rel.le, rel.nt, rel.len.trans hl.symm, fun k sv e => by rw [at_ e]; exact rel.sl k sv e, fun a b x y c ha hb hx hy h1 h2 => rel.apart a b x y c ha hb hx hy (by rw [← at_ ha]; exact h1) (by rw [← at_ hb]; exact h2), rel.pen, rel.ps, fun h k sv e ho => by rw [at_ e]; exact rel.pne h k sv e ho⟩
theorem own_swap {b : Addr} (hk : ∀ k, k ∉ vs → σ1[k]? = σ[k]?) (h : Own C (wipeA α vs) σ1 b) : Own C (wipeA α vs) σ b := by
  rcases h with h | ⟨k, sv, h1, h2, h3⟩
  · exact .inl h
  · refine .inr ⟨k, sv, h1, h2, ?_⟩
    rw [getS_wipe] at h1
    split at h1
    · cases h1
    · rename_i n
      rw [← hk k n]
      exact h3
theorem Step.swap (hk : ∀ k, k ∉ vs → σ1[k]? = σ[k]?) : Step C (wipeA α vs) σ G H (wipeA α vs) σ1 G H := ⟨Le.refl _, fun _ _ h _ => ⟨h, rfl⟩, fun _ h => h, fun _ h => .inl (own_swap hk h), rfl⟩
theorem wipe_get : ∀ {vs : List Nat} {k : Nat}, (L2.wipe σ vs)[k]? = if k ∈ vs then (if k < σ.length then some none else none) else σ[k]?
  | [], k => by rw [if_neg (by simp)]; rfl
  | v :: vs, k => by
    show ((L2.wipe σ vs).set v none)[k]? = _
    by_cases h : k = v
    · subst h
      rw [if_pos List.mem_cons_self]
      by_cases hl : k < σ.length
      · rw [if_pos hl, List.getElem?_set_self (by rw [wipe_length]; exact hl)]
      · rw [if_neg hl, List.getElem?_eq_none (by rw [List.length_set, wipe_length]; omega)]
    · rw [List.getElem?_set_ne (Ne.symm h), wipe_get]
      by_cases h2 : k ∈ vs
      · rw [if_pos h2, if_pos (List.mem_cons_of_mem _ h2)]
      · rw [if_neg h2, if_neg (by simp [h, h2])]
theorem wipe_off {k : Nat} (h : k ∉ vs) : (L2.wipe σ vs)[k]? = σ[k]? := by rw [wipe_get, if_neg h]
theorem wipe_but (h : But vs (L2.wipe σ vs) σ1) : L2.wipe σ1 vs = L2.wipe σ vs := by
  refine List.ext_getElem? fun k => ?_
  rw [wipe_get, wipe_get]
  have hl : σ1.length = σ.length := h.1.trans (wipe_length ..)
  by_cases hk : k ∈ vs
  · rw [if_pos hk, if_pos hk, hl]
  · rw [if_neg hk, if_neg hk, h.2 k hk, wipe_off hk]
end
def R.bindN {A B : Type} : R A → (A → AS → R B) → R B
  | .ok a s, f => f a s
  | _, _ => .no
/-- the turns of a comprehension; its parts raise nothing -/
def lcD (t : TF) (c : BF) (f : EF) (vs : List Nat) : List LI → List D → AS → R (List D)
  | [], acc, s => .ok acc s
  | d :: ds, acc, s => match t d s with
    | none => .no
    | some s1 => (c s1).bindN fun b s2 => bif b then ((f s2).bindN fun x s3 => match fz s3 x with
        | some (.fr y, s4) => (match nod y with
          | some y => lcD t c f vs ds (acc ++ [y]) (wipeA s4 vs)
          | none => .no)
        | _ => .no) else lcD t c f vs ds acc (wipeA s2 vs)
def bYes : BF := fun s => .ok true s
def eLc (it : IF) (t : TF) (c : BF) (f : EF) (vs : List Nat) : EF := fun s => (it s).bind fun ds s1 => if szOk ds.length then (lcD t c f vs ds [] (wipeA s1 vs)).bindN fun acc s2 => .ok (.ol acc) s2 else .no
abbrev W0 : WX := fun _ _ _ _ => False
abbrev STs (X : Cx) (ifs : List Expr) (c : BF) : Prop := PTs X ifs (tB X W0 c)
section
variable {C : Ct} {α α' : AS} {σ σ' : St} {G G' H H' : Hp}
theorem Rel.put (rel : Rel C α σ G H) {p : Addr} {o : HO} (hp : H p ≠ none) (hg : G p = none) (hn : ¬ Own C α σ p) : Rel C α σ G (upd H p o) where
  le := fun a u e => by
    rw [upd_ne (ne_of_none e hg)]; exact rel.le a u e
  nt := rel.nt
  len := rel.len
  sl := fun i sv e => by
    obtain ⟨w, h1, h2⟩ := rel.sl i sv e
    refine ⟨w, h1, ?_⟩
    cases sv with
    | fr d => exact h2
    | ol ds =>
      obtain ⟨b, rfl, hb, vs, h3, h4⟩ := h2
      have nb : b ≠ p := fun z => hn (z ▸ .inr ⟨i, _, e, rfl, h1⟩)
      exact ⟨b, rfl, hb, vs, by rw [upd_ne nb]; exact h3, h4⟩
    | od ds =>
      obtain ⟨b, rfl, hb, vs, h3, h4⟩ := h2
      have nb : b ≠ p := fun z => hn (z ▸ .inr ⟨i, _, e, rfl, h1⟩)
      exact ⟨b, rfl, hb, vs, by rw [upd_ne nb]; exact h3, h4⟩
    | bor i => exact h2
    | pen => exact h2
  apart := rel.apart
  pen := fun p' e => by
    obtain ⟨h1, c, h2, h3⟩ := rel.pen p' e
    have nb : C.pa ≠ p := fun z => hn (z ▸ .inl ⟨by rw [e]; rfl, rfl⟩)
    exact ⟨h1, c, by rw [upd_ne nb]; exact h2, h3⟩
  ps := rel.ps
  pne := rel.pne
theorem Step.put (st : Step C α σ G H α' σ' G' H') {p : Addr} {o : HO} (hp : H p = none) : Step C α σ G H α' σ' G' (upd H' p o) := ⟨st.g, fun b u h n => by rw [upd_ne (ne_of_none h hp)]; exact st.k b u h n, fun b h => by
  unfold upd; split
  · exact fun z => nomatch z
  · exact st.t b h, st.o, st.p⟩
end
theorem szOk_lt {n k : Nat} (h : szOk n = true) (l : k < n) : k < sizeLine := Nat.lt_of_lt_of_le l (szOk_le h)
section
variable {X : Cx} {W : WX} {tg iter elt : Expr} {ifs : List Expr} {scope : Scope} {own : List (Str × Nat)} {it : IF} {t : TF} {c : BF} {f : EF} {ks : List Nat} {pos : Pos}
theorem sts_nil : STs X [] bYes := ⟨fun pins s σ H Q I ⟨pa, α, G, rel, h⟩ => pts_nil.run pins s σ H Q I (h G H rel Step.refl)⟩
theorem sts_one {e : Expr} (h : ST X W0 e c) : STs X [e] c := pts_one h
/-- the reading of a comprehension, over the layer's own -/
theorem lc_go {σ : St} {H : Hp} {Q : VK} {vs : List Nat} (hks : ∀ k ∈ ks, k ∈ vs) (h : tE X W (eLc it t c f vs) σ H Q) : tLc (tI X W it) (gT X ks t) (tB X W0 c) (tE X W0 f) vs σ H Q := by
  obtain ⟨pa, α, G, rel, h⟩ := h
  refine ⟨pa, α, G, rel, ?_⟩
  unfold eLc at h
  cases e : it α with
  | no => rw [e] at h; exact h
  | ex x α' => rw [e] at h; exact h
  | ok ds α1 =>
    rw [e] at h
    intro J G1 H1 rel1 st1 yl D nD
    simp only [R.bind] at h
    by_cases hz : szOk ds.length = true
    case neg => rw [if_neg hz] at h; exact h.elim
    rw [if_pos hz] at h
    have h := Res.shift st1 h
    have g1 : G1 D = none := rel1.gone nD
    refine ⟨fun i m H' => m = ds.length - i ∧ i ≤ ds.length ∧ ∃ β G' acc us, Rel (ct X pa) (wipeA β vs) σ G' H' ∧ Step (ct X pa) α1 σ G1 H1 (wipeA β vs) σ G' H' ∧ H' D = some (.lst us) ∧ G' D = none ∧ ¬ Own (ct X pa) (wipeA β vs) σ D ∧ DpAll X.K G' us acc ∧ us.length ≤ i ∧ lcD t c f vs ds [] (wipeA α1 vs) = lcD t c f vs (ds.drop i) acc (wipeA β vs), ⟨ds.length, by simp, Nat.zero_le _, α1, G1, [], [], (rel1.wipe vs).laid _ nD, Step.wipe.trans (Step.laid _ nD), upd_same, g1, fun z => not_own rel1 nD (own_wipe z), .nil, Nat.le_refl _, rfl⟩, ?_⟩
    rintro i m H2 ⟨rfl, hi, β, G2, acc, us, rel2, st2, hD, gD, nO, da, ul, eq⟩
    obtain ⟨y1, y2⟩ := yl (wipeA β vs) σ G2 H2 st2.g rel2
    by_cases hlt : i < ds.length
    · have ed : ds[i]? = some ds[i] := List.getElem?_eq_getElem hlt
      obtain ⟨go, y3⟩ := y1 i _ ed
      rw [List.drop_eq_getElem_cons hlt] at eq
      simp only [lcD] at eq
      refine .inr ⟨go, fun H' => ∃ β G' acc us, Rel (ct X pa) (wipeA β vs) σ G' H' ∧ Step (ct X pa) α1 σ G1 H1 (wipeA β vs) σ G' H' ∧ H' D = some (.lst us) ∧ G' D = none ∧ ¬ Own (ct X pa) (wipeA β vs) σ D ∧ DpAll X.K G' us acc ∧ us.length ≤ i + 1 ∧ lcD t c f vs ds [] (wipeA α1 vs) = lcD t c f vs (ds.drop (i + 1)) acc (wipeA β vs), fun H' n => ⟨ds.length - (i + 1), by omega, rfl, hlt, n⟩, fun x H3 hy => ?_⟩
      obtain ⟨G3, rel3, st3, dx⟩ := y3 x H3 hy
      have off : ∀ k, k ∉ vs → (L2.wipe σ vs)[k]? = σ[k]? := fun k hk => wipe_off hk
      have rel3' := rel3.swap (σ1 := L2.wipe σ vs) (wipe_length ..) off
      have st3' : Step (ct X pa) (wipeA β vs) σ G2 H2 (wipeA β vs) (L2.wipe σ vs) G3 H3 := st3.trans (Step.swap off)
      cases e1 : t ds[i] (wipeA β vs) with
      | none => rw [e1] at eq; rw [eq] at h; exact h.elim
      | some β1 =>
        rw [e1] at eq
        simp only at eq
        refine ⟨pa, _, G3, _, β1, rel3', dx, e1, fun σ4 b4 rel4 st4 => ⟨wipe_but (b4.mono hks), pa, β1, G3, rel4, ?_⟩⟩
        have b4' := b4.mono hks
        have len4 : σ.length = σ4.length := (b4'.1.trans (wipe_length ..)).symm
        have off4 : ∀ k, k ∉ vs → σ[k]? = σ4[k]? := fun k hk => ((b4'.2 k hk).trans (off k hk)).symm
        have st4' := st3'.trans st4
        cases e2 : c β1 with
        | no => rw [e2] at eq; simp only [R.bindN] at eq; rw [eq] at h; exact h.elim
        | ex x5 α5 => rw [e2] at eq; simp only [R.bindN] at eq; rw [eq] at h; exact h.elim
        | ok b β2 =>
          rw [e2] at eq
          simp only [R.bindN] at eq
          intro G5 H5 rel5 st5
          have st5' := st4'.trans st5
          cases b with
          | false =>
            rw [if_neg Bool.false_ne_true]
            simp only [cond_false] at eq
            have T : Step (ct X pa) (wipeA β vs) σ G2 H2 (wipeA β2 vs) σ G5 H5 := (st5'.trans Step.wipe).trans (Step.swap off4)
            obtain ⟨k1, k2⟩ := T.k D _ hD nO
            exact ⟨β2, G5, acc, us, (rel5.wipe vs).swap len4 off4, st2.trans T, k1, k2.trans gD, (fun z => (T.o D z).elim nO fun q => by rw [hD] at q; cases q), T.g.dpAll _ _ da, Nat.le_succ_of_le ul, eq⟩
          | true =>
            rw [if_pos rfl]
            simp only [cond_true] at eq
            refine ⟨pa, β2, G5, rel5, ?_⟩
            cases e3 : f β2 with
            | no => rw [e3] at eq; simp only [R.bindN] at eq; rw [eq] at h; exact h.elim
            | ex x5 α5 => rw [e3] at eq; simp only [R.bindN] at eq; rw [eq] at h; exact h.elim
            | ok x6 β3 =>
              rw [e3] at eq
              simp only [R.bindN] at eq
              intro v G6 H6 rel6 st6 rv nv
              cases e4 : fz β3 x6 with
              | none => rw [e4] at eq; simp only at eq; rw [eq] at h; exact h.elim
              | some q =>
                obtain ⟨y, β4⟩ := q
                rw [e4] at eq
                obtain ⟨G7, rel7, st7, av⟩ := fz_ok rel6 st6 rv nv e4
                cases y with
                | fr dy0 =>
                  simp only at eq
                  cases q0 : nod dy0 with
                  | none => rw [q0] at eq; simp only at eq; rw [eq] at h; exact h.elim
                  | some dy =>
                  rw [q0] at eq
                  obtain ⟨rfl, nd⟩ := nod_eq q0
                  simp only at eq
                  have T : Step (ct X pa) (wipeA β vs) σ G2 H2 (wipeA β4 vs) σ G7 H6 := ((st5'.trans st7).trans Step.wipe).trans (Step.swap off4)
                  obtain ⟨k1, k2⟩ := T.k D _ hD nO
                  have nO' : ¬ Own (ct X pa) (wipeA β4 vs) σ D := fun z => (T.o D z).elim nO fun q => by rw [hD] at q; cases q
                  have g7 := k2.trans gD
                  refine ⟨us, k1, szOk_lt hz (Nat.lt_of_le_of_lt ul hlt), β4, G7, acc ++ [dy0], us ++ [v], ((rel7.wipe vs).swap len4 off4).put (some_ne k1) g7 nO', (st2.trans T).put nD, upd_same, g7, nO', (T.g.dpAll _ _ da).append (.cons (FrV.dp av nd) .nil), ?_, eq⟩
                  rw [List.length_append]
                  exact Nat.succ_le_succ ul
                | _ => simp only at eq; rw [eq] at h; exact h.elim
    · have ei : i = ds.length := by omega
      subst ei
      rw [List.drop_length] at eq
      simp only [lcD] at eq
      rw [eq] at h
      exact .inl ⟨y2, h (.ref D) G2 H2 rel2 st2 ⟨D, rfl, ⟨gD, us, hD, da⟩, nO⟩ fun a ea => by cases ea; exact nD⟩
theorem se_lc (hc : X.calm = true) (hN : X.N.Nodup) (hi : SI X W tg iter it) (ok : BlkOk X.N X.env.scope scope own) (hks : ∀ k ∈ ks, k ∈ own.map (·.2))
    (hg : ∀ (s : Shared) (H : Hp) (C : Addr) (cl : List (Str × Addr)) (fp : List Addr), SG (X.blk s H scope (compEnvC scope cl C X.env) fp) tg ks t) (ht : ∀ (s : Shared) (H : Hp) (C : Addr) (cl : List (Str × Addr)) (fp : List Addr), STs (X.blk s H scope (compEnvC scope cl C X.env) fp) ifs c)
    (he : ∀ (s : Shared) (H : Hp) (C : Addr) (cl : List (Str × Addr)) (fp : List Addr), SE (X.blk s H scope (compEnvC scope cl C X.env) fp) W0 elt f) (hs : ∀ x, foldedSetIterable iter X.env x = pure x := by intro _; rfl) :
    SE X W (.ListComp elt [⟨tg, iter, ifs, 0⟩] scope pos) (eLc it t c f (own.map (·.2))) :=
  (pe_lc (g := gT X ks t) (tt := tB X W0 c) (te := tE X W0 f) hc hN hi ok hg ht he hs).conseq fun σ H Q h => lc_go hks h
/-- name = [..] -/
theorem ss_setLc {i : Nat} {y : Str} {py spos : Pos} (hc : X.calm = true) (hN : X.N.Nodup) (hy : X.N[i]? = some y) (hyl : X.env.scope.names.lookup y = some .local) (hsw : swapsWith (.ListComp elt [⟨tg, iter, ifs, 0⟩] scope pos) (some (.Name y py)) spos.line X.env = pure true)
    (hi : SI X W tg iter it) (ok : BlkOk X.N X.env.scope scope own) (hks : ∀ k ∈ ks, k ∈ own.map (·.2))
    (hg : ∀ (s : Shared) (H : Hp) (C : Addr) (cl : List (Str × Addr)) (fp : List Addr), SG (X.blk s H scope (compEnvC scope cl C X.env) fp) tg ks t) (ht : ∀ (s : Shared) (H : Hp) (C : Addr) (cl : List (Str × Addr)) (fp : List Addr), STs (X.blk s H scope (compEnvC scope cl C X.env) fp) ifs c)
    (he : ∀ (s : Shared) (H : Hp) (C : Addr) (cl : List (Str × Addr)) (fp : List Addr), SE (X.blk s H scope (compEnvC scope cl C X.env) fp) W0 elt f) (hs : ∀ x, foldedSetIterable iter X.env x = pure x := by intro _; rfl) :
    SS X W (.Assign [.Name y py] (.ListComp elt [⟨tg, iter, ifs, 0⟩] scope pos) spos) (sSet i (eLc it t c f (own.map (·.2)))) :=
  (ps_setLc (g := gT X ks t) (tt := tB X W0 c) (te := tE X W0 f) hc hN hy hyl hsw hi ok hg ht he hs).conseq fun D σ H ⟨pa, α, G, rel, h⟩ => by
    refine lc_go hks ⟨pa, α, G, rel, ?_⟩
    unfold sSet at h
    cases r : eLc it t c f (own.map (·.2)) α with
    | no => rw [r] at h; exact h
    | ex e α' => rw [r] at h; exact fun cls d G' H' rel' s' rx => h cls d σ G' H' rel' s' rx
    | ok x α1 =>
      rw [r] at h
      intro v G1 H1 rel1 st1 rv nv
      simp only [R.bind] at h
      cases r2 : asn α1 i x with
      | none => rw [r2] at h; exact h.elim
      | some α2 =>
        rw [r2] at h
        obtain ⟨rel2, st2⟩ := asn_ok rel1 st1 rv nv r2
        exact h _ G1 H1 rel2 st2
end
end Sx

namespace Sx
open PySem PySem.Spec L2
open PyProof.Rows hiding St

/-! ### functions -/
/-- room, and no guard of a repr on the stack -/
structure RoomG (k : Nat) (A : Around) : Prop where
  r : Room k A
  g : A.guards = some []
theorem RoomG.mono {j k : Nat} {A : Around} (r : RoomG k A) (h : j ≤ k) : RoomG j A := ⟨r.r.mono h, r.g⟩
/-- a def's promise where no guard stands -/
structure FnG (P : Program) (w : World) (K : PySem.W.Frag) (mg : Str → Option Value) (base : Heap) (CX : CXT) (k : Nat) (f : Addr) (fd : FuncData) (ps : List Str) (sp : Sp) : Prop where
  len : ∀ vs H Q E, sp vs H Q E → vs.length = ps.length
  run : ∀ (A : Around) (outer : List Env) (s : Shared) (H : Hp) (args : Args) (us : List Value) (vs : List V) (Q : VK) (E : XK), RoomG k A → Env0 P w K mg base A outer s H → BindsTo s fd args (ps.zip us) → Vals vs us → sp vs H Q E →
    codeAny (model P w) A (.call (.ref f) args) (CR CX outer P w H s Q E) s
theorem FnG.of {P : Program} {w : World} {K : PySem.W.Frag} {mg : Str → Option Value} {base : Heap} {CX : CXT} {k : Nat} {f : Addr} {fd : FuncData} {ps : List Str} {sp : Sp} (F : FnOk P w K mg base CX k f fd ps sp) : FnG P w K mg base CX k f fd ps sp :=
  ⟨F.len, fun A outer s H args us vs Q E hr => F.run A outer s H args us vs Q E hr.r⟩
theorem FnG.mono {P : Program} {w : World} {K : PySem.W.Frag} {mg : Str → Option Value} {base : Heap} {CX : CXT} {j k : Nat} {f : Addr} {fd : FuncData} {ps : List Str} {sp : Sp} (F : FnG P w K mg base CX j f fd ps sp) (h : j ≤ k) : FnG P w K mg base CX k f fd ps sp :=
  ⟨F.len, fun A outer s H args us vs Q E hr => F.run A outer s H args us vs Q E (hr.mono h)⟩
theorem FnG.imp {P : Program} {w : World} {K : PySem.W.Frag} {mg : Str → Option Value} {base : Heap} {CX : CXT} {k : Nat} {f : Addr} {fd : FuncData} {ps : List Str} {sp sp' : Sp} (F : FnG P w K mg base CX k f fd ps sp)
    (h : ∀ vs H Q E, sp' vs H Q E → sp vs H Q E) : FnG P w K mg base CX k f fd ps sp' :=
  ⟨fun vs H Q E q => F.len vs H Q E (h _ _ _ _ q), fun A outer s H args us vs Q E hr he hb hv hs => F.run A outer s H args us vs Q E hr he hb hv (h _ _ _ _ hs)⟩
/-- THE RULE for a def -/
theorem okG {P : Program} {w : World} {K : PySem.W.Frag} {mg : Str → Option Value} {base : Heap} {CX : CXT} {x qual : Str} {st : Stmt} {f : Addr} {fd : FuncData} {N ps : List Str} {k : Nat} {sp : Sp} (F : Fun K x qual st f fd) (S : FnScope N ps (defScope st)) (len : ∀ vs H Q E, sp vs H Q E → vs.length = ps.length)
    (hbody : ∀ (cdv : Value) (A : Around) (outer : List Env) (s : Shared) (H : Hp) (vs : List V) (Q : VK) (E : XK), RoomG k (A.deeper (envOfC qual (defScope st) s.heap.objs.size f cdv)) → sp vs H Q E →
      ∃ t, PSs (cxOf CX P w K mg base N qual (defScope st) f cdv A outer s H E) (defBody st) t ∧ t { nx := fun _ H' => Q .non H', rt := Q } (start N vs) H) : FnG P w K mg base CX (k + 1) f fd ps sp := by
  obtain ⟨oc, od, kV, doc, pm, an, cdv, ct, osl, rfl, lk, hcd⟩ := F.ex
  exact ⟨len, fun A outer s H args us vs Q E hr e0 hb r hs => LamX.run_ofS lk hcd S hr.r e0 hb r (len _ _ _ _ hs) fun hr2 => hbody cdv A outer s H vs Q E ⟨hr2, hr.g⟩ hs⟩
section
variable {X : Cx} {CX : CXT} {k : Nat} {f C : Addr} {fd : FuncData} {ps : List Str} {sp : Sp} {E : St → XK} {x m : Str} {p pos apos : Pos} {e o : Expr} {es : List Expr} {ta : TE} {t : TA}
theorem run_fnG {pins : List (Addr × Obj)} {σ : St} {H : Hp} {s : Shared} {Q : VK} {us : List Value} {vs : List V} (F : FnG X.prog X.w X.K X.mg X.base CX k f fd ps sp) (hr : RoomG k X.A) (hb : Binds X.K fd ps []) (hx : PassesAt CX X σ (E σ))
    (I : Inv X pins σ H s) (r : Vals vs us) (h : sp vs H Q (E σ)) : wpAny (model X.prog X.w) X.A (call (.ref f) us) (EP X pins σ Q) X.xe s := by
  have hl : us.length = ps.length := by rw [← r.length]; exact F.len _ _ _ _ h
  have b := hb s us I.kIn (by rw [List.append_nil]; exact hl)
  rw [List.append_nil] at b
  refine wpAny_call (codeAny_mono (F.run X.A X.stack s H ⟨us, []⟩ us vs Q (E σ) hr I.env0 b r h) fun r s' hq => ?_)
  cases r with
  | error e => exact hx pins H s e s' I hq
  | ok fl =>
    cases fl with
    | ret u => exact I.after hq
    | next => exact False.elim hq
    | brk => exact False.elim hq
    | cont => exact False.elim hq
theorem pe_callG (F : FnG X.prog X.w X.K X.mg X.base CX k f fd ps sp) (hr : RoomG k X.A) (hg : Gl X x) (hm : X.mg x = some (.ref f)) (hk : PySem.W.keepIn X.K (.ref f) = true) (hb : Binds X.K fd ps []) (hx : ∀ σ, PassesAt CX X σ (E σ))
    (ha : PA X (e :: es) t) (hdb : (x == ("__debug__" : Str)) = false := by decide) (he : starEach (e :: es) X.env = (false, eval e X.env) :: starEach es X.env := by rfl) (hpl : (backTo pos (starEach es X.env)).any (·.1) = false := by rfl) :
    PE X (.Call (.Name x p) (e :: es) [] pos) (tCallS sp E t) := by
  refine ⟨fun pins s σ H Q I h => ?_⟩
  refine wpAny_Call_Name_kw (ld_glob I hg hm ?_ hdb)
  refine PySem.W.callWith_K (h₀ := X.base) I.ok.mod.kin hk (thn (ha.run pos pins s σ H _ I h) fun us s1 ⟨vs, H1, I1, r, q⟩ => ⟨I1.kIn, ?_⟩) he hpl
  exact run_fnG F hr hb (hx σ) I1 r q
end
/-- what a function upon told data gives -/
inductive RD where
  | ok (d : D) | ex (e : Ex) | no
/-- all that was tracked stands; the told part grows -/
structure Grow (G H G' H' : Hp) : Prop where
  l : Le G' H'
  n : NG G'
  g : Le G G'
  k : ∀ a o, H a = some o → H' a = some o ∧ G' a = G a
/-- the promise of a function upon told data (it changes nothing) -/
def spD (P : Program) (w : World) (K : PySem.W.Frag) (mg : Str → Option Value) (g : List D → RD) : Sp := fun vs H Q E => ∃ G ds, Le G H ∧ NG G ∧ FrAll ⟨P, w, K, 0⟩ G vs ds ∧ match g ds with
  | .ok d => ∀ v G' H', Grow G H G' H' → FrV ⟨P, w, K, 0⟩ G' v d → Q v H'
  | .ex e => ∀ cls dd G' H', Grow G H G' H' → RelX ⟨P, w, K, 0⟩ mg G' H' e cls dd → E cls dd H'
  | .no => False
/-- the call -/
def datsF : List SV → Option (List D)
  | [] => some []
  | .fr d :: r => match datsF r with
    | some ds => some (d :: ds)
    | none => none
  | _ => none
mutual
theorem fd_pa {P : Program} {w : World} {K : PySem.W.Frag} {a b : Addr} {G : Hp} : ∀ {v : V} {d : D}, Fd ⟨P, w, K, a⟩ G v d → Fd ⟨P, w, K, b⟩ G v d
  | _, _, .pl h => .pl h
  | _, _, .dic h e => .dic h (fdE_pa e)
theorem fdE_pa {P : Program} {w : World} {K : PySem.W.Frag} {a b : Addr} {G : Hp} : ∀ {xs : List Ent} {kvs : List (D × D)}, FdEnts ⟨P, w, K, a⟩ G xs kvs → FdEnts ⟨P, w, K, b⟩ G xs kvs
  | _, _, .nil => .nil
  | _, _, .cons h1 h0 h2 h3 t => .cons h1 h0 h2 (fd_pa h3) (fdE_pa t)
end
theorem fr_pa {P : Program} {w : World} {K : PySem.W.Frag} {a b : Addr} {G : Hp} {v : V} {d : D} (h : FrV ⟨P, w, K, a⟩ G v d) : FrV ⟨P, w, K, b⟩ G v d := (fd_pa h.fd).fr
theorem args_datsF {C : Ct} {α : AS} {G : Hp} {a : Addr} : ∀ {xs : List SV} {vs : List V} {ds : List D}, ArgsV C α G xs vs → datsF xs = some ds → FrAll ⟨C.P, C.w, C.K, a⟩ G vs ds
  | [], _, _, h, e => by cases h; cases e; exact .nil
  | .fr d :: r, _, _, h, e => by
    cases h with | cons h1 h2 =>
    simp only [datsF] at e
    cases q : datsF r with
    | none => rw [q] at e; cases e
    | some ds' => rw [q] at e; cases e; exact .cons (fr_pa (show FrV C G _ d from h1)) (args_datsF h2 q)
  | .ol _ :: _, _, _, _, e => by simp [datsF] at e
  | .od _ :: _, _, _, _, e => by simp [datsF] at e
  | .bor _ :: _, _, _, _, e => by simp [datsF] at e
  | .pen :: _, _, _, _, e => by simp [datsF] at e
def eCall (g : List D → RD) (f : AF) : EF := fun s => (f s).bind fun xs s1 => match datsF xs with
  | some ds => match g ds with
    | .ok d => .ok (.fr d) s1
    | .ex e => .ex e s1
    | .no => .no
  | none => .no
section
variable {C : Ct} {α : AS} {σ : St} {G G' H H' : Hp}
/-- the caller's state behind it -/
theorem Rel.grow (rel : Rel C α σ G H) (w : Grow G H G' H') : Rel C α σ G' H' where
  le := w.l
  nt := w.n
  len := rel.len
  sl := fun i sv e => by
    obtain ⟨u, h1, h2⟩ := rel.sl i sv e
    refine ⟨u, h1, ?_⟩
    cases sv with
    | fr d => exact w.g.fr h2
    | ol ds =>
      obtain ⟨b, rfl, hb, vs, h3, h4⟩ := h2
      obtain ⟨q1, q2⟩ := w.k b _ h3
      exact ⟨b, rfl, q2.trans hb, vs, q1, w.g.dpAll _ _ h4⟩
    | od ds =>
      obtain ⟨b, rfl, hb, vs, h3, h4⟩ := h2
      obtain ⟨q1, q2⟩ := w.k b _ h3
      exact ⟨b, rfl, q2.trans hb, vs, q1, w.g.fdEnts h4⟩
    | bor i => exact h2
    | pen => exact h2
  apart := rel.apart
  pen := fun p' e => by
    obtain ⟨h1, c, h2, h3⟩ := rel.pen p' e
    obtain ⟨q1, q2⟩ := w.k _ _ h2
    exact ⟨q2.trans h1, c, q1, w.g.sqL h3⟩
  ps := rel.ps
  pne := rel.pne
theorem Step.grow (w : Grow G H G' H') : Step C α σ G H α σ G' H' := ⟨w.g, fun a o h _ => w.k a o h, fun a h => by
  cases e : H a with
  | none => exact absurd e h
  | some o => exact some_ne (w.k a o e).1, fun _ h => .inl h, rfl⟩
end
section
variable {X : Cx} {W : WX} {k : Nat} {f : Addr} {fd : FuncData} {ps : List Str} {g : List D → RD} {x : Str} {p pos : Pos} {e : Expr} {es : List Expr} {fa : AF}
theorem relX_pa {P : Program} {w : World} {K : PySem.W.Frag} {mg : Str → Option Value} {G H : Hp} {ex : Ex} {cls : Value} {dd : Option Addr} {a b : Addr} (h : RelX ⟨P, w, K, a⟩ mg G H ex cls dd) : RelX ⟨P, w, K, b⟩ mg G H ex cls dd := h
theorem se_call (F : FnG X.prog X.w X.K X.mg X.base (L2.CX X.prog X.w) k f fd ps (spD X.prog X.w X.K X.mg g)) (hr : RoomG k X.A) (hg : Gl X x) (hm : X.mg x = some (.ref f)) (hk : PySem.W.keepIn X.K (.ref f) = true) (hb : Binds X.K fd ps []) (tk : Takes X W) (ha : SA X W (e :: es) fa)
    (hdb : (x == ("__debug__" : Str)) = false := by decide) (he : starEach (e :: es) X.env = (false, eval e X.env) :: starEach es X.env := by rfl) (hpl : (backTo pos (starEach es X.env)).any (·.1) = false := by rfl) :
    SE X W (.Call (.Name x p) (e :: es) [] pos) (eCall g fa) := (pe_callG F hr hg hm hk hb (fun σ => passAt tk σ) ha hdb he hpl).conseq fun σ H Q ⟨pa, α, G, rel, h⟩ => by
  refine ⟨pa, α, G, rel, ?_⟩
  unfold eCall at h
  cases r : fa α with
  | no => rw [r] at h; exact h
  | ex x α' => rw [r] at h; exact h
  | ok xs α1 =>
    rw [r] at h
    intro vs G1 H1 rel1 st1 av
    simp only [R.bind] at h
    cases e1 : datsF xs with
    | none => rw [e1] at h; exact h.elim
    | some ds =>
      rw [e1] at h
      simp only at h
      refine ⟨G1, ds, rel1.le, rel1.nt, args_datsF av e1, ?_⟩
      cases e2 : g ds with
      | no => rw [e2] at h; exact h.elim
      | ok d =>
        rw [e2] at h
        exact fun v G2 H2 w dv => h v G2 H2 (rel1.grow w) (st1.trans (Step.grow w)) (fr_pa dv) trivial
      | ex x5 =>
        rw [e2] at h
        exact fun cls dd G2 H2 w rx => h cls dd G2 H2 (rel1.grow w) (st1.trans (Step.grow w)) (relX_pa rx)
end
/-! ### a def -/
/-- the state at the start -/
def initS (n : Nat) (ds : List D) : AS := ⟨ds.map (fun d => some (.fr d)) ++ List.replicate (n - ds.length) none, none⟩
/-- what the body's end tells -/
def outD : R Fl → RD
  | .ok .next _ => .ok .none
  | .ok (.ret (.fr d)) _ => .ok d
  | .ex e _ => .ex e
  | _ => .no
theorem getS_init {n : Nat} {ds : List D} {i : Nat} {sv : SV} (h : getS (initS n ds) i = some sv) : ∃ d, ds[i]? = some d ∧ sv = .fr d := by
  unfold getS initS at h
  simp only at h
  by_cases hi : i < ds.length
  · rw [List.getElem?_append_left (by rw [List.length_map]; exact hi), List.getElem?_map, List.getElem?_eq_getElem hi] at h
    cases h
    exact ⟨_, List.getElem?_eq_getElem hi, rfl⟩
  · rw [List.getElem?_append_right (by rw [List.length_map]; omega)] at h
    rw [List.length_map] at h
    cases e : (List.replicate (n - ds.length) (none : Option SV))[i - ds.length]? with
    | none => rw [e] at h; cases h
    | some o =>
      have := List.eq_of_mem_replicate (List.mem_of_getElem? e)
      rw [e, this] at h
      cases h
theorem start_get {N : List Str} {vs : List V} {i : Nat} {v : V} (h : vs[i]? = some v) : (L2.start N vs)[i]? = some (some v) := by
  unfold L2.start
  have hi := (List.getElem?_eq_some_iff.mp h).1
  rw [List.getElem?_append_left (by rw [List.length_map]; exact hi), List.getElem?_map, h]
  rfl
theorem rel_init {C : Ct} {N : List Str} {G H : Hp} {vs : List V} {ds : List D} (hl : Le G H) (hn : NG G) (hd : FrAll C G vs ds) : Rel C (initS N.length ds) (L2.start N vs) G H := by
  have own : ∀ {i sv}, getS (initS N.length ds) i = some sv → ∃ d, ds[i]? = some d ∧ sv = .fr d := fun h => getS_init h
  refine ⟨hl, hn, ?_, fun i sv e => ?_, fun i j x y a hi hj hx => ?_, (fun p e => nomatch e), fun i e => ?_, (fun e => nomatch e)⟩
  · unfold initS L2.start
    simp only [List.length_append, List.length_map, List.length_replicate, hd.length]
  · obtain ⟨d, h1, rfl⟩ := own e
    obtain ⟨v, h2, h3⟩ := hd.get h1
    exact ⟨v, start_get h2, h3⟩
  · obtain ⟨d, _, rfl⟩ := own hi
    cases hx
  · obtain ⟨d, _, e2⟩ := own e
    cases e2
theorem no_own {C : Ct} {n : Nat} {ds : List D} {σ : St} {a : Addr} : ¬ Own C (initS n ds) σ a := by
  rintro (⟨h, _⟩ | ⟨i, sv, h1, h2, _⟩)
  · cases h
  · obtain ⟨d, _, rfl⟩ := getS_init h1
    cases h2
section
variable {P : Program} {w : World} {K : PySem.W.Frag} {mg : Str → Option Value} {base : Heap}
/-- THE RULE: a body that does f keeps the promise of what f tells -/
theorem fn_mk {x qual : Str} {st : Stmt} {f : Addr} {fd : FuncData} {N ps : List Str} {k : Nat} (F : Fun K x qual st f fd) (S : FnScope N ps (defScope st)) (body : SF) (g : List D → RD)
    (hg : ∀ ds, (g ds = .no ∨ ds.length = ps.length ∧ g ds = outD (body (initS N.length ds))))
    (hbody : ∀ (cdv : Value) (A : Around) (outer : List Env) (s : Shared) (H : Hp) (E : XK), RoomG k (A.deeper (envOfC qual (defScope st) s.heap.objs.size f cdv)) →
      SSs (cxOf (L2.CX P w) P w K mg base N qual (defScope st) f cdv A outer s H E) (fun cls d _ H => E cls d H) (defBody st) body) : FnG P w K mg base (L2.CX P w) (k + 1) f fd ps (spD P w K mg g) := by
  refine okG F S (fun vs H Q E h => ?_) (fun cdv A outer s H vs Q E hr h => ⟨tS (cxOf (L2.CX P w) P w K mg base N qual (defScope st) f cdv A outer s H E) (fun cls d _ H => E cls d H) body, hbody cdv A outer s H E hr, ?_⟩)
  · obtain ⟨G, ds, _, _, hd, h⟩ := h
    rcases hg ds with e | ⟨e, _⟩
    · rw [e] at h; exact h.elim
    · rw [hd.length]; exact e
  · obtain ⟨G, ds, hl, hn, hd, h⟩ := h
    rcases hg ds with e | ⟨_, e⟩
    · rw [e] at h; exact h.elim
    · rw [e] at h
      refine ⟨0, initS N.length ds, G, rel_init (C := ⟨P, w, K, 0⟩) hl hn hd, ?_⟩
      have grow : ∀ {α' : AS} {σ' : St} {G' H' : Hp}, Rel ⟨P, w, K, 0⟩ α' σ' G' H' → Step ⟨P, w, K, 0⟩ (initS N.length ds) (L2.start N vs) G H α' σ' G' H' → Grow G H G' H' := fun r st => ⟨r.le, r.nt, st.g, fun a o h => st.k a o h no_own⟩
      cases r : body (initS N.length ds) with
      | no => rw [r] at h; exact h
      | ex x5 α' => rw [r] at h; exact fun cls dd σ' G' H' rel' st' rx => h cls dd G' H' (grow rel' st') rx
      | ok fl α' =>
        rw [r] at h
        cases fl with
        | next => exact fun σ' G' H' rel' st' => h .non G' H' (grow rel' st') .non
        | brk => exact h.elim
        | cont => exact h.elim
        | ret y =>
          cases y with
          | fr d => exact fun v σ' G' H' rel' st' av => h v G' H' (grow rel' st') av
          | _ => exact h.elim
end
end Sx

namespace Sx
open PySem PySem.Spec L2
open PyProof.Rows hiding St

/-! ### defs that draw: the pen first -/
inductive RN where
  | ok (d : D) (p : Pen) | ex (e : Ex) (p : Pen) | no
structure GrowN (C : Ct) (p' : Pen) (G H G' H' : Hp) : Prop where
  l : Le G' H'
  n : NG G'
  g : Le G G'
  k : ∀ a o, a ≠ C.pa → H a = some o → H' a = some o ∧ G' a = G a
  p : PenAt C p' G' H'
def spN (P : Program) (w : World) (K : PySem.W.Frag) (mg : Str → Option Value) (g : List D → Pen → RN) : Sp := fun vs H Q E => ∃ pa p G us ds, vs = .ref pa :: us ∧ Le G H ∧ NG G ∧ PenAt ⟨P, w, K, pa⟩ p G H ∧ FrAll ⟨P, w, K, 0⟩ G us ds ∧ match g ds p with
  | .ok d p' => ∀ v G' H', GrowN ⟨P, w, K, pa⟩ p' G H G' H' → FrV ⟨P, w, K, 0⟩ G' v d → Q v H'
  | .ex e p' => ∀ cls dd G' H', GrowN ⟨P, w, K, pa⟩ p' G H G' H' → RelX ⟨P, w, K, 0⟩ mg G' H' e cls dd → E cls dd H'
  | .no => False
def setP (s : AS) (p : Pen) : AS := { s with pn := some p }
def eCallN (g : List D → Pen → RN) (f : AF) : EF := fun s => (f s).bind fun xs s1 => match xs with
  | .pen :: r => match datsF r with
    | some ds => match s1.pn with
      | some p => match g ds p with
        | .ok d p' => .ok (.fr d) (setP s1 p')
        | .ex e p' => .ex e (setP s1 p')
        | .no => .no
      | none => .no
    | none => .no
  | _ => .no
section
variable {C : Ct} {α : AS} {σ : St} {G G' H H' : Hp} {p p' : Pen}
theorem Rel.growN (rel : Rel C α σ G H) (hp : α.pn = some p) (w : GrowN C p' G H G' H') : Rel C (setP α p') σ G' H' where
  le := w.l
  nt := w.n
  len := rel.len
  sl := fun i sv e => by
    obtain ⟨u, h1, h2⟩ := rel.sl i sv e
    refine ⟨u, h1, ?_⟩
    have ne : ∀ b, sv.own = true → u = .ref b → b ≠ C.pa := fun b ho eu z => rel.pne (by rw [hp]; rfl) i sv e ho (by rw [h1, eu, z])
    cases sv with
    | fr d => exact w.g.fr h2
    | ol ds =>
      obtain ⟨b, rfl, hb, vs, h3, h4⟩ := h2
      obtain ⟨q1, q2⟩ := w.k b _ (ne b rfl rfl) h3
      exact ⟨b, rfl, q2.trans hb, vs, q1, w.g.dpAll _ _ h4⟩
    | od ds =>
      obtain ⟨b, rfl, hb, vs, h3, h4⟩ := h2
      obtain ⟨q1, q2⟩ := w.k b _ (ne b rfl rfl) h3
      exact ⟨b, rfl, q2.trans hb, vs, q1, w.g.fdEnts h4⟩
    | bor i => exact h2
    | pen => exact h2
  apart := rel.apart
  pen := fun q e => by cases e; exact w.p
  ps := fun i e => rfl
  pne := fun _ => rel.pne (by rw [hp]; rfl)
theorem Step.growN (hp : α.pn = some p) (w : GrowN C p' G H G' H') : Step C α σ G H (setP α p') σ G' H' := ⟨w.g, fun a o h n => w.k a o (fun z => n (.inl ⟨by rw [hp]; rfl, z⟩)) h, fun a h => by
  cases e : H a with
  | none => exact absurd e h
  | some o =>
    by_cases z : a = C.pa
    · obtain ⟨_, c, q, _⟩ := w.p; rw [z]; exact some_ne q
    · exact some_ne (w.k a o z e).1, fun a h => by
  rcases h with ⟨_, h⟩ | h
  · exact .inl (.inl ⟨by rw [hp]; rfl, h⟩)
  · exact .inl (.inr h), by rw [hp]; rfl⟩
end
section
variable {X : Cx} {W : WX} {k : Nat} {f : Addr} {fd : FuncData} {ps : List Str} {g : List D → Pen → RN} {x : Str} {p pos : Pos} {e : Expr} {es : List Expr} {fa : AF}
theorem se_callN (F : FnG X.prog X.w X.K X.mg X.base (L2.CX X.prog X.w) k f fd ps (spN X.prog X.w X.K X.mg g)) (hr : RoomG k X.A) (hg : Gl X x) (hm : X.mg x = some (.ref f)) (hk : PySem.W.keepIn X.K (.ref f) = true) (hb : Binds X.K fd ps []) (tk : Takes X W) (ha : SA X W (e :: es) fa)
    (hdb : (x == ("__debug__" : Str)) = false := by decide) (he : starEach (e :: es) X.env = (false, eval e X.env) :: starEach es X.env := by rfl) (hpl : (backTo pos (starEach es X.env)).any (·.1) = false := by rfl) :
    SE X W (.Call (.Name x p) (e :: es) [] pos) (eCallN g fa) := (pe_callG F hr hg hm hk hb (fun σ => passAt tk σ) ha hdb he hpl).conseq fun σ H Q ⟨pa, α, G, rel, h⟩ => by
  refine ⟨pa, α, G, rel, ?_⟩
  unfold eCallN at h
  cases r : fa α with
  | no => rw [r] at h; exact h
  | ex x α' => rw [r] at h; exact h
  | ok xs α1 =>
    rw [r] at h
    intro vs G1 H1 rel1 st1 av
    simp only [R.bind] at h
    cases av with
    | nil => exact h.elim
    | @cons x0 v0 xs vs h0 av =>
    cases x0 with
    | pen =>
      simp only at h
      obtain ⟨rfl, hs⟩ := h0
      cases e1 : datsF xs with
      | none => rw [e1] at h; exact h.elim
      | some ds =>
        rw [e1] at h
        simp only at h
        cases e0 : α1.pn with
        | none => rw [e0] at h; exact h.elim
        | some p0 =>
        rw [e0] at h
        simp only at h
        refine ⟨pa, p0, G1, vs, ds, rfl, rel1.le, rel1.nt, rel1.pen p0 e0, args_datsF av e1, ?_⟩
        cases e2 : g ds p0 with
        | no => rw [e2] at h; exact h.elim
        | ok d p1 =>
          rw [e2] at h
          exact fun v G2 H2 w dv => h v G2 H2 (rel1.growN e0 w) (st1.trans (Step.growN e0 w)) (fr_pa dv) trivial
        | ex x5 p1 =>
          rw [e2] at h
          exact fun cls dd G2 H2 w rx => h cls dd G2 H2 (rel1.growN e0 w) (st1.trans (Step.growN e0 w)) (relX_pa rx)
    | fr d => exact h.elim
    | ol d => exact h.elim
    | od d => exact h.elim
    | bor d => exact h.elim
end
/-! ### a def that draws -/
def initN (n : Nat) (ds : List D) (p : Pen) : AS := ⟨some .pen :: (ds.map (fun d => some (.fr d)) ++ List.replicate (n - (ds.length + 1)) none), some p⟩
def outN : R Fl → RN
  | .ok .next s => match s.pn with
    | some p => .ok .none p
    | none => .no
  | .ok (.ret (.fr d)) s => match s.pn with
    | some p => .ok d p
    | none => .no
  | .ex e s => match s.pn with
    | some p => .ex e p
    | none => .no
  | _ => .no
theorem getS_initN {n : Nat} {ds : List D} {p : Pen} {i : Nat} {sv : SV} (h : getS (initN n ds p) i = some sv) : (i = 0 ∧ sv = .pen) ∨ ∃ j d, i = j + 1 ∧ ds[j]? = some d ∧ sv = .fr d := by
  cases i with
  | zero => exact .inl ⟨rfl, by cases h; rfl⟩
  | succ j =>
    have h : getS (⟨ds.map (fun d => some (.fr d)) ++ List.replicate (n - (ds.length + 1)) none, none⟩ : AS) j = some sv := h
    have h : getS (initS (ds.length + (n - (ds.length + 1))) ds) j = some sv := by unfold initS; rw [Nat.add_sub_cancel_left]; exact h
    obtain ⟨d, h1, h2⟩ := getS_init h
    exact .inr ⟨j, d, rfl, h1, h2⟩
theorem rel_initN {C : Ct} {N : List Str} {G H : Hp} {us : List V} {ds : List D} {p : Pen} (hl : Le G H) (hn : NG G) (hp : PenAt C p G H) (hd : FrAll C G us ds) : Rel C (initN N.length ds p) (L2.start N (.ref C.pa :: us)) G H := by
  have noown : ∀ {i sv}, getS (initN N.length ds p) i = some sv → sv.own = true → False := fun h ho => by
    rcases getS_initN h with ⟨_, rfl⟩ | ⟨j, d, _, _, rfl⟩ <;> cases ho
  refine ⟨hl, hn, ?_, fun i sv e => ?_, fun i j x y a hi hj hx => (noown hi hx).elim, (fun q e => by cases e; exact hp), fun i e => rfl, (fun _ i sv e ho => (noown e ho).elim)⟩
  · unfold initN L2.start
    simp only [List.length_append, List.length_cons, List.length_map, List.length_replicate, hd.length]
    omega
  · rcases getS_initN e with ⟨rfl, rfl⟩ | ⟨j, d, rfl, h1, rfl⟩
    · exact ⟨.ref C.pa, start_get rfl, rfl⟩
    · obtain ⟨v, h2, h3⟩ := hd.get h1
      exact ⟨v, start_get (by exact h2), h3⟩
theorem own_initN {C : Ct} {n : Nat} {ds : List D} {p : Pen} {σ : St} {a : Addr} (h : Own C (initN n ds p) σ a) : a = C.pa := by
  rcases h with ⟨_, h⟩ | ⟨i, sv, h1, h2, _⟩
  · exact h
  · rcases getS_initN h1 with ⟨_, rfl⟩ | ⟨j, d, _, _, rfl⟩ <;> cases h2
section
variable {P : Program} {w : World} {K : PySem.W.Frag} {mg : Str → Option Value} {base : Heap}
theorem fn_mkN {x qual : Str} {st : Stmt} {f : Addr} {fd : FuncData} {N ps : List Str} {k : Nat} (F : Fun K x qual st f fd) (S : FnScope N ps (defScope st)) (body : SF) (g : List D → Pen → RN)
    (hg : ∀ ds p, (g ds p = .no ∨ ds.length + 1 = ps.length ∧ g ds p = outN (body (initN N.length ds p))))
    (hbody : ∀ (cdv : Value) (A : Around) (outer : List Env) (s : Shared) (H : Hp) (E : XK), RoomG k (A.deeper (envOfC qual (defScope st) s.heap.objs.size f cdv)) →
      SSs (cxOf (L2.CX P w) P w K mg base N qual (defScope st) f cdv A outer s H E) (fun cls d _ H => E cls d H) (defBody st) body) : FnG P w K mg base (L2.CX P w) (k + 1) f fd ps (spN P w K mg g) := by
  refine okG F S (fun vs H Q E h => ?_) (fun cdv A outer s H vs Q E hr h => ⟨tS (cxOf (L2.CX P w) P w K mg base N qual (defScope st) f cdv A outer s H E) (fun cls d _ H => E cls d H) body, hbody cdv A outer s H E hr, ?_⟩)
  · obtain ⟨pa, p, G, us, ds, rfl, _, _, _, hd, h⟩ := h
    rcases hg ds p with e | ⟨e, _⟩
    · rw [e] at h; exact h.elim
    · rw [List.length_cons, hd.length]; exact e
  · obtain ⟨pa, p, G, us, ds, rfl, hl, hn, hp, hd, h⟩ := h
    rcases hg ds p with e | ⟨_, e⟩
    · rw [e] at h; exact h.elim
    · rw [e] at h
      have hd' : FrAll ⟨P, w, K, pa⟩ G us ds := by
        have key : ∀ {us : List V} {ds : List D}, FrAll ⟨P, w, K, 0⟩ G us ds → FrAll ⟨P, w, K, pa⟩ G us ds := fun {us ds} h => by
          induction h with
          | nil => exact .nil
          | cons h _ ih => exact .cons (fr_pa h) ih
        exact key hd
      refine ⟨pa, initN N.length ds p, G, rel_initN (C := ⟨P, w, K, pa⟩) hl hn hp hd', ?_⟩
      have grow : ∀ {α' : AS} {σ' : St} {G' H' : Hp} {p' : Pen}, α'.pn = some p' → Rel ⟨P, w, K, pa⟩ α' σ' G' H' → Step ⟨P, w, K, pa⟩ (initN N.length ds p) (L2.start N (.ref pa :: us)) G H α' σ' G' H' → GrowN ⟨P, w, K, pa⟩ p' G H G' H' := fun e r st => ⟨r.le, r.nt, st.g, fun a o n h => st.k a o h fun z => n (own_initN z), r.pen _ e⟩
      cases r : body (initN N.length ds p) with
      | no => rw [r] at h; exact h
      | ex x5 α' =>
        rw [r] at h
        simp only [outN] at h
        cases e1 : α'.pn with
        | none => rw [e1] at h; exact h.elim
        | some p' =>
          rw [e1] at h
          exact fun cls dd σ' G' H' rel' st' rx => h cls dd G' H' (grow e1 rel' st') (relX_pa rx)
      | ok fl α' =>
        rw [r] at h
        cases fl with
        | next =>
          simp only [outN] at h
          cases e1 : α'.pn with
          | none => rw [e1] at h; exact h.elim
          | some p' =>
            rw [e1] at h
            exact fun σ' G' H' rel' st' => h .non G' H' (grow e1 rel' st') .non
        | brk => exact h.elim
        | cont => exact h.elim
        | ret y =>
          cases y with
          | fr d =>
            simp only [outN] at h
            cases e1 : α'.pn with
            | none => rw [e1] at h; exact h.elim
            | some p' =>
              rw [e1] at h
              exact fun v σ' G' H' rel' st' av => h v G' H' (grow e1 rel' st') (fr_pa (show FrV ⟨P, w, K, pa⟩ G' v d from av))
          | _ => exact h.elim
end
end Sx

namespace Sx
open PySem PySem.Spec L2
open PyProof.Rows hiding St

/-! ### subscripts -/
theorem atI_dp {K : PySem.W.Frag} {G : Hp} {vs : List V} {ds : List D} {i : Int} {d : D} (h : DpAll K G vs ds) (e : atI ds i = some d) : ∃ v, atI vs i = some v ∧ Dp K G v d := by
  unfold atI at e ⊢
  rw [h.length]
  cases q : ixN ds.length i with
  | none => rw [q] at e; cases e
  | some j =>
    rw [q] at e
    obtain ⟨v, h1, h2⟩ := h.get (show ds[j]? = some d from e)
    exact ⟨v, h1, h2⟩
def gIx : D → D → Option SV
  | .list ds, .int i => (atI ds i).map .fr
  | .tuple ds, .int i => (atI ds i).map .fr
  | _, _ => none
section
variable {X : Cx} {W : WX} {a b e : Expr} {fa fb fe : EF} {pos : Pos}
theorem se_ix (ha : SE X W a fa) (hb : SE X W b fb) (hs : PlainIx b) : SE X W (.Subscript a b pos) (op2 gIx fa fb) := (pe_ix ix_seq ha hb hs).conseq fun σ H Q h => by
  obtain ⟨pa, α, G, rel, h⟩ := t_op2 h
  refine ⟨pa, α, G, rel, h.mono fun v H1 ⟨pa1, α1, G1, rel1, h1⟩ => ⟨pa1, α1, G1, rel1, h1.mono fun u H2 ⟨pa2, α2, G2, d, e, z, hat, hd, he, hg⟩ => ?_⟩⟩
  cases e with
  | int i =>
    cases (show Dp X.K G2 u (.int i) from he)
    cases d with
    | list ds =>
      obtain ⟨l, vs, rfl, hs, hv⟩ := hd
      simp only [gIx] at hg
      cases q : atI ds i with
      | none => rw [q] at hg; cases hg
      | some y =>
        rw [q] at hg
        cases hg
        obtain ⟨w, h1, h2⟩ := atI_dp hv q
        exact .inl ⟨l, vs, i, w, rfl, rfl, hs, h1, out_d hat.rel hat.res h2⟩
    | tuple ds =>
      cases (show Dp X.K G2 v (.tuple ds) from hd) with
      | @tup l vs _ hs hv =>
        simp only [gIx] at hg
        cases q : atI ds i with
        | none => rw [q] at hg; cases hg
        | some y =>
          rw [q] at hg
          cases hg
          obtain ⟨w, h1, h2⟩ := atI_dp hv q
          exact .inr (.inl ⟨l, vs, i, w, rfl, rfl, hat.rel.le.sqT hs, h1, out_d hat.rel hat.res h2⟩)
    | _ => cases hg
  | _ => cases d <;> cases hg
/-! slices -/
def cutD (ds : List D) (lo hi : Option Int) : List D := (ds.drop (HT.sIx ds.length 0 lo)).take (HT.sIx ds.length ds.length hi - HT.sIx ds.length 0 lo)
theorem cut_dp {K : PySem.W.Frag} {G : Hp} {vs : List V} {ds : List D} (h : DpAll K G vs ds) (lo hi : Option Int) : DpAll K G (cutV vs lo hi) (cutD ds lo hi) := by
  unfold cutV cutD
  rw [h.length]
  exact (h.drop _).take _
/-- a part of a slice -/
def PF := AS → R (Option Int)
def pNo : PF := fun s => .ok none s
def pOf (f : EF) : PF := fun s => (f s).bind fun x s1 => match x with
  | .fr (.int i) => .ok (some i) s1
  | _ => .no
def ResP (C : Ct) (mg : Str → Option Value) (W : WX) (σ : St) (α : AS) (G H : Hp) (r : R (Option Int)) (Q : Option Int → Hp → Prop) : Prop := match r with
  | .ok b α' => ∀ G' H', Rel C α' σ G' H' → Step C α σ G H α' σ G' H' → Q b H'
  | .ex e α' => ∀ cls d G' H', Rel C α' σ G' H' → Step C α σ G H α' σ G' H' → RelX C mg G' H' e cls d → W cls d σ H'
  | .no => False
def tP (X : Cx) (W : WX) (f : PF) : TO := fun σ H Q => ∃ pa α G, Rel (ct X pa) α σ G H ∧ ResP (ct X pa) X.mg W σ α G H (f α) Q
abbrev SP' (X : Cx) (W : WX) (e : Option Expr) (f : PF) : Prop := PO X e (tP X W f)
theorem _root_.L2.PO.conseq {X : Cx} {e : Option Expr} {t t' : TO} (h : PO X e t) (i : ∀ σ H Q, t' σ H Q → t σ H Q) : PO X e t' := ⟨fun pins s σ H Q I q => h.run pins s σ H Q I (i σ H Q q)⟩
theorem sp_none : SP' X W none pNo := po_none.conseq fun σ H Q ⟨pa, α, G, rel, h⟩ => h G H rel Step.refl
theorem sp_some (he : SE X W e fe) : SP' X W (some e) (pOf fe) := (po_some he).conseq fun σ H Q ⟨pa, α, G, rel, h⟩ => by
  refine ⟨pa, α, G, rel, ?_⟩
  unfold pOf at h
  cases r : fe α with
  | no => rw [r] at h; exact h
  | ex x α' => rw [r] at h; exact h
  | ok x α1 =>
    rw [r] at h
    intro v G1 H1 rel1 st1 rv nv
    cases x with
    | fr d =>
      cases d with
      | int i =>
        cases (show Dp X.K G1 v (.int i) from rv)
        exact ⟨i, rfl, h G1 H1 rel1 st1⟩
      | _ => exact h.elim
    | _ => exact h.elim
def eSl (f : EF) (lo hi : PF) : EF := fun s => (f s).bind fun x s1 => (lo s1).bind fun l s2 => (hi s2).bind fun u s3 => match rdv s3 x with
  | some (.list ds) => .ok (.ol (cutD ds l u)) s3
  | some (.tuple ds) => .ok (.fr (.tuple (cutD ds l u))) s3
  | _ => .no
theorem cut_all {ds : List D} {lo hi : Option Int} (h1 : HT.sIx ds.length 0 lo = 0) (h2 : HT.sIx ds.length ds.length hi = ds.length) : cutD ds lo hi = ds := by
  unfold cutD
  rw [h1, h2, List.drop_zero, Nat.sub_zero, List.take_length]
theorem ResP.mid {C : Ct} {mg : Str → Option Value} {W : WX} {σ : St} {α : AS} {G H : Hp} {f : R (Option Int)} {k : Option Int → AS → R SV} {Q : VK} (h : Res C mg W σ α G H (f.bind k) Q) :
    ResP C mg W σ α G H f fun b H1 => ∃ α1 G1, f = .ok b α1 ∧ Rel C α1 σ G1 H1 ∧ Step C α σ G H α1 σ G1 H1 ∧ Res C mg W σ α1 G1 H1 (k b α1) Q := by
  cases f with
  | ok y α' => exact fun G' H' rel st => ⟨α', G', rfl, rel, st, Res.shift st h⟩
  | ex e α' => exact h
  | no => exact h
theorem ResP.mono {C : Ct} {mg : Str → Option Value} {W : WX} {σ : St} {α : AS} {G H : Hp} {r : R (Option Int)} {Q Q' : Option Int → Hp → Prop} (h : ResP C mg W σ α G H r Q) (hq : ∀ b H, Q b H → Q' b H) : ResP C mg W σ α G H r Q' := by
  cases r with
  | ok y α' => exact fun G' H' rel st => hq _ _ (h G' H' rel st)
  | ex e α' => exact h
  | no => exact h
/-- t[lo:hi], a new one told whole -/
def rSlF (K : PySem.W.Frag) : V → Option Int → Option Int → Hp → VK → Prop := fun x lo hi H Q => ∃ a xs, x = .ref a ∧ SqT K H a xs ∧
  (HT.sIx xs.length 0 lo = 0 ∧ HT.sIx xs.length xs.length hi = xs.length → Q (.ref a) H) ∧ (¬ (HT.sIx xs.length 0 lo = 0 ∧ HT.sIx xs.length xs.length hi = xs.length) → NT Q H (cutV xs lo hi))
theorem sl_tupF : SlR X (rSlF X.K) := by
  intro pins s σ H x v vl vu lo hi sl Q I rx hs pl pu h
  obtain ⟨a, xs, rfl, hx, q1, q2⟩ := h
  by_cases hw : HT.sIx xs.length 0 lo = 0 ∧ HT.sIx xs.length xs.length hi = xs.length
  · exact sl_tupA pins s σ H _ v vl vu lo hi sl Q I rx hs pl pu ⟨a, xs, rfl, hx, q1, fun n => absurd hw n⟩
  · obtain rfl : v = Value.ref a := rx
    obtain ⟨its, r, ht, hz⟩ := I.tuple hx
    have el : its.toArray.size = xs.length := by rw [List.size_toArray]; exact r.length.symm
    have en := NT.ends I ((r.drop (HT.sIx xs.length 0 lo)).take (HT.sIx xs.length xs.length hi - HT.sIx xs.length 0 lo)) (Nat.le_trans (cutV_length xs lo hi) hz) (q2 hw)
    refine ⟨"tuple", _, PyProof.Rows.slot_tuple_getitem.lookup, ht.typeIs, HT.getItem_tuple_cut ht hs pl pu (by rw [el]; exact hw) ?_ (by rw [el]; exact hz)⟩
    rw [el]
    exact en
theorem se_slice {lo hi : Option Expr} {p2 : Pos} {fl fh : PF} (he : SE X W e fe) (hl : SP' X W lo fl) (hh : SP' X W hi fh) : SE X W (.Subscript e (.Slice lo hi none p2) pos) (eSl fe fl fh) := (pe_slice (sl_list.or sl_tupF) he hl hh).conseq fun σ H Q ⟨pa, α, G, rel, h⟩ => by
  refine ⟨pa, α, G, rel, (Res.mid h).mono fun v H1 ⟨x, α1, G1, _, rel1, st1, rv, nv, r⟩ => ⟨pa, α1, G1, rel1, (ResP.mid r).mono fun l H2 ⟨α2, G2, _, rel2, st2, r2⟩ => ⟨pa, α2, G2, rel2, (ResP.mid r2).mono fun u H3 ⟨α3, G3, _, rel3, st3, r3⟩ => ?_⟩⟩⟩
  have rv3 := (rv.step st2).step st3
  cases q : rdv α3 x with
  | none => simp only [q] at r3; exact r3.elim
  | some d =>
    have hd := rdv_ok rel3 rv3 q
    simp only [q] at r3
    cases d with
    | list ds =>
      obtain ⟨a, vs, rfl, hs, hv⟩ := hd
      exact .inl ⟨a, vs, rfl, hs, out_lst rel3 r3 (cut_dp hv l u)⟩
    | tuple ds =>
      cases (show Dp X.K G3 v (.tuple ds) from hd) with
      | @tup a vs _ hs hv =>
        refine .inr ⟨a, vs, rfl, rel3.le.sqT hs, fun ⟨h1, h2⟩ => ?_, fun _ => out_tup rel3 r3 (cut_dp hv l u)⟩
        rw [hv.length] at h1 h2
        have r4 : Res (ct X pa) X.mg W σ α3 G3 H3 (.ok (.fr (.tuple (cutD ds l u))) α3) Q := r3
        rw [cut_all h1 h2] at r4
        exact out_d rel3 r4 (.tup hs hv)
    | _ => exact r3.elim
def gRev : D → Option SV
  | .list ds => some (.ol ds.reverse)
  | _ => none
theorem se_revL {k : Nat} {p1 p2 p3 : Pos} (he : SE X W e fe) : SE X W (.Subscript e (.Slice none none (some (.UnaryOp .USub (.Constant (.int 1) k p1) p2)) p3) pos) (op1 gRev fe) := (pe_revL he).conseq fun σ H Q h => by
  obtain ⟨pa, α, G, rel, h⟩ := t_op1 h
  refine ⟨pa, α, G, rel, h.mono fun v H1 ⟨pa1, α1, G1, d, z, hat, hd, hg⟩ => ?_⟩
  cases d with
  | list ds =>
    cases hg
    obtain ⟨a, vs, rfl, hs, hv⟩ := hd
    exact ⟨a, vs, rfl, hs, out_lst hat.rel hat.res hv.rev⟩
  | _ => cases hg
/-! ### a < b < c -/
def chD (g g' : D → D → Option SV) : D → D → D → Option Bool := fun a b c => match g a b with
  | some (.fr (.bool false)) => some false
  | some (.fr (.bool true)) => match g' b c with
    | some (.fr (.bool k)) => some k
    | _ => none
  | _ => none
end
/-! ### total += e -/
def sAug (i : Nat) (k : Int → Int → Int) (f : EF) : SF := fun s => match getS s i with
  | some (.fr (.int x)) => (f s).bind fun y s1 => match y with
    | .fr (.int y) => if i < s1.sl.length then .ok .next (setS s1 i (.fr (.int (k x y)))) else .no
    | _ => .no
  | _ => .no
section
variable {X : Cx} {W : WX} {e : Expr} {fe : EF} {pos : Pos}
theorem ss_aug {i : Nat} {x : Str} {op : Operator} {k : Int → Int → Int} {pos' : Pos} (hN : X.N.Nodup) (hi : X.N[i]? = some x) (hx : Loc X.env.scope x) (he : SE X W e fe) (ho : PIp X op (ipI k)) (hf : X.fn x = true ∨ X.env.scope.names.lookup x = some .local := by first | exact .inl rfl | exact .inr rfl | assumption) :
    SS X W (.AugAssign (.Name x pos') op e pos) (sAug i k fe) := (ps_aug hN hi hx he ho hf).conseq fun D σ H ⟨pa, α, G, rel, h⟩ => by
  unfold sAug at h
  cases g : getS α i with
  | none => rw [g] at h; exact h.elim
  | some sv =>
    obtain ⟨u, h1, h2⟩ := rel.sl i sv g
    rw [g] at h
    cases sv with
    | fr d =>
      cases d with
      | int n =>
        cases (show Dp X.K G u (.int n) from h2)
        refine ⟨_, h1, pa, α, G, rel, (Res.midS h).mono fun v H1 ⟨y, α1, G1, _, rel1, st1, rv, nv, r⟩ => ?_⟩
        cases y with
        | fr d =>
          cases d with
          | int m =>
            cases (show Dp X.K G1 v (.int m) from rv)
            refine ⟨n, m, rfl, rfl, ?_⟩
            simp only at r
            split at r
            · rename_i hl
              obtain ⟨r1, s1⟩ := set_fr (d := .int (k n m)) (v := .int (k n m)) rel1 hl (.int _)
              exact r _ G1 H1 r1 s1
            · exact r.elim
          | _ => exact r.elim
        | _ => exact r.elim
      | _ => exact h.elim
    | _ => exact h.elim
end
/-! ### a, b = x, y -/
def nob (s : AS) : SV → Option (SV × AS)
  | .bor i => fz s (.bor i)
  | x => some (x, s)
def sPar (i j : Nat) (f g : EF) : SF := fun s => (f s).bind fun x s1 => match nob s1 x with
  | some (x', s2) => (g s2).bind fun y s3 => match nob s3 y with
    | some (y', s4) => match asn s4 i x' with
      | some s5 => match asn s5 j y' with
        | some s6 => .ok .next s6
        | none => .no
      | none => .no
    | none => .no
  | none => .no
/-- an attempt that is not a name's -/
theorem nob_ok {C : Ct} {α α1 α2 : AS} {σ : St} {G G1 H H1 : Hp} {x y : SV} {v : V} (rel : Rel C α1 σ G1 H1) (st : Step C α σ G H α1 σ G1 H1) (rv : ValV C α1 σ G1 H1 x v) (nv : NewV H x v) (e : nob α1 x = some (y, α2)) :
    ∃ G2, Rel C α2 σ G2 H1 ∧ Step C α σ G H α2 σ G2 H1 ∧ ValV C α2 σ G2 H1 y v ∧ NewV H y v ∧ ∀ k, y ≠ .bor k := by
  cases x with
  | bor i =>
    have e : fz α1 (.bor i) = some (y, α2) := e
    obtain ⟨G2, r2, s2, av⟩ := fz_ok rel st rv nv e
    cases y with
    | fr d => exact ⟨G2, r2, s2, av, trivial, fun _ z => nomatch z⟩
    | pen => exact ⟨G2, r2, s2, av, trivial, fun _ z => nomatch z⟩
    | ol ds => exact av.elim
    | od ds => exact av.elim
    | bor k => exact av.elim
  | fr d => cases e; exact ⟨G1, rel, st, rv, nv, fun _ z => nomatch z⟩
  | pen => cases e; exact ⟨G1, rel, st, rv, nv, fun _ z => nomatch z⟩
  | ol ds => cases e; exact ⟨G1, rel, st, rv, nv, fun _ z => nomatch z⟩
  | od ds => cases e; exact ⟨G1, rel, st, rv, nv, fun _ z => nomatch z⟩
section
variable {X : Cx} {W : WX} {e : Expr} {fe : EF} {pos : Pos}
theorem asn_step {C : Ct} {α α1 α2 : AS} {σ σ1 : St} {G G1 H H1 : Hp} {i : Nat} {x : SV} {v : V} (rel : Rel C α1 σ1 G1 H1) (rv : ValV C α1 σ1 G1 H1 x v) (nb : ∀ k, x ≠ .bor k) (hn : ∀ a, x.own = true → v = .ref a → H a = none) (st : Step C α σ G H α1 σ1 G1 H1) (e : asn α1 i x = some α2) :
    Rel C α2 (σ1.set i (some v)) G1 H1 ∧ Step C α σ G H α2 (σ1.set i (some v)) G1 H1 := by
  have hi : i < α1.sl.length := by
    unfold asn at e
    by_cases hi : i < α1.sl.length
    · exact hi
    · rw [if_neg hi] at e; cases e
  have e2 : α2 = setS α1 i x := by
    unfold asn at e
    rw [if_pos hi] at e
    cases x with
    | bor k => exact absurd rfl (nb k)
    | _ => cases e; rfl
  subst e2
  have key : RelS C G1 H1 x v ∧ (x = .pen → α1.pn.isSome = true) ∧ ∀ a, x.own = true → v = .ref a → ¬ Own C α1 σ1 a := by
    cases x with
    | fr d => exact ⟨rv, (fun z => nomatch z), fun _ z => nomatch z⟩
    | pen => exact ⟨rv.1, (fun _ => rv.2), fun _ z => nomatch z⟩
    | ol ds => obtain ⟨a, rfl, h1, h2⟩ := rv; exact ⟨⟨a, rfl, h1⟩, (fun z => nomatch z), fun b _ z => by cases z; exact h2⟩
    | od ds => obtain ⟨a, rfl, h1, h2⟩ := rv; exact ⟨⟨a, rfl, h1⟩, (fun z => nomatch z), fun b _ z => by cases z; exact h2⟩
    | bor k => exact absurd rfl (nb k)
  obtain ⟨k1, k2, k3⟩ := key
  refine ⟨rel.set hi k1 k2 fun a h1 h2 => ⟨fun k sv e1 e2 _ z => k3 a h1 h2 (.inr ⟨k, sv, e1, e2, z⟩), fun hps z => k3 a h1 h2 (.inl ⟨hps, z⟩)⟩, st.g, st.k, st.t, fun b h => ?_, st.p⟩
  rcases own_set hi rel h with h | ⟨h1, h2⟩
  · exact st.o b h
  · exact .inr (hn b h1 h2)
theorem ss_par {i j : Nat} {x y : Str} {a b : Expr} {fa fb : EF} {px py pt : Pos} {kt k2 pt2} (hc : X.calm = true) (hN : X.N.Nodup) (hi : X.N[i]? = some x) (hj : X.N[j]? = some y) (hij : i ≠ j)
    (hx : X.env.scope.names.lookup x = some .local) (hy : X.env.scope.names.lookup y = some .local) (ha : SE X W a fa) (hb : SE X W b fb)
    (hw : swappedStores [.Tuple [.Name x px, .Name y py] kt pt] (.Tuple [a, b] k2 pt2) X.env = pure (some [x, y]))
    (hs : swapsWithSole [.Tuple [.Name x px, .Name y py] kt pt] (.Tuple [a, b] k2 pt2) pos.line X.env = pure false := by rfl)
    (h1 : starEach [a, b] X.env = (false, eval a X.env) :: starEach [b] X.env := by rfl) (h2 : starEach [b] X.env = (false, eval b X.env) :: starEach [] X.env := by rfl) :
    SS X W (.Assign [.Tuple [.Name x px, .Name y py] kt pt] (.Tuple [a, b] k2 pt2) pos) (sPar i j fa fb) :=
  (ps_par hc hN hi hj hij hx hy (pa_cons ha (pa_cons hb pa_nil h2) h1) hw hs).conseq fun D σ H ⟨pa, α, G, rel, h⟩ => by
    refine ⟨pa, α, G, rel, ?_⟩
    unfold sPar at h
    cases r : fa α with
    | no => rw [r] at h; exact h
    | ex e α' => rw [r] at h; exact fun cls d G' H' rel' s' rx => h cls d σ G' H' rel' s' rx
    | ok x1 α1 =>
      rw [r] at h
      intro v G1 H1 rel1 st1 rv nv
      simp only [R.bind] at h
      cases r2 : nob α1 x1 with
      | none => rw [r2] at h; exact h.elim
      | some p =>
        obtain ⟨x2, α2⟩ := p
        rw [r2] at h
        obtain ⟨G2, rel2, st2, rv2, nv2, nb2⟩ := nob_ok rel1 st1 rv nv r2
        refine ⟨pa, α2, G2, rel2, ?_⟩
        simp only at h
        cases r3 : fb α2 with
        | no => rw [r3] at h; exact h
        | ex e α' => rw [r3] at h; exact fun cls d G' H' rel' s' rx => h cls d σ G' H' rel' (st2.trans s') rx
        | ok y1 α3 =>
          rw [r3] at h
          intro u G3 H3 rel3 st3 ru nu
          simp only at h
          cases r4 : nob α3 y1 with
          | none => rw [r4] at h; exact h.elim
          | some p =>
            obtain ⟨y2, α4⟩ := p
            rw [r4] at h
            obtain ⟨G4, rel4, st4, ru4, nu4, nb4⟩ := nob_ok rel3 st3 ru nu r4
            simp only at h
            have rv4 := rv2.step st4
            cases r5 : asn α4 i x2 with
            | none => rw [r5] at h; exact h.elim
            | some α5 =>
              rw [r5] at h
              have newX : ∀ a, x2.own = true → v = .ref a → H a = none := fun a ho e => by
                cases x2 with
                | ol ds => exact nv2 a e
                | od ds => exact nv2 a e
                | _ => cases ho
              obtain ⟨rel5, st5⟩ := asn_step rel4 rv4 nb2 newX (st2.trans st4) r5
              simp only at h
              cases r6 : asn α5 j y2 with
              | none => rw [r6] at h; exact h.elim
              | some α6 =>
                rw [r6] at h
                -- the second value is apart from the first
                have hiL : i < α4.sl.length := by
                  unfold asn at r5
                  by_cases hi : i < α4.sl.length
                  · exact hi
                  · rw [if_neg hi] at r5; cases r5
                have e5 : α5 = setS α4 i x2 := by
                  unfold asn at r5
                  rw [if_pos hiL] at r5
                  cases x2 with
                  | bor k => exact absurd rfl (nb2 k)
                  | _ => cases r5; rfl
                have ru5 : ValV (ct X pa) α5 (σ.set i (some v)) G4 H3 y2 u := by
                  have apart : ∀ a, u = .ref a → H1 a = none → ¬ Own (ct X pa) α4 σ a → ¬ Own (ct X pa) α5 (σ.set i (some v)) a := fun a eu hn no z => by
                    subst e5
                    rcases own_set hiL rel4 z with z | ⟨z1, z2⟩
                    · exact no z
                    · subst z2
                      cases x2 with
                      | ol ds => obtain ⟨b, e, ⟨_, vs, q, _⟩, _⟩ := rv2; cases e; rw [hn] at q; cases q
                      | od ds => obtain ⟨b, e, ⟨_, vs, q, _⟩, _⟩ := rv2; cases e; rw [hn] at q; cases q
                      | _ => cases z1
                  cases y2 with
                  | fr d => exact ru4
                  | pen => exact ⟨ru4.1, by rw [e5]; exact ru4.2⟩
                  | ol ds => obtain ⟨a, e, q1, q2⟩ := ru4; exact ⟨a, e, q1, apart a e (nu4 a e) q2⟩
                  | od ds => obtain ⟨a, e, q1, q2⟩ := ru4; exact ⟨a, e, q1, apart a e (nu4 a e) q2⟩
                  | bor k => exact absurd rfl (nb4 k)
                have newY : ∀ a, y2.own = true → u = .ref a → H a = none := fun a ho e => by
                  have : H1 a = none := by
                    cases y2 with
                    | ol ds => exact nu4 a e
                    | od ds => exact nu4 a e
                    | _ => cases ho
                  exact st2.new this
                obtain ⟨rel6, st6⟩ := asn_step rel5 ru5 nb4 newY st5 r6
                exact ⟨v, u, rfl, h _ G4 H3 rel6 st6⟩
/-! ### an own list changed in its slot -/
theorem Rel.upd_own {C : Ct} {α : AS} {σ : St} {G H : Hp} {i : Nat} {ds ds' : List D} {a : Addr} {vs' : List V} (rel : Rel C α σ G H) (g : getS α i = some (.ol ds)) (hσ : σ[i]? = some (some (.ref a))) (hd : DpAll C.K G vs' ds') :
    Rel C (setS α i (.ol ds')) σ G (upd H a (.lst vs')) ∧ Step C α σ G H (setS α i (.ol ds')) σ G (upd H a (.lst vs')) := by
  obtain ⟨v, h1, b, rfl, hg, us, hv, _⟩ := rel.sl i _ g
  rw [hσ] at h1
  cases h1
  have hi := getS_lt g
  have own : Own C α σ a := .inr ⟨i, _, g, rfl, hσ⟩
  have nb : ∀ {k sv}, k ≠ i → getS α k = some sv → sv.own = true → σ[k]? ≠ some (some (.ref a)) := fun {k sv} hk e ho z => hk (rel.apart k i sv _ a e g ho rfl z hσ)
  have less : ∀ c, Own C (setS α i (.ol ds')) σ c → Own C α σ c := fun c h => by
    rcases h with h | ⟨k, sv, e1, e2, e3⟩
    · exact .inl h
    · rw [getS_set hi] at e1
      by_cases hk : k = i
      · subst hk
        exact .inr ⟨k, _, g, rfl, e3⟩
      · rw [if_neg hk] at e1
        exact .inr ⟨k, sv, e1, e2, e3⟩
  refine ⟨⟨fun b u e => ?_, rel.nt, ?_, fun k sv e => ?_, fun p q x y c hp hq hx hy s1 s2 => ?_, fun p e => ?_, fun k e => ?_, fun h k sv e ho => ?_⟩, Le.refl _, fun b u e n => ⟨?_, rfl⟩, fun b e => ?_, fun c h => .inl (less c h), rfl⟩
  · rw [upd_ne (ne_of_none e hg)]; exact rel.le b u e
  · unfold setS; rw [List.length_set]; exact rel.len
  · rw [getS_set hi] at e
    by_cases hk : k = i
    · subst hk
      rw [if_pos rfl] at e
      cases e
      exact ⟨_, hσ, a, rfl, hg, vs', upd_same, hd⟩
    · rw [if_neg hk] at e
      obtain ⟨w, q1, q2⟩ := rel.sl k sv e
      refine ⟨w, q1, ?_⟩
      cases sv with
      | fr d => exact q2
      | ol es =>
        obtain ⟨b, rfl, hb, ws, h3, h4⟩ := q2
        exact ⟨b, rfl, hb, ws, by rw [upd_ne (fun (z : b = a) => nb hk e rfl (by rw [← z]; exact q1))]; exact h3, h4⟩
      | od es =>
        obtain ⟨b, rfl, hb, ws, h3, h4⟩ := q2
        exact ⟨b, rfl, hb, ws, by rw [upd_ne (fun (z : b = a) => nb hk e rfl (by rw [← z]; exact q1))]; exact h3, h4⟩
      | bor j => exact q2
      | pen => exact q2
  · rw [getS_set hi] at hp hq
    by_cases h1 : p = i
    · by_cases h2 : q = i
      · rw [h1, h2]
      · rw [if_neg h2] at hq
        subst h1
        rw [hσ] at s1
        cases s1
        exact absurd s2 (nb h2 hq hy)
    · rw [if_neg h1] at hp
      by_cases h2 : q = i
      · subst h2
        rw [hσ] at s2
        cases s2
        exact absurd s1 (nb h1 hp hx)
      · rw [if_neg h2] at hq
        exact rel.apart p q x y c hp hq hx hy s1 s2
  · obtain ⟨q1, c, q2, q3⟩ := rel.pen p e
    have np : C.pa ≠ a := fun z => rel.pne (by rw [show α.pn = some p from e]; rfl) i _ g rfl (z ▸ hσ)
    exact ⟨q1, c, by rw [upd_ne np]; exact q2, q3⟩
  · rw [getS_set hi] at e
    by_cases hk : k = i
    · rw [if_pos hk] at e; cases e
    · rw [if_neg hk] at e; exact rel.ps k e
  · rw [getS_set hi] at e
    by_cases hk : k = i
    · subst hk
      exact rel.pne h k _ g rfl
    · rw [if_neg hk] at e; exact rel.pne h k sv e ho
  · rw [upd_ne (fun (z : b = a) => n (by rw [z]; exact own))]; exact e
  · unfold upd
    split
    · exact fun z => nomatch z
    · exact e
def eApp (i : Nat) (f : EF) : EF := fun s => match getS s i with
  | some (.ol _) => (f s).bind fun x s1 => match fz s1 x with
    | some (.fr d, s2) => match nod d with
      | some d => match getS s2 i with
        | some (.ol ds) => if szOk (ds.length + 1) then .ok (.fr .none) (setS s2 i (.ol (ds ++ [d]))) else .no
        | _ => .no
      | none => .no
    | _ => .no
  | _ => .no
theorem se_append {i : Nat} {x : Str} {p1 apos cpos : Pos} (hN : X.N[i]? = some x) (hv : Vis X.env.scope x) (he : SE X W e fe) (hdb : (x == ("__debug__" : Str)) = false := by decide) (hcd : (x == ("__classdict__" : Str)) = false := by decide)
    (hbase : attributeBase (.Name x p1) "append" X.env (eval (.Name x p1) X.env) = eval (.Name x p1) X.env := by rfl)
    (hfew : ((backTo cpos (starEach [e] X.env)).all (fun x => !x.1) && (backToKw cpos (keywordEach [] X.env)).all (fun x => x.1.isSome)
      && decide (([e] : List Expr).length + ([] : List Keyword).length + (if ([] : List Keyword).isEmpty then 0 else 1) < 30)) = true := by rfl)
    (hline : (apos.endLine == cpos.line) = true := by rfl) (hs : starEach [e] X.env = (false, eval e X.env) :: starEach [] X.env := by rfl) (hplain : (backTo cpos (starEach [] X.env)).any (·.1) = false := by rfl) :
    SE X W (.Call (.Attribute (.Name x p1) "append" apos) [e] [] cpos) (eApp i fe) :=
  (pe_bm PySem.F.plainAttrs_list PySem.F.slot_list_append PySem.F.type_list_append mt_append (pe_var hN hv hdb hcd) (pa_cons he pa_nil hs) hbase hfew hline hs hplain).conseq fun σ H Q ⟨pa, α, G, rel, h⟩ => by
    unfold eApp at h
    cases g0 : getS α i with
    | none => rw [g0] at h; exact h.elim
    | some sv =>
      rw [g0] at h
      cases sv with
      | ol ds0 =>
        obtain ⟨v, h1, a, rfl, hg0, us0, hv0, _⟩ := rel.sl i _ g0
        refine ⟨_, h1, .inl ⟨rfl, us0, .of hv0⟩, pa, α, G, rel, ?_⟩
        cases r : fe α with
        | no => rw [r] at h; exact h
        | ex e α' => rw [r] at h; exact h
        | ok x1 α1 =>
          rw [r] at h
          intro u G1 H1 rel1 st1 rv nv
          simp only [R.bind] at h
          cases r2 : fz α1 x1 with
          | none => rw [r2] at h; exact h.elim
          | some q =>
            obtain ⟨y, α2⟩ := q
            rw [r2] at h
            obtain ⟨G2, rel2, st2, av⟩ := fz_ok rel1 st1 rv nv r2
            cases y with
            | fr d0 =>
              simp only at h
              cases q0 : nod d0 with
              | none => rw [q0] at h; exact h.elim
              | some d =>
              rw [q0] at h
              obtain ⟨rfl, nd⟩ := nod_eq q0
              simp only at h
              cases g2 : getS α2 i with
              | none => rw [g2] at h; exact h.elim
              | some sv2 =>
                rw [g2] at h
                cases sv2 with
                | ol ds =>
                  simp only at h
                  split at h
                  · rename_i hz
                    obtain ⟨v2, q1, b, rfl, q2, us, q3, q4⟩ := rel2.sl i _ g2
                    rw [h1] at q1
                    cases q1
                    obtain ⟨rel3, st3⟩ := rel2.upd_own g2 h1 (q4.append (.cons (FrV.dp av nd) .nil))
                    refine ⟨a, us, u, rfl, rfl, q3, szOk_lt hz (by rw [q4.length]; exact Nat.lt_succ_self _), ?_⟩
                    exact h .non G2 _ rel3 (st2.trans st3) .non trivial
                  · exact h.elim
                | _ => exact h.elim
            | _ => exact h.elim
      | _ => exact h.elim
end
end Sx

namespace Sx
open PySem PySem.Spec L2
open PyProof.Rows hiding St

/-! ### a op b op c -/
def eCh (g g' : D → D → Option SV) (fa fb fc : EF) : EF := fun s => (fa s).bind fun x s1 => (fb s1).bind fun y s2 => match rdv s2 x with
  | some d => match rdv s2 y with
    | some e => match g d e with
      | some (.fr (.bool true)) => (fc s2).bind fun z s3 => match rdv s3 y with
        | some e' => match rdv s3 z with
          | some c => match g' e' c with
            | some r => .ok r s3
            | none => .no
          | none => .no
        | none => .no
      | some (.fr (.bool false)) => .ok (.fr (.bool false)) s2
      | _ => .no
    | none => .no
  | none => .no
section
variable {X : Cx} {W : WX} {a b c : Expr} {fa fb fc : EF} {pos : Pos} {g g' : D → D → Option SV} {op op' : CmpOp}
theorem ch_go {r r' : St → R2} (hi : ∀ σ v u H Q, T2 X W g σ v u H Q → r σ v u H Q) (hi' : ∀ σ v u H Q, T2 X W g' σ v u H Q → r' σ v u H Q) {σ : St} {H : Hp} {Q : VK} (h : tE X W (eCh g g' fa fb fc) σ H Q) :
    tChain (r σ) (r' σ) (tE X W fa) (tE X W fb) (tE X W fc) σ H Q := by
  obtain ⟨pa, α, G, rel, h⟩ := h
  refine ⟨pa, α, G, rel, (Res.mid h).mono fun v H1 ⟨x, α1, G1, _, rel1, st1, rv, nv, r1⟩ => ⟨pa, α1, G1, rel1, (Res.mid r1).mono fun u H2 ⟨y, α2, G2, _, rel2, st2, rv2, nv2, r2⟩ => hi _ _ _ _ _ ?_⟩⟩
  have rv1 := rv.step st2
  cases e : rdv α2 x with
  | none => simp only [e] at r2; exact r2.elim
  | some d =>
    simp only [e] at r2
    cases e' : rdv α2 y with
    | none => simp only [e'] at r2; exact r2.elim
    | some d' =>
      simp only [e'] at r2
      have out : ∀ k, g d d' = some (.fr (.bool k)) → (∀ G' H', Rel (ct X pa) α2 σ G' H' → Step (ct X pa) α2 σ G2 H2 α2 σ G' H' → (if k = true then tE X W fc σ H' fun w' H4 => r' σ u w' H4 Q else Q (.bl false) H')) →
          T2 X W g σ v u H2 (fun z H3 => ∃ k, z = .bl k ∧ if k = true then tE X W fc σ H3 fun w' H4 => r' σ u w' H4 Q else Q (.bl false) H3) := fun k eg q =>
        ⟨pa, α2, G2, d, d', .fr (.bool k), ⟨rel2, fun v' G' H' rel' st' rv' _ => by cases rv'; exact ⟨k, rfl, q G' H' rel' st'⟩⟩, rdv_ok rel2 rv1 e, rdv_ok rel2 rv2 e', eg⟩
      split at r2
      · rename_i eg
        refine out true eg fun G' H' rel' st' => ?_
        rw [if_pos rfl]
        refine ⟨pa, α2, G', rel', (Res.mid (Res.shift st' r2)).mono fun w' H4 ⟨z, α3, G3, _, rel3, st3, rv3, nv3, r3⟩ => hi' _ _ _ _ _ ?_⟩
        have rvy := rv2.step (st'.trans st3)
        cases e3 : rdv α3 y with
        | none => simp only [e3] at r3; exact r3.elim
        | some d3 =>
          simp only [e3] at r3
          cases e4 : rdv α3 z with
          | none => simp only [e4] at r3; exact r3.elim
          | some d4 =>
            simp only [e4] at r3
            cases e5 : g' d3 d4 with
            | none => simp only [e5] at r3; exact r3.elim
            | some w5 =>
              simp only [e5] at r3
              exact ⟨pa, α3, G3, d3, d4, w5, ⟨rel3, r3⟩, rdv_ok rel3 rvy e3, rdv_ok rel3 rv3 e4, e5⟩
      · rename_i eg
        refine out false eg fun G' H' rel' st' => ?_
        rw [if_neg Bool.false_ne_true]
        exact r2 _ G' H' rel' st' (.bl false) trivial
      · exact r2.elim
theorem op2_pick {f : Value → Value → Sem Value} (ho : Op2 X W f g) : ∃ r : St → R2, (∀ σ, OpR X f (r σ)) ∧ ∀ σ v u H Q, T2 X W g σ v u H Q → r σ v u H Q :=
  ⟨fun σ => (ho σ).choose, fun σ => (ho σ).choose_spec.1, fun σ => (ho σ).choose_spec.2⟩
theorem se_ch (ho : Op2 X W (compareOp op) g) (ho' : Op2 X W (compareOp op') g') (ha : SE X W a fa) (hb : SE X W b fb) (hc : SE X W c fc)
    (hm : lastMarks [op, op'] [b, c] = false := by with_unfolding_all rfl) : SE X W (.Compare a [op, op'] [b, c] pos) (eCh g g' fa fb fc) := by
  obtain ⟨r, hr, hi⟩ := op2_pick ho
  obtain ⟨r', hr', hi'⟩ := op2_pick ho'
  exact ⟨fun pins s σ H Q I h => (pe_chain (hr σ) (hr' σ) ha hb hc hm).run pins s σ H Q I (ch_go hi hi' h)⟩
theorem st_ch (ho : Op2 X W (compareOp op) g) (ho' : Op2 X W (compareOp op') g') (ha : SE X W a fa) (hb : SE X W b fb) (hc : SE X W c fc)
    (hm : lastMarks [op, op'] [b, c] = false := by with_unfolding_all rfl) : ST X W (.Compare a [op, op'] [b, c] pos) (bE (eCh g g' fa fb fc)) := by
  obtain ⟨r, hr, hi⟩ := op2_pick ho
  obtain ⟨r', hr', hi'⟩ := op2_pick ho'
  exact ⟨fun pins s σ H Q I h => (pt_chain (hr σ) (hr' σ) ha hb hc hm).run pins s σ H Q I (ch_go hi hi' (t_bE h))⟩
end

/-! ### sorted -/
def ins (le : D → D → Bool) (x : D) : List D → List D
  | [] => [x]
  | y :: t => bif le x y then x :: y :: t else y :: ins le x t
def isort (le : D → D → Bool) : List D → List D
  | [] => []
  | x :: t => ins le x (isort le t)
open PySem.W (TotalLe sameRank dataLe)
theorem ins_mem {le : D → D → Bool} {x z : D} : ∀ {l : List D}, z ∈ ins le x l → z = x ∨ z ∈ l
  | [], h => by simpa [ins] using h
  | y :: t, h => by
    unfold ins at h
    cases e : le x y with
    | true => rw [e] at h; simpa using h
    | false =>
      rw [e] at h
      simp only [cond_false, List.mem_cons] at h
      rcases h with h | h
      · exact .inr (h ▸ List.mem_cons_self)
      · rcases ins_mem h with h | h
        · exact .inl h
        · exact .inr (List.mem_cons_of_mem _ h)
theorem ins_pw {le : D → D → Bool} (T : TotalLe le) {x : D} : ∀ {l : List D}, l.Pairwise (fun a b => le a b = true) → (ins le x l).Pairwise fun a b => le a b = true
  | [], _ => by simp [ins]
  | y :: t, h => by
    unfold ins
    have h1 := List.pairwise_cons.mp h
    cases e : le x y with
    | true =>
      refine List.pairwise_cons.mpr ⟨fun z hz => ?_, h⟩
      rcases List.mem_cons.mp hz with rfl | hz
      · exact e
      · exact T.trans _ _ _ e (h1.1 z hz)
    | false =>
      refine List.pairwise_cons.mpr ⟨fun z hz => ?_, ins_pw T h1.2⟩
      rcases ins_mem hz with rfl | hz
      · rcases T.total z y with q | q
        · rw [e] at q; cases q
        · exact q
      · exact h1.1 z hz
theorem isort_pw {le : D → D → Bool} (T : TotalLe le) : ∀ l : List D, (isort le l).Pairwise fun a b => le a b = true
  | [] => List.Pairwise.nil
  | x :: t => ins_pw T (isort_pw T t)
theorem ins_filter {le : D → D → Bool} (T : TotalLe le) {x c : D} : ∀ {l : List D}, l.Pairwise (fun a b => le a b = true) → (ins le x l).filter (sameRank le c) = (x :: l).filter (sameRank le c)
  | [], _ => rfl
  | y :: t, h => by
    unfold ins
    have h1 := List.pairwise_cons.mp h
    cases e : le x y with
    | true => rfl
    | false =>
      show List.filter _ (y :: ins le x t) = _
      rw [List.filter_cons, ins_filter T h1.2, List.filter_cons, List.filter_cons (x := x) (xs := y :: t), List.filter_cons (x := y) (xs := t)]
      by_cases hx : sameRank le c x = true
      · by_cases hy : sameRank le c y = true
        · exfalso
          unfold sameRank at hx hy
          rw [Bool.and_eq_true] at hx hy
          have := T.trans _ _ _ hx.2 hy.1
          rw [e] at this; cases this
        · simp only [hx, hy, if_true, if_false, Bool.false_eq_true]
      · simp only [hx, if_false, Bool.false_eq_true]
theorem isort_filter {le : D → D → Bool} (T : TotalLe le) (c : D) : ∀ l : List D, (isort le l).filter (sameRank le c) = l.filter (sameRank le c)
  | [] => rfl
  | x :: t => by
    show (ins le x (isort le t)).filter _ = _
    rw [ins_filter T (isort_pw T t), List.filter_cons, List.filter_cons, isort_filter T c t]
theorem isort_eq {le : D → D → Bool} (T : TotalLe le) (l : List D) : isort le l = l.mergeSort le := PySem.W.sort_unique T (isort_pw T l) fun c => isort_filter T c l
def allAl (ds : List D) : Bool := ds.all fun d => ds.all fun e => PySem.W.alike d e
def hd1 : D → Bool
  | .tuple (_ :: _) => true
  | _ => false
def hd2 : D → Bool
  | .tuple _ => false
  | .none => false
  | _ => true
def srtOk (ds : List D) : Bool := allAl ds && (ds.all hd1 || ds.all hd2) && ds.all (shal 8) && szOk ds.length
def gSort : D → Option SV
  | .list [] => some (.ol [])
  | .list [d] => some (.ol [d])
  | .list ds => bif srtOk ds then some (.ol (isort (dataLe false fun d => d) ds)) else none
  | _ => none
def gSortR : D → Option SV
  | .list ds => bif srtOk ds then some (.ol (isort (dataLe true fun d => d) ds)) else none
  | _ => none
theorem srt_al {ds : List D} (h : srtOk ds = true) : PySem.W.AllAlike (ds.map fun d => d) ∧ PySem.W.Sortable (ds.map fun d => d) ∧ ds.length ≤ sizeLine ∧ ∀ d ∈ ds, d.depth ≤ 8 := by
  unfold srtOk allAl at h
  simp only [Bool.and_eq_true, List.all_eq_true, Bool.or_eq_true] at h
  obtain ⟨⟨⟨h1, h2⟩, h3⟩, h4⟩ := h
  rw [List.map_id']
  refine ⟨fun d hd e he => h1 d hd e he, ?_, szOk_le h4, fun d hd => shal_depth 8 d (h3 d hd)⟩
  rcases h2 with h2 | h2
  · refine .inl fun d hd => ?_
    have := h2 d hd
    unfold hd1 at this
    split at this
    · exact ⟨_, _, rfl⟩
    · cases this
  · refine .inr fun d hd => ?_
    have := h2 d hd
    unfold hd2 at this
    split at this
    · cases this
    · cases this
    · rename_i n1 n2
      exact ⟨fun z => n2 z, fun xs z => n1 xs z⟩
section
variable {X : Cx} {W : WX} {σ : St} {G H : Hp}
/-- what is sorted reads as data; what comes out is the same values in order -/
theorem each_of {K : PySem.W.Frag} {G : Hp} : ∀ {vs : List V} {its : List Value} {ds : List D}, Vals vs its → DpAll K G vs ds → PySem.W.EachIs (fun u d => ∃ v, RelV v u ∧ Dp K G v d) its ds
  | _, _, _, .nil, .nil => .nil
  | _, _, _, .cons r rr, .cons h hh => .cons ⟨_, r, h⟩ (each_of rr hh)
theorem of_each {K : PySem.W.Frag} {G : Hp} {out : List Value} {ds : List D} (h : PySem.W.EachIs (fun u d => ∃ v, RelV v u ∧ Dp K G v d) out ds) : ∃ vs, Vals vs out ∧ DpAll K G vs ds := by
  induction h with
  | nil => exact ⟨[], .nil, .nil⟩
  | cons h1 _ ih =>
    obtain ⟨v, r, h⟩ := h1
    obtain ⟨vs, rr, hh⟩ := ih
    exact ⟨v :: vs, .cons r rr, .cons h hh⟩
theorem dp_each {K : PySem.W.Frag} {G : Hp} {vs : List V} {ds : List D} (h : DpAll K G vs ds) : vs.length = ds.length := h.length
/-- sorted, by data -/
theorem sorted_core {pins : List (Addr × Obj)} {s : Shared} {σ' : St} {α : AS} {pa : Addr} {Q : VK} {x : V} {u : Value} {ds ds' : List D} {kw : List (Str × Value)} (I : L2.Inv X pins σ H s) (rel : Rel (ct X pa) α σ' G H) (rx : RelV x u) (hd : RdD X.K G H x (.list ds))
    (go : ∀ (l : Addr) (its : List Value), u = .ref l → s.heap.IsList l its.toArray → PySem.W.EachIs (fun v b => ∃ as, Reads s.heap v b as) its ds → PySem.W.EachIs (fun u d => ∃ v, RelV v u ∧ Dp X.K G v d) its ds → its.length ≤ sizeLine → (∀ out : List Value, out.length = its.length → PySem.W.EachIs (fun u d => ∃ v, RelV v u ∧ Dp X.K G v d) out ds' → EP X pins σ Q (.ref (s.heap.objs.size + 1)) { s with heap := sortedAll s.heap its (List.toArray out) }) →
      wpAny (model X.prog X.w) X.A (call (.builtin "sorted") [u] kw) (EP X pins σ Q) X.xe s)
    (hr : Res (ct X pa) X.mg W σ' α G H (.ok (.ol ds') α) Q) : wpAny (model X.prog X.w) X.A (call (.builtin "sorted") [u] kw) (EP X pins σ Q) X.xe s := by
  obtain ⟨l, vs, its, as, e, hl, ra, rv, t1, hz⟩ := list_reads I rel.le rx hd
  have er : PySem.W.EachIs (fun v (b : D) => ∃ as, Reads s.heap v b as) its ds := PySem.W.readsAll_each (fun d : D => d) (by rw [List.map_id']; exact ra)
  refine go l its e hl er (each_of rv t1) (by rw [← rv.length]; exact hz) fun out hlen ho => ?_
  obtain ⟨ws, rw', hw⟩ := of_each ho
  obtain ⟨ep, he'⟩ := sortedAll_at s.heap its out.toArray
  have hl2 : ws.length ≤ sizeLine := by rw [rw'.length, hlen, ← rv.length]; exact hz
  exact ⟨.ref _, upd H (s.heap.objs.size + 1) (.lst ws), I.laid (t' := s.toks) (fun _ _ => sortedAll_old) (Nat.le_succ _) ⟨hl2, out, ep, rw', he'⟩, rfl, out_lst rel hr hw _ (I.hok.fresh (Nat.le_succ _))⟩
theorem c1_sorted (hu : X.A.units + 64 < cLine) : C1 X W (.builtin "sorted") gSort := fun pins s σ H x v Q I rx ⟨pa, α, G, d, z, hat, hd, hg⟩ => by
  have small : ∀ ds : List D, ds.length ≤ 1 → d = .list ds → z = .ol ds → wpAny (model X.prog X.w) X.A (call (.builtin "sorted") [v]) (EP X pins σ Q) X.xe s := fun ds h1 e1 e2 => by
    subst e1 e2
    refine sorted_core (ds' := ds) I hat.rel rx hd (fun l its eu hl er ec hz q => ?_) hat.res
    subst eu
    have hlen : its.length = ds.length := ec.length
    refine Srt.sorted_any hl hz (fun h2 => by omega) fun out hp => ?_
    have : out = its := by
      match its, hlen, hp with
      | [], _, hp => exact hp.eq_nil
      | [a], _, hp => exact List.perm_singleton.mp hp
      | _ :: _ :: _, hlen, _ => simp only [List.length_cons] at hlen; omega
    subst this
    exact q _ rfl ec
  cases d with
  | list ds =>
    match ds, hg with
    | [], hg => cases hg; exact small [] (by simp) rfl rfl
    | [d], hg => cases hg; exact small [d] (by simp) rfl rfl
    | d1 :: d2 :: dr, hg =>
      simp only [gSort] at hg
      cases e : srtOk (d1 :: d2 :: dr) with
      | false => rw [e] at hg; cases hg
      | true =>
        rw [e] at hg
        cases hg
        obtain ⟨h1, h2, h3, h4⟩ := srt_al e
        refine sorted_core I hat.rel rx hd (fun l its eu hl er ec hz q => ?_) hat.res
        subst eu
        refine PySem.W.sorted_data (enc := fun d : D => d) hl ec er h1 h2 h3 (fun b hb => by have := h4 b hb; omega) fun out ho he => q out (by rw [ho, ec.length]) ?_
        rw [isort_eq (le := dataLe false fun d : D => d) (PySem.W.sortLe_total _ _ _)]
        exact he
  | _ => cases hg
end
end Sx

namespace Sx
open PySem PySem.Spec L2
open PyProof.Rows hiding St

/-! ### t.count(k), t a tuple of ints -/
/-- no tuple of the written part has a dict of its own -/
def TK (K : PySem.W.Frag) : Prop := ∀ a o, K.lookup a = some o → o.cls = .type "tuple" → o.dict = none
def eCntT (f g : EF) : EF := fun s => (f s).bind fun x s1 => match rdv s1 x with
  | some (.tuple ds) => match intsD ds with
    | some ns => (g s1).bind fun y s2 => match rdv s2 y with
      | some (.int k) => .ok (.fr (.int (ns.count k : Nat))) s2
      | _ => .no
    | none => .no
  | _ => .no
section
variable {X : Cx} {W : WX} {o e : Expr} {fo fe : EF}
theorem no_dict {pins : List (Addr × Obj)} {s : Shared} {σ : St} {G H : Hp} {a : Addr} {vs : List V} (hK : TK X.K) (I : L2.Inv X pins σ H s) (hl : Le G H) (hn : NG G) (h : SqT X.K G a vs) : ∃ ob, s.heap.get? a = some ob ∧ ob.dict = none := by
  rcases h with (h | ⟨ob, h⟩) | ⟨ob, its, n, h, hc, _⟩
  · exact (hn _ _ h).elim
  · exact ⟨ob, (I.hok a _ (hl _ _ h)).1, hn _ _ h⟩
  · exact ⟨ob, I.kIn a ob h, hK a ob h hc⟩
theorem se_countT {apos cpos : Pos} (hK : TK X.K) (ho : SE X W o fo) (he : SE X W e fe)
    (hbase : attributeBase o "count" X.env (eval o X.env) = eval o X.env := by rfl)
    (hfew : ((backTo cpos (starEach [e] X.env)).all (fun x => !x.1) && (backToKw cpos (keywordEach [] X.env)).all (fun x => x.1.isSome)
      && decide (([e] : List Expr).length + ([] : List Keyword).length + (if ([] : List Keyword).isEmpty then 0 else 1) < 30)) = true := by rfl)
    (hline : (apos.endLine == cpos.line) = true := by rfl) (hs : starEach [e] X.env = (false, eval e X.env) :: starEach [] X.env := by rfl) (hplain : (backTo cpos (starEach [] X.env)).any (·.1) = false := by rfl) :
    SE X W (.Call (.Attribute o "count" apos) [e] [] cpos) (eCntT fo fe) := by
  refine ⟨fun pins s σ H Q I ⟨pa, α, G, rel, h⟩ => ?_⟩
  refine wpAny_Call_method_late hbase hfew hline rfl (thn (ho.run pins s σ H _ I ⟨pa, α, G, rel, Res.mid h⟩) fun v s1 ⟨x, H1, I1, r1, x', α1, G1, _, rel1, st1, rv, nv, r⟩ => ?_)
  cases e1 : rdv α1 x' with
  | none => simp only [e1] at r; exact r.elim
  | some d =>
    simp only [e1] at r
    have hd := rdv_ok rel1 rv e1
    cases d with
    | tuple ds =>
      simp only at r
      cases e2 : intsD ds with
      | none => rw [e2] at r; exact r.elim
      | some ns =>
        rw [e2] at r
        cases intsD_eq e2
        cases (show Dp X.K G1 x (.tuple (ns.map PyData.int)) from hd) with | @tup a vs _ q1 q2 =>
        cases dpAll_ints q2
        obtain rfl : v = Value.ref a := r1
        obtain ⟨its, rvv, ⟨⟨cls, dd, data, sl⟩, ho', hc, n, hdd⟩, hz⟩ := I1.tuple (rel1.le.sqT q1)
        simp only at hc hdd
        subst hc hdd
        have nd := no_dict hK I1 rel1.le rel1.nt q1
        refine ⟨"tuple", "tuple.count", PySem.F.plainAttrs_tuple, PySem.F.slot_tuple_count, PySem.F.type_tuple_count, ⟨_, ho', rfl⟩, fun b eb => by cases eb; exact nd, ?_⟩
        have hA := (pa_cons he pa_nil hs).run cpos pins s1 σ H1 (fun us H2 => ∃ y u α2 G2, us = [u] ∧ Le G1 G2 ∧ Rel (ct X pa) α2 σ G2 H2 ∧ ValV (ct X pa) α2 σ G2 H2 y u ∧
            Res (ct X pa) X.mg W σ α2 G2 H2 (match rdv α2 y with
              | some (.int k) => .ok (.fr (.int (ns.count k : Nat))) α2
              | _ => .no) Q) I1 ⟨pa, α1, G1, rel1, (Res.mid r).mono fun u H2 ⟨y, α2, G2, _, rel2, st2, rv2, nv2, r2⟩ => ⟨y, u, α2, G2, rfl, st2.g, rel2, rv2, r2⟩⟩
        rw [hs] at hA ⊢
        refine Calls.callWith_builtin (by show (false || (backTo cpos (starEach [] X.env)).any (·.1)) = false; rw [hplain] <;> rfl) (Calls.evalArgs_plain ?_)
        refine thn hA fun us s2 ⟨vs2, H2, I2, r2, y, u, α2, G2, e3, lg, rel2, rv2, r3⟩ => ?_
        subst e3
        obtain ⟨u', rfl, ru⟩ := vals1 r2
        cases e4 : rdv α2 y with
        | none => rw [e4] at r3; exact r3.elim
        | some dk =>
          rw [e4] at r3
          have hk := rdv_ok rel2 rv2 e4
          cases dk with
          | int k =>
            cases (show Dp X.K G2 u (.int k) from hk)
            obtain ⟨t, rfl⟩ := ru
            obtain ⟨its2, rv5, ⟨⟨cls, dd2, data, sl2⟩, ho2, hc2, n2, hd2⟩, _⟩ := I2.tuple (rel2.le.sqT (lg.sqT q1))
            simp only at hc2 hd2
            subst hc2 hd2
            have hi := ints_of_vals rv5
            refine call_meets PySem.F.slot_tuple_count ⟨_, ho2, rfl⟩ PySem.F.entry_tuple_count (PySem.F.args_tuple_count_2 _ _)
              (SeqAt.tuple_countAt a its2.toArray n2 dd2 sl2 (.int k t) (eqk k)) ⟨ho2, fun y hy => (eqk_gives hi y (by simpa using hy)).at _ _, ?_⟩
            have ec : its2.toArray.toList.countP (eqk k) = ns.count k := eqk_count hi
            rw [ec]
            exact ⟨.int (ns.count k : Nat), H2, I2.tok _, ⟨_, rfl⟩, out_d rel2 r3 (.int _)⟩
          | _ => exact r3.elim
    | _ => exact r.elim
end
end Sx

namespace Sx
open PySem PySem.Spec L2
open PyProof.Rows hiding St

/-! ### sorted(xs, reverse=True) -/
section
variable {X : Cx} {W : WX} {e : Expr} {f : EF} {p pos kpos p2 : Pos} {j : Nat}
def rSrtR (X : Cx) (W : WX) (σ : St) : List V → List V → Hp → VK → Prop := fun vs zs H Q => ∃ v, vs = [v] ∧ zs = [.bl true] ∧ T1 X W gSortR σ v H Q
theorem cr_srtR (hu : X.A.units + 64 < cLine) (σ0 : St) : CallRK X (.builtin "sorted") [Str.ofString "reverse"] (rSrtR X W σ0) := by
  intro pins s σ H vs zs us ws Q I r rz ⟨v, e1, e2, pa, α, G, d, z, hat, hd, hg⟩
  subst e1 e2
  obtain ⟨u, rfl, ru⟩ := vals1 r
  obtain ⟨w1, rfl, e2⟩ := vals1 rz
  obtain rfl : w1 = Value.bool true := e2
  cases d with
  | list ds =>
    simp only [gSortR] at hg
    cases e : srtOk ds with
    | false => rw [e] at hg; cases hg
    | true =>
      rw [e] at hg
      cases hg
      obtain ⟨h1, h2, h3, h4⟩ := srt_al e
      refine sorted_core I hat.rel ru hd (fun l its eu hl er ec hz q => ?_) hat.res
      subst eu
      refine PySem.W.sorted_rev_data (b := true) (enc := fun d : D => d) hl ec er h1 h2 h3 (fun b hb => by have := h4 b hb; omega) fun out ho he => q out (by rw [ho, ec.length]) ?_
      rw [isort_eq (le := PySem.W.dataLe true fun d : D => d) (PySem.W.sortLe_total _ _ _)]
      exact he
  | _ => cases hg
theorem se_sortR (hu : X.A.units + 64 < cLine) (hg : Gl X "sorted") (hm : X.mg "sorted" = none) (he : SE X W e f)
    (h1 : backTo pos (starEach [e] X.env) = (false, eval e X.env) :: backTo pos (starEach [] X.env) := by rfl) (hpl : (backTo pos (starEach [e] X.env)).any (·.1) = false := by rfl) (hs : starEach [e] X.env = (false, eval e X.env) :: starEach [] X.env := by rfl)
    (hall : (backToKw pos (keywordEach [⟨some "reverse", .Constant (.bool true) j p2, kpos⟩] X.env)).all (·.1.isSome) = true := by rfl) (hnone : (backToKw pos (keywordEach [⟨some "reverse", .Constant (.bool true) j p2, kpos⟩] X.env)).any (·.1.isNone) = false := by rfl)
    (hks : (backToKw pos (keywordEach [⟨some "reverse", .Constant (.bool true) j p2, kpos⟩] X.env)).filterMap (·.1) = [Str.ofString "reverse"] := by rfl) :
    SE X W (.Call (.Name "sorted" p) [e] [⟨some "reverse", .Constant (.bool true) j p2, kpos⟩] pos) (op1 gSortR f) :=
  ⟨fun pins s σ H Q I h => (pe_callBK (cr_srtR hu σ) hg hm boot_sorted (pa_cons he pa_nil hs) (pk_cons pe_bl pk_nil) (he := h1) (hpl := hpl) (hall := hall) (hnone := hnone) (hks := hks)).run pins s σ H Q I (by
    obtain ⟨pa, α, G, rel, r⟩ := t_op1 h
    exact ⟨pa, α, G, rel, r.mono fun v H1 q => ⟨v, rfl, rfl, q⟩⟩)⟩
end

/-! ### sorted(set(t)), t a tuple of ints -/
def insI (x : Int) : List Int → List Int
  | [] => [x]
  | y :: t => if x < y then x :: y :: t else if x = y then y :: t else y :: insI x t
def sdI : List Int → List Int
  | [] => []
  | x :: t => insI x (sdI t)
theorem insI_mem {x z : Int} : ∀ {l : List Int}, z ∈ insI x l ↔ z = x ∨ z ∈ l
  | [] => by simp [insI]
  | y :: t => by
    unfold insI
    split
    · simp
    · split
      · rename_i h; subst h; simp
      · have := insI_mem (x := x) (z := z) (l := t)
        simp only [List.mem_cons, this]
        constructor
        · rintro (h | h | h) <;> simp [h]
        · rintro (h | h | h) <;> simp [h]
theorem insI_pw {x : Int} : ∀ {l : List Int}, l.Pairwise (· < ·) → (insI x l).Pairwise (· < ·)
  | [], _ => by simp [insI]
  | y :: t, h => by
    have h1 := List.pairwise_cons.mp h
    unfold insI
    split
    · rename_i hx
      refine List.pairwise_cons.mpr ⟨fun z hz => ?_, h⟩
      rcases List.mem_cons.mp hz with rfl | hz
      · exact hx
      · exact Int.lt_trans hx (h1.1 z hz)
    · split
      · exact h
      · refine List.pairwise_cons.mpr ⟨fun z hz => ?_, insI_pw h1.2⟩
        rcases insI_mem.mp hz with rfl | hz
        · omega
        · exact h1.1 z hz
theorem sdI_pw : ∀ l : List Int, (sdI l).Pairwise (· < ·)
  | [] => List.Pairwise.nil
  | _ :: t => insI_pw (sdI_pw t)
theorem sdI_mem {z : Int} : ∀ {l : List Int}, z ∈ sdI l ↔ z ∈ l
  | [] => Iff.rfl
  | x :: t => by
    show z ∈ insI x (sdI t) ↔ _
    rw [insI_mem, sdI_mem, List.mem_cons]
theorem rise_eq : ∀ {a b : List Int}, a.Pairwise (· < ·) → b.Pairwise (· < ·) → (∀ z, z ∈ a ↔ z ∈ b) → a = b
  | [], [], _, _, _ => rfl
  | [], y :: _, _, _, h => by have := (h y).mpr List.mem_cons_self; cases this
  | x :: _, [], _, _, h => by have := (h x).mp List.mem_cons_self; cases this
  | x :: s, y :: t, ha, hb, h => by
    have a1 := List.pairwise_cons.mp ha
    have b1 := List.pairwise_cons.mp hb
    have exy : x = y := by
      rcases List.mem_cons.mp ((h x).mp List.mem_cons_self) with e | e
      · exact e
      · rcases List.mem_cons.mp ((h y).mpr List.mem_cons_self) with e2 | e2
        · exact e2.symm
        · have := a1.1 y e2; have := b1.1 x e; omega
    subst exy
    rw [rise_eq a1.2 b1.2 fun z => ⟨fun hz => ?_, fun hz => ?_⟩]
    · rcases List.mem_cons.mp ((h z).mp (List.mem_cons_of_mem _ hz)) with e | e
      · subst e; have := a1.1 _ hz; omega
      · exact e
    · rcases List.mem_cons.mp ((h z).mpr (List.mem_cons_of_mem _ hz)) with e | e
      · subst e; have := b1.1 _ hz; omega
      · exact e
def gSS : D → Option SV
  | .tuple ds => match intsD ds with
    | some ns => bif Nat.blt ns.length 60 then some (.ol ((sdI ns).map .int)) else none
    | none => none
  | _ => none
section
variable {X : Cx} {W : WX} {e : Expr} {f : EF} {p p2 pos q : Pos}
def tSetT (X : Cx) (te : TE) : TE := fun σ H Q => te σ H fun x H1 => ∃ (a : Addr) (ns : List Int), x = .ref a ∧ SqT X.K H1 a (ns.map V.int) ∧ ns.length < 60 ∧ ∀ p c, H1 p = none → c ≤ ns.length → Q (.ref p) (upd H1 p (SetO X.w p (fun j => decide (j ∈ ns)) c))
theorem pe_setT {te : TE} (hc : X.calm = true) (hg : Gl X "set") (hm : X.mg "set" = none) (he : PE X e te) (na : starEach [e] X.env = (false, eval e X.env) :: starEach [] X.env := by rfl) :
    PE X (.Call (.Name "set" p2) [e] [] q) (tSetT X te) := by
  refine ⟨fun pins s σ H Q I h => ?_⟩
  refine Call_ (ld_blt I hg hm boot_set ?_)
  refine callWith_type1 (args_cons (thn (he.run pins s σ H _ I h) fun v s1 ⟨x, H1, I1, r1, a, ns, ex, hq, hl, q1⟩ => args_nil ?_) na) na rfl
  subst ex
  obtain rfl : v = Value.ref a := r1
  obtain ⟨its, r, pl, hz⟩ := I1.tuple hq
  refine call_set_tupI ns (I1.ok.hd hc) (show s1.heap.IsTuple a its.toArray from pl) (by simpa using ints_of_vals r) (by unfold scanBound; omega) fun h' tk c R hcl hk => ?_
  exact ⟨.ref _, upd H1 s1.heap.objs.size (SetO X.w s1.heap.objs.size (fun j => decide (j ∈ ns)) c), I1.laid (t' := tk) (fun b o e => hk b o e) (Nat.le_refl _) (setO_new R), rfl, q1 _ _ (I1.hok.fresh (Nat.le_refl _)) hcl⟩
theorem se_ss (hc : X.calm = true) (hg : Gl X "sorted") (hm : X.mg "sorted" = none) (hg2 : Gl X "set") (hm2 : X.mg "set" = none) (he : SE X W e f) (na : starEach [e] X.env = (false, eval e X.env) :: starEach [] X.env := by rfl)
    (nb : starEach [.Call (.Name "set" p2) [e] [] q] X.env = (false, eval (.Call (.Name "set" p2) [e] [] q) X.env) :: starEach [] X.env := by rfl) (hpl : (backTo pos (starEach [] X.env)).any (·.1) = false := by rfl) :
    SE X W (.Call (.Name "sorted" p) [.Call (.Name "set" p2) [e] [] q] [] pos) (op1 gSS f) :=
  (pe_callB (cr_sortedSet hc) hg hm boot_sorted (pa_cons (pe_setT hc hg2 hm2 he na) pa_nil nb) (he := nb) (hpl := hpl)).conseq fun σ H Q h => by
    obtain ⟨pa, α, G, rel, r⟩ := t_op1 h
    refine ⟨pa, α, G, rel, r.mono fun v H1 ⟨pa1, α1, G1, d, z, hat, hd, hg⟩ => ?_⟩
    cases d with
    | tuple ds =>
      simp only [gSS] at hg
      cases e2 : intsD ds with
      | none => rw [e2] at hg; cases hg
      | some ns =>
        rw [e2] at hg
        simp only at hg
        cases e3 : Nat.blt ns.length 60 with
        | false => rw [e3] at hg; cases hg
        | true =>
          rw [e3] at hg
          cases hg
          cases intsD_eq e2
          cases (show Dp X.K G1 v (.tuple (ns.map PyData.int)) from hd) with | @tup a vs _ q1 q2 =>
          cases dpAll_ints q2
          have hl : ns.length < 60 := Nat.le_of_ble_eq_true e3
          refine ⟨a, ns, rfl, hat.rel.le.sqT q1, hl, fun p1 c hp1 hcl => ?_⟩
          refine ⟨p1, _, c, rfl, upd_same, by omega, fun ms p3 h1 h2 h3 hp3 => ?_⟩
          have em : ms = sdI ns := rise_eq h1 (sdI_pw ns) fun z => by rw [h2 z, sdI_mem]; exact decide_eq_true_iff
          subst em
          have res := hat.res.shift (Step.laid (SetO X.w p1 (fun j => decide (j ∈ ns)) c) hp1)
          exact out_lst (hat.rel.laid _ hp1) res (dpInts _) p3 hp3
    | _ => cases hg
end
end Sx

namespace Sx
open PySem PySem.Spec L2
open PyProof.Rows hiding St

/-! ### isinstance(x, (tuple, list)) -/
def isTL : D → Option Bool
  | .list _ => some true
  | .tuple _ => some true
  | .dict _ => none
  | _ => some false
def gIsTL : D → Option SV := fun d => match isTL d with
  | some b => some (.fr (.bool b))
  | none => none
section
variable {X : Cx} {W : WX} {e : Expr} {es : List Expr} {f : EF} {p q1 q2 tpos pos : Pos}
def tTupX (ta : TA) : TE := fun σ H Q => ta σ H fun xs H1 => xs.length ≤ sizeLine ∧ ∀ p its, H1 p = none → Vals xs its → Q (.ref p) (upd H1 p (.frz (tupObj its) (.tup xs)))
theorem pe_tupX {x1 : Nat} {ta : TA} (h : PA X es ta) : PE X (.Tuple es x1 pos) (tTupX ta) := by
  refine ⟨fun pins s σ H Q I hq => ?_⟩
  refine wpAny_Tuple_spliced ?_
  refine thn (h.run pos pins s σ H _ I hq) fun us s1 ⟨xs, H1, I1, r, z, q⟩ => ?_
  exact ⟨by rw [← r.length]; exact z, .ref s1.heap.objs.size, _, lay_tup I1 r z, rfl, q _ _ (I1.hok.fresh (Nat.le_refl _)) r⟩
theorem none_ans {T : String} (hne : (Value.type "NoneType" == Value.type T) = false) (hty : typeOf (.type T) = pure (.type "type")) (hsub : isSubtype (.type "NoneType") (.type T) = pure false) : Answers (fun s => s.TypeIs .none "NoneType") .none (.type T) false :=
  fun _ _ _ _ _ _ s hs => by
    obtain ⟨h, g, d, t, os⟩ := s
    exact isinstance_nested_false_none hne hty hsub (hs.2 (t + 1))
theorem tl_ans {s : Shared} {v : Value} {d : D} {as : List Addr} {b : Bool} (r : Reads s.heap v d as) (e : isTL d = some b) :
    ∃ Tx vs, s.TypeIs v Tx ∧ AnswersAll (fun s => s.TypeIs v Tx) v [.type "tuple", .type "list"] vs ∧ vs.any id = b := by
  cases d with
  | none => cases e; cases r; exact ⟨"NoneType", [false, false], rfl, ⟨none_ans (by decide +kernel) PySem.F.isi_meta_tuple PySem.F.sub_NoneType_tuple, none_ans (by decide +kernel) PySem.F.isi_meta_list PySem.F.sub_NoneType_list, True.intro⟩, rfl⟩
  | bool k => cases e; cases r; exact ⟨"bool", [false, false], rfl, ⟨Answers.of_false_bool (by decide +kernel) PySem.F.isi_meta_tuple PySem.F.sub_bool_tuple, Answers.of_false_bool (by decide +kernel) PySem.F.isi_meta_list PySem.F.sub_bool_list, True.intro⟩, rfl⟩
  | int k => cases e; cases r; exact ⟨"int", [false, false], rfl, ⟨Answers.of_false_int (by decide +kernel) PySem.F.isi_meta_tuple PySem.F.sub_int_tuple, Answers.of_false_int (by decide +kernel) PySem.F.isi_meta_list PySem.F.sub_int_list, True.intro⟩, rfl⟩
  | str k => cases e; cases r; exact ⟨"str", [false, false], rfl, ⟨Answers.of_false_str (by decide +kernel) PySem.F.isi_meta_tuple PySem.F.sub_str_tuple, Answers.of_false_str (by decide +kernel) PySem.F.isi_meta_list PySem.F.sub_str_list, True.intro⟩, rfl⟩
  | list ds => cases e; cases r with | list h1 h2 _ _ => exact ⟨"list", [false, true], ⟨_, h1, h2⟩, ⟨Answers.of_false_list (by decide +kernel) PySem.F.isi_meta_tuple PySem.F.sub_list_tuple, Answers.of_true PySem.F.isi_meta_list PySem.F.sub_list_list, True.intro⟩, rfl⟩
  | tuple ds => cases e; cases r with | tuple h1 h2 _ _ => exact ⟨"tuple", [true, false], ⟨_, h1, h2⟩, isi_ans _, rfl⟩
  | dict kvs => cases e
theorem se_isTL {k : Nat} (hg : Gl X "isinstance") (hm : X.mg "isinstance" = none) (he : SE X W e f) (mt : X.mg "tuple" = none) (gt : Gl X "tuple") (ml : X.mg "list" = none) (gl : Gl X "list")
    (hs1 : starEach [e, .Tuple [.Name "tuple" q1, .Name "list" q2] k tpos] X.env = (false, eval e X.env) :: starEach [.Tuple [.Name "tuple" q1, .Name "list" q2] k tpos] X.env := by rfl)
    (hs2 : starEach [.Tuple [.Name "tuple" q1, .Name "list" q2] k tpos] X.env = (false, eval (.Tuple [.Name "tuple" q1, .Name "list" q2] k tpos) X.env) :: starEach [] X.env := by rfl)
    (hs3 : starEach [.Name "tuple" q1, .Name "list" q2] X.env = (false, eval (.Name "tuple" q1) X.env) :: starEach [.Name "list" q2] X.env := by rfl) (hs4 : starEach [.Name "list" q2] X.env = (false, eval (.Name "list" q2) X.env) :: starEach [] X.env := by rfl)
    (hpl : (backTo pos (starEach [.Tuple [.Name "tuple" q1, .Name "list" q2] k tpos] X.env)).any (·.1) = false := by rfl) :
    SE X W (.Call (.Name "isinstance" p) [e, .Tuple [.Name "tuple" q1, .Name "list" q2] k tpos] [] pos) (op1 gIsTL f) := by
  refine ⟨fun pins s σ H Q I h => ?_⟩
  refine wpAny_Call_Name_kw (ld_blt I hg hm PyProof.Rows.boot_isinstance ?_ (by decide) (by decide))
  have ht := pe_tupX (x1 := k) (pos := tpos) (pa_cons (pe_bltn (v := .ty "tuple") (pos := q1) gt mt boot_tuple rfl) (pa_cons (pe_bltn (v := .ty "list") (pos := q2) gl ml boot_list rfl) pa_nil hs4) hs3)
  have ha := (pa_cons he (pa_cons ht pa_nil hs2) hs1).run pos pins s σ H (fun vs H2 => ∃ v T its H1, vs = [v, .ref T] ∧ T1 X W gIsTL σ v H1 Q ∧ H1 T = none ∧ Vals [V.ty "tuple", V.ty "list"] its ∧ H2 = upd H1 T (.frz (tupObj its) (.tup [.ty "tuple", .ty "list"]))) I (by
    obtain ⟨pa, α, G, rel, r⟩ := t_op1 h
    refine ⟨pa, α, G, rel, r.mono fun v H1 q => ⟨by show 2 ≤ sizeLine; rw [sizeLine_eq]; omega, fun T its hT hv => ⟨v, T, its, H1, rfl, q, hT, hv, rfl⟩⟩⟩)
  refine PyProof.Rows.callWith_builtin1 (thn ha fun us s1 ⟨vs, H2, I2, r1, v, T, its, H1, e1, ⟨pa, α, G, d, z, hat, hd, hg⟩, hT, hv, eH⟩ => ?_) hs1 hpl
  subst e1 eH
  obtain ⟨w, w2, rfl, ru, ru2⟩ := vals2 r1
  obtain rfl : w2 = Value.ref T := ru2
  obtain rfl := vals_ty2 hv
  have hob : s1.heap.get? T = some (tupObj [.type "tuple", .type "list"]) := (I2.hok T _ upd_same).1
  have rel2 := hat.rel.laid (.frz (tupObj [.type "tuple", .type "list"]) (.tup [.ty "tuple", .ty "list"])) hT
  have res2 := hat.res.shift (Step.laid (.frz (tupObj [.type "tuple", .type "list"]) (.tup [.ty "tuple", .ty "list"])) hT)
  obtain ⟨as, ra⟩ := Dp.reads I2 d v w ((le_upd hT).dp d v (hd.dp hat.rel.le)) ru
  unfold gIsTL at hg
  cases e1 : isTL d with
  | none => rw [e1] at hg; cases hg
  | some b =>
    rw [e1] at hg; cases hg
    obtain ⟨Tx, vs, t1, t2, rfl⟩ := tl_ans ra e1
    exact call_isinstance (isinstance_tuple (x := w) (Tx := Tx) (tp := T) t2) ⟨t1, hob, fun tk => ⟨.bl _, _, I2.tok tk, rfl, out_d rel2 res2 (.bl _)⟩⟩
end
end Sx

namespace Sx
open PySem PySem.Spec L2
open PyProof.Rows hiding St

/-! ### enumerate of a list -/
def enD : Nat → List D → List LI
  | _, [] => []
  | n, d :: ds => .pr [.int (n : Nat), d] :: enD (n + 1) ds
theorem enD_get : ∀ {ds : List D} {n i : Nat} {x : LI}, (enD n ds)[i]? = some x → ∃ d, ds[i]? = some d ∧ x = .pr [.int ((n + i : Nat) : Int), d]
  | [], _, _, _, h => by simp [enD] at h
  | d :: ds, n, 0, x, h => ⟨d, rfl, (Option.some.inj h).symm⟩
  | d :: ds, n, i + 1, x, h => by
    obtain ⟨e, h1, h2⟩ := enD_get (ds := ds) (n := n + 1) (i := i) h
    exact ⟨e, h1, by rw [h2, show n + 1 + i = n + (i + 1) by omega]⟩
theorem enD_len : ∀ (n : Nat) (ds : List D), (enD n ds).length = ds.length
  | _, [] => rfl
  | n, d :: ds => by simp [enD, enD_len (n + 1) ds]
def iEn (f : EF) : IF := fun s => (f s).bind fun x s1 => match fz s1 x with
  | some (.fr (.list ds), s2) => .ok (enD 0 ds) s2
  | _ => .no
section
variable {X : Cx} {W : WX} {e : Expr} {f : EF} {p pos tpos : Pos} {elts : List Expr} {kk : Nat}
theorem yld_enum {C : Ct} {a : Addr} {vs : List V} {ds : List D} {G : Hp} (hs : SqL C.K G a vs) (hd : DpAll C.K G vs ds) : Yld C (Ite C.K a) (enD 0 ds) G := fun α σ G1 H1 le rel => by
  have s1 : SqL C.K H1 a vs := (le.trans rel.le).sqL hs
  refine ⟨fun i x e => ?_, vs, s1, by rw [enD_len]; exact Nat.le_of_eq hd.length⟩
  obtain ⟨d0, e0, rfl⟩ := enD_get e
  obtain ⟨v, e1, dv⟩ := hd.get e0
  refine ⟨⟨vs, v, s1, e1⟩, fun z H2 ⟨T, y, e3, nT, e4, h1⟩ => ?_⟩
  subst e3 e4
  cases (h1 vs s1).symm.trans e1
  rw [Nat.zero_add]
  exact pair_new rel nT (.int _) (le.dp _ _ dv)
theorem si_enum (hg : Gl X "enumerate") (hm : X.mg "enumerate" = none) (he : SE X W e f) (hs : starEach [e] X.env = (false, eval e X.env) :: starEach [] X.env := by rfl) (hs2 : starEach [e] X.env = [(false, eval e X.env)] := by rfl) :
    SI X W (.Tuple elts kk tpos) (.Call (.Name "enumerate" p) [e] [] pos) (iEn f) := (pi_enum hg hm (pa_cons he pa_nil hs) hs2).conseq fun σ H Q ⟨pa, α, G, rel, h⟩ => by
  refine ⟨pa, α, G, rel, ?_⟩
  unfold iEn at h
  cases r : f α with
  | no => rw [r] at h; exact h
  | ex x α' => rw [r] at h; exact h
  | ok x α1 =>
    rw [r] at h
    intro v G1 H1 rel1 st1 rv nv
    simp only [R.bind] at h
    cases r2 : fz α1 x with
    | none => rw [r2] at h; exact h.elim
    | some q =>
      obtain ⟨y, α2⟩ := q
      rw [r2] at h
      obtain ⟨G2, rel2, st2, av⟩ := fz_ok rel1 st1 rv nv r2
      cases y with
      | fr d =>
        cases d with
        | list ds =>
          cases (show Dp X.K G2 v (.list ds) from av) with
          | @lst a vs _ hs hd => exact ⟨a, vs, rfl, rel2.le.sqL hs, h _ G2 H1 rel2 st2 (yld_enum hs hd)⟩
        | _ => exact h.elim
      | _ => exact h.elim
end
/-! ### names are given the parts of a tuple -/
def sAsg (t : TF) (f : EF) : SF := fun s => (f s).bind fun x s1 => match fz s1 x with
  | some (.fr d, s2) => match nod d with
    | some d => match t (.d d) s2 with
      | some s3 => .ok .next s3
      | none => .no
    | none => .no
  | _ => .no
section
variable {X : Cx} {W : WX} {tg e : Expr} {f : EF} {t : TF} {ks : List Nat} {pos : Pos}
theorem ss_asg (he : SE X W e f) (hg : SG X tg ks t) (hs : swapsWithSole [tg] e pos.line X.env = pure false := by rfl) (hw : swappedStores [tg] e X.env = pure none := by rfl)
    (h1 : (assignEach [tg] X.env).map (·.2) = [assign tg X.env] := by rfl) : SS X W (.Assign [tg] e pos) (sAsg t f) := (ps_asg he hg hs hw h1).conseq fun D σ H ⟨pa, α, G, rel, h⟩ => by
  refine ⟨pa, α, G, rel, ?_⟩
  unfold sAsg at h
  cases r : f α with
  | no => rw [r] at h; exact h
  | ex x α' => rw [r] at h; exact fun cls d G' H' rel' s' rx => h cls d σ G' H' rel' s' rx
  | ok x α1 =>
    rw [r] at h
    intro v G1 H1 rel1 st1 rv nv
    simp only [R.bind] at h
    cases r2 : fz α1 x with
    | none => rw [r2] at h; exact h.elim
    | some q =>
      obtain ⟨y, α2⟩ := q
      rw [r2] at h
      obtain ⟨G2, rel2, st2, av⟩ := fz_ok rel1 st1 rv nv r2
      cases y with
      | fr d0 =>
        simp only at h
        cases q0 : nod d0 with
        | none => rw [q0] at h; exact h.elim
        | some d =>
        rw [q0] at h
        obtain ⟨rfl, nd⟩ := nod_eq q0
        simp only at h
        cases r3 : t (.d d0) α2 with
        | none => rw [r3] at h; exact h.elim
        | some α3 =>
          rw [r3] at h
          exact ⟨pa, α2, G2, .d d0, α3, rel2, FrV.dp av nd, r3, fun σ' b' rel3 st3 => h σ' G2 H1 rel3 (st2.trans st3)⟩
      | _ => exact h.elim
end
end Sx

namespace Sx
open PySem PySem.Spec L2
open PyProof.Rows hiding St

/-! ### Base.__init__(self, ..), Base an own class without own __init__, below ValueError -/
structure BaseX (K : PySem.W.Frag) (B : Addr) : Prop where
  ga : PySem.W.specialIn K (.ref B) "__getattribute__" = some (some (.builtin "type.__getattribute__"))
  rd : PySem.W.readsIn K B (.type "type") = true
  ini : PySem.W.findCls K (.ref B) (.type "type") "__init__" = some (.val (.builtin "ValueError.__init__"))
section
variable {X : Cx} {e : Expr} {es : List Expr} {ta : TA} {p1 p2 pos : Pos} {x : Str} {B : Addr}
theorem pe_binit {pl : Sem Bool} (T : BaseX X.K B) (hg : Gl X x) (hm : X.mg x = some (.ref B)) (ha : PA X (e :: es) ta)
    (hc : eval (.Call (.Attribute (.Name x p1) "__init__" p2) (e :: es) [] pos) X.env = (do
      let ov ← eval (.Name x p1) X.env
      standAt p2.atName
      let (f, first) ← holding [ov] (getMethod ov "__init__" pl)
      callWith pos f first (backTo pos (starEach (e :: es) X.env)) (backToKw pos (keywordEach [] X.env))) := by rfl)
    (he : starEach (e :: es) X.env = (false, eval e X.env) :: starEach es X.env := by rfl) (hpl : (backTo pos (starEach es X.env)).any (·.1) = false := by rfl) (hdb : (x == ("__debug__" : Str)) = false := by decide) :
    PE X (.Call (.Attribute (.Name x p1) "__init__" p2) (e :: es) [] pos) (tVeI X.K ta) := by
  refine ⟨fun pins s σ H Q I h => ?_⟩
  refine PySem.W.methodCall_KW (ld_glob I hg hm ?_ hdb) hc
  refine PySem.W.method_cls I.kIn T.ga ?_
  refine PySem.W.cls_value I.kIn T.rd T.ini (by decide +kernel) ?_
  refine callWith_method1 (thn (ha.run pos pins _ σ H _ (I.tok _) h) fun us s1 ⟨vs, H1, I1, r1, a, C, ws, ev, hl, T2, ea, q⟩ => ?_) he hpl
  subst ev
  cases r1 with
  | @cons _ u0 _ ur ra rr =>
    obtain rfl : u0 = Value.ref a := ra
    exact oinit_ok T2 I1 ea (by rw [← Paired.length rr, sizeLine_eq]; omega) fun s' J => ⟨.non, H1, J, rfl, q⟩
end
end Sx

namespace Sx
open PySem PySem.Spec L2
open PyProof.Rows hiding St

/-! ### raise C(e, ..), C an own class whose __init__ keeps its fields -/
def spIni (K : PySem.W.Frag) (fields : List Str) : Sp := fun vs H Q E => ∃ a C ws, vs = .ref a :: ws ∧ ws.length = fields.length ∧ OexC K C ∧ H a = some (exo a C none) ∧ (∀ f ∈ fields, PySem.W.findIn K (.ref C) f = some none) ∧
  ∀ dx, H dx = none → Q .non (upd (upd H dx (exd dx (fields.zip ws).reverse)) a (exo a C (some dx)))
def sRaise (nm : Str) (fields : List Str) (f : AF) : SF := fun s => (f s).bind fun xs s1 => match eTup.datsOf xs with
  | some ds => if ds.length = fields.length ∧ ds.length ≤ 1000 then .ex ⟨nm, (fields.zip ds).reverse⟩ s1 else .no
  | none => .no
theorem zip_fst {α β : Type} : ∀ (as : List α) (bs : List β), as.length = bs.length → (as.zip bs).map (·.1) = as
  | [], _, _ => by simp
  | a :: as, [], h => by simp at h
  | a :: as, b :: bs, h => by
    have := zip_fst as bs (by simpa using h)
    simp [this]
theorem zip_snd {α β : Type} : ∀ (as : List α) (bs : List β), as.length = bs.length → (as.zip bs).map (·.2) = bs
  | [], [], _ => rfl
  | [], b :: bs, h => by simp at h
  | a :: as, [], h => by simp at h
  | a :: as, b :: bs, h => by
    have := zip_snd as bs (by simpa using h)
    simp [this]
section
variable {X : Cx} {W : WX} {x : Str} {C fI : Addr} {k : Nat} {fd : FuncData} {ps : List Str} {fields : List Str} {e : Expr} {es : List Expr} {fa : AF} {p pos pos' : Pos}
theorem ss_raise (hc : X.calm = true) (tk : Takes X W) (tk0 : Passes (L2.CX X.prog X.w) X (fun _ _ _ => False)) (T : OexC X.K C) (iC : PySem.W.findIn X.K (.ref C) "__init__" = some (some (.ref fI))) (tI : PySem.W.typeIn X.K (.ref fI) = some (.type "function"))
    (F1 : FnOk X.prog X.w X.K X.mg X.base (L2.CX X.prog X.w) k fI fd ps (spIni X.K fields)) (hr : Room (k + 1) X.A) (hb : Binds X.K fd ps []) (nf : ∀ f ∈ fields, PySem.W.findIn X.K (.ref C) f = some none) (hg : Gl X x) (hm : X.mg x = some (.ref C)) (ha : SA X W (e :: es) fa)
    (hdb : (x == ("__debug__" : Str)) = false := by decide) (he : starEach (e :: es) X.env = (false, eval e X.env) :: starEach es X.env := by rfl) (hpl : (backTo pos (starEach es X.env)).any (·.1) = false := by rfl) :
    SS X W (.Raise (some (.Call (.Name x p) (e :: es) [] pos)) none pos') (sRaise x fields fa) :=
  (ps_raise hc tk (pmk_oex T iC tI F1 hr hb (dvs := []) .nil tk0 hg hm ha hdb he hpl)).conseq fun D σ H ⟨pa, α, G, rel, h⟩ => by
    refine ⟨pa, α, G, rel, ?_⟩
    unfold sRaise at h
    cases r : fa α with
    | no => rw [r] at h; exact h
    | ex y α' => rw [r] at h; exact fun cls d G' H' rel' s' rx => h cls d σ G' H' rel' s' rx
    | ok xs α1 =>
      rw [r] at h
      intro vs G1 H1 rel1 st1 av
      simp only [R.bind] at h
      cases e1 : eTup.datsOf xs with
      | none => rw [e1] at h; exact h.elim
      | some ds =>
        rw [e1] at h
        simp only at h
        split at h
        · rename_i hl
          have dp := args_dats av e1
          have l := dp.length
          refine ⟨by rw [l]; exact hl.2, fun a ha0 => ⟨a, C, vs, by rw [List.append_nil], by rw [l]; exact hl.1, T, upd_same, nf, fun dx hdx => ?_⟩⟩
          have nda : dx ≠ a := fun z => by subst z; rw [upd_same] at hdx; cases hdx
          have hdx1 : H1 dx = none := by rw [upd_ne nda] at hdx; exact hdx
          refine ⟨rfl, dx, (fields.zip vs).reverse, upd_same, by rw [upd_ne nda, upd_same], hdx1, ?_⟩
          have eH : upd (del (upd (upd (upd H1 a (exo a C none)) dx (exd dx (fields.zip vs).reverse)) a (exo a C (some dx))) a) dx (.xd (fields.zip vs).reverse) = upd H1 dx (.xd (fields.zip vs).reverse) := by
            funext b
            by_cases hb1 : b = dx
            · rw [hb1, upd_same, upd_same]
            · rw [upd_ne hb1, upd_ne hb1]
              by_cases hb2 : b = a
              · rw [hb2, del_same, ha0]
              · rw [del_ne hb2, upd_ne hb2, upd_ne hb1, upd_ne hb2]
          rw [eH]
          refine h _ _ σ G1 _ (rel1.laid _ hdx1) (st1.trans (Step.laid _ hdx1)) ⟨C, dx, (fields.zip vs).reverse, rfl, hm, rfl, upd_same, ?_, ?_⟩
          · rw [List.map_reverse, List.map_reverse, zip_fst _ _ (by rw [l]; exact hl.1.symm), zip_fst _ _ hl.1.symm]
          · rw [List.map_reverse, List.map_reverse, zip_snd _ _ (by rw [l]; exact hl.1.symm), zip_snd _ _ hl.1.symm]
            exact dp.rev
        · exact h.elim
end
end Sx

namespace Sx
open PySem PySem.Spec L2
open PyProof.Rows hiding St

/-! ### own dicts: the object -/
theorem raw_ok {P : Program} {w : World} {H : Hp} {h : Heap} {a : Addr} {xs : List Ent} (z : xs.length ≤ sizeLine) (hs : (a == sysModules) = false) {o : Obj} {es : Array DictEntry} {ep : Nat} (ho : h.get? a = some o) (hx : o.ExactDict) (hd : o.data = .dict es ep) (he : es.toList = xs.map (entryOfKey (nestedKind P w))) (hn : (xs.map (·.1)).Nodup) :
    ObjOk P w H h a (rawD w P a (ep, xs)) :=
  ⟨⟨z, hs, o, es, ho, hx, hd, he, hn⟩, ⟨o, ho⟩, fun h1 h2 ⟨z1, z2, o1, e1, q1, q2⟩ k => ⟨z1, z2, o1, e1, k _ q1, q2⟩⟩
theorem raw_get {pins : List (Addr × Obj)} {X : Cx} {σ : St} {H : Hp} {s : Shared} {a : Addr} {xs : Nat × List Ent} (I : L2.Inv X pins σ H s) (e : H a = some (rawD X.w X.prog a xs)) :
    xs.2.length ≤ sizeLine ∧ (a == sysModules) = false ∧ ∃ o es, s.heap.get? a = some o ∧ o.ExactDict ∧ o.data = .dict es xs.1 ∧ es.toList = xs.2.map (entryOfKey (nestedKind X.prog X.w)) ∧ (xs.2.map (·.1)).Nodup := (I.hok a _ e).1

/-! ### keys -/
mutual
/-- two keys are alike (no bools within) -/
def kEq : D → D → Bool
  | .none, .none => true
  | .int a, .int b => decide (a = b)
  | .str a, .str b => decide (a = b)
  | .tuple a, .tuple b => kEqs a b
  | _, _ => false
def kEqs : List D → List D → Bool
  | [], [] => true
  | a :: as, b :: bs => kEq a b && kEqs as bs
  | _, _ => false
end
mutual
theorem kEq_data : ∀ a b : NestedKey, kEq a.data b.data = NestedKey.beq a b
  | .none, .none => by simp only [NestedKey.data, kEq, NestedKey.beq]
  | .num a, .num b => by simp only [NestedKey.data, kEq, NestedKey.beq]
  | .text a, .text b => by simp only [NestedKey.data, kEq, NestedKey.beq]
  | .tup a, .tup b => by simp only [NestedKey.data, kEq, NestedKey.beq]; exact kEqs_data a b
  | .none, .num _ => by simp only [NestedKey.data, kEq, NestedKey.beq]
  | .none, .text _ => by simp only [NestedKey.data, kEq, NestedKey.beq]
  | .none, .tup _ => by simp only [NestedKey.data, kEq, NestedKey.beq]
  | .num _, .none => by simp only [NestedKey.data, kEq, NestedKey.beq]
  | .num _, .text _ => by simp only [NestedKey.data, kEq, NestedKey.beq]
  | .num _, .tup _ => by simp only [NestedKey.data, kEq, NestedKey.beq]
  | .text _, .none => by simp only [NestedKey.data, kEq, NestedKey.beq]
  | .text _, .num _ => by simp only [NestedKey.data, kEq, NestedKey.beq]
  | .text _, .tup _ => by simp only [NestedKey.data, kEq, NestedKey.beq]
  | .tup _, .none => by simp only [NestedKey.data, kEq, NestedKey.beq]
  | .tup _, .num _ => by simp only [NestedKey.data, kEq, NestedKey.beq]
  | .tup _, .text _ => by simp only [NestedKey.data, kEq, NestedKey.beq]
theorem kEqs_data : ∀ a b : List NestedKey, kEqs (NestedKey.datas a) (NestedKey.datas b) = NestedKey.beqAll a b
  | [], [] => by simp only [NestedKey.datas, kEqs, NestedKey.beqAll]
  | a :: as, b :: bs => by simp only [NestedKey.datas, kEqs, NestedKey.beqAll, kEq_data a b, kEqs_data as bs]
  | [], _ :: _ => by simp only [NestedKey.datas, kEqs, NestedKey.beqAll]
  | _ :: _, [] => by simp only [NestedKey.datas, kEqs, NestedKey.beqAll]
end
theorem kEq_iff {a b : NestedKey} : kEq a.data b.data = true ↔ a = b := by
  rw [kEq_data]
  exact ⟨NestedKey.eq_of_beq a b, fun e => e ▸ NestedKey.beq_self a⟩
/-- fit to stand within a key -/
def keyIn : Nat → D → Bool
  | _, .none => true
  | _, .int _ => true
  | _, .str _ => true
  | n + 1, .tuple ds => ds.all (keyIn n)
  | _, _ => false
def keyOk : D → Bool
  | .tuple ds => keyIn 8 (.tuple ds)
  | _ => false
theorem keyIn_ex : ∀ (n : Nat) (d : D), keyIn n d = true → ∃ k : NestedKey, k.data = d ∧ k.depth ≤ n
  | n, .none, _ => ⟨.none, by simp [NestedKey.data], by simp [NestedKey.depth]⟩
  | n, .int i, _ => ⟨.num i, by simp [NestedKey.data], by simp [NestedKey.depth]⟩
  | n, .str x, _ => ⟨.text x, by simp [NestedKey.data], by simp [NestedKey.depth]⟩
  | 0, .tuple _, h => by simp [keyIn] at h
  | n + 1, .tuple ds, h => by
    simp only [keyIn, List.all_eq_true] at h
    have key : ∀ es : List D, (∀ d ∈ es, ∃ k : NestedKey, k.data = d ∧ k.depth ≤ n) → ∃ ks, NestedKey.datas ks = es ∧ NestedKey.depthAll ks ≤ n := by
      intro es
      induction es with
      | nil => exact fun _ => ⟨[], by simp [NestedKey.datas], by simp [NestedKey.depthAll]⟩
      | cons d es ih =>
        intro hs
        obtain ⟨k, h1, h2⟩ := hs d List.mem_cons_self
        obtain ⟨ks, h3, h4⟩ := ih fun e he => hs e (List.mem_cons_of_mem _ he)
        exact ⟨k :: ks, by simp [NestedKey.datas, h1, h3], by simp only [NestedKey.depthAll]; omega⟩
    obtain ⟨ks, h1, h2⟩ := key ds fun d hd => keyIn_ex n d (h d hd)
    exact ⟨.tup ks, by simp [NestedKey.data, h1], by simp only [NestedKey.depth]; omega⟩
  | 0, .bool _, h => by simp [keyIn] at h
  | n + 1, .bool _, h => by simp [keyIn] at h
  | 0, .list _, h => by simp [keyIn] at h
  | n + 1, .list _, h => by simp [keyIn] at h
  | 0, .dict _, h => by simp [keyIn] at h
  | n + 1, .dict _, h => by simp [keyIn] at h
theorem keyOk_ex {d : D} (h : keyOk d = true) : ∃ k : NestedKey, k.data = d ∧ k.depth ≤ 8 ∧ ∃ ds, d = .tuple ds := by
  cases d with
  | tuple ds => obtain ⟨k, h1, h2⟩ := keyIn_ex 8 _ h; exact ⟨k, h1, h2, ds, rfl⟩
  | _ => simp [keyOk] at h
mutual
theorem nis_of {pins : List (Addr × Obj)} {X : Cx} {σ : St} {H : Hp} {s : Shared} (I : L2.Inv X pins σ H s) : ∀ (k : NestedKey) {v : V} {u : Value}, Dp X.K H v k.data → RelV v u → NestedIs s.heap k u
  | .none, v, u, h, r => by
    simp only [NestedKey.data] at h; cases h
    cases (show u = Value.none from r)
    exact .none
  | .num i, v, u, h, r => by
    simp only [NestedKey.data] at h; cases h
    obtain ⟨t, rfl⟩ := r
    exact .int i t
  | .text x, v, u, h, r => by
    simp only [NestedKey.data] at h; cases h
    obtain ⟨t, rfl⟩ := r
    exact .text x t
  | .tup ks, v, u, h, r => by
    simp only [NestedKey.data] at h
    cases h with | @tup a vs _ hs hv =>
    cases (show u = Value.ref a from r)
    obtain ⟨its, rv, ⟨o, ho, hc, n, hd⟩, _⟩ := I.tuple hs
    exact .tup ho hc hd (nisAll_of I ks hv (by simpa using rv))
theorem nisAll_of {pins : List (Addr × Obj)} {X : Cx} {σ : St} {H : Hp} {s : Shared} (I : L2.Inv X pins σ H s) : ∀ (ks : List NestedKey) {vs : List V} {us : List Value}, DpAll X.K H vs (NestedKey.datas ks) → Vals vs us → NestedAll s.heap ks us
  | [], _, _, h, r => by
    simp only [NestedKey.datas] at h; cases h; cases r; exact .nil
  | k :: ks, _, _, h, r => by
    simp only [NestedKey.datas] at h
    cases h with | cons h1 h2 =>
    cases r with | cons r1 r2 => exact .cons (nis_of I k h1 r1) (nisAll_of I ks h2 r2)
end

/-! ### reading, storing: entries -/
def getD (kvs : List (D × D)) (k : D) : Option D := match kvs with
  | [] => none
  | (j, d) :: r => bif kEq j k then some d else getD r k
def putD (kvs : List (D × D)) (k v : D) : List (D × D) := match kvs with
  | [] => [(k, v)]
  | (j, d) :: r => bif kEq j k then (j, v) :: r else (j, d) :: putD r k v
section
variable {C : Ct} {G : Hp}
theorem atKey_nil {k : NestedKey} : atKey ([] : List Ent) k = none := rfl
theorem atKey_cons {x : Ent} {xs : List Ent} {k : NestedKey} : atKey (x :: xs) k = if x.1 = k then some x.2 else atKey xs k := by
  unfold atKey
  rw [List.find?_cons]
  by_cases h : x.1 = k
  · rw [decide_eq_true h, if_pos h]; rfl
  · rw [decide_eq_false h, if_neg h]
theorem ents_get : ∀ {xs : List Ent} {kvs : List (D × D)}, FdEnts C G xs kvs → ∀ k : NestedKey, (∃ b u v d, atKey xs k = some (b, u) ∧ RelV v u ∧ Fd C G v d ∧ getD kvs k.data = some d) ∨ (atKey xs k = none ∧ getD kvs k.data = none)
  | _, _, .nil, k => .inr ⟨rfl, rfl⟩
  | _, _, .cons (k := j) (b := b) (u := u) (v := v) (d := d) h1 h0 h2 h3 t, k => by
    by_cases h : j = k
    · subst h
      refine .inl ⟨b, u, v, d, by rw [atKey_cons, if_pos rfl], h2, h3, ?_⟩
      unfold getD
      rw [kEq_iff.mpr rfl]; rfl
    · have e : kEq j.data k.data = false := by rw [kEq_data]; cases q : NestedKey.beq j k with | false => rfl | true => exact absurd (NestedKey.eq_of_beq j k q) h
      rw [atKey_cons, if_neg h]
      unfold getD
      rw [e]
      exact ents_get t k
theorem map_put_none {k : NestedKey} {u : Value} : ∀ {xs : List Ent}, k ∉ xs.map (·.1) → xs.map (putAt k u) = xs
  | [], _ => rfl
  | x :: xs, h => by
    rw [List.map_cons, map_put_none fun z => h (List.mem_cons_of_mem _ z)]
    congr 1
    unfold putAt
    rw [if_neg fun z => h (by rw [← z]; exact List.mem_cons_self)]
theorem storedH_cons {x : Ent} {xs : List Ent} {k : NestedKey} {b : Addr} {u : Value} (hn : ((x :: xs).map (·.1)).Nodup) : storedH (x :: xs) k b u = if x.1 = k then (x.1, x.2.1, u) :: xs else x :: storedH xs k b u := by
  by_cases h : x.1 = k
  · rw [if_pos h]
    unfold storedH
    rw [atKey_cons, if_pos h]
    have nk : k ∉ xs.map (·.1) := by rw [← h]; exact (List.nodup_cons.mp hn).1
    show (x :: xs).map (putAt k u) = _
    rw [List.map_cons, map_put_none nk]
    unfold putAt
    rw [if_pos h]
  · rw [if_neg h]
    unfold storedH
    rw [atKey_cons, if_neg h]
    split
    · rw [List.map_cons]
      congr 1
      unfold putAt
      rw [if_neg h]
    · rfl
theorem ents_put {k : NestedKey} {b : Addr} {u : Value} {v : V} {d : D} (hk : Dp C.K G (.ref b) k.data) (h8 : k.depth ≤ 8) (hu : RelV v u) (hd : Fd C G v d) : ∀ {xs : List Ent} {kvs : List (D × D)}, FdEnts C G xs kvs → (xs.map (·.1)).Nodup → FdEnts C G (storedH xs k b u) (putD kvs k.data d)
  | _, _, .nil, _ => .cons hk h8 hu hd .nil
  | _, _, .cons (k := j) h1 h0 h2 h3 t, hn => by
    rw [storedH_cons hn]
    unfold putD
    by_cases h : j = k
    · subst h
      rw [if_pos rfl, kEq_iff.mpr rfl]
      exact .cons h1 h0 hu hd t
    · have e : kEq j.data k.data = false := by rw [kEq_data]; cases q : NestedKey.beq j k with | false => rfl | true => exact absurd (NestedKey.eq_of_beq j k q) h
      rw [if_neg h, e]
      exact .cons h1 h0 h2 h3 (ents_put hk h8 hu hd t (List.nodup_cons.mp hn).2)
theorem FdEnts.length : ∀ {xs : List Ent} {kvs : List (D × D)}, FdEnts C G xs kvs → xs.length = kvs.length
  | _, _, .nil => rfl
  | _, _, .cons _ _ _ _ t => by simp [FdEnts.length t]
theorem FdEnts.get : ∀ {xs : List Ent} {kvs : List (D × D)} {i : Nat} {e : D × D}, FdEnts C G xs kvs → kvs[i]? = some e → ∃ k b u v, xs[i]? = some (k, b, u) ∧ Dp C.K G (.ref b) k.data ∧ k.data = e.1 ∧ RelV v u ∧ Fd C G v e.2
  | _, _, _, _, .nil, h => by simp at h
  | _, _, 0, e, .cons h1 h0 h2 h3 t, h => by simp at h; subst h; exact ⟨_, _, _, _, rfl, h1, rfl, h2, h3⟩
  | _, _, i + 1, e, .cons h1 h0 h2 h3 t, h => by
    obtain ⟨k, b, u, v, q1, q2⟩ := FdEnts.get (i := i) t (by simpa using h)
    exact ⟨k, b, u, v, by simpa using q1, q2⟩
end
section
variable {X : Cx} {pins : List (Addr × Obj)} {σ : St} {G H : Hp} {s : Shared} {a pa : Addr} {xs : Nat × List Ent} {kvs : List (D × D)}
theorem ents_is (I : L2.Inv X pins σ H s) (hl : Le G H) : ∀ {ys : List Ent} {kvs : List (D × D)}, FdEnts (ct X pa) G ys kvs → ∀ x ∈ ys, (nestedKind X.prog X.w).is s.heap x.1 x.2.1
  | _, _, .nil, _, h => nomatch h
  | _, _, .cons h1 h0 _ _ t, x, h => by
    rcases List.mem_cons.mp h with rfl | h
    · exact ⟨nis_of I _ (hl.dp _ _ h1) rfl, h0⟩
    · exact ents_is I hl t x h
theorem raw_dict (I : L2.Inv X pins σ H s) (hl : Le G H) (e : H a = some (rawD X.w X.prog a xs)) (t : FdEnts (ct X pa) G xs.2 kvs) : xs.2.length ≤ sizeLine ∧ (a == sysModules) = false ∧ s.heap.DictOfH (nestedKind X.prog X.w) a xs.2 := by
  obtain ⟨z, hs, o, es, ho, hx, hd, he, hn⟩ := raw_get I e
  exact ⟨z, hs, o, es, xs.1, ho, hx, hd, he, ents_is I hl t, hn⟩
end

/-! ### a value that is a dict -/
def rdD (s : AS) : SV → Option (List (D × D))
  | .fr (.dict kvs) => some kvs
  | .od kvs => some kvs
  | .bor i => match getS s i with
    | some (.fr (.dict kvs)) => some kvs
    | some (.od kvs) => some kvs
    | _ => none
  | _ => none
/-- at v stands a dict with the told entries -/
def RdE (C : Ct) (G H : Hp) (v : V) (kvs : List (D × D)) : Prop := ∃ a xs, v = .ref a ∧ H a = some (rawD C.w C.P a xs) ∧ FdEnts C G xs.2 kvs
theorem rdD_ok {C : Ct} {α : AS} {σ : St} {G H : Hp} {x : SV} {v : V} {kvs : List (D × D)} (rel : Rel C α σ G H) (rv : ValV C α σ G H x v) (e : rdD α x = some kvs) : RdE C G H v kvs := by
  have fr : ∀ {d}, FrV C G v d → ∀ {kvs}, d = .dict kvs → RdE C G H v kvs := fun {d} h kvs e => by
    subst e
    obtain ⟨a, xs, rfl, h1, h2⟩ := h
    exact ⟨a, xs, rfl, rel.le _ _ h1, h2⟩
  cases x with
  | fr d =>
    cases d with
    | dict k => cases e; exact fr (d := .dict kvs) rv rfl
    | _ => cases e
  | ol ds => cases e
  | od k =>
    cases e
    obtain ⟨a, rfl, ⟨_, xs, h1, h2⟩, _⟩ := rv
    exact ⟨a, xs, rfl, h1, h2⟩
  | pen => cases e
  | bor i =>
    unfold rdD at e
    cases g : getS α i with
    | none => simp only [g] at e; cases e
    | some sv =>
      obtain ⟨w, h1, h2⟩ := rel.sl i _ g
      have hw : σ[i]? = some (some v) := rv
      rw [hw] at h1; cases h1
      simp only [g] at e
      cases sv with
      | fr d =>
        cases d with
        | dict k => cases e; exact fr (d := .dict kvs) h2 rfl
        | _ => cases e
      | od k =>
        cases e
        obtain ⟨a, rfl, _, xs, h3, h4⟩ := h2
        exact ⟨a, xs, rfl, h3, h4⟩
      | ol ds => cases e
      | bor j => cases e
      | pen => cases e
def eDn : EF := fun s => .ok (.od []) s
section
variable {X : Cx} {W : WX} {pos : Pos}
theorem out_od {C : Ct} {mg : Str → Option Value} {α : AS} {σ : St} {G H : Hp} {Q : VK} (rel : Rel C α σ G H) {kvs : List (D × D)} {xs : Nat × List Ent} (h : Res C mg W σ α G H (.ok (.od kvs) α) Q) (hd : FdEnts C G xs.2 kvs) : ∀ p, H p = none → Q (.ref p) (upd H p (rawD C.w C.P p xs)) := fun p hp =>
  h _ _ _ (rel.laid _ hp) (Step.laid _ hp) ⟨p, rfl, ⟨rel.gone hp, xs, upd_same, hd⟩, not_own rel hp⟩ fun a e => by cases e; exact hp
theorem pe_dnewR : PE X (.Dict [] [] pos) (fun _ H Q => ∀ p, H p = none → Q (.ref p) (upd H p (rawD X.w X.prog p (0, [])))) := ⟨fun pins s σ H Q I h =>
  wpAny_Dict_empty ⟨.ref s.heap.objs.size, _, I.laid (a := s.heap.objs.size) (o := rawD X.w X.prog s.heap.objs.size (0, [])) (t' := s.toks) (fun _ _ q => Heap.get?_push_of_some _ q) (Nat.le_refl _)
    (raw_ok (Nat.zero_le _) (beq_eq_false_iff_ne.mpr (Ne.symm (Nat.ne_of_lt I.big))) (es := #[]) (ep := 0) (Heap.get?_push_size _ rfl) ⟨rfl, rfl, rfl⟩ rfl rfl List.nodup_nil), rfl, h _ (I.hok.fresh (Nat.le_refl _))⟩⟩
theorem se_dnew : SE X W (.Dict [] [] pos) eDn := pe_dnewR.conseq fun σ H Q ⟨pa, α, G, rel, h⟩ => out_od (xs := (0, [])) rel h .nil
end
end Sx

namespace Sx
open PySem PySem.Spec L2
open PyProof.Rows hiding St

/-! ### e[k], e a dict, a list or a tuple -/
def rIxD (X : Cx) : R2 := fun x y H Q => ∃ pa G kvs dk d, RdE (ct X pa) G H x kvs ∧ Le G H ∧ Dp X.K G y dk ∧ keyOk dk = true ∧ getD kvs dk = some d ∧ ∀ v, Fd (ct X pa) G v d → Q v H
section
variable {X : Cx}
theorem room_k {A : Around} (hu : A.units + 100 < cLine) : (nestedKind X.prog X.w).room A.in1 := by
  show A.units + 1 + 8 < cLine
  omega
/-- the key at y, the dict at x -/
theorem key_at {pins : List (Addr × Obj)} {s : Shared} {σ : St} {G H : Hp} {y : V} {u : Value} {dk : D} (I : L2.Inv X pins σ H s) (hl : Le G H) (hd : Dp X.K G y dk) (hk : keyOk dk = true) (ry : RelV y u) :
    ∃ k b, k.data = dk ∧ k.depth ≤ 8 ∧ y = .ref b ∧ u = .ref b ∧ (nestedKind X.prog X.w).is s.heap k b := by
  obtain ⟨k, rfl, h8, ds, e⟩ := keyOk_ex hk
  rw [e] at hd
  cases hd with | @tup b vs _ q1 q2 =>
  cases (show u = Value.ref b from ry)
  exact ⟨k, b, rfl, h8, rfl, rfl, nis_of I k (v := .ref b) (by rw [e]; exact .tup (hl.sqT q1) (hl.dpAll _ _ q2)) rfl, h8⟩
theorem ix_raw (hu : X.A.units + 100 < cLine) : IxR X (rIxD X) := by
  intro value slice pins s σ H x y v u Q I rx ry h hs
  obtain ⟨pa, G, kvs, dk, d, ⟨a, xs, rfl, ha, ht⟩, hl, hd, hk, hg, q⟩ := h
  cases (show v = Value.ref a from rx)
  obtain ⟨k, b, rfl, h8, rfl, rfl, hkey⟩ := key_at I hl hd hk ry
  obtain ⟨z, hs', hm⟩ := raw_dict I hl ha ht
  rcases ents_get ht k with ⟨b', u', v', d', e1, e2, e3, e4⟩ | ⟨_, e4⟩
  · rw [hg] at e4; cases e4
    exact tail_any hm.typeIs PySem.F.slot_dict_getitem.lookup (wpAny_getItem_heap (room_k hu) hkey hm e1 ⟨v', H, I.tok _, e2, q v' e3⟩) hs
  · rw [hg] at e4; cases e4
end
/-- the tail of a subscript -/
def ixV (s : AS) (x y : SV) : Option SV := match rdD s x with
  | some kvs => match rdv s y with
    | some dk => bif keyOk dk then (getD kvs dk).map .fr else none
    | none => none
  | none => match rdv s x with
    | some d => match rdv s y with
      | some e => gIx d e
      | none => none
    | none => none
def eIx (f1 f2 : EF) : EF := fun s => (f1 s).bind fun x s1 => (f2 s1).bind fun y s2 => match ixV s2 x y with
  | some z => .ok z s2
  | none => .no
section
variable {X : Cx} {W : WX} {a b : Expr} {fa fb : EF} {pos : Pos}
theorem se_ix2 (hu : X.A.units + 100 < cLine) (ha : SE X W a fa) (hb : SE X W b fb) (hs : PlainIx b) : SE X W (.Subscript a b pos) (eIx fa fb) := (pe_ix (ix_seq.or (ix_raw hu)) ha hb hs).conseq fun σ H Q ⟨pa, α, G, rel, h⟩ => by
  refine ⟨pa, α, G, rel, (Res.mid h).mono fun v H1 ⟨x, α1, G1, _, rel1, st1, rv, nv, r⟩ => ?_⟩
  refine ⟨pa, α1, G1, rel1, (Res.mid r).mono fun u H2 ⟨y, α2, G2, _, rel2, st2, rv2, nv2, r2⟩ => ?_⟩
  have rv1 := rv.step st2
  replace r2 : Res (ct X pa) X.mg W σ α2 G2 H2 (match ixV α2 x y with | some z => .ok z α2 | none => .no) Q := r2
  unfold ixV at r2
  cases e0 : rdD α2 x with
  | some kvs =>
    rw [e0] at r2
    simp only at r2
    cases e1 : rdv α2 y with
    | none => rw [e1] at r2; exact r2.elim
    | some dk =>
      rw [e1] at r2
      simp only at r2
      cases e2 : keyOk dk with
      | false => rw [e2] at r2; exact r2.elim
      | true =>
        rw [e2] at r2
        simp only [cond_true] at r2
        cases e3 : getD kvs dk with
        | none => rw [e3] at r2; exact r2.elim
        | some d =>
          rw [e3] at r2
          have hd := rdv_ok rel2 rv2 e1
          obtain ⟨k, _, _, ds, ek⟩ := keyOk_ex e2
          subst ek
          exact .inr ⟨pa, G2, kvs, _, d, rdD_ok rel2 rv1 e0, rel2.le, hd, e2, e3, fun w hw => r2 w G2 H2 rel2 Step.refl hw.fr trivial⟩
  | none =>
    rw [e0] at r2
    simp only at r2
    cases e : rdv α2 x with
    | none => rw [e] at r2; exact r2.elim
    | some d =>
      rw [e] at r2
      simp only at r2
      cases e' : rdv α2 y with
      | none => rw [e'] at r2; exact r2.elim
      | some d' =>
        rw [e'] at r2
        simp only at r2
        cases hg : gIx d d' with
        | none => rw [hg] at r2; exact r2.elim
        | some z =>
          rw [hg] at r2
          refine .inl ?_
          have hd := rdv_ok rel2 rv1 e
          have he := rdv_ok rel2 rv2 e'
          cases d' with
          | int i =>
            cases (show Dp X.K G2 u (.int i) from he)
            cases d with
            | list ds =>
              obtain ⟨l, vs, rfl, hs, hv⟩ := hd
              simp only [gIx] at hg
              cases q : atI ds i with
              | none => rw [q] at hg; cases hg
              | some y =>
                rw [q] at hg
                cases hg
                obtain ⟨w, h1, h2⟩ := atI_dp hv q
                exact .inl ⟨l, vs, i, w, rfl, rfl, hs, h1, out_d rel2 r2 h2⟩
            | tuple ds =>
              cases (show Dp X.K G2 v (.tuple ds) from hd) with
              | @tup l vs _ hs hv =>
                simp only [gIx] at hg
                cases q : atI ds i with
                | none => rw [q] at hg; cases hg
                | some y =>
                  rw [q] at hg
                  cases hg
                  obtain ⟨w, h1, h2⟩ := atI_dp hv q
                  exact .inr (.inl ⟨l, vs, i, w, rfl, rfl, rel2.le.sqT hs, h1, out_d rel2 r2 h2⟩)
            | _ => cases hg
          | _ => cases d <;> cases hg
end

/-! ### k in d, k not in d -/
def inV (neg : Bool) (s : AS) (x y : SV) : Option SV := match rdD s y with
  | some kvs => match rdv s x with
    | some dk => bif keyOk dk then some (.fr (.bool (Bool.xor neg (getD kvs dk).isSome))) else none
    | none => none
  | none => none
def eInD (neg : Bool) (f1 f2 : EF) : EF := fun s => (f1 s).bind fun x s1 => (f2 s1).bind fun y s2 => match inV neg s2 x y with
  | some z => .ok z s2
  | none => .no
section
variable {X : Cx} {W : WX} {a b : Expr} {fa fb : EF} {pos : Pos}
theorem inD_go {neg : Bool} {σ : St} {H : Hp} {Q : VK} (h : tE X W (eInD neg fa fb) σ H Q) :
    tE X W fa σ H fun x H1 => tE X W fb σ H1 fun y H2 => ∃ pa G kvs dk, RdE (ct X pa) G H2 y kvs ∧ Le G H2 ∧ Dp X.K G x dk ∧ keyOk dk = true ∧ Q (.bl (Bool.xor neg (getD kvs dk).isSome)) H2 := by
  obtain ⟨pa, α, G, rel, h⟩ := h
  refine ⟨pa, α, G, rel, (Res.mid h).mono fun v H1 ⟨x, α1, G1, _, rel1, st1, rv, nv, r⟩ => ?_⟩
  refine ⟨pa, α1, G1, rel1, (Res.mid r).mono fun u H2 ⟨y, α2, G2, _, rel2, st2, rv2, nv2, r2⟩ => ?_⟩
  have rv1 := rv.step st2
  replace r2 : Res (ct X pa) X.mg W σ α2 G2 H2 (match inV neg α2 x y with | some z => .ok z α2 | none => .no) Q := r2
  unfold inV at r2
  cases e0 : rdD α2 y with
  | none => rw [e0] at r2; exact r2.elim
  | some kvs =>
    rw [e0] at r2
    simp only at r2
    cases e1 : rdv α2 x with
    | none => rw [e1] at r2; exact r2.elim
    | some dk =>
      rw [e1] at r2
      simp only at r2
      cases e2 : keyOk dk with
      | false => rw [e2] at r2; exact r2.elim
      | true =>
        rw [e2] at r2
        have hd := rdv_ok rel2 rv1 e1
        obtain ⟨k, _, _, ds, ek⟩ := keyOk_ex e2
        subst ek
        exact ⟨pa, G2, kvs, _, rdD_ok rel2 rv2 e0, rel2.le, hd, e2, out_d rel2 r2 (.bl _)⟩
theorem in_run (hu : X.A.units + 100 < cLine) {pins : List (Addr × Obj)} {s : Shared} {σ : St} {H : Hp} {x y : V} {v u : Value} {Q : Value → Shared → Prop} (I : L2.Inv X pins σ H s) (rx : RelV x v) (ry : RelV y u) {pa : Addr} {G : Hp} {kvs : List (D × D)} {dk : D}
    (h : RdE (ct X pa) G H y kvs) (hl : Le G H) (hd : Dp X.K G x dk) (hk : keyOk dk = true) (q : ∀ s', L2.Inv X pins σ H s' → Q (.bool (getD kvs dk).isSome) s') : wpAny (model X.prog X.w) X.A (compareOp .In v u) Q X.xe s := by
  obtain ⟨a, xs, rfl, ha, ht⟩ := h
  cases (show u = Value.ref a from ry)
  obtain ⟨k, b, rfl, h8, rfl, rfl, hkey⟩ := key_at I hl hd hk rx
  obtain ⟨z, hs', hm⟩ := raw_dict I hl ha ht
  refine wpAny_in_heap (room_k hu) hkey hs' hm ?_
  rcases ents_get ht k with ⟨b', u', v', d', e1, e2, e3, e4⟩ | ⟨e1, e4⟩
  · rw [e4] at q; rw [e1]; exact q _ (I.tok _)
  · rw [e4] at q; rw [e1]; exact q _ (I.tok _)
theorem notIn_run (hu : X.A.units + 100 < cLine) {pins : List (Addr × Obj)} {s : Shared} {σ : St} {H : Hp} {x y : V} {v u : Value} {Q : Value → Shared → Prop} (I : L2.Inv X pins σ H s) (rx : RelV x v) (ry : RelV y u) {pa : Addr} {G : Hp} {kvs : List (D × D)} {dk : D}
    (h : RdE (ct X pa) G H y kvs) (hl : Le G H) (hd : Dp X.K G x dk) (hk : keyOk dk = true) (q : ∀ s', L2.Inv X pins σ H s' → Q (.bool (!(getD kvs dk).isSome)) s') : wpAny (model X.prog X.w) X.A (compareOp .NotIn v u) Q X.xe s := by
  obtain ⟨a, xs, rfl, ha, ht⟩ := h
  cases (show u = Value.ref a from ry)
  obtain ⟨k, b, rfl, h8, rfl, rfl, hkey⟩ := key_at I hl hd hk rx
  obtain ⟨z, hs', hm⟩ := raw_dict I hl ha ht
  refine wpAny_notIn_heap (room_k hu) hkey hs' hm ?_
  rcases ents_get ht k with ⟨b', u', v', d', e1, e2, e3, e4⟩ | ⟨e1, e4⟩
  · rw [e4] at q; rw [e1]; exact q _ (I.tok _)
  · rw [e4] at q; rw [e1]; exact q _ (I.tok _)
theorem se_inD (hu : X.A.units + 100 < cLine) (ha : SE X W a fa) (hb : SE X W b fb) (hm : behindInMarks .In b = false := by rfl) : SE X W (.Compare a [.In] [b] pos) (eInD false fa fb) := by
  refine ⟨fun pins s σ H Q I h => wpAny_Compare1 (binT ha hb I (inD_go h) fun v u s2 x y H2 I2 rx ry q => ?_) hm⟩
  obtain ⟨pa, G, kvs, dk, h1, h2, h3, h4, q⟩ := q
  exact in_run hu I2 rx ry h1 h2 h3 h4 fun s' I3 => ⟨.bl _, H2, I3, rfl, by rw [Bool.false_xor] at q; exact q⟩
theorem se_notInD (hu : X.A.units + 100 < cLine) (ha : SE X W a fa) (hb : SE X W b fb) (hm : behindInMarks .NotIn b = false := by rfl) : SE X W (.Compare a [.NotIn] [b] pos) (eInD true fa fb) := by
  refine ⟨fun pins s σ H Q I h => wpAny_Compare1 (binT ha hb I (inD_go h) fun v u s2 x y H2 I2 rx ry q => ?_) hm⟩
  obtain ⟨pa, G, kvs, dk, h1, h2, h3, h4, q⟩ := q
  exact notIn_run hu I2 rx ry h1 h2 h3 h4 fun s' I3 => ⟨.bl _, H2, I3, rfl, by rw [Bool.true_xor] at q; exact q⟩
theorem st_inD (hu : X.A.units + 100 < cLine) (ha : SE X W a fa) (hb : SE X W b fb) (hm : behindInMarks .In b = false := by rfl) : ST X W (.Compare a [.In] [b] pos) (bE (eInD false fa fb)) := by
  have pc : PC X .In a b (fun σ H Q => tE X W fa σ H fun x H1 => tE X W fb σ H1 fun y H2 => ∃ pa G kvs dk, RdE (ct X pa) G H2 y kvs ∧ Le G H2 ∧ Dp X.K G x dk ∧ keyOk dk = true ∧ Q (.bl (getD kvs dk).isSome) H2) :=
    ⟨fun pins s σ H Q I h => binT ha hb I h fun v u s2 x y H2 I2 rx ry ⟨pa, G, kvs, dk, h1, h2, h3, h4, q⟩ => in_run hu I2 rx ry h1 h2 h3 h4 fun s' I3 => ⟨.bl _, H2, I3, rfl, q⟩⟩
  refine (pt_cmp pc hm).conseq fun σ H Q h => ?_
  obtain ⟨pa, α, G, rel, r⟩ := inD_go (t_bE h)
  refine ⟨pa, α, G, rel, r.mono fun v H1 ⟨pa1, α1, G1, rel1, r1⟩ => ⟨pa1, α1, G1, rel1, r1.mono fun u H2 ⟨pa2, G2, kvs, dk, h1, h2, h3, h4, k, e, q⟩ => ⟨pa2, G2, kvs, dk, h1, h2, h3, h4, ?_⟩⟩⟩
  rw [Bool.false_xor] at e
  exact ⟨_, rfl, by rw [V.bl.inj e]; exact q⟩
theorem st_notInD (hu : X.A.units + 100 < cLine) (ha : SE X W a fa) (hb : SE X W b fb) (hm : behindInMarks .NotIn b = false := by rfl) : ST X W (.Compare a [.NotIn] [b] pos) (bE (eInD true fa fb)) := by
  have pc : PC X .NotIn a b (fun σ H Q => tE X W fa σ H fun x H1 => tE X W fb σ H1 fun y H2 => ∃ pa G kvs dk, RdE (ct X pa) G H2 y kvs ∧ Le G H2 ∧ Dp X.K G x dk ∧ keyOk dk = true ∧ Q (.bl (!(getD kvs dk).isSome)) H2) :=
    ⟨fun pins s σ H Q I h => binT ha hb I h fun v u s2 x y H2 I2 rx ry ⟨pa, G, kvs, dk, h1, h2, h3, h4, q⟩ => notIn_run hu I2 rx ry h1 h2 h3 h4 fun s' I3 => ⟨.bl _, H2, I3, rfl, q⟩⟩
  refine (pt_cmp pc hm).conseq fun σ H Q h => ?_
  obtain ⟨pa, α, G, rel, r⟩ := inD_go (t_bE h)
  refine ⟨pa, α, G, rel, r.mono fun v H1 ⟨pa1, α1, G1, rel1, r1⟩ => ⟨pa1, α1, G1, rel1, r1.mono fun u H2 ⟨pa2, G2, kvs, dk, h1, h2, h3, h4, k, e, q⟩ => ⟨pa2, G2, kvs, dk, h1, h2, h3, h4, ?_⟩⟩⟩
  rw [Bool.true_xor] at e
  exact ⟨_, rfl, by rw [V.bl.inj e]; exact q⟩
end
end Sx

namespace Sx
open PySem PySem.Spec L2
open PyProof.Rows hiding St

/-! ### d.get(k), d.get(k, z) -/
def eGet1 (f g : EF) : EF := fun s => (f s).bind fun x s1 => match rdD s1 x with
  | some _ => (g s1).bind fun y s2 => match rdD s2 x, rdv s2 y with
    | some kvs, some dk => bif keyOk dk then .ok (.fr ((getD kvs dk).getD .none)) s2 else .no
    | _, _ => .no
  | none => .no
def eGet2 (f g h : EF) : EF := fun s => (f s).bind fun x s1 => match rdD s1 x with
  | some _ => (g s1).bind fun y s2 => (h s2).bind fun z s3 => match z, rdD s3 x, rdv s3 y with
    | .fr dz, some kvs, some dk => bif keyOk dk then .ok (.fr ((getD kvs dk).getD dz)) s3 else .no
    | _, _, _ => .no
  | none => .no
section
variable {X : Cx} {W : WX} {o e f : Expr} {fo fe ff : EF} {apos cpos : Pos}
theorem raw_at {pins : List (Addr × Obj)} {s : Shared} {σ : St} {H : Hp} {x : V} {u : Value} {C : Ct} {G : Hp} {kvs : List (D × D)} (hP : C.P = X.prog) (hw : C.w = X.w) (I : L2.Inv X pins σ H s) (r : RdE C G H x kvs) (rx : RelV x u) :
    s.TypeIs u "dict" ∧ (∀ b, u = .ref b → ∃ ob, s.heap.get? b = some ob ∧ ob.dict = none) := by
  obtain ⟨a, xs, rfl, ha, _⟩ := r
  cases (show u = Value.ref a from rx)
  rw [hP, hw] at ha
  obtain ⟨_, _, ob, es, h1, h2, _⟩ := raw_get I ha
  exact ⟨⟨ob, h1, h2.1⟩, fun b e => by cases e; exact ⟨ob, h1, h2.2.1⟩⟩
theorem se_get2 (hu : X.A.units + 100 < cLine) (ho : SE X W o fo) (he : SE X W e fe) (hf : SE X W f ff) (m : M2 X o "get" apos e f cpos) : SE X W (.Call (.Attribute o "get" apos) [e, f] [] cpos) (eGet2 fo fe ff) := by
  refine ⟨fun pins s σ H Q I ⟨pa, α, G, rel, h⟩ => ?_⟩
  refine wpAny_Call_method m.base m.few m.line PySem.F.plainAttrs_dict PySem.F.slot_dict_get PySem.F.type_dict_get (thn (ho.run pins s σ H _ I ⟨pa, α, G, rel, Res.mid h⟩) fun u s1 ⟨x, H1, I1, rx, x', α1, G1, _, rel1, st1, rv, nv, r⟩ => ?_)
  cases e0 : rdD α1 x' with
  | none => simp only [e0] at r; exact r.elim
  | some kvs0 =>
    simp only [e0] at r
    obtain ⟨t1, t2⟩ := raw_at (C := ct X pa) rfl rfl I1 (rdD_ok rel1 rv e0) rx
    refine ⟨t1, t2, ?_⟩
    rw [m.trees]
    refine Calls.callWith_builtin rfl (Calls.evalArgs_plain (Calls.spliced_cons (thn (he.run pins s1 σ H1 _ I1 ⟨pa, α1, G1, rel1, Res.mid r⟩) fun iv s2 ⟨y, H2, I2, ry, y', α2, G2, _, rel2, st2, rv2, nv2, r2⟩ =>
      Calls.spliced_cons (thn (hf.run pins s2 σ H2 _ I2 ⟨pa, α2, G2, rel2, Res.mid r2⟩) fun fv s3 ⟨z, H3, I3, rz, z', α3, G3, _, rel3, st3, rv3, nv3, r3⟩ => Calls.spliced_nil ?_))))
    cases z' with
    | fr dz =>
      simp only at r3
      cases e1 : rdD α3 x' with
      | none => rw [e1] at r3; exact r3.elim
      | some kvs =>
        rw [e1] at r3
        cases e2 : rdv α3 y' with
        | none => rw [e2] at r3; exact r3.elim
        | some dk =>
          rw [e2] at r3
          simp only at r3
          cases e3 : keyOk dk with
          | false => rw [e3] at r3; exact r3.elim
          | true =>
            rw [e3] at r3
            simp only [cond_true] at r3
            obtain ⟨a, xs, rfl, ha, ht⟩ := rdD_ok rel3 ((rv.step st2).step st3) e1
            cases (show u = Value.ref a from rx)
            have hd := rdv_ok rel3 (rv2.step st3) e2
            obtain ⟨k0, _, _, ds, ek⟩ := keyOk_ex e3
            subst ek
            obtain ⟨k, b, ek, h8, rfl, rfl, hkey⟩ := key_at I3 rel3.le hd e3 ry
            obtain ⟨zz, hs', hm⟩ := raw_dict I3 rel3.le ha ht
            refine call_meetsIn PySem.F.slot_dict_get hm.typeIs PySem.F.entry_dict_get (PySem.F.args_dict_get_3 _ _ _) (meetsH_dict_get_default (nestedKind X.prog X.w) a b hs' fv) ⟨room_k hu, k, xs.2, hkey, hm, ?_⟩
            rw [← ek] at r3
            rcases ents_get ht k with ⟨b', u', v', d', q1, q2, q3, q4⟩ | ⟨q1, q4⟩
            · rw [q1]
              rw [q4] at r3
              exact ⟨v', H3, I3.tok _, q2, r3 v' G3 H3 rel3 Step.refl q3.fr trivial⟩
            · rw [q1]
              rw [q4] at r3
              exact ⟨z, H3, I3.tok _, rz, r3 z G3 H3 rel3 Step.refl rv3 trivial⟩
    | _ => exact r3.elim
theorem se_get1 (hu : X.A.units + 100 < cLine) (ho : SE X W o fo) (he : SE X W e fe) (m : M1 X o "get" apos e cpos) : SE X W (.Call (.Attribute o "get" apos) [e] [] cpos) (eGet1 fo fe) := by
  refine ⟨fun pins s σ H Q I ⟨pa, α, G, rel, h⟩ => ?_⟩
  refine wpAny_Call_method m.base m.few m.line PySem.F.plainAttrs_dict PySem.F.slot_dict_get PySem.F.type_dict_get (thn (ho.run pins s σ H _ I ⟨pa, α, G, rel, Res.mid h⟩) fun u s1 ⟨x, H1, I1, rx, x', α1, G1, _, rel1, st1, rv, nv, r⟩ => ?_)
  cases e0 : rdD α1 x' with
  | none => simp only [e0] at r; exact r.elim
  | some kvs0 =>
    simp only [e0] at r
    obtain ⟨t1, t2⟩ := raw_at (C := ct X pa) rfl rfl I1 (rdD_ok rel1 rv e0) rx
    refine ⟨t1, t2, ?_⟩
    rw [m.trees]
    refine Calls.callWith_builtin rfl (Calls.evalArgs_plain (Calls.spliced_cons (thn (he.run pins s1 σ H1 _ I1 ⟨pa, α1, G1, rel1, Res.mid r⟩) fun iv s2 ⟨y, H2, I2, ry, y', α2, G2, _, rel2, st2, rv2, nv2, r3⟩ => Calls.spliced_nil ?_)))
    cases e1 : rdD α2 x' with
    | none => simp only [e1] at r3; exact r3.elim
    | some kvs =>
      simp only [e1] at r3
      cases e2 : rdv α2 y' with
      | none => rw [e2] at r3; exact r3.elim
      | some dk =>
        rw [e2] at r3
        simp only at r3
        cases e3 : keyOk dk with
        | false => rw [e3] at r3; exact r3.elim
        | true =>
          rw [e3] at r3
          simp only [cond_true] at r3
          obtain ⟨a, xs, rfl, ha, ht⟩ := rdD_ok rel2 (rv.step st2) e1
          cases (show u = Value.ref a from rx)
          have hd := rdv_ok rel2 rv2 e2
          obtain ⟨k0, _, _, ds, ek⟩ := keyOk_ex e3
          subst ek
          obtain ⟨k, b, ek, h8, rfl, rfl, hkey⟩ := key_at I2 rel2.le hd e3 ry
          obtain ⟨zz, hs', hm⟩ := raw_dict I2 rel2.le ha ht
          refine call_meetsIn PySem.F.slot_dict_get hm.typeIs PySem.F.entry_dict_get (PySem.F.args_dict_get_2 _ _) (meetsH_dict_get (nestedKind X.prog X.w) a b hs') ⟨room_k hu, k, xs.2, hkey, hm, ?_⟩
          rw [← ek] at r3
          rcases ents_get ht k with ⟨b', u', v', d', q1, q2, q3, q4⟩ | ⟨q1, q4⟩
          · rw [q1]
            rw [q4] at r3
            exact ⟨v', H2, I2.tok _, q2, r3 v' G2 H2 rel2 Step.refl q3.fr trivial⟩
          · rw [q1]
            rw [q4] at r3
            exact ⟨.non, H2, I2.tok _, rfl, r3 .non G2 H2 rel2 Step.refl (.of .non) trivial⟩
end

/-! ### d[k] = v, d an own dict -/
theorem Rel.upd_ownG {C : Ct} {α : AS} {σ : St} {G H : Hp} {i : Nat} {y y' : SV} {a : Addr} {o' : HO} (rel : Rel C α σ G H) (g : getS α i = some y) (yo : y.own = true) (yo' : y'.own = true) (hσ : σ[i]? = some (some (.ref a))) (hg : G a = none) (hd : RelS C G (upd H a o') y' (.ref a)) :
    Rel C (setS α i y') σ G (upd H a o') ∧ Step C α σ G H (setS α i y') σ G (upd H a o') := by
  have hi := getS_lt g
  have own : Own C α σ a := .inr ⟨i, _, g, yo, hσ⟩
  have nb : ∀ {k sv}, k ≠ i → getS α k = some sv → sv.own = true → σ[k]? ≠ some (some (.ref a)) := fun {k sv} hk e ho z => hk (rel.apart k i sv _ a e g ho yo z hσ)
  have less : ∀ c, Own C (setS α i y') σ c → Own C α σ c := fun c h => by
    rcases h with h | ⟨k, sv, e1, e2, e3⟩
    · exact .inl h
    · rw [getS_set hi] at e1
      by_cases hk : k = i
      · subst hk
        exact .inr ⟨k, _, g, yo, e3⟩
      · rw [if_neg hk] at e1
        exact .inr ⟨k, sv, e1, e2, e3⟩
  refine ⟨⟨fun b u e => ?_, rel.nt, ?_, fun k sv e => ?_, fun p q x y c hp hq hx hy s1 s2 => ?_, fun p e => ?_, fun k e => ?_, fun h k sv e ho => ?_⟩, Le.refl _, fun b u e n => ⟨?_, rfl⟩, fun b e => ?_, fun c h => .inl (less c h), rfl⟩
  · rw [upd_ne (ne_of_none e hg)]; exact rel.le b u e
  · unfold setS; rw [List.length_set]; exact rel.len
  · rw [getS_set hi] at e
    by_cases hk : k = i
    · subst hk
      rw [if_pos rfl] at e
      cases e
      exact ⟨_, hσ, hd⟩
    · rw [if_neg hk] at e
      obtain ⟨w, q1, q2⟩ := rel.sl k sv e
      refine ⟨w, q1, ?_⟩
      cases sv with
      | fr d => exact q2
      | ol es =>
        obtain ⟨b, rfl, hb, ws, h3, h4⟩ := q2
        exact ⟨b, rfl, hb, ws, by rw [upd_ne (fun (z : b = a) => nb hk e rfl (by rw [← z]; exact q1))]; exact h3, h4⟩
      | od es =>
        obtain ⟨b, rfl, hb, ws, h3, h4⟩ := q2
        exact ⟨b, rfl, hb, ws, by rw [upd_ne (fun (z : b = a) => nb hk e rfl (by rw [← z]; exact q1))]; exact h3, h4⟩
      | bor j => exact q2
      | pen => exact q2
  · rw [getS_set hi] at hp hq
    by_cases h1 : p = i
    · by_cases h2 : q = i
      · rw [h1, h2]
      · rw [if_neg h2] at hq
        subst h1
        rw [hσ] at s1
        cases s1
        exact absurd s2 (nb h2 hq hy)
    · rw [if_neg h1] at hp
      by_cases h2 : q = i
      · subst h2
        rw [hσ] at s2
        cases s2
        exact absurd s1 (nb h1 hp hx)
      · rw [if_neg h2] at hq
        exact rel.apart p q x y c hp hq hx hy s1 s2
  · obtain ⟨q1, c, q2, q3⟩ := rel.pen p e
    have np : C.pa ≠ a := fun z => rel.pne (by rw [show α.pn = some p from e]; rfl) i _ g yo (z ▸ hσ)
    exact ⟨q1, c, by rw [upd_ne np]; exact q2, q3⟩
  · rw [getS_set hi] at e
    by_cases hk : k = i
    · rw [if_pos hk] at e; cases e; cases yo'
    · rw [if_neg hk] at e; exact rel.ps k e
  · rw [getS_set hi] at e
    by_cases hk : k = i
    · subst hk
      exact rel.pne h k _ g yo
    · rw [if_neg hk] at e; exact rel.pne h k sv e ho
  · rw [upd_ne (fun (z : b = a) => n (by rw [z]; exact own))]; exact e
  · unfold upd
    split
    · exact fun z => nomatch z
    · exact e
def sDp (i : Nat) (fk fv : EF) : SF := fun s => (fv s).bind fun x s1 => match fz s1 x with
  | some (.fr d, s2) => match getS s2 i with
    | some (.od _) => (fk s2).bind fun y s3 => match getS s3 i, rdv s3 y with
      | some (.od kvs), some dk => bif keyOk dk && szOk (kvs.length + 1) then .ok .next (setS s3 i (.od (putD kvs dk d))) else .no
      | _, _ => .no
    | _ => .no
  | _ => .no
section
variable {X : Cx} {W : WX} {e v : Expr} {fe fv : EF} {pos pos' p1 : Pos}
theorem storedH_len {xs : List Ent} {k : NestedKey} {b : Addr} {u : Value} : (storedH xs k b u).length ≤ xs.length + 1 := by
  unfold storedH
  split
  · rw [List.length_map]; omega
  · rw [List.length_append]; exact Nat.le_refl _
theorem ss_dput {i : Nat} {x : Str} (hu : X.A.units + 100 < cLine) (hN : X.N[i]? = some x) (hv : Vis X.env.scope x) (he : SE X W e fe) (hval : SE X W v fv) (hs : swapsWith v (some (.Subscript (.Name x p1) e pos')) pos.line X.env = pure false := by rfl)
    (hdb : (x == ("__debug__" : Str)) = false := by decide) (hcd : (x == ("__classdict__" : Str)) = false := by decide) : SS X W (.Assign [.Subscript (.Name x p1) e pos'] v pos) (sDp i fe fv) := by
  refine ⟨fun pins s σ H Dn I ⟨pa, α, G, rel, h⟩ => ?_⟩
  refine wpAny_Assign_Subscript (thn (hval.run pins s σ H (fun w H1 => ∃ d α2 G2, Rel (ct X pa) α2 σ G2 H1 ∧ FrV (ct X pa) G2 w d ∧ ResS (ct X pa) X.mg W σ α2 G2 H1 (match getS α2 i with
    | some (.od _) => (fe α2).bind fun y s3 => match getS s3 i, rdv s3 y with
      | some (.od kvs), some dk => bif keyOk dk && szOk (kvs.length + 1) then .ok .next (setS s3 i (.od (putD kvs dk d))) else .no
      | _, _ => .no
    | _ => .no) Dn) I ⟨pa, α, G, rel, ?_⟩) fun r s1 ⟨w, H1, I1, rw1, d, α2, G2, rel2, dv, q1⟩ => ?_) hs
  · unfold sDp at h
    cases r : fv α with
    | no => rw [r] at h; exact h
    | ex e α' => rw [r] at h; exact fun cls d G' H' rel' s' rx => h cls d σ G' H' rel' s' rx
    | ok x α1 =>
      rw [r] at h
      intro v G1 H1 rel1 st1 rv nv
      simp only [R.bind] at h
      cases r2 : fz α1 x with
      | none => rw [r2] at h; exact h.elim
      | some yy =>
        obtain ⟨y, α2⟩ := yy
        rw [r2] at h
        obtain ⟨G2, rel2, st2, av⟩ := fz_ok rel1 st1 rv nv r2
        cases y with
        | fr d => exact ⟨d, α2, G2, rel2, av, ResS.shift st2 h⟩
        | _ => exact h.elim
  · cases g0 : getS α2 i with
    | none => rw [g0] at q1; exact q1.elim
    | some sv =>
    rw [g0] at q1
    cases sv with
    | od kvs0 =>
      obtain ⟨v0, h1, a, rfl, hg0, xs0, hv0, _⟩ := rel2.sl i _ g0
      simp only at q1
      refine thn ((pe_var (pos := p1) (i := i) hN hv hdb hcd).run pins s1 σ H1 (fun v H2 => v = .ref a ∧ H2 = H1) I1 ⟨.ref a, h1, rfl, rfl⟩) fun u s2 ⟨v2, H2, I2, r2, ev, eH⟩ => ?_
      subst ev
      rw [eH] at I2
      obtain rfl : u = Value.ref a := r2
      refine thn (he.run pins s2 σ H1 _ I2 ⟨pa, α2, G2, rel2, Res.midS q1⟩) fun iv s3 ⟨y, H3, I3, ry, y', α3, G3, _, rel3, st3, rv3, nv3, q3⟩ => ?_
      cases g3 : getS α3 i with
      | none => simp only [g3] at q3; exact q3.elim
      | some sv3 =>
        simp only [g3] at q3
        cases sv3 with
        | od kvs =>
          skip
          cases e2 : rdv α3 y' with
          | none => rw [e2] at q3; exact q3.elim
          | some dk =>
            rw [e2] at q3
            simp only at q3
            cases e3 : (keyOk dk && szOk (kvs.length + 1)) with
            | false => rw [e3] at q3; exact q3.elim
            | true =>
              rw [e3] at q3
              simp only [cond_true] at q3
              rw [Bool.and_eq_true] at e3
              obtain ⟨v4, q4, b, rfl, hg, xs, ha, ht⟩ := rel3.sl i _ g3
              rw [h1] at q4
              cases q4
              have hd := rdv_ok rel3 rv3 e2
              obtain ⟨k0, _, _, ds, ek⟩ := keyOk_ex e3.1
              subst ek
              have hd : Dp X.K G3 y (.tuple ds) := hd
              obtain ⟨k, c, ek, h8, rfl, rfl, hkey⟩ := key_at I3 rel3.le hd e3.1 ry
              obtain ⟨zz, hs', hm⟩ := raw_dict I3 rel3.le ha ht
              rw [← ek] at hd q3
              have hz : xs.2.length ≤ sizeLine := zz
              have hl : (storedH xs.2 k c r).length ≤ sizeLine := Nat.le_trans storedH_len (by rw [ht.length]; exact szOk_le e3.2)
              refine wpAny_setItem_heap (hsz := hz) (room_k hu) hkey hm fun h' dd' hsb => ?_
              obtain ⟨q, es, ep, hq, h2, h3, h4, _, h5⟩ := dd'
              have nd : (xs.2.map (·.1)).Nodup := (raw_get I3 ha).2.2.elim fun _ ⟨_, _, _, _, _, z⟩ => z
              have I4 := d_write (ob := rawD X.w X.prog a (ep, storedH xs.2 k c r)) (t' := s3.toks + (nestedKind X.prog X.w).draws k) I3 (by rw [ha]; exact True.intro) hsb ⟨q, hq⟩ (raw_ok hl hs' hq h2 h3 h4 h5)
              have ne := ents_put (C := ct X pa) hd h8 rw1 (st3.g.fr dv).fd ht nd
              obtain ⟨rel5, st5⟩ := rel3.upd_ownG (y' := .od (putD kvs k.data d)) (o' := rawD X.w X.prog a (ep, storedH xs.2 k c r)) g3 rfl rfl h1 hg ⟨a, rfl, hg, _, upd_same, ne⟩
              exact ⟨σ, _, I4, q3 σ G3 _ rel5 st5⟩
        | _ => exact q3.elim
    | _ => exact q1.elim
end
end Sx

namespace Sx
open PySem PySem.Spec L2
open PyProof.Rows hiding St

/-! ### walks over a dict -/
def ItRK (w : World) (P : Program) (a : Addr) (xs : Nat × List Ent) : It :=
  ⟨fun i H => H a = some (rawD w P a xs) ∧ i < xs.2.length, fun i H x H' => H' = H ∧ ∃ e, xs.2[i]? = some e ∧ x = .ref e.2.1, fun i H => H a = some (rawD w P a xs) ∧ xs.2.length ≤ i⟩
def ItRI (w : World) (P : Program) (a : Addr) (xs : Nat × List Ent) (ws : List V) : It :=
  ⟨fun i H => H a = some (rawD w P a xs) ∧ i < xs.2.length, fun i H x H' => ∃ T e v, xs.2[i]? = some e ∧ ws[i]? = some v ∧ x = .ref T ∧ H T = none ∧ H' = upd H T (.tup [.ref e.2.1, v]), fun i H => H a = some (rawD w P a xs) ∧ xs.2.length ≤ i⟩
section
variable {P : Program} {w : World} {K : PySem.W.Frag} {tg : Expr} {a : Addr} {xs : Nat × List Ent} {ws : List V}
theorem turn_rawK (it : Addr) : Turn P w K tg (ItRK w P a xs) [it] it (fun i h => h.IsKeyIter it a i xs.2.length xs.1) where
  mem := by simp
  obj := fun i h st b hb => by
    have e : b = it := by simpa using hb
    subst e
    obtain ⟨oi, e, c, dd⟩ := st
    exact ⟨oi, e, fun v z => by rw [dd] at z; cases z⟩
  keep := fun i h h' st k => st.at fun oi e => k it (by simp) oi e
  item := by
    intro X hP hw hK hc i pins s σ H E I hf st hg
    subst hP hw hK
    obtain ⟨hd, hi⟩ := hg
    obtain ⟨f0, f1, f2, f3, f4, f5⟩ := hf it (by simp)
    obtain ⟨hz, hs, o, es, hgd, hx, hdt, he, hn⟩ := raw_get I hd
    have q := entry_at he i
    rw [List.getElem?_eq_getElem hi] at q
    refine next_key_item st hgd hdt (size_of_entries he) q fun h' st' sb => ?_
    have I1 : L2.Inv X pins σ H { s with heap := h' } := I.turned (t' := s.toks) (fun b ob hb e => (sb.2 b hb).trans e) f0 f1 f3 f4 f5
    obtain ⟨oi, e, c, dd⟩ := id st'
    exact ⟨_, rfl, go_of (s := { s with heap := h' }) e c dd (by decide) ⟨.ref xs.2[i].2.1, H, I1, rfl, ⟨rfl, _, List.getElem?_eq_getElem hi, rfl⟩, st', fun b hb => (hf b hb).1⟩⟩
  done := by
    intro X hP hw hK hc i pins s σ H E I hf st hg
    subst hP hw hK
    obtain ⟨hd, hi⟩ := hg
    obtain ⟨f0, f1, f2, f3, f4, f5⟩ := hf it (by simp)
    obtain ⟨hz, hs, o, es, hgd, hx, hdt, he, hn⟩ := raw_get I hd
    exact next_key_end (I.ok.hd hc) st hgd hdt (size_of_entries he) hi fun h' eb => ⟨rfl, I.turned (t' := s.toks) (fun b ob hb e => eb b ob hb e) f0 f1 f3 f4 f5⟩
  self := fun A i s Q E st h => by
    refine wpAny_pyIter_slot st.typeIs F.slot_dict_keyiterator_iter (wpAny_call_entry F.slot_dict_keyiterator_iter st.typeIs F.entry_dict_keyiterator_iter ?_ (F.args_dict_keyiterator_iter_1 _))
    show wpAny _ _ (ret (.ref it)) _ _ s
    exact wpAny_pure ⟨_, rfl, "dict_keyiterator", _, st.typeIs, F.slot_dict_keyiterator_next.lookup, h⟩
theorem turn_rawI {elts : List Expr} {kk : Nat} {tpos : Pos} (it : Addr) (hws : ∀ (i : Nat) (e : Ent), xs.2[i]? = some e → ∃ v, ws[i]? = some v ∧ RelV v e.2.2) :
    Turn P w K (.Tuple elts kk tpos) (ItRI w P a xs ws) [it] it (fun i h => ∃ ok ov, IsItemIter h it a i xs.2.length xs.1 ok ov) where
  mem := by simp
  obj := fun i h st b hb => by
    have e : b = it := by simpa using hb
    subst e
    obtain ⟨ok, ov, e⟩ := st
    exact ⟨_, e, fun v z => nomatch z⟩
  keep := fun i h h' st k => let ⟨ok, ov, e⟩ := st; ⟨ok, ov, k it (by simp) _ e⟩
  item := by
    intro X hP hw hK hc i pins s σ H E I hf st hg
    subst hP hw hK
    obtain ⟨hd, hi⟩ := hg
    obtain ⟨hz, hs, o, es, hgd, hx, hdt, he, hn⟩ := raw_get I hd
    have hsz := size_of_entries he
    have q := entry_at he i
    rw [List.getElem?_eq_getElem hi] at q
    have hi' : i < es.size := by rw [hsz]; exact hi
    have eq : es[i] = entryOfKey (nestedKind X.prog X.w) xs.2[i] := by
      rw [Array.getElem?_eq_getElem hi'] at q
      exact Option.some.inj q
    obtain ⟨v, hv, rv⟩ := hws i _ (List.getElem?_eq_getElem hi)
    obtain ⟨ok, ov, hit⟩ := st
    rw [← hsz] at hit
    have hlt : it < s.heap.objs.size := Heap.lt_size hit
    refine wpAny_pyNext_items_item_raw hit ⟨o, hgd, hx, hdt⟩ hi' fun h' ho hT hz hk => ?_
    rw [eq] at ho hT
    refine ⟨_, rfl, wpAny_letOwnedTupleGo_items (s := { s with heap := h' }) ho fun h'' he' sb => ?_⟩
    have hT2 : h''.get? s.heap.objs.size = some { cls := .type "tuple", data := .seq #[.ref xs.2[i].2.1, xs.2[i].2.2] } := (sb.2 _ (Nat.ne_of_gt hlt)).trans hT
    have new : ObjOk X.prog X.w (upd H s.heap.objs.size (.tup [.ref xs.2[i].2.1, v])) h'' s.heap.objs.size (.tup [.ref xs.2[i].2.1, v]) :=
      ⟨by show 2 ≤ sizeLine; decide, [.ref xs.2[i].2.1, xs.2[i].2.2], .cons rfl (.cons rv .nil), ⟨_, hT2, rfl, _, rfl⟩⟩
    have I1 : L2.Inv X pins σ (upd H s.heap.objs.size (.tup [.ref xs.2[i].2.1, v])) { s with heap := h'' } :=
      I.turnedNew (t' := s.toks) (ch := [it]) (fun b ob hb e => (sb.2 b (by simpa using hb)).trans (hk b ob (by simpa using hb) e)) hf (Nat.le_refl _) new
    refine ⟨.ref s.heap.objs.size, _, I1, rfl, ⟨_, _, v, List.getElem?_eq_getElem hi, hv, rfl, I.hok.fresh (Nat.le_refl _), rfl⟩, ⟨_, _, by rw [hsz] at he'; exact he'⟩, fun b hb => ?_⟩
    have e : b = it := by simpa using hb
    rw [e, upd_ne (Nat.ne_of_lt hlt)]
    exact (hf it (by simp)).1
  done := by
    intro X hP hw hK hc i pins s σ H E I hf st hg
    subst hP hw hK
    obtain ⟨hd, hi⟩ := hg
    obtain ⟨f0, f1, f2, f3, f4, f5⟩ := hf it (by simp)
    obtain ⟨hz, hs, o, es, hgd, hx, hdt, he, hn⟩ := raw_get I hd
    have hsz := size_of_entries he
    obtain ⟨ok, ov, hit⟩ := st
    rw [← hsz] at hit
    exact wpAny_pyNext_items_end_raw (I.ok.hd hc) hit ⟨o, hgd, hx, hdt⟩ (by rw [hsz]; exact hi) fun h' eb => ⟨rfl, I.turned (t' := s.toks) (fun b ob hb e => eb b ob hb e) f0 f1 f3 f4 f5⟩
  self := fun A i s Q E st h => let ⟨_, _, e⟩ := st; PySem.W.kcp_self e h
end
theorem ents_vals {C : Ct} {G : Hp} : ∀ {xs : List Ent} {kvs : List (D × D)}, FdEnts C G xs kvs → ∃ ws : List V, ∀ (i : Nat) (e : Ent), xs[i]? = some e → ∃ (v : V) (d : D × D), ws[i]? = some v ∧ RelV v e.2.2 ∧ kvs[i]? = some d ∧ Fd C G v d.2 ∧ Dp C.K G (.ref e.2.1) d.1
  | _, _, .nil => ⟨[], fun i e h => by simp at h⟩
  | _, _, .cons (v := v) (d := d) h1 h0 h2 h3 t => by
    obtain ⟨ws, q⟩ := ents_vals t
    refine ⟨v :: ws, fun i e h => ?_⟩
    cases i with
    | zero => simp at h; subst h; exact ⟨v, (_, d), rfl, h2, rfl, h3, h1⟩
    | succ i => simpa using q i e (by simpa using h)
def plainV (kvs : List (D × D)) : Bool := kvs.all fun e => !isDict e.2
def iKy (f : EF) : IF := fun s => (f s).bind fun x s1 => match fz s1 x with
  | some (.fr (.dict kvs), s2) => .ok (kvs.map fun e => .d e.1) s2
  | _ => .no
def iIt (f : EF) : IF := fun s => (f s).bind fun x s1 => match fz s1 x with
  | some (.fr (.dict kvs), s2) => bif plainV kvs then .ok (kvs.map fun e => .pr [e.1, e.2]) s2 else .no
  | _ => .no
section
variable {X : Cx} {W : WX} {tg e : Expr} {f : EF} {pos apos cpos tpos : Pos}
theorem yld_rawK {C : Ct} {a : Addr} {xs : Nat × List Ent} {kvs : List (D × D)} {G : Hp} (h : G a = some (rawD C.w C.P a xs)) (t : FdEnts C G xs.2 kvs) : Yld C (ItRK C.w C.P a xs) (kvs.map fun e => .d e.1) G := fun α σ G1 H1 le rel => by
  have s1 := rel.le _ _ (le _ _ h)
  refine ⟨fun i x e => ?_, s1, by rw [List.length_map]; exact Nat.le_of_eq t.length⟩
  rw [List.getElem?_map] at e
  cases e0 : kvs[i]? with
  | none => rw [e0] at e; cases e
  | some p =>
    rw [e0] at e
    cases e
    obtain ⟨k, b, u, v, q1, q2, q3, q4, q5⟩ := t.get e0
    refine ⟨⟨s1, (List.getElem?_eq_some_iff.mp q1).1⟩, fun z H2 ⟨e2, en, e3, e4⟩ => ?_⟩
    subst e2 e4
    rw [q1] at e3
    cases e3
    rw [q3] at q2
    exact ⟨G1, rel, Step.refl, le.dp _ _ q2⟩
theorem yld_rawI {C : Ct} {a : Addr} {xs : Nat × List Ent} {kvs : List (D × D)} {G : Hp} {ws : List V} (h : G a = some (rawD C.w C.P a xs)) (t : FdEnts C G xs.2 kvs) (hp : plainV kvs = true) (hw : ∀ (i : Nat) (e : Ent), xs.2[i]? = some e → ∃ (v : V) (d : D × D), ws[i]? = some v ∧ RelV v e.2.2 ∧ kvs[i]? = some d ∧ Fd C G v d.2 ∧ Dp C.K G (.ref e.2.1) d.1) :
    Yld C (ItRI C.w C.P a xs ws) (kvs.map fun e => .pr [e.1, e.2]) G := fun α σ G1 H1 le rel => by
  have s1 := rel.le _ _ (le _ _ h)
  refine ⟨fun i x e => ?_, s1, by rw [List.length_map]; exact Nat.le_of_eq t.length⟩
  rw [List.getElem?_map] at e
  cases e0 : kvs[i]? with
  | none => rw [e0] at e; cases e
  | some p =>
    rw [e0] at e
    cases e
    obtain ⟨k, b, u, v, q1, _⟩ := t.get e0
    refine ⟨⟨s1, (List.getElem?_eq_some_iff.mp q1).1⟩, fun z H2 ⟨T, en, v2, e3, e4, e5, nT, e6⟩ => ?_⟩
    subst e5 e6
    obtain ⟨v3, d3, z1, z2, z3, z4, z5⟩ := hw i en e3
    rw [z1] at e4
    cases e4
    rw [e0] at z3
    cases z3
    have hpl : isDict p.2 = false := by
      have := List.all_eq_true.mp hp p (List.mem_of_getElem? e0)
      simpa using this
    exact pair_new rel nT (le.dp _ _ z5) (le.dp _ _ (z4.fr.dp hpl))
theorem si_keys (he : SE X W e f) : SI X W tg e (iKy f) := ⟨fun pins s σ H Rk I ⟨pa, α, G, rel, h⟩ => by
  refine thn (he.run pins s σ H (fun x H1 => ∃ a xs, x = .ref a ∧ H1 a = some (rawD X.w X.prog a xs) ∧ Rk (ItRK X.w X.prog a xs) H1) I ⟨pa, α, G, rel, ?_⟩) fun u s1 ⟨x, H1, I1, rx, a, xs, ex, ha, q⟩ => ?_
  · unfold iKy at h
    cases r : f α with
    | no => rw [r] at h; exact h
    | ex x α' => rw [r] at h; exact h
    | ok x α1 =>
      rw [r] at h
      intro v G1 H1 rel1 st1 rv nv
      simp only [R.bind] at h
      cases r2 : fz α1 x with
      | none => rw [r2] at h; exact h.elim
      | some q =>
        obtain ⟨y, α2⟩ := q
        rw [r2] at h
        obtain ⟨G2, rel2, st2, av⟩ := fz_ok rel1 st1 rv nv r2
        cases y with
        | fr d =>
          cases d with
          | dict kvs =>
            obtain ⟨a, xs, rfl, h1, h2⟩ := (show FrV (ct X pa) G2 v (.dict kvs) from av)
            exact ⟨a, xs, rfl, rel2.le _ _ h1, h _ G2 H1 rel2 st2 (yld_rawK h1 h2)⟩
          | _ => exact h.elim
        | _ => exact h.elim
  · subst ex
    obtain rfl : u = Value.ref a := rx
    obtain ⟨hz, hs, o, es, hgd, hx, hdt, he, hn⟩ := raw_get I1 ha
    refine iter_keys hs hgd hx hdt (pi_one (tk := s1.toks) I1 _ (turn_rawK _) ⟨_, Heap.get?_push_size _ rfl, rfl, ?_⟩ q)
    rw [size_of_entries he] <;> rfl⟩
theorem si_items {elts : List Expr} {kk : Nat} (he : SE X W e f) (hbase : attributeBase e "items" X.env (eval e X.env) = eval e X.env := by rfl) (hline : (apos.endLine == cpos.line) = true := by rfl) :
    SI X W (.Tuple elts kk tpos) (.Call (.Attribute e "items" apos) [] [] cpos) (iIt f) := ⟨fun pins s σ H Rk I ⟨pa, α, G, rel, h⟩ => by
  refine wpAny_Call_method (T := "dict") (id := "dict.items") hbase rfl hline F.plainAttrs_dict F.slot_dict_items F.type_dict_items (thn (he.run pins s σ H (fun x H1 => ∃ a xs ws, x = .ref a ∧ H1 a = some (rawD X.w X.prog a xs) ∧ (∀ (i : Nat) (e : Ent), xs.2[i]? = some e → ∃ v, ws[i]? = some v ∧ RelV v e.2.2) ∧ Rk (ItRI X.w X.prog a xs ws) H1) I ⟨pa, α, G, rel, ?_⟩) fun u s1 ⟨x, H1, I1, rx, a, xs, ws, ex, ha, hws, q⟩ => ?_)
  · unfold iIt at h
    cases r : f α with
    | no => rw [r] at h; exact h
    | ex x α' => rw [r] at h; exact h
    | ok x α1 =>
      rw [r] at h
      intro v G1 H1 rel1 st1 rv nv
      simp only [R.bind] at h
      cases r2 : fz α1 x with
      | none => rw [r2] at h; exact h.elim
      | some q =>
        obtain ⟨y, α2⟩ := q
        rw [r2] at h
        obtain ⟨G2, rel2, st2, av⟩ := fz_ok rel1 st1 rv nv r2
        cases y with
        | fr d =>
          cases d with
          | dict kvs =>
            obtain ⟨a, xs, rfl, h1, h2⟩ := (show FrV (ct X pa) G2 v (.dict kvs) from av)
            simp only at h
            cases hp : plainV kvs with
            | false => rw [hp] at h; exact h.elim
            | true =>
              rw [hp] at h
              simp only [cond_true] at h
              obtain ⟨ws, hw⟩ := ents_vals h2
              exact ⟨a, xs, ws, rfl, rel2.le _ _ h1, fun i e z => let ⟨v, d, z1, z2, _⟩ := hw i e z; ⟨v, z1, z2⟩, h _ G2 H1 rel2 st2 (yld_rawI h1 h2 hp hw)⟩
          | _ => exact h.elim
        | _ => exact h.elim
  · subst ex
    obtain rfl : u = Value.ref a := rx
    obtain ⟨hz, hs, o, es, hgd, hx, hdt, he, hn⟩ := raw_get I1 ha
    have hm : s1.heap.DictRaw a es xs.1 := ⟨o, hgd, hx, hdt⟩
    refine ⟨hm.typeIs, fun b e => by cases e; exact ⟨o, hgd, hx.2.1⟩, ?_⟩
    have I2 : L2.Inv X pins σ H1 { s1 with heap := s1.heap.push { cls := .type "dict_items", data := .fields #[.ref a] } } := I1.kept (t' := s1.toks) fun b ob q => Heap.get?_push_of_some _ q
    have fin : wpAny (model X.prog X.w) X.A (pyIter (.ref s1.heap.objs.size)) (PIE X pins σ (.Tuple elts kk tpos) Rk) X.xe { s1 with heap := s1.heap.push { cls := .type "dict_items", data := .fields #[.ref a] } } := by
      refine wpAny_pyIter_items_raw (d := a) (es := es) (ep := xs.1) ⟨_, Heap.get?_push_size _ rfl, rfl, rfl⟩ (hm.at fun o e => Heap.get?_push_of_some _ e) (pi_one (tk := s1.toks) I2 _ (turn_rawI _ hws) ⟨.none, .none, ?_⟩ q)
      rw [size_of_entries he]
      exact Heap.get?_push_size _ rfl
    show wpAny _ _ (callWith cpos (.builtin "dict.items") [.ref a] [] []) _ X.xe s1
    exact method_meetsIn F.slot_dict_items F.entry_dict_items rfl (PySem.evalArgs_none ⟨rfl, hm.typeIs, F.args_dict_items_1 _, _, meets_dict_items_raw a hs, ⟨es, xs.1, hm⟩, fin⟩)⟩
/-! {k: v} -/
def eD1 (fk fv : EF) : EF := fun s => (fk s).bind fun x s1 => (fv s1).bind fun y s2 => match fz s2 y with
  | some (.fr d, s3) => match rdv s3 x with
    | some dk => bif keyOk dk then .ok (.od [(dk, d)]) s3 else .no
    | none => .no
  | _ => .no
theorem dict_pairs {prog : Program} {w : World} {K : Type} [DecidableEq K] {knd : HeapKind prog w K} {A : Around} {E : Value → Shared → Prop} {s : Shared} {env : Env} {keys : List (Option Expr)} {values : List Expr} {pos : Pos} {pairs : List (Sem Value × Sem Value)} {Q : Value → Shared → Prop} (hu : knd.room A)
    (hshape : (evalEachOpt keys env).zip ((evalEach values env).map fun v => do let x ← v; standAt pos; pure x) = pairs.map fun p => (some p.1, p.2)) (h0 : pairs ≠ []) (hlen : pairs.length ≤ 15)
    (h : wpAny (model prog w) A (evalPairs pairs) (fun vs s₁ => ∃ ps, CarriesH knd s₁.heap vs ps ∧ s₁.heap.DictOfH knd s.heap.objs.size [] ∧
      ∀ h' tk, h'.DictOfH knd s.heap.objs.size (storedAllH [] ps) → Heap.SameBut s.heap.objs.size s₁.heap h' → Q (.ref s.heap.objs.size) { s₁ with heap := h', toks := tk }) E
      { s with heap := s.heap.push { cls := .type "dict", data := .dict #[] } }) :
    wpAny (model prog w) A (eval (.Dict keys values pos) env) Q E s := by
  rw [arm_eval_Dict, hshape, dictDisplay_pairs pairs h0 (by omega)]
  exact wpAny_bind (wpAny_standAt (wpAny_bind (wpAny_subDictH (knd := knd) (Q := fun d s' => wpAny (model prog w) A (pure (Value.ref d)) Q E s') hu hlen
    (wpAny_mono h (fun vs s₁ h₁ => by obtain ⟨ps, hc, hm, hq⟩ := h₁; exact ⟨ps, hc, hm, fun h' tk a b => wpAny_pure (hq h' tk a b)⟩) fun _ _ e => e))))
theorem se_d1 {k v : Expr} {fk fv : EF} (hu : X.A.units + 100 < cLine) (hk : SE X W k fk) (hv : SE X W v fv) 
    (hshape : (evalEachOpt [some k] X.env).zip ((evalEach [v] X.env).map fun v => do let x ← v; standAt pos; pure x) = [(eval k X.env, (do let x ← eval v X.env; standAt pos; pure x))].map fun p => (some p.1, p.2) := by rfl) : SE X W (.Dict [some k] [v] pos) (eD1 fk fv) := ⟨fun pins s σ H Q I ⟨pa, α, G, rel, h⟩ => by
  have nP : H s.heap.objs.size = none := I.hok.fresh (Nat.le_refl _)
  have I1 := I.laid (a := s.heap.objs.size) (o := rawD X.w X.prog s.heap.objs.size (0, [])) (h' := s.heap.push { cls := .type "dict", data := .dict #[] }) (t' := s.toks) (fun _ _ q => Heap.get?_push_of_some _ q) (Nat.le_refl _)
    (raw_ok (Nat.zero_le _) (beq_eq_false_iff_ne.mpr (Ne.symm (Nat.ne_of_lt I.big))) (es := #[]) (ep := 0) (Heap.get?_push_size _ rfl) ⟨rfl, rfl, rfl⟩ rfl rfl List.nodup_nil)
  generalize hp : s.heap.objs.size = p at nP I1
  have rel0 := rel.laid (rawD X.w X.prog p (0, [])) nP
  have st0 : Step (ct X pa) α σ G H α σ G (upd H p (rawD X.w X.prog p (0, []))) := Step.laid _ nP
  have no0 : ¬ Own (ct X pa) α σ p := not_own rel nP
  refine dict_pairs (knd := nestedKind X.prog X.w) (by show X.A.units + 8 < cLine; omega) hshape (by simp) (by simp) ?_
  rw [hp]
  have h0 := h
  have h := Res.shift st0 h
  refine evalPairs_cons (thn (hk.run pins _ σ _ _ I1 ⟨pa, α, G, rel0, Res.mid h⟩) fun kv s1 ⟨x, H1, I2, rx, x', α1, G1, ef, rel1, st1, rv, nv, r⟩ => ?_)
  refine wpAny_bind (thn (hv.run pins s1 σ H1 (fun y H2 => ∃ dk d α3 G3, eD1 fk fv α = .ok (.od [(dk, d)]) α3 ∧ Rel (ct X pa) α3 σ G3 H2 ∧ Step (ct X pa) α σ G (upd H p (rawD X.w X.prog p (0, []))) α3 σ G3 H2 ∧ Dp X.K G3 x dk ∧ FrV (ct X pa) G3 y d ∧ keyOk dk = true) I2 ⟨pa, α1, G1, rel1, ?_⟩) fun vv s2 ⟨y, H2, I3, ry, dk, d, α3, G3, eq, rel3, st3, hd, dv, hk3⟩ => wpAny_bind (wpAny_standAt (wpAny_pure (evalPairs_nil ?_))))
  · have r : Res (ct X pa) X.mg W σ α1 G1 H1 ((fv α1).bind fun y s2 => match fz s2 y with
      | some (.fr d, s3) => match rdv s3 x' with
        | some dk => bif keyOk dk then .ok (.od [(dk, d)]) s3 else .no
        | none => .no
      | _ => .no) Q := r
    cases e0 : fv α1 with
    | no => rw [e0] at r; exact r
    | ex e α' => rw [e0] at r; exact r
    | ok y' α2 =>
      rw [e0] at r
      intro w G2 H2 rel2 st2 rv2 nv2
      simp only [R.bind] at r
      cases e2 : fz α2 y' with
      | none => rw [e2] at r; exact r.elim
      | some yy =>
        obtain ⟨y2, α3⟩ := yy
        rw [e2] at r
        obtain ⟨G3, rel3, st3, av⟩ := fz_ok rel2 st2 rv2 nv2 e2
        cases y2 with
        | fr d =>
          simp only at r
          cases e1 : rdv α3 x' with
          | none => rw [e1] at r; exact r.elim
          | some dk =>
          rw [e1] at r
          simp only at r
          cases e3 : keyOk dk with
          | false => rw [e3] at r; exact r.elim
          | true =>
            rw [e3] at r
            simp only [cond_true] at r
            have hd := rdv_ok rel3 (rv.step st3) e1
            obtain ⟨k0, _, _, ds, ek⟩ := keyOk_ex e3
            subst ek
            exact ⟨_, d, α3, G3, by unfold eD1; rw [ef]; simp only [R.bind]; rw [e0]; simp only; rw [e2]; simp only; rw [e1]; simp only; rw [e3]; rfl, rel3, st1.trans st3, hd, av, e3⟩
        | _ => exact r.elim
  · obtain ⟨q1, q2⟩ := st3.k p _ upd_same no0
    obtain ⟨kk, c, ek, h8, rfl, rfl, hkey⟩ := key_at I3 rel3.le hd hk3 rx
    subst ek
    have hm := raw_dict (pa := pa) (kvs := []) I3 rel3.le q1 .nil
    refine ⟨[(kk, c, vv)], ⟨rfl, rfl, hkey, trivial⟩, hm.2.2, fun h' tk dd' hsb => ?_⟩
    obtain ⟨q, es, ep, hq, h2, h3, h4, _, h5⟩ := dd'
    have e5 : storedAllH ([] : List Ent) [(kk, c, vv)] = [(kk, c, vv)] := rfl
    rw [e5] at h4 h5
    have I4 := d_write (ob := rawD X.w X.prog p (ep, [(kk, c, vv)])) (t' := tk) I3 (by rw [q1]; exact True.intro) hsb ⟨q, hq⟩ (raw_ok (by show 1 ≤ sizeLine; decide) hm.2.1 hq h2 h3 h4 h5)
    have gp : G3 p = none := q2.trans (rel.gone nP)
    have no3 : ¬ Own (ct X pa) α3 σ p := fun z => (st3.o p z).elim no0 fun q => by rw [upd_same] at q; cases q
    rw [eq] at h0
    have sH : Step (ct X pa) α σ G H α3 σ G3 (upd H2 p (rawD X.w X.prog p (ep, [(kk, c, vv)]))) := (st0.trans st3).put nP
    exact ⟨.ref p, _, I4, rfl, h0 (.ref p) G3 _ (rel3.put (some_ne q1) gp no3) sH ⟨p, rfl, ⟨gp, _, upd_same, .cons hd h8 ry dv.fd .nil⟩, no3⟩ fun a e => by cases e; exact nP⟩⟩
end
end Sx

namespace Sx
open PySem PySem.Spec L2
open PyProof.Rows hiding St

/-! ### enumerate of a tuple -/
theorem meets_enumerate_newT (l : Addr) (items : Array Value) (n : Nat) (dct : Option Addr) (sl : Array (Option Value)) :
    Meets (Builtin.«enumerate.__new__» ⟨[.type "enumerate", .ref l], []⟩) (fun _ R s =>
      s.heap.get? l = some ⟨.type "tuple", dct, .seq items n, sl⟩ ∧
      R (.ok (.ret (.ref (s.heap.push { cls := .type "tuple_iterator", data := .fields #[.ref l, .int 0 0] }).objs.size)))
        { s with heap := (s.heap.push { cls := .type "tuple_iterator", data := .fields #[.ref l, .int 0 0] }).push { cls := .type "enumerate", data := .fields #[.none, .bool false, .ref s.heap.objs.size, rawInt 0, .none, .none] } }) :=
  .of_wp fun prog w A R s ⟨hl, h⟩ => by
    obtain ⟨hp, g, d, tk, os⟩ := s
    have hL : hp.IsTuple l items := ⟨_, hl, rfl, n, rfl⟩
    have hsub := sub_enumerate
    wp_walk
    refine wpAny_stack_any fun st => wpAny_pure ?_
    split
    · rename_i c _ _ _ _ _
      cases (c == Value.type "enumerate")
      · wp_walk using wpAny_loadPart' hl, wpAny_pyIter_tuple hL
        exact ⟨_, rfl, h⟩
      · wp_walk using wpAny_loadPart' hl, wpAny_pyIter_tuple hL
        exact ⟨_, rfl, h⟩
    · wp_walk using wpAny_loadPart' hl, wpAny_pyIter_tuple hL
      exact ⟨_, rfl, h⟩
section
variable {prog : Program} {w : World} {A : Around} {E : Value → Shared → Prop} {s : Shared}
theorem call_enumerate_tuple {l : Addr} {items : Array Value} {Q : Value → Shared → Prop} (hL : s.heap.IsTuple l items)
    (h : ∀ h', IsEnum h' (s.heap.objs.size + 1) s.heap.objs.size 0 .none → h'.IsTupleIter s.heap.objs.size l 0 → h'.objs.size = s.heap.objs.size + 2 →
      (∀ b o, s.heap.get? b = some o → h'.get? b = some o) → Q (.ref (s.heap.objs.size + 1)) { s with heap := h' }) :
    wpAny (model prog w) A (call (.type "enumerate") [.ref l]) Q E s := by
  obtain ⟨⟨c, dct, dt, sl⟩, hl, hc, n, hd⟩ := hL
  replace hc : c = .type "tuple" := hc
  replace hd : dt = .seq items n := hd
  subst hc hd
  refine callType_new F.called_enumerate (by decide) (F.typeCall_enumerate_1 _) (F.newCall_enumerate_1 _) (fun obj => F.args_object_init_2 obj _) F.entry_enumerate_new
    (meets_enumerate_newT l items n dct sl) ⟨hl, ?_⟩
  have hz : (s.heap.push { cls := .type "tuple_iterator", data := .fields #[.ref l, .int 0 0] }).objs.size = s.heap.objs.size + 1 := Heap.size_push ..
  show _ ∧ _
  rw [hz]
  have he : IsEnum ((s.heap.push { cls := .type "tuple_iterator", data := .fields #[.ref l, .int 0 0] }).push
      { cls := .type "enumerate", data := .fields #[.none, .bool false, .ref s.heap.objs.size, rawInt 0, .none, .none] }) (s.heap.objs.size + 1) s.heap.objs.size 0 .none := by
    have := Heap.get?_push_size (s.heap.push { cls := .type "tuple_iterator", data := .fields #[.ref l, .int 0 0] })
      (o := { cls := .type "enumerate", data := .fields #[.none, .bool false, .ref s.heap.objs.size, rawInt 0, .none, .none] }) rfl
    rw [hz] at this; exact this
  refine ⟨⟨_, he, rfl⟩, h _ he ⟨_, Heap.get?_push_of_some _ (Heap.get?_push_size _ rfl), rfl, rfl⟩ (by rw [Heap.size_push, hz]) fun b o x => Heap.get?_push_of_some _ (Heap.get?_push_of_some _ x)⟩
end
def IteT (K : PySem.W.Frag) (a : Addr) : It :=
  ⟨fun i H => ∃ (xs : List V) (x : V), SqT K H a xs ∧ xs[i]? = some x, fun i H v H' => ∃ T x, v = .ref T ∧ H T = none ∧ H' = upd H T (.tup [.int (i : Nat), x]) ∧ ∀ xs, SqT K H a xs → xs[i]? = some x, fun i H => ∃ xs : List V, SqT K H a xs ∧ xs.length = i⟩
theorem turn_enumT {P : Program} {w : World} {K : PySem.W.Frag} {elts : List Expr} {kk : Nat} {tpos : Pos} (a e it : Addr) :
    Turn P w K (.Tuple elts kk tpos) (IteT K a) [e, it] e (fun i h => (∃ old, IsEnum h e it ((i : Nat) : Int) old) ∧ h.IsTupleIter it a i ∧ e ≠ it ∧ a ≠ it ∧ a ≠ e) where
  mem := by simp
  obj := fun i h st b hb => by
    obtain ⟨⟨old, he⟩, ⟨o, ho, hc, hd⟩, _⟩ := st
    have e' : b = e ∨ b = it := by simpa using hb
    rcases e' with z | z
    · rw [z]; exact ⟨_, he, fun v q => nomatch q⟩
    · rw [z]; exact ⟨o, ho, fun v q => by rw [hd] at q; cases q⟩
  keep := fun i h h' st k => let ⟨⟨old, he⟩, hi, hne⟩ := st; ⟨⟨old, k e (by simp) _ he⟩, hi.at fun o q => k it (by simp) o q, hne⟩
  item := by
    intro X hP hw hK hc i pins s σ H E I hf st hg
    subst hP hw hK
    obtain ⟨⟨old, he⟩, hit, hne, hai, hae⟩ := st
    obtain ⟨xs, x, hq, hx⟩ := hg
    obtain ⟨its, rv, p, hz⟩ := I.tuple hq
    have p : s.heap.IsTuple a its.toArray := p
    obtain ⟨u, hu, ru⟩ := rv.get hx
    have hel : e < s.heap.objs.size := Heap.lt_size he
    have hil : it < s.heap.objs.size := by obtain ⟨_, q, _⟩ := hit; exact Heap.lt_size q
    have hlt : i < its.toArray.size := by rw [List.size_toArray]; exact (List.getElem?_eq_some_iff.mp hu).1
    refine wpAny_pyNext_enum_itemD (Draws.tuple (A := X.A.in1) (I.ok.hd hc) it a hai its.toArray) he ⟨hit, p⟩ hlt hne (by simp only [List.mem_cons, List.not_mem_nil, or_false, not_or]; exact ⟨hne, Ne.symm hae⟩) fun x' h' tk hx' ho hit' hT hsz hk => ?_
    have ex : x' = u := by
      have := hu.symm.trans (show its[i]? = some x' by simpa using hx')
      exact (Option.some.inj this).symm
    subst ex
    refine ⟨_, rfl, wpAny_letOwnedTupleGo_enum (s := { s with heap := h', toks := tk + 1 }) ho fun h'' he' sb => ?_⟩
    have hT2 : h''.get? s.heap.objs.size = some { cls := .type "tuple", data := .seq #[.int i tk, x'] } := (sb.2 _ (Nat.ne_of_gt hel)).trans hT
    have new : ObjOk X.prog X.w (upd H s.heap.objs.size (.tup [.int (i : Nat), x])) h'' s.heap.objs.size (.tup [.int (i : Nat), x]) :=
      ⟨by show 2 ≤ sizeLine; decide, [.int i tk, x'], .cons ⟨_, rfl⟩ (.cons ru .nil), ⟨_, hT2, rfl, _, rfl⟩⟩
    have I1 : L2.Inv X pins σ (upd H s.heap.objs.size (.tup [.int (i : Nat), x])) { s with heap := h'', toks := tk + 1 } :=
      I.turnedNew (ch := [e, it]) (fun b ob hb q => (sb.2 b (fun z => hb (by simp [z]))).trans (hk b ob (fun z => hb (by simp [z])) (fun z => hb (by simp [z])) q)) hf (Nat.le_refl _) new
    refine ⟨.ref s.heap.objs.size, _, I1, rfl, ⟨_, x, rfl, I.hok.fresh (Nat.le_refl _), rfl, fun ys hy => by rw [I.tuple_inj hy hq]; exact hx⟩, ⟨⟨x', ?_⟩, hit'.1.at fun o q => (sb.2 it (Ne.symm hne)).trans q, hne, hai, hae⟩, fun b hb => ?_⟩
    · have e1 : ((i + 1 : Nat) : Int) = (i : Int) + 1 := by omega
      rw [e1]; exact he'
    · have hb' : b < s.heap.objs.size := by
        have e' : b = e ∨ b = it := by simpa using hb
        rcases e' with z | z
        · rw [z]; exact hel
        · rw [z]; exact hil
      rw [upd_ne (Nat.ne_of_lt hb')]
      exact (hf b hb).1
  done := by
    intro X hP hw hK hc i pins s σ H E I hf st hg
    subst hP hw hK
    obtain ⟨⟨old, he⟩, hit, hne, hai, hae⟩ := st
    obtain ⟨xs, hq, hx⟩ := hg
    obtain ⟨its, rv, p, hz⟩ := I.tuple hq
    obtain ⟨f0, f1, f2, f3, f4, f5⟩ := hf it (by simp)
    have p : s.heap.IsTuple a its.toArray := p
    have hl := rv.length
    refine wpAny_pyNext_enum_endD (Draws.tuple (A := X.A.in1) (I.ok.hd hc) it a hai its.toArray) he ⟨by rw [List.size_toArray, ← hl, hx]; exact hit, p⟩ fun h' eb => ⟨rfl, I.turned (t' := s.toks) (fun b o hb q => eb b o hb q) f0 f1 f3 f4 f5⟩
  self := fun A i s Q E st h => let ⟨⟨_, he⟩, _⟩ := st; wpAny_pyIter_enum he h
/-! the walk -/
def iEn2 (f : EF) : IF := fun s => (f s).bind fun x s1 => match fz s1 x with
  | some (.fr (.list ds), s2) => .ok (enD 0 ds) s2
  | some (.fr (.tuple ds), s2) => .ok (enD 0 ds) s2
  | _ => .no
section
variable {X : Cx} {W : WX} {e : Expr} {f : EF} {p pos tpos : Pos} {elts : List Expr} {kk : Nat}
theorem yld_enumT {C : Ct} {a : Addr} {vs : List V} {ds : List D} {G : Hp} (hs : SqT C.K G a vs) (hd : DpAll C.K G vs ds) : Yld C (IteT C.K a) (enD 0 ds) G := fun α σ G1 H1 le rel => by
  have s1 : SqT C.K H1 a vs := (le.trans rel.le).sqT hs
  refine ⟨fun i x e => ?_, vs, s1, by rw [enD_len]; exact hd.length⟩
  obtain ⟨d0, e0, rfl⟩ := enD_get e
  obtain ⟨v, e1, dv⟩ := hd.get e0
  refine ⟨⟨vs, v, s1, e1⟩, fun z H2 ⟨T, y, e3, nT, e4, h1⟩ => ?_⟩
  subst e3 e4
  cases (h1 vs s1).symm.trans e1
  rw [Nat.zero_add]
  exact pair_new rel nT (.int _) (le.dp _ _ dv)
def iEnumQ (K : PySem.W.Frag) (ta : TA) : TI := fun σ H Rk => ta σ H fun vs H1 => ∃ a xs, vs = [.ref a] ∧ ((SqL K H1 a xs ∧ Rk (Ite K a) H1) ∨ (SqT K H1 a xs ∧ Rk (IteT K a) H1))
theorem pi_enumQ {ta : TA} (hg : Gl X "enumerate") (hm : X.mg "enumerate" = none) (ha : PA X [e] ta) (hs : starEach [e] X.env = [(false, eval e X.env)] := by rfl) :
    PI X (.Tuple elts kk tpos) (.Call (.Name "enumerate" p) [e] [] pos) (iEnumQ X.K ta) := by
  refine ⟨fun pins s σ H Rk I h => ?_⟩
  refine Call_ (ld_blt I hg hm boot_enumerate (PyProof.Rows.callWith_type1 (thn (ha.run pos pins s σ H _ I h) fun us s1 ⟨vs, H1, I1, r1, q1⟩ => ?_) hs rfl))
  obtain ⟨a, xs, ex, q1⟩ := q1
  subst ex
  cases r1 with
  | cons r rr =>
    cases rr
    cases r
    rcases q1 with ⟨hq, q⟩ | ⟨hq, q⟩
    · obtain ⟨its, rv, p', hz⟩ := I1.list hq
      refine call_enumerate_list p'.isList fun h' he hit hsz hk => wpAny_pyIter_enum he ?_
      have I2 : L2.Inv X pins σ H1 { s1 with heap := h' } := I1.kept (t' := s1.toks) hk
      refine ⟨s1.heap.objs.size + 1, [s1.heap.objs.size + 1, s1.heap.objs.size], _, _, H1, rfl, I2, turn_enum a (s1.heap.objs.size + 1) s1.heap.objs.size, ⟨⟨.none, he⟩, hit, Nat.succ_ne_self _⟩, fun b hb => ?_, q⟩
      have e' : b = s1.heap.objs.size + 1 ∨ b = s1.heap.objs.size := by simpa using hb
      have hle : s1.heap.objs.size ≤ b := by
        rcases e' with z | z
        · rw [z]; exact Nat.le_add_right _ _
        · rw [z]; exact Nat.le_refl _
      exact I1.fpOk hle (I1.hok.fresh hle)
    · obtain ⟨its, rv, p', hz⟩ := I1.tuple hq
      have p' : s1.heap.IsTuple a its.toArray := p'
      have hal : a < s1.heap.objs.size := by obtain ⟨o, ho, _⟩ := p'; exact Heap.lt_size ho
      refine call_enumerate_tuple p' fun h' he hit hsz hk => wpAny_pyIter_enum he ?_
      have I2 : L2.Inv X pins σ H1 { s1 with heap := h' } := I1.kept (t' := s1.toks) hk
      refine ⟨s1.heap.objs.size + 1, [s1.heap.objs.size + 1, s1.heap.objs.size], _, _, H1, rfl, I2, turn_enumT a (s1.heap.objs.size + 1) s1.heap.objs.size, ⟨⟨.none, he⟩, hit, Nat.succ_ne_self _, Nat.ne_of_lt hal, Nat.ne_of_lt (Nat.lt_succ_of_lt hal)⟩, fun b hb => ?_, q⟩
      have e' : b = s1.heap.objs.size + 1 ∨ b = s1.heap.objs.size := by simpa using hb
      have hle : s1.heap.objs.size ≤ b := by
        rcases e' with z | z
        · rw [z]; exact Nat.le_add_right _ _
        · rw [z]; exact Nat.le_refl _
      exact I1.fpOk hle (I1.hok.fresh hle)
theorem si_enum2 (hg : Gl X "enumerate") (hm : X.mg "enumerate" = none) (he : SE X W e f) (hs : starEach [e] X.env = (false, eval e X.env) :: starEach [] X.env := by rfl) (hs2 : starEach [e] X.env = [(false, eval e X.env)] := by rfl) :
    SI X W (.Tuple elts kk tpos) (.Call (.Name "enumerate" p) [e] [] pos) (iEn2 f) := (pi_enumQ hg hm (pa_cons he pa_nil hs) hs2).conseq fun σ H Q ⟨pa, α, G, rel, h⟩ => by
  refine ⟨pa, α, G, rel, ?_⟩
  unfold iEn2 at h
  cases r : f α with
  | no => rw [r] at h; exact h
  | ex x α' => rw [r] at h; exact h
  | ok x α1 =>
    rw [r] at h
    intro v G1 H1 rel1 st1 rv nv
    simp only [R.bind] at h
    cases r2 : fz α1 x with
    | none => rw [r2] at h; exact h.elim
    | some q =>
      obtain ⟨y, α2⟩ := q
      rw [r2] at h
      obtain ⟨G2, rel2, st2, av⟩ := fz_ok rel1 st1 rv nv r2
      cases y with
      | fr d =>
        cases d with
        | list ds =>
          cases (show Dp X.K G2 v (.list ds) from av) with
          | @lst a vs _ hs hd => exact ⟨a, vs, rfl, .inl ⟨rel2.le.sqL hs, h _ G2 H1 rel2 st2 (yld_enum hs hd)⟩⟩
        | tuple ds =>
          cases (show Dp X.K G2 v (.tuple ds) from av) with
          | @tup a vs _ hs hd => exact ⟨a, vs, rfl, .inr ⟨rel2.le.sqT hs, h _ G2 H1 rel2 st2 (yld_enumT hs hd)⟩⟩
        | _ => exact h.elim
      | _ => exact h.elim
end
end Sx

namespace Sx
section
open PySem PySem.Spec PyProof.Rows L2
variable {P : Program} {w : World} {A : Around} {E : Value → Shared → Prop} {s : Shared}
/-! set(l), l a list of ints: as the library's rule for a tuple, turned to lists -/
theorem call_set_listI {l : Addr} {items : Array Value} (ns : List Int) {Q : Value → Shared → Prop} (hh : A.handled = none) (hl : s.heap.IsList l items) (hit : IntsAre items.toList ns) (hb : ns.length + 1 < scanBound)
    (h : ∀ (h' : Heap) (tk c : Nat), SetR w h' s.heap.objs.size (fun j => decide (j ∈ ns)) c → c ≤ ns.length → (∀ b o, s.heap.get? b = some o → h'.get? b = some o) → Q (.ref s.heap.objs.size) { s with heap := h', toks := tk }) :
    wpAny (model P w) A (call (.type "set") [.ref l]) Q E s := by
  have hisz : items.size = ns.length := by
    have q := IntsAre.length hit
    rw [Array.length_toList] at q
    exact q
  obtain ⟨c, tl, hmro⟩ := F.called_set.mro
  have hmade := F.called_set.made
  have hsub := F.called_set.sub
  refine wpAny_call (codeAny_of_tree ?_)
  show wpAny _ _ (callAny (.type "set") _) _ _ _
  refine wpAny_pure ⟨Code.quiet_builtin _ (by decide +kernel), codeAny_builtin F.entry_type_call ?_⟩
  rw [Around.under_plain (weight_type_call_type "set" [.ref l] []) rfl]
  have h1 := F.called_set.notType
  have h2 := F.called_set.canCreate
  have hct := F.typeCall_set_1 (.ref l)
  repeat (any_goals (first | assumption | wp_step))

  refine codeAny_mono (code_set_led1 (.ref l) (E := E) (Q₁ := fun obj s₁ => obj = .ref s.heap.objs.size ∧ s₁ = { s with heap := s.heap.push { cls := .type "set", dict := none, data := .set #[] 0 (.fresh 0 0 (!w.params.followText "set-order")) } }) ⟨rfl, rfl⟩) fun r s₁ hr => ?_
  cases r with
  | error e => exact hr
  | ok fl =>
    cases fl with
    | ret obj =>
      obtain ⟨rfl, rfl⟩ := hr
      have hS : (s.heap.push { cls := .type "set", dict := none, data := .set #[] 0 (.fresh 0 0 (!w.params.followText "set-order")) }).get? s.heap.objs.size = some { cls := .type "set", dict := none, data := .set #[] 0 (.fresh 0 0 (!w.params.followText "set-order")) } := Heap.get?_push_size _ rfl
      have hT : Shared.TypeIs { s with heap := s.heap.push { cls := .type "set", dict := none, data := .set #[] 0 (.fresh 0 0 (!w.params.followText "set-order")) } } (.ref s.heap.objs.size) "set" := ⟨_, hS, rfl⟩
      have hli := F.called_set.init.lookup
      have hbi := F.called_set.init.bind (.ref s.heap.objs.size)
      repeat (any_goals (first | assumption | wp_step))

      refine codeAny_mono (codeAny_call_builtin (R := wants (fun r s₂ => r = .none ∧ ∃ h' tk c, s₂ = { s with heap := h', toks := tk } ∧ SetR w h' s.heap.objs.size (fun j => decide (j ∈ ns)) c ∧ c ≤ ns.length ∧
          (∀ b o, s.heap.get? b = some o → h'.get? b = some o)) E) F.called_set.init.plain F.entry_set_init (check_set_init_1 hT ?_)) fun r₂ s₂ hr₂ => ?_
      · obtain ⟨ol, hol, hcl, nl, hdl⟩ := hl
        obtain ⟨ocls, odict, odata, oslots⟩ := ol
        simp only at hcl hdl
        subst hcl; subst hdl
        have hol' : (s.heap.push { cls := .type "set", dict := none, data := .set #[] 0 (.fresh 0 0 (!w.params.followText "set-order")) }).get? l = some { cls := .type "list", dict := odict, data := .seq items nl, slots := oslots } := Heap.get?_push_of_some _ hol
        have hsls := F.sub_list_set
        have hslf := F.sub_list_frozenset
        have hne : (Value.type "list" == Value.type "dict") = false := by decide
        have hl1 : (s.heap.push { cls := .type "set", dict := none, data := .set #[] 0 (.fresh 0 0 (!w.params.followText "set-order")) }).IsList l items := ⟨_, hol', rfl, nl, rfl⟩
        unfold Builtin.«set.__init__» noKeywords Builtin.Frozenset.updateFrom
        generalize hPI : pyIter = PI
        wp_walk
        subst hPI

        refine wpAny_pyIter_list hl1 ?_
        refine wpAny_bind (wpAny_runValue ?_)
        have hlS : l < s.heap.objs.size := Heap.lt_size hol
        have hh3 : A.in1.in1.in1.handled = none := by simp [hh]
        have hz1 : (s.heap.push { cls := .type "set", dict := none, data := .set #[] 0 (.fresh 0 0 (!w.params.followText "set-order")) }).objs.size = s.heap.objs.size + 1 := Heap.size_push ..
        have hneI : l ≠ (s.heap.push { cls := .type "set", dict := none, data := .set #[] 0 (.fresh 0 0 (!w.params.followText "set-order")) }).objs.size := by
          rw [Heap.size_push]; exact Nat.ne_of_lt (Nat.lt_succ_of_lt hlS)
        have hSf : s.heap.objs.size ∉ [(s.heap.push { cls := .type "set", dict := none, data := .set #[] 0 (.fresh 0 0 (!w.params.followText "set-order")) }).objs.size, l] := by
          rw [Heap.size_push]; simp only [List.mem_cons, List.mem_singleton, List.not_mem_nil, or_false, not_or]
          exact ⟨Nat.ne_of_lt (Nat.lt_succ_self _), Nat.ne_of_gt hlS⟩
        have hval : ∀ (i : Nat) (v : Value), items[i]? = some v → ∃ k t, ns[i]? = some k ∧ v = .int k t := fun i v hv => by
          have hi : i < ns.length := by rw [← hisz]; exact (Array.getElem?_eq_some_iff.mp hv).1
          obtain ⟨t, e⟩ := PyProof.Rows.IntsAre.int_at hit i v (by rw [Array.getElem?_toList]; exact hv)
          refine ⟨ns[i], t, List.getElem?_eq_getElem hi, ?_⟩
          rw [e, List.getD_eq_getElem?_getD, List.getElem?_eq_getElem hi] <;> rfl
        refine set_update_ints ((Walks.list hh3 _ l hneI items).toS) s.heap.objs.size
          hSf ns hisz hb hval (items.size - 0) 0 _ (by omega) (Nat.zero_le _)
          ⟨⟨_, Heap.get?_push_size _ rfl, rfl, rfl⟩, (hl1.push _)⟩ ?hS0 ?hR
        case hS0 =>
          have hget : ((s.heap.push { cls := .type "set", dict := none, data := .set #[] 0 (.fresh 0 0 (!w.params.followText "set-order")) }).push { cls := .type "list_iterator", data := .fields #[.ref l, .int 0 0] }).get? s.heap.objs.size
              = some { cls := .type "set", dict := none, data := .set #[] 0 (.fresh 0 0 (!w.params.followText "set-order")) } := Heap.get?_push_of_some _ hS
          exact ⟨0, Nat.le_refl 0, setR_new_at hget⟩
        case hR =>
          intro s' c' hm hc' hS'
          obtain ⟨h', g2, d', tk', os'⟩ := s'
          have eg : g2 = s.gens := hm.gens
          have ed : d' = s.drawn := hm.drawn
          have eo : os' = s.os := hm.os
          subst eg; subst ed; subst eo
          show wpAny _ _ _ _ _ _
          refine wpAny_pure ?_
          show wpAny _ _ (ret Value.none) _ _ _
          rw [hisz] at hc'
          refine wpAny_pure ⟨rfl, h', tk', c', rfl, hS', hc', fun b o e => ?_⟩
          have hb0 : b < s.heap.objs.size := Heap.lt_size e
          have hb1 : b ≠ s.heap.objs.size := Nat.ne_of_lt hb0
          have hb2 : b ≠ (s.heap.push { cls := .type "set", dict := none, data := .set #[] 0 (.fresh 0 0 (!w.params.followText "set-order")) }).objs.size := by
            rw [Heap.size_push]; exact Nat.ne_of_lt (Nat.lt_succ_of_lt hb0)
          exact hm.heap b o (by simp only [List.mem_cons, List.mem_singleton, List.not_mem_nil, or_false, not_or]; exact ⟨hb1, hb2⟩) (Heap.get?_push_of_some _ (Heap.get?_push_of_some _ e))

      · cases r₂ with
        | error e => exact hr₂
        | ok fl₂ =>
          cases fl₂ with
          | ret r =>
            obtain ⟨rfl, h', tk, c', rfl, hS', hc', hk'⟩ := hr₂
            repeat (any_goals (first | assumption | wp_step))
            exact h _ _ _ hS' hc' hk'
          | _ => exact hr₂.elim
    | _ => exact hr.elim

end
open PySem PySem.Spec L2
open PyProof.Rows hiding St
def gSS2 : D → Option SV
  | .tuple ds => match intsD ds with
    | some ns => bif Nat.blt ns.length 60 then some (.ol ((sdI ns).map .int)) else none
    | none => none
  | .list ds => match intsD ds with
    | some ns => bif Nat.blt ns.length 60 then some (.ol ((sdI ns).map .int)) else none
    | none => none
  | _ => none
section
variable {X : Cx} {W : WX} {e : Expr} {f : EF} {p p2 pos q : Pos}
def tSetQ (X : Cx) (te : TE) : TE := fun σ H Q => te σ H fun x H1 => ∃ (a : Addr) (ns : List Int), x = .ref a ∧ (SqT X.K H1 a (ns.map V.int) ∨ SqL X.K H1 a (ns.map V.int)) ∧ ns.length < 60 ∧ ∀ p c, H1 p = none → c ≤ ns.length → Q (.ref p) (upd H1 p (SetO X.w p (fun j => decide (j ∈ ns)) c))
theorem pe_setQ {te : TE} (hc : X.calm = true) (hg : Gl X "set") (hm : X.mg "set" = none) (he : PE X e te) (na : starEach [e] X.env = (false, eval e X.env) :: starEach [] X.env := by rfl) :
    PE X (.Call (.Name "set" p2) [e] [] q) (tSetQ X te) := by
  refine ⟨fun pins s σ H Q I h => ?_⟩
  refine Call_ (ld_blt I hg hm boot_set ?_)
  refine callWith_type1 (args_cons (thn (he.run pins s σ H _ I h) fun v s1 ⟨x, H1, I1, r1, a, ns, ex, hq, hl, q1⟩ => args_nil ?_) na) na rfl
  subst ex
  obtain rfl : v = Value.ref a := r1
  rcases hq with hq | hq
  · obtain ⟨its, r, pl, hz⟩ := I1.tuple hq
    refine call_set_tupI ns (I1.ok.hd hc) (show s1.heap.IsTuple a its.toArray from pl) (by simpa using ints_of_vals r) (by unfold scanBound; omega) fun h' tk c R hcl hk => ?_
    exact ⟨.ref _, upd H1 s1.heap.objs.size (SetO X.w s1.heap.objs.size (fun j => decide (j ∈ ns)) c), I1.laid (t' := tk) (fun b o e => hk b o e) (Nat.le_refl _) (setO_new R), rfl, q1 _ _ (I1.hok.fresh (Nat.le_refl _)) hcl⟩
  · obtain ⟨its, r, pl, hz⟩ := I1.list hq
    refine call_set_listI ns (I1.ok.hd hc) pl.isList (by simpa using ints_of_vals r) (by unfold scanBound; omega) fun h' tk c R hcl hk => ?_
    exact ⟨.ref _, upd H1 s1.heap.objs.size (SetO X.w s1.heap.objs.size (fun j => decide (j ∈ ns)) c), I1.laid (t' := tk) (fun b o e => hk b o e) (Nat.le_refl _) (setO_new R), rfl, q1 _ _ (I1.hok.fresh (Nat.le_refl _)) hcl⟩
theorem se_ss2 (hc : X.calm = true) (hg : Gl X "sorted") (hm : X.mg "sorted" = none) (hg2 : Gl X "set") (hm2 : X.mg "set" = none) (he : SE X W e f) (na : starEach [e] X.env = (false, eval e X.env) :: starEach [] X.env := by rfl)
    (nb : starEach [.Call (.Name "set" p2) [e] [] q] X.env = (false, eval (.Call (.Name "set" p2) [e] [] q) X.env) :: starEach [] X.env := by rfl) (hpl : (backTo pos (starEach [] X.env)).any (·.1) = false := by rfl) :
    SE X W (.Call (.Name "sorted" p) [.Call (.Name "set" p2) [e] [] q] [] pos) (op1 gSS2 f) :=
  (pe_callB (cr_sortedSet hc) hg hm boot_sorted (pa_cons (pe_setQ hc hg2 hm2 he na) pa_nil nb) (he := nb) (hpl := hpl)).conseq fun σ H Q h => by
    obtain ⟨pa, α, G, rel, r⟩ := t_op1 h
    refine ⟨pa, α, G, rel, r.mono fun v H1 ⟨pa1, α1, G1, d, z, hat, hd, hg⟩ => ?_⟩
    have key : ∀ (ns : List Int) (a : Addr), (SqT X.K H1 a (ns.map V.int) ∨ SqL X.K H1 a (ns.map V.int)) → Nat.blt ns.length 60 = true → At X W σ H1 Q (.ol ((sdI ns).map .int)) pa1 α1 G1 →
        ∃ (a' : Addr) (ns' : List Int), (V.ref a : V) = .ref a' ∧ (SqT X.K H1 a' (ns'.map V.int) ∨ SqL X.K H1 a' (ns'.map V.int)) ∧ ns'.length < 60 ∧ ∀ p c, H1 p = none → c ≤ ns'.length → rSortedSet X.w [.ref p] (upd H1 p (SetO X.w p (fun j => decide (j ∈ ns')) c)) Q := fun ns a q1 e3 hat => by
      have hl : ns.length < 60 := Nat.le_of_ble_eq_true e3
      refine ⟨a, ns, rfl, q1, hl, fun p1 c hp1 hcl => ?_⟩
      refine ⟨p1, _, c, rfl, upd_same, by omega, fun ms p3 h1 h2 h3 hp3 => ?_⟩
      have em : ms = sdI ns := rise_eq h1 (sdI_pw ns) fun z => by rw [h2 z, sdI_mem]; exact decide_eq_true_iff
      subst em
      have res := hat.res.shift (Step.laid (SetO X.w p1 (fun j => decide (j ∈ ns)) c) hp1)
      exact out_lst (hat.rel.laid _ hp1) res (dpInts _) p3 hp3
    cases d with
    | tuple ds =>
      simp only [gSS2] at hg
      cases e2 : intsD ds with
      | none => rw [e2] at hg; cases hg
      | some ns =>
        rw [e2] at hg
        simp only at hg
        cases e3 : Nat.blt ns.length 60 with
        | false => rw [e3] at hg; cases hg
        | true =>
          rw [e3] at hg
          cases hg
          cases intsD_eq e2
          cases (show Dp X.K G1 v (.tuple (ns.map PyData.int)) from hd) with | @tup a vs _ q1 q2 =>
          cases dpAll_ints q2
          exact key ns a (.inl (hat.rel.le.sqT q1)) e3 hat
    | list ds =>
      simp only [gSS2] at hg
      cases e2 : intsD ds with
      | none => rw [e2] at hg; cases hg
      | some ns =>
        rw [e2] at hg
        simp only at hg
        cases e3 : Nat.blt ns.length 60 with
        | false => rw [e3] at hg; cases hg
        | true =>
          rw [e3] at hg
          cases hg
          cases intsD_eq e2
          obtain ⟨a, vs, rfl, q1, q2⟩ := hd
          cases dpAll_ints q2
          exact key ns a (.inr q1) e3 hat
    | _ => cases hg
end
end Sx

namespace Sx
open PySem PySem.Spec L2
open PyProof.Rows hiding St

/-! ### t[::-1] -/
section
variable {prog : Program} {w : World} {A : Around} {E : Value → Shared → Prop} {s : Shared}
theorem back_places (n : Nat) : Builtin.Slice.slicePlaces ((n : Int) - 1) (-1) (-1) = n := by
  unfold Builtin.Slice.slicePlaces
  have h1 : ¬ ((-1 : Int) > 0) := by decide
  simp only [h1, if_false]
  rw [show (- -1 : Int) = 1 by decide, Int.ediv_one]
  split <;> omega
theorem back_adjust (n : Nat) : Builtin.Slice.sliceAdjust none none (-1) (n : Int) = ((n : Int) - 1, -1) := by
  unfold Builtin.Slice.sliceAdjust
  have h1 : ((-1 : Int) < 0) := by decide
  simp only [h1, if_true]
theorem back_pick (xs : List Value) : ((List.range xs.length).filterMap fun (m : Nat) => xs.toArray[(((xs.length : Int) - 1) + (m : Int) * (-1)).toNat]?) = xs.reverse := by
  refine List.ext_getElem? fun i => ?_
  have e : ∀ m ∈ List.range xs.length, xs.toArray[(((xs.length : Int) - 1) + (m : Int) * (-1)).toNat]? = some (xs.getD (xs.length - 1 - m) .none) := fun m hm => by
    have hm := List.mem_range.mp hm
    rw [show (((xs.length : Int) - 1) + (m : Int) * (-1)).toNat = xs.length - 1 - m by omega]
    rw [List.getElem?_toArray, List.getD_eq_getElem?_getD, List.getElem?_eq_getElem (by omega)]
    rfl
  have gen : ∀ (l : List Nat) (f : Nat → Option Value) (g : Nat → Value), (∀ m ∈ l, f m = some (g m)) → l.filterMap f = l.map g := fun l f g h => by
    induction l with
    | nil => rfl
    | cons m l ih => rw [List.filterMap_cons, h m List.mem_cons_self, List.map_cons]; simp only; rw [ih fun k hk => h k (List.mem_cons_of_mem _ hk)]
  have e2 := gen _ _ _ e
  rw [e2, List.getElem?_map]
  by_cases hi : i < xs.length
  · rw [List.getElem?_range hi, List.getElem?_reverse hi, Option.map_some, List.getD_eq_getElem?_getD, List.getElem?_eq_getElem (by omega)]
    rfl
  · rw [List.getElem?_eq_none (by rw [List.length_range]; omega), List.getElem?_eq_none (by rw [List.length_reverse]; omega)]
    rfl
theorem getItem_tuple_back {t sl : Addr} {items : List Value} {tk : Tok} {Q : Value → Shared → Prop} (ht : IsTup s.heap t items.toArray) (hs : s.heap.IsSliceOf sl .none .none (.int (-1) tk))
    (h : Q (.ref s.heap.objs.size) { s with heap := s.heap.push { cls := .type "tuple", data := .seq items.reverse.toArray } })
    (hsz : items.length ≤ sizeLine) : wpAny (model prog w) A (getItem (.ref t) (.ref sl)) Q E s := by
  have htake : sizeOk (.seq items.reverse.toArray) := by
    show items.reverse.toArray.size ≤ sizeLine
    rw [List.size_toArray, List.length_reverse]; exact hsz
  obtain ⟨os, hos, hcs, hds⟩ := id hs
  have hTs : s.TypeIs (.ref sl) "slice" := ⟨os, hos, hcs⟩
  unfold getItem
  try with_reducible refine wpAny_holding ?_
  first | refine wpAny_bind (wpAny_pure ?_) | skip
  refine wpAny_bind (wpAny_sequenceKey ht.typeIs (by decide) ?_)
  refine wpAny_bind (wpAny_callSpecial?_slot (name := Str.ofString "__getitem__") ht.typeIs PyProof.Rows.slot_tuple_getitem
    (wpAny_call_entry PyProof.Rows.slot_tuple_getitem ht.typeIs entry_tuple_getitem ?_ (args_tuple_getitem _ _)))
  show wpAny _ _ (Builtin.Tuple.tupleItemsOf (.ref t) >>= _) _ _ s
  refine wpAny_bind (tupleItemsOf_ ht ?_)
  refine wpAny_bind (wpAny_typeOf hTs ?_)
  rw [if_pos (by decide)]
  have hap : ∀ {Q : Int × Int × Nat → Shared → Prop}, Q ((items.length : Int) - 1, -1, items.length) s → wpAny (model prog w) A.in1 (Builtin.Slice.sliceApplied (.ref sl) (pure (items.length : Int))) Q E s := fun {Q} h => by
    unfold Builtin.Slice.sliceApplied Builtin.Slice.sliceFields
    refine wpAny_bind (wpAny_bind (wpAny_field hos hds (x := .none) rfl (wpAny_bind (wpAny_field hos hds (x := .none) rfl (wpAny_bind (wpAny_field hos hds (x := .int (-1) tk) rfl (wpAny_pure ?_)))))))
    refine wpAny_bind (slicePart_int ?_)
    show wpAny _ _ (if ((-1 : Int) == 0) = true then _ else _) _ _ s
    rw [if_neg (by decide)]
    refine wpAny_bind (slicePart_none (wpAny_bind (slicePart_none (wpAny_bind (wpAny_pure ?_)))))
    show wpAny _ _ (match Builtin.Slice.sliceAdjust none none (-1) (items.length : Int) with | (lo, hi) => pure (lo, (-1 : Int), Builtin.Slice.slicePlaces lo hi (-1))) _ _ s
    rw [back_adjust]
    show wpAny _ _ (pure ((items.length : Int) - 1, (-1 : Int), Builtin.Slice.slicePlaces ((items.length : Int) - 1) (-1) (-1))) _ _ s
    rw [back_places]
    exact wpAny_pure h
  have hz : items.toArray.size = items.length := List.size_toArray
  refine wpAny_bind (hap ?_)
  show wpAny _ _ (if (((items.length : Int) - 1) == 0 && (-1 : Int) == 1 && items.length == items.toArray.size) = true then _ else _) _ _ s
  rw [if_neg (by rw [show ((-1 : Int) == 1) = false by decide, Bool.and_false, Bool.false_and]; exact Bool.false_ne_true), back_pick]
  first
    | exact wpAny_bind (m := Builtin.Tuple.tupleExact _) (wpAny_newObj_type (wpAny_pure ⟨_, rfl, wpAny_pure h⟩) htake)
    | exact wpAny_bind (m := Builtin.Tuple.tupleExact _) (wpAny_newObj_type (wpAny_bind (wpAny_pure (wpAny_pure ⟨_, rfl, wpAny_pure h⟩))) htake)
    | exact wpAny_bind (wpAny_bind (m := Builtin.Tuple.tupleExact _) (wpAny_newObj_type (wpAny_pure (wpAny_pure ⟨_, rfl, wpAny_pure h⟩)) htake))
    | exact wpAny_bind (wpAny_bind (m := Builtin.Tuple.tupleExact _) (wpAny_newObj_type (wpAny_pure ⟨_, rfl, wpAny_pure h⟩) htake))
end
def gRev2 : D → Option SV
  | .list ds => some (.ol ds.reverse)
  | .tuple ds => some (.fr (.tuple ds.reverse))
  | _ => none
section
variable {X : Cx} {W : WX} {e o : Expr} {fe fo : EF} {pos : Pos}
def tRevQ (K : PySem.W.Frag) (te : TE) : TE := fun σ H Q => te σ H fun x H1 => ∃ a xs, x = .ref a ∧ ((SqL K H1 a xs ∧ ∀ p, H1 p = none → Q (.ref p) (upd H1 p (.lst xs.reverse))) ∨ (SqT K H1 a xs ∧ NT Q H1 xs.reverse))
theorem pe_revQ {te : TE} {k : Nat} {p1 p2 p3 : Pos} (he : PE X e te) : PE X (.Subscript e (.Slice none none (some (.UnaryOp .USub (.Constant (.int 1) k p1) p2)) p3) pos) (tRevQ X.K te) := by
  refine ⟨fun pins s σ H Q I h => ?_⟩
  refine Subscript_ (thn (he.run pins s σ H _ I h) fun v s1 ⟨x, H1, I1, r1, q1⟩ => ?_)
  obtain ⟨a, xs, ex, q⟩ := q1
  subst ex
  cases r1
  have hst : PO X (some (.UnaryOp .USub (.Constant (.int 1) k p1) p2)) (tPart (tUn (rU fun i => .int (-i)) (tC (.int 1)))) := po_some (pe_un un_neg pe_int)
  refine wpAny_Slice (thn (po_none.run pins s1 σ H1 (fun o H2 => o = none ∧ H2 = H1) I1 ⟨rfl, rfl⟩) fun vl s2 ⟨l, H2, I2, pl, el, e2⟩ => ?_)
  subst el e2
  refine thn (po_none.run pins s2 σ H2 (fun o H3 => o = none ∧ H3 = H2) I2 ⟨rfl, rfl⟩) fun vu s3 ⟨u, H3, I3, pu, eu, e3⟩ => ?_
  subst eu e3
  refine thn (hst.run pins s3 σ H3 (fun o H4 => o = some (-1) ∧ H4 = H3) I3 ⟨1, rfl, -1, rfl, rfl, rfl⟩) fun vs s4 ⟨o, H4, I4, ps, eo, e4⟩ => ?_
  subst eo e4
  have I5 : L2.Inv X pins σ H4 { s4 with heap := s4.heap.push { cls := .type "slice", data := .fields #[vl, vu, vs] } } := I4.kept (t' := s4.toks) fun b ob q => Heap.get?_push_of_some _ q
  show wpAny (model X.prog X.w) X.A (subscriptTail e (.Slice none none (some (.UnaryOp .USub (.Constant (.int 1) k p1) p2)) p3) (.ref a) (.ref s4.heap.objs.size)) (EP X pins σ Q) X.xe { s4 with heap := s4.heap.push { cls := .type "slice", data := .fields #[vl, vu, vs] } }
  rcases q with ⟨hx, q⟩ | ⟨hx, q⟩
  · obtain ⟨its, r, ht, hz⟩ := I5.list hx
    have hlen := r.length
    refine tail_any (ops := [.ref a, .ref s4.heap.objs.size]) ht.isList.typeIs (PySem.slot_list_getitem.lookup) ?_ (by with_unfolding_all rfl)
    refine wpAny_getItem_list_slice ht.isList (Heap.IsSliceOf.new _ vl vu vs) pl pu ps (by decide) ?_ (by rw [List.size_toArray]; omega)
    rw [PySem.W.krv_pick]
    refine ⟨.ref _, _, I5.laid (t' := s4.toks) (o := .lst xs.reverse) (fun b ob q => Heap.get?_push_of_some _ q) (Nat.le_refl _) ?_, rfl, q _ (I5.hok.fresh (Nat.le_refl _))⟩
    exact ⟨by rw [List.length_reverse]; exact hz, _, 0, r.reverse, Heap.get?_push_size _ rfl⟩
  · obtain ⟨its, r, ht, hz⟩ := I5.tuple hx
    have hlen := r.length
    cases pl
    cases pu
    cases ps with | int _ tk =>
    refine tail_any (ops := [.ref a, .ref s4.heap.objs.size]) ht.typeIs (PyProof.Rows.slot_tuple_getitem.lookup) ?_ (by with_unfolding_all rfl)
    refine getItem_tuple_back ht (Heap.IsSliceOf.new _ .none .none _) ?_ (by omega)
    exact NT.ends I5 r.reverse (by rw [List.length_reverse]; exact hz) q
theorem se_rev2 {k : Nat} {p1 p2 p3 : Pos} (he : SE X W e fe) : SE X W (.Subscript e (.Slice none none (some (.UnaryOp .USub (.Constant (.int 1) k p1) p2)) p3) pos) (op1 gRev2 fe) := (pe_revQ he).conseq fun σ H Q h => by
  obtain ⟨pa, α, G, rel, h⟩ := t_op1 h
  refine ⟨pa, α, G, rel, h.mono fun v H1 ⟨pa1, α1, G1, d, z, hat, hd, hg⟩ => ?_⟩
  cases d with
  | list ds =>
    cases hg
    obtain ⟨a, vs, rfl, hs, hv⟩ := hd
    exact ⟨a, vs, rfl, .inl ⟨hs, out_lst hat.rel hat.res hv.rev⟩⟩
  | tuple ds =>
    cases hg
    cases (show Dp X.K G1 v (.tuple ds) from hd) with | @tup a vs _ hs hv =>
    exact ⟨a, vs, rfl, .inr ⟨hat.rel.le.sqT hs, out_tup hat.rel hat.res hv.rev⟩⟩
  | _ => cases hg
/-! x.bit_length() -/
def gBits : D → Option SV
  | .int i => some (.fr (.int (Builtin.Int.intBits i : Nat)))
  | _ => none
theorem se_bits {apos : Pos} (he : SE X W e fe) (hbase : attributeBase e "bit_length" X.env (eval e X.env) = eval e X.env := by rfl) (hline : (apos.endLine == pos.line) = true := by rfl) : SE X W (.Call (.Attribute e "bit_length" apos) [] [] pos) (op1 gBits fe) := (pe_bits he hbase hline).conseq fun σ H Q h => by
  obtain ⟨pa, α, G, rel, h⟩ := t_op1 h
  refine ⟨pa, α, G, rel, h.mono fun v H1 ⟨pa1, α1, G1, d, z, hat, hd, hg⟩ => ?_⟩
  cases d with
  | int i =>
    cases hg
    cases (show Dp X.K G1 v (.int i) from hd)
    exact ⟨i, rfl, out_d hat.rel hat.res (.int _)⟩
  | _ => cases hg
/-! xs.pop(), xs.pop(i), xs an own list -/
def ePop (i : Nat) : EF := fun s => match getS s i with
  | some (.ol ds) => match ds[ds.length - 1]? with
    | some d => .ok (.fr d) (setS s i (.ol ds.dropLast))
    | none => .no
  | _ => .no
def ePopAt (i : Nat) (f : EF) : EF := fun s => match getS s i with
  | some (.ol _) => (f s).bind fun x s1 => match x with
    | .fr (.int k) => match getS s1 i with
      | some (.ol ds) => if 0 ≤ k ∧ k < ds.length ∧ k < 1000000 then (match ds[k.toNat]? with
        | some d => .ok (.fr d) (setS s1 i (.ol (ds.eraseIdx k.toNat)))
        | none => .no) else .no
      | _ => .no
    | _ => .no
  | _ => .no
theorem dpAll_dropLast {K : PySem.W.Frag} {G : Hp} {vs : List V} {ds : List D} (h : DpAll K G vs ds) : DpAll K G vs.dropLast ds.dropLast := by
  rw [List.dropLast_eq_take, List.dropLast_eq_take, h.length]
  exact h.take _
theorem dpAll_erase {K : PySem.W.Frag} {G : Hp} : ∀ {vs : List V} {ds : List D} (k : Nat), DpAll K G vs ds → DpAll K G (vs.eraseIdx k) (ds.eraseIdx k)
  | _, _, _, .nil => .nil
  | _, _, 0, .cons _ t => t
  | _, _, k + 1, .cons h t => .cons h (dpAll_erase k t)
theorem se_pop {i : Nat} {x : Str} {p1 apos cpos : Pos} (hN : X.N[i]? = some x) (hv : Vis X.env.scope x) (hdb : (x == ("__debug__" : Str)) = false := by decide) (hcd : (x == ("__classdict__" : Str)) = false := by decide)
    (hbase : attributeBase (.Name x p1) "pop" X.env (eval (.Name x p1) X.env) = eval (.Name x p1) X.env := by rfl) (hline : (apos.endLine == cpos.line) = true := by rfl) :
    SE X W (.Call (.Attribute (.Name x p1) "pop" apos) [] [] cpos) (ePop i) :=
  (pe_bm0 PySem.F.plainAttrs_list PySem.F.slot_list_pop PySem.F.type_list_pop mt_pop (pe_var hN hv hdb hcd) hbase hline).conseq fun σ H Q ⟨pa, α, G, rel, h⟩ => by
    unfold ePop at h
    cases g0 : getS α i with
    | none => rw [g0] at h; exact h.elim
    | some sv =>
      rw [g0] at h
      cases sv with
      | ol ds =>
        simp only at h
        obtain ⟨v, h1, a, rfl, hg0, us, hv0, hd⟩ := rel.sl i _ g0
        cases e : ds[ds.length - 1]? with
        | none => rw [e] at h; exact h.elim
        | some d =>
          rw [e] at h
          simp only at h
          obtain ⟨w, hw, dw⟩ := hd.get e
          refine ⟨_, h1, .inl ⟨rfl, us, .of hv0⟩, ?_⟩
          obtain ⟨rel2, st2⟩ := rel.upd_own g0 h1 (dpAll_dropLast hd)
          exact ⟨a, us, w, rfl, rfl, hv0, by rw [hd.length]; exact hw, h w G _ rel2 st2 (.of dw) trivial⟩
      | _ => exact h.elim
theorem se_popAt {i : Nat} {x : Str} {p1 apos cpos : Pos} (hN : X.N[i]? = some x) (hv : Vis X.env.scope x) (he : SE X W e fe) (hdb : (x == ("__debug__" : Str)) = false := by decide) (hcd : (x == ("__classdict__" : Str)) = false := by decide)
    (hbase : attributeBase (.Name x p1) "pop" X.env (eval (.Name x p1) X.env) = eval (.Name x p1) X.env := by rfl)
    (hfew : ((backTo cpos (starEach [e] X.env)).all (fun x => !x.1) && (backToKw cpos (keywordEach [] X.env)).all (fun x => x.1.isSome)
      && decide (([e] : List Expr).length + ([] : List Keyword).length + (if ([] : List Keyword).isEmpty then 0 else 1) < 30)) = true := by rfl)
    (hline : (apos.endLine == cpos.line) = true := by rfl) (hs : starEach [e] X.env = (false, eval e X.env) :: starEach [] X.env := by rfl) (hplain : (backTo cpos (starEach [] X.env)).any (·.1) = false := by rfl) :
    SE X W (.Call (.Attribute (.Name x p1) "pop" apos) [e] [] cpos) (ePopAt i fe) :=
  (pe_bm PySem.F.plainAttrs_list PySem.F.slot_list_pop PySem.F.type_list_pop mt_popAt (pe_var hN hv hdb hcd) (pa_cons he pa_nil hs) hbase hfew hline hs hplain).conseq fun σ H Q ⟨pa, α, G, rel, h⟩ => by
    unfold ePopAt at h
    cases g0 : getS α i with
    | none => rw [g0] at h; exact h.elim
    | some sv =>
      rw [g0] at h
      cases sv with
      | ol ds0 =>
        obtain ⟨v, h1, a, rfl, hg0, us0, hv0, _⟩ := rel.sl i _ g0
        refine ⟨_, h1, .inl ⟨rfl, us0, .of hv0⟩, pa, α, G, rel, ?_⟩
        cases r : fe α with
        | no => rw [r] at h; exact h
        | ex e α' => rw [r] at h; exact h
        | ok x1 α1 =>
          rw [r] at h
          intro u G1 H1 rel1 st1 rv nv
          simp only [R.bind] at h
          cases x1 with
          | fr d =>
            cases d with
            | int k =>
              cases (show Dp X.K G1 u (.int k) from rv)
              simp only at h
              cases g2 : getS α1 i with
              | none => rw [g2] at h; exact h.elim
              | some sv2 =>
                rw [g2] at h
                cases sv2 with
                | ol ds =>
                  simp only at h
                  split at h
                  · rename_i hk
                    cases e : ds[k.toNat]? with
                    | none => rw [e] at h; exact h.elim
                    | some d =>
                      rw [e] at h
                      simp only at h
                      obtain ⟨v2, q1, b, rfl, q2, us, q3, q4⟩ := rel1.sl i _ g2
                      rw [h1] at q1
                      cases q1
                      obtain ⟨w, hw, dw⟩ := q4.get e
                      obtain ⟨rel3, st3⟩ := rel1.upd_own g2 h1 (dpAll_erase k.toNat q4)
                      have hz := q4.length
                      refine ⟨a, us, k, k.toNat, w, rfl, rfl, q3, by omega, by omega, by rw [hz]; exact PySem.StrLaws.seqIndex_nonneg hk.1 hk.2.1, hw, ?_⟩
                      · exact h w G1 _ rel3 (st1.trans st3) (.of dw) trivial
                  · exact h.elim
                | _ => exact h.elim
            | _ => exact h.elim
          | _ => exact h.elim
      | _ => exact h.elim
end
end Sx

namespace Sx
open PySem PySem.Spec L2
open PyProof.Rows hiding St

/-! ### repr(a) == repr(b) -/
mutual
def wS : D → Nat
  | .none => 4
  | .bool _ => 5
  | .int i => if i.natAbs.log2 < 1920 then 1921 else 100000000
  | .str x => (reprText x).length
  | .list ds => wSs ds + 4
  | .tuple ds => wSs ds + 4
  | .dict _ => 100000000
def wSs : List D → Nat
  | [] => 0
  | d :: ds => wS d + 2 + wSs ds
end
theorem piled_shown : ∀ ts : List Str, (listText ts).length ≤ piled ts + 4 ∧ (tupleText ts).length ≤ piled ts + 4 := by
  intro ts
  have key : ∀ (ts : List Str) (k : Nat) (acc : Str), (textFrom k acc ts).length ≤ acc.length + piled ts := by
    intro ts
    induction ts with
    | nil => intro k acc; exact Nat.le_add_right _ _
    | cons t ts ih =>
      intro k acc
      have := ih (k + 1) (acc ++ (if k > 0 then ", " else "" : String) ++ t)
      have e : (acc ++ (if k > 0 then ", " else "" : String) ++ t).length = acc.length + (if k > 0 then 2 else 0) + t.length := by
        rw [strLen_append, strLen_append]
        split <;> rfl
      rw [e] at this
      show (textFrom (k + 1) _ ts).length ≤ _
      rw [piled_cons]
      have : (if k > 0 then 2 else 0) ≤ 2 := by split <;> decide
      omega
  constructor
  · unfold listText
    rw [strLen_append]
    have h := key ts 0 "["
    have e1 : ((("[" : String) : Str)).length = 1 := rfl
    have e3 : ((("]" : String) : Str)).length = 1 := rfl
    rw [e1] at h
    show _ + ((("]" : String) : Str)).length ≤ _
    rw [e3]
    omega
  · unfold tupleText
    rw [strLen_append, strLen_append]
    have e1 : ((("(" : String) : Str)).length = 1 := rfl
    have e3 : (((if ts.length == 1 then ",)" else ")" : String) : Str)).length ≤ 2 := by split <;> decide
    rw [e1]
    have e4 : (Str.join ", " ts).length ≤ piled ts := by
      by_cases h : ts = []
      · subst h; decide
      · have := join_length_add ts h; omega
    omega
mutual
theorem shown_le : ∀ d : D, d.showable = true → d.hasDict = false → d.shown.length ≤ wS d
  | .none, _, _ => by decide
  | .bool true, _, _ => by decide
  | .bool false, _, _ => by decide
  | .int i, h, _ => by
    simp only [PyData.showable, decide_eq_true_eq] at h
    simp only [PyData.shown, wS, if_pos h]
    have e := int_text_length_le (k := 1920) (by decide) h
    show (Str.ofString (toString i)).length ≤ 1921
    rw [PySem.ofString_length]; exact e
  | .str x, _, _ => by simp only [PyData.shown, wS]; exact Nat.le_refl _
  | .list ds, h, n => by
    simp only [PyData.showable] at h
    simp only [PyData.hasDict] at n
    simp only [PyData.shown, wS]
    exact Nat.le_trans (piled_shown _).1 (Nat.add_le_add_right (shownAll_le ds h n) 4)
  | .tuple ds, h, n => by
    simp only [PyData.showable] at h
    simp only [PyData.hasDict] at n
    simp only [PyData.shown, wS]
    exact Nat.le_trans (piled_shown _).2 (Nat.add_le_add_right (shownAll_le ds h n) 4)
  | .dict _, _, n => by simp [PyData.hasDict] at n
theorem shownAll_le : ∀ ds : List D, PyData.showableAll ds = true → PyData.hasDictAll ds = false → piled (PyData.shownAll ds) ≤ wSs ds
  | [], _, _ => by simp [PyData.shownAll, piled, wSs]
  | d :: ds, h, n => by
    simp only [PyData.showableAll, Bool.and_eq_true] at h
    simp only [PyData.hasDictAll, Bool.or_eq_false_iff] at n
    simp only [PyData.shownAll, piled_cons, wSs]
    have h1 := shown_le d h.1 n.1
    have h2 := shownAll_le ds h.2 n.2
    omega
end
mutual
theorem dp_noDict {K : PySem.W.Frag} {H : Hp} : ∀ (d : D) (v : V), Dp K H v d → d.hasDict = false
  | .none, _, _ => rfl
  | .bool _, _, _ => rfl
  | .int _, _, _ => rfl
  | .str _, _, _ => rfl
  | .list ds, _, h => by cases h with | lst s a => simp only [PyData.hasDict]; exact dp_noDictAll ds _ a
  | .tuple ds, _, h => by cases h with | tup s a => simp only [PyData.hasDict]; exact dp_noDictAll ds _ a
  | .dict _, _, h => by cases h
theorem dp_noDictAll {K : PySem.W.Frag} {H : Hp} : ∀ (ds : List D) (vs : List V), DpAll K H vs ds → PyData.hasDictAll ds = false
  | [], _, _ => rfl
  | d :: ds, _, h => by cases h with | cons h1 h2 => simp only [PyData.hasDictAll, dp_noDict d _ h1, dp_noDictAll ds _ h2]; rfl
end
def reOk (d : D) : Bool := d.showable && shal 12 d && Nat.ble (wS d) 16000000
mutual
/-- the very same data -/
def dSame : D → D → Bool
  | .none, .none => true
  | .bool a, .bool b => a == b
  | .int a, .int b => decide (a = b)
  | .str a, .str b => decide (a = b)
  | .list a, .list b => dSames a b
  | .tuple a, .tuple b => dSames a b
  | _, _ => false
def dSames : List D → List D → Bool
  | [], [] => true
  | a :: as, b :: bs => dSame a b && dSames as bs
  | _, _ => false
end
mutual
theorem dSame_eq : ∀ a b : D, dSame a b = true → a = b
  | .none, .none, _ => rfl
  | .bool a, .bool b, h => by simp only [dSame, beq_iff_eq] at h; rw [h]
  | .int a, .int b, h => by simp only [dSame, decide_eq_true_eq] at h; rw [h]
  | .str a, .str b, h => by simp only [dSame, decide_eq_true_eq] at h; rw [h]
  | .list a, .list b, h => by simp only [dSame] at h; rw [dSames_eq a b h]
  | .tuple a, .tuple b, h => by simp only [dSame] at h; rw [dSames_eq a b h]
  | .none, .bool _, h => by simp [dSame] at h
  | .none, .int _, h => by simp [dSame] at h
  | .none, .str _, h => by simp [dSame] at h
  | .none, .list _, h => by simp [dSame] at h
  | .none, .tuple _, h => by simp [dSame] at h
  | .none, .dict _, h => by simp [dSame] at h
  | .bool _, .none, h => by simp [dSame] at h
  | .bool _, .int _, h => by simp [dSame] at h
  | .bool _, .str _, h => by simp [dSame] at h
  | .bool _, .list _, h => by simp [dSame] at h
  | .bool _, .tuple _, h => by simp [dSame] at h
  | .bool _, .dict _, h => by simp [dSame] at h
  | .int _, .none, h => by simp [dSame] at h
  | .int _, .bool _, h => by simp [dSame] at h
  | .int _, .str _, h => by simp [dSame] at h
  | .int _, .list _, h => by simp [dSame] at h
  | .int _, .tuple _, h => by simp [dSame] at h
  | .int _, .dict _, h => by simp [dSame] at h
  | .str _, .none, h => by simp [dSame] at h
  | .str _, .bool _, h => by simp [dSame] at h
  | .str _, .int _, h => by simp [dSame] at h
  | .str _, .list _, h => by simp [dSame] at h
  | .str _, .tuple _, h => by simp [dSame] at h
  | .str _, .dict _, h => by simp [dSame] at h
  | .list _, .none, h => by simp [dSame] at h
  | .list _, .bool _, h => by simp [dSame] at h
  | .list _, .int _, h => by simp [dSame] at h
  | .list _, .str _, h => by simp [dSame] at h
  | .list _, .tuple _, h => by simp [dSame] at h
  | .list _, .dict _, h => by simp [dSame] at h
  | .tuple _, .none, h => by simp [dSame] at h
  | .tuple _, .bool _, h => by simp [dSame] at h
  | .tuple _, .int _, h => by simp [dSame] at h
  | .tuple _, .str _, h => by simp [dSame] at h
  | .tuple _, .list _, h => by simp [dSame] at h
  | .tuple _, .dict _, h => by simp [dSame] at h
  | .dict _, .none, h => by simp [dSame] at h
  | .dict _, .bool _, h => by simp [dSame] at h
  | .dict _, .int _, h => by simp [dSame] at h
  | .dict _, .str _, h => by simp [dSame] at h
  | .dict _, .list _, h => by simp [dSame] at h
  | .dict _, .tuple _, h => by simp [dSame] at h
  | .dict _, .dict _, h => by simp [dSame] at h
theorem dSames_eq : ∀ a b : List D, dSames a b = true → a = b
  | [], [], _ => rfl
  | a :: as, b :: bs, h => by simp only [dSames, Bool.and_eq_true] at h; rw [dSame_eq a b h.1, dSames_eq as bs h.2]
  | [], _ :: _, h => by simp [dSames] at h
  | _ :: _, [], h => by simp [dSames] at h
end
def rRp (X : Cx) : List V → Hp → VK → Prop := fun xs H Q => ∃ v d, xs = [v] ∧ Dp X.K H v d ∧ reOk d = true ∧ Q (.str d.shown) H
theorem call_rp {X : Cx} (hg : X.A.guards = some []) (hu : X.A.units + 64 < cLine) : CallR X (.builtin "repr") (rRp X) := by
  intro pins s σ H xs us Q I r ⟨v, d, e, hd, ok, q⟩
  subst e
  obtain ⟨u, rfl, rx⟩ := vals1 r
  simp only [reOk, Bool.and_eq_true] at ok
  obtain ⟨⟨sh, dep⟩, sz⟩ := ok
  have dep := shal_depth _ _ dep
  have nd := dp_noDict d v hd
  have size : d.shown.length ≤ sizeLine := Nat.le_trans (shown_le d sh nd) (Nat.le_trans (Nat.le_of_ble_eq_true sz) (by rw [sizeLine_eq]; decide))
  have byRef : ∀ {a : Addr}, u = .ref a → wpAny (model X.prog X.w) X.A (call (.builtin "repr") [u]) (EP X pins σ Q) X.xe s := fun {a} e => by
    obtain ⟨as, hr⟩ := Dp.reads I d v u hd rx
    subst e
    exact repr_of_reads' hr sh (fun z => by rw [nd] at z; cases z) hg (by omega) (fun _ _ z => z) (fun h' u tk hk => ⟨.str d.shown, H, I.kept (t' := tk) hk, ⟨u, rfl⟩, q⟩) size
  cases d with
  | none =>
    cases hd
    cases (show u = Value.none from rx)
    exact P.repr_of_none ⟨.str "None", H, I.tok _, ⟨_, rfl⟩, q⟩
  | bool b =>
    cases hd
    cases (show u = Value.bool b from rx)
    refine P.repr_of_bool ⟨.str (if b = true then ("True" : Str) else ("False" : Str)), H, I.tok _, ⟨_, rfl⟩, ?_⟩
    cases b <;> exact q
  | int i =>
    cases hd
    obtain ⟨t, rfl⟩ := (show ∃ t, u = Value.int i t from rx)
    simp only [PyData.showable, decide_eq_true_eq] at sh
    exact P.repr_of_int sh ⟨.str (toString i), H, I.tok _, ⟨_, rfl⟩, q⟩
  | str x =>
    cases hd
    obtain ⟨t, rfl⟩ := (show ∃ t, u = Value.str x t from rx)
    exact P.repr_of_str ⟨.str (reprText x), H, I.tok _, ⟨_, rfl⟩, q⟩ size
  | list ds => cases hd with | lst s1 t1 => exact byRef rx
  | tuple ds => cases hd with | tup s1 t1 => exact byRef rx
  | dict kvs => cases hd
/-- repr(a) == repr(b), told where it is so -/
def eRE (r : Bool) (f g : EF) : EF := fun s => (f s).bind fun x s1 => match rdv s1 x with
  | some d => bif reOk d then ((g s1).bind fun y s2 => match rdv s2 y with
    | some e => bif dSame d e then .ok (.fr (.bool r)) s2 else .no
    | none => .no) else .no
  | none => .no
section
variable {X : Cx} {W : WX} {a b : Expr} {fa fb : EF} {p1 p2 p3 p4 pos : Pos}
abbrev tRp (X : Cx) (t : TE) : TE := fun σ H Q => t σ H fun v H1 => rRp X [v] H1 Q
theorem pe_rp {t : TE} (hgu : X.A.guards = some []) (hu : X.A.units + 64 < cLine) (hg : Gl X "repr") (hm : X.mg "repr" = none) (ha : PE X a t) (na : starEach [a] X.env = (false, eval a X.env) :: starEach [] X.env := by rfl) (hpl : (backTo p2 (starEach [] X.env)).any (·.1) = false := by rfl) :
    PE X (.Call (.Name "repr" p1) [a] [] p2) (tRp X t) := pe_callB (call_rp hgu hu) hg hm boot_repr (pa_cons ha pa_nil na) (he := na) (hpl := hpl)
theorem re_go {r : Bool} {σ : St} {H : Hp} {Q : VK} (h : tE X W (eRE r fa fb) σ H Q) :
    tRp X (tE X W fa) σ H fun x H1 => tRp X (tE X W fb) σ H1 fun y H2 => ∃ z, x = .str z ∧ y = .str z ∧ Q (.bl r) H2 := by
  obtain ⟨pa, α, G, rel, h⟩ := h
  refine ⟨pa, α, G, rel, (Res.mid h).mono fun v H1 ⟨x, α1, G1, _, rel1, st1, rv, nv, r1⟩ => ?_⟩
  cases e1 : rdv α1 x with
  | none => simp only [e1] at r1; exact r1.elim
  | some d =>
    simp only [e1] at r1
    have hd := (rdv_ok rel1 rv e1).dp rel1.le
    cases ok : reOk d with
    | false => rw [ok] at r1; exact r1.elim
    | true =>
    rw [ok] at r1
    simp only [cond_true] at r1
    refine ⟨v, d, rfl, hd, ok, pa, α1, G1, rel1, (Res.mid r1).mono fun u H2 ⟨y, α2, G2, _, rel2, st2, rv2, nv2, r2⟩ => ?_⟩
    cases e2 : rdv α2 y with
    | none => simp only [e2] at r2; exact r2.elim
    | some e =>
      simp only [e2] at r2
      cases e3 : dSame d e with
      | false => rw [e3] at r2; exact r2.elim
      | true =>
        rw [e3] at r2
        have := dSame_eq d e e3
        subst this
        exact ⟨u, d, rfl, (rdv_ok rel2 rv2 e2).dp rel2.le, ok, _, rfl, rfl, out_d rel2 r2 (.bl r)⟩
theorem eqv_str (z : Str) : PyData.eqv (.str z) (.str z) = true := by simp [PyData.eqv]
theorem eq_run (hu : X.A.units + 100 < cLine) {pins : List (Addr × Obj)} {s : Shared} {σ : St} {H : Hp} {x y : V} {v u : Value} {Q : VK} (I : L2.Inv X pins σ H s) (rx : RelV x v) (ry : RelV y u) (h : ∃ z, x = .str z ∧ y = .str z ∧ Q (.bl true) H) :
    wpAny (model X.prog X.w) X.A (compareOp .Eq v u) (EP X pins σ Q) X.xe s := by
  obtain ⟨z, rfl, rfl, q⟩ := h
  exact op_eqD hu pins s σ H _ _ v u Q I rx ry ⟨.str z, .str z, true, .str z, .str z, by dsimp only; rw [if_pos (by simp [shal2, shal]), eqv_str], q⟩
theorem ne_run (hu : X.A.units + 100 < cLine) {pins : List (Addr × Obj)} {s : Shared} {σ : St} {H : Hp} {x y : V} {v u : Value} {Q : VK} (I : L2.Inv X pins σ H s) (rx : RelV x v) (ry : RelV y u) (h : ∃ z, x = .str z ∧ y = .str z ∧ Q (.bl false) H) :
    wpAny (model X.prog X.w) X.A (compareOp .NotEq v u) (EP X pins σ Q) X.xe s := by
  obtain ⟨z, rfl, rfl, q⟩ := h
  exact op_neD hu pins s σ H _ _ v u Q I rx ry ⟨.str z, .str z, false, .str z, .str z, by dsimp only; rw [if_pos (by simp [shal2, shal]), eqv_str]; rfl, q⟩
section
variable (hgu : X.A.guards = some []) (hu : X.A.units + 100 < cLine) (hg : Gl X "repr") (hm : X.mg "repr" = none)
include hgu hu hg hm
theorem se_reEq (ha : SE X W a fa) (hb : SE X W b fb) (na : starEach [a] X.env = (false, eval a X.env) :: starEach [] X.env := by rfl) (nb : starEach [b] X.env = (false, eval b X.env) :: starEach [] X.env := by rfl) (hk : behindInMarks .Eq (.Call (.Name "repr" p3) [b] [] p4) = false := by exact nomark _) :
    SE X W (.Compare (.Call (.Name "repr" p1) [a] [] p2) [.Eq] [.Call (.Name "repr" p3) [b] [] p4] pos) (eRE true fa fb) :=
  ⟨fun pins s σ H Q I h => wpAny_Compare1 (binT (pe_rp hgu (by omega) hg hm ha na) (pe_rp hgu (by omega) hg hm hb nb) I (re_go h) fun v u s2 x y H2 I2 rx ry q => eq_run hu I2 rx ry q) hk⟩
theorem st_reEq (ha : SE X W a fa) (hb : SE X W b fb) (na : starEach [a] X.env = (false, eval a X.env) :: starEach [] X.env := by rfl) (nb : starEach [b] X.env = (false, eval b X.env) :: starEach [] X.env := by rfl) (hk : behindInMarks .Eq (.Call (.Name "repr" p3) [b] [] p4) = false := by exact nomark _) :
    ST X W (.Compare (.Call (.Name "repr" p1) [a] [] p2) [.Eq] [.Call (.Name "repr" p3) [b] [] p4] pos) (bE (eRE true fa fb)) := by
  have pc : PC X .Eq (.Call (.Name "repr" p1) [a] [] p2) (.Call (.Name "repr" p3) [b] [] p4) (fun σ H Q => tRp X (tE X W fa) σ H fun x H1 => tRp X (tE X W fb) σ H1 fun y H2 => ∃ z, x = .str z ∧ y = .str z ∧ Q (.bl true) H2) :=
    ⟨fun pins s σ H Q I h => binT (pe_rp hgu (by omega) hg hm ha na) (pe_rp hgu (by omega) hg hm hb nb) I h fun v u s2 x y H2 I2 rx ry q => eq_run hu I2 rx ry q⟩
  refine (pt_cmp pc hk).conseq fun σ H Q h => ?_
  exact re_go (t_bE h)
theorem st_reNe (ha : SE X W a fa) (hb : SE X W b fb) (na : starEach [a] X.env = (false, eval a X.env) :: starEach [] X.env := by rfl) (nb : starEach [b] X.env = (false, eval b X.env) :: starEach [] X.env := by rfl) (hk : behindInMarks .NotEq (.Call (.Name "repr" p3) [b] [] p4) = false := by exact nomark _) :
    ST X W (.Compare (.Call (.Name "repr" p1) [a] [] p2) [.NotEq] [.Call (.Name "repr" p3) [b] [] p4] pos) (bE (eRE false fa fb)) := by
  have pc : PC X .NotEq (.Call (.Name "repr" p1) [a] [] p2) (.Call (.Name "repr" p3) [b] [] p4) (fun σ H Q => tRp X (tE X W fa) σ H fun x H1 => tRp X (tE X W fb) σ H1 fun y H2 => ∃ z, x = .str z ∧ y = .str z ∧ Q (.bl false) H2) :=
    ⟨fun pins s σ H Q I h => binT (pe_rp hgu (by omega) hg hm ha na) (pe_rp hgu (by omega) hg hm hb nb) I h fun v u s2 x y H2 I2 rx ry q => ne_run hu I2 rx ry q⟩
  refine (pt_cmp pc hk).conseq fun σ H Q h => ?_
  exact re_go (t_bE h)
end
end
end Sx

namespace Sx
open PySem PySem.Spec L2
open PyProof.Rows hiding St

/-! ### the pen -/
abbrev kCells : Key := .inr ("cells" : Str)
abbrev kAt : Key := .inr ("at" : Str)
abbrev kDigits : Key := .inr ("digits" : Str)
abbrev kCount : Key := .inr ("count" : Str)
abbrev kFold : Key := .inr ("fold" : Str)
theorem n1 : ¬ kCells = kAt := by decide +kernel
theorem n2 : ¬ kCells = kDigits := by decide +kernel
theorem n3 : ¬ kCells = kCount := by decide +kernel
theorem n4 : ¬ kCells = kFold := by decide +kernel
theorem n5 : ¬ kAt = kDigits := by decide +kernel
theorem n6 : ¬ kAt = kCount := by decide +kernel
theorem n7 : ¬ kAt = kFold := by decide +kernel
theorem n8 : ¬ kDigits = kCount := by decide +kernel
theorem n9 : ¬ kDigits = kFold := by decide +kernel
theorem n10 : ¬ kCount = kFold := by decide +kernel
theorem g1 (c : Addr) (p : Pen) : valV (penKV c p) kCells = some (.ref c) := valV_pos rfl
theorem g2 (c : Addr) (p : Pen) : valV (penKV c p) kAt = some (.int p.at_) := (valV_neg n1).trans (valV_pos rfl)
theorem g3 (c : Addr) (p : Pen) : valV (penKV c p) kDigits = some (.int p.digits) := (valV_neg n2).trans ((valV_neg n5).trans (valV_pos rfl))
theorem g4 (c : Addr) (p : Pen) : valV (penKV c p) kCount = some (.int p.count) := (valV_neg n3).trans ((valV_neg n6).trans ((valV_neg n8).trans (valV_pos rfl)))
theorem g5 (c : Addr) (p : Pen) : valV (penKV c p) kFold = some (.int p.fold) := (valV_neg n4).trans ((valV_neg n7).trans ((valV_neg n9).trans ((valV_neg n10).trans (valV_pos rfl))))
theorem put_eq {c : Addr} {p : Pen} {k : Key} {v : V} (h : valV (penKV c p) k ≠ none) : putK (penKV c p) k v = (penKV c p).map fun kv => if kv.1 = k then (kv.1, v) else kv := by
  have e : ((penKV c p).any fun kv => decide (kv.1 = k)) = true := by
    rw [valV_any]
    cases q : valV (penKV c p) k with
    | none => exact absurd q h
    | some _ => rfl
  unfold putK
  rw [if_pos e]
theorem p2 (c : Addr) (p : Pen) (n : Nat) : putK (penKV c p) kAt (.int n) = penKV c { p with at_ := n } := by
  rw [put_eq (by rw [g2]; exact fun z => nomatch z)]
  simp only [penKV, List.map_cons, List.map_nil, if_neg n1, if_pos, if_neg (Ne.symm n5), if_neg (Ne.symm n6), if_neg (Ne.symm n7)]
theorem p3 (c : Addr) (p : Pen) (n : Int) : putK (penKV c p) kDigits (.int n) = penKV c { p with digits := n } := by
  rw [put_eq (by rw [g3]; exact fun z => nomatch z)]
  simp only [penKV, List.map_cons, List.map_nil, if_neg n2, if_pos, if_neg n5, if_neg (Ne.symm n8), if_neg (Ne.symm n9)]
theorem p4 (c : Addr) (p : Pen) (n : Int) : putK (penKV c p) kCount (.int n) = penKV c { p with count := n } := by
  rw [put_eq (by rw [g4]; exact fun z => nomatch z)]
  simp only [penKV, List.map_cons, List.map_nil, if_neg n3, if_pos, if_neg n6, if_neg n8, if_neg (Ne.symm n10)]
theorem p5 (c : Addr) (p : Pen) (n : Int) : putK (penKV c p) kFold (.int n) = penKV c { p with fold := n } := by
  rw [put_eq (by rw [g5]; exact fun z => nomatch z)]
  simp only [penKV, List.map_cons, List.map_nil, if_neg n4, if_pos, if_neg n7, if_neg n9, if_neg n10]

/-- a draw, ahead of the answer -/
def drawA (p : Pen) : Pen :=
  if p.digits = 0 ∧ p.at_ < p.cells.length then
    (if 1000000000000000000 ≤ p.cells.getD p.at_ 0 then { p with count := p.count + 1, at_ := p.at_ + 1, digits := p.cells.getD p.at_ 0 - 1000000000000000000 }
      else { p with count := p.count + 1, at_ := p.at_ + 1, fold := (p.fold * 41959 + p.cells.getD p.at_ 0) % 2147483489 })
  else { p with count := p.count + 1 }
/-- .. the answer -/
def drawB (p : Pen) (many : Int) : Int × Pen :=
  if 0 < p.digits then (p.digits % many, { p with digits := p.digits / many })
  else ((p.fold + p.count * 7951 + 67) ^ 27 % 2305843009213693951 / 256 % many, p)
def drawP (p : Pen) (many : Int) : Int × Pen := drawB (drawA p) many
structure PenOk (m : Nat) (p : Pen) : Prop where
  at_ : p.at_ ≤ p.cells.length
  len : p.cells.length ≤ 1000
  dg : 0 ≤ p.digits
  c0 : 0 ≤ p.count
  c1 : p.count + m ≤ 1099511627776
  f0 : 0 ≤ p.fold
  f1 : p.fold < 2147483489
theorem PenOk.mono {m n : Nat} {p : Pen} (h : PenOk n p) (hm : m ≤ n) : PenOk m p := { h with c1 := by have := h.c1; omega }
theorem drawA_ok {m : Nat} {p : Pen} (ok : PenOk (m + 1) p) : PenOk m (drawA p) := by
  have c1 := ok.c1
  have c0 := ok.c0
  rw [Int.natCast_add] at c1
  unfold drawA
  split
  · rename_i h
    split
    · rename_i h2
      exact { at_ := h.2, len := ok.len, dg := by show 0 ≤ p.cells.getD p.at_ 0 - 1000000000000000000; omega, c0 := by show 0 ≤ p.count + 1; omega, c1 := by show p.count + 1 + (m : Int) ≤ _; omega, f0 := ok.f0, f1 := ok.f1 }
    · exact { at_ := h.2, len := ok.len, dg := ok.dg, c0 := by show 0 ≤ p.count + 1; omega, c1 := by show p.count + 1 + (m : Int) ≤ _; omega, f0 := Int.emod_nonneg _ (by decide), f1 := Int.emod_lt_of_pos _ (by decide) }
  · exact { ok with c0 := by show 0 ≤ p.count + 1; omega, c1 := by show p.count + 1 + (m : Int) ≤ _; omega }
theorem drawB_ok {m : Nat} {p : Pen} {many : Int} (ok : PenOk m p) (h : 0 < many) : PenOk m (drawB p many).2 ∧ 0 ≤ (drawB p many).1 ∧ (drawB p many).1 < many := by
  unfold drawB
  split
  · exact ⟨{ ok with dg := Int.ediv_nonneg ok.dg (by omega) }, Int.emod_nonneg _ (by omega), Int.emod_lt_of_pos _ h⟩
  · exact ⟨ok, Int.emod_nonneg _ (by omega), Int.emod_lt_of_pos _ h⟩
theorem drawP_ok {m : Nat} {p : Pen} {many : Int} (ok : PenOk (m + 1) p) (h : 0 < many) : PenOk m (drawP p many).2 ∧ 0 ≤ (drawP p many).1 ∧ (drawP p many).1 < many := drawB_ok (drawA_ok ok) h
theorem drawA_cells {p : Pen} : (drawA p).cells = p.cells := by
  unfold drawA
  split
  · split <;> rfl
  · rfl
theorem drawB_cells {p : Pen} {many : Int} : (drawB p many).2.cells = p.cells := by unfold drawB; split <;> rfl
def penB (p : Pen) : Bool := decide (p.at_ ≤ p.cells.length) && decide (p.cells.length ≤ 1000) && decide (0 ≤ p.digits) && decide (0 ≤ p.count) && decide (p.count + 1 ≤ 1099511627776) && decide (0 ≤ p.fold) && decide (p.fold < 2147483489)
theorem penB_ok {p : Pen} (h : penB p = true) : PenOk 1 p := by
  simp only [penB, Bool.and_eq_true, decide_eq_true_eq] at h
  obtain ⟨⟨⟨⟨⟨⟨h1, h2⟩, h3⟩, h4⟩, h5⟩, h6⟩, h7⟩ := h
  exact ⟨h1, h2, h3, h4, h5, h6, h7⟩
theorem penB_of {m : Nat} {p : Pen} (ok : PenOk (m + 1) p) : penB p = true := by
  have c1 := ok.c1
  rw [Int.natCast_add] at c1
  simp only [penB, Bool.and_eq_true, decide_eq_true_eq]
  exact ⟨⟨⟨⟨⟨⟨ok.at_, ok.len⟩, ok.dg⟩, ok.c0⟩, by omega⟩, ok.f0⟩, ok.f1⟩
def gDraw (ds : List D) (p : Pen) : Sx.RN := match ds with
  | [.int many] => if penB p = true ∧ 0 < many ∧ many < 1073741824 then Sx.RN.ok (.int (drawP p many).1) (drawP p many).2 else Sx.RN.no
  | _ => Sx.RN.no
theorem gDraw_inv (ds : List D) (p : Pen) : gDraw ds p = .no ∨ ∃ many, ds = [.int many] ∧ penB p = true ∧ 0 < many ∧ many < 1073741824 ∧ gDraw ds p = .ok (.int (drawP p many).1) (drawP p many).2 := by
  match ds with
  | [.int many] =>
    by_cases h : penB p = true ∧ 0 < many ∧ many < 1073741824
    · exact .inr ⟨many, rfl, h.1, h.2.1, h.2.2, if_pos h⟩
    · exact .inl (if_neg h)
  | [] => exact .inl rfl
  | [.none] => exact .inl rfl
  | [.bool _] => exact .inl rfl
  | [.str _] => exact .inl rfl
  | [.list _] => exact .inl rfl
  | [.tuple _] => exact .inl rfl
  | [.dict _] => exact .inl rfl
  | .int _ :: _ :: _ => exact .inl rfl
  | .none :: _ :: _ => exact .inl rfl
  | .bool _ :: _ :: _ => exact .inl rfl
  | .str _ :: _ :: _ => exact .inl rfl
  | .list _ :: _ :: _ => exact .inl rfl
  | .tuple _ :: _ :: _ => exact .inl rfl
  | .dict _ :: _ :: _ => exact .inl rfl
/-! the object -/
def PenH (K : PySem.W.Frag) (H : Hp) (a c : Addr) (p : Pen) : Prop := H a = some (.dK (penKV c p)) ∧ SqL K H c (p.cells.map V.int)
theorem sqL_ne {K : PySem.W.Frag} {H : Hp} {a c : Addr} {p : Pen} {o : HO} (h : PenH K H a c p) : SqL K (upd H a o) c (p.cells.map V.int) := by
  have n : ∀ {q : HO}, H c = some q → (∀ kvs, q ≠ .dK kvs) → c ≠ a := fun {q} e z w => by
    rw [w, h.1] at e
    exact z _ (Option.some.inj e).symm
  rcases h.2 with (e | ⟨ob, e⟩) | e
  · exact .inl (.inl (by rw [upd_ne (n e fun _ z => nomatch z)]; exact e))
  · exact .inl (.inr ⟨ob, by rw [upd_ne (n e fun _ z => nomatch z)]; exact e⟩)
  · exact .inr e
theorem penH_put {K : PySem.W.Frag} {H : Hp} {a c : Addr} {p : Pen} (h : PenH K H a c p) (q : Pen) (hq : q.cells = p.cells) : PenH K (upd H a (.dK (penKV c q))) a c q := ⟨upd_same, by rw [hq]; exact sqL_ne h⟩
section
variable {K : PySem.W.Frag} {H H1 H2 : Hp} {a c : Addr} {p : Pen}
theorem d1 (h : PenH K H a c p) : DGet H a (.str ("cells" : Str)) (some (.ref c)) := by have := DGet.k (k := kCells) h.1; rw [g1] at this; exact this
theorem d2 (h : PenH K H a c p) : DGet H a (.str ("at" : Str)) (some (.int p.at_)) := by have := DGet.k (k := kAt) h.1; rw [g2] at this; exact this
theorem d3 (h : PenH K H a c p) : DGet H a (.str ("digits" : Str)) (some (.int p.digits)) := by have := DGet.k (k := kDigits) h.1; rw [g3] at this; exact this
theorem d4 (h : PenH K H a c p) : DGet H a (.str ("count" : Str)) (some (.int p.count)) := by have := DGet.k (k := kCount) h.1; rw [g4] at this; exact this
theorem d5 (h : PenH K H a c p) : DGet H a (.str ("fold" : Str)) (some (.int p.fold)) := by have := DGet.k (k := kFold) h.1; rw [g5] at this; exact this
theorem five : (5 : Nat) < sizeLine := by decide
theorem w2 (h : PenH K H a c p) (n : Nat) : DPut H a (.str ("at" : Str)) (.int n) (upd H a (.dK (penKV c { p with at_ := n }))) := by
  have := DPut.k (k := kAt) (v := .int n) h.1 five; rw [p2] at this; exact this
theorem w3 (h : PenH K H a c p) (n : Int) : DPut H a (.str ("digits" : Str)) (.int n) (upd H a (.dK (penKV c { p with digits := n }))) := by
  have := DPut.k (k := kDigits) (v := .int n) h.1 five; rw [p3] at this; exact this
theorem w4 (h : PenH K H a c p) (n : Int) : DPut H a (.str ("count" : Str)) (.int n) (upd H a (.dK (penKV c { p with count := n }))) := by
  have := DPut.k (k := kCount) (v := .int n) h.1 five; rw [p4] at this; exact this
theorem w5 (h : PenH K H a c p) (n : Int) : DPut H a (.str ("fold" : Str)) (.int n) (upd H a (.dK (penKV c { p with fold := n }))) := by
  have := DPut.k (k := kFold) (v := .int n) h.1 five; rw [p5] at this; exact this
/-- all but the object at a stays -/
def Keep (a : Addr) (H H' : Hp) : Prop := ∀ b o, b ≠ a → H b = some o → H' b = some o
theorem Keep.refl : Keep a H H := fun _ _ _ h => h
theorem Keep.trans (x : Keep a H H1) (y : Keep a H1 H2) : Keep a H H2 := fun b o n h => y b o n (x b o n h)
theorem Keep.put {o : HO} (x : Keep a H H1) : Keep a H (upd H1 a o) := fun b u n h => by rw [upd_ne n]; exact x b u n h
end
end Sx

namespace Sx
open PySem PySem.Spec L2
open PyProof.Rows hiding St

/-! ### what a law's text has left, def by def -/
structure DefF (K : PySem.W.Frag) (mg : Str → Option Value) (x : Str) (st : Stmt) (ps : List Str) where
  f : Addr
  fd : FuncData
  F : Fun K x x st f fd
  b : Binds K fd ps []
  g : mg x = some (.ref f)
structure ExcF (K : PySem.W.Frag) (mg : Str → Option Value) (x qual : Str) (st : Stmt) (fields : List Str) where
  C : Addr
  f : Addr
  fd : FuncData
  T : OexC K C
  iC : PySem.W.findIn K (.ref C) "__init__" = some (some (.ref f))
  tI : PySem.W.typeIn K (.ref f) = some (.type "function")
  F : Fun K "__init__" qual st f fd
  b : Binds K fd ("self" :: fields) []
  nf : ∀ y ∈ fields, PySem.W.findIn K (.ref C) y = some none
  g : mg x = some (.ref C)
structure BasF (K : PySem.W.Frag) (mg : Str → Option Value) (x : Str) where
  B : Addr
  T : BaseX K B
  g : mg x = some (.ref B)
abbrev sv {X : Cx} {W : WX} (i : Nat) {x : Str} {pos : Pos} (hN : X.N[i]? = some x := by rfl) (hv : Vis X.env.scope x := by first | exact Or.inl rfl | exact Or.inr (Or.inl rfl) | exact Or.inr (Or.inr rfl)) (hd : (x == ("__debug__" : Str)) = false := by decide) (hcd : (x == ("__classdict__" : Str)) = false := by decide) := se_v (X := X) (W := W) (pos := pos) i hN hv hd hcd
abbrev pv {X : Cx} {pos : Pos} (i : Nat) {x : Str} (hN : X.N[i]? = some x := by rfl) (hv : Vis X.env.scope x := by first | exact Or.inl rfl | exact Or.inr (Or.inl rfl) | exact Or.inr (Or.inr rfl)) (hd : (x == ("__debug__" : Str)) = false := by decide) (hcd : (x == ("__classdict__" : Str)) = false := by decide) := pe_var (X := X) (i := i) (pos := pos) hN hv hd hcd
def inClass (st : Stmt) (i : Nat) : Stmt := match st with
  | .ClassDef _ _ _ body .. => body.getD i (.Pass ⟨0, 0, 0, 0⟩)
  | _ => .Pass ⟨0, 0, 0, 0⟩
/-- nothing is promised -/
theorem fn_no {P : Program} {w : World} {K : PySem.W.Frag} {mg : Str → Option Value} {base : Heap} {CX : CXT} {k : Nat} {f : Addr} {fd : FuncData} {ps : List Str} : FnG P w K mg base CX k f fd ps (spD P w K mg fun _ => .no) :=
  ⟨fun _ _ _ _ h => let ⟨_, _, _, _, _, q⟩ := h; q.elim, fun _ _ _ _ _ _ _ _ _ _ _ _ _ h => let ⟨_, _, _, _, _, q⟩ := h; q.elim⟩
theorem roomU {k : Nat} {A : Around} (h : RoomG k A) : A.units + 100 < cLine := by have := h.r.un; omega
theorem hu64 {n m : Nat} (h : n + 100 < m) : n + 64 < m := by omega
end Sx

namespace Sx
open PySem PySem.Spec L2
open PyProof.Rows hiding St

/-! ### objects that are known to the letter: tracked, and let go -/
def exO (a : Addr) (o : Obj) : HO := .ext fun h => h.get? a = some o
theorem exO_ok {P : Program} {w : World} {H : Hp} {h : Heap} {a : Addr} {o : Obj} (e : h.get? a = some o) : ObjOk P w H h a (exO a o) := ⟨e, ⟨o, e⟩, fun _ _ p st => st _ p⟩
theorem exO_get {P : Program} {w : World} {H : Hp} {h : Heap} {a : Addr} {o : Obj} (x : HOk P w H h) (e : H a = some (exO a o)) : h.get? a = some o := (x a _ e).1
abbrev Ob := List (Addr × Obj)
def trk (H : Hp) (cs : Ob) : Hp := fun b => match cs.lookup b with | some o => some (exO b o) | none => H b
def drp (H : Hp) (cs : Ob) : Hp := fun b => match cs.lookup b with | some _ => none | none => H b
def Tr (cs : Ob) (H : Hp) : Prop := ∀ b o, cs.lookup b = some o → H b = some (exO b o)
def Fr0 (cs : Ob) (H : Hp) : Prop := ∀ b o, cs.lookup b = some o → H b = none
theorem trk_in {H : Hp} {cs : Ob} {b : Addr} {o : Obj} (e : cs.lookup b = some o) : trk H cs b = some (exO b o) := by unfold trk; rw [e]
theorem trk_out {H : Hp} {cs : Ob} {b : Addr} (e : cs.lookup b = none) : trk H cs b = H b := by unfold trk; rw [e]
theorem drp_in {H : Hp} {cs : Ob} {b : Addr} {o : Obj} (e : cs.lookup b = some o) : drp H cs b = none := by unfold drp; rw [e]
theorem drp_out {H : Hp} {cs : Ob} {b : Addr} (e : cs.lookup b = none) : drp H cs b = H b := by unfold drp; rw [e]
theorem trk_tr {H : Hp} {cs : Ob} : Tr cs (trk H cs) := fun _ _ e => trk_in e
theorem drp_fr {H : Hp} {cs : Ob} : Fr0 cs (drp H cs) := fun _ _ e => drp_in e
theorem trk_drp {H : Hp} {cs : Ob} (t : Tr cs H) : trk (drp H cs) cs = H := by
  funext b
  cases e : cs.lookup b with
  | none => rw [trk_out e, drp_out e]
  | some o => rw [trk_in e, t b o e]
theorem trk_none {H : Hp} {cs : Ob} {b : Addr} (e : trk H cs b = none) : cs.lookup b = none ∧ H b = none := by
  cases q : cs.lookup b with
  | none => rw [trk_out q] at e; exact ⟨rfl, e⟩
  | some o => rw [trk_in q] at e; cases e
theorem exO_ne_own {a b : Addr} {o : Obj} : exO a o ≠ .own b := fun z => by cases z
section
variable {P : Program} {w : World} {H H' : Hp} {h h' : Heap} {cs : Ob} {fs : List Addr}
theorem hok_trk (x : HOk P w H h) (k : ∀ b o, cs.lookup b = some o → h.get? b = some o) (n : Fr0 cs H) : HOk P w (trk H cs) h := fun b u e => by
  have st : ∀ c o, H c = some o → trk H cs c = some o := fun c o q => by
    cases z : cs.lookup c with
    | none => rw [trk_out z]; exact q
    | some o' => rw [n c o' z] at q; cases q
  cases z : cs.lookup b with
  | none =>
    rw [trk_out z] at e
    exact (x b u e).stay (fun _ _ _ q => q) (fun c q => st _ _ q) fun c xs q => st _ _ q
  | some o =>
    rw [trk_in z] at e
    cases e
    exact exO_ok (k b o z)
theorem hok_drp (x : HOk P w H h) (t : Tr cs H) : HOk P w (drp H cs) h := fun b u e => by
  have st : ∀ c o, H c = some o → (∀ a o', o ≠ exO a o') → drp H cs c = some o := fun c o q n => by
    cases z : cs.lookup c with
    | none => rw [drp_out z]; exact q
    | some o' => rw [t c o' z] at q; exact absurd (Option.some.inj q).symm (n _ _)
  cases z : cs.lookup b with
  | none =>
    rw [drp_out z] at e
    exact (x b u e).stay (fun _ _ _ q => q) (fun c q => st _ _ q fun _ _ z => by cases z) fun c xs q => st _ _ q fun _ _ z => by cases z
  | some o => rw [drp_in z] at e; cases e
/-- what a callee did, told of the tracked heap -/
theorem un_trk (t : Tr cs H) (x : HOk P w H h) (nf : ∀ b ∈ fs, H b = none) (u : Un fs [] (drp H cs) H' h h') : Un fs [] H (trk H' cs) h h' ∧ (∀ b o, cs.lookup b = some o → h'.get? b = some o) ∧ Fr0 cs H' := by
  have nn : ∀ b, H b = none → drp H cs b = none ∧ cs.lookup b = none := fun b e => by
    cases z : cs.lookup b with
    | none => exact ⟨by rw [drp_out z]; exact e, rfl⟩
    | some o => rw [t b o z] at e; cases e
  have f0 : Fr0 cs H' := fun b o e => u.free b o (exO_get x (t b o e)) (drp_in e) (by simp)
  have dd : ∀ b o, H b = some o → (∀ a o', o ≠ exO a o') → cs.lookup b = none := fun b o e n => by
    cases z : cs.lookup b with
    | none => rfl
    | some o' => rw [t b o' z] at e; exact absurd (Option.some.inj e).symm (n _ _)
  refine ⟨⟨fun b o e n hb hx => u.keep b o e (nn b n).1 hb hx, fun b o e n hb hx => u.slot b o e (nn b n).1 hb hx, fun b o e n hx => by rw [trk_out (nn b n).2]; exact u.free b o e (nn b n).1 hx, u.there, fun b xs e => ?_, fun b o xs e => ?_, fun b ps e => ?_⟩, fun b o e => ?_, f0⟩
  · have z := dd b _ e fun _ _ z => by cases z
    rw [trk_out z]; exact u.tups b xs (by rw [drp_out z]; exact e)
  · have z := dd b _ e fun _ _ z => by cases z
    rw [trk_out z]; exact u.frzs b o xs (by rw [drp_out z]; exact e)
  · have z := dd b _ e fun _ _ z => by cases z
    rw [trk_out z]; exact u.tbls b ps (by rw [drp_out z]; exact e)
  · exact u.keep b o (exO_get x (t b o e)) (drp_in e) (fun hb => by have := nf b hb; rw [t b o e] at this; cases this) (by simp)
theorem ce_trk {outer : List Env} {s s' : Shared} {Q : VK} {v : Value} (t : Tr cs H) (x : HOk P w H s.heap) (nf : ∀ b ∈ frs outer, H b = none) (c : CE outer P w (drp H cs) s (fun v H' => Q v (trk H' cs)) v s') : CE outer P w H s Q v s' := by
  obtain ⟨u, H', os, bare, un, hok, r, q⟩ := c
  obtain ⟨u1, u2, u3⟩ := un_trk t x nf un
  exact ⟨u, trk H' cs, os, bare, u1, hok_trk hok u2 u3, r, q⟩
theorem cx_trk {outer : List Env} {s s' : Shared} {E : XK} {v : Value} (t : Tr cs H) (x : HOk P w H s.heap) (nf : ∀ b ∈ frs outer, H b = none) (c : L2.CX P w outer (drp H cs) s (fun cls d H' => Fr0 cs H' → E cls d (trk H' cs)) v s') : L2.CX P w outer H s E v s' := by
  obtain ⟨a, B, H', cls, d, rfl, fl, hok, u, na, os, ag, hE⟩ := c
  have nn : ∀ b, H b = none → drp H cs b = none ∧ cs.lookup b = none := fun b e => by
    cases z : cs.lookup b with
    | none => exact ⟨by rw [drp_out z]; exact e, rfl⟩
    | some o => rw [t b o z] at e; cases e
  have inB : ∀ b o, cs.lookup b = some o → B.get? b = some o := fun b o e => u.keep b o (exO_get x (t b o e)) (drp_in e) fun hb => by have := nf b hb; rw [t b o e] at this; cases this
  have f0 : Fr0 cs H' := fun b o e => u.free b o (exO_get x (t b o e)) (drp_in e)
  have dd : ∀ b o, H b = some o → (∀ a o', o ≠ exO a o') → cs.lookup b = none := fun b o e n => by
    cases z : cs.lookup b with
    | none => rfl
    | some o' => rw [t b o' z] at e; exact absurd (Option.some.inj e).symm (n _ _)
  refine ⟨a, B, trk H' cs, cls, d, rfl, fl, hok_trk hok inB f0, ⟨fun b o e n hb => u.keep b o e (nn b n).1 hb, u.slot, fun b o e n => by rw [trk_out (nn b n).2]; exact u.free b o e (nn b n).1, u.there, fun b xs e => ?_, fun b o xs e => ?_, fun b ps e => ?_⟩, ?_, os, ag, hE f0⟩
  · have z := dd b _ e fun _ _ z => by cases z
    rw [trk_out z]; exact u.tups b xs (by rw [drp_out z]; exact e)
  · have z := dd b _ e fun _ _ z => by cases z
    rw [trk_out z]; exact u.frzs b o xs (by rw [drp_out z]; exact e)
  · have z := dd b _ e fun _ _ z => by cases z
    rw [trk_out z]; exact u.tbls b ps (by rw [drp_out z]; exact e)
  · cases z : cs.lookup a with
    | none => rw [trk_out z]; exact na
    | some o =>
      have h1 := inB a o z
      have h2 := fl.2.1
      rw [h1] at h2; cases h2
end
/-- the caller's side: what was tracked for one call is let go behind it -/
theorem ce_drp {P : Program} {w : World} {outer : List Env} {H : Hp} {cs : Ob} {s s' : Shared} {Q : VK} {v : Value} (n : Fr0 cs H) (k : ∀ b o, cs.lookup b = some o → s.heap.get? b = some o) (nf : ∀ b ∈ frs outer, cs.lookup b = none)
    (c : CE outer P w (trk H cs) s (fun v H' => Tr cs H' ∧ Q v (drp H' cs)) v s') : CE outer P w H s Q v s' := by
  obtain ⟨u, H', os, bare, un, hok, r, t, q⟩ := c
  have st : ∀ b o, H b = some o → trk H cs b = some o := fun b o e => by
    cases z : cs.lookup b with
    | none => rw [trk_out z]; exact e
    | some o' => rw [n b o' z] at e; cases e
  have dn : ∀ b o, H' b = some o → (∀ a o', o ≠ exO a o') → drp H' cs b = some o := fun b o e n => by
    cases z : cs.lookup b with
    | none => rw [drp_out z]; exact e
    | some o' => rw [t b o' z] at e; exact absurd (Option.some.inj e).symm (n _ _)
  refine ⟨u, drp H' cs, os, bare, ⟨fun b o e nb hb hx => ?_, fun b o e nb hb hx => un.slot b o e (by rw [trk_out (nf b hb)]; exact nb) hb hx, fun b o e nb hx => ?_, un.there, fun b xs e => dn _ _ (un.tups b xs (st _ _ e)) (fun _ _ z => by cases z), fun b o xs e => dn _ _ (un.frzs b o xs (st _ _ e)) (fun _ _ z => by cases z), fun b ps e => ?_⟩, hok_drp hok t, r, q⟩
  · cases z : cs.lookup b with
    | none => exact un.keep b o e (by rw [trk_out z]; exact nb) hb hx
    | some o' =>
      have h1 := k b o' z
      rw [e] at h1; cases h1
      exact exO_get hok (t b o z)
  · cases z : cs.lookup b with
    | none => rw [drp_out z]; exact un.free b o e (by rw [trk_out z]; exact nb) hx
    | some o' => exact drp_in z
  · obtain ⟨more, q⟩ := un.tbls b ps (st _ _ e)
    exact ⟨more, dn _ _ q fun _ _ z => by cases z⟩
end Sx

namespace Sx
open PySem PySem.Spec L2
open PyProof.Rows hiding St

/-! ### a lambda is made (turned from the kit's lam_make2: the new function is tracked at once) -/
abbrev lamQ (X : Cx) : Str := X.env.qual ++ "<lambda>"
abbrev lamO (X : Cx) (params : Arguments) (body : Expr) (scope : Scope) (pm : Value) (c' : Addr) (ctv : Value) : Obj := PySem.W.kla_obj "<lambda>" (X.env.qual ++ "<lambda>") params body scope (cloFrom X.env.cells scope.names []) pm c' ctv
section
variable {X : Cx} {pins : List (Addr × Obj)} {σ : St} {H : Hp} {s : Shared}
theorem lam_mk {c P : Addr} {params : Arguments} {body : Expr} {scope : Scope} {pos : Pos} {E : Value → Shared → Prop} {Q : Value → Shared → Prop} (I : Inv X pins σ H s) (TB : LamX.TabB X.base X.mg c P) (hcode : X.env.code = .ref c)
    (hT : LamX.TabS H P (lamQ X)) (hdef : defaultsOf params X.env = ([], [])) (hfree : ∀ y ∈ scope.names, y.2 = .free → ∃ c, X.env.cells.lookup y.1 = some c)
    (h : ∀ (f c' : Addr) (pm ctv : Value) (H1 : Hp) (s' : Shared), Inv X pins σ H1 s' → (∀ b o, b ≠ P → H b = some o → H1 b = some o) → LamX.TabS H1 P (lamQ X) → H f = none → H1 f = some (exO f (lamO X params body scope pm c' ctv)) → H1 c' = some (LamX.CodeO c' (lamQ X)) → Q (.ref f) s') :
    wpAny (model X.prog X.w) X.A (eval (.Lambda params body scope pos) X.env) Q E s := by
  obtain ⟨ps, hP, ht, ha⟩ := hT
  refine PySem.W.kla_eval hdef ?_
  have bP : s.heap.BuiltinsAt X.mg P := TB.bm.keeps I.bk
  have hP' : s.heap.get? P = some { cls := .none, data := .fields ps } := I.hok P _ hP
  cases hc : codeAmong pos ps.toList with
  | none =>
    refine PySem.W.kla_makeFunction (mg := X.mg) (c := c) (P := P) (ps := ps) (closure_ok hfree) I.ok.glob (I.mod.glob.keeps I.bk) hcode (TB.code.keeps I.bk) hP' ht hc TB.gP bP fun c' ctv h' tk hx hge hlt hrec htb => ?_
    obtain ⟨c2, oc, vs, t, e2, hoc, hd, hv⟩ := hrec
    cases e2
    have hsz : s.heap.objs.size ≤ h'.objs.size := Nat.le_trans hge (Nat.le_of_lt hlt)
    have nC : H c' = none := I.hok.fresh hge
    have I1 := LamX.inv_table (t' := tk) (more := #[rawInt pos.line, rawInt pos.col, .ref c']) (h' := h') I hP hx htb hge ⟨oc, vs, t, hoc, hd, hv⟩
    have nf : (upd (upd H P (.tbl (ps ++ #[rawInt pos.line, rawInt pos.col, .ref c']))) c' (LamX.CodeO c' (lamQ X))) h'.objs.size = none := I1.hok.fresh (Nat.le_refl _)
    have I2 := I1.laid (a := h'.objs.size) (o := exO h'.objs.size (lamO X params body scope ((X.mg "__name__").getD .none) c' ctv)) (t' := tk) (h' := h'.push (lamO X params body scope ((X.mg "__name__").getD .none) c' ctv)) (fun b o e => Heap.get?_push_of_some _ e) (Nat.le_refl _) (exO_ok (Heap.get?_push_size _ rfl))
    have keepE : ∀ b o, (upd (upd H P (.tbl (ps ++ #[rawInt pos.line, rawInt pos.col, .ref c']))) c' (LamX.CodeO c' (lamQ X))) b = some o → upd (upd (upd H P (.tbl (ps ++ #[rawInt pos.line, rawInt pos.col, .ref c']))) c' (LamX.CodeO c' (lamQ X))) h'.objs.size (exO h'.objs.size (lamO X params body scope ((X.mg "__name__").getD .none) c' ctv)) b = some o :=
      fun b o e => by rw [upd_ne (ne_of_none e nf)]; exact e
    have eL : (ps ++ #[rawInt pos.line, rawInt pos.col, .ref c']).toList = ps.toList ++ [rawInt pos.line, rawInt pos.col, .ref c'] := by simp
    refine h h'.objs.size c' ((X.mg "__name__").getD .none) ctv _ _ I2 (fun b o hb e => keepE _ _ ?_) ⟨_, keepE _ _ (by rw [upd_ne (ne_of_none hP nC), upd_same]), by rw [eL]; exact PySem.TriplesOk_snoc _ _ _ _ ht, fun p' cv hcv => ?_⟩ (I.hok.fresh hsz) upd_same (keepE _ _ upd_same)
    · rw [upd_ne (ne_of_none e nC), upd_ne hb]; exact e
    · rw [eL] at hcv
      rcases LamX.among_app _ ht hcv with z | z
      · obtain ⟨c0, e1, e2⟩ := ha p' cv z
        refine ⟨c0, e1, keepE _ _ ?_⟩
        rw [upd_ne (ne_of_none e2 nC), upd_ne (fun z => LamX.codeO_ne ps (Option.some.inj (e2.symm.trans (by rw [z]; exact hP))))]
        exact e2
      · exact ⟨c', z, keepE _ _ upd_same⟩
  | some cv =>
    obtain ⟨c', e, hco⟩ := ha pos cv hc
    subst e
    refine PySem.W.kla_makeFunctionHit (mg := X.mg) (c := c) (P := P) (ps := ps) (closure_ok hfree) I.ok.glob (I.mod.glob.keeps I.bk) hcode (TB.code.keeps I.bk) hP' ht hc bP fun ctv h' tk hx hsz => ?_
    have I1 : Inv X pins σ H { s with heap := h', toks := tk } := I.kept hx
    have nf : H h'.objs.size = none := I1.hok.fresh (Nat.le_refl _)
    have I2 := I1.laid (a := h'.objs.size) (o := exO h'.objs.size (lamO X params body scope ((X.mg "__name__").getD .none) c' ctv)) (t' := tk) (h' := h'.push (lamO X params body scope ((X.mg "__name__").getD .none) c' ctv)) (fun b o e => Heap.get?_push_of_some _ e) (Nat.le_refl _) (exO_ok (Heap.get?_push_size _ rfl))
    have keepE : ∀ b o, H b = some o → upd H h'.objs.size (exO h'.objs.size (lamO X params body scope ((X.mg "__name__").getD .none) c' ctv)) b = some o := fun b o e => by rw [upd_ne (ne_of_none e nf)]; exact e
    exact h h'.objs.size c' ((X.mg "__name__").getD .none) ctv _ _ I2 (fun b o _ e => keepE _ _ e) ⟨ps, keepE _ _ hP, ht, fun p' cv' z => by obtain ⟨c0, e1, e2⟩ := ha p' cv' z; exact ⟨c0, e1, keepE _ _ e2⟩⟩ nf upd_same (keepE _ _ hco)
end
/-- the expression -/
def tLam2 (X : Cx) (P : Addr) (params : Arguments) (body : Expr) (scope : Scope) : TE := fun _ H Q => LamX.TabS H P (lamQ X) ∧ ∀ (f c' : Addr) (pm ctv : Value) (H1 : Hp), (∀ b o, b ≠ P → H b = some o → H1 b = some o) → LamX.TabS H1 P (lamQ X) → H f = none →
  H1 f = some (exO f (lamO X params body scope pm c' ctv)) → H1 c' = some (LamX.CodeO c' (lamQ X)) → Q (.ref f) H1
theorem pe_lam2 {X : Cx} {c P : Addr} {params : Arguments} {body : Expr} {scope : Scope} {pos : Pos} (TB : LamX.TabB X.base X.mg c P) (hcode : X.env.code = .ref c) (L : LamX.LamS X.env.scope scope) (hdef : defaultsOf params X.env = ([], [])) :
    PE X (.Lambda params body scope pos) (tLam2 X P params body scope) :=
  ⟨fun pins s σ H Q I h => lam_mk I TB hcode h.1 hdef (L.has I.ok) fun f c' pm ctv H1 s' I1 a1 a2 a3 a4 a5 => ⟨.ref f, H1, I1, rfl, h.2 f c' pm ctv H1 a1 a2 a3 a4 a5⟩⟩
end Sx

namespace Sx
open PySem PySem.Spec L2
open PyProof.Rows hiding St

theorem env0_drp {P : Program} {w : World} {K : PySem.W.Frag} {mg : Str → Option Value} {base : Heap} {A : Around} {outer : List Env} {s : Shared} {H : Hp} {cs : Ob} (e : Env0 P w K mg base A outer s H) (t : Tr cs H) : Env0 P w K mg base A outer s (drp H cs) := by
  have nn : ∀ b, H b = none → drp H cs b = none := fun b n => by
    cases z : cs.lookup b with
    | none => rw [drp_out z]; exact n
    | some o => exact drp_in z
  exact ⟨e.frames, e.mod, fun b o q => ⟨(e.bs b o q).1, nn b (e.bs b o q).2⟩, e.bsz, e.funs, fun b hb => nn b (e.frf b hb), hok_drp e.hok t, e.bare⟩
theorem env0_trk {P : Program} {w : World} {K : PySem.W.Frag} {mg : Str → Option Value} {base : Heap} {A : Around} {outer : List Env} {s : Shared} {H : Hp} {cs : Ob} (e : Env0 P w K mg base A outer s H) (n : Fr0 cs H) (k : ∀ b o, cs.lookup b = some o → s.heap.get? b = some o)
    (nb : ∀ b o, base.get? b = some o → cs.lookup b = none) (nf : ∀ b ∈ frs outer, cs.lookup b = none) : Env0 P w K mg base A outer s (trk H cs) :=
  ⟨e.frames, e.mod, fun b o q => ⟨(e.bs b o q).1, by rw [trk_out (nb b o q)]; exact (e.bs b o q).2⟩, e.bsz, e.funs, fun b hb => by rw [trk_out (nf b hb)]; exact e.frf b hb, hok_trk e.hok k n, e.bare⟩
/-! ### a closure entered, far from where it was made -/
theorem lam_start3 {X : Cx} {pins : List (Addr × Obj)} {σ : St} {H HZ : Hp} {s s1 : Shared} {A : Around} {outer : List Env} {E : XK} {scope : Scope} {f c' : Addr} {h₁ : Heap} {tk : Nat} (I : Inv X pins σ H s) (L : LamX.LamS X.env.scope scope) (e0 : Env0 X.prog X.w X.K X.mg X.base A outer s1 HZ) (hd : A.handled = none)
    (fz : ∀ x c, X.env.cells.lookup x = some c → HZ c = none) (cl : ∀ x c o, X.env.cells.lookup x = some c → s.heap.get? c = some o → s1.heap.get? c = some o) (hns : h₁.Ns s1.heap.objs.size fun y => ([] : List (Str × Value)).reverse.lookup y) (kp : ∀ b o, s1.heap.get? b = some o → h₁.get? b = some o) :
    Inv (LamX.lamCx X A outer s1 HZ E scope f c') [] σ HZ { s1 with heap := h₁, toks := tk } := by
  have hfree := L.has I.ok
  have cm : ∀ {y c}, (cloFrom X.env.cells scope.names []).lookup y = some c → X.env.cells.lookup y = some c := fun {y c} e => by
    rcases cloFrom_mem (PySem.mem_of_lookup e) with hm | ⟨h1, h2⟩
    · cases hm
    · obtain ⟨c1, hc⟩ := hfree _ h1 rfl
      have hc : X.env.cells.lookup y = some c1 := hc
      have e2 : c = c1 := by
        rw [h2, hc] <;> rfl
      rw [e2]
      exact hc
  have look : ∀ {y}, scope.names.lookup y = some .free → ∃ c, (cloFrom X.env.cells scope.names []).lookup y = some c := fun {y} hl => by
    have hy : (y, NameKind.free) ∈ scope.names := PySem.mem_of_lookup hl
    exact mem_lookup (cloFrom_has (cells := X.env.cells) (acc := []) hy)
  have cellK : ∀ {x : Str} {c : Addr} {v : Option Value}, X.env.cells.lookup x = some c → s.heap.IsCell c v → h₁.IsCell c v := fun {x c v} n ⟨o, ho, hd⟩ => ⟨o, kp _ _ (cl x c o n ho), hd⟩
  have noA : ∀ b : Addr, b ∉ (LamX.lamCx X A outer s1 HZ E scope f c').ex := fun b z => absurd (show b ∈ ([] : List Addr) from z) (by simp)
  refine ⟨⟨e0.mod, L.kind, rfl, rfl, Nat.le_refl _, fun y z c e1 e2 => I.ok.inj y z c (cm e1) (cm e2), fun y hy => ?_, fun y c z _ => ?_, fun _ => hd, Around.frames_deeper e0.frames, .inr ⟨rfl, rfl⟩, fun b z => absurd z (noA b), e0.bs, e0.bsz, fun b _ _ => noA b,
      fun b z => absurd z (noA b), e0.funs, e0.frf⟩,
    rfl, e0.bare, Un.kept kp, ⟨_, hns, fun i y v e1 e2 e3 => ?_⟩, fun y c e => ?_, e0.hok.fresh (Nat.le_refl _), fun y c e => fz y c (cm e), fun q hq => absurd (show q ∈ ([] : List (Addr × Obj)) ++ [] from hq) (by simp), e0.hok.kept kp, I.len⟩
  · have hy : scope.names.lookup y = some .cell ∨ scope.names.lookup y = some .free := hy
    rcases hy with hy | hy
    · exact absurd rfl (L.own _ (PySem.mem_of_lookup hy)).2
    · exact look hy
  · have z : false = true := z
    cases z
  · have e3 : Vis scope y := e3
    rcases e3 with k | k | k
    · exact absurd rfl (L.own _ (PySem.mem_of_lookup k)).1
    · exact absurd rfl (L.own _ (PySem.mem_of_lookup k)).2
    · obtain ⟨m, hn, hl⟩ := I.loc
      have hvis : Vis X.env.scope y := (L.free _ (PySem.mem_of_lookup k) rfl).elim (fun k => .inr (.inl k)) (fun k => .inr (.inr k))
      obtain ⟨w', r, q⟩ := hl i y v e1 e2 hvis
      obtain ⟨c2, h2⟩ := look k
      refine ⟨w', r, .inr ⟨.inr k, c2, h2, ?_⟩⟩
      have c1 := cm h2
      rcases q with ⟨k', _⟩ | ⟨_, c3, e', z⟩
      · have k' : X.env.scope.names.lookup y = some .local := k'
        rcases L.free _ (PySem.mem_of_lookup k) rfl with k2 | k2 <;> rw [show X.env.scope.names.lookup y = _ from k2] at k' <;> cases k'
      · rw [c1] at e'
        cases e'
        exact cellK c1 z
  · obtain ⟨w', z⟩ := I.cell y c (cm e)
    exact ⟨w', cellK (cm e) z⟩
/-- what a body gives -/
def outE : R SV → RD
  | .ok (.fr d) _ => .ok d
  | .ex e _ => .ex e
  | _ => .no
/-- told slots alone -/
def frA (α : AS) : AS := ⟨α.sl.map fun o => match o with
  | some (.fr d) => some (.fr d)
  | _ => none, none⟩
theorem getS_frA {α : AS} {i : Nat} {x : SV} (e : getS (frA α) i = some x) : ∃ d, x = .fr d ∧ getS α i = some (.fr d) := by
  unfold getS frA at e
  unfold getS
  simp only [List.getElem?_map] at e
  cases q : α.sl[i]? with
  | none => rw [q] at e; cases e
  | some o =>
    rw [q] at e
    cases o with
    | none => cases e
    | some sv => cases sv <;> first | (cases e; exact ⟨_, rfl, rfl⟩) | cases e
theorem rel_frA {P : Program} {w : World} {K : PySem.W.Frag} {p p' : Addr} {α : AS} {σ : St} {G G' H H' : Hp} (r : Rel ⟨P, w, K, p⟩ α σ G H) (l : Le G G') (l' : Le G' H') (n : NG G') : Rel ⟨P, w, K, p'⟩ (frA α) σ G' H' where
  le := l'
  nt := n
  len := by rw [show (frA α).sl.length = α.sl.length from by simp [frA]]; exact r.len
  sl := fun i sv e => by
    obtain ⟨d, rfl, e'⟩ := getS_frA e
    obtain ⟨v, h1, h2⟩ := r.sl i _ e'
    exact ⟨v, h1, fr_pa (l.fr h2)⟩
  apart := fun i j x y a e1 e2 h1 => by obtain ⟨d, rfl, _⟩ := getS_frA e1; cases h1
  pen := fun p e => nomatch e
  ps := fun i e => by obtain ⟨d, z, _⟩ := getS_frA e; cases z
  pne := fun e => by cases e
theorem no_ownA {C : Ct} {α : AS} {σ : St} {a : Addr} : ¬ Own C (frA α) σ a := by
  rintro (⟨h, _⟩ | ⟨i, sv, h1, h2, _⟩)
  · cases h
  · obtain ⟨d, rfl, _⟩ := getS_frA h1
    cases h2
/-- what is wished of a reading r -/
def tRD (P : Program) (w : World) (K : PySem.W.Frag) (mg : Str → Option Value) (r : RD) (G H : Hp) (E : XK) (Q : VK) : Prop := match r with
  | .ok d => ∀ v G' H', Grow G H G' H' → FrV ⟨P, w, K, 0⟩ G' v d → Q v H'
  | .ex e => ∀ cls dd G' H', Grow G H G' H' → RelX ⟨P, w, K, 0⟩ mg G' H' e cls dd → E cls dd H'
  | .no => False
/-- the closure at f, called without arguments, reads r -/
def Act (P : Program) (w : World) (K : PySem.W.Frag) (mg : Str → Option Value) (base : Heap) (k : Nat) (cs : Ob) (ks : List (Addr × HO)) (GL : Hp) (f : Addr) (r : RD) : Prop :=
  ∀ (A : Around) (outer : List Env) (s : Shared) (G H : Hp) (Q : VK) (E : XK), RoomG k A → Env0 P w K mg base A outer s H → Tr cs H → (∀ p ∈ ks, H p.1 = some p.2) → Le G H → NG G → Le GL G → Fr0 cs G → tRD P w K mg r G H E Q →
    (∃ o, s.heap.get? f = some o ∧ ∃ fd, o.data = .func fd) ∧ codeAny (model P w) A (.call (.ref f) ⟨[], []⟩) (CR (L2.CX P w) outer P w H s Q E) s
theorem act_of {X : Cx} {pins : List (Addr × Obj)} {α : AS} {σ : St} {G H : Hp} {s : Shared} {pa k : Nat} {f c' : Addr} {params : Arguments} {body : Expr} {scope : Scope} {pm ctv : Value} {b : EF} {cs : Ob} {ks : List (Addr × HO)} {r : RD}
    (I : Inv X pins σ H s) (L : LamX.LamS X.env.scope scope) (rel : Rel (ct X pa) α σ G H) (hcs : ∀ x c, X.env.cells.lookup x = some c → ∃ o, cs.lookup c = some o) (hcv : ∀ b o, cs.lookup b = some o → s.heap.get? b = some o)
    (hf : (f, exO f (lamO X params body scope pm c' ctv)) ∈ ks) (hc : (c', LamX.CodeO c' (lamQ X)) ∈ ks)
    (hbind : ∀ (q : Str) (cl : List (Str × Addr)) (pm cv ctv : Value), bindArgs (PySem.W.kla_fn "<lambda>" q params body scope cl pm cv ctv) ⟨[], []⟩ = pure [])
    (hr : outE (b (frA α)) = r)
    (hbody : ∀ (A : Around) (outer : List Env) (s : Shared) (H : Hp) (E : XK), RoomG k (A.deeper (LamX.lamEnv X scope s.heap.objs.size f c')) → SE (LamX.lamCx X A outer s H E scope f c') (fun cls d _ H => E cls d H) body b) :
    Act X.prog X.w X.K X.mg X.base (k + 1) cs ks G f r := by
  intro A outer s1 G1 H1 Q E hroom e0 tr kn le ng leG f0 ht
  have of1 := exO_get e0.hok (kn _ hf)
  obtain ⟨⟨oc, vs, t, hoc, hdc, hvc⟩, _, _⟩ := e0.hok c' _ (kn _ hc)
  refine ⟨⟨_, of1, _, rfl⟩, ?_⟩
  refine PySem.W.kla_callFunE hroom.r.depth of1 rfl L.co L.gen rfl ⟨c', oc, vs, t, rfl, hoc, hdc, hvc⟩ ?_
  rw [hbind]
  have lim : s1.heap.NoLimit := e0.mod.nolimit.keeps fun b o e => (e0.bs b o e).1
  refine wpAny_pure (wpAny_newFunctionEnv (fun y hy => (L.own y hy).2) (fun y hy => absurd hy (by simp)) (fun h₁ hns hsb => ⟨lim.fresh _ hsb, ?_⟩) L.kind)
  show codeAny _ _ (.expr body (LamX.lamEnv X scope s1.heap.objs.size f c')) _ _
  have kp : ∀ b o, s1.heap.get? b = some o → h₁.get? b = some o := fun b o e => hsb.extBut b o (Nat.ne_of_lt (Heap.lt_size e)) (Heap.get?_push_of_some _ e)
  have cl : ∀ x c o, X.env.cells.lookup x = some c → s.heap.get? c = some o → s1.heap.get? c = some o := fun x c o e1 e2 => by
    obtain ⟨o', h1⟩ := hcs x c e1
    have h2 := hcv c o' h1
    rw [e2] at h2; cases h2
    exact exO_get e0.hok (tr c o h1)
  have J : Inv (LamX.lamCx X A outer s1 (drp H1 cs) (fun cls d H' => Fr0 cs H' → E cls d (trk H' cs)) scope f c') [] σ (drp H1 cs) { s1 with heap := h₁, toks := s1.toks + ([] : List (Str × Value)).length } :=
    lam_start3 I L (env0_drp e0 tr) hroom.r.hd (fun x c e => by obtain ⟨o', h1⟩ := hcs x c e; exact drp_in h1) cl hns kp
  have leD : Le G1 (drp H1 cs) := fun a o e => by
    cases z : cs.lookup a with
    | none => rw [drp_out z]; exact le a o e
    | some o' => rw [f0 a o' z] at e; cases e
  have back : ∀ {H' G' : Hp}, Grow G1 (drp H1 cs) G' H' → Fr0 cs H' → Grow G1 H1 G' (trk H' cs) := fun {H' G'} g n => by
    have st : ∀ a o, H' a = some o → trk H' cs a = some o := fun a o e => by
      cases z : cs.lookup a with
      | none => rw [trk_out z]; exact e
      | some o' => rw [n a o' z] at e; cases e
    refine ⟨fun a o e => st a o (g.l a o e), g.n, g.g, fun a o e => ?_⟩
    cases z : cs.lookup a with
    | none =>
      have := g.k a o (by rw [drp_out z]; exact e)
      exact ⟨st _ _ this.1, this.2⟩
    | some o' =>
      have q := tr a o' z
      rw [e] at q; cases q
      refine ⟨trk_in z, ?_⟩
      cases e5 : G' a with
      | none => exact (f0 a o' z).symm
      | some o6 => have := g.l a o6 e5; rw [n a o' z] at this; cases this
  refine PySem.W.kla_codeExpr (wpAny_mono ((hbody A outer s1 (drp H1 cs) _ (⟨hroom.r.deeper _, hroom.g⟩)).run [] _ σ (drp H1 cs) (fun v H' => Fr0 cs H' → Q v (trk H' cs)) J ?_) (fun v s' hq => ?_) fun e s' hq => ?_)
  · refine ⟨pa, frA α, G1, rel_frA rel leG leD ng, ?_⟩
    have gr : ∀ {α' : AS} {G' H' : Hp}, Rel ⟨X.prog, X.w, X.K, pa⟩ α' σ G' H' → Step ⟨X.prog, X.w, X.K, pa⟩ (frA α) σ G1 (drp H1 cs) α' σ G' H' → Grow G1 (drp H1 cs) G' H' := fun r st => ⟨r.le, r.nt, st.g, fun a o h => st.k a o h no_ownA⟩
    cases e : b (frA α) with
    | no => rw [e] at hr; subst hr; exact ht
    | ex x α' =>
      rw [e] at hr; subst hr
      exact fun cls d G' H' rel' st' rx n => ht cls d G' _ (back (gr rel' st') n) (by
        obtain ⟨c, dx, fs, e1, e2, e3, e4, e5, e6⟩ := rx
        refine ⟨c, dx, fs, e1, e2, e3, ?_, e5, e6⟩
        cases z : cs.lookup dx with
        | none => rw [trk_out z]; exact e4
        | some o' => rw [n dx o' z] at e4; cases e4)
    | ok sv α' =>
      rw [e] at hr; subst hr
      cases sv with
      | fr d => exact fun v G' H' rel' st' av nv n => ht v G' _ (back (gr rel' st') n) (fr_pa av)
      | _ => exact ht.elim
  · obtain ⟨w', H', J', rv, q⟩ := hq
    have un := (un_trk tr e0.hok e0.frf J'.base)
    exact ⟨w', trk H' cs, J'.os, J'.bare, un.1, hok_trk J'.hok un.2.1 un.2.2, rv, q un.2.2⟩
  · exact wpAny_mono hq (fun _ s'' q => cx_trk tr e0.hok e0.frf q) (fun _ s'' q => cx_trk tr e0.hok e0.frf q)
end Sx

/-! several except clauses with a name (the kit's ps_try_many and ps_try_as joined) -/
namespace L2
open PySem PySem.Spec PyProof.Rows
/-- the suite's end: the name is gone -/
def endAs (i : Nat) (D : Ends) : Ends := { nx := fun σ H => D.nx (σ.set i none) H, rt := D.rt, bk := fun σ H => D.bk (σ.set i none) H, ct := fun σ H => D.ct (σ.set i none) H }
/-- what the clauses wish of an exception of the body, one after the other -/
def wManyAs (K : PySem.W.Frag) (i : Nat) (Wout : WX) (D : Ends) : List (Value × (Addr → Value → Option Addr → TS)) → WX
  | [] => Wout
  | (c, ts) :: r => fun cls d σ H => ∃ b, PySem.W.exmOne K cls c = some b ∧ (b = true → ∀ a, H a = none → ts a cls d (endAs i D) (σ.set i (some (.ref a))) H) ∧ (b = false → wManyAs K i Wout D r cls d σ H)
inductive HdsAs (X : Cx) (n : Str) : List ExceptHandler → List (Value × (Addr → Value → Option Addr → TS)) → Prop
  | nil : HdsAs X n [] []
  | cons {x : Str} {c : Value} {ts : Addr → Value → Option Addr → TS} {b₀ : Stmt} {suite : List Stmt} {np pos' : Pos} {hds : List ExceptHandler} {l : List (Value × (Addr → Value → Option Addr → TS))} (hc : Names X x c)
      (hsu : ∀ (a : Addr) (oe : Obj) (cls : Value) (d : Option Addr) (pn : List (Addr × Obj)), Zc cls d oe → (∃ vs, oe.data = .fields vs) → PSs (X.suite a ((a, oe) :: pn)) (b₀ :: suite) (ts a cls d)) (r : HdsAs X n hds l) :
      HdsAs X n (.ExceptHandler (some (.Name x np)) (some n) (b₀ :: suite) pos' :: hds) ((c, ts) :: l)
section
variable {X : Cx} {body : List Stmt} {h₀ : ExceptHandler} {hds : List ExceptHandler} {l : List (Value × (Addr → Value → Option Addr → TS))} {pos : Pos} {tb : WX → TS} {Wout : WX}
theorem ps_try_manyAs {i : Nat} {n : Str} (hN : X.N.Nodup) (hi : X.N[i]? = some n) (hln : X.env.kindOf n = some .local) (hs : X.stack = X.env :: X.outer) (hf : X.env.frame = some X.env.locals) (tk : Takes X Wout)
    (hb : ∀ (W : WX) (pn : List (Addr × Obj)) (xe : Value → Shared → Prop), Takes (X.tr pn xe) W → PassesOwn (model X.prog X.w) X.A X.env xe → PSs (X.tr pn xe) body (tb W))
    (hh : HdsAs X n (h₀ :: hds) l) : PS X (.Try body (h₀ :: hds) [] [] pos) (fun D σ H => tb (wManyAs X.K i Wout D l) D σ H) := by
  refine ⟨fun pins s σ H D I h => ?_⟩
  have ok := I.ok
  have hloc : Loc X.env.scope n := .inl hln
  have hfr : X.A.frames = some (X.env :: X.outer) := by rw [ok.frames, hs]
  refine wpAny_Try_except ?_
  refine wpAny_mono ((hb (wManyAs X.K i Wout D l) (X.pn ++ pins) (fun e s₁ => wpAny (model X.prog X.w) X.A (noteFrame e X.env) (fun _ s₂ => wpAny (model X.prog X.w) X.A (setFlight e none) (fun _ s₃ =>
    wpAny (model X.prog X.w) X.A (handleBy e X.env (h₀ :: hds)) (SP X pins D) X.xe s₃) X.xe s₂) X.xe s₁) (fun u s' xx => ?_) PassesOwn.looking).run [] s σ H D (I.toTry _) h) (fun f s1 hsp => ?_) (fun e s1 he => he)
  · -- the catch
    obtain ⟨a, B, sI, pins', σ', H', cls, d, rfl, J', nb, up, sky, na, os, ag, w⟩ := xx
    have J : Inv X pins σ' H' sI := J'.ofTry ok
    have sky' : Sky B (X.env :: X.outer) a (Zc cls d) X.env.locals s'.heap := by rw [← hs]; exact sky
    show wpAny (model X.prog X.w) X.A (noteFrame (.ref a) X.env) _ _ _
    refine Sky.land Zc.steady hfr hf sky' fun h3 fl3 up3 => ?_
    have J3 : Inv X pins σ' H' { s' with heap := h3 } := J.landed nb fl3.1 (up.trans up3) os ag
    obtain ⟨oe3, vs3, he3, hz3, hd3⟩ := fl3.there
    have notFr : ∀ {h : Heap} {o : Obj} {vs : Array Value}, h.FunFrames B (X.env :: X.outer) → h.get? a = some o → o.data = .fields vs → a ∉ frs (X.env :: X.outer) := fun {h o vs} ff e dd hm => by
      obtain ⟨_, o', e', hnf⟩ := ff.mem hm
      rw [e] at e'; cases e'
      exact hnf _ dd
    have nfr := notFr fl3.2.2.1 he3 hd3
    have nL : a ≠ X.env.locals := fun z => nfr (List.mem_filterMap.mpr ⟨X.env, List.mem_cons_self, by rw [hf, z]⟩)
    have nF : a ∉ X.fs := fun hm => by
      obtain ⟨e, he, q⟩ := List.mem_filterMap.mp hm
      exact nfr (List.mem_filterMap.mpr ⟨e, List.mem_cons_of_mem _ he, q⟩)
    have S3 := J3.suite he3 hd3 na nL nF
    have go : ∀ {hds' : List ExceptHandler} {l' : List (Value × (Addr → Value → Option Addr → TS))}, HdsAs X n hds' l' → wManyAs X.K i Wout D l' cls d σ' H' →
        wpAny (model X.prog X.w) X.A (handleBy (.ref a) X.env hds') (SP X pins D) X.xe { s' with heap := h3 } := by
      intro hds' l' hk
      induction hk with
      | nil =>
        intro w
        refine wpAny_handleBy_nil ?_
        obtain ⟨k1, k2, k3, oe, vs, T, oT, ts', he, hz, hd, h1, hr⟩ := id fl3
        unfold PySem.passOn
        refine wpAny_bind (wpAny_field he hd h1 ?_)
        rw [if_neg (show ¬ ((Value.ref T == Value.none) = true) from by simp)]
        have fin : wpAny (model X.prog X.w) X.A (setFlight (.ref a) X.env.frame) (fun _ s4 => wpAny (model X.prog X.w) X.A (throw (.ref a) : Sem Flow) (SP X pins D) X.xe s4) X.xe { s' with heap := h3 } := by
          rw [hf]
          refine HandSPX.setFlight_upZ fl3 fun h4 hh4 up4 => wpAny_throw (tk _ _ ?_)
          exact ⟨a, B, sI, pins, σ', H', cls, d, rfl, J, nb, (up.trans up3).trans up4, .inr (.inr (by rw [hs]; exact hh4)), na, os, ag, w⟩
        first
          | exact wpAny_bind (wpAny_pure (wpAny_bind fin))
          | exact wpAny_bind fin
      | @cons x c ts b₀ suite np pos' hds2 l2 hc hsu r ih =>
        intro w
        obtain ⟨b, hb1, hyes, hno⟩ := w
        refine wpAny_handleBy_cons (codeAny_handlers_test ?_) (by intro q; cases q)
        have LT : PySem.W.Looks (model X.prog X.w) h3 (typeOf (.ref a)) cls := fun A Q E s k q => wpAny_typeOf_ref (k _ _ he3) (by rw [hz3.1]; exact q)
        have LM := PySem.W.exm_one (M := model X.prog X.w) (J3.kIn) LT hb1
        have test : ∀ {Q : Value → Shared → Prop} {E : Value → Shared → Prop}, Q c { s' with heap := h3 } → wpAny (model X.prog X.w) (X.A.mark (some (.ref a))) (eval (.Name x np) X.env) Q E { s' with heap := h3 } := fun {Q E} q => by
          obtain ⟨hg, hdbg, hm | ⟨hm, hv, hnn⟩⟩ := hc
          · exact ld_glob (X := X.suite a ((a, oe3) :: (X.pn ++ pins))) S3 hg hm q hdbg
          · exact ld_blt (X := X.suite a ((a, oe3) :: (X.pn ++ pins))) S3 hg hm hv q hnn hdbg
        refine test (LM.here ?_)
        cases b with
        | true =>
          refine codeAny_handlers_suite_as ?_
          refine HandSPX.lands_againZ fl3 fun h4 fl4 up4 => ?_
          have J4 : Inv X pins σ' H' { s' with heap := h4 } := J.landed nb fl4.1 ((up.trans up3).trans up4) os ag
          obtain ⟨oe4, vs4, he4, hz4, hd4⟩ := fl4.there
          have S4 := J4.suite he4 hd4 na nL nF
          refine store_ok (X := X.suite a ((a, oe4) :: (X.pn ++ pins))) (v := .ref a) S4 hN hi hloc rfl (fun s5 S5 => ?_) (.inr hln)
          refine wpAny_mono ((hsu a oe4 cls d (X.pn ++ pins) hz4 ⟨_, hd4⟩).run [] s5 _ H' _ S5 (hyes rfl a na)) (fun f s6 hsp => ?_) (fun _ _ z => False.elim z)
          have end_ : ∀ {σ6 : St} {H6 : Hp} {Q : Shared → Prop}, Inv (X.suite a ((a, oe4) :: (X.pn ++ pins))) [] σ6 H6 s6 → (∀ s7, Inv X pins (σ6.set i none) H6 s7 → Q s7) →
              wpAny (model X.prog X.w) X.A (do bindName X.env n .none; unbindBehindTheSuite X.env n pos') (fun _ s7 => Q s7) X.xe s6 := fun {σ6 H6 Q} S6 hq => gone_ok (S6.unsuite ok) hN hi hln hq
          cases f with
          | next =>
            obtain ⟨σ6, H6, S6, q6⟩ := hsp
            exact end_ S6 fun s7 J7 => ⟨_, _, J7, q6⟩
          | brk =>
            obtain ⟨σ6, H6, S6, q6⟩ := hsp
            exact end_ S6 fun s7 J7 => ⟨_, _, J7, q6⟩
          | cont =>
            obtain ⟨σ6, H6, S6, q6⟩ := hsp
            exact end_ S6 fun s7 J7 => ⟨_, _, J7, q6⟩
          | ret u =>
            obtain ⟨v6, σ6, H6, S6, r6, q6⟩ := hsp
            exact end_ S6 fun s7 J7 => ⟨_, _, _, J7, r6, q6⟩
        | false =>
          show wpAny _ X.A (handleBy (.ref a) X.env hds2) _ _ _
          exact ih (hno rfl)
    exact go hh w
  · cases f with
    | next =>
      obtain ⟨σ', H', J', q⟩ := hsp
      exact wpAny_execs_nil ⟨σ', H', J'.ofTry ok, q⟩
    | brk =>
      obtain ⟨σ', H', J', q⟩ := hsp
      exact ⟨σ', H', J'.ofTry ok, q⟩
    | cont =>
      obtain ⟨σ', H', J', q⟩ := hsp
      exact ⟨σ', H', J'.ofTry ok, q⟩
    | ret u =>
      obtain ⟨v, σ', H', J', r, q⟩ := hsp
      exact ⟨v, σ', H', J'.ofTry ok, r, q⟩
end
end L2

namespace Sx
open PySem PySem.Spec L2
open PyProof.Rows hiding St

theorem Grow.refl {G H : Hp} (l : Le G H) (n : NG G) : Grow G H G H := ⟨l, n, Le.refl _, fun _ _ h => ⟨h, rfl⟩⟩
theorem Grow.trans {G H G1 H1 G2 H2 : Hp} (a : Grow G H G1 H1) (b : Grow G1 H1 G2 H2) : Grow G H G2 H2 := ⟨b.l, b.n, a.g.trans b.g, fun x o h => by
  obtain ⟨p1, p2⟩ := a.k x o h
  obtain ⟨q1, q2⟩ := b.k x o p1
  exact ⟨q1, q2.trans p2⟩⟩
theorem Grow.lay {G H : Hp} (l : Le G H) (n : NG G) {p : Addr} {o : HO} (hp : H p = none) (to : tupOk o) : Grow G H (upd G p o) (upd H p o) := by
  have gp : G p = none := by
    cases e : G p with
    | none => rfl
    | some u => have := l p u e; rw [hp] at this; cases this
  refine ⟨fun a u e => ?_, ng_upd n to, fun a u e => by rw [upd_ne (ne_of_none e gp)]; exact e, fun a u e => ?_⟩
  · by_cases h : a = p
    · subst h; rw [upd_same] at e ⊢; exact e
    · rw [upd_ne h] at e ⊢; exact l a u e
  · have h := ne_of_none e hp
    exact ⟨by rw [upd_ne h]; exact e, upd_ne h⟩
/-- a new object that is not told -/
theorem Grow.own {G H : Hp} (l : Le G H) (n : NG G) {p : Addr} {o : HO} (hp : H p = none) : Grow G H G (upd H p o) :=
  ⟨fun a u e => by rw [upd_ne (ne_of_none (l a u e) hp)]; exact l a u e, n, Le.refl _, fun a u e => ⟨by rw [upd_ne (ne_of_none e hp)]; exact e, rfl⟩⟩
theorem Fr0.grow {cs : Ob} {G H G' H' : Hp} (f : Fr0 cs G) (t : Tr cs H) (g : Grow G H G' H') : Fr0 cs G' := fun b o e => (g.k b _ (t b o e)).2.trans (f b o e)
theorem Tr.grow {cs : Ob} {G H G' H' : Hp} (t : Tr cs H) (g : Grow G H G' H') : Tr cs H' := fun b o e => (g.k b _ (t b o e)).1
/-- a closure that may be called now -/
def Ready (P : Program) (w : World) (K : PySem.W.Frag) (mg : Str → Option Value) (base : Heap) (k : Nat) (f : Addr) (r : RD) (G H : Hp) : Prop :=
  ∃ (cs : Ob) (ks : List (Addr × HO)) (GL : Hp), Act P w K mg base k cs ks GL f r ∧ Tr cs H ∧ (∀ p ∈ ks, H p.1 = some p.2) ∧ Le G H ∧ NG G ∧ Le GL G ∧ Fr0 cs G
theorem Ready.grow {P : Program} {w : World} {K : PySem.W.Frag} {mg : Str → Option Value} {base : Heap} {k : Nat} {f : Addr} {r : RD} {G H G' H' : Hp} (x : Ready P w K mg base k f r G H) (g : Grow G H G' H') : Ready P w K mg base k f r G' H' := by
  obtain ⟨cs, ks, GL, a, t, kn, l, n, lg, f0⟩ := x
  exact ⟨cs, ks, GL, a, t.grow g, fun p hp => (g.k _ _ (kn p hp)).1, g.l, g.n, lg.trans g.g, f0.grow t g⟩
/-- x(), x a closure -/
def tClo (X : Cx) (W : WX) (i k : Nat) : TE := fun σ H Q => ∃ f G r, σ[i]? = some (some (.ref f)) ∧ Ready X.prog X.w X.K X.mg X.base k f r G H ∧ tRD X.prog X.w X.K X.mg r G H (fun cls d H' => W cls d σ H') Q
theorem pe_clo {X : Cx} {W : WX} {i k : Nat} {a : Str} {p1 p2 : Pos} (tk : Takes X W) (hr : RoomG k X.A) (hN : X.N[i]? = some a) (hv : Vis X.env.scope a) (hd : (a == ("__debug__" : Str)) = false := by decide) (hcd : (a == ("__classdict__" : Str)) = false := by decide) :
    PE X (.Call (.Name a p1) [] [] p2) (tClo X W i k) := by
  refine ⟨fun pins s σ H Q I h => ?_⟩
  obtain ⟨f, G, r, hs, ⟨cs, ks, GL, act, tr, kn, le, ng, leG, f0⟩, ht⟩ := h
  refine wpAny_Call_Name_kw (thn ((pe_var (pos := p1) (i := i) hN hv hd hcd).run pins s σ H (fun v H1 => v = .ref f ∧ H1 = H) I ⟨.ref f, hs, rfl, rfl⟩) fun u s1 ⟨v, H1, I1, r1, q1⟩ => ?_)
  obtain ⟨rfl, rfl⟩ := q1
  obtain rfl : u = Value.ref f := r1
  obtain ⟨⟨⟨oc, od, dt, sl⟩, e1, fd, e2⟩, rc⟩ := act X.A X.stack s1 G H1 Q (fun cls d H' => W cls d σ H') hr I1.env0 tr kn le ng leG f0 ht
  have e2 : dt = .func fd := e2
  subst e2
  refine PySem.W.callWith_F0 ⟨_, _, _, _, e1⟩ (wpAny_call (codeAny_mono rc fun r s' hq => ?_))
  cases r with
  | error e => exact tk e s' (XE.of_call I1 (fun cls d H' h => h) hq)
  | ok fl =>
    cases fl with
    | ret u => exact I1.after hq
    | next => exact False.elim hq
    | brk => exact False.elim hq
    | cont => exact False.elim hq
/-! ### _law_fault -/
/-- an except clause: the class's name and place, the word, the fields -/
structure HE where
  x : Str
  C : Addr
  tag : Str
  fs : List Str
def getF (fs : List (Str × D)) : List Str → Option (List D)
  | [] => some []
  | f :: r => match fs.lookup f, getF fs r with
    | some d, some ds => some (d :: ds)
    | _, _ => none
def faultD (hs : List HE) (e : Ex) : Option D := match hs with
  | [] => none
  | h :: r => if h.x = e.name then (getF e.fs h.fs).map fun ds => .tuple (.str h.tag :: ds) else faultD r e
def faultR (hs : List HE) : RD → Option D
  | .ok _ => some .none
  | .ex e => faultD hs e
  | .no => none
/-- what is to be known of the classes -/
structure HEs (K : PySem.W.Frag) (mg : Str → Option Value) (hs : List HE) : Prop where
  g : ∀ h ∈ hs, mg h.x = some (.ref h.C)
  xf : ∀ h ∈ hs, XfC K h.C ∧ ∀ f ∈ h.fs, PySem.W.findIn K (.ref h.C) f = some none
  m : ∀ h ∈ hs, ∀ g ∈ hs, PySem.W.exmOne K (.ref h.C) (.ref g.C) = some (decide (h.x = g.x))
/-- the fields of a caught exception -/
def tXfs (a : Addr) (cls : Value) (d : Option Addr) (C : Addr) (l : List (Str × Pos × Pos)) : TA := fun σ H R => σ[1]? = some (some (.ref a)) ∧ cls = .ref C ∧ ∃ (dd : Addr) (fs : List (Str × V)) (vs : List V), d = some dd ∧ H dd = some (.xd fs) ∧ l.map (fun p => fs.lookup p.1) = vs.map some ∧ R vs H
abbrev xAttr (v : Str) (p : Str × Pos × Pos) : Expr := .Attribute (.Name v p.2.1) p.1 p.2.2
theorem pa_xfs {X : Cx} {a C : Addr} {oe : Obj} {cls : Value} {d : Option Addr} {pn : List (Addr × Obj)} {v : Str} (T : XfC X.K C) (hz : Zc cls d oe) (hf : ∃ vs, oe.data = .fields vs) (hN : X.N[1]? = some v) (hv : Vis X.env.scope v)
    (hd : (v == ("__debug__" : Str)) = false) (hcd : (v == ("__classdict__" : Str)) = false) : ∀ l : List (Str × Pos × Pos), (∀ p ∈ l, PySem.W.findIn X.K (.ref C) p.1 = some none) → PA (X.suite a ((a, oe) :: pn)) (l.map (xAttr v)) (tXfs a cls d C l)
  | [], _ => pa_nil.conseq fun σ H R ⟨_, _, dd, fs, vs, _, _, e, q⟩ => by
    cases vs with
    | nil => exact q
    | cons _ _ => cases e
  | (n, p1, p2) :: l, h => by
    have he : PE (X.suite a ((a, oe) :: pn)) (.Name v p1) _ := pe_var (i := 1) hN hv hd hcd
    refine (pa_cons (pe_xf T (h _ List.mem_cons_self) hz hf he) (pa_xfs T hz hf hN hv hd hcd l fun p hp => h p (List.mem_cons_of_mem _ hp))).conseq fun σ H R ⟨h1, h2, dd, fs, vs, e1, e2, e3, q⟩ => ?_
    cases vs with
    | nil => cases e3
    | cons v0 vs =>
      rw [List.map_cons, List.map_cons, List.cons.injEq] at e3
      exact ⟨.ref a, h1, rfl, h2, dd, fs, v0, e1, e2, e3.1, h1, h2, dd, fs, vs, e1, e2, e3.2, q⟩
/-- the clause's suite -/
def tFl (a : Addr) (cls : Value) (d : Option Addr) (h : HE) : TS := fun D σ H => σ[1]? = some (some (.ref a)) ∧ cls = .ref h.C ∧ h.fs.length < 1000 ∧ ∃ (dd : Addr) (fs : List (Str × V)) (vs : List V), d = some dd ∧ H dd = some (.xd fs) ∧ h.fs.map (fun p => fs.lookup p) = vs.map some ∧ NT D.rt H (.str h.tag :: vs)
theorem ss_fl {X : Cx} {a : Addr} {oe : Obj} {cls : Value} {d : Option Addr} {pn : List (Addr × Obj)} {v : Str} {h : HE} {l : List (Str × Pos × Pos)} {j k : Nat} {p1 p2 p3 : Pos} (T : XfC X.K h.C) (nf : ∀ f ∈ h.fs, PySem.W.findIn X.K (.ref h.C) f = some none) (hz : Zc cls d oe) (hf : ∃ vs, oe.data = .fields vs) (hN : X.N[1]? = some v) (hv : Vis X.env.scope v)
    (hd : (v == ("__debug__" : Str)) = false) (hcd : (v == ("__classdict__" : Str)) = false) (hl : l.map (·.1) = h.fs) (hst : starEach (.Constant (.str h.tag) j p1 :: l.map (xAttr v)) X.env = (false, eval (.Constant (.str h.tag) j p1) X.env) :: starEach (l.map (xAttr v)) X.env := by rfl) :
    PSs (X.suite a ((a, oe) :: pn)) [.Return (some (.Tuple (.Constant (.str h.tag) j p1 :: l.map (xAttr v)) k p2)) p3] (tFl a cls d h) := by
  have hp := pa_xfs (a := a) (oe := oe) (pn := pn) T hz hf hN hv hd hcd l fun p hp => nf _ (by rw [← hl]; exact List.mem_map_of_mem hp)
  have hp2 := pa_cons (X := X.suite a ((a, oe) :: pn)) (pe_str (x := h.tag) (j := j) (pos := p1)) hp hst
  have hp3 := pss_one (ps_ret (pos := p3) (pe_tupF (x1 := k) (pos := p2) hp2))
  refine ⟨fun pins s σ H D I ⟨h1, h2, hs, dd, fs, vs, e1, e2, e3, q⟩ => hp3.run pins s σ H D I ?_⟩
  refine ⟨h1, h2, dd, fs, vs, e1, e2, ?_, ?_, q⟩
  · rw [← e3, ← hl, List.map_map]
    rfl
  · have : h.fs.length = vs.length := by simpa using congrArg List.length e3
    show (V.str h.tag :: vs).length ≤ sizeLine
    rw [sizeLine_eq, List.length_cons]
    omega
/-- a clause of the text -/
structure HX where
  h : HE
  l : List (Str × Pos × Pos)
  j : Nat
  k : Nat
  q : Pos × Pos × Pos × Pos × Pos
def HX.text (v : Str) (e : HX) : ExceptHandler := .ExceptHandler (some (.Name e.h.x e.q.1)) (some v) [.Return (some (.Tuple (.Constant (.str e.h.tag) e.j e.q.2.1 :: e.l.map (xAttr v)) e.k e.q.2.2.1)) e.q.2.2.2.1] e.q.2.2.2.2
def spFault (P : Program) (w : World) (K : PySem.W.Frag) (mg : Str → Option Value) (base : Heap) (k : Nat) (hs : List HE) : Sp := fun vs H Q _ => ∃ f G r d, vs = [.ref f] ∧ Ready P w K mg base k f r G H ∧ faultR hs r = some d ∧ ∀ v G' H', Grow G H G' H' → FrV ⟨P, w, K, 0⟩ G' v d → Q v H'
end Sx

namespace Sx
open PySem PySem.Spec L2
open PyProof.Rows hiding St

theorem look_dp {K : PySem.W.Frag} {G : Hp} {f : Str} {d : D} : ∀ (fs : List (Str × V)) (es : List (Str × D)), fs.map (·.1) = es.map (·.1) → DpAll K G (fs.map (·.2)) (es.map (·.2)) → es.lookup f = some d → ∃ v, fs.lookup f = some v ∧ Dp K G v d
  | _, [], _, _, e => by cases e
  | [], _ :: _, h, _, _ => by cases h
  | (a, v) :: fs, (b, d0) :: es, h, x, e => by
    rw [List.map_cons, List.map_cons, List.cons.injEq] at h
    obtain ⟨h1, h2⟩ := h
    dsimp only at h1
    subst h1
    cases x with | cons x1 x2 =>
    rw [List.lookup_cons] at e ⊢
    cases q : f == a with
    | true => rw [q] at e; cases e; exact ⟨v, rfl, x1⟩
    | false => rw [q] at e; exact look_dp fs es h2 x2 e
theorem getF_dp {K : PySem.W.Frag} {G : Hp} {fs : List (Str × V)} {es : List (Str × D)} (h : fs.map (·.1) = es.map (·.1)) (x : DpAll K G (fs.map (·.2)) (es.map (·.2))) : ∀ (ns : List Str) (ds : List D), getF es ns = some ds → ∃ vs : List V, ns.map (fun n => fs.lookup n) = vs.map some ∧ DpAll K G vs ds
  | [], ds, e => by cases e; exact ⟨[], rfl, .nil⟩
  | n :: ns, ds, e => by
    simp only [getF] at e
    cases e1 : es.lookup n with
    | none => rw [e1] at e; cases e
    | some d =>
      cases e2 : getF es ns with
      | none => rw [e1, e2] at e; cases e
      | some ds' =>
        rw [e1, e2] at e
        cases e
        obtain ⟨v, h1, h2⟩ := look_dp fs es h x e1
        obtain ⟨vs, h3, h4⟩ := getF_dp h x ns ds' e2
        exact ⟨v :: vs, by rw [List.map_cons, List.map_cons, h1, h3], .cons h2 h4⟩
theorem faultD_in {hs : List HE} {e : Ex} {d : D} (h : faultD hs e = some d) : ∃ g ∈ hs, g.x = e.name := by
  induction hs with
  | nil => cases h
  | cons g r ih =>
    simp only [faultD] at h
    by_cases q : g.x = e.name
    · exact ⟨g, List.mem_cons_self, q⟩
    · rw [if_neg q] at h
      obtain ⟨g', h1, h2⟩ := ih h
      exact ⟨g', List.mem_cons_of_mem _ h1, h2⟩
theorem many_ok {C : Ct} {mg : Str → Option Value} {hs0 : List HE} (T : HEs C.K mg hs0) (ln : ∀ h ∈ hs0, h.fs.length < 1000) {g0 : HE} (g0m : g0 ∈ hs0) {e : Ex} (g0e : g0.x = e.name) {Wout : WX} {DE : Ends} {σ : St} {G H : Hp} {cls : Value} {dd : Option Addr} {d : D}
    (l : Le G H) (n : NG G) (rx : RelX C mg G H e cls dd) (hσ : 1 < σ.length) (hq : ∀ v G' H', Grow G H G' H' → FrV C G' v d → DE.rt v H') :
    ∀ hs : List HE, (∀ h ∈ hs, h ∈ hs0) → faultD hs e = some d → wManyAs C.K 1 Wout DE (hs.map fun h => (.ref h.C, fun a cls d => tFl a cls d h)) cls dd σ H := by
  intro hs
  induction hs with
  | nil => intro _ h; cases h
  | cons g r ih =>
    intro sub h
    obtain ⟨c, dx, fs, rfl, hm, rfl, hx, hn, hd⟩ := rx
    have ec : c = g0.C := by
      have := T.g g0 g0m
      rw [g0e, hm] at this
      cases this; rfl
    subst ec
    have em := T.m g0 g0m g (sub g List.mem_cons_self)
    simp only [faultD] at h
    refine ⟨_, em, fun hb a ha => ?_, fun hb => ?_⟩
    · have ex : g0.x = g.x := of_decide_eq_true hb
      have eg : g0.C = g.C := by
        have h1 := T.g g0 g0m
        have h2 := T.g g (sub g List.mem_cons_self)
        rw [ex, h2] at h1
        exact (Value.ref.inj (Option.some.inj h1)).symm
      rw [if_pos (ex.symm.trans g0e)] at h
      cases e5 : getF e.fs g.fs with
      | none => rw [e5] at h; cases h
      | some ds =>
        rw [e5] at h
        cases h
        obtain ⟨vs, h3, h4⟩ := getF_dp hn hd g.fs ds e5
        refine ⟨List.getElem?_set_self hσ, by rw [eg], ln g (sub g List.mem_cons_self), dx, fs, vs, rfl, hx, h3, fun p o hp ho => ?_⟩
        refine hq _ (upd G p (.frz o (.tup (.str g.tag :: vs)))) _ (Grow.lay l n hp ho) (.of (.tup (.inl (.inr ⟨o, upd_same⟩)) (.cons (.str g.tag) ?_)))
        exact (Grow.lay (o := .frz o (.tup (.str g.tag :: vs))) l n hp ho).g.dpAll _ _ h4
    · have nx : ¬ g0.x = g.x := of_decide_eq_false hb
      rw [if_neg (fun z => nx (g0e.trans z.symm))] at h
      exact ih (fun h hh => sub h (List.mem_cons_of_mem _ hh)) h
theorem hds_ok {X : Cx} {v : Str} (hN : X.N[1]? = some v) (hv : Vis X.env.scope v) (hd : (v == ("__debug__" : Str)) = false) (hcd : (v == ("__classdict__" : Str)) = false) {hs0 : List HE} (T : HEs X.K X.mg hs0) :
    ∀ es : List HX, (∀ e ∈ es, e.h ∈ hs0 ∧ e.l.map (·.1) = e.h.fs ∧ Gl X e.h.x ∧ (e.h.x == ("__debug__" : Str)) = false) → HdsAs X v (es.map (HX.text v)) (es.map fun e => (.ref e.h.C, fun a cls d => tFl a cls d e.h))
  | [], _ => .nil
  | e :: es, h => by
    obtain ⟨h1, h2, h3, h4⟩ := h e List.mem_cons_self
    exact .cons ⟨h3, h4, .inl (T.g _ h1)⟩ (fun a oe cls d pn hz hf => ss_fl (T.xf _ h1).1 (T.xf _ h1).2 hz hf hN hv hd hcd h2) (hds_ok hN hv hd hcd T es fun e' he => h e' (List.mem_cons_of_mem _ he))
section
variable {P : Program} {w : World} {K : PySem.W.Frag} {mg : Str → Option Value} {base : Heap}
theorem ok_fault {st : Stmt} {f : Addr} {fd : FuncData} {N : List Str} {k j : Nat} {e0 : HX} {es : List HX} {p1 p2 p3 p4 p5 p6 : Pos} (F : Fun K "_law_fault" "_law_fault" st f fd) (S : FnScope N ["work"] (defScope st)) (eN : N = (["work", "fault"] : List Str))
    (v0 : (defScope st).names.lookup ("work" : Str) = some .local) (v1 : (defScope st).names.lookup ("fault" : Str) = some .local)
    (eb : defBody st = [.Try [.Expr (.Call (.Name "work" p1) [] [] p2) p3] ((e0 :: es).map (HX.text "fault")) [] [] p4, .Return (some (.Constant .none j p5)) p6])
    (T : HEs K mg ((e0 :: es).map (·.h))) (he : ∀ e ∈ e0 :: es, e.l.map (·.1) = e.h.fs ∧ (defScope st).names.lookup e.h.x = some .globalImplicit ∧ (e.h.x == ("__debug__" : Str)) = false ∧ e.h.fs.length < 1000) :
    FnG P w K mg base (L2.CX P w) (k + 1) f fd ["work"] (spFault P w K mg base k ((e0 :: es).map (·.h))) := by
  refine okG F S (fun vs H Q E h => ?_) (fun cdv A outer s H vs Q E hr h => ?_)
  · obtain ⟨f, G, r, d, rfl, _⟩ := h
    rfl
  · obtain ⟨g, G, r, d, rfl, rd, hd, q⟩ := h
    subst eN
    rw [eb]
    have takes : Takes (cxOf (L2.CX P w) P w K mg base ["work", "fault"] "_law_fault" (defScope st) f cdv A outer s H E) (fun cls d _ H => E cls d H) := takes_of rfl rfl rfl rfl
    refine ⟨_, pss_cons (ps_try_manyAs (tb := fun W => tDrop (tClo (cxOf (L2.CX P w) P w K mg base ["work", "fault"] "_law_fault" (defScope st) f cdv A outer s H E) W 0 k)) (i := 1) (n := "fault") S.nd rfl v1 rfl rfl takes (fun W pn xe tk _ => pss_one (ps_expr (pe_clo (X := (cxOf (L2.CX P w) P w K mg base ["work", "fault"] "_law_fault" (defScope st) f cdv A outer s H E).tr pn xe) (i := 0) (a := "work") tk hr rfl (.inl v0))))
      (hds_ok rfl (.inl v1) (by decide) (by decide) T (e0 :: es) fun e hm => ⟨List.mem_map_of_mem hm, (he e hm).1, (he e hm).2.1, (he e hm).2.2.1⟩)) (pss_one (ps_ret pe_non)), ?_⟩
    refine ⟨g, G, r, rfl, rd, ?_⟩
    obtain ⟨cs, ks, GL, act, tr, kn, le, ng, _⟩ := rd
    cases r with
    | no => cases hd
    | ok d0 =>
      cases hd
      exact fun v G' H' gr _ => q .non G' H' gr (.of .non)
    | ex e =>
      intro cls dd G' H' gr rx
      obtain ⟨g0, g0m, g0e⟩ := faultD_in hd
      have key := many_ok (C := ⟨P, w, K, 0⟩) T (fun h hm => by obtain ⟨e', h1, rfl⟩ := List.mem_map.mp hm; exact (he e' h1).2.2.2) g0m g0e (Wout := fun cls d _ H => E cls d H) (DE := { nx := fun _ H' => Q .non H', rt := Q, bk := fun _ _ => False, ct := fun _ _ => False }) (σ := L2.start ["work", "fault"] [.ref g]) gr.l gr.n rx (show 1 < 2 by decide) (fun v G2 H2 g2 fv => q v G2 H2 (gr.trans g2) fv) _ (fun h hm => hm) hd
      rw [List.map_map] at key
      exact key
end
end Sx

namespace Sx
open PySem PySem.Spec L2
open PyProof.Rows hiding St

/-! ### _law_due -/
section
variable (P : Program) (w : World) (K : PySem.W.Frag) (mg : Str → Option Value) (base : Heap) (k : Nat) (hs : List HE)
/-- a pair: what is to be called, what is due -/
def DueIt (G H : Hp) (x : V) : Prop := ∃ (t f : Addr) (v : V) (o : Obj) (r : RD) (d : D), x = .ref t ∧ H t = some (.frz o (.tup [.ref f, v])) ∧ Ready P w K mg base k f r G H ∧ Dp K G v d ∧ faultR hs r = some d ∧ reOk d = true
def spDue : Sp := fun vs H Q _ => ∃ l ts G, vs = [.ref l] ∧ H l = some (.lst ts) ∧ Le G H ∧ NG G ∧ ts.length < 1000 ∧ (∀ x ∈ ts, DueIt P w K mg base k hs G H x) ∧ ∀ G' H', Grow G H G' H' → Q (.bl true) H'
end
section
variable {P : Program} {w : World} {K : PySem.W.Frag} {mg : Str → Option Value} {base : Heap} {k : Nat} {hs : List HE}
theorem DueIt.grow {G H G' H' : Hp} {x : V} (h : DueIt P w K mg base k hs G H x) (g : Grow G H G' H') : DueIt P w K mg base k hs G' H' x := by
  obtain ⟨t, f, v, o, r, d, e1, e2, e3, e4, e5, e6⟩ := h
  exact ⟨t, f, v, o, r, d, e1, (g.k _ _ e2).1, e3.grow g, g.g.dp _ _ e4, e5, e6⟩
end
theorem call_allB {X : Cx} (hc : X.calm = true) : CallR X (.builtin "all") (fun xs H Q => ∃ (a : Addr) (n : Nat), xs = [.ref a] ∧ H a = some (.lst (List.replicate n (.bl true))) ∧ Q (.bl true) H) := by
  intro pins s σ H xs us Q I r ⟨a, n, e, ha, q⟩
  subst e
  obtain ⟨u, rfl, rx⟩ := vals1 r
  have hd : RdD X.K H H (.ref a) (.list (List.replicate n (.bool true))) := ⟨a, _, rfl, .inl (.inl ha), by
    induction n generalizing H with
    | zero => exact .nil
    | succ n ih => rw [List.replicate_succ, List.replicate_succ]; exact .cons (.bl true) (by
        clear ih ha
        induction n with
        | zero => exact .nil
        | succ n ih => rw [List.replicate_succ, List.replicate_succ]; exact .cons (.bl true) ih)⟩
  obtain ⟨l, vs, its, as, rfl, hl, ra, rv, t1, _⟩ := list_reads I (Le.refl H) rx hd
  have e : ∀ n, truAll (List.replicate n (.bool true)) = some (List.replicate n true) := by
    intro n
    induction n with
    | zero => rfl
    | succ n ih => rw [List.replicate_succ, List.replicate_succ]; simp only [truAll, truD, ih]
  refine PySem.W.all_list_data (I.ok.hd hc) hl (by simpa using ra) (dp_plainAll _ _ t1) (dpAll_fits I t1 (e n)) fun h' tk k => ?_
  rw [all_of (e n)]
  have : (List.replicate n true).all id = true := by simp
  rw [this]
  exact ⟨.bl true, H, I.kept k, rfl, q⟩
def tDueE (X : Cx) (k : Nat) (hs : List HE) : TE := fun σ H Q => tRp X (tCallS (spFault X.prog X.w X.K X.mg X.base k hs) (WE fun _ _ _ _ => False) (tCons (tVar 1) tNil)) σ H fun x H1 => tRp X (tVar 2) σ H1 fun y H2 => ∃ z, x = .str z ∧ y = .str z ∧ Q (.bl true) H2
theorem pe_dueE {X : Cx} {k : Nat} {hs : List HE} {fF : Addr} {fdF : FuncData} {p2 p3 p4 p5 p6 p7 p8 p9 p10 : Pos} (hgu : X.A.guards = some []) (hu : X.A.units + 100 < cLine) (hr : RoomG (k + 1) X.A) (wr : Gl X "repr") (wf : Gl X "_law_fault") (n1 : X.N[1]? = some ("work" : Str)) (n2 : X.N[2]? = some ("due" : Str)) (v1 : Vis X.env.scope "work") (v2 : Vis X.env.scope "due")
    (FF : FnG X.prog X.w X.K X.mg X.base (L2.CX X.prog X.w) (k + 1) fF fdF ["work"] (spFault X.prog X.w X.K X.mg X.base k hs)) (gF : X.mg "_law_fault" = some (.ref fF)) (kF : PySem.W.keepIn X.K (.ref fF) = true) (bF : Binds X.K fdF ["work"] []) (mr : X.mg "repr" = none) :
    PE X (.Compare (.Call (.Name "repr" p2) [.Call (.Name "_law_fault" p3) [.Name "work" p4] [] p5] [] p6) [.Eq] [.Call (.Name "repr" p7) [.Name "due" p8] [] p9] p10) (tDueE X k hs) :=
  ⟨fun pins s σ H Q I h => wpAny_Compare1 (binT (pe_rp hgu (by omega) wr mr (pe_callG FF hr wf gF kF bF (fun σ => passAt LamX.takes0 σ) (pa_cons (pv 1 n1 v1) pa_nil))) (pe_rp hgu (by omega) wr mr (pv 2 n2 v2)) I h
        fun v u s2 x y H2 I2 rx ry q => eq_run hu I2 rx ry q) (by exact nomark _)⟩
theorem pss_due {X : Cx} {k kt : Nat} {hs : List HE} {fF : Addr} {fdF : FuncData} {scope : Scope} {p1 p2 p3 p4 p5 p6 p7 p8 p9 p10 p11 p12 p13 p14 p15 p16 p17 : Pos} (hc : X.calm = true) (nd : X.N.Nodup) (n0 : X.N[0]? = some ("calls" : Str)) (n1 : X.N[1]? = some ("work" : Str)) (n2 : X.N[2]? = some ("due" : Str)) (hgu : X.A.guards = some []) (hu : X.A.units + 100 < cLine) (hr : RoomG (k + 1) X.A)
    (v0 : X.env.scope.names.lookup ("calls" : Str) = some .local) (va : Gl X "all")
    (w1 : (relS scope X.env.scope).names.lookup ("work" : Str) = some .local) (w2 : (relS scope X.env.scope).names.lookup ("due" : Str) = some .local) (wr : (relS scope X.env.scope).names.lookup ("repr" : Str) = some .globalImplicit) (wf : (relS scope X.env.scope).names.lookup ("_law_fault" : Str) = some .globalImplicit)
    (bo : BlkOk X.N X.env.scope scope [("work", 1), ("due", 2)])
    (FF : FnG X.prog X.w X.K X.mg X.base (L2.CX X.prog X.w) (k + 1) fF fdF ["work"] (spFault X.prog X.w X.K X.mg X.base k hs)) (gF : X.mg "_law_fault" = some (.ref fF)) (kF : PySem.W.keepIn X.K (.ref fF) = true) (bF : Binds X.K fdF ["work"] []) (mr : X.mg "repr" = none) (ma : X.mg "all" = none) :
    PSs X [.Return (some (.Call (.Name "all" p1) [.ListComp (.Compare (.Call (.Name "repr" p2) [.Call (.Name "_law_fault" p3) [.Name "work" p4] [] p5] [] p6) [.Eq] [.Call (.Name "repr" p7) [.Name "due" p8] [] p9] p10) [⟨.Tuple [.Name "work" p11, .Name "due" p12] kt p13, .Name "calls" p14, [], 0⟩] scope p15] [] p16)) p17]
      (fun D σ H => ∃ l ts G, σ[0]? = some (some (.ref l)) ∧ 2 < σ.length ∧ H l = some (.lst ts) ∧ Le G H ∧ NG G ∧ ts.length < 1000 ∧ (∀ x ∈ ts, DueIt X.prog X.w X.K X.mg X.base k hs G H x) ∧ ∀ G' H', Grow G H G' H' → D.rt (.bl true) H') := by
  have main := pss_one (ps_ret (pos := p17) (pe_callB (p := p1) (pos := p16) (call_allB (X := X) hc) va ma PyProof.Rows.boot_all (pa_cons (pe_lc (pos := p15) (g := gTup X.K 2 (gCons (gName 1) (gCons (gName 2) gNil))) (te := tDueE X k hs) (own := [("work", 1), ("due", 2)]) hc nd (pi_list (pv (pos := p14) 0 n0 (.inl v0))) bo
      (fun s5 H5 C5 cl5 fp5 => pg_tup (X := X.blk s5 H5 scope (compEnvC scope cl5 C5 X.env) fp5) (n := 2) (k := kt) (pos := p13) hc (pgs_cons (pg_name (X := X.blk s5 H5 scope (compEnvC scope cl5 C5 X.env) fp5) (pos := p11) (i := 1) nd n1 (.inl w1) (.inr w1)) (pgs_cons (pg_name (X := X.blk s5 H5 scope (compEnvC scope cl5 C5 X.env) fp5) (pos := p12) (i := 2) nd n2 (.inl w2) (.inr w2)) pgs_nil))) (fun _ _ _ _ _ => pts_nil)
      (fun s5 H5 C5 cl5 fp5 => pe_dueE (p2 := p2) (p3 := p3) (p4 := p4) (p5 := p5) (p6 := p6) (p7 := p7) (p8 := p8) (p9 := p9) (p10 := p10) (X := X.blk s5 H5 scope (compEnvC scope cl5 C5 X.env) fp5) hgu hu hr wr wf n1 n2 (.inl w1) (.inl w2) FF gF kF bF mr)) pa_nil)))
  refine ⟨fun pins s σ H D I h => main.run pins s σ H D I ?_⟩
  obtain ⟨l, ts, G, h0, hlen, hl, le, ng, len, its, q⟩ := h
  refine ⟨.ref l, h0, l, rfl, ⟨ts, .inl (.inl hl)⟩, fun D0 hD => ?_⟩
  have gD : ∀ {G' H' : Hp}, Grow G H G' H' → True := fun _ => trivial
  have gD0 : G D0 = none := by
    cases e : G D0 with
    | none => rfl
    | some o => have := le D0 o e; rw [hD] at this; cases this
  refine lc_list (K := X.K) (a := l) (xs := ts) (fun i Hx => Hx D0 = some (.lst (List.replicate i (.bl true))) ∧ ∃ G2, Grow G H G2 Hx ∧ G2 D0 = none) ⟨upd_same, G, Grow.own le ng hD, gD0⟩ (fun i Hx _ ⟨_, G2, g2, _⟩ => .inl (.inl (g2.k _ _ hl).1)) ?_ ?_
  · rintro i x Hx hx ⟨hlst, G2, g2, g0⟩
    have hi : i < 1000 := by have := (List.getElem?_eq_some_iff.mp hx).1; omega
    obtain ⟨t, f, v, o, r, d, rfl, ht, rd, dv, hr2, ok⟩ := (its x (List.mem_of_getElem? hx)).grow g2
    refine ⟨t, [.ref f, v], rfl, .inl (.inr ⟨o, ht⟩), rfl, .ref f, [v], rfl, v, [], rfl, rfl, ?_⟩
    have wl : (L2.wipe σ [1, 2]).length = σ.length := wipe_length ..
    refine ⟨?_, ?_⟩
    · show L2.wipe (((L2.wipe σ [1, 2]).set 1 (some (.ref f))).set 2 (some v)) [1, 2] = L2.wipe σ [1, 2]
      apply List.ext_getElem?
      intro j
      rw [wipe_get, wipe_get]
      by_cases hj : j ∈ [1, 2]
      · rw [if_pos hj, if_pos hj, List.length_set, List.length_set, wl]
      · rw [if_neg hj, if_neg hj, List.getElem?_set_ne (fun z => hj (by rw [← z]; decide)), List.getElem?_set_ne (fun z => hj (by rw [← z]; decide)), wipe_get, if_neg hj]
    refine ⟨.ref f, ?_, ⟨f, G2, r, d, rfl, rd, hr2, fun v' G3 H3 g3 fv => ?_⟩⟩
    · show (((L2.wipe σ [1, 2]).set 1 (some (.ref f))).set 2 (some v))[1]? = _
      rw [List.getElem?_set_ne (by decide), List.getElem?_set_self (by rw [wl]; omega)]
    have nd : isDict d = false := by cases d <;> first | rfl | cases dv
    refine ⟨v', d, rfl, (fr_pa (b := 0) fv).dp nd |> g3.l.dp _ _, ok, v, ?_, v, d, rfl, (g3.g.trans g3.l).dp _ _ dv, ok, _, rfl, rfl, _, (g3.k _ _ hlst).1, ?_, ?_⟩
    · show (((L2.wipe σ [1, 2]).set 1 (some (.ref f))).set 2 (some v))[2]? = _
      rw [List.getElem?_set_self (by rw [List.length_set, wl]; omega)]
    · rw [List.length_replicate, sizeLine_eq]; omega
    · have g3D : G3 D0 = none := (g3.k _ _ hlst).2.trans g0
      refine ⟨by rw [upd_same, List.replicate_succ'], G3, ?_, g3D⟩
      have g23 := g2.trans g3
      exact ⟨fun a u e => by rw [upd_ne (ne_of_none e g3D)]; exact g23.l a u e, g23.n, g23.g, fun a u e => ⟨by rw [upd_ne (ne_of_none e hD)]; exact (g23.k a u e).1, (g23.k a u e).2⟩⟩
  · rintro Hx ⟨hlst, G2, g2, g0⟩
    exact ⟨D0, ts.length, rfl, hlst, q G2 Hx g2⟩
end Sx

namespace Sx
open PySem PySem.Spec L2
open PyProof.Rows hiding St
section
variable {P : Program} {w : World} {K : PySem.W.Frag} {mg : Str → Option Value} {base : Heap}
theorem ok_due {st : Stmt} {f fF : Addr} {fd fdF : FuncData} {N : List Str} {k kt : Nat} {hs : List HE} {scope : Scope} {p1 p2 p3 p4 p5 p6 p7 p8 p9 p10 p11 p12 p13 p14 p15 p16 p17 : Pos} (F : Fun K "_law_due" "_law_due" st f fd) (S : FnScope N ["calls"] (defScope st)) (eN : N = (["calls", "work", "due"] : List Str))
    (v0 : (defScope st).names.lookup ("calls" : Str) = some .local) (va : (defScope st).names.lookup ("all" : Str) = some .globalImplicit)
    (w1 : (relS scope (defScope st)).names.lookup ("work" : Str) = some .local) (w2 : (relS scope (defScope st)).names.lookup ("due" : Str) = some .local) (wr : (relS scope (defScope st)).names.lookup ("repr" : Str) = some .globalImplicit) (wf : (relS scope (defScope st)).names.lookup ("_law_fault" : Str) = some .globalImplicit)
    (bo : BlkOk N (defScope st) scope [("work", 1), ("due", 2)])
    (eb : defBody st = [.Return (some (.Call (.Name "all" p1) [.ListComp (.Compare (.Call (.Name "repr" p2) [.Call (.Name "_law_fault" p3) [.Name "work" p4] [] p5] [] p6) [.Eq] [.Call (.Name "repr" p7) [.Name "due" p8] [] p9] p10) [⟨.Tuple [.Name "work" p11, .Name "due" p12] kt p13, .Name "calls" p14, [], 0⟩] scope p15] [] p16)) p17])
    (FF : FnG P w K mg base (L2.CX P w) (k + 1) fF fdF ["work"] (spFault P w K mg base k hs)) (gF : mg "_law_fault" = some (.ref fF)) (kF : PySem.W.keepIn K (.ref fF) = true) (bF : Binds K fdF ["work"] []) (mr : mg "repr" = none) (ma : mg "all" = none) :
    FnG P w K mg base (L2.CX P w) (k + 2) f fd ["calls"] (spDue P w K mg base k hs) := by
  refine okG F S (fun vs H Q E h => ?_) (fun cdv A outer s H vs Q E hr h => ?_)
  · obtain ⟨l, ts, G, rfl, _⟩ := h
    rfl
  · obtain ⟨l, ts, G, rfl, hl, le, ng, len, its, q⟩ := h
    subst eN
    rw [eb]
    have hu := roomU hr
    exact ⟨_, pss_due (X := cxOf (L2.CX P w) P w K mg base ["calls", "work", "due"] "_law_due" (defScope st) f cdv A outer s H E) rfl S.nd rfl rfl rfl hr.g hu hr v0 va w1 w2 wr wf bo FF gF kF bF mr ma, l, ts, G, rfl, (show 2 < 3 by decide), hl, le, ng, len, its, q⟩
end
end Sx

namespace Sx
open PySem PySem.Spec L2
open PyProof.Rows hiding St

/-! ### calls = [(lambda: .., due)]; calls.append(..); return _law_due(calls) -/
def noOwn (α : AS) : Bool := α.sl.all fun o => match o with
  | some sv => !sv.own
  | none => true
theorem noOwn_get {α : AS} (h : noOwn α = true) {i : Nat} {sv : SV} (e : getS α i = some sv) : sv.own = false := by
  unfold getS at e
  cases q : α.sl[i]? with
  | none => rw [q] at e; cases e
  | some o =>
    rw [q] at e
    cases o with
    | none => cases e
    | some s =>
      cases e
      have := List.all_eq_true.mp h _ (List.mem_of_getElem? q)
      simpa using this
theorem not_ownD {C : Ct} {α : AS} {σ : St} {G H : Hp} (rel : Rel C α σ G H) (h : noOwn α = true) {a : Addr} {o : HO} (e : H a = some o) (n : ∀ kvs, o ≠ .dK kvs) : ¬ Own C α σ a := by
  rintro (⟨h1, rfl⟩ | ⟨i, sv, h1, h2, _⟩)
  · cases q : α.pn with
    | none => rw [q] at h1; cases h1
    | some p =>
      obtain ⟨_, c, h3, _⟩ := rel.pen p q
      rw [e] at h3
      exact n _ (Option.some.inj h3)
  · rw [noOwn_get h h1] at h2; cases h2
/-- what is kept but at P -/
structure GrowP (P : Addr) (G H G' H' : Hp) : Prop where
  g : Le G G'
  k : ∀ a o, a ≠ P → (∀ kvs, o ≠ .dK kvs) → H a = some o → H' a = some o ∧ G' a = G a
def PreAct (X : Cx) (k : Nat) (α : AS) (f : Addr) (r : RD) (ks : List (Addr × HO)) : Prop := ∀ (pins : List (Addr × Obj)) (σ : St) (G H : Hp) (s : Shared) (pa : Addr) (cs : Ob), Inv X pins σ H s → Rel (ct X pa) α σ G H →
  (∀ x c, X.env.cells.lookup x = some c → ∃ o, cs.lookup c = some o) → (∀ b o, cs.lookup b = some o → s.heap.get? b = some o) → Act X.prog X.w X.K X.mg X.base k cs ks G f r
def okH (o : HO) : Prop := (∀ kvs, o ≠ .dK kvs) ∧ ∀ xs, o ≠ .lst xs
def LItem (X : Cx) (P k : Nat) (hs : List HE) (α : AS) (G H : Hp) (x : V) : Prop := ∃ (t f : Addr) (v : V) (o : Obj) (ks : List (Addr × HO)) (r : RD) (d : D), x = .ref t ∧ t ≠ P ∧ H t = some (.frz o (.tup [.ref f, v])) ∧ (∀ p ∈ ks, H p.1 = some p.2 ∧ p.1 ≠ P ∧ okH p.2) ∧
  PreAct X k α f r ks ∧ Dp X.K G v d ∧ faultR hs r = some d ∧ reOk d = true
theorem LItem.grow {X : Cx} {P k : Nat} {hs : List HE} {α : AS} {G H G' H' : Hp} {x : V} (h : LItem X P k hs α G H x) (g : GrowP P G H G' H') : LItem X P k hs α G' H' x := by
  obtain ⟨t, f, v, o, ks, r, d, e1, e0, e2, e3, e4, e5, e6⟩ := h
  exact ⟨t, f, v, o, ks, r, d, e1, e0, (g.k _ _ e0 (fun _ z => by cases z) e2).1, fun p hp => ⟨(g.k _ _ (e3 p hp).2.1 (e3 p hp).2.2.1 (e3 p hp).1).1, (e3 p hp).2⟩, e4, g.g.dp _ _ e5, e6⟩
/-- a lambda of the text whose body does b -/
structure LamI (X : Cx) (k : Nat) (params : Arguments) (body : Expr) (scope : Scope) (b : EF) : Prop where
  L : LamX.LamS X.env.scope scope
  hdef : defaultsOf params X.env = ([], [])
  hbind : ∀ (q : Str) (cl : List (Str × Addr)) (pm cv ctv : Value), bindArgs (PySem.W.kla_fn "<lambda>" q params body scope cl pm cv ctv) ⟨[], []⟩ = pure []
  hbody : ∀ (A : Around) (outer : List Env) (s : Shared) (H : Hp) (E : XK) (f c' : Addr), RoomG k (A.deeper (LamX.lamEnv X scope s.heap.objs.size f c')) → Takes (LamX.lamCx X A outer s H E scope f c') (fun cls d _ H => E cls d H) → SE (LamX.lamCx X A outer s H E scope f c') (fun cls d _ H => E cls d H) body b
theorem rel_but {C : Ct} {α : AS} {σ : St} {G H H1 : Hp} {P : Addr} (rel : Rel C α σ G H) (no : noOwn α = true) (gP : G P = none) (k : ∀ b o, b ≠ P → H b = some o → H1 b = some o) (hP : ∀ kvs, H P ≠ some (.dK kvs)) : Rel C α σ G H1 where
  le := fun a o e => k a o (ne_of_none e gP) (rel.le a o e)
  nt := rel.nt
  len := rel.len
  sl := fun i sv e => by
    obtain ⟨u, h1, h2⟩ := rel.sl i sv e
    have := noOwn_get no e
    cases sv with
    | fr d => exact ⟨u, h1, h2⟩
    | ol _ => cases this
    | od _ => cases this
    | bor _ => exact ⟨u, h1, h2⟩
    | pen => exact ⟨u, h1, h2⟩
  apart := rel.apart
  pen := fun p e => by
    obtain ⟨h1, c, h2, h3⟩ := rel.pen p e
    exact ⟨h1, c, k _ _ (fun z => hP _ (by rw [← z]; exact h2)) h2, h3⟩
  ps := rel.ps
  pne := rel.pne
section
variable {X : Cx} {W : WX} {P c : Addr} {k ic : Nat} {hs : List HE} {α : AS} {params : Arguments} {body ed : Expr} {scope : Scope} {b fd : EF}
theorem item_go {pa : Addr} {σ : St} {G H : Hp} {d : D} {Q : VK} (LI : LamI X k params body scope b) (rel : Rel (ct X pa) α σ G H) (no : noOwn α = true) (tab : LamX.TabS H P (lamQ X)) (gP : G P = none)
    (e1 : fd α = .ok (.fr d) α) (e2 : faultR hs (outE (b (frA α))) = some d) (e3 : reOk d = true)
    (h : ∀ t G' H', Rel (ct X pa) α σ G' H' → LamX.TabS H' P (lamQ X) → G' P = none → GrowP P G H G' H' → (∀ a, H a ≠ none → a ≠ t) → LItem X P (k + 1) hs α G' H' (.ref t) → Q (.ref t) H') :
    tTupF (tCons (tLam2 X P params body scope) (tCons (tE X W fd) tNil)) σ H Q := by
  have hP : ∃ ps, H P = some (.tbl ps) := by obtain ⟨ps, h1, _⟩ := tab; exact ⟨ps, h1⟩
  obtain ⟨ps, hP⟩ := hP
  refine ⟨tab, fun f c' pm ctv H1 k1 tab1 f0 f1 c1 => ?_⟩
  have rel1 := rel_but rel no gP k1 (fun kvs z => by rw [hP] at z; cases z)
  refine ⟨pa, α, G, rel1, ?_⟩
  rw [e1]
  intro v G2 H2 rel2 st2 rv nv
  have nd : isDict d = false := by
    cases q : outE (b (frA α)) with
    | no => rw [q] at e2; cases e2
    | ok y => rw [q] at e2; cases e2; rfl
    | ex e =>
      rw [q] at e2
      simp only [faultR] at e2
      have : ∀ hs : List HE, faultD hs e = some d → isDict d = false := by
        intro hs
        induction hs with
        | nil => intro z; cases z
        | cons g r ih =>
          intro z
          simp only [faultD] at z
          split at z
          · cases e5 : getF e.fs g.fs with
            | none => rw [e5] at z; cases z
            | some ds => rw [e5] at z; cases z; rfl
          · exact ih z
      exact this hs e2
  have dv : Dp X.K G2 v d := FrV.dp (show FrV (ct X pa) G2 v d from rv) nd
  refine ⟨by show 2 ≤ sizeLine; rw [sizeLine_eq]; decide, fun p o hp ho => ?_⟩
  have keep2 : ∀ a u, H1 a = some u → (∀ kvs, u ≠ .dK kvs) → H2 a = some u ∧ G2 a = G a := fun a u e n => st2.k a u e (not_ownD rel1 no e n)
  obtain ⟨ps1, t1, t2, t3⟩ := tab1
  have hP2 := (keep2 P _ t1 (fun _ z => by cases z))
  have up : ∀ a u, H2 a = some u → upd H2 p (.frz o (.tup [.ref f, v])) a = some u := fun a u e => by rw [upd_ne (ne_of_none e hp)]; exact e
  have nf : f ≠ P := fun z => by rw [z, hP] at f0; cases f0
  have nc : c' ≠ P := fun z => by rw [z, t1] at c1; cases c1
  have np : p ≠ P := fun z => by rw [z, hP2.1] at hp; cases hp
  refine h p G2 _ (rel2.laid _ hp) ⟨ps1, up _ _ hP2.1, t2, fun pos cv hc => ?_⟩ (hP2.2.trans gP) ⟨st2.g, fun a u na nd5 e => ?_⟩ (fun a ha z => ?_) ⟨p, f, v, o, [(f, exO f (lamO X params body scope pm c' ctv)), (c', LamX.CodeO c' (lamQ X))], _, d, rfl, np, upd_same, ?_, ?_, dv, e2, e3⟩
  · obtain ⟨c0, q1, q2⟩ := t3 pos cv hc
    exact ⟨c0, q1, up _ _ (keep2 _ _ q2 (fun _ z => by unfold LamX.CodeO at z; cases z)).1⟩
  · have := st2.k a u (k1 a u na e) (not_ownD rel1 no (k1 a u na e) nd5)
    exact ⟨up _ _ this.1, this.2⟩
  · subst z
    cases q : H a with
    | none => exact ha q
    | some u =>
      by_cases na : a = P
      · exact np na
      · have := st2.t a (by rw [k1 a u na q]; exact fun z => nomatch z)
        exact this hp
  · intro q hq
    rcases List.mem_cons.mp hq with rfl | hq
    · exact ⟨up _ _ (keep2 _ _ f1 (fun _ z => by unfold exO at z; cases z)).1, nf, (fun _ z => by unfold exO at z; cases z), fun _ z => by unfold exO at z; cases z⟩
    · rcases List.mem_cons.mp hq with rfl | hq
      · exact ⟨up _ _ (keep2 _ _ c1 (fun _ z => by unfold LamX.CodeO at z; cases z)).1, nc, (fun _ z => by unfold LamX.CodeO at z; cases z), fun _ z => by unfold LamX.CodeO at z; cases z⟩
      · cases hq
  · intro pins σ' G' H' s' pa' cs I' rel' hcs hcv
    exact act_of I' LI.L rel' hcs hcv List.mem_cons_self (List.mem_cons_of_mem _ List.mem_cons_self) LI.hbind rfl fun A outer s H E hr => LI.hbody A outer s H E f c' hr (takes_of rfl rfl rfl rfl)
end
end Sx

namespace Sx
open PySem PySem.Spec L2
open PyProof.Rows hiding St
section
variable {X : Cx} {P k ic : Nat} {hs : List HE} {α : AS}
theorem LItem.updL {G H : Hp} {x : V} {l : Addr} {ts : List V} {o5 : HO} (h : LItem X P k hs α G H x) (hl : H l = some (.lst ts)) : LItem X P k hs α G (upd H l o5) x := by
  obtain ⟨t, f, v, o, ks, r, d, e1, e0, e2, e3, e4, e5, e6⟩ := h
  refine ⟨t, f, v, o, ks, r, d, e1, e0, ?_, fun p hp => ⟨?_, (e3 p hp).2⟩, e4, e5, e6⟩
  · rw [upd_ne (ne_of e2 hl fun z => by cases z)]; exact e2
  · rw [upd_ne (ne_of (e3 p hp).1 hl ((e3 p hp).2.2.2 _))]; exact (e3 p hp).1
theorem LItem.laid {G H : Hp} {x : V} {l : Addr} {o5 : HO} (h : LItem X P k hs α G H x) (hl : H l = none) : LItem X P k hs α G (upd H l o5) x := by
  obtain ⟨t, f, v, o, ks, r, d, e1, e0, e2, e3, e4, e5, e6⟩ := h
  refine ⟨t, f, v, o, ks, r, d, e1, e0, ?_, fun p hp => ⟨?_, (e3 p hp).2⟩, e4, e5, e6⟩
  · rw [upd_ne (ne_of_none e2 hl)]; exact e2
  · rw [upd_ne (ne_of_none (e3 p hp).1 hl)]; exact (e3 p hp).1
theorem tabS_upd {H : Hp} {l : Addr} {ts : List V} {o5 : HO} {q : Str} (t : LamX.TabS H P q) (hl : H l = some (.lst ts) ∨ H l = none) : LamX.TabS (upd H l o5) P q := by
  obtain ⟨ps, t1, t2, t3⟩ := t
  have ne : ∀ a o, H a = some o → (∀ xs, o ≠ .lst xs) → upd H l o5 a = some o := fun a o e n => by
    have : a ≠ l := by
      rcases hl with hl | hl
      · exact ne_of e hl (n _)
      · exact ne_of_none e hl
    rw [upd_ne this]; exact e
  refine ⟨ps, ne _ _ t1 (fun _ z => by cases z), t2, fun pos cv hc => ?_⟩
  obtain ⟨c0, q1, q2⟩ := t3 pos cv hc
  exact ⟨c0, q1, ne _ _ q2 (fun _ z => by unfold LamX.CodeO at z; cases z)⟩
theorem rel_setN {C : Ct} {σ : St} {G H : Hp} {v : Option V} (rel : Rel C α σ G H) (e : getS α ic = none) : Rel C α (σ.set ic v) G H where
  le := rel.le
  nt := rel.nt
  len := by rw [List.length_set]; exact rel.len
  sl := fun i sv h => by
    have ne : ic ≠ i := fun z => by rw [← z, e] at h; cases h
    rw [List.getElem?_set_ne ne]
    obtain ⟨u, h1, h2⟩ := rel.sl i sv h
    refine ⟨u, h1, ?_⟩
    cases sv with
    | bor j => exact h2.elim
    | _ => exact h2
  apart := fun i j x y a hi hj ho1 ho2 h1 h2 => by
    have n1 : ic ≠ i := fun z => by rw [← z, e] at hi; cases hi
    have n2 : ic ≠ j := fun z => by rw [← z, e] at hj; cases hj
    rw [List.getElem?_set_ne n1] at h1
    rw [List.getElem?_set_ne n2] at h2
    exact rel.apart i j x y a hi hj ho1 ho2 h1 h2
  pen := rel.pen
  ps := rel.ps
  pne := fun hp i sv h ho => by
    have n1 : ic ≠ i := fun z => by rw [← z, e] at h; cases h
    rw [List.getElem?_set_ne n1]
    exact rel.pne hp i sv h ho
/-- the state with n pairs in the list -/
def TSt (X : Cx) (P k : Nat) (hs : List HE) (ic : Nat) (α : AS) (n : Nat) (σ : St) (H : Hp) : Prop := ∃ pa G l ts, Rel (ct X pa) α σ G H ∧ LamX.TabS H P (lamQ X) ∧ G P = none ∧ G l = none ∧ σ[ic]? = some (some (.ref l)) ∧ H l = some (.lst ts) ∧ ts.length = n ∧ ∀ x ∈ ts, LItem X P (k + 1) hs α G H x
/-- what a pair asks of the slots -/
def ItOk (hs : List HE) (α : AS) (b fd : EF) : Prop := ∃ d, fd α = .ok (.fr d) α ∧ faultR hs (outE (b (frA α))) = some d ∧ reOk d = true
def tC0 (X : Cx) (P k : Nat) (hs : List HE) (ic : Nat) (b fd : EF) : TS := fun D σ H => ∃ α pa G, Rel (ct X pa) α σ G H ∧ noOwn α = true ∧ getS α ic = none ∧ ic < σ.length ∧ LamX.TabS H P (lamQ X) ∧ G P = none ∧ ItOk hs α b fd ∧ ∀ σ' H', TSt X P k hs ic α 1 σ' H' → D.nx σ' H'
def tC1 (X : Cx) (P k : Nat) (hs : List HE) (ic : Nat) (b fd : EF) : TS := fun D σ H => ∃ α n, TSt X P k hs ic α n σ H ∧ n < 100 ∧ noOwn α = true ∧ ItOk hs α b fd ∧ ∀ σ' H', TSt X P k hs ic α (n + 1) σ' H' → D.nx σ' H'
variable {W : WX} {c : Addr} {params : Arguments} {body ed : Expr} {scope : Scope} {b fd : EF} {x : Str} {k0 : Nat} {p1 p2 p3 p4 p5 p6 : Pos}
theorem ps_call0 (hN : X.N.Nodup) (hi : X.N[ic]? = some x) (hx : Loc X.env.scope x) (hf : X.fn x = true ∨ X.env.scope.names.lookup x = some .local) (TB : LamX.TabB X.base X.mg c P) (hcode : X.env.code = .ref c) (LI : LamI X k params body scope b) (he : SE X W ed fd)
    (h1 : starEach [ed] X.env = (false, eval ed X.env) :: starEach [] X.env := by rfl) (hs5 : swapsWith (.List [.Tuple [.Lambda params body scope p1, ed] k0 p2] p3) (some (.Name x p4)) p5.line X.env = pure false := by rfl) :
    PS X (.Assign [.Name x p4] (.List [.Tuple [.Lambda params body scope p1, ed] k0 p2] p3) p5) (tC0 X P k hs ic b fd) := by
  have main := ps_set (pos' := p4) (pos := p5) hN hi hx (pe_lst (pos := p3) (pa_cons (pe_tupF (x1 := k0) (pos := p2) (pa_cons (pe_lam2 (pos := p1) TB hcode LI.L LI.hdef) (pa_cons he pa_nil h1))) pa_nil)) hs5 hf
  refine main.conseq fun D σ H ⟨α, pa, G, rel, no, hic, hl, tab, gP, ⟨d, e1, e2, e3⟩, h⟩ => ?_
  refine item_go LI rel no tab gP e1 e2 e3 fun t G' H' rel' tab' gP' g nt it => ?_
  refine ⟨by show 1 ≤ sizeLine; rw [sizeLine_eq]; decide, fun p hp => ?_⟩
  have gp : G' p = none := by
    cases e : G' p with
    | none => rfl
    | some o => have := rel'.le p o e; rw [hp] at this; cases this
  exact h _ _ ⟨pa, G', p, [.ref t], rel_setN (rel'.laid _ hp) hic, tabS_upd (ts := []) tab' (.inr hp), gP', gp, List.getElem?_set_self hl, upd_same, rfl, fun y hy => by
    rcases List.mem_cons.mp hy with rfl | hy
    · exact it.laid hp
    · cases hy⟩
theorem ps_call1 (hi : X.N[ic]? = some x) (hx : Vis X.env.scope x) (TB : LamX.TabB X.base X.mg c P) (hcode : X.env.code = .ref c) (LI : LamI X k params body scope b) (he : SE X W ed fd)
    (hdb : (x == ("__debug__" : Str)) = false := by decide) (hcd : (x == ("__classdict__" : Str)) = false := by decide)
    (h1 : starEach [ed] X.env = (false, eval ed X.env) :: starEach [] X.env := by rfl)
    (hbase : attributeBase (.Name x p1) "append" X.env (eval (.Name x p1) X.env) = eval (.Name x p1) X.env := by rfl)
    (hfew : ((backTo p4 (starEach [.Tuple [.Lambda params body scope p2, ed] k0 p3] X.env)).all (fun x => !x.1) && (backToKw p4 (keywordEach [] X.env)).all (fun x => x.1.isSome)
      && decide (([.Tuple [.Lambda params body scope p2, ed] k0 p3] : List Expr).length + ([] : List Keyword).length + (if ([] : List Keyword).isEmpty then 0 else 1) < 30)) = true := by rfl)
    (hline : (p5.endLine == p4.line) = true := by rfl) (hplain : (backTo p4 (starEach [] X.env)).any (·.1) = false := by rfl) (hsw : swapsWith (.Call (.Attribute (.Name x p1) "append" p5) [.Tuple [.Lambda params body scope p2, ed] k0 p3] [] p4) none p6.line X.env = pure false := by rfl) :
    PS X (.Expr (.Call (.Attribute (.Name x p1) "append" p5) [.Tuple [.Lambda params body scope p2, ed] k0 p3] [] p4) p6) (tC1 X P k hs ic b fd) := by
  have main := ps_expr (pos := p6) (pe_bm (apos := p5) (cpos := p4) PySem.F.plainAttrs_list PySem.F.slot_list_append PySem.F.type_list_append mt_append (pe_var (pos := p1) hi hx hdb hcd) (pa_cons (pe_tupF (x1 := k0) (pos := p3) (pa_cons (pe_lam2 (pos := p2) TB hcode LI.L LI.hdef) (pa_cons he pa_nil h1))) pa_nil) hbase hfew hline rfl hplain) hsw
  refine main.conseq fun D σ H ⟨α, n, ⟨pa, G, l, ts, rel, tab, gP, gl, hl, hlst, hn, its⟩, hn5, no, ⟨d, e1, e2, e3⟩, h⟩ => ?_
  refine ⟨_, hl, .inl ⟨rfl, ts, .of hlst⟩, ?_⟩
  refine item_go LI rel no tab gP e1 e2 e3 fun t G' H' rel' tab' gP' g nt it => ?_
  have lP : l ≠ P := fun z => by
    obtain ⟨ps, q, _⟩ := tab
    rw [z, q] at hlst; cases hlst
  have hl' := g.k l _ lP (fun _ z => by cases z) hlst
  refine ⟨l, ts, .ref t, rfl, rfl, hl'.1, by rw [hn, sizeLine_eq]; omega, ?_⟩
  refine h _ _ ⟨pa, G', l, ts ++ [.ref t], rel_but (P := l) rel' no (hl'.2.trans gl) (fun b o n e => by rw [upd_ne n]; exact e) (fun kvs z => by rw [hl'.1] at z; cases z), tabS_upd tab' (.inl hl'.1), gP', hl'.2.trans gl, hl, upd_same, by rw [List.length_append, hn]; rfl, fun y hy => ?_⟩
  rcases List.mem_append.mp hy with hy | hy
  · exact ((its y hy).grow g).updL hl'.1
  · rcases List.mem_cons.mp hy with rfl | hy
    · exact it.updL hl'.1
    · cases hy
end
end Sx

namespace Sx
open PySem PySem.Spec L2
open PyProof.Rows hiding St
theorem lk_mem {β : Type} {a : Addr} {o : β} : ∀ {l : List (Addr × β)}, l.lookup a = some o → (a, o) ∈ l := by
  intro l
  induction l with
  | nil => intro h; cases h
  | cons p l ih =>
    intro h
    rw [List.lookup_cons] at h
    cases q : a == p.1 with
    | true =>
      rw [q] at h
      have e1 : p.2 = o := Option.some.inj h
      have e2 : a = p.1 := eq_of_beq q
      have : (a, o) = p := by rw [e2, ← e1]
      rw [this]
      exact List.mem_cons_self
    | false => rw [q] at h; exact List.mem_cons_of_mem _ (ih h)
theorem mem_lk {β : Type} {a : Addr} {o : β} : ∀ {l : List (Addr × β)}, (a, o) ∈ l → ∃ o', l.lookup a = some o' := by
  intro l
  induction l with
  | nil => intro h; exact absurd h (List.not_mem_nil)
  | cons p l ih =>
    intro h
    rw [List.lookup_cons]
    cases q : a == p.1 with
    | true => exact ⟨p.2, rfl⟩
    | false =>
      rcases List.mem_cons.mp h with e | h
      · have : a = p.1 := congrArg Prod.fst e
        rw [this, beq_self_eq_true] at q
        exact absurd q (by decide)
      · exact ih h
theorem cells_list {X : Cx} {pins : List (Addr × Obj)} {σ : St} {H : Hp} {s : Shared} (I : Inv X pins σ H s) : ∃ cs : Ob, (∀ x c, X.env.cells.lookup x = some c → ∃ o, cs.lookup c = some o) ∧ (∀ b o, cs.lookup b = some o → s.heap.get? b = some o ∧ ∃ x, X.env.cells.lookup x = some b) := by
  refine ⟨X.env.cells.filterMap (fun p => if X.env.cells.lookup p.1 = some p.2 then (s.heap.get? p.2).map (fun o => (p.2, o)) else none), fun x c e => ?_, fun b o e => ?_⟩
  · obtain ⟨v, o, ho, _⟩ := I.cell x c e
    have hm : (c, o) ∈ X.env.cells.filterMap (fun p => if X.env.cells.lookup p.1 = some p.2 then (s.heap.get? p.2).map (fun o => (p.2, o)) else none) := by
      refine List.mem_filterMap.mpr ⟨(x, c), PySem.mem_of_lookup e, ?_⟩
      dsimp only
      rw [if_pos e, ho]
      rfl
    exact mem_lk hm
  · obtain ⟨p, h1, h2⟩ := List.mem_filterMap.mp (lk_mem e)
    split at h2
    · rename_i q
      cases ho : s.heap.get? p.2 with
      | none => rw [ho] at h2; cases h2
      | some o' =>
        rw [ho] at h2
        cases h2
        exact ⟨ho, p.1, q⟩
    · cases h2
section
variable {X : Cx} {P k ic : Nat} {hs : List HE}
theorem pe_dueCall {kd : Nat} {fD : Addr} {fdD : FuncData} {x : Str} {p1 p2 p3 : Pos} (hfn : ∀ x, X.fn x = true) (hst : X.stack = X.env :: X.outer) (hfr : X.env.frame = some X.env.locals) (FD : FnG X.prog X.w X.K X.mg X.base (L2.CX X.prog X.w) kd fD fdD ["calls"] (spDue X.prog X.w X.K X.mg X.base (k + 1) hs)) (hr : RoomG kd X.A)
    (hg : Gl X "_law_due") (hm : X.mg "_law_due" = some (.ref fD)) (hk : PySem.W.keepIn X.K (.ref fD) = true) (hb : Binds X.K fdD ["calls"] []) (hN : X.N[ic]? = some x) (hv : Vis X.env.scope x) (hd : (x == ("__debug__" : Str)) = false := by decide) (hcd : (x == ("__classdict__" : Str)) = false := by decide) :
    PE X (.Call (.Name "_law_due" p1) [.Name x p2] [] p3) (fun σ H Q => ∃ α n, TSt X P k hs ic α n σ H ∧ n < 1000 ∧ ∀ H', Q (.bl true) H') := by
  refine ⟨fun pins s σ H Q I h => ?_⟩
  obtain ⟨α, n, ⟨pa, G, l, ts, rel, tab, gP, gl, hl, hlst, hn, its⟩, hn5, hq⟩ := h
  refine wpAny_Call_Name_kw (ld_glob I hg hm ?_ (by decide))
  refine PySem.W.callWith_K (h₀ := X.base) I.ok.mod.kin hk (thn ((pa_cons (pe_var (pos := p2) hN hv hd hcd) pa_nil).run p3 pins s σ H (fun vs H1 => vs = [.ref l] ∧ H1 = H) I ⟨.ref l, hl, rfl, rfl⟩) fun us s1 ⟨vs, H1, I1, r, q1⟩ => ⟨I1.kIn, ?_⟩) rfl rfl
  obtain ⟨rfl, rfl⟩ := q1
  obtain ⟨cs, c1, c2⟩ := cells_list I1
  have f0 : Fr0 cs H1 := fun b o e => by
    obtain ⟨_, x, hx⟩ := c2 b o e
    exact I1.freeC x b hx
  have f0G : Fr0 cs G := fun b o e => by
    cases q : G b with
    | none => rfl
    | some u => have := rel.le b u q; rw [f0 b o e] at this; cases this
  have big : ∀ b o, cs.lookup b = some o → X.s_0.heap.objs.size ≤ b := fun b o e => by
    obtain ⟨_, x, hx⟩ := c2 b o e
    exact I1.ok.cab x b (hfn x) hx
  have out : ∀ b, b < X.s_0.heap.objs.size → cs.lookup b = none := fun b hb => by
    cases q : cs.lookup b with
    | none => rfl
    | some o => exact absurd (Nat.lt_of_lt_of_le hb (big b o q)) (Nat.lt_irrefl _)
  have kp : ∀ a o, H1 a = some o → trk H1 cs a = some o := fun a o e => by
    cases q : cs.lookup a with
    | none => rw [trk_out q]; exact e
    | some o' => rw [f0 a o' q] at e; cases e
  have nfr : ∀ b ∈ frs X.stack, cs.lookup b = none := fun b hm => by
    rcases List.mem_cons.mp (I1.stkSub b hm) with z | z
    · cases q : cs.lookup b with
      | none => rfl
      | some o =>
        obtain ⟨_, x, hx⟩ := c2 b o q
        exact absurd z (I1.cne x b hx)
    · obtain ⟨_, o, e, _⟩ := I1.ok.funs.mem z
      exact out b (Heap.lt_size e)
  have e0 : Env0 X.prog X.w X.K X.mg X.base X.A X.stack s1 (trk H1 cs) := env0_trk I1.env0 f0 (fun b o e => (c2 b o e).1) (fun b o e => out b (Nat.lt_of_lt_of_le (Heap.lt_size e) I1.ok.bsz)) nfr
  have hl5 : us.length = (["calls"] : List Str).length := by rw [← r.length]; rfl
  have b5 := hb s1 us I1.kIn (by rw [List.append_nil]; exact hl5)
  rw [List.append_nil] at b5
  refine wpAny_call (codeAny_mono (FD.run X.A X.stack s1 (trk H1 cs) ⟨us, []⟩ us [.ref l] (fun v H' => Tr cs H' ∧ Q v (drp H' cs)) (fun _ _ _ => False) hr e0 b5 r ⟨l, ts, G, rfl, kp _ _ hlst, fun a o e => kp a o (rel.le a o e), rel.nt, by omega, fun y hy => ?_, fun G' H' g => ⟨trk_tr.grow g, hq _⟩⟩) fun r' s' hq' => ?_)
  · obtain ⟨t, f, v, o, ks, r5, d, e1, e0', e2, e3, e4, e5, e6, e7⟩ := its y hy
    exact ⟨t, f, v, o, r5, d, e1, kp _ _ e2, ⟨cs, ks, G, e4 pins σ G H1 s1 pa cs I1 rel c1 (fun b o e => (c2 b o e).1), trk_tr, fun p hp => kp _ _ (e3 p hp).1, fun a o e => kp a o (rel.le a o e), rel.nt, Le.refl G, f0G⟩, e5, e6, e7⟩
  · cases r' with
    | error e =>
      obtain ⟨_, _, _, _, _, _, _, _, _, _, _, _, z⟩ := hq'
      exact z.elim
    | ok fl =>
      cases fl with
      | ret u => exact I1.after (ce_drp f0 (fun b o e => (c2 b o e).1) nfr hq')
      | next => exact False.elim hq'
      | brk => exact False.elim hq'
      | cont => exact False.elim hq'
end
end Sx

namespace Sx
open PySem PySem.Spec L2
open PyProof.Rows hiding St
/-! ### the law's def, entered from the claim's caller (no guard on the stack); its code's table is known -/
abbrev Told (s₁ : Shared) (r : Result) (s' : Shared) : Prop := r = .ok (.ret (.bool true)) ∧ OldK s₁.heap s'.heap ∧ s'.os = s₁.os ∧ AllBare s'.gens
/-- what is tracked when the law begins -/
noncomputable def H0 (K : PySem.W.Frag) (Pt a : Addr) (vs : List Value) (ns : List Int) : Hp := fun b => if b = Pt then some (.tbl #[]) else if b = a ∧ K.lookup a = none then some (.frz { cls := .type "list", data := .seq vs.toArray } (.lst (ns.map V.int))) else none
theorem told_ofT {P : Program} {w : World} {K : PySem.W.Frag} {mg mb : Str → Option Value} {fa a c Pt : Addr} {s₁ : Shared} {vs : List Value} {ns : List Int}
    (KX : K.In s₁.heap) (hns : s₁.heap.Ns mainGlobals mg) (hb : s₁.heap.Ns builtinsNs mb) (hbb : ∀ x : Str, x ≠ "__name__" → mb x = bootBuiltins x) (hlim : s₁.heap.NoLimit) (hg : s₁.gens = #[])
    (hT : s₁.heap.get? Pt = some { cls := .none, data := .fields #[] }) (nT : K.lookup Pt = none) (C : PySem.W.CodeHd s₁.heap c Pt)
    (hbm : ∃ (bm : Addr) (ob : Obj), mg "__builtins__" = some (.ref bm) ∧ bm ≠ builtinsNs ∧ s₁.heap.get? bm = some ob ∧ ob.cls = .type "module" ∧ ob.dict = some builtinsNs ∧ ob.data = .plain)
    (ha : s₁.heap.get? a = some { cls := .type "list", data := .seq vs.toArray }) (hi : IntsAre vs ns) (hl : ns.length ≤ sizeLine)
    (RUN : ∀ (base : Heap) (H : Hp), K.In base → base.Ns mainGlobals mg → LamX.TabB base mg c Pt → H Pt = some (.tbl #[]) → SqL K H a (ns.map V.int) → Env0 P w K mg base callerA [] s₁ H → codeAny (model P w) callerA (.call (.ref fa) ⟨[.ref a], []⟩) (CR (L2.CX P w) [] P w H s₁ (fun v _ => v = .bl true) fun _ _ _ => False) s₁) :
    codeAny (model P w) callerA (.call (.ref fa) ⟨[.ref a], []⟩) (Told s₁) s₁ := by
  have rv := vals_ints hi
  have aP : a ≠ Pt := fun z => by rw [z, hT] at ha; cases ha
  have inK : ∀ {b : Addr}, b ≠ Pt → (b = a → K.lookup a ≠ none) → H0 K Pt a vs ns b = none := fun {b} h1 h2 => by
    unfold H0
    rw [if_neg h1, if_neg (fun z => h2 z.1 z.2)]
  have hP : H0 K Pt a vs ns Pt = some (.tbl #[]) := by unfold H0; rw [if_pos rfl]
  have at_ : ∀ {b : Addr} {u : HO}, H0 K Pt a vs ns b = some u → (b = Pt ∧ u = .tbl #[]) ∨ (b = a ∧ K.lookup a = none ∧ u = .frz { cls := .type "list", data := .seq vs.toArray } (.lst (ns.map V.int))) := fun {b u} e => by
    unfold H0 at e
    by_cases h1 : b = Pt
    · rw [if_pos h1] at e; cases e; exact .inl ⟨h1, rfl⟩
    · rw [if_neg h1] at e
      by_cases h2 : b = a ∧ K.lookup a = none
      · rw [if_pos h2] at e; cases e; exact .inr ⟨h2.1, h2.2, rfl⟩
      · rw [if_neg h2] at e; cases e
  -- what is neither a list nor a table is in the base
  have base_of : ∀ {b : Addr} {o : Obj}, s₁.heap.get? b = some o → (∀ vs n, o.data ≠ .seq vs n) → o.data ≠ .fields #[] → (hidT s₁.heap (H0 K Pt a vs ns)).get? b = some o := fun {b o} e h1 h2 => hidT_get e (by
    refine inK (fun z => ?_) fun z => ?_
    · rw [z, hT] at e; cases e; exact (h2 rfl).elim
    · rw [z, ha] at e; cases e; exact (h1 _ _ rfl).elim)
  have nsK : ∀ {b : Addr} {m : Str → Option Value}, s₁.heap.Ns b m → (hidT s₁.heap (H0 K Pt a vs ns)).Ns b m := fun {b m} ⟨o, es, ep, e, d, r⟩ => ⟨o, es, ep, base_of e (fun _ _ z => by rw [d] at z; cases z) (fun z => by rw [d] at z; cases z), d, r⟩
  have hKb : K.In (hidT s₁.heap (H0 K Pt a vs ns)) := fun b o e => hidT_get (KX b o e) (inK (fun z => by rw [z, nT] at e; cases e) fun z q => by rw [z, q] at e; cases e)
  obtain ⟨mc, l1, l2⟩ := hlim
  have hok : HOk P w (H0 K Pt a vs ns) s₁.heap := fun b u e => by
    rcases at_ e with ⟨rfl, rfl⟩ | ⟨rfl, _, rfl⟩
    · exact hT
    · exact ⟨ha, (by rw [List.length_map]; exact hl), vs, _, rv, ha⟩
  have e0 : Env0 P w K mg (hidT s₁.heap (H0 K Pt a vs ns)) callerA [] s₁ (H0 K Pt a vs ns) := ⟨rfl, ⟨hKb, nsK hns, ⟨mb, nsK hb, hbb⟩, ⟨mc, nsK l1, l2⟩⟩, (fun b o e => of_hidT e), Nat.le_of_eq (hidT_size _ _), trivial, (fun b z => nomatch z), hok, AllBare.of_eq hg⟩
  have hS : SqL K (H0 K Pt a vs ns) a (ns.map V.int) := by
    cases hk : K.lookup a with
    | none => exact .inl (.inr ⟨_, by unfold H0; rw [if_neg aP, if_pos ⟨rfl, hk⟩]⟩)
    | some o =>
      obtain rfl : _ = o := Option.some.inj (ha.symm.trans (KX a o hk))
      exact .inr ⟨_, vs.toArray, _, hk, rfl, rfl, rfl, (by rw [List.size_toArray, hi.length]; exact hl), rv⟩
  have TB : LamX.TabB (hidT s₁.heap (H0 K Pt a vs ns)) mg c Pt := by
    refine ⟨?_, ?_, fun z => ?_⟩
    · obtain ⟨o, us, file, tf, flags, tg, inF, text, tt, e1, r1, r2, r3, r4, r5, r6, r7, r8, hne⟩ := C
      refine ⟨o, us, file, tf, flags, tg, inF, text, tt, base_of e1 (fun _ _ z => by rw [r2] at z; cases z) (fun z => ?_), r1, r2, r3, r4, r5, r6, r7, r8, hne⟩
      rw [r2] at z
      cases z
      simp at r3
    · obtain ⟨bm, ob, b1, b2, b3, b4, b5, b6⟩ := hbm
      refine ⟨bm, ob, b1, b2, fun q => ?_, fun q => ?_, base_of b3 (fun _ _ z => by rw [b6] at z; cases z) (fun z => by rw [b6] at z; cases z), b4, b5, b6⟩
      · obtain ⟨o, es, ep, e, hd, _⟩ := hns
        rw [q, e] at b3
        cases b3
        rw [hd] at b6
        cases b6
      · rw [q, hT] at b3
        cases b3
        cases b6
    · obtain ⟨o, es, ep, e, hd, _⟩ := hns
      rw [z, hT] at e
      cases e
      cases hd
  refine codeAny_mono (RUN _ _ hKb (nsK hns) TB hP hS e0) fun r s' h => ?_
  match r, h with
  | .error e, h =>
    obtain ⟨_, _, _, _, _, _, _, _, _, _, _, _, z⟩ := h
    exact z.elim
  | .ok .next, h => exact False.elim h
  | .ok .brk, h => exact False.elim h
  | .ok .cont, h => exact False.elim h
  | .ok (.ret u), ⟨v, H', os, bare, un, hok', rr, q⟩ =>
    have qq : v = .bl true := q
    rw [qq] at rr
    obtain rfl : u = Value.bool true := rr
    obtain ⟨more, z⟩ := un.tbls Pt #[] hP
    have grown : s'.heap.get? Pt = some { cls := .none, data := .fields (#[] ++ more) } := hok' Pt _ z
    have key : ∀ b o, b ≠ Pt → s₁.heap.get? b = some o → s'.heap.get? b = some o := fun b o nb e => by
      cases q : H0 K Pt a vs ns b with
      | none => exact un.keep b o e q (fun z => nomatch z) (fun z => nomatch z)
      | some u =>
        rcases at_ q with ⟨z, _⟩ | ⟨_, _, rfl⟩
        · exact absurd z nb
        · obtain ⟨e1, _⟩ := hok b _ q
          obtain ⟨e2, _⟩ := hok' b _ (un.frzs b _ _ q)
          exact e2.trans (e1.symm.trans e)
    refine ⟨rfl, ⟨fun b o e => ?_, fun b o e => ?_⟩, os, bare⟩
    · by_cases hb : b = Pt
      · rw [hb, hT] at e
        cases e
        rw [hb]
        exact .inr (.inl ⟨(C.tab hT).isCodeTable, rfl, #[], more, rfl, grown⟩)
      · exact .inl (key b o hb e)
    · by_cases hb : b = Pt
      · rw [hb]; exact ⟨_, grown⟩
      · exact ⟨o, key b o hb e⟩
end Sx

namespace Sx
open PySem PySem.Spec L2
open PyProof.Rows hiding St
/-- the law's promise, run from the claim's caller; Pt: its code's table -/
def LawRun (P : Program) (w : World) (K : PySem.W.Frag) (mg : Str → Option Value) (fa c Pt : Addr) : Prop := ∀ (base : Heap) (H : Hp) (s : Shared) (a : Addr) (ns : List Int), ns.length ≤ 63 → LamX.TabB base mg c Pt → H Pt = some (.tbl #[]) → SqL K H a (ns.map V.int) → Env0 P w K mg base callerA [] s H →
  codeAny (model P w) callerA (.call (.ref fa) ⟨[.ref a], []⟩) (CR (L2.CX P w) [] P w H s (fun v _ => v = .bl true) fun _ _ _ => False) s
theorem walk_gT {l : PySem.W.OpenLaw} {q : Program} {loose : List Str} {XP : (Str → Option Value) → Heap → Prop} {YP : World → Heap → Prop} {d : DefRec} {K : Params → PySem.W.Frag} (hn : l.most = some 63) (hdf : d.params.defaults = []) (hY : ∀ (w : World) (h : Heap), YP w h → (K w.params).In h)
    (F : ∀ (w : World) (mg : Str → Option Value) (fa : Addr) (h : Heap), YP w h → h.Ns mainGlobals mg → mg d.name = some (.ref fa) → ∃ (c Pt : Addr), h.get? Pt = some { cls := .none, data := .fields #[] } ∧ (K w.params).lookup Pt = none ∧ PySem.W.CodeHd h c Pt ∧ LawRun l.prog w (K w.params) mg fa c Pt) : PySem.W.WalkO q loose XP YP l.row.toRowW d [] (fun f vs => PySem.call f vs) := by
  refine Att.attach_call hn hdf fun w s0 s1 mg mb fa o pm cd doc a vs ns G Y ho hd hcd hmg hobj hints hlen hgn => ?_
  have KX := hY w _ Y
  obtain ⟨c, Pt, hT, nT, C, run⟩ := F w mg fa _ Y G.T.g hmg
  exact told_ofT KX G.T.g G.T.b G.T.builtins G.T.nolimit hgn hT nT C G.T.bmain hobj hints (Nat.le_trans hlen (by decide)) fun base H _ _ TB hP hS e0 => run base H s1 a ns hlen TB hP hS e0
/-- _law_pen(script) -/
def spPen (K : PySem.W.Frag) : Sp := fun vs H Q _ => ∃ (l : Addr) (ns : List Int), vs = [.ref l] ∧ SqL K H l (ns.map V.int) ∧ ns.length ≤ 1000 ∧
  ∀ H' a c fo, (∀ b o, H b = some o → H' b = some o) → H a = none → H c = none → H' a = some (.dK (penKV c ⟨ns, 0, 0, 0, fo⟩)) → H' c = some (.lst (ns.map V.int)) → a ≠ c → 0 ≤ fo → fo < 999999739 → Q (.ref a) H'
theorem ext_laid {H H1 : Hp} {a : Addr} {o : HO} (x : ∀ b o, H b = some o → H1 b = some o) (h : H1 a = none) : ∀ b o', H b = some o' → upd H1 a o b = some o' := fun b u e => by rw [upd_ne (ne_of_none (x b u e) h)]; exact x b u e
theorem pen_kv {c : Addr} {ns : List Int} {fo : Int} : mergeK [] [(kCells, .ref c), (kAt, .int 0), (kDigits, .int 0), (kCount, .int 0), (kFold, .int fo)] = penKV c ⟨ns, 0, 0, 0, fo⟩ := by
  have e : ∀ x y : Str, x ≠ y → (Sum.inr x : Key) ≠ Sum.inr y := fun x y n z => n (Sum.inr.inj z)
  rfl
/-- the state behind pen = _law_pen(script) -/
theorem rel_pen {C : Ct} {ns : List Int} {fo : Int} {n i : Nat} {σ : St} {c : Addr} {H : Hp} (hl : σ.length = n) (hpa : H C.pa = some (.dK (penKV c ⟨ns, 0, 0, 0, fo⟩))) (hpc : H c = some (.lst (ns.map V.int))) (nac : C.pa ≠ c) (hi : i < n) (hs : σ[i]? = some (some (.ref C.pa))) (hi2 : i < n) :
    Rel C ⟨(List.replicate n none).set i (some .pen), some ⟨ns, 0, 0, 0, fo⟩⟩ σ (upd (fun _ => none) c (.lst (ns.map V.int))) H := by
  have gs : ∀ {j : Nat} {sv : SV}, getS ⟨(List.replicate n none).set i (some .pen), some ⟨ns, 0, 0, 0, fo⟩⟩ j = some sv → j = i ∧ sv = .pen := fun {j sv} e => by
    unfold getS at e
    by_cases h : i = j
    · subst h
      simp only [List.getElem?_set_self (show i < (List.replicate n (none : Option SV)).length by rw [List.length_replicate]; exact hi)] at e
      cases e
      exact ⟨rfl, rfl⟩
    · simp only [List.getElem?_set_ne h] at e
      cases q : (List.replicate n (none : Option SV))[j]? with
      | none => rw [q] at e; cases e
      | some o =>
        have := List.eq_of_mem_replicate (List.mem_of_getElem? q)
        rw [q, this] at e
        cases e
  refine ⟨fun a o e => ?_, fun a o e => ?_, ?_, fun j sv e => ?_, fun i j x y a e1 e2 h1 => ?_, fun p e => ?_, fun i e => rfl, fun _ j sv e h => ?_⟩
  · by_cases h : a = c
    · rw [h, upd_same] at e; cases e; rw [h]; exact hpc
    · rw [upd_ne h] at e; cases e
  · by_cases h : a = c
    · rw [h, upd_same] at e; cases e; trivial
    · rw [upd_ne h] at e; cases e
  · rw [hl]; simp
  · obtain ⟨rfl, rfl⟩ := gs e
    exact ⟨_, hs, rfl⟩
  · obtain ⟨_, rfl⟩ := gs e1
    cases h1
  · cases e
    exact ⟨by rw [upd_ne nac], c, hpa, .inl (.inl upd_same)⟩
  · obtain ⟨_, rfl⟩ := gs e
    cases h
end Sx

namespace Sx
open PySem PySem.Spec L2
open PyProof.Rows hiding St
/-! facts of the top, as the fields ask them -/
section
variable {K : PySem.W.Frag} {mg : Str → Option Value} {h : Heap}
def mkDef (X : K.In h) (G : h.Ns mainGlobals mg) {x : Str} {st : Stmt} {ps : List Str} {f : Addr} {oc : Value} {od an : Option Addr} {osl : Array (Option Value)} {kV doc pm cdv ct : Value} (a : PySem.W.nsIn K mainGlobals x = some (some (.ref f)))
    (l : K.lookup f = some ⟨oc, od, .func (PySem.W.fnOf x x (defArgs st) (defBody st) (defScope st) .none kV doc pm an cdv ct), osl⟩) (c : PySem.W.codeIn K cdv x = true) (k : PySem.W.keepIn K (.ref f) = true)
    (hb : ∀ {fd : FuncData}, Fun K x x st f fd → Binds K fd ps []) : DefF K mg x st ps := ⟨f, _, fun_mk l c k, hb (fun_mk l c k), PySem.W.mg_of X G a⟩
def mkExc (X : K.In h) (G : h.Ns mainGlobals mg) {x qual : Str} {st : Stmt} {fields : List Str} {C f : Addr} {oc : Value} {od an : Option Addr} {osl : Array (Option Value)} {kV doc pm cdv ct : Value} {nm q : Str} {N : Addr} {bs bm : List Value} {sn : List Str} {sub : List Value} {ab : Bool} {col : Option Bool} {dd : Option Addr} {k0 k1 k2 k3 k5 : Option Value}
    (a : PySem.W.nsIn K mainGlobals x = some (some (.ref C))) (lC : K.lookup C = some (excClassObj nm q C N bs bm true sn sub ab col dd k0 k1 k2 k3 k5 "ValueError.__new__")) (hm : PySem.HandSPX.refsVE bm = true)
    (sa : PySem.W.findIn K (.ref C) "__setattr__" = some (some (.builtin "object.__setattr__"))) (eC : PySem.W.subIn K (.ref C) (.type "BaseException") = some true) (tC : PySem.W.typeIn K (.ref C) = some (.type "type")) (kC : PySem.W.keepIn K (.ref C) = true)
    (iC : PySem.W.findIn K (.ref C) "__init__" = some (some (.ref f))) (tI : PySem.W.typeIn K (.ref f) = some (.type "function"))
    (l : K.lookup f = some ⟨oc, od, .func (PySem.W.fnOf "__init__" qual (defArgs st) (defBody st) (defScope st) .none kV doc pm an cdv ct), osl⟩) (c : PySem.W.codeIn K cdv qual = true) (k : PySem.W.keepIn K (.ref f) = true)
    (hb : ∀ {fd : FuncData}, Fun K "__init__" qual st f fd → Binds K fd ("self" :: fields) []) (nf : ∀ y ∈ fields, PySem.W.findIn K (.ref C) y = some none) : ExcF K mg x qual st fields :=
  ⟨C, f, _, ⟨⟨nm, q, N, bs, bm, sn, sub, ab, col, dd, k0, k1, k2, k3, k5, lC, hm⟩, sa, eC, tC, kC⟩, iC, tI, fun_mk l c k, hb (fun_mk l c k), nf, PySem.W.mg_of X G a⟩
def mkBas (X : K.In h) (G : h.Ns mainGlobals mg) {x : Str} {B : Addr} (a : PySem.W.nsIn K mainGlobals x = some (some (.ref B))) (ga : PySem.W.specialIn K (.ref B) "__getattribute__" = some (some (.builtin "type.__getattribute__"))) (rd : PySem.W.readsIn K B (.type "type") = true)
    (ini : PySem.W.findCls K (.ref B) (.type "type") "__init__" = some (.val (.builtin "ValueError.__init__"))) : BasF K mg x := ⟨B, ⟨ga, rd, ini⟩, PySem.W.mg_of X G a⟩
theorem exm_mk {A C : Addr} {b : Bool} {cd : ClassData} (l : PySem.W.clsIn K C = some cd) (e : PySem.W.subIn K (.ref C) (.type "BaseException") = some true) (t : PySem.W.typeIn K (.ref C) = some (.type "type")) (s : PySem.W.subIn K (.ref A) (.ref C) = some b) : PySem.W.exmOne K (.ref A) (.ref C) = some b := by
  unfold PySem.W.exmOne
  rw [e, if_pos (by decide)]
  unfold PySem.W.kitCls
  have q : ((PySem.W.clsIn K C).isSome && PySem.W.typeIn K (.ref C) == some (.type "type")) = true := by rw [l, t]; rfl
  exact (if_pos q).trans s
/-- no tuple of the written part has a dict -/
def tkB : PySem.W.Frag → Bool
  | [] => true
  | (_, o) :: r => (match o.cls with
    | .type n => if n = "tuple" then o.dict.isNone else true
    | _ => true) && tkB r
theorem tk_of : ∀ {K : PySem.W.Frag}, tkB K = true → TK K
  | [], _ => fun a o e => by cases e
  | (b, o') :: r, h => fun a o e hc => by
    simp only [tkB, Bool.and_eq_true] at h
    rw [List.lookup_cons] at e
    cases q : a == b with
    | true =>
      rw [q] at e
      cases e
      have h1 := h.1
      rw [hc] at h1
      simpa using h1
    | false => rw [q] at e; exact tk_of h.2 a o e hc
end
end Sx

namespace Sx
namespace K64
open PySem PySem.Spec L2
open PyProof.Rows hiding St
def topS (i : Nat) : Stmt := PySem.Challenge.pw_boxfillings_k64_inner_numbers.main.body.getD i (.Pass ⟨0, 0, 0, 0⟩)
abbrev s__law_draw : Stmt := topS 32
abbrev sDraw : Stmt := s__law_draw
abbrev s_is_whole : Stmt := topS 10
theorem sc_is_whole : FnScope ["value"] ["value"] (defScope s_is_whole) := ⟨rfl, rfl, rfl, by decide +kernel, rfl, by decide +kernel, by decide +kernel⟩
abbrev s_in_tuples : Stmt := topS 11
theorem sc_in_tuples : FnScope ["value", "item"] ["value"] (defScope s_in_tuples) := ⟨rfl, rfl, rfl, by decide +kernel, rfl, by decide +kernel, by decide +kernel⟩
abbrev s_is_falling : Stmt := topS 15
theorem sc_is_falling : FnScope ["value", "item", "k"] ["value"] (defScope s_is_falling) := ⟨rfl, rfl, rfl, by decide +kernel, rfl, by decide +kernel, by decide +kernel⟩
abbrev s_is_shape : Stmt := topS 16
theorem sc_is_shape : FnScope ["value"] ["value"] (defScope s_is_shape) := ⟨rfl, rfl, rfl, by decide +kernel, rfl, by decide +kernel, by decide +kernel⟩
abbrev s_shape_from : Stmt := topS 17
theorem sc_shape_from : FnScope ["shape", "made"] ["shape"] (defScope s_shape_from) := ⟨rfl, rfl, rfl, by decide +kernel, rfl, by decide +kernel, by decide +kernel⟩
abbrev s_falling_rows : Stmt := topS 18
theorem sc_falling_rows : FnScope ["number", "most", "rows", "out", "here", "lap", "fresh", "row", "left", "top", "item"] ["number", "most", "rows"] (defScope s_falling_rows) := ⟨rfl, rfl, rfl, by decide +kernel, rfl, by decide +kernel, by decide +kernel⟩
abbrev s_factorial : Stmt := topS 19
theorem sc_factorial : FnScope ["number", "out", "item"] ["number"] (defScope s_factorial) := ⟨rfl, rfl, rfl, by decide +kernel, rfl, by decide +kernel, by decide +kernel⟩
abbrev s_beads_of : Stmt := topS 21
theorem sc_beads_of : FnScope ["shape", "k", "part"] ["shape"] (defScope s_beads_of) := ⟨rfl, rfl, rfl, by decide +kernel, rfl, by decide +kernel, by decide +kernel⟩
abbrev s_shape_of_beads : Stmt := topS 22
theorem sc_shape_of_beads : FnScope ["beads", "row", "k", "place"] ["beads"] (defScope s_shape_of_beads) := ⟨rfl, rfl, rfl, by decide +kernel, rfl, by decide +kernel, by decide +kernel⟩
abbrev s_strips_by : Stmt := topS 23
theorem sc_strips_by : FnScope ["shape", "many", "beads", "out", "bead", "goal", "passed", "place"] ["shape", "many"] (defScope s_strips_by) := ⟨rfl, rfl, rfl, by decide +kernel, rfl, by decide +kernel, by decide +kernel⟩
abbrev s_character_by : Stmt := topS 24
theorem sc_character_by : FnScope ["shape", "kind", "found", "many", "fresh", "here", "number", "left", "height"] ["shape", "kind"] (defScope s_character_by) := ⟨rfl, rfl, rfl, by decide +kernel, rfl, by decide +kernel, by decide +kernel⟩
abbrev s_stays_of : Stmt := topS 25
theorem sc_stays_of : FnScope ["kind", "out", "part"] ["kind"] (defScope s_stays_of) := ⟨rfl, rfl, rfl, by decide +kernel, rfl, by decide +kernel, by decide +kernel⟩
abbrev s_few_from : Stmt := topS 28
theorem sc_few_from : FnScope ["shape", "made"] ["shape"] (defScope s_few_from) := ⟨rfl, rfl, rfl, by decide +kernel, rfl, by decide +kernel, by decide +kernel⟩
abbrev s_inner_number : Stmt := topS 29
theorem sc_inner_number : FnScope ["one", "other", "whole", "first", "second", "third", "many", "total", "kind", "value"] ["one", "other", "whole"] (defScope s_inner_number) := ⟨rfl, rfl, rfl, by decide +kernel, rfl, by decide +kernel, by decide +kernel⟩
abbrev s__law_pick : Stmt := topS 33
theorem sc__law_pick : FnScope ["pen", "some"] ["pen", "some"] (defScope s__law_pick) := ⟨rfl, rfl, rfl, by decide +kernel, rfl, by decide +kernel, by decide +kernel⟩
abbrev s__law_shuffled : Stmt := topS 34
theorem sc__law_shuffled : FnScope ["pen", "some", "left", "found", "lap"] ["pen", "some"] (defScope s__law_shuffled) := ⟨rfl, rfl, rfl, by decide +kernel, rfl, by decide +kernel, by decide +kernel⟩
abbrev s__law_gcd : Stmt := topS 35
theorem sc__law_gcd : FnScope ["one", "two", "lap"] ["one", "two"] (defScope s__law_gcd) := ⟨rfl, rfl, rfl, by decide +kernel, rfl, by decide +kernel, by decide +kernel⟩
abbrev s__law_q : Stmt := topS 36
theorem sc__law_q : FnScope ["top", "bottom", "by"] ["top", "bottom"] (defScope s__law_q) := ⟨rfl, rfl, rfl, by decide +kernel, rfl, by decide +kernel, by decide +kernel⟩
abbrev s__law_shapes : Stmt := topS 38
theorem sc__law_shapes : FnScope ["number", "rows", "found", "here", "lap", "fresh", "row", "top", "part"] ["number", "rows"] (defScope s__law_shapes) := ⟨rfl, rfl, rfl, by decide +kernel, rfl, by decide +kernel, by decide +kernel⟩
abbrev s__law_shape_of : Stmt := topS 37
theorem sc__law_shape_of : FnScope ["pen", "number", "rows", "some"] ["pen", "number", "rows"] (defScope s__law_shape_of) := ⟨rfl, rfl, rfl, by decide +kernel, rfl, by decide +kernel, by decide +kernel⟩
abbrev s__law_turned : Stmt := topS 39
theorem sc__law_turned : FnScope ["shape", "k", "row"] ["shape"] (defScope s__law_turned) := ⟨rfl, rfl, rfl, by decide +kernel, rfl, by decide +kernel, by decide +kernel⟩
abbrev s__law_padded : Stmt := topS 40
theorem sc__law_padded : FnScope ["shape", "long"] ["shape", "long"] (defScope s__law_padded) := ⟨rfl, rfl, rfl, by decide +kernel, rfl, by decide +kernel, by decide +kernel⟩
abbrev s__law_lies_in : Stmt := topS 41
theorem sc__law_lies_in : FnScope ["one", "two", "a", "b"] ["one", "two"] (defScope s__law_lies_in) := ⟨rfl, rfl, rfl, by decide +kernel, rfl, by decide +kernel, by decide +kernel⟩
abbrev s__law_factorial : Stmt := topS 42
theorem sc__law_factorial : FnScope ["number", "found", "k"] ["number"] (defScope s__law_factorial) := ⟨rfl, rfl, rfl, by decide +kernel, rfl, by decide +kernel, by decide +kernel⟩
abbrev s__law_bad_shape : Stmt := topS 43
theorem sc__law_bad_shape : FnScope ["pen"] ["pen"] (defScope s__law_bad_shape) := ⟨rfl, rfl, rfl, by decide +kernel, rfl, by decide +kernel, by decide +kernel⟩
abbrev s__law_passed : Stmt := topS 44
theorem sc__law_passed : FnScope ["pen", "row"] ["pen", "row"] (defScope s__law_passed) := ⟨rfl, rfl, rfl, by decide +kernel, rfl, by decide +kernel, by decide +kernel⟩
abbrev s__law_kinds : Stmt := topS 47
theorem sc__law_kinds : FnScope ["size"] ["size"] (defScope s__law_kinds) := ⟨rfl, rfl, rfl, by decide +kernel, rfl, by decide +kernel, by decide +kernel⟩
abbrev s__law_stays : Stmt := topS 48
theorem sc__law_stays : FnScope ["kind", "found", "part"] ["kind"] (defScope s__law_stays) := ⟨rfl, rfl, rfl, by decide +kernel, rfl, by decide +kernel, by decide +kernel⟩
abbrev s__law_is_rim : Stmt := topS 50
theorem sc__law_is_rim : FnScope ["boxes", "seen", "lap", "i", "j", "near", "step"] ["boxes"] (defScope s__law_is_rim) := ⟨rfl, rfl, rfl, by decide +kernel, rfl, by decide +kernel, by decide +kernel⟩
abbrev s__law_rims : Stmt := topS 49
theorem sc__law_rims : FnScope ["shape", "many", "found", "left", "boxes", "inner", "i", "j"] ["shape", "many"] (defScope s__law_rims) := ⟨rfl, rfl, rfl, by decide +kernel, rfl, by decide +kernel, by decide +kernel⟩
abbrev s__law_character : Stmt := topS 51
theorem sc__law_character : FnScope ["shape", "kind", "states", "many", "fresh", "here", "left", "height", "by"] ["shape", "kind"] (defScope s__law_character) := ⟨rfl, rfl, rfl, by decide +kernel, rfl, by decide +kernel, by decide +kernel⟩
abbrev s__law_own : Stmt := topS 52
theorem sc__law_own : FnScope ["one", "other", "whole", "size", "total", "kind", "weight"] ["one", "other", "whole"] (defScope s__law_own) := ⟨rfl, rfl, rfl, by decide +kernel, rfl, by decide +kernel, by decide +kernel⟩
abbrev s__law_case : Stmt := topS 53
theorem sc__law_case : FnScope ["pen", "size", "three", "told", "order", "row", "column", "k"] ["pen"] (defScope s__law_case) := ⟨rfl, rfl, rfl, by decide +kernel, rfl, by decide +kernel, by decide +kernel⟩
abbrev s__law_squares_hold : Stmt := topS 54
theorem sc__law_squares_hold : FnScope ["pen", "size", "kinds", "total", "one", "other", "whole", "kind"] ["pen"] (defScope s__law_squares_hold) := ⟨rfl, rfl, rfl, by decide +kernel, rfl, by decide +kernel, by decide +kernel⟩
abbrev i_BadNumber : Stmt := inClass (topS 2) 0
abbrev i_BadShape : Stmt := inClass (topS 3) 0
abbrev i_BadRow : Stmt := inClass (topS 4) 0
abbrev i_BadTable : Stmt := inClass (topS 5) 0
abbrev i_Unlike : Stmt := inClass (topS 6) 0
abbrev i_TooMany : Stmt := inClass (topS 7) 0
abbrev i_BadName : Stmt := inClass (topS 8) 0
/-- what the text has left -/
structure Fx (K : PySem.W.Frag) (mg : Str → Option Value) where
  tk : TK K
  e__law_draw : DefF K mg "_law_draw" s__law_draw ["pen", "many"]
  e_is_whole : DefF K mg "is_whole" s_is_whole ["value"]
  e_in_tuples : DefF K mg "in_tuples" s_in_tuples ["value"]
  e_is_falling : DefF K mg "is_falling" s_is_falling ["value"]
  e_is_shape : DefF K mg "is_shape" s_is_shape ["value"]
  e_shape_from : DefF K mg "shape_from" s_shape_from ["shape"]
  e_falling_rows : DefF K mg "falling_rows" s_falling_rows ["number", "most", "rows"]
  e_factorial : DefF K mg "factorial" s_factorial ["number"]
  e_beads_of : DefF K mg "beads_of" s_beads_of ["shape"]
  e_shape_of_beads : DefF K mg "shape_of_beads" s_shape_of_beads ["beads"]
  e_strips_by : DefF K mg "strips_by" s_strips_by ["shape", "many"]
  e_character_by : DefF K mg "character_by" s_character_by ["shape", "kind"]
  e_stays_of : DefF K mg "stays_of" s_stays_of ["kind"]
  e_few_from : DefF K mg "few_from" s_few_from ["shape"]
  e_inner_number : DefF K mg "inner_number" s_inner_number ["one", "other", "whole"]
  e__law_pick : DefF K mg "_law_pick" s__law_pick ["pen", "some"]
  e__law_shuffled : DefF K mg "_law_shuffled" s__law_shuffled ["pen", "some"]
  e__law_gcd : DefF K mg "_law_gcd" s__law_gcd ["one", "two"]
  e__law_q : DefF K mg "_law_q" s__law_q ["top", "bottom"]
  e__law_shapes : DefF K mg "_law_shapes" s__law_shapes ["number", "rows"]
  e__law_shape_of : DefF K mg "_law_shape_of" s__law_shape_of ["pen", "number", "rows"]
  e__law_turned : DefF K mg "_law_turned" s__law_turned ["shape"]
  e__law_padded : DefF K mg "_law_padded" s__law_padded ["shape", "long"]
  e__law_lies_in : DefF K mg "_law_lies_in" s__law_lies_in ["one", "two"]
  e__law_factorial : DefF K mg "_law_factorial" s__law_factorial ["number"]
  e__law_bad_shape : DefF K mg "_law_bad_shape" s__law_bad_shape ["pen"]
  e__law_passed : DefF K mg "_law_passed" s__law_passed ["pen", "row"]
  e__law_kinds : DefF K mg "_law_kinds" s__law_kinds ["size"]
  e__law_stays : DefF K mg "_law_stays" s__law_stays ["kind"]
  e__law_is_rim : DefF K mg "_law_is_rim" s__law_is_rim ["boxes"]
  e__law_rims : DefF K mg "_law_rims" s__law_rims ["shape", "many"]
  e__law_character : DefF K mg "_law_character" s__law_character ["shape", "kind"]
  e__law_own : DefF K mg "_law_own" s__law_own ["one", "other", "whole"]
  e__law_case : DefF K mg "_law_case" s__law_case ["pen"]
  e__law_squares_hold : DefF K mg "_law_squares_hold" s__law_squares_hold ["pen"]
  m_abs : mg "abs" = none
  m_all : mg "all" = none
  m_any : mg "any" = none
  m_bool : mg "bool" = none
  m_enumerate : mg "enumerate" = none
  m_int : mg "int" = none
  m_isinstance : mg "isinstance" = none
  m_len : mg "len" = none
  m_list : mg "list" = none
  m_max : mg "max" = none
  m_min : mg "min" = none
  m_range : mg "range" = none
  m_repr : mg "repr" = none
  m_set : mg "set" = none
  m_sorted : mg "sorted" = none
  m_sum : mg "sum" = none
  m_tuple : mg "tuple" = none
  m_zip : mg "zip" = none
  k_MOST_BOXES : ∃ t, mg "MOST_BOXES" = some (.int 30 t)
  k_MOST_ROWS : ∃ t, mg "MOST_ROWS" = some (.int 12 t)
  k_MOST_SIZE : ∃ t, mg "MOST_SIZE" = some (.int 8 t)
  b_BoxError : BasF K mg "BoxError"
  x_BadShape : ExcF K mg "BadShape" "BadShape.__init__" i_BadShape ["shape"]
  x_Unlike : ExcF K mg "Unlike" "Unlike.__init__" i_Unlike ["what"]
theorem scDraw : FnScope ["pen", "many", "cell", "digit", "blend"] ["pen", "many"] (defScope sDraw) := ⟨rfl, rfl, rfl, by decide +kernel, rfl, by decide +kernel, by decide +kernel⟩
section
variable {P : Program} {w : World} {K : PySem.W.Frag} {mg : Str → Option Value} {base : Heap}
theorem ok_draw {f : Addr} {fd : FuncData} {k : Nat} (F : Fun K "_law_draw" "_law_draw" sDraw f fd) (ml : mg "len" = none) (mi : mg "int" = none) : FnG P w K mg base (L2.CX P w) (k + 1) f fd ["pen", "many"] (spN P w K mg gDraw) := by
  refine .of (F.okX scDraw (fun vs H Q E h => ?_) (fun cdv A outer s H vs Q E hr h => ?_))
  · obtain ⟨pa, p, G, us, ds, rfl, _, _, _, hd, h⟩ := h
    rcases gDraw_inv ds p with e | ⟨many, rfl, _⟩
    · rw [e] at h; exact h.elim
    · rw [List.length_cons, hd.length]; rfl
  · obtain ⟨a, p, G, us, ds, rfl, hle, hng, hpen, hd, h⟩ := h
    rcases gDraw_inv ds p with e | ⟨many, rfl, hpb, hm0, hm1, e⟩
    · rw [e] at h; exact h.elim
    rw [e] at h
    have ok := penB_ok hpb
    cases hd with | cons h1 h2 =>
    cases h2
    cases (show Dp K G _ (.int many) from h1)
    obtain ⟨c, hpa, hpc⟩ := hpen.at_
    have hp : PenH K H a c p := ⟨hpa, hle.sqL hpc⟩
    have q : ∀ H' p' d, Keep a H H' → H' a = some (.dK (penKV c p')) → p'.cells = p.cells → (d, p') = drawP p many → Q (.int d) H' := fun H' p' d kp e1 e2 e3 => by
      have e4 := congrArg Prod.fst e3
      have e5 := congrArg Prod.snd e3
      simp only at e4 e5
      subst e4 e5
      refine h (.int _) G H' ⟨fun b o e => ?_, hng, Le.refl _, fun b o n e => ⟨kp b o n e, rfl⟩, hpen.fr, c, e1, by rw [e2]; exact hpc⟩ (.int _)
      exact kp b o (fun z => by rw [z, hpen.fr] at e; cases e) (hle b o e)
    have hu := hu_of hr
    obtain ⟨tr, hrest, hread⟩ : ∃ tr, PSs (cxOf (L2.CX P w) P w K mg base ["pen", "many", "cell", "digit", "blend"] "_law_draw" (defScope sDraw) f cdv A outer s H E) ((defBody sDraw).drop 2) tr ∧
        ∀ y H' p', Keep a H H' → PenH K H' a c p' → PenOk 0 p' → p'.cells = p.cells → p' = drawA p → tr { nx := fun _ H' => Q .non H', rt := Q } [some (.ref a), some (.int many), y, none, none] H' := by
      refine ⟨_, (pss_cons (ps_if (pt_cmpR op_gt (pe_dget hu (pv 0) pe_str (fun _ _ => rfl)) pe_int (nomark _))
        (pss_cons (ps_set (i := 3) scDraw.nd rfl (.inl rfl) (pe_op op_mod (pe_callTy call_int1 (by rfl) mi PyProof.Rows.boot_int (pa_cons (pe_dget hu (pv 0) pe_str (fun _ _ => rfl)) pa_nil)) (pv 1)))
        (pss_cons (ps_dput hu (pv 0) pe_str (pe_op op_fdiv (pe_dget hu (pv 0) pe_str (fun _ _ => rfl)) (pv 1)) rfl)
        (pss_one (ps_ret (pv 3))))) pss_nil)
      (pss_cons (ps_set (i := 4) scDraw.nd rfl (.inl rfl) (pe_op op_add (pe_op op_add (pe_dget hu (pv 0) pe_str (fun _ _ => rfl)) (pe_op op_mul (pe_dget hu (pv 0) pe_str (fun _ _ => rfl)) pe_int)) pe_int))
      (pss_one (ps_ret (pe_op op_mod (pe_op op_fdiv (pe_callTy call_int1 (by rfl) mi PyProof.Rows.boot_int (pa_cons (pe_op op_mod (pe_op op_pow (pv 4) pe_int) pe_int) pa_nil)) pe_int) (pv 1)))))), fun y H' p' kp hp ok hcs hA => ?_⟩
      refine ⟨.ref a, rfl, a, _, rfl, d3 hp, p'.digits, 0, rfl, rfl, _, rfl, ite2 (fun hd => ?_) (fun hd => ?_)⟩
      · have hd : 0 < p'.digits := of_decide_eq_true hd
        refine ⟨.ref a, rfl, a, _, rfl, d3 hp, .inl ⟨p'.digits, rfl, .int many, rfl, p'.digits, many, rfl, rfl, hm0, ?_⟩⟩
        refine ⟨.ref a, rfl, a, _, rfl, d3 hp, .int many, rfl, p'.digits, many, rfl, rfl, ⟨hm0, hm1⟩, .ref a, rfl, a, _, rfl, w3 hp (p'.digits / many), ?_⟩
        refine ⟨_, rfl, q _ { p' with digits := p'.digits / many } _ kp.put upd_same hcs (by unfold drawP; rw [← hA]; unfold drawB; rw [if_pos hd])⟩
      · have c1 := ok.c1
        have c0 := ok.c0
        have f0 := ok.f0
        have f1 := ok.f1
        refine ⟨.ref a, rfl, a, _, rfl, d5 hp, .ref a, rfl, a, _, rfl, d4 hp, p'.count, 7951, rfl, rfl, .inr ⟨by decide, by decide⟩, p'.fold, p'.count * 7951, rfl, rfl, p'.fold + p'.count * 7951, 67, rfl, rfl, ?_⟩
        refine ⟨_, rfl, p'.fold + p'.count * 7951 + 67, 27, rfl, rfl, ⟨by decide, by decide, ?_⟩, (p'.fold + p'.count * 7951 + 67) ^ 27, 2305843009213693951, rfl, rfl, (show (0 : Int) < 2305843009213693951 by decide), .inl ⟨_, rfl, _, 256, rfl, rfl, ⟨by decide, by decide⟩, .int many, rfl, _, many, rfl, rfl, hm0, ?_⟩⟩
        · have e : (2 : Nat) ^ 64 = 18446744073709551616 := by decide
          rw [e]
          omega
        · exact q _ p' _ kp hp.1 hcs (by unfold drawP; rw [← hA]; unfold drawB; rw [if_neg (fun z => hd (decide_eq_true z))])
    refine ⟨_, pss_cons (ps_dput hu (pv 0) pe_str (pe_op op_add (pe_dget hu (pv 0) pe_str (fun _ _ => rfl)) pe_int) rfl)
      (pss_cons (ps_if (pw_and (pt_cmpR op_eq (pe_dget hu (pv 0) pe_str (fun _ _ => rfl)) pe_int (nomark _)) (pw_and1 (pt_cmpR op_lt (pe_dget hu (pv 0) pe_str (fun _ _ => rfl)) (pe_callB call_len_seq (by rfl) ml PySem.boot_len (pa_cons (pe_dget hu (pv 0) pe_str (fun _ _ => rfl)) pa_nil)) (nomark _)))).pt
        (pss_cons (ps_set (i := 2) scDraw.nd rfl (.inl rfl) (pe_ix ix_list (pe_dget hu (pv 0) pe_str (fun _ _ => rfl)) (pe_dget hu (pv 0) pe_str (fun _ _ => rfl)) (fun _ _ => rfl)))
        (pss_cons (ps_dput hu (pv 0) pe_str (pe_op op_add (pe_dget hu (pv 0) pe_str (fun _ _ => rfl)) pe_int) rfl)
        (pss_one (ps_if (pt_cmpR op_ge (pv 2) (pe_op op_pow pe_int pe_int) (nomark _))
          (pss_one (ps_dput hu (pv 0) pe_str (pe_op op_sub (pv 2) (pe_op op_pow pe_int pe_int)) rfl))
          (pss_one (ps_dput hu (pv 0) pe_str (pe_op op_mod (pe_callTy call_int1 (by rfl) mi PyProof.Rows.boot_int (pa_cons (pe_op op_add (pe_op op_mul (pe_dget hu (pv 0) pe_str (fun _ _ => rfl)) pe_int) (pv 2)) pa_nil)) pe_int) rfl)))))) pss_nil) hrest), ?_⟩
    -- count
    refine ⟨.ref a, rfl, a, _, rfl, d4 hp, p.count, 1, rfl, rfl, .ref a, rfl, a, _, rfl, w4 hp (p.count + 1), ?_⟩
    have hp1 : PenH K (upd H a (.dK (penKV c { p with count := p.count + 1 }))) a c { p with count := p.count + 1 } := penH_put hp _ rfl
    have c1 := ok.c1
    have ok1 : PenOk 0 { p with count := p.count + 1 } := { ok with c0 := by have := ok.c0; show (0 : Int) ≤ p.count + 1; omega, c1 := by show p.count + 1 + ((0 : Nat) : Int) ≤ 1099511627776; have := ok.c1; omega }
    generalize hH1 : upd H a (.dK (penKV c { p with count := p.count + 1 })) = H1 at hp1 ⊢
    have kp1 : Keep a H H1 := hH1 ▸ Keep.refl.put
    refine ⟨.ref a, rfl, a, _, rfl, d3 hp1, rfl, _, rfl, ite2 (fun z => ?_) (fun z => iteF (hread _ _ _ kp1 hp1 ok1 rfl ?_))⟩
    case refine_2 =>
      have z : ¬ p.digits = 0 := fun e => z (decide_eq_true (congrArg V.int e))
      unfold drawA
      rw [if_neg fun h => z h.1]
    have z : p.digits = 0 := V.int.inj (of_decide_eq_true z)
    refine ⟨.ref a, rfl, a, _, rfl, d2 hp1, .ref a, rfl, a, _, rfl, d1 hp1, c, _, rfl, .inl hp1.2, p.at_, (p.cells.map V.int).length, rfl, rfl, _, rfl, ite2 (fun z2 => ?_) (fun z2 => hread _ _ _ kp1 hp1 ok1 rfl ?_)⟩
    case refine_2 =>
      have z2 : ¬ (p.at_ : Int) < ((p.cells.map V.int).length : Nat) := fun e => z2 (decide_eq_true e)
      rw [List.length_map] at z2
      unfold drawA
      rw [if_neg fun h => z2 (by have := h.2; omega)]
    have z2 : (p.at_ : Int) < ((p.cells.map V.int).length : Nat) := of_decide_eq_true z2
    rw [List.length_map] at z2
    have hlt : p.at_ < p.cells.length := by omega
    have hat : (p.cells.map V.int)[p.at_]? = some (.int p.cells[p.at_]) := by rw [List.getElem?_map, List.getElem?_eq_getElem hlt]; rfl
    have hgd : p.cells.getD p.at_ 0 = p.cells[p.at_] := by rw [List.getD_eq_getElem?_getD, List.getElem?_eq_getElem hlt]; rfl
    generalize p.cells[p.at_] = cell at hat hgd
    refine ⟨.ref a, rfl, a, _, rfl, d1 hp1, .ref a, rfl, a, _, rfl, d2 hp1, c, _, _, _, rfl, rfl, hp1.2, atI_nat hat, ?_⟩
    refine ⟨.ref a, rfl, a, _, rfl, d2 hp1, p.at_, 1, rfl, rfl, .ref a, rfl, a, _, rfl, w2 hp1 (p.at_ + 1), ?_⟩
    have hp2 : PenH K (upd H1 a (.dK (penKV c { p with count := p.count + 1, at_ := p.at_ + 1 }))) a c { p with count := p.count + 1, at_ := p.at_ + 1 } := penH_put hp1 _ rfl
    have ok2 : PenOk 0 { p with count := p.count + 1, at_ := p.at_ + 1 } := { ok1 with at_ := hlt }
    have kp2 := kp1.put (o := .dK (penKV c { p with count := p.count + 1, at_ := p.at_ + 1 }))
    have e18 : (10 : Int) ^ (18 : Int).toNat = 1000000000000000000 := by decide
    refine ⟨.int cell, rfl, 10, 18, rfl, rfl, ⟨by decide, by decide, by decide⟩, cell, (10 : Int) ^ (18 : Int).toNat, rfl, rfl, _, rfl, ite2 (fun z3 => ?_) (fun z3 => ?_)⟩
    · have z3 : (10 : Int) ^ (18 : Int).toNat ≤ cell := of_decide_eq_true z3
      rw [e18] at z3
      refine ⟨.int cell, rfl, 10, 18, rfl, rfl, ⟨by decide, by decide, by decide⟩, cell, (10 : Int) ^ (18 : Int).toNat, rfl, rfl, .ref a, rfl, a, _, rfl, w3 hp2 _, ?_⟩
      refine hread _ _ { p with count := p.count + 1, at_ := p.at_ + 1, digits := cell - (10 : Int) ^ (18 : Int).toNat } kp2.put (penH_put hp2 _ rfl) { ok2 with dg := by show (0 : Int) ≤ cell - (10 : Int) ^ (18 : Int).toNat; rw [e18]; omega } rfl ?_
      unfold drawA
      rw [if_pos ⟨z, hlt⟩, hgd, if_pos z3, e18]
    · have z3 : ¬ (10 : Int) ^ (18 : Int).toNat ≤ cell := fun e => z3 (decide_eq_true e)
      rw [e18] at z3
      refine ⟨.ref a, rfl, a, _, rfl, d5 hp2, p.fold, 41959, rfl, rfl, .inr ⟨by decide, by decide⟩, .int cell, rfl, p.fold * 41959, cell, rfl, rfl, .inl ⟨_, rfl, _, 2147483489, rfl, rfl, (show (0 : Int) < 2147483489 by decide), .ref a, rfl, a, _, rfl, w5 hp2 _, ?_⟩⟩
      refine hread _ _ { p with count := p.count + 1, at_ := p.at_ + 1, fold := (p.fold * 41959 + cell) % 2147483489 } kp2.put (penH_put hp2 _ rfl) { ok2 with f0 := Int.emod_nonneg (p.fold * 41959 + cell) (show (2147483489 : Int) ≠ 0 by decide), f1 := Int.emod_lt_of_pos (p.fold * 41959 + cell) (show (0 : Int) < 2147483489 by decide) } rfl ?_
      unfold drawA
      rw [if_pos ⟨z, hlt⟩, hgd, if_neg z3]
end

section
variable {P : Program} {w : World} {K : PySem.W.Frag} {mg : Str → Option Value} {base : Heap}
abbrev f__law_draw := gDraw
theorem ok__law_draw (Γ : Fx K mg) : FnG P w K mg base (L2.CX P w) 1 Γ.e__law_draw.f Γ.e__law_draw.fd ["pen", "many"] (spN P w K mg f__law_draw) := ok_draw Γ.e__law_draw.F Γ.m_len Γ.m_int
theorem scI_BadShape : FnScope ["self", "shape"] ["self", "shape"] (defScope i_BadShape) := ⟨rfl, rfl, rfl, by decide +kernel, rfl, by decide +kernel, by decide +kernel⟩
theorem okI_BadShape {k : Nat} (Γ : Fx K mg) : FnOk P w K mg base (L2.CX P w) (k + 1) Γ.x_BadShape.f Γ.x_BadShape.fd ["self", "shape"] (spIni K ["shape"]) := by
  refine Γ.x_BadShape.F.okX scI_BadShape (fun vs H Q E h => ?_) (fun cdv A outer s H vs Q E hr h => ?_)
  · obtain ⟨a, C, ws, rfl, hl, _⟩ := h
    exact congrArg Nat.succ hl
  · obtain ⟨a, C, ws, rfl, hl, T, ha, nf, q⟩ := h
    match ws, hl with
    | [v1], _ =>
    refine ⟨_, pss_cons (ps_expr (pe_binit Γ.b_BoxError.T (by rfl) Γ.b_BoxError.g (pa_cons (pv 0) (pa_cons pe_str pa_nil)))) (pss_one (ps_ost (pv 0) (pv 1))), ?_⟩
    exact ⟨_, rfl, a, C, _, rfl, by simp, T, ha, _, rfl, _, rfl, a, C, rfl, T, nf _ List.mem_cons_self, .inl ⟨ha, fun dx h1 _ => q dx h1⟩⟩
theorem scI_Unlike : FnScope ["self", "what"] ["self", "what"] (defScope i_Unlike) := ⟨rfl, rfl, rfl, by decide +kernel, rfl, by decide +kernel, by decide +kernel⟩
theorem okI_Unlike {k : Nat} (Γ : Fx K mg) : FnOk P w K mg base (L2.CX P w) (k + 1) Γ.x_Unlike.f Γ.x_Unlike.fd ["self", "what"] (spIni K ["what"]) := by
  refine Γ.x_Unlike.F.okX scI_Unlike (fun vs H Q E h => ?_) (fun cdv A outer s H vs Q E hr h => ?_)
  · obtain ⟨a, C, ws, rfl, hl, _⟩ := h
    exact congrArg Nat.succ hl
  · obtain ⟨a, C, ws, rfl, hl, T, ha, nf, q⟩ := h
    match ws, hl with
    | [v1], _ =>
    refine ⟨_, pss_cons (ps_expr (pe_binit Γ.b_BoxError.T (by rfl) Γ.b_BoxError.g (pa_cons (pv 0) (pa_cons pe_str pa_nil)))) (pss_one (ps_ost (pv 0) (pv 1))), ?_⟩
    exact ⟨_, rfl, a, C, _, rfl, by simp, T, ha, _, rfl, _, rfl, a, C, rfl, T, nf _ List.mem_cons_self, .inl ⟨ha, fun dx h1 _ => q dx h1⟩⟩
def m_is_whole : SF := sRet (eAnd (op1 (gIs "int") (eV 0)) (eNot (op1 (gIs "bool") (eV 0))))
def f_is_whole (ds : List D) : RD := if ds.length = 1 then outD (m_is_whole (initS 1 ds)) else .no
theorem ok_is_whole (Γ : Fx K mg) : FnG P w K mg base (L2.CX P w) 1 Γ.e_is_whole.f Γ.e_is_whole.fd ["value"] (spD P w K mg f_is_whole) := by
  refine fn_mk (k := 0) Γ.e_is_whole.F sc_is_whole m_is_whole f_is_whole (fun ds => ?_) fun cdv A outer s H E hr => ?_
  · by_cases h : ds.length = 1
    · exact .inr ⟨h, if_pos h⟩
    · exact .inl (if_neg h)
  · have hu := roomU hr
    have hgu := hr.g
    have nd := sc_is_whole.nd
    have hp := passes_of (X := cxOf (L2.CX P w) P w K mg base ["value"] "is_whole" (defScope s_is_whole) Γ.e_is_whole.f cdv A outer s H E) rfl
    have tk : Takes (cxOf (L2.CX P w) P w K mg base ["value"] "is_whole" (defScope s_is_whole) Γ.e_is_whole.f cdv A outer s H E) (fun cls d _ H => E cls d H) := takes_of rfl rfl rfl rfl
    exact (ss_one (ss_ret (se_and (se_is (T := "int") (by rfl) Γ.m_isinstance (sv 0) (by rfl) Γ.m_int PyProof.Rows.boot_int) (se_one (se_not (se_is (T := "bool") (by rfl) Γ.m_isinstance (sv 0) (by rfl) Γ.m_bool PyProof.Rows.boot_bool))))))
def m_in_tuples (r : List D → RD) : SF := sSeq (sIf (bNot (bT (op1 gIsTL (eV 0)))) (sRet (eV 0)) (sNext)) (sRet (op1 gTuple (eLc (iSq (eV 0)) (tNm 1) bYes (eCall r (aCons (eV 1) (aNil))) [1])))
def f_in_tuples_r : Nat → List D → RD
  | 0, _ => .no
  | k + 1, ds => if ds.length = 1 then outD (m_in_tuples (f_in_tuples_r k) (initS 2 ds)) else .no
abbrev f_in_tuples := f_in_tuples_r 8
theorem ok_in_tuples (Γ : Fx K mg) : FnG P w K mg base (L2.CX P w) 9 Γ.e_in_tuples.f Γ.e_in_tuples.fd ["value"] (spD P w K mg f_in_tuples) := by
  have main : ∀ m : Nat, FnG P w K mg base (L2.CX P w) (m + 1) Γ.e_in_tuples.f Γ.e_in_tuples.fd ["value"] (spD P w K mg (f_in_tuples_r m)) := fun m => by
    induction m with
    | zero => exact fn_no
    | succ m ih =>
      refine (fn_mk (k := m + 1) Γ.e_in_tuples.F sc_in_tuples (m_in_tuples (f_in_tuples_r m)) (f_in_tuples_r (m + 1)) (fun ds => ?_) fun cdv A outer s H E hr => ?_).mono (by omega)
      · by_cases h : ds.length = 1
        · exact .inr ⟨h, if_pos h⟩
        · exact .inl (if_neg h)
      · have hu := roomU hr
        have hgu := hr.g
        have nd := sc_in_tuples.nd
        have hp := passes_of (X := cxOf (L2.CX P w) P w K mg base ["value", "item"] "in_tuples" (defScope s_in_tuples) Γ.e_in_tuples.f cdv A outer s H E) rfl
        have tk : Takes (cxOf (L2.CX P w) P w K mg base ["value", "item"] "in_tuples" (defScope s_in_tuples) Γ.e_in_tuples.f cdv A outer s H E) (fun cls d _ H => E cls d H) := takes_of rfl rfl rfl rfl
        exact (ss_cons (ss_if (st_not (st_truth (se_isTL (by rfl) Γ.m_isinstance (sv 0) Γ.m_tuple (by rfl) Γ.m_list (by rfl)) (by intro _; rfl))) (ss_one (ss_ret (sv 0))) ss_nil) (ss_one (ss_ret (se_t1 c1_tuple (by rfl) Γ.m_tuple PyProof.Rows.boot_tuple (se_lc (own := [("item", 1)]) rfl nd (si_seq (sv 0)) (blkOk_by (N := ["value", "item"]) (sc := defScope s_in_tuples) (by first | decide +kernel | rfl)) (by decide) (fun _ _ _ _ _ => (sg_name nd rfl (by first | exact .inl rfl | exact .inr rfl))) (fun _ _ _ _ _ => sts_nil) (fun _ _ _ _ _ => (se_call ih hr (by rfl) Γ.e_in_tuples.g Γ.e_in_tuples.F.kp Γ.e_in_tuples.b takes0 (sa_cons (sv 1) sa_nil))))))))
  exact main 8
def mp_is_falling (c_is_whole : List D → RD) : SF := sSeq (sIf (bOr (bNot (bT (op1 (gIs "tuple") (eV 0)))) (bNot (bT (op1 gAll (eLc (iSq (eV 0)) (tNm 1) bYes (eAnd (eCall c_is_whole (aCons (eV 1) (aNil))) (op2 gGt (eV 1) (eC (.int 0)))) [1]))))) (sRet (eC (.bool false))) (sNext)) (sRet (op1 gAll (eLc (iRg rg1 (aCons (op2 gSub (op1 gLen (eV 0)) (eC (.int 1))) (aNil))) (tNm 2) bYes (op2 gGe (op2 gIx (eV 0) (eV 2)) (op2 gIx (eV 0) (op2 gAdd (eV 2) (eC (.int 1))))) [2])))
def m_is_falling : SF := mp_is_falling f_is_whole
def f_is_falling (ds : List D) : RD := if ds.length = 1 then outD (m_is_falling (initS 3 ds)) else .no
theorem ok_is_falling (Γ : Fx K mg) : FnG P w K mg base (L2.CX P w) 2 Γ.e_is_falling.f Γ.e_is_falling.fd ["value"] (spD P w K mg f_is_falling) := by
  refine fn_mk (k := 1) Γ.e_is_falling.F sc_is_falling m_is_falling f_is_falling (fun ds => ?_) fun cdv A outer s H E hr => ?_
  · by_cases h : ds.length = 1
    · exact .inr ⟨h, if_pos h⟩
    · exact .inl (if_neg h)
  · have hu := roomU hr
    have hgu := hr.g
    have nd := sc_is_falling.nd
    have hp := passes_of (X := cxOf (L2.CX P w) P w K mg base ["value", "item", "k"] "is_falling" (defScope s_is_falling) Γ.e_is_falling.f cdv A outer s H E) rfl
    have tk : Takes (cxOf (L2.CX P w) P w K mg base ["value", "item", "k"] "is_falling" (defScope s_is_falling) Γ.e_is_falling.f cdv A outer s H E) (fun cls d _ H => E cls d H) := takes_of rfl rfl rfl rfl
    exact (ss_cons (ss_if (sw_pt (sw_or (st_not (st_truth (se_is (T := "tuple") (by rfl) Γ.m_isinstance (sv 0) (by rfl) Γ.m_tuple PyProof.Rows.boot_tuple) (by intro _; rfl))) (sw_or1 (st_not (st_truth (se_b1 (c1_all rfl) (by rfl) Γ.m_all PyProof.Rows.boot_all (se_lc (own := [("item", 1)]) rfl nd (si_seq (sv 0)) (blkOk_by (N := ["value", "item", "k"]) (sc := defScope s_is_falling) (by first | decide +kernel | rfl)) (by decide) (fun _ _ _ _ _ => (sg_name nd rfl (by first | exact .inl rfl | exact .inr rfl))) (fun _ _ _ _ _ => sts_nil) (fun _ _ _ _ _ => (se_and (se_call (ok_is_whole Γ) (hr.mono (by decide)) (by rfl) Γ.e_is_whole.g Γ.e_is_whole.F.kp Γ.e_is_whole.b takes0 (sa_cons (sv 1) sa_nil)) (se_one (se_cmp op2_gt (sv 1) se_int (by first | exact nomark _ | rfl))))))) (by intro _; rfl)))))) (ss_one (ss_ret se_bl)) ss_nil) (ss_one (ss_ret (se_b1 (c1_all rfl) (by rfl) Γ.m_all PyProof.Rows.boot_all (se_lc (own := [("k", 2)]) rfl nd (si_range1 (by rfl) Γ.m_range (sa_cons (se_bin op2_sub (se_b1 c1_len (by rfl) Γ.m_len PySem.boot_len (sv 0)) se_int) sa_nil)) (blkOk_by (N := ["value", "item", "k"]) (sc := defScope s_is_falling) (by first | decide +kernel | rfl)) (by decide) (fun _ _ _ _ _ => (sg_name nd rfl (by first | exact .inl rfl | exact .inr rfl))) (fun _ _ _ _ _ => sts_nil) (fun _ _ _ _ _ => (se_cmp op2_ge (se_ix (sv 0) (sv 2) (fun _ _ => rfl)) (se_ix (sv 0) (se_bin op2_add (sv 2) se_int) (fun _ _ => rfl)) (by first | exact nomark _ | rfl))))))))
def mp_is_shape (c_is_falling : List D → RD) : SF := sRet (eAnd (eCall c_is_falling (aCons (eV 0) (aNil))) (eAnd (op2 gLe (op1 gLen (eV 0)) (eC (.int 12))) (op2 gLe (op1 gSum (eV 0)) (eC (.int 30)))))
def m_is_shape : SF := mp_is_shape f_is_falling
def f_is_shape (ds : List D) : RD := if ds.length = 1 then outD (m_is_shape (initS 1 ds)) else .no
theorem ok_is_shape (Γ : Fx K mg) : FnG P w K mg base (L2.CX P w) 3 Γ.e_is_shape.f Γ.e_is_shape.fd ["value"] (spD P w K mg f_is_shape) := by
  refine fn_mk (k := 2) Γ.e_is_shape.F sc_is_shape m_is_shape f_is_shape (fun ds => ?_) fun cdv A outer s H E hr => ?_
  · by_cases h : ds.length = 1
    · exact .inr ⟨h, if_pos h⟩
    · exact .inl (if_neg h)
  · have hu := roomU hr
    have hgu := hr.g
    have nd := sc_is_shape.nd
    have hp := passes_of (X := cxOf (L2.CX P w) P w K mg base ["value"] "is_shape" (defScope s_is_shape) Γ.e_is_shape.f cdv A outer s H E) rfl
    have tk : Takes (cxOf (L2.CX P w) P w K mg base ["value"] "is_shape" (defScope s_is_shape) Γ.e_is_shape.f cdv A outer s H E) (fun cls d _ H => E cls d H) := takes_of rfl rfl rfl rfl
    exact (ss_one (ss_ret (se_and (se_call (ok_is_falling Γ) (hr.mono (by decide)) (by rfl) Γ.e_is_falling.g Γ.e_is_falling.F.kp Γ.e_is_falling.b tk (sa_cons (sv 0) sa_nil)) (se_and (se_cmp op2_le (se_b1 c1_len (by rfl) Γ.m_len PySem.boot_len (sv 0)) (se_c (pe_glob (v := .int 12) (by rfl) Γ.k_MOST_ROWS.choose_spec ⟨_, rfl⟩) fun _ => .int 12) (by first | exact nomark _ | rfl)) (se_one (se_cmp op2_le (se_b1 (c1_sum rfl) (by rfl) Γ.m_sum PyProof.Rows.boot_sum (sv 0)) (se_c (pe_glob (v := .int 30) (by rfl) Γ.k_MOST_BOXES.choose_spec ⟨_, rfl⟩) fun _ => .int 30) (by first | exact nomark _ | rfl)))))))
def mp_shape_from (c_in_tuples c_is_shape : List D → RD) : SF := sSeq (sSet 1 (eCall c_in_tuples (aCons (eV 0) (aNil)))) (sSeq (sIf (bNot (bT (eCall c_is_shape (aCons (eV 1) (aNil))))) (sRaise "BadShape" ["shape"] (aCons (eV 0) (aNil))) (sNext)) (sRet (eV 1)))
def m_shape_from : SF := mp_shape_from f_in_tuples f_is_shape
def f_shape_from (ds : List D) : RD := if ds.length = 1 then outD (m_shape_from (initS 2 ds)) else .no
theorem ok_shape_from (Γ : Fx K mg) : FnG P w K mg base (L2.CX P w) 10 Γ.e_shape_from.f Γ.e_shape_from.fd ["shape"] (spD P w K mg f_shape_from) := by
  refine fn_mk (k := 9) Γ.e_shape_from.F sc_shape_from m_shape_from f_shape_from (fun ds => ?_) fun cdv A outer s H E hr => ?_
  · by_cases h : ds.length = 1
    · exact .inr ⟨h, if_pos h⟩
    · exact .inl (if_neg h)
  · have hu := roomU hr
    have hgu := hr.g
    have nd := sc_shape_from.nd
    have hp := passes_of (X := cxOf (L2.CX P w) P w K mg base ["shape", "made"] "shape_from" (defScope s_shape_from) Γ.e_shape_from.f cdv A outer s H E) rfl
    have tk : Takes (cxOf (L2.CX P w) P w K mg base ["shape", "made"] "shape_from" (defScope s_shape_from) Γ.e_shape_from.f cdv A outer s H E) (fun cls d _ H => E cls d H) := takes_of rfl rfl rfl rfl
    exact (ss_cons (ss_set nd rfl (by first | exact .inl rfl | exact .inr rfl) (se_call (ok_in_tuples Γ) (hr.mono (by decide)) (by rfl) Γ.e_in_tuples.g Γ.e_in_tuples.F.kp Γ.e_in_tuples.b tk (sa_cons (sv 0) sa_nil))) (ss_cons (ss_if (st_not (st_truth (se_call (ok_is_shape Γ) (hr.mono (by decide)) (by rfl) Γ.e_is_shape.g Γ.e_is_shape.F.kp Γ.e_is_shape.b tk (sa_cons (sv 1) sa_nil)) (by intro _; rfl))) (ss_one (ss_raise rfl tk passL Γ.x_BadShape.T Γ.x_BadShape.iC Γ.x_BadShape.tI (okI_BadShape (k := 0) Γ) (hr.r.mono (by decide)) Γ.x_BadShape.b Γ.x_BadShape.nf (by rfl) Γ.x_BadShape.g (sa_cons (sv 0) sa_nil))) ss_nil) (ss_one (ss_ret (sv 1)))))
def m_falling_rows : SF := sSeq (sPar 3 4 (eLst (aNil)) (eLst (aCons (eTup (aCons (eTup (aNil)) (aCons (eV 0) (aNil)))) (aNil)))) (sSeq (sFor (iRg rg1 (aCons (op2 gAdd (eV 2) (eC (.int 1))) (aNil))) (tNm 5) (sSeq (sSet 3 (op2 gAdd (eV 3) (eLc (iSq (eV 4)) (tTp 2 (tsCons (tNm 7) (tsCons (tNm 8) tsNil))) (bE (op2 gEq (eV 8) (eC (.int 0)))) (eV 7) [7, 8]))) (sSeq (sSet 6 (eLst (aNil))) (sSeq (sFor (iSq (eV 4)) (tTp 2 (tsCons (tNm 7) (tsCons (tNm 8) tsNil))) (sSeq (sSet 9 (op2 gMin2 (eV 8) (eIf (bE (op2 gGt (op1 gLen (eV 7)) (eC (.int 0)))) (op2 gIx (eV 7) (op1 gNeg (eC (.int 1)))) (eV 1)))) (sSet 6 (op2 gAdd (eV 6) (eLc (iRg rg2 (aCons (eC (.int 1)) (aCons (op2 gAdd (eV 9) (eC (.int 1))) (aNil)))) (tNm 10) bYes (eTup (aCons (op2 gAdd (eV 7) (eTup (aCons (eV 10) (aNil)))) (aCons (op2 gSub (eV 8) (eV 10)) (aNil)))) [10]))))) (sSet 4 (eV 6)))))) (sRet (op1 gSort (eV 3))))
def f_falling_rows (ds : List D) : RD := if ds.length = 3 then outD (m_falling_rows (initS 11 ds)) else .no
theorem ok_falling_rows (Γ : Fx K mg) : FnG P w K mg base (L2.CX P w) 1 Γ.e_falling_rows.f Γ.e_falling_rows.fd ["number", "most", "rows"] (spD P w K mg f_falling_rows) := by
  refine fn_mk (k := 0) Γ.e_falling_rows.F sc_falling_rows m_falling_rows f_falling_rows (fun ds => ?_) fun cdv A outer s H E hr => ?_
  · by_cases h : ds.length = 3
    · exact .inr ⟨h, if_pos h⟩
    · exact .inl (if_neg h)
  · have hu := roomU hr
    have hgu := hr.g
    have nd := sc_falling_rows.nd
    have hp := passes_of (X := cxOf (L2.CX P w) P w K mg base ["number", "most", "rows", "out", "here", "lap", "fresh", "row", "left", "top", "item"] "falling_rows" (defScope s_falling_rows) Γ.e_falling_rows.f cdv A outer s H E) rfl
    have tk : Takes (cxOf (L2.CX P w) P w K mg base ["number", "most", "rows", "out", "here", "lap", "fresh", "row", "left", "top", "item"] "falling_rows" (defScope s_falling_rows) Γ.e_falling_rows.f cdv A outer s H E) (fun cls d _ H => E cls d H) := takes_of rfl rfl rfl rfl
    exact (ss_cons (ss_par (i := 3) (j := 4) rfl nd rfl rfl (by decide) rfl rfl (se_lst sa_nil) (se_lst (sa_cons (se_tup (sa_cons (se_tup sa_nil) (sa_cons (sv 0) sa_nil))) sa_nil)) rfl) (ss_cons (ss_for hp rfl (si_range1 (by rfl) Γ.m_range (sa_cons (se_bin op2_add (sv 2) se_int) sa_nil)) (sg_name nd rfl (by first | exact .inl rfl | exact .inr rfl)) (ss_cons (ss_set nd rfl (by first | exact .inl rfl | exact .inr rfl) (se_bin op2_add (sv 3) (se_lc (own := [("row", 7), ("left", 8)]) rfl nd (si_seq (sv 4)) (blkOk_by (N := ["number", "most", "rows", "out", "here", "lap", "fresh", "row", "left", "top", "item"]) (sc := defScope s_falling_rows) (by first | decide +kernel | rfl)) (by decide) (fun _ _ _ _ _ => (sg_tup rfl (sgs_cons (sg_name nd rfl (by first | exact .inl rfl | exact .inr rfl)) (sgs_cons (sg_name nd rfl (by first | exact .inl rfl | exact .inr rfl)) sgs_nil)))) (fun _ _ _ _ _ => (sts_one (st_cmp (op2_eq hu) (sv 8) se_int (by first | exact nomark _ | rfl)))) (fun _ _ _ _ _ => (sv 7))))) (ss_cons (ss_set nd rfl (by first | exact .inl rfl | exact .inr rfl) (se_lst sa_nil)) (ss_cons (ss_for hp rfl (si_seq (sv 4)) (sg_tup rfl (sgs_cons (sg_name nd rfl (by first | exact .inl rfl | exact .inr rfl)) (sgs_cons (sg_name nd rfl (by first | exact .inl rfl | exact .inr rfl)) sgs_nil))) (ss_cons (ss_set nd rfl (by first | exact .inl rfl | exact .inr rfl) (se_b2 (c2_min rfl) (by rfl) Γ.m_min PyProof.Rows.boot_min (sv 8) (se_if (st_cmp op2_gt (se_b1 c1_len (by rfl) Γ.m_len PySem.boot_len (sv 7)) se_int (by first | exact nomark _ | rfl)) (se_ix (sv 7) (se_neg se_int) (fun _ _ => rfl)) (sv 1)))) (ss_one (ss_set nd rfl (by first | exact .inl rfl | exact .inr rfl) (se_bin op2_add (sv 6) (se_lc (own := [("item", 10)]) rfl nd (si_range2 (by rfl) Γ.m_range (sa_cons se_int (sa_cons (se_bin op2_add (sv 9) se_int) sa_nil))) (blkOk_by (N := ["number", "most", "rows", "out", "here", "lap", "fresh", "row", "left", "top", "item"]) (sc := defScope s_falling_rows) (by first | decide +kernel | rfl)) (by decide) (fun _ _ _ _ _ => (sg_name nd rfl (by first | exact .inl rfl | exact .inr rfl))) (fun _ _ _ _ _ => sts_nil) (fun _ _ _ _ _ => (se_tup (sa_cons (se_bin op2_add (sv 7) (se_tup (sa_cons (sv 10) sa_nil))) (sa_cons (se_bin op2_sub (sv 8) (sv 10)) sa_nil)))))))))) (ss_one (ss_set nd rfl (by first | exact .inl rfl | exact .inr rfl) (sv 6))))))) (ss_one (ss_ret (se_b1 (c1_sorted (hu64 hu)) (by rfl) Γ.m_sorted PyProof.Rows.boot_sorted (sv 3))))))
def m_factorial : SF := sSeq (sSet 1 (eC (.int 1))) (sSeq (sFor (iRg rg2 (aCons (eC (.int 2)) (aCons (op2 gAdd (eV 0) (eC (.int 1))) (aNil)))) (tNm 2) (sSet 1 (op2 gMul (eV 1) (eV 2)))) (sRet (eV 1)))
def f_factorial (ds : List D) : RD := if ds.length = 1 then outD (m_factorial (initS 3 ds)) else .no
theorem ok_factorial (Γ : Fx K mg) : FnG P w K mg base (L2.CX P w) 1 Γ.e_factorial.f Γ.e_factorial.fd ["number"] (spD P w K mg f_factorial) := by
  refine fn_mk (k := 0) Γ.e_factorial.F sc_factorial m_factorial f_factorial (fun ds => ?_) fun cdv A outer s H E hr => ?_
  · by_cases h : ds.length = 1
    · exact .inr ⟨h, if_pos h⟩
    · exact .inl (if_neg h)
  · have hu := roomU hr
    have hgu := hr.g
    have nd := sc_factorial.nd
    have hp := passes_of (X := cxOf (L2.CX P w) P w K mg base ["number", "out", "item"] "factorial" (defScope s_factorial) Γ.e_factorial.f cdv A outer s H E) rfl
    have tk : Takes (cxOf (L2.CX P w) P w K mg base ["number", "out", "item"] "factorial" (defScope s_factorial) Γ.e_factorial.f cdv A outer s H E) (fun cls d _ H => E cls d H) := takes_of rfl rfl rfl rfl
    exact (ss_cons (ss_set nd rfl (by first | exact .inl rfl | exact .inr rfl) se_int) (ss_cons (ss_for hp rfl (si_range2 (by rfl) Γ.m_range (sa_cons se_int (sa_cons (se_bin op2_add (sv 0) se_int) sa_nil))) (sg_name nd rfl (by first | exact .inl rfl | exact .inr rfl)) (ss_one (ss_set nd rfl (by first | exact .inl rfl | exact .inr rfl) (se_bin op2_mul (sv 1) (sv 2))))) (ss_one (ss_ret (sv 1)))))
def m_beads_of : SF := sRet (eLc (iEn2 (eV 0)) (tTp 2 (tsCons (tNm 1) (tsCons (tNm 2) tsNil))) bYes (op2 gSub (op2 gSub (op2 gAdd (eV 2) (op1 gLen (eV 0))) (eC (.int 1))) (eV 1)) [1, 2])
def f_beads_of (ds : List D) : RD := if ds.length = 1 then outD (m_beads_of (initS 3 ds)) else .no
theorem ok_beads_of (Γ : Fx K mg) : FnG P w K mg base (L2.CX P w) 1 Γ.e_beads_of.f Γ.e_beads_of.fd ["shape"] (spD P w K mg f_beads_of) := by
  refine fn_mk (k := 0) Γ.e_beads_of.F sc_beads_of m_beads_of f_beads_of (fun ds => ?_) fun cdv A outer s H E hr => ?_
  · by_cases h : ds.length = 1
    · exact .inr ⟨h, if_pos h⟩
    · exact .inl (if_neg h)
  · have hu := roomU hr
    have hgu := hr.g
    have nd := sc_beads_of.nd
    have hp := passes_of (X := cxOf (L2.CX P w) P w K mg base ["shape", "k", "part"] "beads_of" (defScope s_beads_of) Γ.e_beads_of.f cdv A outer s H E) rfl
    have tk : Takes (cxOf (L2.CX P w) P w K mg base ["shape", "k", "part"] "beads_of" (defScope s_beads_of) Γ.e_beads_of.f cdv A outer s H E) (fun cls d _ H => E cls d H) := takes_of rfl rfl rfl rfl
    exact (ss_one (ss_ret (se_lc (own := [("k", 1), ("part", 2)]) rfl nd (si_enum2 (by rfl) Γ.m_enumerate (sv 0)) (blkOk_by (N := ["shape", "k", "part"]) (sc := defScope s_beads_of) (by first | decide +kernel | rfl)) (by decide) (fun _ _ _ _ _ => (sg_tup rfl (sgs_cons (sg_name nd rfl (by first | exact .inl rfl | exact .inr rfl)) (sgs_cons (sg_name nd rfl (by first | exact .inl rfl | exact .inr rfl)) sgs_nil)))) (fun _ _ _ _ _ => sts_nil) (fun _ _ _ _ _ => (se_bin op2_sub (se_bin op2_sub (se_bin op2_add (sv 2) (se_b1 c1_len (by rfl) Γ.m_len PySem.boot_len (sv 0))) se_int) (sv 1))))))
def m_shape_of_beads : SF := sSeq (sSet 1 (op1 gSortR (eV 0))) (sRet (op1 gTuple (eLc (iEn2 (eV 1)) (tTp 2 (tsCons (tNm 2) (tsCons (tNm 3) tsNil))) (bE (op2 gGt (op2 gAdd (op2 gAdd (op2 gSub (eV 3) (op1 gLen (eV 1))) (eC (.int 1))) (eV 2)) (eC (.int 0)))) (op2 gAdd (op2 gAdd (op2 gSub (eV 3) (op1 gLen (eV 1))) (eC (.int 1))) (eV 2)) [2, 3])))
def f_shape_of_beads (ds : List D) : RD := if ds.length = 1 then outD (m_shape_of_beads (initS 4 ds)) else .no
theorem ok_shape_of_beads (Γ : Fx K mg) : FnG P w K mg base (L2.CX P w) 1 Γ.e_shape_of_beads.f Γ.e_shape_of_beads.fd ["beads"] (spD P w K mg f_shape_of_beads) := by
  refine fn_mk (k := 0) Γ.e_shape_of_beads.F sc_shape_of_beads m_shape_of_beads f_shape_of_beads (fun ds => ?_) fun cdv A outer s H E hr => ?_
  · by_cases h : ds.length = 1
    · exact .inr ⟨h, if_pos h⟩
    · exact .inl (if_neg h)
  · have hu := roomU hr
    have hgu := hr.g
    have nd := sc_shape_of_beads.nd
    have hp := passes_of (X := cxOf (L2.CX P w) P w K mg base ["beads", "row", "k", "place"] "shape_of_beads" (defScope s_shape_of_beads) Γ.e_shape_of_beads.f cdv A outer s H E) rfl
    have tk : Takes (cxOf (L2.CX P w) P w K mg base ["beads", "row", "k", "place"] "shape_of_beads" (defScope s_shape_of_beads) Γ.e_shape_of_beads.f cdv A outer s H E) (fun cls d _ H => E cls d H) := takes_of rfl rfl rfl rfl
    exact (ss_cons (ss_set nd rfl (by first | exact .inl rfl | exact .inr rfl) (se_sortR (hu64 hu) (by rfl) Γ.m_sorted (sv 0))) (ss_one (ss_ret (se_t1 c1_tuple (by rfl) Γ.m_tuple PyProof.Rows.boot_tuple (se_lc (own := [("k", 2), ("place", 3)]) rfl nd (si_enum2 (by rfl) Γ.m_enumerate (sv 1)) (blkOk_by (N := ["beads", "row", "k", "place"]) (sc := defScope s_shape_of_beads) (by first | decide +kernel | rfl)) (by decide) (fun _ _ _ _ _ => (sg_tup rfl (sgs_cons (sg_name nd rfl (by first | exact .inl rfl | exact .inr rfl)) (sgs_cons (sg_name nd rfl (by first | exact .inl rfl | exact .inr rfl)) sgs_nil)))) (fun _ _ _ _ _ => (sts_one (st_cmp op2_gt (se_bin op2_add (se_bin op2_add (se_bin op2_sub (sv 3) (se_b1 c1_len (by rfl) Γ.m_len PySem.boot_len (sv 1))) se_int) (sv 2)) se_int (by first | exact nomark _ | rfl)))) (fun _ _ _ _ _ => (se_bin op2_add (se_bin op2_add (se_bin op2_sub (sv 3) (se_b1 c1_len (by rfl) Γ.m_len PySem.boot_len (sv 1))) se_int) (sv 2))))))))
def mp_strips_by (c_beads_of c_shape_of_beads : List D → RD) : SF := sSeq (sPar 2 3 (eCall c_beads_of (aCons (eV 0) (aNil))) (eLst (aNil))) (sSeq (sFor (iSq (eV 2)) (tNm 4) (sSeq (sSet 5 (op2 gSub (eV 4) (eV 1))) (sIf (bAnd (bE (op2 gGe (eV 5) (eC (.int 0)))) (bE (op2 gNotIn (eV 5) (eV 2)))) (sSeq (sSet 6 (op1 gLen (eLc (iSq (eV 2)) (tNm 7) (bE (eCh gLt gLt (eV 5) (eV 7) (eV 4))) (eV 7) [7]))) (sDrop (eApp 3 (eTup (aCons (eCall c_shape_of_beads (aCons (eLc (iSq (eV 2)) (tNm 7) bYes (eIf (bE (op2 gEq (eV 7) (eV 4))) (eV 5) (eV 7)) [7]) (aNil))) (aCons (eV 6) (aNil))))))) (sNext)))) (sRet (op1 gSort (eV 3))))
def m_strips_by : SF := mp_strips_by f_beads_of f_shape_of_beads
def f_strips_by (ds : List D) : RD := if ds.length = 2 then outD (m_strips_by (initS 8 ds)) else .no
theorem ok_strips_by (Γ : Fx K mg) : FnG P w K mg base (L2.CX P w) 2 Γ.e_strips_by.f Γ.e_strips_by.fd ["shape", "many"] (spD P w K mg f_strips_by) := by
  refine fn_mk (k := 1) Γ.e_strips_by.F sc_strips_by m_strips_by f_strips_by (fun ds => ?_) fun cdv A outer s H E hr => ?_
  · by_cases h : ds.length = 2
    · exact .inr ⟨h, if_pos h⟩
    · exact .inl (if_neg h)
  · have hu := roomU hr
    have hgu := hr.g
    have nd := sc_strips_by.nd
    have hp := passes_of (X := cxOf (L2.CX P w) P w K mg base ["shape", "many", "beads", "out", "bead", "goal", "passed", "place"] "strips_by" (defScope s_strips_by) Γ.e_strips_by.f cdv A outer s H E) rfl
    have tk : Takes (cxOf (L2.CX P w) P w K mg base ["shape", "many", "beads", "out", "bead", "goal", "passed", "place"] "strips_by" (defScope s_strips_by) Γ.e_strips_by.f cdv A outer s H E) (fun cls d _ H => E cls d H) := takes_of rfl rfl rfl rfl
    exact (ss_cons (ss_par (i := 2) (j := 3) rfl nd rfl rfl (by decide) rfl rfl (se_call (ok_beads_of Γ) (hr.mono (by decide)) (by rfl) Γ.e_beads_of.g Γ.e_beads_of.F.kp Γ.e_beads_of.b tk (sa_cons (sv 0) sa_nil)) (se_lst sa_nil) rfl) (ss_cons (ss_for hp rfl (si_seq (sv 2)) (sg_name nd rfl (by first | exact .inl rfl | exact .inr rfl)) (ss_cons (ss_set nd rfl (by first | exact .inl rfl | exact .inr rfl) (se_bin op2_sub (sv 4) (sv 1))) (ss_one (ss_if (sw_pt (sw_and (st_cmp op2_ge (sv 5) se_int (by first | exact nomark _ | rfl)) (sw_and1 (st_cmp (op2_notIn hu) (sv 5) (sv 2) (by first | exact nomark _ | rfl))))) (ss_cons (ss_set nd rfl (by first | exact .inl rfl | exact .inr rfl) (se_b1 c1_len (by rfl) Γ.m_len PySem.boot_len (se_lc (own := [("place", 7)]) rfl nd (si_seq (sv 2)) (blkOk_by (N := ["shape", "many", "beads", "out", "bead", "goal", "passed", "place"]) (sc := defScope s_strips_by) (by first | decide +kernel | rfl)) (by decide) (fun _ _ _ _ _ => (sg_name nd rfl (by first | exact .inl rfl | exact .inr rfl))) (fun _ _ _ _ _ => (sts_one (st_ch op2_lt op2_lt (sv 5) (sv 7) (sv 4)))) (fun _ _ _ _ _ => (sv 7))))) (ss_one (ss_expr (se_append (i := 3) rfl (by first | exact Or.inl rfl | exact Or.inr (Or.inl rfl) | exact Or.inr (Or.inr rfl)) (se_tup (sa_cons (se_call (ok_shape_of_beads Γ) (hr.mono (by decide)) (by rfl) Γ.e_shape_of_beads.g Γ.e_shape_of_beads.F.kp Γ.e_shape_of_beads.b tk (sa_cons (se_lc (own := [("place", 7)]) rfl nd (si_seq (sv 2)) (blkOk_by (N := ["shape", "many", "beads", "out", "bead", "goal", "passed", "place"]) (sc := defScope s_strips_by) (by first | decide +kernel | rfl)) (by decide) (fun _ _ _ _ _ => (sg_name nd rfl (by first | exact .inl rfl | exact .inr rfl))) (fun _ _ _ _ _ => sts_nil) (fun _ _ _ _ _ => (se_if (st_cmp (op2_eq hu) (sv 7) (sv 4) (by first | exact nomark _ | rfl)) (sv 5) (sv 7)))) sa_nil)) (sa_cons (sv 6) sa_nil))))))) ss_nil)))) (ss_one (ss_ret (se_b1 (c1_sorted (hu64 hu)) (by rfl) Γ.m_sorted PyProof.Rows.boot_sorted (sv 3))))))
def mp_character_by (c_strips_by : List D → RD) : SF := sSeq (sSet 2 (eD1 (eV 0) (eC (.int 1)))) (sSeq (sFor (iSq (eV 1)) (tNm 3) (sSeq (sSet 4 (eDn)) (sSeq (sFor (iIt (eV 2)) (tTp 2 (tsCons (tNm 5) (tsCons (tNm 6) tsNil))) (sFor (iSq (eCall c_strips_by (aCons (eV 5) (aCons (eV 3) (aNil))))) (tTp 2 (tsCons (tNm 7) (tsCons (tNm 8) tsNil))) (sDp 4 (eV 7) (op2 gAdd (eGet2 (eV 4) (eV 7) (eC (.int 0))) (eIf (bE (op2 gEq (op2 gMod (eV 8) (eC (.int 2))) (eC (.int 0)))) (eV 6) (op1 gNeg (eV 6))))))) (sSet 2 (eV 4))))) (sRet (eGet2 (eV 2) (eTup (aNil)) (eC (.int 0)))))
def m_character_by : SF := mp_character_by f_strips_by
def f_character_by (ds : List D) : RD := if ds.length = 2 then outD (m_character_by (initS 9 ds)) else .no
theorem ok_character_by (Γ : Fx K mg) : FnG P w K mg base (L2.CX P w) 3 Γ.e_character_by.f Γ.e_character_by.fd ["shape", "kind"] (spD P w K mg f_character_by) := by
  refine fn_mk (k := 2) Γ.e_character_by.F sc_character_by m_character_by f_character_by (fun ds => ?_) fun cdv A outer s H E hr => ?_
  · by_cases h : ds.length = 2
    · exact .inr ⟨h, if_pos h⟩
    · exact .inl (if_neg h)
  · have hu := roomU hr
    have hgu := hr.g
    have nd := sc_character_by.nd
    have hp := passes_of (X := cxOf (L2.CX P w) P w K mg base ["shape", "kind", "found", "many", "fresh", "here", "number", "left", "height"] "character_by" (defScope s_character_by) Γ.e_character_by.f cdv A outer s H E) rfl
    have tk : Takes (cxOf (L2.CX P w) P w K mg base ["shape", "kind", "found", "many", "fresh", "here", "number", "left", "height"] "character_by" (defScope s_character_by) Γ.e_character_by.f cdv A outer s H E) (fun cls d _ H => E cls d H) := takes_of rfl rfl rfl rfl
    exact (ss_cons (ss_set nd rfl (by first | exact .inl rfl | exact .inr rfl) (se_d1 hu (sv 0) se_int)) (ss_cons (ss_for hp rfl (si_seq (sv 1)) (sg_name nd rfl (by first | exact .inl rfl | exact .inr rfl)) (ss_cons (ss_set nd rfl (by first | exact .inl rfl | exact .inr rfl) se_dnew) (ss_cons (ss_for hp rfl (si_items (sv 2)) (sg_tup rfl (sgs_cons (sg_name nd rfl (by first | exact .inl rfl | exact .inr rfl)) (sgs_cons (sg_name nd rfl (by first | exact .inl rfl | exact .inr rfl)) sgs_nil))) (ss_one (ss_for hp rfl (si_seq (se_call (ok_strips_by Γ) (hr.mono (by decide)) (by rfl) Γ.e_strips_by.g Γ.e_strips_by.F.kp Γ.e_strips_by.b tk (sa_cons (sv 5) (sa_cons (sv 3) sa_nil)))) (sg_tup rfl (sgs_cons (sg_name nd rfl (by first | exact .inl rfl | exact .inr rfl)) (sgs_cons (sg_name nd rfl (by first | exact .inl rfl | exact .inr rfl)) sgs_nil))) (ss_one (ss_dput (i := 4) hu rfl (by first | exact Or.inl rfl | exact Or.inr (Or.inl rfl) | exact Or.inr (Or.inr rfl)) (sv 7) (se_bin op2_add (se_get2 hu (sv 4) (sv 7) se_int ⟨by rfl, by rfl, by rfl, by rfl⟩) (se_if (st_cmp (op2_eq hu) (se_bin op2_mod (sv 8) se_int) se_int (by first | exact nomark _ | rfl)) (sv 6) (se_neg (sv 6))))))))) (ss_one (ss_set nd rfl (by first | exact .inl rfl | exact .inr rfl) (sv 4)))))) (ss_one (ss_ret (se_get2 hu (sv 2) (se_tup sa_nil) se_int ⟨by rfl, by rfl, by rfl, by rfl⟩)))))
def mp_stays_of (c_factorial : List D → RD) : SF := sSeq (sSet 1 (eC (.int 1))) (sSeq (sFor (iSq (eV 0)) (tNm 2) (sSet 1 (op2 gMul (eV 1) (eV 2)))) (sSeq (sFor (iSq (op1 gSS2 (eV 0))) (tNm 2) (sSet 1 (op2 gMul (eV 1) (eCall c_factorial (aCons (eCntT (eV 0) (eV 2)) (aNil)))))) (sRet (eV 1))))
def m_stays_of : SF := mp_stays_of f_factorial
def f_stays_of (ds : List D) : RD := if ds.length = 1 then outD (m_stays_of (initS 3 ds)) else .no
theorem ok_stays_of (Γ : Fx K mg) : FnG P w K mg base (L2.CX P w) 2 Γ.e_stays_of.f Γ.e_stays_of.fd ["kind"] (spD P w K mg f_stays_of) := by
  refine fn_mk (k := 1) Γ.e_stays_of.F sc_stays_of m_stays_of f_stays_of (fun ds => ?_) fun cdv A outer s H E hr => ?_
  · by_cases h : ds.length = 1
    · exact .inr ⟨h, if_pos h⟩
    · exact .inl (if_neg h)
  · have hu := roomU hr
    have hgu := hr.g
    have nd := sc_stays_of.nd
    have hp := passes_of (X := cxOf (L2.CX P w) P w K mg base ["kind", "out", "part"] "stays_of" (defScope s_stays_of) Γ.e_stays_of.f cdv A outer s H E) rfl
    have tk : Takes (cxOf (L2.CX P w) P w K mg base ["kind", "out", "part"] "stays_of" (defScope s_stays_of) Γ.e_stays_of.f cdv A outer s H E) (fun cls d _ H => E cls d H) := takes_of rfl rfl rfl rfl
    exact (ss_cons (ss_set nd rfl (by first | exact .inl rfl | exact .inr rfl) se_int) (ss_cons (ss_for hp rfl (si_seq (sv 0)) (sg_name nd rfl (by first | exact .inl rfl | exact .inr rfl)) (ss_one (ss_set nd rfl (by first | exact .inl rfl | exact .inr rfl) (se_bin op2_mul (sv 1) (sv 2))))) (ss_cons (ss_for hp rfl (si_seq (se_ss2 rfl (by rfl) Γ.m_sorted (by rfl) Γ.m_set (sv 0))) (sg_name nd rfl (by first | exact .inl rfl | exact .inr rfl)) (ss_one (ss_set nd rfl (by first | exact .inl rfl | exact .inr rfl) (se_bin op2_mul (sv 1) (se_call (ok_factorial Γ) (hr.mono (by decide)) (by rfl) Γ.e_factorial.g Γ.e_factorial.F.kp Γ.e_factorial.b tk (sa_cons (se_countT Γ.tk (sv 0) (sv 2)) sa_nil)))))) (ss_one (ss_ret (sv 1))))))
def mp_few_from (c_shape_from : List D → RD) : SF := sSeq (sSet 1 (eCall c_shape_from (aCons (eV 0) (aNil)))) (sSeq (sIf (bE (op2 gGt (op1 gSum (eV 1)) (eC (.int 8)))) (sRaise "BadShape" ["shape"] (aCons (eV 0) (aNil))) (sNext)) (sRet (eV 1)))
def m_few_from : SF := mp_few_from f_shape_from
def f_few_from (ds : List D) : RD := if ds.length = 1 then outD (m_few_from (initS 2 ds)) else .no
theorem ok_few_from (Γ : Fx K mg) : FnG P w K mg base (L2.CX P w) 11 Γ.e_few_from.f Γ.e_few_from.fd ["shape"] (spD P w K mg f_few_from) := by
  refine fn_mk (k := 10) Γ.e_few_from.F sc_few_from m_few_from f_few_from (fun ds => ?_) fun cdv A outer s H E hr => ?_
  · by_cases h : ds.length = 1
    · exact .inr ⟨h, if_pos h⟩
    · exact .inl (if_neg h)
  · have hu := roomU hr
    have hgu := hr.g
    have nd := sc_few_from.nd
    have hp := passes_of (X := cxOf (L2.CX P w) P w K mg base ["shape", "made"] "few_from" (defScope s_few_from) Γ.e_few_from.f cdv A outer s H E) rfl
    have tk : Takes (cxOf (L2.CX P w) P w K mg base ["shape", "made"] "few_from" (defScope s_few_from) Γ.e_few_from.f cdv A outer s H E) (fun cls d _ H => E cls d H) := takes_of rfl rfl rfl rfl
    exact (ss_cons (ss_set nd rfl (by first | exact .inl rfl | exact .inr rfl) (se_call (ok_shape_from Γ) (hr.mono (by decide)) (by rfl) Γ.e_shape_from.g Γ.e_shape_from.F.kp Γ.e_shape_from.b tk (sa_cons (sv 0) sa_nil))) (ss_cons (ss_if (st_cmp op2_gt (se_b1 (c1_sum rfl) (by rfl) Γ.m_sum PyProof.Rows.boot_sum (sv 1)) (se_c (pe_glob (v := .int 8) (by rfl) Γ.k_MOST_SIZE.choose_spec ⟨_, rfl⟩) fun _ => .int 8) (by first | exact nomark _ | rfl)) (ss_one (ss_raise rfl tk passL Γ.x_BadShape.T Γ.x_BadShape.iC Γ.x_BadShape.tI (okI_BadShape (k := 0) Γ) (hr.r.mono (by decide)) Γ.x_BadShape.b Γ.x_BadShape.nf (by rfl) Γ.x_BadShape.g (sa_cons (sv 0) sa_nil))) ss_nil) (ss_one (ss_ret (sv 1)))))
def mp_inner_number (c_character_by c_factorial c_falling_rows c_few_from c_stays_of : List D → RD) : SF := sSeq (sSet 3 (eCall c_few_from (aCons (eV 0) (aNil)))) (sSeq (sSet 4 (eCall c_few_from (aCons (eV 1) (aNil)))) (sSeq (sSet 5 (eCall c_few_from (aCons (eV 2) (aNil)))) (sSeq (sSet 6 (op1 gSum (eV 3))) (sSeq (sIf (bOr (bE (op2 gNe (op1 gSum (eV 4)) (eV 6))) (bE (op2 gNe (op1 gSum (eV 5)) (eV 6)))) (sRaise "Unlike" ["what"] (aCons (eC (.str "boxes")) (aNil))) (sNext)) (sSeq (sSet 7 (eC (.int 0))) (sSeq (sFor (iSq (eCall c_falling_rows (aCons (eV 6) (aCons (eV 6) (aCons (eV 6) (aNil)))))) (tNm 8) (sSeq (sSet 9 (op2 gMul (op2 gMul (eCall c_character_by (aCons (eV 3) (aCons (eV 8) (aNil)))) (eCall c_character_by (aCons (eV 4) (aCons (eV 8) (aNil))))) (eCall c_character_by (aCons (eV 5) (aCons (eV 8) (aNil)))))) (sAug 7 (fun a b => a + b) (op2 gMul (eV 9) (op2 gDiv (eCall c_factorial (aCons (eV 6) (aNil))) (eCall c_stays_of (aCons (eV 8) (aNil)))))))) (sRet (op2 gDiv (eV 7) (eCall c_factorial (aCons (eV 6) (aNil)))))))))))
def m_inner_number : SF := mp_inner_number f_character_by f_factorial f_falling_rows f_few_from f_stays_of
def f_inner_number (ds : List D) : RD := if ds.length = 3 then outD (m_inner_number (initS 10 ds)) else .no
theorem ok_inner_number (Γ : Fx K mg) : FnG P w K mg base (L2.CX P w) 12 Γ.e_inner_number.f Γ.e_inner_number.fd ["one", "other", "whole"] (spD P w K mg f_inner_number) := by
  refine fn_mk (k := 11) Γ.e_inner_number.F sc_inner_number m_inner_number f_inner_number (fun ds => ?_) fun cdv A outer s H E hr => ?_
  · by_cases h : ds.length = 3
    · exact .inr ⟨h, if_pos h⟩
    · exact .inl (if_neg h)
  · have hu := roomU hr
    have hgu := hr.g
    have nd := sc_inner_number.nd
    have hp := passes_of (X := cxOf (L2.CX P w) P w K mg base ["one", "other", "whole", "first", "second", "third", "many", "total", "kind", "value"] "inner_number" (defScope s_inner_number) Γ.e_inner_number.f cdv A outer s H E) rfl
    have tk : Takes (cxOf (L2.CX P w) P w K mg base ["one", "other", "whole", "first", "second", "third", "many", "total", "kind", "value"] "inner_number" (defScope s_inner_number) Γ.e_inner_number.f cdv A outer s H E) (fun cls d _ H => E cls d H) := takes_of rfl rfl rfl rfl
    exact (ss_cons (ss_set nd rfl (by first | exact .inl rfl | exact .inr rfl) (se_call (ok_few_from Γ) (hr.mono (by decide)) (by rfl) Γ.e_few_from.g Γ.e_few_from.F.kp Γ.e_few_from.b tk (sa_cons (sv 0) sa_nil))) (ss_cons (ss_set nd rfl (by first | exact .inl rfl | exact .inr rfl) (se_call (ok_few_from Γ) (hr.mono (by decide)) (by rfl) Γ.e_few_from.g Γ.e_few_from.F.kp Γ.e_few_from.b tk (sa_cons (sv 1) sa_nil))) (ss_cons (ss_set nd rfl (by first | exact .inl rfl | exact .inr rfl) (se_call (ok_few_from Γ) (hr.mono (by decide)) (by rfl) Γ.e_few_from.g Γ.e_few_from.F.kp Γ.e_few_from.b tk (sa_cons (sv 2) sa_nil))) (ss_cons (ss_set nd rfl (by first | exact .inl rfl | exact .inr rfl) (se_b1 (c1_sum rfl) (by rfl) Γ.m_sum PyProof.Rows.boot_sum (sv 3))) (ss_cons (ss_if (sw_pt (sw_or (st_cmp (op2_ne hu) (se_b1 (c1_sum rfl) (by rfl) Γ.m_sum PyProof.Rows.boot_sum (sv 4)) (sv 6) (by first | exact nomark _ | rfl)) (sw_or1 (st_cmp (op2_ne hu) (se_b1 (c1_sum rfl) (by rfl) Γ.m_sum PyProof.Rows.boot_sum (sv 5)) (sv 6) (by first | exact nomark _ | rfl))))) (ss_one (ss_raise rfl tk passL Γ.x_Unlike.T Γ.x_Unlike.iC Γ.x_Unlike.tI (okI_Unlike (k := 0) Γ) (hr.r.mono (by decide)) Γ.x_Unlike.b Γ.x_Unlike.nf (by rfl) Γ.x_Unlike.g (sa_cons se_str sa_nil))) ss_nil) (ss_cons (ss_set nd rfl (by first | exact .inl rfl | exact .inr rfl) se_int) (ss_cons (ss_for hp rfl (si_seq (se_call (ok_falling_rows Γ) (hr.mono (by decide)) (by rfl) Γ.e_falling_rows.g Γ.e_falling_rows.F.kp Γ.e_falling_rows.b tk (sa_cons (sv 6) (sa_cons (sv 6) (sa_cons (sv 6) sa_nil))))) (sg_name nd rfl (by first | exact .inl rfl | exact .inr rfl)) (ss_cons (ss_set nd rfl (by first | exact .inl rfl | exact .inr rfl) (se_bin op2_mul (se_bin op2_mul (se_call (ok_character_by Γ) (hr.mono (by decide)) (by rfl) Γ.e_character_by.g Γ.e_character_by.F.kp Γ.e_character_by.b tk (sa_cons (sv 3) (sa_cons (sv 8) sa_nil))) (se_call (ok_character_by Γ) (hr.mono (by decide)) (by rfl) Γ.e_character_by.g Γ.e_character_by.F.kp Γ.e_character_by.b tk (sa_cons (sv 4) (sa_cons (sv 8) sa_nil)))) (se_call (ok_character_by Γ) (hr.mono (by decide)) (by rfl) Γ.e_character_by.g Γ.e_character_by.F.kp Γ.e_character_by.b tk (sa_cons (sv 5) (sa_cons (sv 8) sa_nil))))) (ss_one (ss_aug nd rfl (by first | exact .inl rfl | exact .inr rfl) (se_bin op2_mul (sv 9) (se_bin op2_div (se_call (ok_factorial Γ) (hr.mono (by decide)) (by rfl) Γ.e_factorial.g Γ.e_factorial.F.kp Γ.e_factorial.b tk (sa_cons (sv 6) sa_nil)) (se_call (ok_stays_of Γ) (hr.mono (by decide)) (by rfl) Γ.e_stays_of.g Γ.e_stays_of.F.kp Γ.e_stays_of.b tk (sa_cons (sv 8) sa_nil)))) ip_add)))) (ss_one (ss_ret (se_bin op2_div (sv 7) (se_call (ok_factorial Γ) (hr.mono (by decide)) (by rfl) Γ.e_factorial.g Γ.e_factorial.F.kp Γ.e_factorial.b tk (sa_cons (sv 6) sa_nil))))))))))))
def m__law_pick : SF := sRet (op2 gIx (eV 1) (eCallN f__law_draw (aCons (eV 0) (aCons (op1 gLen (eV 1)) (aNil)))))
def f__law_pick (ds : List D) (p : Pen) : RN := if ds.length + 1 = 2 then outN (m__law_pick (initN 2 ds p)) else .no
theorem ok__law_pick (Γ : Fx K mg) : FnG P w K mg base (L2.CX P w) 2 Γ.e__law_pick.f Γ.e__law_pick.fd ["pen", "some"] (spN P w K mg f__law_pick) := by
  refine fn_mkN (k := 1) Γ.e__law_pick.F sc__law_pick m__law_pick f__law_pick (fun ds p => ?_) fun cdv A outer s H E hr => ?_
  · by_cases h : ds.length + 1 = 2
    · exact .inr ⟨h, if_pos h⟩
    · exact .inl (if_neg h)
  · have hu := roomU hr
    have hgu := hr.g
    have nd := sc__law_pick.nd
    have hp := passes_of (X := cxOf (L2.CX P w) P w K mg base ["pen", "some"] "_law_pick" (defScope s__law_pick) Γ.e__law_pick.f cdv A outer s H E) rfl
    have tk : Takes (cxOf (L2.CX P w) P w K mg base ["pen", "some"] "_law_pick" (defScope s__law_pick) Γ.e__law_pick.f cdv A outer s H E) (fun cls d _ H => E cls d H) := takes_of rfl rfl rfl rfl
    exact (ss_one (ss_ret (se_ix (sv 1) (se_callN (ok__law_draw Γ) (hr.mono (by decide)) (by rfl) Γ.e__law_draw.g Γ.e__law_draw.F.kp Γ.e__law_draw.b tk (sa_cons (sv 0) (sa_cons (se_b1 c1_len (by rfl) Γ.m_len PySem.boot_len (sv 1)) sa_nil))) (fun _ _ => rfl))))
def m__law_shuffled : SF := sSeq (sPar 2 3 (op1 gList (eV 1)) (eLst (aNil))) (sSeq (sFor (iRg rg1 (aCons (op1 gLen (eV 1)) (aNil))) (tNm 4) (sDrop (eApp 3 (ePopAt 2 (eCallN f__law_draw (aCons (eV 0) (aCons (op1 gLen (eV 2)) (aNil)))))))) (sRet (eV 3)))
def f__law_shuffled (ds : List D) (p : Pen) : RN := if ds.length + 1 = 2 then outN (m__law_shuffled (initN 5 ds p)) else .no
theorem ok__law_shuffled (Γ : Fx K mg) : FnG P w K mg base (L2.CX P w) 2 Γ.e__law_shuffled.f Γ.e__law_shuffled.fd ["pen", "some"] (spN P w K mg f__law_shuffled) := by
  refine fn_mkN (k := 1) Γ.e__law_shuffled.F sc__law_shuffled m__law_shuffled f__law_shuffled (fun ds p => ?_) fun cdv A outer s H E hr => ?_
  · by_cases h : ds.length + 1 = 2
    · exact .inr ⟨h, if_pos h⟩
    · exact .inl (if_neg h)
  · have hu := roomU hr
    have hgu := hr.g
    have nd := sc__law_shuffled.nd
    have hp := passes_of (X := cxOf (L2.CX P w) P w K mg base ["pen", "some", "left", "found", "lap"] "_law_shuffled" (defScope s__law_shuffled) Γ.e__law_shuffled.f cdv A outer s H E) rfl
    have tk : Takes (cxOf (L2.CX P w) P w K mg base ["pen", "some", "left", "found", "lap"] "_law_shuffled" (defScope s__law_shuffled) Γ.e__law_shuffled.f cdv A outer s H E) (fun cls d _ H => E cls d H) := takes_of rfl rfl rfl rfl
    exact (ss_cons (ss_par (i := 2) (j := 3) rfl nd rfl rfl (by decide) rfl rfl (se_t1 c1_list (by rfl) Γ.m_list PyProof.Rows.boot_list (sv 1)) (se_lst sa_nil) rfl) (ss_cons (ss_for hp rfl (si_range1 (by rfl) Γ.m_range (sa_cons (se_b1 c1_len (by rfl) Γ.m_len PySem.boot_len (sv 1)) sa_nil)) (sg_name nd rfl (by first | exact .inl rfl | exact .inr rfl)) (ss_one (ss_expr (se_append (i := 3) rfl (by first | exact Or.inl rfl | exact Or.inr (Or.inl rfl) | exact Or.inr (Or.inr rfl)) (se_popAt (i := 2) rfl (by first | exact Or.inl rfl | exact Or.inr (Or.inl rfl) | exact Or.inr (Or.inr rfl)) (se_callN (ok__law_draw Γ) (hr.mono (by decide)) (by rfl) Γ.e__law_draw.g Γ.e__law_draw.F.kp Γ.e__law_draw.b tk (sa_cons (sv 0) (sa_cons (se_b1 c1_len (by rfl) Γ.m_len PySem.boot_len (sv 2)) sa_nil)))))))) (ss_one (ss_ret (sv 3)))))
def m__law_gcd : SF := sSeq (sPar 0 1 (op1 gAbs (eV 0)) (op1 gAbs (eV 1))) (sSeq (sFor (iRg rg1 (aCons (op2 gAdd (eC (.int 4)) (op2 gMul (eC (.int 2)) (op1 gBits (op1 gInt (eV 1))))) (aNil))) (tNm 2) (sSeq (sIf (bE (op2 gEq (eV 1) (eC (.int 0)))) (sBrk) (sNext)) (sPar 0 1 (eV 1) (op2 gMod (op1 gInt (eV 0)) (eV 1))))) (sRet (eV 0)))
def f__law_gcd (ds : List D) : RD := if ds.length = 2 then outD (m__law_gcd (initS 3 ds)) else .no
theorem ok__law_gcd (Γ : Fx K mg) : FnG P w K mg base (L2.CX P w) 1 Γ.e__law_gcd.f Γ.e__law_gcd.fd ["one", "two"] (spD P w K mg f__law_gcd) := by
  refine fn_mk (k := 0) Γ.e__law_gcd.F sc__law_gcd m__law_gcd f__law_gcd (fun ds => ?_) fun cdv A outer s H E hr => ?_
  · by_cases h : ds.length = 2
    · exact .inr ⟨h, if_pos h⟩
    · exact .inl (if_neg h)
  · have hu := roomU hr
    have hgu := hr.g
    have nd := sc__law_gcd.nd
    have hp := passes_of (X := cxOf (L2.CX P w) P w K mg base ["one", "two", "lap"] "_law_gcd" (defScope s__law_gcd) Γ.e__law_gcd.f cdv A outer s H E) rfl
    have tk : Takes (cxOf (L2.CX P w) P w K mg base ["one", "two", "lap"] "_law_gcd" (defScope s__law_gcd) Γ.e__law_gcd.f cdv A outer s H E) (fun cls d _ H => E cls d H) := takes_of rfl rfl rfl rfl
    exact (ss_cons (ss_par (i := 0) (j := 1) rfl nd rfl rfl (by decide) rfl rfl (se_b1 c1_abs (by rfl) Γ.m_abs PyProof.Rows.boot_abs (sv 0)) (se_b1 c1_abs (by rfl) Γ.m_abs PyProof.Rows.boot_abs (sv 1)) rfl) (ss_cons (ss_for hp rfl (si_range1 (by rfl) Γ.m_range (sa_cons (se_bin op2_add se_int (se_bin op2_mul se_int (se_bits (se_t1 c1_int (by rfl) Γ.m_int PyProof.Rows.boot_int (sv 1))))) sa_nil)) (sg_name nd rfl (by first | exact .inl rfl | exact .inr rfl)) (ss_cons (ss_if (st_cmp (op2_eq hu) (sv 1) se_int (by first | exact nomark _ | rfl)) (ss_one ss_break) ss_nil) (ss_one (ss_par (i := 0) (j := 1) rfl nd rfl rfl (by decide) rfl rfl (sv 1) (se_bin op2_mod (se_t1 c1_int (by rfl) Γ.m_int PyProof.Rows.boot_int (sv 0)) (sv 1)) rfl)))) (ss_one (ss_ret (sv 0)))))
def mp__law_q (c__law_gcd : List D → RD) : SF := sSeq (sSet 2 (eCall c__law_gcd (aCons (eV 0) (aCons (eV 1) (aNil))))) (sSeq (sSet 2 (eIf (bE (op2 gLt (eV 1) (eC (.int 0)))) (op1 gNeg (eV 2)) (eV 2))) (sRet (eTup (aCons (op2 gDiv (eV 0) (eV 2)) (aCons (op2 gDiv (eV 1) (eV 2)) (aNil))))))
def m__law_q : SF := mp__law_q f__law_gcd
def f__law_q (ds : List D) : RD := if ds.length = 2 then outD (m__law_q (initS 3 ds)) else .no
theorem ok__law_q (Γ : Fx K mg) : FnG P w K mg base (L2.CX P w) 2 Γ.e__law_q.f Γ.e__law_q.fd ["top", "bottom"] (spD P w K mg f__law_q) := by
  refine fn_mk (k := 1) Γ.e__law_q.F sc__law_q m__law_q f__law_q (fun ds => ?_) fun cdv A outer s H E hr => ?_
  · by_cases h : ds.length = 2
    · exact .inr ⟨h, if_pos h⟩
    · exact .inl (if_neg h)
  · have hu := roomU hr
    have hgu := hr.g
    have nd := sc__law_q.nd
    have hp := passes_of (X := cxOf (L2.CX P w) P w K mg base ["top", "bottom", "by"] "_law_q" (defScope s__law_q) Γ.e__law_q.f cdv A outer s H E) rfl
    have tk : Takes (cxOf (L2.CX P w) P w K mg base ["top", "bottom", "by"] "_law_q" (defScope s__law_q) Γ.e__law_q.f cdv A outer s H E) (fun cls d _ H => E cls d H) := takes_of rfl rfl rfl rfl
    exact (ss_cons (ss_set nd rfl (by first | exact .inl rfl | exact .inr rfl) (se_call (ok__law_gcd Γ) (hr.mono (by decide)) (by rfl) Γ.e__law_gcd.g Γ.e__law_gcd.F.kp Γ.e__law_gcd.b tk (sa_cons (sv 0) (sa_cons (sv 1) sa_nil)))) (ss_cons (ss_set nd rfl (by first | exact .inl rfl | exact .inr rfl) (se_if (st_cmp op2_lt (sv 1) se_int (by first | exact nomark _ | rfl)) (se_neg (sv 2)) (sv 2))) (ss_one (ss_ret (se_tup (sa_cons (se_bin op2_div (sv 0) (sv 2)) (sa_cons (se_bin op2_div (sv 1) (sv 2)) sa_nil)))))))
def m__law_shapes : SF := sSeq (sPar 2 3 (eLst (aNil)) (eLst (aCons (eTup (aNil)) (aNil)))) (sSeq (sFor (iRg rg1 (aCons (op2 gAdd (eV 1) (eC (.int 1))) (aNil))) (tNm 4) (sSeq (sSet 2 (op2 gAdd (eV 2) (eLc (iSq (eV 3)) (tNm 6) (bE (op2 gEq (op1 gSum (eV 6)) (eV 0))) (eV 6) [6]))) (sSeq (sSet 5 (eLst (aNil))) (sSeq (sFor (iSq (eV 3)) (tNm 6) (sSeq (sSet 7 (op2 gMin2 (op2 gSub (eV 0) (op1 gSum (eV 6))) (eIf (bE (op2 gNe (eV 6) (eTup (aNil)))) (op2 gIx (eV 6) (op1 gNeg (eC (.int 1)))) (eV 0)))) (sSet 5 (op2 gAdd (eV 5) (eLc (iRg rg2 (aCons (eC (.int 1)) (aCons (op2 gAdd (eV 7) (eC (.int 1))) (aNil)))) (tNm 8) bYes (op2 gAdd (eV 6) (eTup (aCons (eV 8) (aNil)))) [8]))))) (sSet 3 (eV 5)))))) (sRet (op1 gSort (eV 2))))
def f__law_shapes (ds : List D) : RD := if ds.length = 2 then outD (m__law_shapes (initS 9 ds)) else .no
theorem ok__law_shapes (Γ : Fx K mg) : FnG P w K mg base (L2.CX P w) 1 Γ.e__law_shapes.f Γ.e__law_shapes.fd ["number", "rows"] (spD P w K mg f__law_shapes) := by
  refine fn_mk (k := 0) Γ.e__law_shapes.F sc__law_shapes m__law_shapes f__law_shapes (fun ds => ?_) fun cdv A outer s H E hr => ?_
  · by_cases h : ds.length = 2
    · exact .inr ⟨h, if_pos h⟩
    · exact .inl (if_neg h)
  · have hu := roomU hr
    have hgu := hr.g
    have nd := sc__law_shapes.nd
    have hp := passes_of (X := cxOf (L2.CX P w) P w K mg base ["number", "rows", "found", "here", "lap", "fresh", "row", "top", "part"] "_law_shapes" (defScope s__law_shapes) Γ.e__law_shapes.f cdv A outer s H E) rfl
    have tk : Takes (cxOf (L2.CX P w) P w K mg base ["number", "rows", "found", "here", "lap", "fresh", "row", "top", "part"] "_law_shapes" (defScope s__law_shapes) Γ.e__law_shapes.f cdv A outer s H E) (fun cls d _ H => E cls d H) := takes_of rfl rfl rfl rfl
    exact (ss_cons (ss_par (i := 2) (j := 3) rfl nd rfl rfl (by decide) rfl rfl (se_lst sa_nil) (se_lst (sa_cons (se_tup sa_nil) sa_nil)) rfl) (ss_cons (ss_for hp rfl (si_range1 (by rfl) Γ.m_range (sa_cons (se_bin op2_add (sv 1) se_int) sa_nil)) (sg_name nd rfl (by first | exact .inl rfl | exact .inr rfl)) (ss_cons (ss_set nd rfl (by first | exact .inl rfl | exact .inr rfl) (se_bin op2_add (sv 2) (se_lc (own := [("row", 6)]) rfl nd (si_seq (sv 3)) (blkOk_by (N := ["number", "rows", "found", "here", "lap", "fresh", "row", "top", "part"]) (sc := defScope s__law_shapes) (by first | decide +kernel | rfl)) (by decide) (fun _ _ _ _ _ => (sg_name nd rfl (by first | exact .inl rfl | exact .inr rfl))) (fun _ _ _ _ _ => (sts_one (st_cmp (op2_eq hu) (se_b1 (c1_sum rfl) (by rfl) Γ.m_sum PyProof.Rows.boot_sum (sv 6)) (sv 0) (by first | exact nomark _ | rfl)))) (fun _ _ _ _ _ => (sv 6))))) (ss_cons (ss_set nd rfl (by first | exact .inl rfl | exact .inr rfl) (se_lst sa_nil)) (ss_cons (ss_for hp rfl (si_seq (sv 3)) (sg_name nd rfl (by first | exact .inl rfl | exact .inr rfl)) (ss_cons (ss_set nd rfl (by first | exact .inl rfl | exact .inr rfl) (se_b2 (c2_min rfl) (by rfl) Γ.m_min PyProof.Rows.boot_min (se_bin op2_sub (sv 0) (se_b1 (c1_sum rfl) (by rfl) Γ.m_sum PyProof.Rows.boot_sum (sv 6))) (se_if (st_cmp (op2_ne hu) (sv 6) (se_tup sa_nil) (by first | exact nomark _ | rfl)) (se_ix (sv 6) (se_neg se_int) (fun _ _ => rfl)) (sv 0)))) (ss_one (ss_set nd rfl (by first | exact .inl rfl | exact .inr rfl) (se_bin op2_add (sv 5) (se_lc (own := [("part", 8)]) rfl nd (si_range2 (by rfl) Γ.m_range (sa_cons se_int (sa_cons (se_bin op2_add (sv 7) se_int) sa_nil))) (blkOk_by (N := ["number", "rows", "found", "here", "lap", "fresh", "row", "top", "part"]) (sc := defScope s__law_shapes) (by first | decide +kernel | rfl)) (by decide) (fun _ _ _ _ _ => (sg_name nd rfl (by first | exact .inl rfl | exact .inr rfl))) (fun _ _ _ _ _ => sts_nil) (fun _ _ _ _ _ => (se_bin op2_add (sv 6) (se_tup (sa_cons (sv 8) sa_nil)))))))))) (ss_one (ss_set nd rfl (by first | exact .inl rfl | exact .inr rfl) (sv 5))))))) (ss_one (ss_ret (se_b1 (c1_sorted (hu64 hu)) (by rfl) Γ.m_sorted PyProof.Rows.boot_sorted (sv 2))))))
def mp__law_shape_of (c__law_shapes : List D → RD) : SF := sSeq (sSet 3 (eCall c__law_shapes (aCons (eV 1) (aCons (eV 2) (aNil))))) (sRet (eCallN f__law_pick (aCons (eV 0) (aCons (eV 3) (aNil)))))
def m__law_shape_of : SF := mp__law_shape_of f__law_shapes
def f__law_shape_of (ds : List D) (p : Pen) : RN := if ds.length + 1 = 3 then outN (m__law_shape_of (initN 4 ds p)) else .no
theorem ok__law_shape_of (Γ : Fx K mg) : FnG P w K mg base (L2.CX P w) 3 Γ.e__law_shape_of.f Γ.e__law_shape_of.fd ["pen", "number", "rows"] (spN P w K mg f__law_shape_of) := by
  refine fn_mkN (k := 2) Γ.e__law_shape_of.F sc__law_shape_of m__law_shape_of f__law_shape_of (fun ds p => ?_) fun cdv A outer s H E hr => ?_
  · by_cases h : ds.length + 1 = 3
    · exact .inr ⟨h, if_pos h⟩
    · exact .inl (if_neg h)
  · have hu := roomU hr
    have hgu := hr.g
    have nd := sc__law_shape_of.nd
    have hp := passes_of (X := cxOf (L2.CX P w) P w K mg base ["pen", "number", "rows", "some"] "_law_shape_of" (defScope s__law_shape_of) Γ.e__law_shape_of.f cdv A outer s H E) rfl
    have tk : Takes (cxOf (L2.CX P w) P w K mg base ["pen", "number", "rows", "some"] "_law_shape_of" (defScope s__law_shape_of) Γ.e__law_shape_of.f cdv A outer s H E) (fun cls d _ H => E cls d H) := takes_of rfl rfl rfl rfl
    exact (ss_cons (ss_set nd rfl (by first | exact .inl rfl | exact .inr rfl) (se_call (ok__law_shapes Γ) (hr.mono (by decide)) (by rfl) Γ.e__law_shapes.g Γ.e__law_shapes.F.kp Γ.e__law_shapes.b tk (sa_cons (sv 1) (sa_cons (sv 2) sa_nil)))) (ss_one (ss_ret (se_callN (ok__law_pick Γ) (hr.mono (by decide)) (by rfl) Γ.e__law_pick.g Γ.e__law_pick.F.kp Γ.e__law_pick.b tk (sa_cons (sv 0) (sa_cons (sv 3) sa_nil))))))
def m__law_turned : SF := sRet (op1 gTuple (eLc (iRg rg1 (aCons (eIf (bE (op2 gNe (eV 0) (eTup (aNil)))) (op2 gIx (eV 0) (eC (.int 0))) (eC (.int 0))) (aNil))) (tNm 1) bYes (op1 gLen (eLc (iSq (eV 0)) (tNm 2) (bE (op2 gGt (eV 2) (eV 1))) (eV 2) [2])) [1]))
def f__law_turned (ds : List D) : RD := if ds.length = 1 then outD (m__law_turned (initS 3 ds)) else .no
theorem ok__law_turned (Γ : Fx K mg) : FnG P w K mg base (L2.CX P w) 1 Γ.e__law_turned.f Γ.e__law_turned.fd ["shape"] (spD P w K mg f__law_turned) := by
  refine fn_mk (k := 0) Γ.e__law_turned.F sc__law_turned m__law_turned f__law_turned (fun ds => ?_) fun cdv A outer s H E hr => ?_
  · by_cases h : ds.length = 1
    · exact .inr ⟨h, if_pos h⟩
    · exact .inl (if_neg h)
  · have hu := roomU hr
    have hgu := hr.g
    have nd := sc__law_turned.nd
    have hp := passes_of (X := cxOf (L2.CX P w) P w K mg base ["shape", "k", "row"] "_law_turned" (defScope s__law_turned) Γ.e__law_turned.f cdv A outer s H E) rfl
    have tk : Takes (cxOf (L2.CX P w) P w K mg base ["shape", "k", "row"] "_law_turned" (defScope s__law_turned) Γ.e__law_turned.f cdv A outer s H E) (fun cls d _ H => E cls d H) := takes_of rfl rfl rfl rfl
    exact (ss_one (ss_ret (se_t1 c1_tuple (by rfl) Γ.m_tuple PyProof.Rows.boot_tuple (se_lc (own := [("k", 1)]) rfl nd (si_range1 (by rfl) Γ.m_range (sa_cons (se_if (st_cmp (op2_ne hu) (sv 0) (se_tup sa_nil) (by first | exact nomark _ | rfl)) (se_ix (sv 0) se_int (fun _ _ => rfl)) se_int) sa_nil)) (blkOk_by (N := ["shape", "k", "row"]) (sc := defScope s__law_turned) (by first | decide +kernel | rfl)) (by decide) (fun _ _ _ _ _ => (sg_name nd rfl (by first | exact .inl rfl | exact .inr rfl))) (fun _ _ _ _ _ => sts_nil) (fun _ _ _ _ _ => (se_b1 c1_len (by rfl) Γ.m_len PySem.boot_len (se_lc (own := [("row", 2)]) rfl nd (si_seq (sv 0)) (blkOk_by  (by first | decide +kernel | rfl)) (by decide) (fun _ _ _ _ _ => (sg_name nd rfl (by first | exact .inl rfl | exact .inr rfl))) (fun _ _ _ _ _ => (sts_one (st_cmp op2_gt (sv 2) (sv 1) (by first | exact nomark _ | rfl)))) (fun _ _ _ _ _ => (sv 2)))))))))
def m__law_padded : SF := sRet (op2 gAdd (op1 gTuple (eV 0)) (op2 gMul (eTup (aCons (eC (.int 0)) (aNil))) (op2 gSub (eV 1) (op1 gLen (eV 0)))))
def f__law_padded (ds : List D) : RD := if ds.length = 2 then outD (m__law_padded (initS 2 ds)) else .no
theorem ok__law_padded (Γ : Fx K mg) : FnG P w K mg base (L2.CX P w) 1 Γ.e__law_padded.f Γ.e__law_padded.fd ["shape", "long"] (spD P w K mg f__law_padded) := by
  refine fn_mk (k := 0) Γ.e__law_padded.F sc__law_padded m__law_padded f__law_padded (fun ds => ?_) fun cdv A outer s H E hr => ?_
  · by_cases h : ds.length = 2
    · exact .inr ⟨h, if_pos h⟩
    · exact .inl (if_neg h)
  · have hu := roomU hr
    have hgu := hr.g
    have nd := sc__law_padded.nd
    have hp := passes_of (X := cxOf (L2.CX P w) P w K mg base ["shape", "long"] "_law_padded" (defScope s__law_padded) Γ.e__law_padded.f cdv A outer s H E) rfl
    have tk : Takes (cxOf (L2.CX P w) P w K mg base ["shape", "long"] "_law_padded" (defScope s__law_padded) Γ.e__law_padded.f cdv A outer s H E) (fun cls d _ H => E cls d H) := takes_of rfl rfl rfl rfl
    exact (ss_one (ss_ret (se_bin op2_add (se_t1 c1_tuple (by rfl) Γ.m_tuple PyProof.Rows.boot_tuple (sv 0)) (se_bin op2_mul (se_tup (sa_cons se_int sa_nil)) (se_bin op2_sub (sv 1) (se_b1 c1_len (by rfl) Γ.m_len PySem.boot_len (sv 0)))))))
def m__law_lies_in : SF := sRet (eAnd (op2 gLe (op1 gLen (eV 0)) (op1 gLen (eV 1))) (op1 gAll (eLc (iZp (aCons (eV 0) (aCons (eV 1) (aNil)))) (tTp 2 (tsCons (tNm 2) (tsCons (tNm 3) tsNil))) bYes (op2 gLe (eV 2) (eV 3)) [2, 3])))
def f__law_lies_in (ds : List D) : RD := if ds.length = 2 then outD (m__law_lies_in (initS 4 ds)) else .no
theorem ok__law_lies_in (Γ : Fx K mg) : FnG P w K mg base (L2.CX P w) 1 Γ.e__law_lies_in.f Γ.e__law_lies_in.fd ["one", "two"] (spD P w K mg f__law_lies_in) := by
  refine fn_mk (k := 0) Γ.e__law_lies_in.F sc__law_lies_in m__law_lies_in f__law_lies_in (fun ds => ?_) fun cdv A outer s H E hr => ?_
  · by_cases h : ds.length = 2
    · exact .inr ⟨h, if_pos h⟩
    · exact .inl (if_neg h)
  · have hu := roomU hr
    have hgu := hr.g
    have nd := sc__law_lies_in.nd
    have hp := passes_of (X := cxOf (L2.CX P w) P w K mg base ["one", "two", "a", "b"] "_law_lies_in" (defScope s__law_lies_in) Γ.e__law_lies_in.f cdv A outer s H E) rfl
    have tk : Takes (cxOf (L2.CX P w) P w K mg base ["one", "two", "a", "b"] "_law_lies_in" (defScope s__law_lies_in) Γ.e__law_lies_in.f cdv A outer s H E) (fun cls d _ H => E cls d H) := takes_of rfl rfl rfl rfl
    exact (ss_one (ss_ret (se_and (se_cmp op2_le (se_b1 c1_len (by rfl) Γ.m_len PySem.boot_len (sv 0)) (se_b1 c1_len (by rfl) Γ.m_len PySem.boot_len (sv 1)) (by first | exact nomark _ | rfl)) (se_one (se_b1 (c1_all rfl) (by rfl) Γ.m_all PyProof.Rows.boot_all (se_lc (own := [("a", 2), ("b", 3)]) rfl nd (si_zip (by rfl) Γ.m_zip (sa_cons (sv 0) (sa_cons (sv 1) sa_nil))) (blkOk_by (N := ["one", "two", "a", "b"]) (sc := defScope s__law_lies_in) (by first | decide +kernel | rfl)) (by decide) (fun _ _ _ _ _ => (sg_tup rfl (sgs_cons (sg_name nd rfl (by first | exact .inl rfl | exact .inr rfl)) (sgs_cons (sg_name nd rfl (by first | exact .inl rfl | exact .inr rfl)) sgs_nil)))) (fun _ _ _ _ _ => sts_nil) (fun _ _ _ _ _ => (se_cmp op2_le (sv 2) (sv 3) (by first | exact nomark _ | rfl)))))))))
def m__law_factorial : SF := sSeq (sSet 1 (eC (.int 1))) (sSeq (sFor (iRg rg2 (aCons (eC (.int 2)) (aCons (op2 gAdd (eV 0) (eC (.int 1))) (aNil)))) (tNm 2) (sSet 1 (op2 gMul (eV 1) (eV 2)))) (sRet (eV 1)))
def f__law_factorial (ds : List D) : RD := if ds.length = 1 then outD (m__law_factorial (initS 3 ds)) else .no
theorem ok__law_factorial (Γ : Fx K mg) : FnG P w K mg base (L2.CX P w) 1 Γ.e__law_factorial.f Γ.e__law_factorial.fd ["number"] (spD P w K mg f__law_factorial) := by
  refine fn_mk (k := 0) Γ.e__law_factorial.F sc__law_factorial m__law_factorial f__law_factorial (fun ds => ?_) fun cdv A outer s H E hr => ?_
  · by_cases h : ds.length = 1
    · exact .inr ⟨h, if_pos h⟩
    · exact .inl (if_neg h)
  · have hu := roomU hr
    have hgu := hr.g
    have nd := sc__law_factorial.nd
    have hp := passes_of (X := cxOf (L2.CX P w) P w K mg base ["number", "found", "k"] "_law_factorial" (defScope s__law_factorial) Γ.e__law_factorial.f cdv A outer s H E) rfl
    have tk : Takes (cxOf (L2.CX P w) P w K mg base ["number", "found", "k"] "_law_factorial" (defScope s__law_factorial) Γ.e__law_factorial.f cdv A outer s H E) (fun cls d _ H => E cls d H) := takes_of rfl rfl rfl rfl
    exact (ss_cons (ss_set nd rfl (by first | exact .inl rfl | exact .inr rfl) se_int) (ss_cons (ss_for hp rfl (si_range2 (by rfl) Γ.m_range (sa_cons se_int (sa_cons (se_bin op2_add (sv 0) se_int) sa_nil))) (sg_name nd rfl (by first | exact .inl rfl | exact .inr rfl)) (ss_one (ss_set nd rfl (by first | exact .inl rfl | exact .inr rfl) (se_bin op2_mul (sv 1) (sv 2))))) (ss_one (ss_ret (sv 1)))))
def m__law_bad_shape : SF := sRet (eCallN f__law_pick (aCons (eV 0) (aCons (eLst (aCons (eC .none) (aCons (eTup (aCons (eC (.int 1)) (aCons (eC (.int 2)) (aNil)))) (aCons (eTup (aCons (eC (.int 0)) (aNil))) (aCons (eTup (aCons (op1 gNeg (eC (.int 1))) (aNil))) (aCons (eTup (aCons (eC (.bool true)) (aNil))) (aCons (eTup (aCons (eC (.str "1")) (aNil))) (aCons (eC (.int 5)) (aCons (eTup (aCons (eC (.int 31)) (aNil))) (aCons (op2 gMul (eTup (aCons (eC (.int 1)) (aNil))) (eC (.int 13))) (aCons (eTup (aCons (eTup (aCons (eC (.int 1)) (aNil))) (aNil))) (aCons (eLst (aCons (eC (.int 2)) (aCons (eC (.int 3)) (aNil)))) (aCons (eTup (aCons (eC (.int 8)) (aCons (eC (.int 8)) (aCons (eC (.int 8)) (aCons (eC (.int 8)) (aNil)))))) (aNil)))))))))))))) (aNil))))
def f__law_bad_shape (ds : List D) (p : Pen) : RN := if ds.length + 1 = 1 then outN (m__law_bad_shape (initN 1 ds p)) else .no
theorem ok__law_bad_shape (Γ : Fx K mg) : FnG P w K mg base (L2.CX P w) 3 Γ.e__law_bad_shape.f Γ.e__law_bad_shape.fd ["pen"] (spN P w K mg f__law_bad_shape) := by
  refine fn_mkN (k := 2) Γ.e__law_bad_shape.F sc__law_bad_shape m__law_bad_shape f__law_bad_shape (fun ds p => ?_) fun cdv A outer s H E hr => ?_
  · by_cases h : ds.length + 1 = 1
    · exact .inr ⟨h, if_pos h⟩
    · exact .inl (if_neg h)
  · have hu := roomU hr
    have hgu := hr.g
    have nd := sc__law_bad_shape.nd
    have hp := passes_of (X := cxOf (L2.CX P w) P w K mg base ["pen"] "_law_bad_shape" (defScope s__law_bad_shape) Γ.e__law_bad_shape.f cdv A outer s H E) rfl
    have tk : Takes (cxOf (L2.CX P w) P w K mg base ["pen"] "_law_bad_shape" (defScope s__law_bad_shape) Γ.e__law_bad_shape.f cdv A outer s H E) (fun cls d _ H => E cls d H) := takes_of rfl rfl rfl rfl
    exact (ss_one (ss_ret (se_callN (ok__law_pick Γ) (hr.mono (by decide)) (by rfl) Γ.e__law_pick.g Γ.e__law_pick.F.kp Γ.e__law_pick.b tk (sa_cons (sv 0) (sa_cons (se_lst (sa_cons se_non (sa_cons (se_tup (sa_cons se_int (sa_cons se_int sa_nil))) (sa_cons (se_tup (sa_cons se_int sa_nil)) (sa_cons (se_tup (sa_cons (se_neg se_int) sa_nil)) (sa_cons (se_tup (sa_cons se_bl sa_nil)) (sa_cons (se_tup (sa_cons se_str sa_nil)) (sa_cons se_int (sa_cons (se_tup (sa_cons se_int sa_nil)) (sa_cons (se_bin op2_mul (se_tup (sa_cons se_int sa_nil)) se_int) (sa_cons (se_tup (sa_cons (se_tup (sa_cons se_int sa_nil)) sa_nil)) (sa_cons (se_lst (sa_cons se_int (sa_cons se_int sa_nil))) (sa_cons (se_tup (sa_cons se_int (sa_cons se_int (sa_cons se_int (sa_cons se_int sa_nil))))) sa_nil))))))))))))) sa_nil)))))
def m__law_passed : SF := sRet (eCallN f__law_pick (aCons (eV 0) (aCons (eLst (aCons (op1 gTuple (eV 1)) (aCons (op1 gList (eV 1)) (aNil)))) (aNil))))
def f__law_passed (ds : List D) (p : Pen) : RN := if ds.length + 1 = 2 then outN (m__law_passed (initN 2 ds p)) else .no
theorem ok__law_passed (Γ : Fx K mg) : FnG P w K mg base (L2.CX P w) 3 Γ.e__law_passed.f Γ.e__law_passed.fd ["pen", "row"] (spN P w K mg f__law_passed) := by
  refine fn_mkN (k := 2) Γ.e__law_passed.F sc__law_passed m__law_passed f__law_passed (fun ds p => ?_) fun cdv A outer s H E hr => ?_
  · by_cases h : ds.length + 1 = 2
    · exact .inr ⟨h, if_pos h⟩
    · exact .inl (if_neg h)
  · have hu := roomU hr
    have hgu := hr.g
    have nd := sc__law_passed.nd
    have hp := passes_of (X := cxOf (L2.CX P w) P w K mg base ["pen", "row"] "_law_passed" (defScope s__law_passed) Γ.e__law_passed.f cdv A outer s H E) rfl
    have tk : Takes (cxOf (L2.CX P w) P w K mg base ["pen", "row"] "_law_passed" (defScope s__law_passed) Γ.e__law_passed.f cdv A outer s H E) (fun cls d _ H => E cls d H) := takes_of rfl rfl rfl rfl
    exact (ss_one (ss_ret (se_callN (ok__law_pick Γ) (hr.mono (by decide)) (by rfl) Γ.e__law_pick.g Γ.e__law_pick.F.kp Γ.e__law_pick.b tk (sa_cons (sv 0) (sa_cons (se_lst (sa_cons (se_t1 c1_tuple (by rfl) Γ.m_tuple PyProof.Rows.boot_tuple (sv 1)) (sa_cons (se_t1 c1_list (by rfl) Γ.m_list PyProof.Rows.boot_list (sv 1)) sa_nil))) sa_nil)))))
def mp__law_kinds (c__law_shapes : List D → RD) : SF := sRet (eCall c__law_shapes (aCons (eV 0) (aCons (op2 gMax2 (eV 0) (eC (.int 1))) (aNil))))
def m__law_kinds : SF := mp__law_kinds f__law_shapes
def f__law_kinds (ds : List D) : RD := if ds.length = 1 then outD (m__law_kinds (initS 1 ds)) else .no
theorem ok__law_kinds (Γ : Fx K mg) : FnG P w K mg base (L2.CX P w) 2 Γ.e__law_kinds.f Γ.e__law_kinds.fd ["size"] (spD P w K mg f__law_kinds) := by
  refine fn_mk (k := 1) Γ.e__law_kinds.F sc__law_kinds m__law_kinds f__law_kinds (fun ds => ?_) fun cdv A outer s H E hr => ?_
  · by_cases h : ds.length = 1
    · exact .inr ⟨h, if_pos h⟩
    · exact .inl (if_neg h)
  · have hu := roomU hr
    have hgu := hr.g
    have nd := sc__law_kinds.nd
    have hp := passes_of (X := cxOf (L2.CX P w) P w K mg base ["size"] "_law_kinds" (defScope s__law_kinds) Γ.e__law_kinds.f cdv A outer s H E) rfl
    have tk : Takes (cxOf (L2.CX P w) P w K mg base ["size"] "_law_kinds" (defScope s__law_kinds) Γ.e__law_kinds.f cdv A outer s H E) (fun cls d _ H => E cls d H) := takes_of rfl rfl rfl rfl
    exact (ss_one (ss_ret (se_call (ok__law_shapes Γ) (hr.mono (by decide)) (by rfl) Γ.e__law_shapes.g Γ.e__law_shapes.F.kp Γ.e__law_shapes.b tk (sa_cons (sv 0) (sa_cons (se_b2 (c2_max rfl) (by rfl) Γ.m_max PyProof.Rows.boot_max (sv 0) se_int) sa_nil)))))
def mp__law_stays (c__law_factorial : List D → RD) : SF := sSeq (sSet 1 (eC (.int 1))) (sSeq (sFor (iSq (eV 0)) (tNm 2) (sSet 1 (op2 gMul (eV 1) (eV 2)))) (sSeq (sFor (iSq (op1 gSS2 (eV 0))) (tNm 2) (sSet 1 (op2 gMul (eV 1) (eCall c__law_factorial (aCons (eCntT (eV 0) (eV 2)) (aNil)))))) (sRet (eV 1))))
def m__law_stays : SF := mp__law_stays f__law_factorial
def f__law_stays (ds : List D) : RD := if ds.length = 1 then outD (m__law_stays (initS 3 ds)) else .no
theorem ok__law_stays (Γ : Fx K mg) : FnG P w K mg base (L2.CX P w) 2 Γ.e__law_stays.f Γ.e__law_stays.fd ["kind"] (spD P w K mg f__law_stays) := by
  refine fn_mk (k := 1) Γ.e__law_stays.F sc__law_stays m__law_stays f__law_stays (fun ds => ?_) fun cdv A outer s H E hr => ?_
  · by_cases h : ds.length = 1
    · exact .inr ⟨h, if_pos h⟩
    · exact .inl (if_neg h)
  · have hu := roomU hr
    have hgu := hr.g
    have nd := sc__law_stays.nd
    have hp := passes_of (X := cxOf (L2.CX P w) P w K mg base ["kind", "found", "part"] "_law_stays" (defScope s__law_stays) Γ.e__law_stays.f cdv A outer s H E) rfl
    have tk : Takes (cxOf (L2.CX P w) P w K mg base ["kind", "found", "part"] "_law_stays" (defScope s__law_stays) Γ.e__law_stays.f cdv A outer s H E) (fun cls d _ H => E cls d H) := takes_of rfl rfl rfl rfl
    exact (ss_cons (ss_set nd rfl (by first | exact .inl rfl | exact .inr rfl) se_int) (ss_cons (ss_for hp rfl (si_seq (sv 0)) (sg_name nd rfl (by first | exact .inl rfl | exact .inr rfl)) (ss_one (ss_set nd rfl (by first | exact .inl rfl | exact .inr rfl) (se_bin op2_mul (sv 1) (sv 2))))) (ss_cons (ss_for hp rfl (si_seq (se_ss2 rfl (by rfl) Γ.m_sorted (by rfl) Γ.m_set (sv 0))) (sg_name nd rfl (by first | exact .inl rfl | exact .inr rfl)) (ss_one (ss_set nd rfl (by first | exact .inl rfl | exact .inr rfl) (se_bin op2_mul (sv 1) (se_call (ok__law_factorial Γ) (hr.mono (by decide)) (by rfl) Γ.e__law_factorial.g Γ.e__law_factorial.F.kp Γ.e__law_factorial.b tk (sa_cons (se_countT Γ.tk (sv 0) (sv 2)) sa_nil)))))) (ss_one (ss_ret (sv 1))))))
def m__law_is_rim : SF := sSeq (sIf (bT (op1 gAny (eLc (iSq (eV 0)) (tTp 2 (tsCons (tNm 3) (tsCons (tNm 4) tsNil))) bYes (eAnd (op2 gIn (eTup (aCons (eV 3) (aCons (op2 gAdd (eV 4) (eC (.int 1))) (aNil)))) (eV 0)) (eAnd (op2 gIn (eTup (aCons (op2 gAdd (eV 3) (eC (.int 1))) (aCons (eV 4) (aNil)))) (eV 0)) (op2 gIn (eTup (aCons (op2 gAdd (eV 3) (eC (.int 1))) (aCons (op2 gAdd (eV 4) (eC (.int 1))) (aNil)))) (eV 0)))) [3, 4]))) (sRet (eC (.bool false))) (sNext)) (sSeq (sSet 1 (eSl (eV 0) pNo (pOf (eC (.int 1))))) (sSeq (sFor (iRg rg1 (aCons (op1 gLen (eV 0)) (aNil))) (tNm 2) (sFor (iSq (eV 0)) (tTp 2 (tsCons (tNm 3) (tsCons (tNm 4) tsNil))) (sSeq (sSet 5 (op1 gAny (eLc (iSq (eTup (aCons (eTup (aCons (eV 3) (aCons (op2 gAdd (eV 4) (eC (.int 1))) (aNil)))) (aCons (eTup (aCons (eV 3) (aCons (op2 gSub (eV 4) (eC (.int 1))) (aNil)))) (aCons (eTup (aCons (op2 gAdd (eV 3) (eC (.int 1))) (aCons (eV 4) (aNil)))) (aCons (eTup (aCons (op2 gSub (eV 3) (eC (.int 1))) (aCons (eV 4) (aNil)))) (aNil))))))) (tNm 6) bYes (op2 gIn (eV 6) (eV 1)) [6]))) (sIf (bAnd (bT (eV 5)) (bE (op2 gNotIn (eTup (aCons (eV 3) (aCons (eV 4) (aNil)))) (eV 1)))) (sDrop (eApp 1 (eTup (aCons (eV 3) (aCons (eV 4) (aNil)))))) (sNext))))) (sRet (op2 gEq (op1 gLen (eV 1)) (op1 gLen (eV 0))))))
def f__law_is_rim (ds : List D) : RD := if ds.length = 1 then outD (m__law_is_rim (initS 7 ds)) else .no
theorem ok__law_is_rim (Γ : Fx K mg) : FnG P w K mg base (L2.CX P w) 1 Γ.e__law_is_rim.f Γ.e__law_is_rim.fd ["boxes"] (spD P w K mg f__law_is_rim) := by
  refine fn_mk (k := 0) Γ.e__law_is_rim.F sc__law_is_rim m__law_is_rim f__law_is_rim (fun ds => ?_) fun cdv A outer s H E hr => ?_
  · by_cases h : ds.length = 1
    · exact .inr ⟨h, if_pos h⟩
    · exact .inl (if_neg h)
  · have hu := roomU hr
    have hgu := hr.g
    have nd := sc__law_is_rim.nd
    have hp := passes_of (X := cxOf (L2.CX P w) P w K mg base ["boxes", "seen", "lap", "i", "j", "near", "step"] "_law_is_rim" (defScope s__law_is_rim) Γ.e__law_is_rim.f cdv A outer s H E) rfl
    have tk : Takes (cxOf (L2.CX P w) P w K mg base ["boxes", "seen", "lap", "i", "j", "near", "step"] "_law_is_rim" (defScope s__law_is_rim) Γ.e__law_is_rim.f cdv A outer s H E) (fun cls d _ H => E cls d H) := takes_of rfl rfl rfl rfl
    exact (ss_cons (ss_if (st_truth (se_b1 (c1_any rfl) (by rfl) Γ.m_any PyProof.Rows.boot_any (se_lc (own := [("i", 3), ("j", 4)]) rfl nd (si_seq (sv 0)) (blkOk_by (N := ["boxes", "seen", "lap", "i", "j", "near", "step"]) (sc := defScope s__law_is_rim) (by first | decide +kernel | rfl)) (by decide) (fun _ _ _ _ _ => (sg_tup rfl (sgs_cons (sg_name nd rfl (by first | exact .inl rfl | exact .inr rfl)) (sgs_cons (sg_name nd rfl (by first | exact .inl rfl | exact .inr rfl)) sgs_nil)))) (fun _ _ _ _ _ => sts_nil) (fun _ _ _ _ _ => (se_and (se_cmp (op2_in hu) (se_tup (sa_cons (sv 3) (sa_cons (se_bin op2_add (sv 4) se_int) sa_nil))) (sv 0) (by first | exact nomark _ | rfl)) (se_and (se_cmp (op2_in hu) (se_tup (sa_cons (se_bin op2_add (sv 3) se_int) (sa_cons (sv 4) sa_nil))) (sv 0) (by first | exact nomark _ | rfl)) (se_one (se_cmp (op2_in hu) (se_tup (sa_cons (se_bin op2_add (sv 3) se_int) (sa_cons (se_bin op2_add (sv 4) se_int) sa_nil))) (sv 0) (by first | exact nomark _ | rfl)))))))) (by intro _; rfl)) (ss_one (ss_ret se_bl)) ss_nil) (ss_cons (ss_set nd rfl (by first | exact .inl rfl | exact .inr rfl) (se_slice (sv 0) sp_none (sp_some se_int))) (ss_cons (ss_for hp rfl (si_range1 (by rfl) Γ.m_range (sa_cons (se_b1 c1_len (by rfl) Γ.m_len PySem.boot_len (sv 0)) sa_nil)) (sg_name nd rfl (by first | exact .inl rfl | exact .inr rfl)) (ss_one (ss_for hp rfl (si_seq (sv 0)) (sg_tup rfl (sgs_cons (sg_name nd rfl (by first | exact .inl rfl | exact .inr rfl)) (sgs_cons (sg_name nd rfl (by first | exact .inl rfl | exact .inr rfl)) sgs_nil))) (ss_cons (ss_set nd rfl (by first | exact .inl rfl | exact .inr rfl) (se_b1 (c1_any rfl) (by rfl) Γ.m_any PyProof.Rows.boot_any (se_lc (own := [("step", 6)]) rfl nd (si_seq (se_tup (sa_cons (se_tup (sa_cons (sv 3) (sa_cons (se_bin op2_add (sv 4) se_int) sa_nil))) (sa_cons (se_tup (sa_cons (sv 3) (sa_cons (se_bin op2_sub (sv 4) se_int) sa_nil))) (sa_cons (se_tup (sa_cons (se_bin op2_add (sv 3) se_int) (sa_cons (sv 4) sa_nil))) (sa_cons (se_tup (sa_cons (se_bin op2_sub (sv 3) se_int) (sa_cons (sv 4) sa_nil))) sa_nil)))))) (blkOk_by (N := ["boxes", "seen", "lap", "i", "j", "near", "step"]) (sc := defScope s__law_is_rim) (by first | decide +kernel | rfl)) (by decide) (fun _ _ _ _ _ => (sg_name nd rfl (by first | exact .inl rfl | exact .inr rfl))) (fun _ _ _ _ _ => sts_nil) (fun _ _ _ _ _ => (se_cmp (op2_in hu) (sv 6) (sv 1) (by first | exact nomark _ | rfl)))))) (ss_one (ss_if (sw_pt (sw_and (st_truth (sv 5) (by intro _; rfl)) (sw_and1 (st_cmp (op2_notIn hu) (se_tup (sa_cons (sv 3) (sa_cons (sv 4) sa_nil))) (sv 1) (by first | exact nomark _ | rfl))))) (ss_one (ss_expr (se_append (i := 1) rfl (by first | exact Or.inl rfl | exact Or.inr (Or.inl rfl) | exact Or.inr (Or.inr rfl)) (se_tup (sa_cons (sv 3) (sa_cons (sv 4) sa_nil)))))) ss_nil)))))) (ss_one (ss_ret (se_cmp (op2_eq hu) (se_b1 c1_len (by rfl) Γ.m_len PySem.boot_len (sv 1)) (se_b1 c1_len (by rfl) Γ.m_len PySem.boot_len (sv 0)) (by first | exact nomark _ | rfl)))))))
def mp__law_rims (c__law_is_rim c__law_lies_in c__law_padded c__law_shapes : List D → RD) : SF := sSeq (sSet 2 (eLst (aNil))) (sSeq (sFor (iSq (eIf (bE (op2 gGe (op1 gSum (eV 0)) (eV 1))) (eCall c__law_shapes (aCons (op2 gSub (op1 gSum (eV 0)) (eV 1)) (aCons (op1 gLen (eV 0)) (aNil)))) (eLst (aNil)))) (tNm 3) (sIf (bT (eCall c__law_lies_in (aCons (eV 3) (aCons (eV 0) (aNil))))) (sSeq (sPar 4 5 (eLst (aNil)) (eCall c__law_padded (aCons (eV 3) (aCons (op1 gLen (eV 0)) (aNil))))) (sSeq (sFor (iRg rg1 (aCons (op1 gLen (eV 0)) (aNil))) (tNm 6) (sSet 4 (op2 gAdd (eV 4) (eLc (iRg rg2 (aCons (op2 gIx (eV 5) (eV 6)) (aCons (op2 gIx (eV 0) (eV 6)) (aNil)))) (tNm 7) bYes (eTup (aCons (eV 6) (aCons (eV 7) (aNil)))) [7])))) (sIf (bT (eCall c__law_is_rim (aCons (eV 4) (aNil)))) (sDrop (eApp 2 (eTup (aCons (eV 3) (aCons (op2 gSub (op1 gLen (op1 gSS2 (eLc (iSq (eV 4)) (tTp 2 (tsCons (tNm 6) (tsCons (tNm 7) tsNil))) bYes (eV 6) [6, 7]))) (eC (.int 1))) (aNil)))))) (sNext)))) (sNext))) (sRet (op1 gSort (eV 2))))
def m__law_rims : SF := mp__law_rims f__law_is_rim f__law_lies_in f__law_padded f__law_shapes
def f__law_rims (ds : List D) : RD := if ds.length = 2 then outD (m__law_rims (initS 8 ds)) else .no
theorem ok__law_rims (Γ : Fx K mg) : FnG P w K mg base (L2.CX P w) 2 Γ.e__law_rims.f Γ.e__law_rims.fd ["shape", "many"] (spD P w K mg f__law_rims) := by
  refine fn_mk (k := 1) Γ.e__law_rims.F sc__law_rims m__law_rims f__law_rims (fun ds => ?_) fun cdv A outer s H E hr => ?_
  · by_cases h : ds.length = 2
    · exact .inr ⟨h, if_pos h⟩
    · exact .inl (if_neg h)
  · have hu := roomU hr
    have hgu := hr.g
    have nd := sc__law_rims.nd
    have hp := passes_of (X := cxOf (L2.CX P w) P w K mg base ["shape", "many", "found", "left", "boxes", "inner", "i", "j"] "_law_rims" (defScope s__law_rims) Γ.e__law_rims.f cdv A outer s H E) rfl
    have tk : Takes (cxOf (L2.CX P w) P w K mg base ["shape", "many", "found", "left", "boxes", "inner", "i", "j"] "_law_rims" (defScope s__law_rims) Γ.e__law_rims.f cdv A outer s H E) (fun cls d _ H => E cls d H) := takes_of rfl rfl rfl rfl
    exact (ss_cons (ss_set nd rfl (by first | exact .inl rfl | exact .inr rfl) (se_lst sa_nil)) (ss_cons (ss_for hp rfl (si_seq (se_if (st_cmp op2_ge (se_b1 (c1_sum rfl) (by rfl) Γ.m_sum PyProof.Rows.boot_sum (sv 0)) (sv 1) (by first | exact nomark _ | rfl)) (se_call (ok__law_shapes Γ) (hr.mono (by decide)) (by rfl) Γ.e__law_shapes.g Γ.e__law_shapes.F.kp Γ.e__law_shapes.b tk (sa_cons (se_bin op2_sub (se_b1 (c1_sum rfl) (by rfl) Γ.m_sum PyProof.Rows.boot_sum (sv 0)) (sv 1)) (sa_cons (se_b1 c1_len (by rfl) Γ.m_len PySem.boot_len (sv 0)) sa_nil))) (se_lst sa_nil))) (sg_name nd rfl (by first | exact .inl rfl | exact .inr rfl)) (ss_one (ss_if (st_truth (se_call (ok__law_lies_in Γ) (hr.mono (by decide)) (by rfl) Γ.e__law_lies_in.g Γ.e__law_lies_in.F.kp Γ.e__law_lies_in.b tk (sa_cons (sv 3) (sa_cons (sv 0) sa_nil))) (by intro _; rfl)) (ss_cons (ss_par (i := 4) (j := 5) rfl nd rfl rfl (by decide) rfl rfl (se_lst sa_nil) (se_call (ok__law_padded Γ) (hr.mono (by decide)) (by rfl) Γ.e__law_padded.g Γ.e__law_padded.F.kp Γ.e__law_padded.b tk (sa_cons (sv 3) (sa_cons (se_b1 c1_len (by rfl) Γ.m_len PySem.boot_len (sv 0)) sa_nil))) rfl) (ss_cons (ss_for hp rfl (si_range1 (by rfl) Γ.m_range (sa_cons (se_b1 c1_len (by rfl) Γ.m_len PySem.boot_len (sv 0)) sa_nil)) (sg_name nd rfl (by first | exact .inl rfl | exact .inr rfl)) (ss_one (ss_set nd rfl (by first | exact .inl rfl | exact .inr rfl) (se_bin op2_add (sv 4) (se_lc (own := [("j", 7)]) rfl nd (si_range2 (by rfl) Γ.m_range (sa_cons (se_ix (sv 5) (sv 6) (fun _ _ => rfl)) (sa_cons (se_ix (sv 0) (sv 6) (fun _ _ => rfl)) sa_nil))) (blkOk_by (N := ["shape", "many", "found", "left", "boxes", "inner", "i", "j"]) (sc := defScope s__law_rims) (by first | decide +kernel | rfl)) (by decide) (fun _ _ _ _ _ => (sg_name nd rfl (by first | exact .inl rfl | exact .inr rfl))) (fun _ _ _ _ _ => sts_nil) (fun _ _ _ _ _ => (se_tup (sa_cons (sv 6) (sa_cons (sv 7) sa_nil))))))))) (ss_one (ss_if (st_truth (se_call (ok__law_is_rim Γ) (hr.mono (by decide)) (by rfl) Γ.e__law_is_rim.g Γ.e__law_is_rim.F.kp Γ.e__law_is_rim.b tk (sa_cons (sv 4) sa_nil)) (by intro _; rfl)) (ss_one (ss_expr (se_append (i := 2) rfl (by first | exact Or.inl rfl | exact Or.inr (Or.inl rfl) | exact Or.inr (Or.inr rfl)) (se_tup (sa_cons (sv 3) (sa_cons (se_bin op2_sub (se_b1 c1_len (by rfl) Γ.m_len PySem.boot_len (se_ss2 rfl (by rfl) Γ.m_sorted (by rfl) Γ.m_set (se_lc (own := [("i", 6), ("j", 7)]) rfl nd (si_seq (sv 4)) (blkOk_by (N := ["shape", "many", "found", "left", "boxes", "inner", "i", "j"]) (sc := defScope s__law_rims) (by first | decide +kernel | rfl)) (by decide) (fun _ _ _ _ _ => (sg_tup rfl (sgs_cons (sg_name nd rfl (by first | exact .inl rfl | exact .inr rfl)) (sgs_cons (sg_name nd rfl (by first | exact .inl rfl | exact .inr rfl)) sgs_nil)))) (fun _ _ _ _ _ => sts_nil) (fun _ _ _ _ _ => (sv 6))))) se_int) sa_nil)))))) ss_nil)))) ss_nil))) (ss_one (ss_ret (se_b1 (c1_sorted (hu64 hu)) (by rfl) Γ.m_sorted PyProof.Rows.boot_sorted (sv 2))))))
def mp__law_character (c__law_rims : List D → RD) : SF := sSeq (sSet 2 (eD1 (eV 0) (eC (.int 1)))) (sSeq (sFor (iSq (op1 gRev2 (eV 1))) (tNm 3) (sSeq (sSet 4 (eDn)) (sSeq (sFor (iKy (eV 2)) (tNm 5) (sFor (iSq (eCall c__law_rims (aCons (eV 5) (aCons (eV 3) (aNil))))) (tTp 2 (tsCons (tNm 6) (tsCons (tNm 7) tsNil))) (sSeq (sSet 8 (eIf (bE (op2 gEq (op2 gMod (op1 gInt (eV 7)) (eC (.int 2))) (eC (.int 1)))) (op1 gNeg (eIx (eV 2) (eV 5))) (eIx (eV 2) (eV 5)))) (sDp 4 (eV 6) (op2 gAdd (eGet2 (eV 4) (eV 6) (eC (.int 0))) (eV 8)))))) (sSet 2 (eV 4))))) (sRet (eGet2 (eV 2) (eTup (aNil)) (eC (.int 0)))))
def m__law_character : SF := mp__law_character f__law_rims
def f__law_character (ds : List D) : RD := if ds.length = 2 then outD (m__law_character (initS 9 ds)) else .no
theorem ok__law_character (Γ : Fx K mg) : FnG P w K mg base (L2.CX P w) 3 Γ.e__law_character.f Γ.e__law_character.fd ["shape", "kind"] (spD P w K mg f__law_character) := by
  refine fn_mk (k := 2) Γ.e__law_character.F sc__law_character m__law_character f__law_character (fun ds => ?_) fun cdv A outer s H E hr => ?_
  · by_cases h : ds.length = 2
    · exact .inr ⟨h, if_pos h⟩
    · exact .inl (if_neg h)
  · have hu := roomU hr
    have hgu := hr.g
    have nd := sc__law_character.nd
    have hp := passes_of (X := cxOf (L2.CX P w) P w K mg base ["shape", "kind", "states", "many", "fresh", "here", "left", "height", "by"] "_law_character" (defScope s__law_character) Γ.e__law_character.f cdv A outer s H E) rfl
    have tk : Takes (cxOf (L2.CX P w) P w K mg base ["shape", "kind", "states", "many", "fresh", "here", "left", "height", "by"] "_law_character" (defScope s__law_character) Γ.e__law_character.f cdv A outer s H E) (fun cls d _ H => E cls d H) := takes_of rfl rfl rfl rfl
    exact (ss_cons (ss_set nd rfl (by first | exact .inl rfl | exact .inr rfl) (se_d1 hu (sv 0) se_int)) (ss_cons (ss_for hp rfl (si_seq (se_rev2 (sv 1))) (sg_name nd rfl (by first | exact .inl rfl | exact .inr rfl)) (ss_cons (ss_set nd rfl (by first | exact .inl rfl | exact .inr rfl) se_dnew) (ss_cons (ss_for hp rfl (si_keys (sv 2)) (sg_name nd rfl (by first | exact .inl rfl | exact .inr rfl)) (ss_one (ss_for hp rfl (si_seq (se_call (ok__law_rims Γ) (hr.mono (by decide)) (by rfl) Γ.e__law_rims.g Γ.e__law_rims.F.kp Γ.e__law_rims.b tk (sa_cons (sv 5) (sa_cons (sv 3) sa_nil)))) (sg_tup rfl (sgs_cons (sg_name nd rfl (by first | exact .inl rfl | exact .inr rfl)) (sgs_cons (sg_name nd rfl (by first | exact .inl rfl | exact .inr rfl)) sgs_nil))) (ss_cons (ss_set nd rfl (by first | exact .inl rfl | exact .inr rfl) (se_if (st_cmp (op2_eq hu) (se_bin op2_mod (se_t1 c1_int (by rfl) Γ.m_int PyProof.Rows.boot_int (sv 7)) se_int) se_int (by first | exact nomark _ | rfl)) (se_neg (se_ix2 hu (sv 2) (sv 5) (fun _ _ => rfl))) (se_ix2 hu (sv 2) (sv 5) (fun _ _ => rfl)))) (ss_one (ss_dput (i := 4) hu rfl (by first | exact Or.inl rfl | exact Or.inr (Or.inl rfl) | exact Or.inr (Or.inr rfl)) (sv 6) (se_bin op2_add (se_get2 hu (sv 4) (sv 6) se_int ⟨by rfl, by rfl, by rfl, by rfl⟩) (sv 8)))))))) (ss_one (ss_set nd rfl (by first | exact .inl rfl | exact .inr rfl) (sv 4)))))) (ss_one (ss_ret (se_get2 hu (sv 2) (se_tup sa_nil) se_int ⟨by rfl, by rfl, by rfl, by rfl⟩)))))
def mp__law_own (c__law_character c__law_factorial c__law_kinds c__law_q c__law_stays : List D → RD) : SF := sSeq (sPar 3 4 (op1 gSum (eV 0)) (eC (.int 0))) (sSeq (sFor (iSq (eCall c__law_kinds (aCons (eV 3) (aNil)))) (tNm 5) (sSeq (sSet 6 (op2 gDiv (eCall c__law_factorial (aCons (eV 3) (aNil))) (eCall c__law_stays (aCons (eV 5) (aNil))))) (sSet 4 (op2 gAdd (eV 4) (op2 gMul (op2 gMul (op2 gMul (eV 6) (eCall c__law_character (aCons (eV 0) (aCons (eV 5) (aNil))))) (eCall c__law_character (aCons (eV 1) (aCons (eV 5) (aNil))))) (eCall c__law_character (aCons (eV 2) (aCons (eV 5) (aNil))))))))) (sRet (eCall c__law_q (aCons (eV 4) (aCons (eCall c__law_factorial (aCons (eV 3) (aNil))) (aNil))))))
def m__law_own : SF := mp__law_own f__law_character f__law_factorial f__law_kinds f__law_q f__law_stays
def f__law_own (ds : List D) : RD := if ds.length = 3 then outD (m__law_own (initS 7 ds)) else .no
theorem ok__law_own (Γ : Fx K mg) : FnG P w K mg base (L2.CX P w) 4 Γ.e__law_own.f Γ.e__law_own.fd ["one", "other", "whole"] (spD P w K mg f__law_own) := by
  refine fn_mk (k := 3) Γ.e__law_own.F sc__law_own m__law_own f__law_own (fun ds => ?_) fun cdv A outer s H E hr => ?_
  · by_cases h : ds.length = 3
    · exact .inr ⟨h, if_pos h⟩
    · exact .inl (if_neg h)
  · have hu := roomU hr
    have hgu := hr.g
    have nd := sc__law_own.nd
    have hp := passes_of (X := cxOf (L2.CX P w) P w K mg base ["one", "other", "whole", "size", "total", "kind", "weight"] "_law_own" (defScope s__law_own) Γ.e__law_own.f cdv A outer s H E) rfl
    have tk : Takes (cxOf (L2.CX P w) P w K mg base ["one", "other", "whole", "size", "total", "kind", "weight"] "_law_own" (defScope s__law_own) Γ.e__law_own.f cdv A outer s H E) (fun cls d _ H => E cls d H) := takes_of rfl rfl rfl rfl
    exact (ss_cons (ss_par (i := 3) (j := 4) rfl nd rfl rfl (by decide) rfl rfl (se_b1 (c1_sum rfl) (by rfl) Γ.m_sum PyProof.Rows.boot_sum (sv 0)) se_int rfl) (ss_cons (ss_for hp rfl (si_seq (se_call (ok__law_kinds Γ) (hr.mono (by decide)) (by rfl) Γ.e__law_kinds.g Γ.e__law_kinds.F.kp Γ.e__law_kinds.b tk (sa_cons (sv 3) sa_nil))) (sg_name nd rfl (by first | exact .inl rfl | exact .inr rfl)) (ss_cons (ss_set nd rfl (by first | exact .inl rfl | exact .inr rfl) (se_bin op2_div (se_call (ok__law_factorial Γ) (hr.mono (by decide)) (by rfl) Γ.e__law_factorial.g Γ.e__law_factorial.F.kp Γ.e__law_factorial.b tk (sa_cons (sv 3) sa_nil)) (se_call (ok__law_stays Γ) (hr.mono (by decide)) (by rfl) Γ.e__law_stays.g Γ.e__law_stays.F.kp Γ.e__law_stays.b tk (sa_cons (sv 5) sa_nil)))) (ss_one (ss_set nd rfl (by first | exact .inl rfl | exact .inr rfl) (se_bin op2_add (sv 4) (se_bin op2_mul (se_bin op2_mul (se_bin op2_mul (sv 6) (se_call (ok__law_character Γ) (hr.mono (by decide)) (by rfl) Γ.e__law_character.g Γ.e__law_character.F.kp Γ.e__law_character.b tk (sa_cons (sv 0) (sa_cons (sv 5) sa_nil)))) (se_call (ok__law_character Γ) (hr.mono (by decide)) (by rfl) Γ.e__law_character.g Γ.e__law_character.F.kp Γ.e__law_character.b tk (sa_cons (sv 1) (sa_cons (sv 5) sa_nil)))) (se_call (ok__law_character Γ) (hr.mono (by decide)) (by rfl) Γ.e__law_character.g Γ.e__law_character.F.kp Γ.e__law_character.b tk (sa_cons (sv 2) (sa_cons (sv 5) sa_nil))))))))) (ss_one (ss_ret (se_call (ok__law_q Γ) (hr.mono (by decide)) (by rfl) Γ.e__law_q.g Γ.e__law_q.F.kp Γ.e__law_q.b tk (sa_cons (sv 4) (sa_cons (se_call (ok__law_factorial Γ) (hr.mono (by decide)) (by rfl) Γ.e__law_factorial.g Γ.e__law_factorial.F.kp Γ.e__law_factorial.b tk (sa_cons (sv 3) sa_nil)) sa_nil)))))))
def mp__law_case (c__law_own c__law_turned c_inner_number : List D → RD) : SF := sSeq (sSet 1 (eCallN f__law_draw (aCons (eV 0) (aCons (eC (.int 7)) (aNil))))) (sSeq (sSet 2 (eLc (iRg rg1 (aCons (eC (.int 3)) (aNil))) (tNm 7) bYes (eCallN f__law_shape_of (aCons (eV 0) (aCons (eV 1) (aCons (eC (.int 6)) (aNil))))) [7])) (sSeq (sSet 3 (eCall c_inner_number (aCons (eCallN f__law_passed (aCons (eV 0) (aCons (op2 gIx (eV 2) (eC (.int 0))) (aNil)))) (aCons (op2 gIx (eV 2) (eC (.int 1))) (aCons (eCallN f__law_passed (aCons (eV 0) (aCons (op2 gIx (eV 2) (eC (.int 2))) (aNil)))) (aNil)))))) (sSeq (sIf (bOr (bE (eRE false (eTup (aCons (eV 3) (aCons (eC (.int 1)) (aNil)))) (eCall c__law_own (aCons (op2 gIx (eV 2) (eC (.int 0))) (aCons (op2 gIx (eV 2) (eC (.int 1))) (aCons (op2 gIx (eV 2) (eC (.int 2))) (aNil))))))) (bE (op2 gLt (eV 3) (eC (.int 0))))) (sRet (eC (.bool false))) (sNext)) (sSeq (sSet 4 (eCallN f__law_shuffled (aCons (eV 0) (aCons (eV 2) (aNil))))) (sSeq (sIf (bOr (bE (op2 gNe (eCall c_inner_number (aCons (op2 gIx (eV 4) (eC (.int 0))) (aCons (op2 gIx (eV 4) (eC (.int 1))) (aCons (op2 gIx (eV 4) (eC (.int 2))) (aNil))))) (eV 3))) (bE (op2 gNe (eCall c_inner_number (aCons (eCall c__law_turned (aCons (op2 gIx (eV 2) (eC (.int 0))) (aNil))) (aCons (eCall c__law_turned (aCons (op2 gIx (eV 2) (eC (.int 1))) (aNil))) (aCons (op2 gIx (eV 2) (eC (.int 2))) (aNil))))) (eV 3)))) (sRet (eC (.bool false))) (sNext)) (sSeq (sPar 5 6 (eIf (bE (op2 gGt (eV 1) (eC (.int 0)))) (eTup (aCons (eV 1) (aNil))) (eTup (aNil))) (op2 gMul (eTup (aCons (eC (.int 1)) (aNil))) (eV 1))) (sSeq (sIf (bE (op2 gNe (eCall c_inner_number (aCons (eV 5) (aCons (op2 gIx (eV 2) (eC (.int 0))) (aCons (op2 gIx (eV 2) (eC (.int 1))) (aNil))))) (op1 gInt (op2 gEq (op2 gIx (eV 2) (eC (.int 0))) (op2 gIx (eV 2) (eC (.int 1))))))) (sRet (eC (.bool false))) (sNext)) (sRet (op2 gEq (eCall c_inner_number (aCons (op2 gIx (eV 2) (eC (.int 0))) (aCons (eV 6) (aCons (op2 gIx (eV 2) (eC (.int 1))) (aNil))))) (op1 gInt (op2 gEq (op2 gIx (eV 2) (eC (.int 0))) (eCall c__law_turned (aCons (op2 gIx (eV 2) (eC (.int 1))) (aNil))))))))))))))
def m__law_case : SF := mp__law_case f__law_own f__law_turned f_inner_number
def f__law_case (ds : List D) (p : Pen) : RN := if ds.length + 1 = 1 then outN (m__law_case (initN 8 ds p)) else .no
theorem ok__law_case (Γ : Fx K mg) : FnG P w K mg base (L2.CX P w) 13 Γ.e__law_case.f Γ.e__law_case.fd ["pen"] (spN P w K mg f__law_case) := by
  refine fn_mkN (k := 12) Γ.e__law_case.F sc__law_case m__law_case f__law_case (fun ds p => ?_) fun cdv A outer s H E hr => ?_
  · by_cases h : ds.length + 1 = 1
    · exact .inr ⟨h, if_pos h⟩
    · exact .inl (if_neg h)
  · have hu := roomU hr
    have hgu := hr.g
    have nd := sc__law_case.nd
    have hp := passes_of (X := cxOf (L2.CX P w) P w K mg base ["pen", "size", "three", "told", "order", "row", "column", "k"] "_law_case" (defScope s__law_case) Γ.e__law_case.f cdv A outer s H E) rfl
    have tk : Takes (cxOf (L2.CX P w) P w K mg base ["pen", "size", "three", "told", "order", "row", "column", "k"] "_law_case" (defScope s__law_case) Γ.e__law_case.f cdv A outer s H E) (fun cls d _ H => E cls d H) := takes_of rfl rfl rfl rfl
    exact (ss_cons (ss_set nd rfl (by first | exact .inl rfl | exact .inr rfl) (se_callN (ok__law_draw Γ) (hr.mono (by decide)) (by rfl) Γ.e__law_draw.g Γ.e__law_draw.F.kp Γ.e__law_draw.b tk (sa_cons (sv 0) (sa_cons se_int sa_nil)))) (ss_cons (by first | exact ss_set nd rfl (by first | exact .inl rfl | exact .inr rfl) (se_lc (own := [("k", 7)]) rfl nd (si_range1 (by rfl) Γ.m_range (sa_cons se_int sa_nil)) (blkOk_by (N := ["pen", "size", "three", "told", "order", "row", "column", "k"]) (sc := defScope s__law_case) (by first | decide +kernel | rfl)) (by decide) (fun _ _ _ _ _ => (sg_name nd rfl (by first | exact .inl rfl | exact .inr rfl))) (fun _ _ _ _ _ => sts_nil) (fun _ _ _ _ _ => (se_callN (ok__law_shape_of Γ) (hr.mono (by decide)) (by rfl) Γ.e__law_shape_of.g Γ.e__law_shape_of.F.kp Γ.e__law_shape_of.b takes0 (sa_cons (sv 0) (sa_cons (sv 1) (sa_cons se_int sa_nil)))))) | exact ss_setLc (own := [("k", 7)]) rfl nd (i := 2) rfl rfl (sw_true rfl rfl rfl rfl) (si_range1 (by rfl) Γ.m_range (sa_cons se_int sa_nil)) (blkOk_by (N := ["pen", "size", "three", "told", "order", "row", "column", "k"]) (sc := defScope s__law_case) (by first | decide +kernel | rfl)) (by decide) (fun _ _ _ _ _ => (sg_name nd rfl (by first | exact .inl rfl | exact .inr rfl))) (fun _ _ _ _ _ => sts_nil) (fun _ _ _ _ _ => (se_callN (ok__law_shape_of Γ) (hr.mono (by decide)) (by rfl) Γ.e__law_shape_of.g Γ.e__law_shape_of.F.kp Γ.e__law_shape_of.b takes0 (sa_cons (sv 0) (sa_cons (sv 1) (sa_cons se_int sa_nil)))))) (ss_cons (ss_set nd rfl (by first | exact .inl rfl | exact .inr rfl) (se_call (ok_inner_number Γ) (hr.mono (by decide)) (by rfl) Γ.e_inner_number.g Γ.e_inner_number.F.kp Γ.e_inner_number.b tk (sa_cons (se_callN (ok__law_passed Γ) (hr.mono (by decide)) (by rfl) Γ.e__law_passed.g Γ.e__law_passed.F.kp Γ.e__law_passed.b tk (sa_cons (sv 0) (sa_cons (se_ix (sv 2) se_int (fun _ _ => rfl)) sa_nil))) (sa_cons (se_ix (sv 2) se_int (fun _ _ => rfl)) (sa_cons (se_callN (ok__law_passed Γ) (hr.mono (by decide)) (by rfl) Γ.e__law_passed.g Γ.e__law_passed.F.kp Γ.e__law_passed.b tk (sa_cons (sv 0) (sa_cons (se_ix (sv 2) se_int (fun _ _ => rfl)) sa_nil))) sa_nil))))) (ss_cons (ss_if (sw_pt (sw_or (st_reNe hgu hu (by rfl) Γ.m_repr (se_tup (sa_cons (sv 3) (sa_cons se_int sa_nil))) (se_call (ok__law_own Γ) (hr.mono (by decide)) (by rfl) Γ.e__law_own.g Γ.e__law_own.F.kp Γ.e__law_own.b tk (sa_cons (se_ix (sv 2) se_int (fun _ _ => rfl)) (sa_cons (se_ix (sv 2) se_int (fun _ _ => rfl)) (sa_cons (se_ix (sv 2) se_int (fun _ _ => rfl)) sa_nil))))) (sw_or1 (st_cmp op2_lt (sv 3) se_int (by first | exact nomark _ | rfl))))) (ss_one (ss_ret se_bl)) ss_nil) (ss_cons (ss_set nd rfl (by first | exact .inl rfl | exact .inr rfl) (se_callN (ok__law_shuffled Γ) (hr.mono (by decide)) (by rfl) Γ.e__law_shuffled.g Γ.e__law_shuffled.F.kp Γ.e__law_shuffled.b tk (sa_cons (sv 0) (sa_cons (sv 2) sa_nil)))) (ss_cons (ss_if (sw_pt (sw_or (st_cmp (op2_ne hu) (se_call (ok_inner_number Γ) (hr.mono (by decide)) (by rfl) Γ.e_inner_number.g Γ.e_inner_number.F.kp Γ.e_inner_number.b tk (sa_cons (se_ix (sv 4) se_int (fun _ _ => rfl)) (sa_cons (se_ix (sv 4) se_int (fun _ _ => rfl)) (sa_cons (se_ix (sv 4) se_int (fun _ _ => rfl)) sa_nil)))) (sv 3) (by first | exact nomark _ | rfl)) (sw_or1 (st_cmp (op2_ne hu) (se_call (ok_inner_number Γ) (hr.mono (by decide)) (by rfl) Γ.e_inner_number.g Γ.e_inner_number.F.kp Γ.e_inner_number.b tk (sa_cons (se_call (ok__law_turned Γ) (hr.mono (by decide)) (by rfl) Γ.e__law_turned.g Γ.e__law_turned.F.kp Γ.e__law_turned.b tk (sa_cons (se_ix (sv 2) se_int (fun _ _ => rfl)) sa_nil)) (sa_cons (se_call (ok__law_turned Γ) (hr.mono (by decide)) (by rfl) Γ.e__law_turned.g Γ.e__law_turned.F.kp Γ.e__law_turned.b tk (sa_cons (se_ix (sv 2) se_int (fun _ _ => rfl)) sa_nil)) (sa_cons (se_ix (sv 2) se_int (fun _ _ => rfl)) sa_nil)))) (sv 3) (by first | exact nomark _ | rfl))))) (ss_one (ss_ret se_bl)) ss_nil) (ss_cons (ss_par (i := 5) (j := 6) rfl nd rfl rfl (by decide) rfl rfl (se_if (st_cmp op2_gt (sv 1) se_int (by first | exact nomark _ | rfl)) (se_tup (sa_cons (sv 1) sa_nil)) (se_tup sa_nil)) (se_bin op2_mul (se_tup (sa_cons se_int sa_nil)) (sv 1)) rfl) (ss_cons (ss_if (st_cmp (op2_ne hu) (se_call (ok_inner_number Γ) (hr.mono (by decide)) (by rfl) Γ.e_inner_number.g Γ.e_inner_number.F.kp Γ.e_inner_number.b tk (sa_cons (sv 5) (sa_cons (se_ix (sv 2) se_int (fun _ _ => rfl)) (sa_cons (se_ix (sv 2) se_int (fun _ _ => rfl)) sa_nil)))) (se_t1 c1_int (by rfl) Γ.m_int PyProof.Rows.boot_int (se_cmp (op2_eq hu) (se_ix (sv 2) se_int (fun _ _ => rfl)) (se_ix (sv 2) se_int (fun _ _ => rfl)) (by first | exact nomark _ | rfl))) (by first | exact nomark _ | rfl)) (ss_one (ss_ret se_bl)) ss_nil) (ss_one (ss_ret (se_cmp (op2_eq hu) (se_call (ok_inner_number Γ) (hr.mono (by decide)) (by rfl) Γ.e_inner_number.g Γ.e_inner_number.F.kp Γ.e_inner_number.b tk (sa_cons (se_ix (sv 2) se_int (fun _ _ => rfl)) (sa_cons (sv 6) (sa_cons (se_ix (sv 2) se_int (fun _ _ => rfl)) sa_nil)))) (se_t1 c1_int (by rfl) Γ.m_int PyProof.Rows.boot_int (se_cmp (op2_eq hu) (se_ix (sv 2) se_int (fun _ _ => rfl)) (se_call (ok__law_turned Γ) (hr.mono (by decide)) (by rfl) Γ.e__law_turned.g Γ.e__law_turned.F.kp Γ.e__law_turned.b tk (sa_cons (se_ix (sv 2) se_int (fun _ _ => rfl)) sa_nil)) (by first | exact nomark _ | rfl))) (by first | exact nomark _ | rfl))))))))))))
def mp__law_squares_hold (c__law_kinds c__law_stays c_inner_number : List D → RD) : SF := sSeq (sSet 1 (op2 gAdd (eC (.int 1)) (eCallN f__law_draw (aCons (eV 0) (aCons (eC (.int 3)) (aNil)))))) (sSeq (sPar 2 3 (eCall c__law_kinds (aCons (eV 1) (aNil))) (eC (.int 0))) (sSeq (sFor (iSq (eV 2)) (tNm 4) (sFor (iSq (eV 2)) (tNm 5) (sSet 3 (op2 gAdd (eV 3) (op1 gSum (eLc (iSq (eV 2)) (tNm 6) bYes (op2 gMul (eCall c_inner_number (aCons (eV 4) (aCons (eV 5) (aCons (eV 6) (aNil))))) (eCall c_inner_number (aCons (eV 4) (aCons (eV 5) (aCons (eV 6) (aNil)))))) [6])))))) (sRet (op2 gEq (eV 3) (op1 gSum (eLc (iSq (eV 2)) (tNm 7) bYes (eCall c__law_stays (aCons (eV 7) (aNil))) [7]))))))
def m__law_squares_hold : SF := mp__law_squares_hold f__law_kinds f__law_stays f_inner_number
def f__law_squares_hold (ds : List D) (p : Pen) : RN := if ds.length + 1 = 1 then outN (m__law_squares_hold (initN 8 ds p)) else .no
theorem ok__law_squares_hold (Γ : Fx K mg) : FnG P w K mg base (L2.CX P w) 13 Γ.e__law_squares_hold.f Γ.e__law_squares_hold.fd ["pen"] (spN P w K mg f__law_squares_hold) := by
  refine fn_mkN (k := 12) Γ.e__law_squares_hold.F sc__law_squares_hold m__law_squares_hold f__law_squares_hold (fun ds p => ?_) fun cdv A outer s H E hr => ?_
  · by_cases h : ds.length + 1 = 1
    · exact .inr ⟨h, if_pos h⟩
    · exact .inl (if_neg h)
  · have hu := roomU hr
    have hgu := hr.g
    have nd := sc__law_squares_hold.nd
    have hp := passes_of (X := cxOf (L2.CX P w) P w K mg base ["pen", "size", "kinds", "total", "one", "other", "whole", "kind"] "_law_squares_hold" (defScope s__law_squares_hold) Γ.e__law_squares_hold.f cdv A outer s H E) rfl
    have tk : Takes (cxOf (L2.CX P w) P w K mg base ["pen", "size", "kinds", "total", "one", "other", "whole", "kind"] "_law_squares_hold" (defScope s__law_squares_hold) Γ.e__law_squares_hold.f cdv A outer s H E) (fun cls d _ H => E cls d H) := takes_of rfl rfl rfl rfl
    exact (ss_cons (ss_set nd rfl (by first | exact .inl rfl | exact .inr rfl) (se_bin op2_add se_int (se_callN (ok__law_draw Γ) (hr.mono (by decide)) (by rfl) Γ.e__law_draw.g Γ.e__law_draw.F.kp Γ.e__law_draw.b tk (sa_cons (sv 0) (sa_cons se_int sa_nil))))) (ss_cons (ss_par (i := 2) (j := 3) rfl nd rfl rfl (by decide) rfl rfl (se_call (ok__law_kinds Γ) (hr.mono (by decide)) (by rfl) Γ.e__law_kinds.g Γ.e__law_kinds.F.kp Γ.e__law_kinds.b tk (sa_cons (sv 1) sa_nil)) se_int rfl) (ss_cons (ss_for hp rfl (si_seq (sv 2)) (sg_name nd rfl (by first | exact .inl rfl | exact .inr rfl)) (ss_one (ss_for hp rfl (si_seq (sv 2)) (sg_name nd rfl (by first | exact .inl rfl | exact .inr rfl)) (ss_one (ss_set nd rfl (by first | exact .inl rfl | exact .inr rfl) (se_bin op2_add (sv 3) (se_b1 (c1_sum rfl) (by rfl) Γ.m_sum PyProof.Rows.boot_sum (se_lc (own := [("whole", 6)]) rfl nd (si_seq (sv 2)) (blkOk_by (N := ["pen", "size", "kinds", "total", "one", "other", "whole", "kind"]) (sc := defScope s__law_squares_hold) (by first | decide +kernel | rfl)) (by decide) (fun _ _ _ _ _ => (sg_name nd rfl (by first | exact .inl rfl | exact .inr rfl))) (fun _ _ _ _ _ => sts_nil) (fun _ _ _ _ _ => (se_bin op2_mul (se_call (ok_inner_number Γ) (hr.mono (by decide)) (by rfl) Γ.e_inner_number.g Γ.e_inner_number.F.kp Γ.e_inner_number.b takes0 (sa_cons (sv 4) (sa_cons (sv 5) (sa_cons (sv 6) sa_nil)))) (se_call (ok_inner_number Γ) (hr.mono (by decide)) (by rfl) Γ.e_inner_number.g Γ.e_inner_number.F.kp Γ.e_inner_number.b takes0 (sa_cons (sv 4) (sa_cons (sv 5) (sa_cons (sv 6) sa_nil)))))))))))))) (ss_one (ss_ret (se_cmp (op2_eq hu) (sv 3) (se_b1 (c1_sum rfl) (by rfl) Γ.m_sum PyProof.Rows.boot_sum (se_lc (own := [("kind", 7)]) rfl nd (si_seq (sv 2)) (blkOk_by (N := ["pen", "size", "kinds", "total", "one", "other", "whole", "kind"]) (sc := defScope s__law_squares_hold) (by first | decide +kernel | rfl)) (by decide) (fun _ _ _ _ _ => (sg_name nd rfl (by first | exact .inl rfl | exact .inr rfl))) (fun _ _ _ _ _ => sts_nil) (fun _ _ _ _ _ => (se_call (ok__law_stays Γ) (hr.mono (by decide)) (by rfl) Γ.e__law_stays.g Γ.e__law_stays.F.kp Γ.e__law_stays.b takes0 (sa_cons (sv 7) sa_nil))))) (by first | exact nomark _ | rfl)))))))
end
end K64
end Sx

namespace Sx
namespace K64
open PySem PySem.Spec L2
open PyProof.Rows hiding St
abbrev s__law_pen : Stmt := topS 31
abbrev s__law_fault : Stmt := topS 45
abbrev s__law_due : Stmt := topS 46
abbrev s_law : Stmt := topS 55
theorem scPen : FnScope ["script", "fold", "cell"] ["script"] (defScope s__law_pen) := ⟨rfl, rfl, rfl, by decide +kernel, rfl, by decide +kernel, by decide +kernel⟩
theorem ok_pen {P : Program} {w : World} {K : PySem.W.Frag} {mg : Str → Option Value} {base : Heap} {f : Addr} {fd : FuncData} {k : Nat} (F : Fun K "_law_pen" "_law_pen" s__law_pen f fd) (mi : mg "int" = none) (mls : mg "list" = none) : FnG P w K mg base (L2.CX P w) (k + 1) f fd ["script"] (spPen K) := by
  refine okG F scPen (fun vs H Q E h => ?_) (fun cdv A outer s H vs Q E hr h => ?_)
  · obtain ⟨l, ns, rfl, _⟩ := h
    rfl
  · obtain ⟨l, ns, rfl, hl, hn, q⟩ := h
    have hp := passes_of (X := cxOf (L2.CX P w) P w K mg base ["script", "fold", "cell"] "_law_pen" (defScope s__law_pen) f cdv A outer s H E) rfl
    refine ⟨_, pss_cons (ps_set (i := 1) scPen.nd rfl (.inl rfl) pe_int)
      (pss_cons (ps_for hp rfl (pi_list (pv 0)) (pg_name (i := 2) scPen.nd rfl (.inl rfl))
        (pss_one (ps_set (i := 1) scPen.nd rfl (.inl rfl) (pe_op op_mod (pe_callTy call_int1 (by rfl) mi PyProof.Rows.boot_int (pa_cons (pe_op op_add (pe_op op_mul (pv 1) pe_int) (pv 2)) pa_nil)) pe_int))))
      (pss_one (ps_ret (pe_disp (pps_cons pe_str (pe_callTy call_list_of (by rfl) mls PyProof.Rows.boot_list (pa_cons (pv 0) pa_nil)) (pps_cons pe_str pe_int (pps_cons pe_str pe_int (pps_cons pe_str pe_int (pps_cons pe_str (pv 1) pps_nil))))) rfl rfl (by decide) (by decide))))), ?_⟩
    refine ⟨.ref l, rfl, l, rfl, ⟨_, hl⟩, for_list (K := K) (a := l) (xs := ns.map V.int) (fun i σ H' => ∃ (fo : Int) (y : Option V), σ = [some (.ref l), some (.int fo), y] ∧ 0 ≤ fo ∧ fo < 999999739 ∧ H' = H) ⟨0, none, rfl, by decide, by decide, rfl⟩ (fun i σ H' _ ⟨_, _, _, _, _, e⟩ => e ▸ hl) ?_ ?_⟩
    · rintro i x σ H' hx ⟨fo, y, rfl, f0, f1, rfl⟩
      rw [List.getElem?_map] at hx
      cases e : ns[i]? with
      | none => rw [e] at hx; cases hx
      | some z =>
        rw [e] at hx
        cases hx
        refine ⟨_, rfl, fo, 89, rfl, rfl, .inr ⟨by decide, by decide⟩, .int z, rfl, fo * 89, z, rfl, rfl, .inl ⟨_, rfl, _, 999999739, rfl, rfl, (show (0 : Int) < 999999739 by decide), ?_⟩⟩
        exact ⟨_, _, rfl, Int.emod_nonneg _ (show (999999739 : Int) ≠ 0 by decide), Int.emod_lt_of_pos _ (show (0 : Int) < 999999739 by decide), rfl⟩
    · rintro σ H' ⟨fo, y, rfl, f0, f1, rfl⟩
      intro a ha
      have e1 := ext_laid (H := H') (H1 := H') (o := .dK []) (fun b o h => h) ha
      refine ⟨.ref l, rfl, l, ns.map V.int, rfl, .inl ?_, fun c hc => ?_⟩
      · rcases hl with (h | ⟨o, h⟩) | h
        · exact .inl (.inl (e1 _ _ h))
        · exact .inl (.inr ⟨o, e1 _ _ h⟩)
        · exact .inr h
      have nca : c ≠ a := fun z => by rw [z, upd_same] at hc; cases hc
      have e2 := ext_laid (o := .lst (ns.map V.int)) e1 hc
      refine ⟨_, rfl, ?_⟩
      refine ⟨by rw [upd_ne (Ne.symm nca), upd_same], [(kCells, .ref c), (kAt, .int 0), (kDigits, .int 0), (kCount, .int 0), (kFold, .int fo)], rfl, (show (5 : Nat) ≤ 15 by decide), ?_⟩
      rw [pen_kv]
      refine q _ a c fo ?_ ha (by rw [upd_ne nca] at hc; exact hc) upd_same (by rw [upd_ne nca, upd_same]) (Ne.symm nca) f0 f1
      intro b o e
      rw [upd_ne (ne_of_none e ha)]
      exact e2 b o e

/-- what is left of the classes that _law_fault names, and of the defs of the frame -/
structure Ff (K : PySem.W.Frag) (mg : Str → Option Value) where
  C_BadNumber : Addr
  C_BadShape : Addr
  C_BadRow : Addr
  C_BadTable : Addr
  C_BadName : Addr
  C_TooMany : Addr
  C_Unlike : Addr
  e__law_pen : DefF K mg "_law_pen" s__law_pen ["script"]
  e__law_fault : DefF K mg "_law_fault" s__law_fault ["work"]
  e__law_due : DefF K mg "_law_due" s__law_due ["calls"]
  T : HEs K mg [⟨"BadNumber", C_BadNumber, "number", ["what", "number"]⟩, ⟨"BadShape", C_BadShape, "shape", ["shape"]⟩, ⟨"BadRow", C_BadRow, "row", ["row"]⟩, ⟨"BadTable", C_BadTable, "table", ["table"]⟩, ⟨"BadName", C_BadName, "name", ["name"]⟩, ⟨"TooMany", C_TooMany, "many", ["what", "many", "limit"]⟩, ⟨"Unlike", C_Unlike, "unlike", ["what"]⟩]
section
variable {P : Program} {w : World} {K : PySem.W.Frag} {mg : Str → Option Value} {base : Heap}
abbrev hsL (Φ : Ff K mg) : List HE := [⟨"BadNumber", Φ.C_BadNumber, "number", ["what", "number"]⟩, ⟨"BadShape", Φ.C_BadShape, "shape", ["shape"]⟩, ⟨"BadRow", Φ.C_BadRow, "row", ["row"]⟩, ⟨"BadTable", Φ.C_BadTable, "table", ["table"]⟩, ⟨"BadName", Φ.C_BadName, "name", ["name"]⟩, ⟨"TooMany", Φ.C_TooMany, "many", ["what", "many", "limit"]⟩, ⟨"Unlike", Φ.C_Unlike, "unlike", ["what"]⟩]
theorem scFault : FnScope ["work", "fault"] ["work"] (defScope s__law_fault) := ⟨rfl, rfl, rfl, by decide +kernel, rfl, by decide +kernel, by decide +kernel⟩
theorem scDue : FnScope ["calls", "work", "due"] ["calls"] (defScope s__law_due) := ⟨rfl, rfl, rfl, by decide +kernel, rfl, by decide +kernel, by decide +kernel⟩
theorem ok_fault' (Φ : Ff K mg) {k : Nat} : FnG P w K mg base (L2.CX P w) (k + 1) Φ.e__law_fault.f Φ.e__law_fault.fd ["work"] (spFault P w K mg base k (hsL Φ)) :=
  ok_fault (e0 := ⟨⟨"BadNumber", Φ.C_BadNumber, "number", ["what", "number"]⟩, [("what", _, _), ("number", _, _)], _, _, (_, _, _, _, _)⟩) (es := [⟨⟨"BadShape", Φ.C_BadShape, "shape", ["shape"]⟩, [("shape", _, _)], _, _, (_, _, _, _, _)⟩, ⟨⟨"BadRow", Φ.C_BadRow, "row", ["row"]⟩, [("row", _, _)], _, _, (_, _, _, _, _)⟩, ⟨⟨"BadTable", Φ.C_BadTable, "table", ["table"]⟩, [("table", _, _)], _, _, (_, _, _, _, _)⟩, ⟨⟨"BadName", Φ.C_BadName, "name", ["name"]⟩, [("name", _, _)], _, _, (_, _, _, _, _)⟩, ⟨⟨"TooMany", Φ.C_TooMany, "many", ["what", "many", "limit"]⟩, [("what", _, _), ("many", _, _), ("limit", _, _)], _, _, (_, _, _, _, _)⟩, ⟨⟨"Unlike", Φ.C_Unlike, "unlike", ["what"]⟩, [("what", _, _)], _, _, (_, _, _, _, _)⟩]) Φ.e__law_fault.F scFault rfl rfl rfl rfl Φ.T (fun e he => by
    simp only [List.mem_cons, List.not_mem_nil, or_false] at he
    rcases he with rfl | rfl | rfl | rfl | rfl | rfl | rfl <;> exact ⟨rfl, rfl, rfl, Nat.le_of_ble_eq_true rfl⟩)
theorem ok_due' (Φ : Ff K mg) (mr : mg "repr" = none) (ma : mg "all" = none) {k : Nat} : FnG P w K mg base (L2.CX P w) (k + 2) Φ.e__law_due.f Φ.e__law_due.fd ["calls"] (spDue P w K mg base k (hsL Φ)) :=
  ok_due Φ.e__law_due.F scDue rfl rfl rfl rfl rfl rfl rfl (blkOk_by (N := ["calls", "work", "due"]) (sc := defScope s__law_due) (by first | decide +kernel | rfl)) rfl (ok_fault' Φ) Φ.e__law_fault.g Φ.e__law_fault.F.kp Φ.e__law_fault.b mr ma
theorem scLaw : FnScope ["script", "pen", "bad", "odd", "far", "calls", "lap"] ["script"] (defScope s_law) := ⟨rfl, rfl, rfl, by decide +kernel, rfl, by decide +kernel, by decide +kernel⟩
def m_law0 : SF := sIf (bOr (bNot (bT (op1 gAll (eLc (iRg rg1 (aCons (eC (.int 3)) (aNil))) (tNm 6) bYes (eCallN f__law_case (aCons (eV 1) (aNil))) [6])))) (bNot (bT (eCallN f__law_squares_hold (aCons (eV 1) (aNil)))))) (sRet (eC (.bool false))) (sNext)
def m_law1 : SF := sSet 2 (eCallN f__law_pick (aCons (eV 1) (aCons (eLst (aCons (eCallN f__law_bad_shape (aCons (eV 1) (aNil))) (aCons (eTup (aCons (eC (.int 9)) (aNil))) (aCons (eTup (aCons (eC (.int 3)) (aCons (eC (.int 3)) (aCons (eC (.int 3)) (aNil))))) (aNil))))) (aNil))))
def m_law2 : SF := sAsg (tTp 2 (tsCons (tNm 3) (tsCons (tNm 4) tsNil))) (eTup (aCons (eCallN f__law_pick (aCons (eV 1) (aCons (eLst (aCons (eC .none) (aCons (eTup (aCons (eC (.int 1)) (aCons (eC (.int 2)) (aNil)))) (aCons (eTup (aCons (eC (.int 0)) (aNil))) (aCons (eC (.int 5)) (aNil)))))) (aNil)))) (aCons (eCallN f__law_pick (aCons (eV 1) (aCons (eLst (aCons (eTup (aCons (eC (.int 2)) (aNil))) (aCons (eTup (aNil)) (aCons (eTup (aCons (eC (.int 4)) (aNil))) (aNil))))) (aNil)))) (aNil))))
def m_mid : SF := (sSeq m_law0 (sSeq m_law1 m_law2))
def b_0 : EF := eCall f_inner_number (aCons (eV 2) (aCons (eV 3) (aCons (eC .none) (aNil))))
def e_0 : EF := eTup (aCons (eC (.str "shape")) (aCons (eV 2) (aNil)))
def b_1 : EF := eCall f_inner_number (aCons (eTup (aCons (eC (.int 2)) (aCons (eC (.int 1)) (aNil)))) (aCons (eV 2) (aCons (eV 3) (aNil))))
def e_1 : EF := eTup (aCons (eC (.str "shape")) (aCons (eV 2) (aNil)))
def b_2 : EF := eCall f_inner_number (aCons (eTup (aCons (eC (.int 2)) (aCons (eC (.int 1)) (aNil)))) (aCons (eV 4) (aCons (eV 3) (aNil))))
def e_2 : EF := eTup (aCons (eC (.str "shape")) (aCons (eV 3) (aNil)))
def b_3 : EF := eCall f_inner_number (aCons (eTup (aCons (eC (.int 2)) (aCons (eC (.int 1)) (aNil)))) (aCons (eV 4) (aCons (eTup (aCons (eC (.int 2)) (aCons (eC (.int 1)) (aNil)))) (aNil))))
def e_3 : EF := eTup (aCons (eC (.str "unlike")) (aCons (eC (.str "boxes")) (aNil)))
def b_4 : EF := eCall f_inner_number (aCons (eTup (aCons (eC (.int 2)) (aCons (eC (.int 1)) (aNil)))) (aCons (eTup (aCons (eC (.int 3)) (aNil))) (aCons (eV 4) (aNil))))
def e_4 : EF := eTup (aCons (eC (.str "unlike")) (aCons (eC (.str "boxes")) (aNil)))
abbrev α_0 (ns : List Int) (fo : Int) : AS := ⟨(List.replicate 7 none).set 1 (some .pen), some ⟨ns, 0, 0, 0, fo⟩⟩
/-- what the plain law is to tell -/
def Plain (hs : List HE) : Prop := ∀ (ns : List Int) (fo : Int), ns.length ≤ 63 → 0 ≤ fo → fo < 999999739 → ∃ α0, α0 = α_0 ns fo ∧ ∃ α1 α2 α3, m_law0 α0 = .ok .next α1 ∧ noOwn α1 = true ∧ m_law1 α1 = .ok .next α2 ∧ noOwn α2 = true ∧ m_law2 α2 = .ok .next α3 ∧ noOwn α3 = true ∧ getS α3 5 = none ∧ α3.sl.length = 7 ∧ ItOk hs α3 b_0 e_0 ∧ ItOk hs α3 b_1 e_1 ∧ ItOk hs α3 b_2 e_2 ∧ ItOk hs α3 b_3 e_3 ∧ ItOk hs α3 b_4 e_4
theorem law_run (Γ : Fx K mg) (Φ : Ff K mg) {fa c Pt : Addr} {kV dc pm ct9 oc : Value} {od an : Option Addr} {sl : Array (Option Value)} (lk : K.lookup fa = some ⟨oc, od, .func (PySem.W.fnOf "law" "law" (defArgs s_law) (defBody s_law) (defScope s_law) .none kV dc pm an (.ref c) ct9), sl⟩) (hcd : PySem.W.codeIn K (.ref c) "law" = true)
    (hb : ∀ (s : Shared) (u : Value), BindsTo s (PySem.W.fnOf "law" "law" (defArgs s_law) (defBody s_law) (defScope s_law) .none kV dc pm an (.ref c) ct9) ⟨[u], []⟩ [("script", u)]) (PL : Plain (hsL Φ)) : LawRun P w K mg fa c Pt := by
  intro base H s a ns hn TB hP hS e0
  have hr0 : RoomG 18 callerA := ⟨⟨rfl, by decide, by decide⟩, rfl⟩
  refine LamX.run_ofS (N := ["script", "pen", "bad", "odd", "far", "calls", "lap"]) (ps := ["script"]) (us := [.ref a]) (vs := [.ref a]) lk hcd scLaw hr0.r e0 (hb s (.ref a)) (.cons rfl .nil) rfl fun hr1 => ?_
  have hr : RoomG 17 (cxOf (L2.CX P w) P w K mg base ["script", "pen", "bad", "odd", "far", "calls", "lap"] "law" (defScope s_law) fa (.ref c) callerA [] s H (fun _ _ _ => False)).A := ⟨hr1, rfl⟩
  have hu := roomU hr
  have hgu := hr.g
  have nd := scLaw.nd
  have hp := passes_of (X := (cxOf (L2.CX P w) P w K mg base ["script", "pen", "bad", "odd", "far", "calls", "lap"] "law" (defScope s_law) fa (.ref c) callerA [] s H (fun _ _ _ => False))) rfl
  have tk : Takes (cxOf (L2.CX P w) P w K mg base ["script", "pen", "bad", "odd", "far", "calls", "lap"] "law" (defScope s_law) fa (.ref c) callerA [] s H (fun _ _ _ => False)) (fun cls d _ H => (fun _ _ _ => False : XK) cls d H) := takes_of rfl rfl rfl rfl
  have FD := ok_due' (P := P) (w := w) (base := base) (k := 14) Φ Γ.m_repr Γ.m_all
  have S0 : SS (cxOf (L2.CX P w) P w K mg base ["script", "pen", "bad", "odd", "far", "calls", "lap"] "law" (defScope s_law) fa (.ref c) callerA [] s H (fun _ _ _ => False)) (fun cls d _ H => (fun _ _ _ => False : XK) cls d H) ((defBody s_law).getD 1 (.Pass ⟨0, 0, 0, 0⟩)) m_law0 := (ss_if (sw_pt (sw_or (st_not (st_truth (se_b1 (c1_all rfl) (by rfl) Γ.m_all PyProof.Rows.boot_all (se_lc (own := [("lap", 6)]) rfl nd (si_range1 (by rfl) Γ.m_range (sa_cons se_int sa_nil)) (blkOk_by (N := ["script", "pen", "bad", "odd", "far", "calls", "lap"]) (sc := defScope s_law) (by first | decide +kernel | rfl)) (by decide) (fun _ _ _ _ _ => (sg_name nd rfl (by first | exact .inl rfl | exact .inr rfl))) (fun _ _ _ _ _ => sts_nil) (fun _ _ _ _ _ => (se_callN (ok__law_case Γ) (hr.mono (by decide)) (by rfl) Γ.e__law_case.g Γ.e__law_case.F.kp Γ.e__law_case.b takes0 (sa_cons (sv 1) sa_nil))))) (by intro _; rfl))) (sw_or1 (st_not (st_truth (se_callN (ok__law_squares_hold Γ) (hr.mono (by decide)) (by rfl) Γ.e__law_squares_hold.g Γ.e__law_squares_hold.F.kp Γ.e__law_squares_hold.b tk (sa_cons (sv 1) sa_nil)) (by intro _; rfl)))))) (ss_one (ss_ret se_bl)) ss_nil)
  have S1 : SS (cxOf (L2.CX P w) P w K mg base ["script", "pen", "bad", "odd", "far", "calls", "lap"] "law" (defScope s_law) fa (.ref c) callerA [] s H (fun _ _ _ => False)) (fun cls d _ H => (fun _ _ _ => False : XK) cls d H) ((defBody s_law).getD 2 (.Pass ⟨0, 0, 0, 0⟩)) m_law1 := (ss_set nd rfl (by first | exact .inl rfl | exact .inr rfl) (se_callN (ok__law_pick Γ) (hr.mono (by decide)) (by rfl) Γ.e__law_pick.g Γ.e__law_pick.F.kp Γ.e__law_pick.b tk (sa_cons (sv 1) (sa_cons (se_lst (sa_cons (se_callN (ok__law_bad_shape Γ) (hr.mono (by decide)) (by rfl) Γ.e__law_bad_shape.g Γ.e__law_bad_shape.F.kp Γ.e__law_bad_shape.b tk (sa_cons (sv 1) sa_nil)) (sa_cons (se_tup (sa_cons se_int sa_nil)) (sa_cons (se_tup (sa_cons se_int (sa_cons se_int (sa_cons se_int sa_nil)))) sa_nil)))) sa_nil))))
  have S2 : SS (cxOf (L2.CX P w) P w K mg base ["script", "pen", "bad", "odd", "far", "calls", "lap"] "law" (defScope s_law) fa (.ref c) callerA [] s H (fun _ _ _ => False)) (fun cls d _ H => (fun _ _ _ => False : XK) cls d H) ((defBody s_law).getD 3 (.Pass ⟨0, 0, 0, 0⟩)) m_law2 := (ss_asg (se_tup (sa_cons (se_callN (ok__law_pick Γ) (hr.mono (by decide)) (by rfl) Γ.e__law_pick.g Γ.e__law_pick.F.kp Γ.e__law_pick.b tk (sa_cons (sv 1) (sa_cons (se_lst (sa_cons se_non (sa_cons (se_tup (sa_cons se_int (sa_cons se_int sa_nil))) (sa_cons (se_tup (sa_cons se_int sa_nil)) (sa_cons se_int sa_nil))))) sa_nil))) (sa_cons (se_callN (ok__law_pick Γ) (hr.mono (by decide)) (by rfl) Γ.e__law_pick.g Γ.e__law_pick.F.kp Γ.e__law_pick.b tk (sa_cons (sv 1) (sa_cons (se_lst (sa_cons (se_tup (sa_cons se_int sa_nil)) (sa_cons (se_tup sa_nil) (sa_cons (se_tup (sa_cons se_int sa_nil)) sa_nil)))) sa_nil))) sa_nil))) (sg_tup rfl (sgs_cons (sg_name nd rfl (by first | exact .inl rfl | exact .inr rfl)) (sgs_cons (sg_name nd rfl (by first | exact .inl rfl | exact .inr rfl)) sgs_nil))))





  refine ⟨_, pss_cons (ps_set (i := 1) nd rfl (by first | exact .inl rfl | exact .inr rfl) (pe_callG (ok_pen (k := 16) Φ.e__law_pen.F Γ.m_int Γ.m_list) hr (by rfl) Φ.e__law_pen.g Φ.e__law_pen.F.kp Φ.e__law_pen.b (fun σ => passAt tk σ) (pa_cons (pv 0) pa_nil)))
    (pss_cons S0
    (pss_cons S1
    (pss_cons S2
    (pss_cons (ps_call0 (ic := 5) (hs := hsL Φ) nd rfl (by first | exact .inl rfl | exact .inr rfl) (by first | exact .inl rfl | exact .inr rfl) TB rfl (⟨LamX.lamS_by (show LamX.lamSB (defScope s_law) _ = true from by decide +kernel), rfl, fun _ _ _ _ _ => rfl, fun A9 o9 s9 H9 E9 f9 c9 hr tk => by
      have hu := roomU hr
      have hgu := hr.g
      exact (se_call (ok_inner_number Γ) (hr.mono (by decide)) (by rfl) Γ.e_inner_number.g Γ.e_inner_number.F.kp Γ.e_inner_number.b tk (sa_cons (sv 2) (sa_cons (sv 3) (sa_cons se_non sa_nil))))⟩ : LamI (cxOf (L2.CX P w) P w K mg base ["script", "pen", "bad", "odd", "far", "calls", "lap"] "law" (defScope s_law) fa (.ref c) callerA [] s H (fun _ _ _ => False)) 13 _ _ _ b_0) (show SE (cxOf (L2.CX P w) P w K mg base ["script", "pen", "bad", "odd", "far", "calls", "lap"] "law" (defScope s_law) fa (.ref c) callerA [] s H (fun _ _ _ => False)) (fun cls d _ H => (fun _ _ _ => False : XK) cls d H) _ e_0 from (se_tup (sa_cons se_str (sa_cons (sv 2) sa_nil)))))
    (pss_cons (ps_call1 (ic := 5) (hs := hsL Φ) rfl (by first | exact .inl rfl | exact .inr rfl) TB rfl (⟨LamX.lamS_by (show LamX.lamSB (defScope s_law) _ = true from by decide +kernel), rfl, fun _ _ _ _ _ => rfl, fun A9 o9 s9 H9 E9 f9 c9 hr tk => by
      have hu := roomU hr
      have hgu := hr.g
      exact (se_call (ok_inner_number Γ) (hr.mono (by decide)) (by rfl) Γ.e_inner_number.g Γ.e_inner_number.F.kp Γ.e_inner_number.b tk (sa_cons (se_tup (sa_cons se_int (sa_cons se_int sa_nil))) (sa_cons (sv 2) (sa_cons (sv 3) sa_nil))))⟩ : LamI (cxOf (L2.CX P w) P w K mg base ["script", "pen", "bad", "odd", "far", "calls", "lap"] "law" (defScope s_law) fa (.ref c) callerA [] s H (fun _ _ _ => False)) 13 _ _ _ b_1) (show SE (cxOf (L2.CX P w) P w K mg base ["script", "pen", "bad", "odd", "far", "calls", "lap"] "law" (defScope s_law) fa (.ref c) callerA [] s H (fun _ _ _ => False)) (fun cls d _ H => (fun _ _ _ => False : XK) cls d H) _ e_1 from (se_tup (sa_cons se_str (sa_cons (sv 2) sa_nil)))))
    (pss_cons (ps_call1 (ic := 5) (hs := hsL Φ) rfl (by first | exact .inl rfl | exact .inr rfl) TB rfl (⟨LamX.lamS_by (show LamX.lamSB (defScope s_law) _ = true from by decide +kernel), rfl, fun _ _ _ _ _ => rfl, fun A9 o9 s9 H9 E9 f9 c9 hr tk => by
      have hu := roomU hr
      have hgu := hr.g
      exact (se_call (ok_inner_number Γ) (hr.mono (by decide)) (by rfl) Γ.e_inner_number.g Γ.e_inner_number.F.kp Γ.e_inner_number.b tk (sa_cons (se_tup (sa_cons se_int (sa_cons se_int sa_nil))) (sa_cons (sv 4) (sa_cons (sv 3) sa_nil))))⟩ : LamI (cxOf (L2.CX P w) P w K mg base ["script", "pen", "bad", "odd", "far", "calls", "lap"] "law" (defScope s_law) fa (.ref c) callerA [] s H (fun _ _ _ => False)) 13 _ _ _ b_2) (show SE (cxOf (L2.CX P w) P w K mg base ["script", "pen", "bad", "odd", "far", "calls", "lap"] "law" (defScope s_law) fa (.ref c) callerA [] s H (fun _ _ _ => False)) (fun cls d _ H => (fun _ _ _ => False : XK) cls d H) _ e_2 from (se_tup (sa_cons se_str (sa_cons (sv 3) sa_nil)))))
    (pss_cons (ps_call1 (ic := 5) (hs := hsL Φ) rfl (by first | exact .inl rfl | exact .inr rfl) TB rfl (⟨LamX.lamS_by (show LamX.lamSB (defScope s_law) _ = true from by decide +kernel), rfl, fun _ _ _ _ _ => rfl, fun A9 o9 s9 H9 E9 f9 c9 hr tk => by
      have hu := roomU hr
      have hgu := hr.g
      exact (se_call (ok_inner_number Γ) (hr.mono (by decide)) (by rfl) Γ.e_inner_number.g Γ.e_inner_number.F.kp Γ.e_inner_number.b tk (sa_cons (se_tup (sa_cons se_int (sa_cons se_int sa_nil))) (sa_cons (sv 4) (sa_cons (se_tup (sa_cons se_int (sa_cons se_int sa_nil))) sa_nil))))⟩ : LamI (cxOf (L2.CX P w) P w K mg base ["script", "pen", "bad", "odd", "far", "calls", "lap"] "law" (defScope s_law) fa (.ref c) callerA [] s H (fun _ _ _ => False)) 13 _ _ _ b_3) (show SE (cxOf (L2.CX P w) P w K mg base ["script", "pen", "bad", "odd", "far", "calls", "lap"] "law" (defScope s_law) fa (.ref c) callerA [] s H (fun _ _ _ => False)) (fun cls d _ H => (fun _ _ _ => False : XK) cls d H) _ e_3 from (se_tup (sa_cons se_str (sa_cons se_str sa_nil)))))
    (pss_cons (ps_call1 (ic := 5) (hs := hsL Φ) rfl (by first | exact .inl rfl | exact .inr rfl) TB rfl (⟨LamX.lamS_by (show LamX.lamSB (defScope s_law) _ = true from by decide +kernel), rfl, fun _ _ _ _ _ => rfl, fun A9 o9 s9 H9 E9 f9 c9 hr tk => by
      have hu := roomU hr
      have hgu := hr.g
      exact (se_call (ok_inner_number Γ) (hr.mono (by decide)) (by rfl) Γ.e_inner_number.g Γ.e_inner_number.F.kp Γ.e_inner_number.b tk (sa_cons (se_tup (sa_cons se_int (sa_cons se_int sa_nil))) (sa_cons (se_tup (sa_cons se_int sa_nil)) (sa_cons (sv 4) sa_nil))))⟩ : LamI (cxOf (L2.CX P w) P w K mg base ["script", "pen", "bad", "odd", "far", "calls", "lap"] "law" (defScope s_law) fa (.ref c) callerA [] s H (fun _ _ _ => False)) 13 _ _ _ b_4) (show SE (cxOf (L2.CX P w) P w K mg base ["script", "pen", "bad", "odd", "far", "calls", "lap"] "law" (defScope s_law) fa (.ref c) callerA [] s H (fun _ _ _ => False)) (fun cls d _ H => (fun _ _ _ => False : XK) cls d H) _ e_4 from (se_tup (sa_cons se_str (sa_cons se_str sa_nil)))))
    (pss_one (ps_ret (pe_dueCall (k := 13) (ic := 5) (P := Pt) (fun _ => rfl) rfl rfl FD (hr.mono (by decide)) (by rfl) Φ.e__law_due.g Φ.e__law_due.F.kp Φ.e__law_due.b rfl (by first | exact .inl rfl | exact .inr (.inl rfl))))))))))))), ?_⟩
  refine ⟨.ref a, rfl, a, ns, rfl, hS, by omega, fun H1 a1 c1 fo ex ha1 hc1 hpa hpc nac f0 f1 => ?_⟩
  obtain ⟨α0, eα, α1, α2, α3, h0, n1, h1, n2, h2, n3, gic, ln, I0, I1, I2, I3, I4⟩ := PL ns fo hn f0 f1
  subst eα
  have nPa : Pt ≠ a1 := fun z => by rw [z, ha1] at hP; cases hP
  have nPc : Pt ≠ c1 := fun z => by rw [z, hc1] at hP; cases hP
  have G1P : upd (fun _ => none) c1 (.lst (ns.map V.int)) Pt = none := by rw [upd_ne nPc]
  have rel0 : Rel (ct (cxOf (L2.CX P w) P w K mg base ["script", "pen", "bad", "odd", "far", "calls", "lap"] "law" (defScope s_law) fa (.ref c) callerA [] s H (fun _ _ _ => False)) a1) (α_0 ns fo) ((L2.start ["script", "pen", "bad", "odd", "far", "calls", "lap"] [.ref a]).set 1 (some (.ref a1))) (upd (fun _ => none) c1 (.lst (ns.map V.int))) H1 := rel_pen (by rfl) hpa hpc nac (by decide) (by rfl) (by decide)
  have p0 := ex _ _ hP
  have n0 : noOwn (α_0 ns fo) = true := rfl
  refine ⟨a1, α_0 ns fo, _, rel0, ?_⟩
  rw [h0]
  intro σ1 G1 J1 rel1 st1
  have p1 := st1.k Pt _ p0 (not_ownD rel0 n0 p0 (fun _ z => by cases z))
  refine ⟨a1, α1, G1, rel1, ?_⟩
  rw [h1]
  intro σ2 G2 J2 rel2 st2
  have p2 := st2.k Pt _ p1.1 (not_ownD rel1 n1 p1.1 (fun _ z => by cases z))
  refine ⟨a1, α2, G2, rel2, ?_⟩
  rw [h2]
  intro σ3 G3 J3 rel3 st3
  have p3 := st3.k Pt _ p2.1 (not_ownD rel2 n2 p2.1 (fun _ z => by cases z))
  exact ⟨α3, a1, G3, rel3, n3, gic, by rw [← rel3.len, ln]; decide, LamX.TabS.nil p3.1, (p3.2.trans (p2.2.trans (p1.2.trans G1P))), I0, fun σz0 Hz0 T0 => ⟨α3, 1, T0, by decide, n3, I1, fun σz1 Hz1 T1 => ⟨α3, 2, T1, by decide, n3, I2, fun σz2 Hz2 T2 => ⟨α3, 3, T2, by decide, n3, I3, fun σz3 Hz3 T3 => ⟨α3, 4, T3, by decide, n3, I4, fun σz4 Hz4 T4 => ⟨α3, 5, T4, by decide, fun _ => rfl⟩⟩⟩⟩⟩⟩
end
end K64
end Sx

namespace Sx
open PySem L2
/-! tables of what a function tells, in the kernel -/
def rdS : RD → RD → Bool
  | .ok a, .ok b => dSame a b
  | _, _ => false
theorem rdS_eq : ∀ {a b : RD}, rdS a b = true → a = b
  | .ok a, .ok b, h => by rw [dSame_eq a b h]
  | .ok _, .ex _, h => by cases h
  | .ok _, .no, h => by cases h
  | .ex _, .ok _, h => by cases h
  | .ex _, .ex _, h => by cases h
  | .ex _, .no, h => by cases h
  | .no, .ok _, h => by cases h
  | .no, .ex _, h => by cases h
  | .no, .no, h => by cases h
def iDs : List Int → List D
  | [] => []
  | i :: r => .int i :: iDs r
def tIs (l : List Int) : D := .tuple (iDs l)
abbrev Tb := List (List D × D)
def lkT : Tb → List D → Option D
  | [], _ => none
  | (a, d) :: r, ds => bif dSames a ds then some d else lkT r ds
def lookT (T : Tb) (f : List D → RD) : List D → RD := fun ds => match lkT T ds with
  | some d => .ok d
  | none => f ds
def okT (f : List D → RD) : Tb → Bool
  | [] => true
  | (a, d) :: r => rdS (f a) (.ok d) && okT f r
theorem lk_ok {f : List D → RD} : ∀ {T : Tb}, okT f T = true → ∀ {ds : List D} {d : D}, lkT T ds = some d → f ds = .ok d
  | [], _, _, _, e => by cases e
  | (a, d0) :: r, h, ds, d, e => by
    simp only [okT, Bool.and_eq_true] at h
    simp only [lkT] at e
    cases q : dSames a ds with
    | true =>
      rw [q] at e
      cases e
      rw [← dSames_eq a ds q]
      exact rdS_eq h.1
    | false => rw [q] at e; exact lk_ok h.2 e
theorem lookT_eq {f : List D → RD} {T : Tb} (h : okT f T = true) : lookT T f = f := by
  funext ds
  unfold lookT
  cases e : lkT T ds with
  | none => rfl
  | some d => exact (lk_ok h e).symm
/-- by the first argument, then by the others -/
abbrev Tb2 := List (D × Tb)
def lkT2 : Tb2 → D → List D → Option D
  | [], _, _ => none
  | (a, t) :: r, d, ds => bif dSame a d then lkT t ds else lkT2 r d ds
def lookT2 (T : Tb2) (f : List D → RD) : List D → RD := fun ds => match ds with
  | d :: r => match lkT2 T d r with
    | some x => .ok x
    | none => f ds
  | [] => f ds
def okT2 (f : List D → RD) : Tb2 → Bool
  | [] => true
  | (a, t) :: r => okT (fun ds => f (a :: ds)) t && okT2 f r
theorem lk2_ok {f : List D → RD} : ∀ {T : Tb2}, okT2 f T = true → ∀ {d : D} {ds : List D} {x : D}, lkT2 T d ds = some x → f (d :: ds) = .ok x
  | [], _, _, _, _, e => by cases e
  | (a, t) :: r, h, d, ds, x, e => by
    simp only [okT2, Bool.and_eq_true] at h
    simp only [lkT2] at e
    cases q : dSame a d with
    | true =>
      rw [q] at e
      rw [← dSame_eq a d q]
      exact lk_ok h.1 e
    | false => rw [q] at e; exact lk2_ok h.2 e
theorem lookT2_eq {f : List D → RD} {T : Tb2} (h : okT2 f T = true) : lookT2 T f = f := by
  funext ds
  cases ds with
  | nil => rfl
  | cons d r =>
    unfold lookT2
    cases e : lkT2 T d r with
    | none => simp only [e]
    | some x => simp only [e]; exact (lk2_ok h e).symm
theorem okT2_app {f : List D → RD} : ∀ {a b : Tb2}, okT2 f a = true → okT2 f b = true → okT2 f (a ++ b) = true
  | [], _, _, h => h
  | (d, t) :: r, b, h, h2 => by
    simp only [okT2, Bool.and_eq_true] at h
    show (okT (fun ds => f (d :: ds)) t && okT2 f (r ++ b)) = true
    rw [h.1, okT2_app h.2 h2]
    rfl
theorem okT_app {f : List D → RD} : ∀ {a b : Tb}, okT f a = true → okT f b = true → okT f (a ++ b) = true
  | [], _, _, h => h
  | (d, t) :: r, b, h, h2 => by
    simp only [okT, Bool.and_eq_true] at h
    show (rdS (f d) (.ok t) && okT f (r ++ b)) = true
    rw [h.1, okT_app h.2 h2]
    rfl
theorem okT2_split {f : List D → RD} (n : Nat) {a : Tb2} (h1 : okT2 f (a.take n) = true) (h2 : okT2 f (a.drop n) = true) : okT2 f a = true := by
  have := okT2_app h1 h2
  rwa [List.take_append_drop] at this
theorem okT_split {f : List D → RD} (n : Nat) {a : Tb} (h1 : okT f (a.take n) = true) (h2 : okT f (a.drop n) = true) : okT f a = true := by
  have := okT_app h1 h2
  rwa [List.take_append_drop] at this
end Sx

namespace Sx
namespace K64
open PySem PySem.Spec L2
def tShapes : Tb := [
  ([.int 0, .int 0], .list [.tuple []]),
  ([.int 0, .int 1], .list [.tuple []]),
  ([.int 0, .int 2], .list [.tuple []]),
  ([.int 0, .int 3], .list [.tuple []]),
  ([.int 0, .int 4], .list [.tuple []]),
  ([.int 0, .int 5], .list [.tuple []]),
  ([.int 0, .int 6], .list [.tuple []]),
  ([.int 1, .int 0], .list []),
  ([.int 1, .int 1], .list [.tuple [.int 1]]),
  ([.int 1, .int 2], .list [.tuple [.int 1]]),
  ([.int 1, .int 3], .list [.tuple [.int 1]]),
  ([.int 1, .int 4], .list [.tuple [.int 1]]),
  ([.int 1, .int 5], .list [.tuple [.int 1]]),
  ([.int 1, .int 6], .list [.tuple [.int 1]]),
  ([.int 2, .int 0], .list []),
  ([.int 2, .int 1], .list [.tuple [.int 2]]),
  ([.int 2, .int 2], .list [.tuple [.int 1, .int 1], .tuple [.int 2]]),
  ([.int 2, .int 3], .list [.tuple [.int 1, .int 1], .tuple [.int 2]]),
  ([.int 2, .int 4], .list [.tuple [.int 1, .int 1], .tuple [.int 2]]),
  ([.int 2, .int 5], .list [.tuple [.int 1, .int 1], .tuple [.int 2]]),
  ([.int 2, .int 6], .list [.tuple [.int 1, .int 1], .tuple [.int 2]]),
  ([.int 3, .int 0], .list []),
  ([.int 3, .int 1], .list [.tuple [.int 3]]),
  ([.int 3, .int 2], .list [.tuple [.int 2, .int 1], .tuple [.int 3]]),
  ([.int 3, .int 3], .list [.tuple [.int 1, .int 1, .int 1], .tuple [.int 2, .int 1], .tuple [.int 3]]),
  ([.int 3, .int 4], .list [.tuple [.int 1, .int 1, .int 1], .tuple [.int 2, .int 1], .tuple [.int 3]]),
  ([.int 3, .int 5], .list [.tuple [.int 1, .int 1, .int 1], .tuple [.int 2, .int 1], .tuple [.int 3]]),
  ([.int 3, .int 6], .list [.tuple [.int 1, .int 1, .int 1], .tuple [.int 2, .int 1], .tuple [.int 3]]),
  ([.int 4, .int 0], .list []),
  ([.int 4, .int 1], .list [.tuple [.int 4]]),
  ([.int 4, .int 2], .list [.tuple [.int 2, .int 2], .tuple [.int 3, .int 1], .tuple [.int 4]]),
  ([.int 4, .int 3], .list [.tuple [.int 2, .int 1, .int 1], .tuple [.int 2, .int 2], .tuple [.int 3, .int 1], .tuple [.int 4]]),
  ([.int 4, .int 4], .list [.tuple [.int 1, .int 1, .int 1, .int 1], .tuple [.int 2, .int 1, .int 1], .tuple [.int 2, .int 2], .tuple [.int 3, .int 1], .tuple [.int 4]]),
  ([.int 4, .int 5], .list [.tuple [.int 1, .int 1, .int 1, .int 1], .tuple [.int 2, .int 1, .int 1], .tuple [.int 2, .int 2], .tuple [.int 3, .int 1], .tuple [.int 4]]),
  ([.int 4, .int 6], .list [.tuple [.int 1, .int 1, .int 1, .int 1], .tuple [.int 2, .int 1, .int 1], .tuple [.int 2, .int 2], .tuple [.int 3, .int 1], .tuple [.int 4]]),
  ([.int 5, .int 0], .list []),
  ([.int 5, .int 1], .list [.tuple [.int 5]]),
  ([.int 5, .int 2], .list [.tuple [.int 3, .int 2], .tuple [.int 4, .int 1], .tuple [.int 5]]),
  ([.int 5, .int 3], .list [.tuple [.int 2, .int 2, .int 1], .tuple [.int 3, .int 1, .int 1], .tuple [.int 3, .int 2], .tuple [.int 4, .int 1], .tuple [.int 5]]),
  ([.int 5, .int 4], .list [.tuple [.int 2, .int 1, .int 1, .int 1], .tuple [.int 2, .int 2, .int 1], .tuple [.int 3, .int 1, .int 1], .tuple [.int 3, .int 2], .tuple [.int 4, .int 1], .tuple [.int 5]]),
  ([.int 5, .int 5], .list [.tuple [.int 1, .int 1, .int 1, .int 1, .int 1], .tuple [.int 2, .int 1, .int 1, .int 1], .tuple [.int 2, .int 2, .int 1], .tuple [.int 3, .int 1, .int 1], .tuple [.int 3, .int 2], .tuple [.int 4, .int 1], .tuple [.int 5]]),
  ([.int 5, .int 6], .list [.tuple [.int 1, .int 1, .int 1, .int 1, .int 1], .tuple [.int 2, .int 1, .int 1, .int 1], .tuple [.int 2, .int 2, .int 1], .tuple [.int 3, .int 1, .int 1], .tuple [.int 3, .int 2], .tuple [.int 4, .int 1], .tuple [.int 5]]),
  ([.int 6, .int 0], .list []),
  ([.int 6, .int 1], .list [.tuple [.int 6]]),
  ([.int 6, .int 2], .list [.tuple [.int 3, .int 3], .tuple [.int 4, .int 2], .tuple [.int 5, .int 1], .tuple [.int 6]]),
  ([.int 6, .int 3], .list [.tuple [.int 2, .int 2, .int 2], .tuple [.int 3, .int 2, .int 1], .tuple [.int 3, .int 3], .tuple [.int 4, .int 1, .int 1], .tuple [.int 4, .int 2], .tuple [.int 5, .int 1], .tuple [.int 6]]),
  ([.int 6, .int 4], .list [.tuple [.int 2, .int 2, .int 1, .int 1], .tuple [.int 2, .int 2, .int 2], .tuple [.int 3, .int 1, .int 1, .int 1], .tuple [.int 3, .int 2, .int 1], .tuple [.int 3, .int 3], .tuple [.int 4, .int 1, .int 1], .tuple [.int 4, .int 2], .tuple [.int 5, .int 1], .tuple [.int 6]]),
  ([.int 6, .int 5], .list [.tuple [.int 2, .int 1, .int 1, .int 1, .int 1], .tuple [.int 2, .int 2, .int 1, .int 1], .tuple [.int 2, .int 2, .int 2], .tuple [.int 3, .int 1, .int 1, .int 1], .tuple [.int 3, .int 2, .int 1], .tuple [.int 3, .int 3], .tuple [.int 4, .int 1, .int 1], .tuple [.int 4, .int 2], .tuple [.int 5, .int 1], .tuple [.int 6]]),
  ([.int 6, .int 6], .list [.tuple [.int 1, .int 1, .int 1, .int 1, .int 1, .int 1], .tuple [.int 2, .int 1, .int 1, .int 1, .int 1], .tuple [.int 2, .int 2, .int 1, .int 1], .tuple [.int 2, .int 2, .int 2], .tuple [.int 3, .int 1, .int 1, .int 1], .tuple [.int 3, .int 2, .int 1], .tuple [.int 3, .int 3], .tuple [.int 4, .int 1, .int 1], .tuple [.int 4, .int 2], .tuple [.int 5, .int 1], .tuple [.int 6]])]
def tRims : Tb2 := [
  (.tuple [], []),
  (.tuple [.int 1], [([.int 1], .list [.tuple [.tuple [], .int 0]])]),
  (.tuple [.int 1, .int 1], [([.int 1], .list [.tuple [.tuple [.int 1], .int 0]]), ([.int 2], .list [.tuple [.tuple [], .int 1]])]),
  (.tuple [.int 2], [([.int 1], .list [.tuple [.tuple [.int 1], .int 0]]), ([.int 2], .list [.tuple [.tuple [], .int 0]])]),
  (.tuple [.int 1, .int 1, .int 1], [([.int 1], .list [.tuple [.tuple [.int 1, .int 1], .int 0]]), ([.int 2], .list [.tuple [.tuple [.int 1], .int 1]]), ([.int 3], .list [.tuple [.tuple [], .int 2]])]),
  (.tuple [.int 2, .int 1], [([.int 1], .list [.tuple [.tuple [.int 1, .int 1], .int 0], .tuple [.tuple [.int 2], .int 0]]), ([.int 2], .list []), ([.int 3], .list [.tuple [.tuple [], .int 1]])]),
  (.tuple [.int 3], [([.int 1], .list [.tuple [.tuple [.int 2], .int 0]]), ([.int 2], .list [.tuple [.tuple [.int 1], .int 0]]), ([.int 3], .list [.tuple [.tuple [], .int 0]])]),
  (.tuple [.int 1, .int 1, .int 1, .int 1], [([.int 1], .list [.tuple [.tuple [.int 1, .int 1, .int 1], .int 0]]), ([.int 2], .list [.tuple [.tuple [.int 1, .int 1], .int 1]]), ([.int 3], .list [.tuple [.tuple [.int 1], .int 2]]), ([.int 4], .list [.tuple [.tuple [], .int 3]])]),
  (.tuple [.int 2, .int 1, .int 1], [([.int 1], .list [.tuple [.tuple [.int 1, .int 1, .int 1], .int 0], .tuple [.tuple [.int 2, .int 1], .int 0]]), ([.int 2], .list [.tuple [.tuple [.int 2], .int 1]]), ([.int 3], .list []), ([.int 4], .list [.tuple [.tuple [], .int 2]])]),
  (.tuple [.int 2, .int 2], [([.int 1], .list [.tuple [.tuple [.int 2, .int 1], .int 0]]), ([.int 2], .list [.tuple [.tuple [.int 1, .int 1], .int 1], .tuple [.tuple [.int 2], .int 0]]), ([.int 3], .list [.tuple [.tuple [.int 1], .int 1]]), ([.int 4], .list [])]),
  (.tuple [.int 3, .int 1], [([.int 1], .list [.tuple [.tuple [.int 2, .int 1], .int 0], .tuple [.tuple [.int 3], .int 0]]), ([.int 2], .list [.tuple [.tuple [.int 1, .int 1], .int 0]]), ([.int 3], .list []), ([.int 4], .list [.tuple [.tuple [], .int 1]])]),
  (.tuple [.int 4], [([.int 1], .list [.tuple [.tuple [.int 3], .int 0]]), ([.int 2], .list [.tuple [.tuple [.int 2], .int 0]]), ([.int 3], .list [.tuple [.tuple [.int 1], .int 0]]), ([.int 4], .list [.tuple [.tuple [], .int 0]])]),
  (.tuple [.int 1, .int 1, .int 1, .int 1, .int 1], [([.int 1], .list [.tuple [.tuple [.int 1, .int 1, .int 1, .int 1], .int 0]]), ([.int 2], .list [.tuple [.tuple [.int 1, .int 1, .int 1], .int 1]]), ([.int 3], .list [.tuple [.tuple [.int 1, .int 1], .int 2]]), ([.int 4], .list [.tuple [.tuple [.int 1], .int 3]]), ([.int 5], .list [.tuple [.tuple [], .int 4]])]),
  (.tuple [.int 2, .int 1, .int 1, .int 1], [([.int 1], .list [.tuple [.tuple [.int 1, .int 1, .int 1, .int 1], .int 0], .tuple [.tuple [.int 2, .int 1, .int 1], .int 0]]), ([.int 2], .list [.tuple [.tuple [.int 2, .int 1], .int 1]]), ([.int 3], .list [.tuple [.tuple [.int 2], .int 2]]), ([.int 4], .list []), ([.int 5], .list [.tuple [.tuple [], .int 3]])]),
  (.tuple [.int 2, .int 2, .int 1], [([.int 1], .list [.tuple [.tuple [.int 2, .int 1, .int 1], .int 0], .tuple [.tuple [.int 2, .int 2], .int 0]]), ([.int 2], .list [.tuple [.tuple [.int 1, .int 1, .int 1], .int 1]]), ([.int 3], .list [.tuple [.tuple [.int 2], .int 1]]), ([.int 4], .list [.tuple [.tuple [.int 1], .int 2]]), ([.int 5], .list [])]),
  (.tuple [.int 3, .int 1, .int 1], [([.int 1], .list [.tuple [.tuple [.int 2, .int 1, .int 1], .int 0], .tuple [.tuple [.int 3, .int 1], .int 0]]), ([.int 2], .list [.tuple [.tuple [.int 1, .int 1, .int 1], .int 0], .tuple [.tuple [.int 3], .int 1]]), ([.int 3], .list []), ([.int 4], .list []), ([.int 5], .list [.tuple [.tuple [], .int 2]])]),
  (.tuple [.int 3, .int 2], [([.int 1], .list [.tuple [.tuple [.int 2, .int 2], .int 0], .tuple [.tuple [.int 3, .int 1], .int 0]]), ([.int 2], .list [.tuple [.tuple [.int 3], .int 0]]), ([.int 3], .list [.tuple [.tuple [.int 1, .int 1], .int 1]]), ([.int 4], .list [.tuple [.tuple [.int 1], .int 1]]), ([.int 5], .list [])]),
  (.tuple [.int 4, .int 1], [([.int 1], .list [.tuple [.tuple [.int 3, .int 1], .int 0], .tuple [.tuple [.int 4], .int 0]]), ([.int 2], .list [.tuple [.tuple [.int 2, .int 1], .int 0]]), ([.int 3], .list [.tuple [.tuple [.int 1, .int 1], .int 0]]), ([.int 4], .list []), ([.int 5], .list [.tuple [.tuple [], .int 1]])]),
  (.tuple [.int 5], [([.int 1], .list [.tuple [.tuple [.int 4], .int 0]]), ([.int 2], .list [.tuple [.tuple [.int 3], .int 0]]), ([.int 3], .list [.tuple [.tuple [.int 2], .int 0]]), ([.int 4], .list [.tuple [.tuple [.int 1], .int 0]]), ([.int 5], .list [.tuple [.tuple [], .int 0]])]),
  (.tuple [.int 1, .int 1, .int 1, .int 1, .int 1, .int 1], [([.int 1], .list [.tuple [.tuple [.int 1, .int 1, .int 1, .int 1, .int 1], .int 0]]), ([.int 2], .list [.tuple [.tuple [.int 1, .int 1, .int 1, .int 1], .int 1]]), ([.int 3], .list [.tuple [.tuple [.int 1, .int 1, .int 1], .int 2]]), ([.int 4], .list [.tuple [.tuple [.int 1, .int 1], .int 3]]), ([.int 5], .list [.tuple [.tuple [.int 1], .int 4]]), ([.int 6], .list [.tuple [.tuple [], .int 5]])]),
  (.tuple [.int 2, .int 1, .int 1, .int 1, .int 1], [([.int 1], .list [.tuple [.tuple [.int 1, .int 1, .int 1, .int 1, .int 1], .int 0], .tuple [.tuple [.int 2, .int 1, .int 1, .int 1], .int 0]]), ([.int 2], .list [.tuple [.tuple [.int 2, .int 1, .int 1], .int 1]]), ([.int 3], .list [.tuple [.tuple [.int 2, .int 1], .int 2]]), ([.int 4], .list [.tuple [.tuple [.int 2], .int 3]]), ([.int 5], .list []), ([.int 6], .list [.tuple [.tuple [], .int 4]])]),
  (.tuple [.int 2, .int 2, .int 1, .int 1], [([.int 1], .list [.tuple [.tuple [.int 2, .int 1, .int 1, .int 1], .int 0], .tuple [.tuple [.int 2, .int 2, .int 1], .int 0]]), ([.int 2], .list [.tuple [.tuple [.int 1, .int 1, .int 1, .int 1], .int 1], .tuple [.tuple [.int 2, .int 2], .int 1]]), ([.int 3], .list []), ([.int 4], .list [.tuple [.tuple [.int 2], .int 2]]), ([.int 5], .list [.tuple [.tuple [.int 1], .int 3]]), ([.int 6], .list [])]),
  (.tuple [.int 2, .int 2, .int 2], [([.int 1], .list [.tuple [.tuple [.int 2, .int 2, .int 1], .int 0]]), ([.int 2], .list [.tuple [.tuple [.int 2, .int 1, .int 1], .int 1], .tuple [.tuple [.int 2, .int 2], .int 0]]), ([.int 3], .list [.tuple [.tuple [.int 1, .int 1, .int 1], .int 2], .tuple [.tuple [.int 2, .int 1], .int 1]]), ([.int 4], .list [.tuple [.tuple [.int 1, .int 1], .int 2]]), ([.int 5], .list []), ([.int 6], .list [])]),
  (.tuple [.int 3, .int 1, .int 1, .int 1], [([.int 1], .list [.tuple [.tuple [.int 2, .int 1, .int 1, .int 1], .int 0], .tuple [.tuple [.int 3, .int 1, .int 1], .int 0]]), ([.int 2], .list [.tuple [.tuple [.int 1, .int 1, .int 1, .int 1], .int 0], .tuple [.tuple [.int 3, .int 1], .int 1]]), ([.int 3], .list [.tuple [.tuple [.int 3], .int 2]]), ([.int 4], .list []), ([.int 5], .list []), ([.int 6], .list [.tuple [.tuple [], .int 3]])]),
  (.tuple [.int 3, .int 2, .int 1], [([.int 1], .list [.tuple [.tuple [.int 2, .int 2, .int 1], .int 0], .tuple [.tuple [.int 3, .int 1, .int 1], .int 0], .tuple [.tuple [.int 3, .int 2], .int 0]]), ([.int 2], .list []), ([.int 3], .list [.tuple [.tuple [.int 1, .int 1, .int 1], .int 1], .tuple [.tuple [.int 3], .int 1]]), ([.int 4], .list []), ([.int 5], .list [.tuple [.tuple [.int 1], .int 2]]), ([.int 6], .list [])]),
  (.tuple [.int 3, .int 3], [([.int 1], .list [.tuple [.tuple [.int 3, .int 2], .int 0]]), ([.int 2], .list [.tuple [.tuple [.int 2, .int 2], .int 1], .tuple [.tuple [.int 3, .int 1], .int 0]]), ([.int 3], .list [.tuple [.tuple [.int 2, .int 1], .int 1], .tuple [.tuple [.int 3], .int 0]]), ([.int 4], .list [.tuple [.tuple [.int 2], .int 1]]), ([.int 5], .list []), ([.int 6], .list [])]),
  (.tuple [.int 4, .int 1, .int 1], [([.int 1], .list [.tuple [.tuple [.int 3, .int 1, .int 1], .int 0], .tuple [.tuple [.int 4, .int 1], .int 0]]), ([.int 2], .list [.tuple [.tuple [.int 2, .int 1, .int 1], .int 0], .tuple [.tuple [.int 4], .int 1]]), ([.int 3], .list [.tuple [.tuple [.int 1, .int 1, .int 1], .int 0]]), ([.int 4], .list []), ([.int 5], .list []), ([.int 6], .list [.tuple [.tuple [], .int 2]])]),
  (.tuple [.int 4, .int 2], [([.int 1], .list [.tuple [.tuple [.int 3, .int 2], .int 0], .tuple [.tuple [.int 4, .int 1], .int 0]]), ([.int 2], .list [.tuple [.tuple [.int 2, .int 2], .int 0], .tuple [.tuple [.int 4], .int 0]]), ([.int 3], .list []), ([.int 4], .list [.tuple [.tuple [.int 1, .int 1], .int 1]]), ([.int 5], .list [.tuple [.tuple [.int 1], .int 1]]), ([.int 6], .list [])]),
  (.tuple [.int 5, .int 1], [([.int 1], .list [.tuple [.tuple [.int 4, .int 1], .int 0], .tuple [.tuple [.int 5], .int 0]]), ([.int 2], .list [.tuple [.tuple [.int 3, .int 1], .int 0]]), ([.int 3], .list [.tuple [.tuple [.int 2, .int 1], .int 0]]), ([.int 4], .list [.tuple [.tuple [.int 1, .int 1], .int 0]]), ([.int 5], .list []), ([.int 6], .list [.tuple [.tuple [], .int 1]])]),
  (.tuple [.int 6], [([.int 1], .list [.tuple [.tuple [.int 5], .int 0]]), ([.int 2], .list [.tuple [.tuple [.int 4], .int 0]]), ([.int 3], .list [.tuple [.tuple [.int 3], .int 0]]), ([.int 4], .list [.tuple [.tuple [.int 2], .int 0]]), ([.int 5], .list [.tuple [.tuple [.int 1], .int 0]]), ([.int 6], .list [.tuple [.tuple [], .int 0]])])]
def tChiL : Tb2 := [
  (.tuple [], [([.tuple []], .int 1)]),
  (.tuple [.int 1], [([.tuple [.int 1]], .int 1)]),
  (.tuple [.int 1, .int 1], [([.tuple [.int 1, .int 1]], .int 1), ([.tuple [.int 2]], .int (-1))]),
  (.tuple [.int 2], [([.tuple [.int 1, .int 1]], .int 1), ([.tuple [.int 2]], .int 1)]),
  (.tuple [.int 1, .int 1, .int 1], [([.tuple [.int 1, .int 1, .int 1]], .int 1), ([.tuple [.int 2, .int 1]], .int (-1)), ([.tuple [.int 3]], .int 1)]),
  (.tuple [.int 2, .int 1], [([.tuple [.int 1, .int 1, .int 1]], .int 2), ([.tuple [.int 2, .int 1]], .int 0), ([.tuple [.int 3]], .int (-1))]),
  (.tuple [.int 3], [([.tuple [.int 1, .int 1, .int 1]], .int 1), ([.tuple [.int 2, .int 1]], .int 1), ([.tuple [.int 3]], .int 1)]),
  (.tuple [.int 1, .int 1, .int 1, .int 1], [([.tuple [.int 1, .int 1, .int 1, .int 1]], .int 1), ([.tuple [.int 2, .int 1, .int 1]], .int (-1)), ([.tuple [.int 2, .int 2]], .int 1), ([.tuple [.int 3, .int 1]], .int 1), ([.tuple [.int 4]], .int (-1))]),
  (.tuple [.int 2, .int 1, .int 1], [([.tuple [.int 1, .int 1, .int 1, .int 1]], .int 3), ([.tuple [.int 2, .int 1, .int 1]], .int (-1)), ([.tuple [.int 2, .int 2]], .int (-1)), ([.tuple [.int 3, .int 1]], .int 0), ([.tuple [.int 4]], .int 1)]),
  (.tuple [.int 2, .int 2], [([.tuple [.int 1, .int 1, .int 1, .int 1]], .int 2), ([.tuple [.int 2, .int 1, .int 1]], .int 0), ([.tuple [.int 2, .int 2]], .int 2), ([.tuple [.int 3, .int 1]], .int (-1)), ([.tuple [.int 4]], .int 0)]),
  (.tuple [.int 3, .int 1], [([.tuple [.int 1, .int 1, .int 1, .int 1]], .int 3), ([.tuple [.int 2, .int 1, .int 1]], .int 1), ([.tuple [.int 2, .int 2]], .int (-1)), ([.tuple [.int 3, .int 1]], .int 0), ([.tuple [.int 4]], .int (-1))]),
  (.tuple [.int 4], [([.tuple [.int 1, .int 1, .int 1, .int 1]], .int 1), ([.tuple [.int 2, .int 1, .int 1]], .int 1), ([.tuple [.int 2, .int 2]], .int 1), ([.tuple [.int 3, .int 1]], .int 1), ([.tuple [.int 4]], .int 1)]),
  (.tuple [.int 1, .int 1, .int 1, .int 1, .int 1], [([.tuple [.int 1, .int 1, .int 1, .int 1, .int 1]], .int 1), ([.tuple [.int 2, .int 1, .int 1, .int 1]], .int (-1)), ([.tuple [.int 2, .int 2, .int 1]], .int 1), ([.tuple [.int 3, .int 1, .int 1]], .int 1), ([.tuple [.int 3, .int 2]], .int (-1)), ([.tuple [.int 4, .int 1]], .int (-1)), ([.tuple [.int 5]], .int 1)]),
  (.tuple [.int 2, .int 1, .int 1, .int 1], [([.tuple [.int 1, .int 1, .int 1, .int 1, .int 1]], .int 4), ([.tuple [.int 2, .int 1, .int 1, .int 1]], .int (-2)), ([.tuple [.int 2, .int 2, .int 1]], .int 0), ([.tuple [.int 3, .int 1, .int 1]], .int 1), ([.tuple [.int 3, .int 2]], .int 1), ([.tuple [.int 4, .int 1]], .int 0), ([.tuple [.int 5]], .int (-1))]),
  (.tuple [.int 2, .int 2, .int 1], [([.tuple [.int 1, .int 1, .int 1, .int 1, .int 1]], .int 5), ([.tuple [.int 2, .int 1, .int 1, .int 1]], .int (-1)), ([.tuple [.int 2, .int 2, .int 1]], .int 1), ([.tuple [.int 3, .int 1, .int 1]], .int (-1)), ([.tuple [.int 3, .int 2]], .int (-1)), ([.tuple [.int 4, .int 1]], .int 1), ([.tuple [.int 5]], .int 0)]),
  (.tuple [.int 3, .int 1, .int 1], [([.tuple [.int 1, .int 1, .int 1, .int 1, .int 1]], .int 6), ([.tuple [.int 2, .int 1, .int 1, .int 1]], .int 0), ([.tuple [.int 2, .int 2, .int 1]], .int (-2)), ([.tuple [.int 3, .int 1, .int 1]], .int 0), ([.tuple [.int 3, .int 2]], .int 0), ([.tuple [.int 4, .int 1]], .int 0), ([.tuple [.int 5]], .int 1)]),
  (.tuple [.int 3, .int 2], [([.tuple [.int 1, .int 1, .int 1, .int 1, .int 1]], .int 5), ([.tuple [.int 2, .int 1, .int 1, .int 1]], .int 1), ([.tuple [.int 2, .int 2, .int 1]], .int 1), ([.tuple [.int 3, .int 1, .int 1]], .int (-1)), ([.tuple [.int 3, .int 2]], .int 1), ([.tuple [.int 4, .int 1]], .int (-1)), ([.tuple [.int 5]], .int 0)]),
  (.tuple [.int 4, .int 1], [([.tuple [.int 1, .int 1, .int 1, .int 1, .int 1]], .int 4), ([.tuple [.int 2, .int 1, .int 1, .int 1]], .int 2), ([.tuple [.int 2, .int 2, .int 1]], .int 0), ([.tuple [.int 3, .int 1, .int 1]], .int 1), ([.tuple [.int 3, .int 2]], .int (-1)), ([.tuple [.int 4, .int 1]], .int 0), ([.tuple [.int 5]], .int (-1))]),
  (.tuple [.int 5], [([.tuple [.int 1, .int 1, .int 1, .int 1, .int 1]], .int 1), ([.tuple [.int 2, .int 1, .int 1, .int 1]], .int 1), ([.tuple [.int 2, .int 2, .int 1]], .int 1), ([.tuple [.int 3, .int 1, .int 1]], .int 1), ([.tuple [.int 3, .int 2]], .int 1), ([.tuple [.int 4, .int 1]], .int 1), ([.tuple [.int 5]], .int 1)]),
  (.tuple [.int 1, .int 1, .int 1, .int 1, .int 1, .int 1], [([.tuple [.int 1, .int 1, .int 1, .int 1, .int 1, .int 1]], .int 1), ([.tuple [.int 2, .int 1, .int 1, .int 1, .int 1]], .int (-1)), ([.tuple [.int 2, .int 2, .int 1, .int 1]], .int 1), ([.tuple [.int 2, .int 2, .int 2]], .int (-1)), ([.tuple [.int 3, .int 1, .int 1, .int 1]], .int 1), ([.tuple [.int 3, .int 2, .int 1]], .int (-1)), ([.tuple [.int 3, .int 3]], .int 1), ([.tuple [.int 4, .int 1, .int 1]], .int (-1)), ([.tuple [.int 4, .int 2]], .int 1), ([.tuple [.int 5, .int 1]], .int 1), ([.tuple [.int 6]], .int (-1))]),
  (.tuple [.int 2, .int 1, .int 1, .int 1, .int 1], [([.tuple [.int 1, .int 1, .int 1, .int 1, .int 1, .int 1]], .int 5), ([.tuple [.int 2, .int 1, .int 1, .int 1, .int 1]], .int (-3)), ([.tuple [.int 2, .int 2, .int 1, .int 1]], .int 1), ([.tuple [.int 2, .int 2, .int 2]], .int 1), ([.tuple [.int 3, .int 1, .int 1, .int 1]], .int 2), ([.tuple [.int 3, .int 2, .int 1]], .int 0), ([.tuple [.int 3, .int 3]], .int (-1)), ([.tuple [.int 4, .int 1, .int 1]], .int (-1)), ([.tuple [.int 4, .int 2]], .int (-1)), ([.tuple [.int 5, .int 1]], .int 0), ([.tuple [.int 6]], .int 1)]),
  (.tuple [.int 2, .int 2, .int 1, .int 1], [([.tuple [.int 1, .int 1, .int 1, .int 1, .int 1, .int 1]], .int 9), ([.tuple [.int 2, .int 1, .int 1, .int 1, .int 1]], .int (-3)), ([.tuple [.int 2, .int 2, .int 1, .int 1]], .int 1), ([.tuple [.int 2, .int 2, .int 2]], .int (-3)), ([.tuple [.int 3, .int 1, .int 1, .int 1]], .int 0), ([.tuple [.int 3, .int 2, .int 1]], .int 0), ([.tuple [.int 3, .int 3]], .int 0), ([.tuple [.int 4, .int 1, .int 1]], .int 1), ([.tuple [.int 4, .int 2]], .int 1), ([.tuple [.int 5, .int 1]], .int (-1)), ([.tuple [.int 6]], .int 0)]),
  (.tuple [.int 2, .int 2, .int 2], [([.tuple [.int 1, .int 1, .int 1, .int 1, .int 1, .int 1]], .int 5), ([.tuple [.int 2, .int 1, .int 1, .int 1, .int 1]], .int (-1)), ([.tuple [.int 2, .int 2, .int 1, .int 1]], .int 1), ([.tuple [.int 2, .int 2, .int 2]], .int 3), ([.tuple [.int 3, .int 1, .int 1, .int 1]], .int (-1)), ([.tuple [.int 3, .int 2, .int 1]], .int (-1)), ([.tuple [.int 3, .int 3]], .int 2), ([.tuple [.int 4, .int 1, .int 1]], .int 1), ([.tuple [.int 4, .int 2]], .int (-1)), ([.tuple [.int 5, .int 1]], .int 0), ([.tuple [.int 6]], .int 0)]),
  (.tuple [.int 3, .int 1, .int 1, .int 1], [([.tuple [.int 1, .int 1, .int 1, .int 1, .int 1, .int 1]], .int 10), ([.tuple [.int 2, .int 1, .int 1, .int 1, .int 1]], .int (-2)), ([.tuple [.int 2, .int 2, .int 1, .int 1]], .int (-2)), ([.tuple [.int 2, .int 2, .int 2]], .int 2), ([.tuple [.int 3, .int 1, .int 1, .int 1]], .int 1), ([.tuple [.int 3, .int 2, .int 1]], .int 1), ([.tuple [.int 3, .int 3]], .int 1), ([.tuple [.int 4, .int 1, .int 1]], .int 0), ([.tuple [.int 4, .int 2]], .int 0), ([.tuple [.int 5, .int 1]], .int 0), ([.tuple [.int 6]], .int (-1))]),
  (.tuple [.int 3, .int 2, .int 1], [([.tuple [.int 1, .int 1, .int 1, .int 1, .int 1, .int 1]], .int 16), ([.tuple [.int 2, .int 1, .int 1, .int 1, .int 1]], .int 0), ([.tuple [.int 2, .int 2, .int 1, .int 1]], .int 0), ([.tuple [.int 2, .int 2, .int 2]], .int 0), ([.tuple [.int 3, .int 1, .int 1, .int 1]], .int (-2)), ([.tuple [.int 3, .int 2, .int 1]], .int 0), ([.tuple [.int 3, .int 3]], .int (-2)), ([.tuple [.int 4, .int 1, .int 1]], .int 0), ([.tuple [.int 4, .int 2]], .int 0), ([.tuple [.int 5, .int 1]], .int 1), ([.tuple [.int 6]], .int 0)]),
  (.tuple [.int 3, .int 3], [([.tuple [.int 1, .int 1, .int 1, .int 1, .int 1, .int 1]], .int 5), ([.tuple [.int 2, .int 1, .int 1, .int 1, .int 1]], .int 1), ([.tuple [.int 2, .int 2, .int 1, .int 1]], .int 1), ([.tuple [.int 2, .int 2, .int 2]], .int (-3)), ([.tuple [.int 3, .int 1, .int 1, .int 1]], .int (-1)), ([.tuple [.int 3, .int 2, .int 1]], .int 1), ([.tuple [.int 3, .int 3]], .int 2), ([.tuple [.int 4, .int 1, .int 1]], .int (-1)), ([.tuple [.int 4, .int 2]], .int (-1)), ([.tuple [.int 5, .int 1]], .int 0), ([.tuple [.int 6]], .int 0)]),
  (.tuple [.int 4, .int 1, .int 1], [([.tuple [.int 1, .int 1, .int 1, .int 1, .int 1, .int 1]], .int 10), ([.tuple [.int 2, .int 1, .int 1, .int 1, .int 1]], .int 2), ([.tuple [.int 2, .int 2, .int 1, .int 1]], .int (-2)), ([.tuple [.int 2, .int 2, .int 2]], .int (-2)), ([.tuple [.int 3, .int 1, .int 1, .int 1]], .int 1), ([.tuple [.int 3, .int 2, .int 1]], .int (-1)), ([.tuple [.int 3, .int 3]], .int 1), ([.tuple [.int 4, .int 1, .int 1]], .int 0), ([.tuple [.int 4, .int 2]], .int 0), ([.tuple [.int 5, .int 1]], .int 0), ([.tuple [.int 6]], .int 1)]),
  (.tuple [.int 4, .int 2], [([.tuple [.int 1, .int 1, .int 1, .int 1, .int 1, .int 1]], .int 9), ([.tuple [.int 2, .int 1, .int 1, .int 1, .int 1]], .int 3), ([.tuple [.int 2, .int 2, .int 1, .int 1]], .int 1), ([.tuple [.int 2, .int 2, .int 2]], .int 3), ([.tuple [.int 3, .int 1, .int 1, .int 1]], .int 0), ([.tuple [.int 3, .int 2, .int 1]], .int 0), ([.tuple [.int 3, .int 3]], .int 0), ([.tuple [.int 4, .int 1, .int 1]], .int (-1)), ([.tuple [.int 4, .int 2]], .int 1), ([.tuple [.int 5, .int 1]], .int (-1)), ([.tuple [.int 6]], .int 0)]),
  (.tuple [.int 5, .int 1], [([.tuple [.int 1, .int 1, .int 1, .int 1, .int 1, .int 1]], .int 5), ([.tuple [.int 2, .int 1, .int 1, .int 1, .int 1]], .int 3), ([.tuple [.int 2, .int 2, .int 1, .int 1]], .int 1), ([.tuple [.int 2, .int 2, .int 2]], .int (-1)), ([.tuple [.int 3, .int 1, .int 1, .int 1]], .int 2), ([.tuple [.int 3, .int 2, .int 1]], .int 0), ([.tuple [.int 3, .int 3]], .int (-1)), ([.tuple [.int 4, .int 1, .int 1]], .int 1), ([.tuple [.int 4, .int 2]], .int (-1)), ([.tuple [.int 5, .int 1]], .int 0), ([.tuple [.int 6]], .int (-1))]),
  (.tuple [.int 6], [([.tuple [.int 1, .int 1, .int 1, .int 1, .int 1, .int 1]], .int 1), ([.tuple [.int 2, .int 1, .int 1, .int 1, .int 1]], .int 1), ([.tuple [.int 2, .int 2, .int 1, .int 1]], .int 1), ([.tuple [.int 2, .int 2, .int 2]], .int 1), ([.tuple [.int 3, .int 1, .int 1, .int 1]], .int 1), ([.tuple [.int 3, .int 2, .int 1]], .int 1), ([.tuple [.int 3, .int 3]], .int 1), ([.tuple [.int 4, .int 1, .int 1]], .int 1), ([.tuple [.int 4, .int 2]], .int 1), ([.tuple [.int 5, .int 1]], .int 1), ([.tuple [.int 6]], .int 1)])]
def tChi : Tb2 := [
  (.tuple [], [([.tuple []], .int 1)]),
  (.tuple [.int 1], [([.tuple [.int 1]], .int 1)]),
  (.tuple [.int 1, .int 1], [([.tuple [.int 1, .int 1]], .int 1), ([.tuple [.int 2]], .int (-1))]),
  (.tuple [.int 2], [([.tuple [.int 1, .int 1]], .int 1), ([.tuple [.int 2]], .int 1)]),
  (.tuple [.int 1, .int 1, .int 1], [([.tuple [.int 1, .int 1, .int 1]], .int 1), ([.tuple [.int 2, .int 1]], .int (-1)), ([.tuple [.int 3]], .int 1)]),
  (.tuple [.int 2, .int 1], [([.tuple [.int 1, .int 1, .int 1]], .int 2), ([.tuple [.int 2, .int 1]], .int 0), ([.tuple [.int 3]], .int (-1))]),
  (.tuple [.int 3], [([.tuple [.int 1, .int 1, .int 1]], .int 1), ([.tuple [.int 2, .int 1]], .int 1), ([.tuple [.int 3]], .int 1)]),
  (.tuple [.int 1, .int 1, .int 1, .int 1], [([.tuple [.int 1, .int 1, .int 1, .int 1]], .int 1), ([.tuple [.int 2, .int 1, .int 1]], .int (-1)), ([.tuple [.int 2, .int 2]], .int 1), ([.tuple [.int 3, .int 1]], .int 1), ([.tuple [.int 4]], .int (-1))]),
  (.tuple [.int 2, .int 1, .int 1], [([.tuple [.int 1, .int 1, .int 1, .int 1]], .int 3), ([.tuple [.int 2, .int 1, .int 1]], .int (-1)), ([.tuple [.int 2, .int 2]], .int (-1)), ([.tuple [.int 3, .int 1]], .int 0), ([.tuple [.int 4]], .int 1)]),
  (.tuple [.int 2, .int 2], [([.tuple [.int 1, .int 1, .int 1, .int 1]], .int 2), ([.tuple [.int 2, .int 1, .int 1]], .int 0), ([.tuple [.int 2, .int 2]], .int 2), ([.tuple [.int 3, .int 1]], .int (-1)), ([.tuple [.int 4]], .int 0)]),
  (.tuple [.int 3, .int 1], [([.tuple [.int 1, .int 1, .int 1, .int 1]], .int 3), ([.tuple [.int 2, .int 1, .int 1]], .int 1), ([.tuple [.int 2, .int 2]], .int (-1)), ([.tuple [.int 3, .int 1]], .int 0), ([.tuple [.int 4]], .int (-1))]),
  (.tuple [.int 4], [([.tuple [.int 1, .int 1, .int 1, .int 1]], .int 1), ([.tuple [.int 2, .int 1, .int 1]], .int 1), ([.tuple [.int 2, .int 2]], .int 1), ([.tuple [.int 3, .int 1]], .int 1), ([.tuple [.int 4]], .int 1)]),
  (.tuple [.int 1, .int 1, .int 1, .int 1, .int 1], [([.tuple [.int 1, .int 1, .int 1, .int 1, .int 1]], .int 1), ([.tuple [.int 2, .int 1, .int 1, .int 1]], .int (-1)), ([.tuple [.int 2, .int 2, .int 1]], .int 1), ([.tuple [.int 3, .int 1, .int 1]], .int 1), ([.tuple [.int 3, .int 2]], .int (-1)), ([.tuple [.int 4, .int 1]], .int (-1)), ([.tuple [.int 5]], .int 1)]),
  (.tuple [.int 2, .int 1, .int 1, .int 1], [([.tuple [.int 1, .int 1, .int 1, .int 1, .int 1]], .int 4), ([.tuple [.int 2, .int 1, .int 1, .int 1]], .int (-2)), ([.tuple [.int 2, .int 2, .int 1]], .int 0), ([.tuple [.int 3, .int 1, .int 1]], .int 1), ([.tuple [.int 3, .int 2]], .int 1), ([.tuple [.int 4, .int 1]], .int 0), ([.tuple [.int 5]], .int (-1))]),
  (.tuple [.int 2, .int 2, .int 1], [([.tuple [.int 1, .int 1, .int 1, .int 1, .int 1]], .int 5), ([.tuple [.int 2, .int 1, .int 1, .int 1]], .int (-1)), ([.tuple [.int 2, .int 2, .int 1]], .int 1), ([.tuple [.int 3, .int 1, .int 1]], .int (-1)), ([.tuple [.int 3, .int 2]], .int (-1)), ([.tuple [.int 4, .int 1]], .int 1), ([.tuple [.int 5]], .int 0)]),
  (.tuple [.int 3, .int 1, .int 1], [([.tuple [.int 1, .int 1, .int 1, .int 1, .int 1]], .int 6), ([.tuple [.int 2, .int 1, .int 1, .int 1]], .int 0), ([.tuple [.int 2, .int 2, .int 1]], .int (-2)), ([.tuple [.int 3, .int 1, .int 1]], .int 0), ([.tuple [.int 3, .int 2]], .int 0), ([.tuple [.int 4, .int 1]], .int 0), ([.tuple [.int 5]], .int 1)]),
  (.tuple [.int 3, .int 2], [([.tuple [.int 1, .int 1, .int 1, .int 1, .int 1]], .int 5), ([.tuple [.int 2, .int 1, .int 1, .int 1]], .int 1), ([.tuple [.int 2, .int 2, .int 1]], .int 1), ([.tuple [.int 3, .int 1, .int 1]], .int (-1)), ([.tuple [.int 3, .int 2]], .int 1), ([.tuple [.int 4, .int 1]], .int (-1)), ([.tuple [.int 5]], .int 0)]),
  (.tuple [.int 4, .int 1], [([.tuple [.int 1, .int 1, .int 1, .int 1, .int 1]], .int 4), ([.tuple [.int 2, .int 1, .int 1, .int 1]], .int 2), ([.tuple [.int 2, .int 2, .int 1]], .int 0), ([.tuple [.int 3, .int 1, .int 1]], .int 1), ([.tuple [.int 3, .int 2]], .int (-1)), ([.tuple [.int 4, .int 1]], .int 0), ([.tuple [.int 5]], .int (-1))]),
  (.tuple [.int 5], [([.tuple [.int 1, .int 1, .int 1, .int 1, .int 1]], .int 1), ([.tuple [.int 2, .int 1, .int 1, .int 1]], .int 1), ([.tuple [.int 2, .int 2, .int 1]], .int 1), ([.tuple [.int 3, .int 1, .int 1]], .int 1), ([.tuple [.int 3, .int 2]], .int 1), ([.tuple [.int 4, .int 1]], .int 1), ([.tuple [.int 5]], .int 1)]),
  (.tuple [.int 1, .int 1, .int 1, .int 1, .int 1, .int 1], [([.tuple [.int 1, .int 1, .int 1, .int 1, .int 1, .int 1]], .int 1), ([.tuple [.int 2, .int 1, .int 1, .int 1, .int 1]], .int (-1)), ([.tuple [.int 2, .int 2, .int 1, .int 1]], .int 1), ([.tuple [.int 2, .int 2, .int 2]], .int (-1)), ([.tuple [.int 3, .int 1, .int 1, .int 1]], .int 1), ([.tuple [.int 3, .int 2, .int 1]], .int (-1)), ([.tuple [.int 3, .int 3]], .int 1), ([.tuple [.int 4, .int 1, .int 1]], .int (-1)), ([.tuple [.int 4, .int 2]], .int 1), ([.tuple [.int 5, .int 1]], .int 1), ([.tuple [.int 6]], .int (-1))]),
  (.tuple [.int 2, .int 1, .int 1, .int 1, .int 1], [([.tuple [.int 1, .int 1, .int 1, .int 1, .int 1, .int 1]], .int 5), ([.tuple [.int 2, .int 1, .int 1, .int 1, .int 1]], .int (-3)), ([.tuple [.int 2, .int 2, .int 1, .int 1]], .int 1), ([.tuple [.int 2, .int 2, .int 2]], .int 1), ([.tuple [.int 3, .int 1, .int 1, .int 1]], .int 2), ([.tuple [.int 3, .int 2, .int 1]], .int 0), ([.tuple [.int 3, .int 3]], .int (-1)), ([.tuple [.int 4, .int 1, .int 1]], .int (-1)), ([.tuple [.int 4, .int 2]], .int (-1)), ([.tuple [.int 5, .int 1]], .int 0), ([.tuple [.int 6]], .int 1)]),
  (.tuple [.int 2, .int 2, .int 1, .int 1], [([.tuple [.int 1, .int 1, .int 1, .int 1, .int 1, .int 1]], .int 9), ([.tuple [.int 2, .int 1, .int 1, .int 1, .int 1]], .int (-3)), ([.tuple [.int 2, .int 2, .int 1, .int 1]], .int 1), ([.tuple [.int 2, .int 2, .int 2]], .int (-3)), ([.tuple [.int 3, .int 1, .int 1, .int 1]], .int 0), ([.tuple [.int 3, .int 2, .int 1]], .int 0), ([.tuple [.int 3, .int 3]], .int 0), ([.tuple [.int 4, .int 1, .int 1]], .int 1), ([.tuple [.int 4, .int 2]], .int 1), ([.tuple [.int 5, .int 1]], .int (-1)), ([.tuple [.int 6]], .int 0)]),
  (.tuple [.int 2, .int 2, .int 2], [([.tuple [.int 1, .int 1, .int 1, .int 1, .int 1, .int 1]], .int 5), ([.tuple [.int 2, .int 1, .int 1, .int 1, .int 1]], .int (-1)), ([.tuple [.int 2, .int 2, .int 1, .int 1]], .int 1), ([.tuple [.int 2, .int 2, .int 2]], .int 3), ([.tuple [.int 3, .int 1, .int 1, .int 1]], .int (-1)), ([.tuple [.int 3, .int 2, .int 1]], .int (-1)), ([.tuple [.int 3, .int 3]], .int 2), ([.tuple [.int 4, .int 1, .int 1]], .int 1), ([.tuple [.int 4, .int 2]], .int (-1)), ([.tuple [.int 5, .int 1]], .int 0), ([.tuple [.int 6]], .int 0)]),
  (.tuple [.int 3, .int 1, .int 1, .int 1], [([.tuple [.int 1, .int 1, .int 1, .int 1, .int 1, .int 1]], .int 10), ([.tuple [.int 2, .int 1, .int 1, .int 1, .int 1]], .int (-2)), ([.tuple [.int 2, .int 2, .int 1, .int 1]], .int (-2)), ([.tuple [.int 2, .int 2, .int 2]], .int 2), ([.tuple [.int 3, .int 1, .int 1, .int 1]], .int 1), ([.tuple [.int 3, .int 2, .int 1]], .int 1), ([.tuple [.int 3, .int 3]], .int 1), ([.tuple [.int 4, .int 1, .int 1]], .int 0), ([.tuple [.int 4, .int 2]], .int 0), ([.tuple [.int 5, .int 1]], .int 0), ([.tuple [.int 6]], .int (-1))]),
  (.tuple [.int 3, .int 2, .int 1], [([.tuple [.int 1, .int 1, .int 1, .int 1, .int 1, .int 1]], .int 16), ([.tuple [.int 2, .int 1, .int 1, .int 1, .int 1]], .int 0), ([.tuple [.int 2, .int 2, .int 1, .int 1]], .int 0), ([.tuple [.int 2, .int 2, .int 2]], .int 0), ([.tuple [.int 3, .int 1, .int 1, .int 1]], .int (-2)), ([.tuple [.int 3, .int 2, .int 1]], .int 0), ([.tuple [.int 3, .int 3]], .int (-2)), ([.tuple [.int 4, .int 1, .int 1]], .int 0), ([.tuple [.int 4, .int 2]], .int 0), ([.tuple [.int 5, .int 1]], .int 1), ([.tuple [.int 6]], .int 0)]),
  (.tuple [.int 3, .int 3], [([.tuple [.int 1, .int 1, .int 1, .int 1, .int 1, .int 1]], .int 5), ([.tuple [.int 2, .int 1, .int 1, .int 1, .int 1]], .int 1), ([.tuple [.int 2, .int 2, .int 1, .int 1]], .int 1), ([.tuple [.int 2, .int 2, .int 2]], .int (-3)), ([.tuple [.int 3, .int 1, .int 1, .int 1]], .int (-1)), ([.tuple [.int 3, .int 2, .int 1]], .int 1), ([.tuple [.int 3, .int 3]], .int 2), ([.tuple [.int 4, .int 1, .int 1]], .int (-1)), ([.tuple [.int 4, .int 2]], .int (-1)), ([.tuple [.int 5, .int 1]], .int 0), ([.tuple [.int 6]], .int 0)]),
  (.tuple [.int 4, .int 1, .int 1], [([.tuple [.int 1, .int 1, .int 1, .int 1, .int 1, .int 1]], .int 10), ([.tuple [.int 2, .int 1, .int 1, .int 1, .int 1]], .int 2), ([.tuple [.int 2, .int 2, .int 1, .int 1]], .int (-2)), ([.tuple [.int 2, .int 2, .int 2]], .int (-2)), ([.tuple [.int 3, .int 1, .int 1, .int 1]], .int 1), ([.tuple [.int 3, .int 2, .int 1]], .int (-1)), ([.tuple [.int 3, .int 3]], .int 1), ([.tuple [.int 4, .int 1, .int 1]], .int 0), ([.tuple [.int 4, .int 2]], .int 0), ([.tuple [.int 5, .int 1]], .int 0), ([.tuple [.int 6]], .int 1)]),
  (.tuple [.int 4, .int 2], [([.tuple [.int 1, .int 1, .int 1, .int 1, .int 1, .int 1]], .int 9), ([.tuple [.int 2, .int 1, .int 1, .int 1, .int 1]], .int 3), ([.tuple [.int 2, .int 2, .int 1, .int 1]], .int 1), ([.tuple [.int 2, .int 2, .int 2]], .int 3), ([.tuple [.int 3, .int 1, .int 1, .int 1]], .int 0), ([.tuple [.int 3, .int 2, .int 1]], .int 0), ([.tuple [.int 3, .int 3]], .int 0), ([.tuple [.int 4, .int 1, .int 1]], .int (-1)), ([.tuple [.int 4, .int 2]], .int 1), ([.tuple [.int 5, .int 1]], .int (-1)), ([.tuple [.int 6]], .int 0)]),
  (.tuple [.int 5, .int 1], [([.tuple [.int 1, .int 1, .int 1, .int 1, .int 1, .int 1]], .int 5), ([.tuple [.int 2, .int 1, .int 1, .int 1, .int 1]], .int 3), ([.tuple [.int 2, .int 2, .int 1, .int 1]], .int 1), ([.tuple [.int 2, .int 2, .int 2]], .int (-1)), ([.tuple [.int 3, .int 1, .int 1, .int 1]], .int 2), ([.tuple [.int 3, .int 2, .int 1]], .int 0), ([.tuple [.int 3, .int 3]], .int (-1)), ([.tuple [.int 4, .int 1, .int 1]], .int 1), ([.tuple [.int 4, .int 2]], .int (-1)), ([.tuple [.int 5, .int 1]], .int 0), ([.tuple [.int 6]], .int (-1))]),
  (.tuple [.int 6], [([.tuple [.int 1, .int 1, .int 1, .int 1, .int 1, .int 1]], .int 1), ([.tuple [.int 2, .int 1, .int 1, .int 1, .int 1]], .int 1), ([.tuple [.int 2, .int 2, .int 1, .int 1]], .int 1), ([.tuple [.int 2, .int 2, .int 2]], .int 1), ([.tuple [.int 3, .int 1, .int 1, .int 1]], .int 1), ([.tuple [.int 3, .int 2, .int 1]], .int 1), ([.tuple [.int 3, .int 3]], .int 1), ([.tuple [.int 4, .int 1, .int 1]], .int 1), ([.tuple [.int 4, .int 2]], .int 1), ([.tuple [.int 5, .int 1]], .int 1), ([.tuple [.int 6]], .int 1)])]
def tFew : Tb := [
  ([.tuple []], .tuple []),
  ([.list []], .tuple []),
  ([.tuple [.int 1]], .tuple [.int 1]),
  ([.list [.int 1]], .tuple [.int 1]),
  ([.tuple [.int 1, .int 1]], .tuple [.int 1, .int 1]),
  ([.list [.int 1, .int 1]], .tuple [.int 1, .int 1]),
  ([.tuple [.int 2]], .tuple [.int 2]),
  ([.list [.int 2]], .tuple [.int 2]),
  ([.tuple [.int 1, .int 1, .int 1]], .tuple [.int 1, .int 1, .int 1]),
  ([.list [.int 1, .int 1, .int 1]], .tuple [.int 1, .int 1, .int 1]),
  ([.tuple [.int 2, .int 1]], .tuple [.int 2, .int 1]),
  ([.list [.int 2, .int 1]], .tuple [.int 2, .int 1]),
  ([.tuple [.int 3]], .tuple [.int 3]),
  ([.list [.int 3]], .tuple [.int 3]),
  ([.tuple [.int 1, .int 1, .int 1, .int 1]], .tuple [.int 1, .int 1, .int 1, .int 1]),
  ([.list [.int 1, .int 1, .int 1, .int 1]], .tuple [.int 1, .int 1, .int 1, .int 1]),
  ([.tuple [.int 2, .int 1, .int 1]], .tuple [.int 2, .int 1, .int 1]),
  ([.list [.int 2, .int 1, .int 1]], .tuple [.int 2, .int 1, .int 1]),
  ([.tuple [.int 2, .int 2]], .tuple [.int 2, .int 2]),
  ([.list [.int 2, .int 2]], .tuple [.int 2, .int 2]),
  ([.tuple [.int 3, .int 1]], .tuple [.int 3, .int 1]),
  ([.list [.int 3, .int 1]], .tuple [.int 3, .int 1]),
  ([.tuple [.int 4]], .tuple [.int 4]),
  ([.list [.int 4]], .tuple [.int 4]),
  ([.tuple [.int 1, .int 1, .int 1, .int 1, .int 1]], .tuple [.int 1, .int 1, .int 1, .int 1, .int 1]),
  ([.list [.int 1, .int 1, .int 1, .int 1, .int 1]], .tuple [.int 1, .int 1, .int 1, .int 1, .int 1]),
  ([.tuple [.int 2, .int 1, .int 1, .int 1]], .tuple [.int 2, .int 1, .int 1, .int 1]),
  ([.list [.int 2, .int 1, .int 1, .int 1]], .tuple [.int 2, .int 1, .int 1, .int 1]),
  ([.tuple [.int 2, .int 2, .int 1]], .tuple [.int 2, .int 2, .int 1]),
  ([.list [.int 2, .int 2, .int 1]], .tuple [.int 2, .int 2, .int 1]),
  ([.tuple [.int 3, .int 1, .int 1]], .tuple [.int 3, .int 1, .int 1]),
  ([.list [.int 3, .int 1, .int 1]], .tuple [.int 3, .int 1, .int 1]),
  ([.tuple [.int 3, .int 2]], .tuple [.int 3, .int 2]),
  ([.list [.int 3, .int 2]], .tuple [.int 3, .int 2]),
  ([.tuple [.int 4, .int 1]], .tuple [.int 4, .int 1]),
  ([.list [.int 4, .int 1]], .tuple [.int 4, .int 1]),
  ([.tuple [.int 5]], .tuple [.int 5]),
  ([.list [.int 5]], .tuple [.int 5]),
  ([.tuple [.int 1, .int 1, .int 1, .int 1, .int 1, .int 1]], .tuple [.int 1, .int 1, .int 1, .int 1, .int 1, .int 1]),
  ([.list [.int 1, .int 1, .int 1, .int 1, .int 1, .int 1]], .tuple [.int 1, .int 1, .int 1, .int 1, .int 1, .int 1]),
  ([.tuple [.int 2, .int 1, .int 1, .int 1, .int 1]], .tuple [.int 2, .int 1, .int 1, .int 1, .int 1]),
  ([.list [.int 2, .int 1, .int 1, .int 1, .int 1]], .tuple [.int 2, .int 1, .int 1, .int 1, .int 1]),
  ([.tuple [.int 2, .int 2, .int 1, .int 1]], .tuple [.int 2, .int 2, .int 1, .int 1]),
  ([.list [.int 2, .int 2, .int 1, .int 1]], .tuple [.int 2, .int 2, .int 1, .int 1]),
  ([.tuple [.int 2, .int 2, .int 2]], .tuple [.int 2, .int 2, .int 2]),
  ([.list [.int 2, .int 2, .int 2]], .tuple [.int 2, .int 2, .int 2]),
  ([.tuple [.int 3, .int 1, .int 1, .int 1]], .tuple [.int 3, .int 1, .int 1, .int 1]),
  ([.list [.int 3, .int 1, .int 1, .int 1]], .tuple [.int 3, .int 1, .int 1, .int 1]),
  ([.tuple [.int 3, .int 2, .int 1]], .tuple [.int 3, .int 2, .int 1]),
  ([.list [.int 3, .int 2, .int 1]], .tuple [.int 3, .int 2, .int 1]),
  ([.tuple [.int 3, .int 3]], .tuple [.int 3, .int 3]),
  ([.list [.int 3, .int 3]], .tuple [.int 3, .int 3]),
  ([.tuple [.int 4, .int 1, .int 1]], .tuple [.int 4, .int 1, .int 1]),
  ([.list [.int 4, .int 1, .int 1]], .tuple [.int 4, .int 1, .int 1]),
  ([.tuple [.int 4, .int 2]], .tuple [.int 4, .int 2]),
  ([.list [.int 4, .int 2]], .tuple [.int 4, .int 2]),
  ([.tuple [.int 5, .int 1]], .tuple [.int 5, .int 1]),
  ([.list [.int 5, .int 1]], .tuple [.int 5, .int 1]),
  ([.tuple [.int 6]], .tuple [.int 6]),
  ([.list [.int 6]], .tuple [.int 6])]
def tFall : Tb := [
  ([.int 0, .int 0, .int 0], .list [.tuple []]),
  ([.int 1, .int 1, .int 1], .list [.tuple [.int 1]]),
  ([.int 2, .int 2, .int 2], .list [.tuple [.int 1, .int 1], .tuple [.int 2]]),
  ([.int 3, .int 3, .int 3], .list [.tuple [.int 1, .int 1, .int 1], .tuple [.int 2, .int 1], .tuple [.int 3]]),
  ([.int 4, .int 4, .int 4], .list [.tuple [.int 1, .int 1, .int 1, .int 1], .tuple [.int 2, .int 1, .int 1], .tuple [.int 2, .int 2], .tuple [.int 3, .int 1], .tuple [.int 4]]),
  ([.int 5, .int 5, .int 5], .list [.tuple [.int 1, .int 1, .int 1, .int 1, .int 1], .tuple [.int 2, .int 1, .int 1, .int 1], .tuple [.int 2, .int 2, .int 1], .tuple [.int 3, .int 1, .int 1], .tuple [.int 3, .int 2], .tuple [.int 4, .int 1], .tuple [.int 5]]),
  ([.int 6, .int 6, .int 6], .list [.tuple [.int 1, .int 1, .int 1, .int 1, .int 1, .int 1], .tuple [.int 2, .int 1, .int 1, .int 1, .int 1], .tuple [.int 2, .int 2, .int 1, .int 1], .tuple [.int 2, .int 2, .int 2], .tuple [.int 3, .int 1, .int 1, .int 1], .tuple [.int 3, .int 2, .int 1], .tuple [.int 3, .int 3], .tuple [.int 4, .int 1, .int 1], .tuple [.int 4, .int 2], .tuple [.int 5, .int 1], .tuple [.int 6]])]
def tFact : Tb := [
  ([.int 0], .int 1),
  ([.int 1], .int 1),
  ([.int 2], .int 2),
  ([.int 3], .int 6),
  ([.int 4], .int 24),
  ([.int 5], .int 120),
  ([.int 6], .int 720)]
def tStays : Tb := [
  ([.tuple []], .int 1),
  ([.tuple [.int 1]], .int 1),
  ([.tuple [.int 1, .int 1]], .int 2),
  ([.tuple [.int 2]], .int 2),
  ([.tuple [.int 1, .int 1, .int 1]], .int 6),
  ([.tuple [.int 2, .int 1]], .int 2),
  ([.tuple [.int 3]], .int 3),
  ([.tuple [.int 1, .int 1, .int 1, .int 1]], .int 24),
  ([.tuple [.int 2, .int 1, .int 1]], .int 4),
  ([.tuple [.int 2, .int 2]], .int 8),
  ([.tuple [.int 3, .int 1]], .int 3),
  ([.tuple [.int 4]], .int 4),
  ([.tuple [.int 1, .int 1, .int 1, .int 1, .int 1]], .int 120),
  ([.tuple [.int 2, .int 1, .int 1, .int 1]], .int 12),
  ([.tuple [.int 2, .int 2, .int 1]], .int 8),
  ([.tuple [.int 3, .int 1, .int 1]], .int 6),
  ([.tuple [.int 3, .int 2]], .int 6),
  ([.tuple [.int 4, .int 1]], .int 4),
  ([.tuple [.int 5]], .int 5),
  ([.tuple [.int 1, .int 1, .int 1, .int 1, .int 1, .int 1]], .int 720),
  ([.tuple [.int 2, .int 1, .int 1, .int 1, .int 1]], .int 48),
  ([.tuple [.int 2, .int 2, .int 1, .int 1]], .int 16),
  ([.tuple [.int 2, .int 2, .int 2]], .int 48),
  ([.tuple [.int 3, .int 1, .int 1, .int 1]], .int 18),
  ([.tuple [.int 3, .int 2, .int 1]], .int 6),
  ([.tuple [.int 3, .int 3]], .int 18),
  ([.tuple [.int 4, .int 1, .int 1]], .int 8),
  ([.tuple [.int 4, .int 2]], .int 8),
  ([.tuple [.int 5, .int 1]], .int 5),
  ([.tuple [.int 6]], .int 6)]
def tFactL : Tb := [
  ([.int 0], .int 1),
  ([.int 1], .int 1),
  ([.int 2], .int 2),
  ([.int 3], .int 6),
  ([.int 4], .int 24),
  ([.int 5], .int 120),
  ([.int 6], .int 720)]
def tStaysL : Tb := [
  ([.tuple []], .int 1),
  ([.tuple [.int 1]], .int 1),
  ([.tuple [.int 1, .int 1]], .int 2),
  ([.tuple [.int 2]], .int 2),
  ([.tuple [.int 1, .int 1, .int 1]], .int 6),
  ([.tuple [.int 2, .int 1]], .int 2),
  ([.tuple [.int 3]], .int 3),
  ([.tuple [.int 1, .int 1, .int 1, .int 1]], .int 24),
  ([.tuple [.int 2, .int 1, .int 1]], .int 4),
  ([.tuple [.int 2, .int 2]], .int 8),
  ([.tuple [.int 3, .int 1]], .int 3),
  ([.tuple [.int 4]], .int 4),
  ([.tuple [.int 1, .int 1, .int 1, .int 1, .int 1]], .int 120),
  ([.tuple [.int 2, .int 1, .int 1, .int 1]], .int 12),
  ([.tuple [.int 2, .int 2, .int 1]], .int 8),
  ([.tuple [.int 3, .int 1, .int 1]], .int 6),
  ([.tuple [.int 3, .int 2]], .int 6),
  ([.tuple [.int 4, .int 1]], .int 4),
  ([.tuple [.int 5]], .int 5),
  ([.tuple [.int 1, .int 1, .int 1, .int 1, .int 1, .int 1]], .int 720),
  ([.tuple [.int 2, .int 1, .int 1, .int 1, .int 1]], .int 48),
  ([.tuple [.int 2, .int 2, .int 1, .int 1]], .int 16),
  ([.tuple [.int 2, .int 2, .int 2]], .int 48),
  ([.tuple [.int 3, .int 1, .int 1, .int 1]], .int 18),
  ([.tuple [.int 3, .int 2, .int 1]], .int 6),
  ([.tuple [.int 3, .int 3]], .int 18),
  ([.tuple [.int 4, .int 1, .int 1]], .int 8),
  ([.tuple [.int 4, .int 2]], .int 8),
  ([.tuple [.int 5, .int 1]], .int 5),
  ([.tuple [.int 6]], .int 6)]
def tKinds : Tb := [
  ([.int 0], .list [.tuple []]),
  ([.int 1], .list [.tuple [.int 1]]),
  ([.int 2], .list [.tuple [.int 1, .int 1], .tuple [.int 2]]),
  ([.int 3], .list [.tuple [.int 1, .int 1, .int 1], .tuple [.int 2, .int 1], .tuple [.int 3]]),
  ([.int 4], .list [.tuple [.int 1, .int 1, .int 1, .int 1], .tuple [.int 2, .int 1, .int 1], .tuple [.int 2, .int 2], .tuple [.int 3, .int 1], .tuple [.int 4]]),
  ([.int 5], .list [.tuple [.int 1, .int 1, .int 1, .int 1, .int 1], .tuple [.int 2, .int 1, .int 1, .int 1], .tuple [.int 2, .int 2, .int 1], .tuple [.int 3, .int 1, .int 1], .tuple [.int 3, .int 2], .tuple [.int 4, .int 1], .tuple [.int 5]]),
  ([.int 6], .list [.tuple [.int 1, .int 1, .int 1, .int 1, .int 1, .int 1], .tuple [.int 2, .int 1, .int 1, .int 1, .int 1], .tuple [.int 2, .int 2, .int 1, .int 1], .tuple [.int 2, .int 2, .int 2], .tuple [.int 3, .int 1, .int 1, .int 1], .tuple [.int 3, .int 2, .int 1], .tuple [.int 3, .int 3], .tuple [.int 4, .int 1, .int 1], .tuple [.int 4, .int 2], .tuple [.int 5, .int 1], .tuple [.int 6]])]
def tTurned : Tb := [
  ([.tuple []], .tuple []),
  ([.tuple [.int 1]], .tuple [.int 1]),
  ([.tuple [.int 1, .int 1]], .tuple [.int 2]),
  ([.tuple [.int 2]], .tuple [.int 1, .int 1]),
  ([.tuple [.int 1, .int 1, .int 1]], .tuple [.int 3]),
  ([.tuple [.int 2, .int 1]], .tuple [.int 2, .int 1]),
  ([.tuple [.int 3]], .tuple [.int 1, .int 1, .int 1]),
  ([.tuple [.int 1, .int 1, .int 1, .int 1]], .tuple [.int 4]),
  ([.tuple [.int 2, .int 1, .int 1]], .tuple [.int 3, .int 1]),
  ([.tuple [.int 2, .int 2]], .tuple [.int 2, .int 2]),
  ([.tuple [.int 3, .int 1]], .tuple [.int 2, .int 1, .int 1]),
  ([.tuple [.int 4]], .tuple [.int 1, .int 1, .int 1, .int 1]),
  ([.tuple [.int 1, .int 1, .int 1, .int 1, .int 1]], .tuple [.int 5]),
  ([.tuple [.int 2, .int 1, .int 1, .int 1]], .tuple [.int 4, .int 1]),
  ([.tuple [.int 2, .int 2, .int 1]], .tuple [.int 3, .int 2]),
  ([.tuple [.int 3, .int 1, .int 1]], .tuple [.int 3, .int 1, .int 1]),
  ([.tuple [.int 3, .int 2]], .tuple [.int 2, .int 2, .int 1]),
  ([.tuple [.int 4, .int 1]], .tuple [.int 2, .int 1, .int 1, .int 1]),
  ([.tuple [.int 5]], .tuple [.int 1, .int 1, .int 1, .int 1, .int 1]),
  ([.tuple [.int 1, .int 1, .int 1, .int 1, .int 1, .int 1]], .tuple [.int 6]),
  ([.tuple [.int 2, .int 1, .int 1, .int 1, .int 1]], .tuple [.int 5, .int 1]),
  ([.tuple [.int 2, .int 2, .int 1, .int 1]], .tuple [.int 4, .int 2]),
  ([.tuple [.int 2, .int 2, .int 2]], .tuple [.int 3, .int 3]),
  ([.tuple [.int 3, .int 1, .int 1, .int 1]], .tuple [.int 4, .int 1, .int 1]),
  ([.tuple [.int 3, .int 2, .int 1]], .tuple [.int 3, .int 2, .int 1]),
  ([.tuple [.int 3, .int 3]], .tuple [.int 2, .int 2, .int 2]),
  ([.tuple [.int 4, .int 1, .int 1]], .tuple [.int 3, .int 1, .int 1, .int 1]),
  ([.tuple [.int 4, .int 2]], .tuple [.int 2, .int 2, .int 1, .int 1]),
  ([.tuple [.int 5, .int 1]], .tuple [.int 2, .int 1, .int 1, .int 1, .int 1]),
  ([.tuple [.int 6]], .tuple [.int 1, .int 1, .int 1, .int 1, .int 1, .int 1])]
theorem okShapes_0 : okT f__law_shapes ((tShapes.drop 0).take 14) = true := by decide +kernel
theorem okShapes_1 : okT f__law_shapes ((tShapes.drop 14).take 14) = true := by decide +kernel
theorem okShapes_2 : okT f__law_shapes ((tShapes.drop 28).take 14) = true := by decide +kernel
theorem okShapes_3 : okT f__law_shapes ((tShapes.drop 42).take 14) = true := by decide +kernel
theorem okShapes : okT f__law_shapes tShapes = true := okT_split 14 okShapes_0 (okT_split 14 okShapes_1 (by first | (rw [List.drop_drop]; exact okT_split 14 okShapes_2 (by first | (rw [List.drop_drop]; exact okT_split 14 okShapes_3 (by first | (rw [List.drop_drop]; exact (by rfl : okT f__law_shapes (tShapes.drop 56) = true)) | exact (by rfl : okT f__law_shapes (tShapes.drop 56) = true))) | exact okT_split 14 okShapes_3 (by first | (rw [List.drop_drop]; exact (by rfl : okT f__law_shapes (tShapes.drop 56) = true)) | exact (by rfl : okT f__law_shapes (tShapes.drop 56) = true)))) | exact okT_split 14 okShapes_2 (by first | (rw [List.drop_drop]; exact okT_split 14 okShapes_3 (by first | (rw [List.drop_drop]; exact (by rfl : okT f__law_shapes (tShapes.drop 56) = true)) | exact (by rfl : okT f__law_shapes (tShapes.drop 56) = true))) | exact okT_split 14 okShapes_3 (by first | (rw [List.drop_drop]; exact (by rfl : okT f__law_shapes (tShapes.drop 56) = true)) | exact (by rfl : okT f__law_shapes (tShapes.drop 56) = true)))))
end K64
end Sx

namespace Sx
namespace K64
open PySem PySem.Spec L2
def g__law_rims (ds : List D) : RD := if ds.length = 2 then outD (mp__law_rims f__law_is_rim f__law_lies_in f__law_padded (lookT tShapes f__law_shapes) (initS 8 ds)) else .no
theorem g__law_rims_eq : g__law_rims = f__law_rims := by
  funext ds
  unfold g__law_rims
  rw [lookT_eq okShapes]
  rfl
theorem okRimsg_0 : okT2 g__law_rims ((tRims.drop 0).take 3) = true := by decide +kernel
theorem okRimsg_1 : okT2 g__law_rims ((tRims.drop 3).take 3) = true := by decide +kernel
theorem okRimsg_2 : okT2 g__law_rims ((tRims.drop 6).take 3) = true := by decide +kernel
theorem okRimsg_3 : okT2 g__law_rims ((tRims.drop 9).take 3) = true := by decide +kernel
theorem okRimsg_4 : okT2 g__law_rims ((tRims.drop 12).take 3) = true := by decide +kernel
theorem okRimsg_5 : okT2 g__law_rims ((tRims.drop 15).take 3) = true := by decide +kernel
theorem okRimsg_6 : okT2 g__law_rims ((tRims.drop 18).take 3) = true := by decide +kernel
theorem okRimsg_7 : okT2 g__law_rims ((tRims.drop 21).take 3) = true := by decide +kernel
theorem okRimsg_8 : okT2 g__law_rims ((tRims.drop 24).take 3) = true := by decide +kernel
theorem okRimsg_9 : okT2 g__law_rims ((tRims.drop 27).take 3) = true := by decide +kernel
theorem okRims : okT2 f__law_rims tRims = true := by
  rw [← g__law_rims_eq]
  exact okT2_split 3 okRimsg_0 (okT2_split 3 okRimsg_1 (by first | (rw [List.drop_drop]; exact okT2_split 3 okRimsg_2 (by first | (rw [List.drop_drop]; exact okT2_split 3 okRimsg_3 (by first | (rw [List.drop_drop]; exact okT2_split 3 okRimsg_4 (by first | (rw [List.drop_drop]; exact okT2_split 3 okRimsg_5 (by first | (rw [List.drop_drop]; exact okT2_split 3 okRimsg_6 (by first | (rw [List.drop_drop]; exact okT2_split 3 okRimsg_7 (by first | (rw [List.drop_drop]; exact okT2_split 3 okRimsg_8 (by first | (rw [List.drop_drop]; exact okT2_split 3 okRimsg_9 (by first | (rw [List.drop_drop]; exact (by rfl : okT2 g__law_rims (tRims.drop 30) = true)) | exact (by rfl : okT2 g__law_rims (tRims.drop 30) = true))) | exact okT2_split 3 okRimsg_9 (by first | (rw [List.drop_drop]; exact (by rfl : okT2 g__law_rims (tRims.drop 30) = true)) | exact (by rfl : okT2 g__law_rims (tRims.drop 30) = true)))) | exact okT2_split 3 okRimsg_8 (by first | (rw [List.drop_drop]; exact okT2_split 3 okRimsg_9 (by first | (rw [List.drop_drop]; exact (by rfl : okT2 g__law_rims (tRims.drop 30) = true)) | exact (by rfl : okT2 g__law_rims (tRims.drop 30) = true))) | exact okT2_split 3 okRimsg_9 (by first | (rw [List.drop_drop]; exact (by rfl : okT2 g__law_rims (tRims.drop 30) = true)) | exact (by rfl : okT2 g__law_rims (tRims.drop 30) = true))))) | exact okT2_split 3 okRimsg_7 (by first | (rw [List.drop_drop]; exact okT2_split 3 okRimsg_8 (by first | (rw [List.drop_drop]; exact okT2_split 3 okRimsg_9 (by first | (rw [List.drop_drop]; exact (by rfl : okT2 g__law_rims (tRims.drop 30) = true)) | exact (by rfl : okT2 g__law_rims (tRims.drop 30) = true))) | exact okT2_split 3 okRimsg_9 (by first | (rw [List.drop_drop]; exact (by rfl : okT2 g__law_rims (tRims.drop 30) = true)) | exact (by rfl : okT2 g__law_rims (tRims.drop 30) = true)))) | exact okT2_split 3 okRimsg_8 (by first | (rw [List.drop_drop]; exact okT2_split 3 okRimsg_9 (by first | (rw [List.drop_drop]; exact (by rfl : okT2 g__law_rims (tRims.drop 30) = true)) | exact (by rfl : okT2 g__law_rims (tRims.drop 30) = true))) | exact okT2_split 3 okRimsg_9 (by first | (rw [List.drop_drop]; exact (by rfl : okT2 g__law_rims (tRims.drop 30) = true)) | exact (by rfl : okT2 g__law_rims (tRims.drop 30) = true)))))) | exact okT2_split 3 okRimsg_6 (by first | (rw [List.drop_drop]; exact okT2_split 3 okRimsg_7 (by first | (rw [List.drop_drop]; exact okT2_split 3 okRimsg_8 (by first | (rw [List.drop_drop]; exact okT2_split 3 okRimsg_9 (by first | (rw [List.drop_drop]; exact (by rfl : okT2 g__law_rims (tRims.drop 30) = true)) | exact (by rfl : okT2 g__law_rims (tRims.drop 30) = true))) | exact okT2_split 3 okRimsg_9 (by first | (rw [List.drop_drop]; exact (by rfl : okT2 g__law_rims (tRims.drop 30) = true)) | exact (by rfl : okT2 g__law_rims (tRims.drop 30) = true)))) | exact okT2_split 3 okRimsg_8 (by first | (rw [List.drop_drop]; exact okT2_split 3 okRimsg_9 (by first | (rw [List.drop_drop]; exact (by rfl : okT2 g__law_rims (tRims.drop 30) = true)) | exact (by rfl : okT2 g__law_rims (tRims.drop 30) = true))) | exact okT2_split 3 okRimsg_9 (by first | (rw [List.drop_drop]; exact (by rfl : okT2 g__law_rims (tRims.drop 30) = true)) | exact (by rfl : okT2 g__law_rims (tRims.drop 30) = true))))) | exact okT2_split 3 okRimsg_7 (by first | (rw [List.drop_drop]; exact okT2_split 3 okRimsg_8 (by first | (rw [List.drop_drop]; exact okT2_split 3 okRimsg_9 (by first | (rw [List.drop_drop]; exact (by rfl : okT2 g__law_rims (tRims.drop 30) = true)) | exact (by rfl : okT2 g__law_rims (tRims.drop 30) = true))) | exact okT2_split 3 okRimsg_9 (by first | (rw [List.drop_drop]; exact (by rfl : okT2 g__law_rims (tRims.drop 30) = true)) | exact (by rfl : okT2 g__law_rims (tRims.drop 30) = true)))) | exact okT2_split 3 okRimsg_8 (by first | (rw [List.drop_drop]; exact okT2_split 3 okRimsg_9 (by first | (rw [List.drop_drop]; exact (by rfl : okT2 g__law_rims (tRims.drop 30) = true)) | exact (by rfl : okT2 g__law_rims (tRims.drop 30) = true))) | exact okT2_split 3 okRimsg_9 (by first | (rw [List.drop_drop]; exact (by rfl : okT2 g__law_rims (tRims.drop 30) = true)) | exact (by rfl : okT2 g__law_rims (tRims.drop 30) = true))))))) | exact okT2_split 3 okRimsg_5 (by first | (rw [List.drop_drop]; exact okT2_split 3 okRimsg_6 (by first | (rw [List.drop_drop]; exact okT2_split 3 okRimsg_7 (by first | (rw [List.drop_drop]; exact okT2_split 3 okRimsg_8 (by first | (rw [List.drop_drop]; exact okT2_split 3 okRimsg_9 (by first | (rw [List.drop_drop]; exact (by rfl : okT2 g__law_rims (tRims.drop 30) = true)) | exact (by rfl : okT2 g__law_rims (tRims.drop 30) = true))) | exact okT2_split 3 okRimsg_9 (by first | (rw [List.drop_drop]; exact (by rfl : okT2 g__law_rims (tRims.drop 30) = true)) | exact (by rfl : okT2 g__law_rims (tRims.drop 30) = true)))) | exact okT2_split 3 okRimsg_8 (by first | (rw [List.drop_drop]; exact okT2_split 3 okRimsg_9 (by first | (rw [List.drop_drop]; exact (by rfl : okT2 g__law_rims (tRims.drop 30) = true)) | exact (by rfl : okT2 g__law_rims (tRims.drop 30) = true))) | exact okT2_split 3 okRimsg_9 (by first | (rw [List.drop_drop]; exact (by rfl : okT2 g__law_rims (tRims.drop 30) = true)) | exact (by rfl : okT2 g__law_rims (tRims.drop 30) = true))))) | exact okT2_split 3 okRimsg_7 (by first | (rw [List.drop_drop]; exact okT2_split 3 okRimsg_8 (by first | (rw [List.drop_drop]; exact okT2_split 3 okRimsg_9 (by first | (rw [List.drop_drop]; exact (by rfl : okT2 g__law_rims (tRims.drop 30) = true)) | exact (by rfl : okT2 g__law_rims (tRims.drop 30) = true))) | exact okT2_split 3 okRimsg_9 (by first | (rw [List.drop_drop]; exact (by rfl : okT2 g__law_rims (tRims.drop 30) = true)) | exact (by rfl : okT2 g__law_rims (tRims.drop 30) = true)))) | exact okT2_split 3 okRimsg_8 (by first | (rw [List.drop_drop]; exact okT2_split 3 okRimsg_9 (by first | (rw [List.drop_drop]; exact (by rfl : okT2 g__law_rims (tRims.drop 30) = true)) | exact (by rfl : okT2 g__law_rims (tRims.drop 30) = true))) | exact okT2_split 3 okRimsg_9 (by first | (rw [List.drop_drop]; exact (by rfl : okT2 g__law_rims (tRims.drop 30) = true)) | exact (by rfl : okT2 g__law_rims (tRims.drop 30) = true)))))) | exact okT2_split 3 okRimsg_6 (by first | (rw [List.drop_drop]; exact okT2_split 3 okRimsg_7 (by first | (rw [List.drop_drop]; exact okT2_split 3 okRimsg_8 (by first | (rw [List.drop_drop]; exact okT2_split 3 okRimsg_9 (by first | (rw [List.drop_drop]; exact (by rfl : okT2 g__law_rims (tRims.drop 30) = true)) | exact (by rfl : okT2 g__law_rims (tRims.drop 30) = true))) | exact okT2_split 3 okRimsg_9 (by first | (rw [List.drop_drop]; exact (by rfl : okT2 g__law_rims (tRims.drop 30) = true)) | exact (by rfl : okT2 g__law_rims (tRims.drop 30) = true)))) | exact okT2_split 3 okRimsg_8 (by first | (rw [List.drop_drop]; exact okT2_split 3 okRimsg_9 (by first | (rw [List.drop_drop]; exact (by rfl : okT2 g__law_rims (tRims.drop 30) = true)) | exact (by rfl : okT2 g__law_rims (tRims.drop 30) = true))) | exact okT2_split 3 okRimsg_9 (by first | (rw [List.drop_drop]; exact (by rfl : okT2 g__law_rims (tRims.drop 30) = true)) | exact (by rfl : okT2 g__law_rims (tRims.drop 30) = true))))) | exact okT2_split 3 okRimsg_7 (by first | (rw [List.drop_drop]; exact okT2_split 3 okRimsg_8 (by first | (rw [List.drop_drop]; exact okT2_split 3 okRimsg_9 (by first | (rw [List.drop_drop]; exact (by rfl : okT2 g__law_rims (tRims.drop 30) = true)) | exact (by rfl : okT2 g__law_rims (tRims.drop 30) = true))) | exact okT2_split 3 okRimsg_9 (by first | (rw [List.drop_drop]; exact (by rfl : okT2 g__law_rims (tRims.drop 30) = true)) | exact (by rfl : okT2 g__law_rims (tRims.drop 30) = true)))) | exact okT2_split 3 okRimsg_8 (by first | (rw [List.drop_drop]; exact okT2_split 3 okRimsg_9 (by first | (rw [List.drop_drop]; exact (by rfl : okT2 g__law_rims (tRims.drop 30) = true)) | exact (by rfl : okT2 g__law_rims (tRims.drop 30) = true))) | exact okT2_split 3 okRimsg_9 (by first | (rw [List.drop_drop]; exact (by rfl : okT2 g__law_rims (tRims.drop 30) = true)) | exact (by rfl : okT2 g__law_rims (tRims.drop 30) = true)))))))) | exact okT2_split 3 okRimsg_4 (by first | (rw [List.drop_drop]; exact okT2_split 3 okRimsg_5 (by first | (rw [List.drop_drop]; exact okT2_split 3 okRimsg_6 (by first | (rw [List.drop_drop]; exact okT2_split 3 okRimsg_7 (by first | (rw [List.drop_drop]; exact okT2_split 3 okRimsg_8 (by first | (rw [List.drop_drop]; exact okT2_split 3 okRimsg_9 (by first | (rw [List.drop_drop]; exact (by rfl : okT2 g__law_rims (tRims.drop 30) = true)) | exact (by rfl : okT2 g__law_rims (tRims.drop 30) = true))) | exact okT2_split 3 okRimsg_9 (by first | (rw [List.drop_drop]; exact (by rfl : okT2 g__law_rims (tRims.drop 30) = true)) | exact (by rfl : okT2 g__law_rims (tRims.drop 30) = true)))) | exact okT2_split 3 okRimsg_8 (by first | (rw [List.drop_drop]; exact okT2_split 3 okRimsg_9 (by first | (rw [List.drop_drop]; exact (by rfl : okT2 g__law_rims (tRims.drop 30) = true)) | exact (by rfl : okT2 g__law_rims (tRims.drop 30) = true))) | exact okT2_split 3 okRimsg_9 (by first | (rw [List.drop_drop]; exact (by rfl : okT2 g__law_rims (tRims.drop 30) = true)) | exact (by rfl : okT2 g__law_rims (tRims.drop 30) = true))))) | exact okT2_split 3 okRimsg_7 (by first | (rw [List.drop_drop]; exact okT2_split 3 okRimsg_8 (by first | (rw [List.drop_drop]; exact okT2_split 3 okRimsg_9 (by first | (rw [List.drop_drop]; exact (by rfl : okT2 g__law_rims (tRims.drop 30) = true)) | exact (by rfl : okT2 g__law_rims (tRims.drop 30) = true))) | exact okT2_split 3 okRimsg_9 (by first | (rw [List.drop_drop]; exact (by rfl : okT2 g__law_rims (tRims.drop 30) = true)) | exact (by rfl : okT2 g__law_rims (tRims.drop 30) = true)))) | exact okT2_split 3 okRimsg_8 (by first | (rw [List.drop_drop]; exact okT2_split 3 okRimsg_9 (by first | (rw [List.drop_drop]; exact (by rfl : okT2 g__law_rims (tRims.drop 30) = true)) | exact (by rfl : okT2 g__law_rims (tRims.drop 30) = true))) | exact okT2_split 3 okRimsg_9 (by first | (rw [List.drop_drop]; exact (by rfl : okT2 g__law_rims (tRims.drop 30) = true)) | exact (by rfl : okT2 g__law_rims (tRims.drop 30) = true)))))) | exact okT2_split 3 okRimsg_6 (by first | (rw [List.drop_drop]; exact okT2_split 3 okRimsg_7 (by first | (rw [List.drop_drop]; exact okT2_split 3 okRimsg_8 (by first | (rw [List.drop_drop]; exact okT2_split 3 okRimsg_9 (by first | (rw [List.drop_drop]; exact (by rfl : okT2 g__law_rims (tRims.drop 30) = true)) | exact (by rfl : okT2 g__law_rims (tRims.drop 30) = true))) | exact okT2_split 3 okRimsg_9 (by first | (rw [List.drop_drop]; exact (by rfl : okT2 g__law_rims (tRims.drop 30) = true)) | exact (by rfl : okT2 g__law_rims (tRims.drop 30) = true)))) | exact okT2_split 3 okRimsg_8 (by first | (rw [List.drop_drop]; exact okT2_split 3 okRimsg_9 (by first | (rw [List.drop_drop]; exact (by rfl : okT2 g__law_rims (tRims.drop 30) = true)) | exact (by rfl : okT2 g__law_rims (tRims.drop 30) = true))) | exact okT2_split 3 okRimsg_9 (by first | (rw [List.drop_drop]; exact (by rfl : okT2 g__law_rims (tRims.drop 30) = true)) | exact (by rfl : okT2 g__law_rims (tRims.drop 30) = true))))) | exact okT2_split 3 okRimsg_7 (by first | (rw [List.drop_drop]; exact okT2_split 3 okRimsg_8 (by first | (rw [List.drop_drop]; exact okT2_split 3 okRimsg_9 (by first | (rw [List.drop_drop]; exact (by rfl : okT2 g__law_rims (tRims.drop 30) = true)) | exact (by rfl : okT2 g__law_rims (tRims.drop 30) = true))) | exact okT2_split 3 okRimsg_9 (by first | (rw [List.drop_drop]; exact (by rfl : okT2 g__law_rims (tRims.drop 30) = true)) | exact (by rfl : okT2 g__law_rims (tRims.drop 30) = true)))) | exact okT2_split 3 okRimsg_8 (by first | (rw [List.drop_drop]; exact okT2_split 3 okRimsg_9 (by first | (rw [List.drop_drop]; exact (by rfl : okT2 g__law_rims (tRims.drop 30) = true)) | exact (by rfl : okT2 g__law_rims (tRims.drop 30) = true))) | exact okT2_split 3 okRimsg_9 (by first | (rw [List.drop_drop]; exact (by rfl : okT2 g__law_rims (tRims.drop 30) = true)) | exact (by rfl : okT2 g__law_rims (tRims.drop 30) = true))))))) | exact okT2_split 3 okRimsg_5 (by first | (rw [List.drop_drop]; exact okT2_split 3 okRimsg_6 (by first | (rw [List.drop_drop]; exact okT2_split 3 okRimsg_7 (by first | (rw [List.drop_drop]; exact okT2_split 3 okRimsg_8 (by first | (rw [List.drop_drop]; exact okT2_split 3 okRimsg_9 (by first | (rw [List.drop_drop]; exact (by rfl : okT2 g__law_rims (tRims.drop 30) = true)) | exact (by rfl : okT2 g__law_rims (tRims.drop 30) = true))) | exact okT2_split 3 okRimsg_9 (by first | (rw [List.drop_drop]; exact (by rfl : okT2 g__law_rims (tRims.drop 30) = true)) | exact (by rfl : okT2 g__law_rims (tRims.drop 30) = true)))) | exact okT2_split 3 okRimsg_8 (by first | (rw [List.drop_drop]; exact okT2_split 3 okRimsg_9 (by first | (rw [List.drop_drop]; exact (by rfl : okT2 g__law_rims (tRims.drop 30) = true)) | exact (by rfl : okT2 g__law_rims (tRims.drop 30) = true))) | exact okT2_split 3 okRimsg_9 (by first | (rw [List.drop_drop]; exact (by rfl : okT2 g__law_rims (tRims.drop 30) = true)) | exact (by rfl : okT2 g__law_rims (tRims.drop 30) = true))))) | exact okT2_split 3 okRimsg_7 (by first | (rw [List.drop_drop]; exact okT2_split 3 okRimsg_8 (by first | (rw [List.drop_drop]; exact okT2_split 3 okRimsg_9 (by first | (rw [List.drop_drop]; exact (by rfl : okT2 g__law_rims (tRims.drop 30) = true)) | exact (by rfl : okT2 g__law_rims (tRims.drop 30) = true))) | exact okT2_split 3 okRimsg_9 (by first | (rw [List.drop_drop]; exact (by rfl : okT2 g__law_rims (tRims.drop 30) = true)) | exact (by rfl : okT2 g__law_rims (tRims.drop 30) = true)))) | exact okT2_split 3 okRimsg_8 (by first | (rw [List.drop_drop]; exact okT2_split 3 okRimsg_9 (by first | (rw [List.drop_drop]; exact (by rfl : okT2 g__law_rims (tRims.drop 30) = true)) | exact (by rfl : okT2 g__law_rims (tRims.drop 30) = true))) | exact okT2_split 3 okRimsg_9 (by first | (rw [List.drop_drop]; exact (by rfl : okT2 g__law_rims (tRims.drop 30) = true)) | exact (by rfl : okT2 g__law_rims (tRims.drop 30) = true)))))) | exact okT2_split 3 okRimsg_6 (by first | (rw [List.drop_drop]; exact okT2_split 3 okRimsg_7 (by first | (rw [List.drop_drop]; exact okT2_split 3 okRimsg_8 (by first | (rw [List.drop_drop]; exact okT2_split 3 okRimsg_9 (by first | (rw [List.drop_drop]; exact (by rfl : okT2 g__law_rims (tRims.drop 30) = true)) | exact (by rfl : okT2 g__law_rims (tRims.drop 30) = true))) | exact okT2_split 3 okRimsg_9 (by first | (rw [List.drop_drop]; exact (by rfl : okT2 g__law_rims (tRims.drop 30) = true)) | exact (by rfl : okT2 g__law_rims (tRims.drop 30) = true)))) | exact okT2_split 3 okRimsg_8 (by first | (rw [List.drop_drop]; exact okT2_split 3 okRimsg_9 (by first | (rw [List.drop_drop]; exact (by rfl : okT2 g__law_rims (tRims.drop 30) = true)) | exact (by rfl : okT2 g__law_rims (tRims.drop 30) = true))) | exact okT2_split 3 okRimsg_9 (by first | (rw [List.drop_drop]; exact (by rfl : okT2 g__law_rims (tRims.drop 30) = true)) | exact (by rfl : okT2 g__law_rims (tRims.drop 30) = true))))) | exact okT2_split 3 okRimsg_7 (by first | (rw [List.drop_drop]; exact okT2_split 3 okRimsg_8 (by first | (rw [List.drop_drop]; exact okT2_split 3 okRimsg_9 (by first | (rw [List.drop_drop]; exact (by rfl : okT2 g__law_rims (tRims.drop 30) = true)) | exact (by rfl : okT2 g__law_rims (tRims.drop 30) = true))) | exact okT2_split 3 okRimsg_9 (by first | (rw [List.drop_drop]; exact (by rfl : okT2 g__law_rims (tRims.drop 30) = true)) | exact (by rfl : okT2 g__law_rims (tRims.drop 30) = true)))) | exact okT2_split 3 okRimsg_8 (by first | (rw [List.drop_drop]; exact okT2_split 3 okRimsg_9 (by first | (rw [List.drop_drop]; exact (by rfl : okT2 g__law_rims (tRims.drop 30) = true)) | exact (by rfl : okT2 g__law_rims (tRims.drop 30) = true))) | exact okT2_split 3 okRimsg_9 (by first | (rw [List.drop_drop]; exact (by rfl : okT2 g__law_rims (tRims.drop 30) = true)) | exact (by rfl : okT2 g__law_rims (tRims.drop 30) = true))))))))) | exact okT2_split 3 okRimsg_3 (by first | (rw [List.drop_drop]; exact okT2_split 3 okRimsg_4 (by first | (rw [List.drop_drop]; exact okT2_split 3 okRimsg_5 (by first | (rw [List.drop_drop]; exact okT2_split 3 okRimsg_6 (by first | (rw [List.drop_drop]; exact okT2_split 3 okRimsg_7 (by first | (rw [List.drop_drop]; exact okT2_split 3 okRimsg_8 (by first | (rw [List.drop_drop]; exact okT2_split 3 okRimsg_9 (by first | (rw [List.drop_drop]; exact (by rfl : okT2 g__law_rims (tRims.drop 30) = true)) | exact (by rfl : okT2 g__law_rims (tRims.drop 30) = true))) | exact okT2_split 3 okRimsg_9 (by first | (rw [List.drop_drop]; exact (by rfl : okT2 g__law_rims (tRims.drop 30) = true)) | exact (by rfl : okT2 g__law_rims (tRims.drop 30) = true)))) | exact okT2_split 3 okRimsg_8 (by first | (rw [List.drop_drop]; exact okT2_split 3 okRimsg_9 (by first | (rw [List.drop_drop]; exact (by rfl : okT2 g__law_rims (tRims.drop 30) = true)) | exact (by rfl : okT2 g__law_rims (tRims.drop 30) = true))) | exact okT2_split 3 okRimsg_9 (by first | (rw [List.drop_drop]; exact (by rfl : okT2 g__law_rims (tRims.drop 30) = true)) | exact (by rfl : okT2 g__law_rims (tRims.drop 30) = true))))) | exact okT2_split 3 okRimsg_7 (by first | (rw [List.drop_drop]; exact okT2_split 3 okRimsg_8 (by first | (rw [List.drop_drop]; exact okT2_split 3 okRimsg_9 (by first | (rw [List.drop_drop]; exact (by rfl : okT2 g__law_rims (tRims.drop 30) = true)) | exact (by rfl : okT2 g__law_rims (tRims.drop 30) = true))) | exact okT2_split 3 okRimsg_9 (by first | (rw [List.drop_drop]; exact (by rfl : okT2 g__law_rims (tRims.drop 30) = true)) | exact (by rfl : okT2 g__law_rims (tRims.drop 30) = true)))) | exact okT2_split 3 okRimsg_8 (by first | (rw [List.drop_drop]; exact okT2_split 3 okRimsg_9 (by first | (rw [List.drop_drop]; exact (by rfl : okT2 g__law_rims (tRims.drop 30) = true)) | exact (by rfl : okT2 g__law_rims (tRims.drop 30) = true))) | exact okT2_split 3 okRimsg_9 (by first | (rw [List.drop_drop]; exact (by rfl : okT2 g__law_rims (tRims.drop 30) = true)) | exact (by rfl : okT2 g__law_rims (tRims.drop 30) = true)))))) | exact okT2_split 3 okRimsg_6 (by first | (rw [List.drop_drop]; exact okT2_split 3 okRimsg_7 (by first | (rw [List.drop_drop]; exact okT2_split 3 okRimsg_8 (by first | (rw [List.drop_drop]; exact okT2_split 3 okRimsg_9 (by first | (rw [List.drop_drop]; exact (by rfl : okT2 g__law_rims (tRims.drop 30) = true)) | exact (by rfl : okT2 g__law_rims (tRims.drop 30) = true))) | exact okT2_split 3 okRimsg_9 (by first | (rw [List.drop_drop]; exact (by rfl : okT2 g__law_rims (tRims.drop 30) = true)) | exact (by rfl : okT2 g__law_rims (tRims.drop 30) = true)))) | exact okT2_split 3 okRimsg_8 (by first | (rw [List.drop_drop]; exact okT2_split 3 okRimsg_9 (by first | (rw [List.drop_drop]; exact (by rfl : okT2 g__law_rims (tRims.drop 30) = true)) | exact (by rfl : okT2 g__law_rims (tRims.drop 30) = true))) | exact okT2_split 3 okRimsg_9 (by first | (rw [List.drop_drop]; exact (by rfl : okT2 g__law_rims (tRims.drop 30) = true)) | exact (by rfl : okT2 g__law_rims (tRims.drop 30) = true))))) | exact okT2_split 3 okRimsg_7 (by first | (rw [List.drop_drop]; exact okT2_split 3 okRimsg_8 (by first | (rw [List.drop_drop]; exact okT2_split 3 okRimsg_9 (by first | (rw [List.drop_drop]; exact (by rfl : okT2 g__law_rims (tRims.drop 30) = true)) | exact (by rfl : okT2 g__law_rims (tRims.drop 30) = true))) | exact okT2_split 3 okRimsg_9 (by first | (rw [List.drop_drop]; exact (by rfl : okT2 g__law_rims (tRims.drop 30) = true)) | exact (by rfl : okT2 g__law_rims (tRims.drop 30) = true)))) | exact okT2_split 3 okRimsg_8 (by first | (rw [List.drop_drop]; exact okT2_split 3 okRimsg_9 (by first | (rw [List.drop_drop]; exact (by rfl : okT2 g__law_rims (tRims.drop 30) = true)) | exact (by rfl : okT2 g__law_rims (tRims.drop 30) = true))) | exact okT2_split 3 okRimsg_9 (by first | (rw [List.drop_drop]; exact (by rfl : okT2 g__law_rims (tRims.drop 30) = true)) | exact (by rfl : okT2 g__law_rims (tRims.drop 30) = true))))))) | exact okT2_split 3 okRimsg_5 (by first | (rw [List.drop_drop]; exact okT2_split 3 okRimsg_6 (by first | (rw [List.drop_drop]; exact okT2_split 3 okRimsg_7 (by first | (rw [List.drop_drop]; exact okT2_split 3 okRimsg_8 (by first | (rw [List.drop_drop]; exact okT2_split 3 okRimsg_9 (by first | (rw [List.drop_drop]; exact (by rfl : okT2 g__law_rims (tRims.drop 30) = true)) | exact (by rfl : okT2 g__law_rims (tRims.drop 30) = true))) | exact okT2_split 3 okRimsg_9 (by first | (rw [List.drop_drop]; exact (by rfl : okT2 g__law_rims (tRims.drop 30) = true)) | exact (by rfl : okT2 g__law_rims (tRims.drop 30) = true)))) | exact okT2_split 3 okRimsg_8 (by first | (rw [List.drop_drop]; exact okT2_split 3 okRimsg_9 (by first | (rw [List.drop_drop]; exact (by rfl : okT2 g__law_rims (tRims.drop 30) = true)) | exact (by rfl : okT2 g__law_rims (tRims.drop 30) = true))) | exact okT2_split 3 okRimsg_9 (by first | (rw [List.drop_drop]; exact (by rfl : okT2 g__law_rims (tRims.drop 30) = true)) | exact (by rfl : okT2 g__law_rims (tRims.drop 30) = true))))) | exact okT2_split 3 okRimsg_7 (by first | (rw [List.drop_drop]; exact okT2_split 3 okRimsg_8 (by first | (rw [List.drop_drop]; exact okT2_split 3 okRimsg_9 (by first | (rw [List.drop_drop]; exact (by rfl : okT2 g__law_rims (tRims.drop 30) = true)) | exact (by rfl : okT2 g__law_rims (tRims.drop 30) = true))) | exact okT2_split 3 okRimsg_9 (by first | (rw [List.drop_drop]; exact (by rfl : okT2 g__law_rims (tRims.drop 30) = true)) | exact (by rfl : okT2 g__law_rims (tRims.drop 30) = true)))) | exact okT2_split 3 okRimsg_8 (by first | (rw [List.drop_drop]; exact okT2_split 3 okRimsg_9 (by first | (rw [List.drop_drop]; exact (by rfl : okT2 g__law_rims (tRims.drop 30) = true)) | exact (by rfl : okT2 g__law_rims (tRims.drop 30) = true))) | exact okT2_split 3 okRimsg_9 (by first | (rw [List.drop_drop]; exact (by rfl : okT2 g__law_rims (tRims.drop 30) = true)) | exact (by rfl : okT2 g__law_rims (tRims.drop 30) = true)))))) | exact okT2_split 3 okRimsg_6 (by first | (rw [List.drop_drop]; exact okT2_split 3 okRimsg_7 (by first | (rw [List.drop_drop]; exact okT2_split 3 okRimsg_8 (by first | (rw [List.drop_drop]; exact okT2_split 3 okRimsg_9 (by first | (rw [List.drop_drop]; exact (by rfl : okT2 g__law_rims (tRims.drop 30) = true)) | exact (by rfl : okT2 g__law_rims (tRims.drop 30) = true))) | exact okT2_split 3 okRimsg_9 (by first | (rw [List.drop_drop]; exact (by rfl : okT2 g__law_rims (tRims.drop 30) = true)) | exact (by rfl : okT2 g__law_rims (tRims.drop 30) = true)))) | exact okT2_split 3 okRimsg_8 (by first | (rw [List.drop_drop]; exact okT2_split 3 okRimsg_9 (by first | (rw [List.drop_drop]; exact (by rfl : okT2 g__law_rims (tRims.drop 30) = true)) | exact (by rfl : okT2 g__law_rims (tRims.drop 30) = true))) | exact okT2_split 3 okRimsg_9 (by first | (rw [List.drop_drop]; exact (by rfl : okT2 g__law_rims (tRims.drop 30) = true)) | exact (by rfl : okT2 g__law_rims (tRims.drop 30) = true))))) | exact okT2_split 3 okRimsg_7 (by first | (rw [List.drop_drop]; exact okT2_split 3 okRimsg_8 (by first | (rw [List.drop_drop]; exact okT2_split 3 okRimsg_9 (by first | (rw [List.drop_drop]; exact (by rfl : okT2 g__law_rims (tRims.drop 30) = true)) | exact (by rfl : okT2 g__law_rims (tRims.drop 30) = true))) | exact okT2_split 3 okRimsg_9 (by first | (rw [List.drop_drop]; exact (by rfl : okT2 g__law_rims (tRims.drop 30) = true)) | exact (by rfl : okT2 g__law_rims (tRims.drop 30) = true)))) | exact okT2_split 3 okRimsg_8 (by first | (rw [List.drop_drop]; exact okT2_split 3 okRimsg_9 (by first | (rw [List.drop_drop]; exact (by rfl : okT2 g__law_rims (tRims.drop 30) = true)) | exact (by rfl : okT2 g__law_rims (tRims.drop 30) = true))) | exact okT2_split 3 okRimsg_9 (by first | (rw [List.drop_drop]; exact (by rfl : okT2 g__law_rims (tRims.drop 30) = true)) | exact (by rfl : okT2 g__law_rims (tRims.drop 30) = true)))))))) | exact okT2_split 3 okRimsg_4 (by first | (rw [List.drop_drop]; exact okT2_split 3 okRimsg_5 (by first | (rw [List.drop_drop]; exact okT2_split 3 okRimsg_6 (by first | (rw [List.drop_drop]; exact okT2_split 3 okRimsg_7 (by first | (rw [List.drop_drop]; exact okT2_split 3 okRimsg_8 (by first | (rw [List.drop_drop]; exact okT2_split 3 okRimsg_9 (by first | (rw [List.drop_drop]; exact (by rfl : okT2 g__law_rims (tRims.drop 30) = true)) | exact (by rfl : okT2 g__law_rims (tRims.drop 30) = true))) | exact okT2_split 3 okRimsg_9 (by first | (rw [List.drop_drop]; exact (by rfl : okT2 g__law_rims (tRims.drop 30) = true)) | exact (by rfl : okT2 g__law_rims (tRims.drop 30) = true)))) | exact okT2_split 3 okRimsg_8 (by first | (rw [List.drop_drop]; exact okT2_split 3 okRimsg_9 (by first | (rw [List.drop_drop]; exact (by rfl : okT2 g__law_rims (tRims.drop 30) = true)) | exact (by rfl : okT2 g__law_rims (tRims.drop 30) = true))) | exact okT2_split 3 okRimsg_9 (by first | (rw [List.drop_drop]; exact (by rfl : okT2 g__law_rims (tRims.drop 30) = true)) | exact (by rfl : okT2 g__law_rims (tRims.drop 30) = true))))) | exact okT2_split 3 okRimsg_7 (by first | (rw [List.drop_drop]; exact okT2_split 3 okRimsg_8 (by first | (rw [List.drop_drop]; exact okT2_split 3 okRimsg_9 (by first | (rw [List.drop_drop]; exact (by rfl : okT2 g__law_rims (tRims.drop 30) = true)) | exact (by rfl : okT2 g__law_rims (tRims.drop 30) = true))) | exact okT2_split 3 okRimsg_9 (by first | (rw [List.drop_drop]; exact (by rfl : okT2 g__law_rims (tRims.drop 30) = true)) | exact (by rfl : okT2 g__law_rims (tRims.drop 30) = true)))) | exact okT2_split 3 okRimsg_8 (by first | (rw [List.drop_drop]; exact okT2_split 3 okRimsg_9 (by first | (rw [List.drop_drop]; exact (by rfl : okT2 g__law_rims (tRims.drop 30) = true)) | exact (by rfl : okT2 g__law_rims (tRims.drop 30) = true))) | exact okT2_split 3 okRimsg_9 (by first | (rw [List.drop_drop]; exact (by rfl : okT2 g__law_rims (tRims.drop 30) = true)) | exact (by rfl : okT2 g__law_rims (tRims.drop 30) = true)))))) | exact okT2_split 3 okRimsg_6 (by first | (rw [List.drop_drop]; exact okT2_split 3 okRimsg_7 (by first | (rw [List.drop_drop]; exact okT2_split 3 okRimsg_8 (by first | (rw [List.drop_drop]; exact okT2_split 3 okRimsg_9 (by first | (rw [List.drop_drop]; exact (by rfl : okT2 g__law_rims (tRims.drop 30) = true)) | exact (by rfl : okT2 g__law_rims (tRims.drop 30) = true))) | exact okT2_split 3 okRimsg_9 (by first | (rw [List.drop_drop]; exact (by rfl : okT2 g__law_rims (tRims.drop 30) = true)) | exact (by rfl : okT2 g__law_rims (tRims.drop 30) = true)))) | exact okT2_split 3 okRimsg_8 (by first | (rw [List.drop_drop]; exact okT2_split 3 okRimsg_9 (by first | (rw [List.drop_drop]; exact (by rfl : okT2 g__law_rims (tRims.drop 30) = true)) | exact (by rfl : okT2 g__law_rims (tRims.drop 30) = true))) | exact okT2_split 3 okRimsg_9 (by first | (rw [List.drop_drop]; exact (by rfl : okT2 g__law_rims (tRims.drop 30) = true)) | exact (by rfl : okT2 g__law_rims (tRims.drop 30) = true))))) | exact okT2_split 3 okRimsg_7 (by first | (rw [List.drop_drop]; exact okT2_split 3 okRimsg_8 (by first | (rw [List.drop_drop]; exact okT2_split 3 okRimsg_9 (by first | (rw [List.drop_drop]; exact (by rfl : okT2 g__law_rims (tRims.drop 30) = true)) | exact (by rfl : okT2 g__law_rims (tRims.drop 30) = true))) | exact okT2_split 3 okRimsg_9 (by first | (rw [List.drop_drop]; exact (by rfl : okT2 g__law_rims (tRims.drop 30) = true)) | exact (by rfl : okT2 g__law_rims (tRims.drop 30) = true)))) | exact okT2_split 3 okRimsg_8 (by first | (rw [List.drop_drop]; exact okT2_split 3 okRimsg_9 (by first | (rw [List.drop_drop]; exact (by rfl : okT2 g__law_rims (tRims.drop 30) = true)) | exact (by rfl : okT2 g__law_rims (tRims.drop 30) = true))) | exact okT2_split 3 okRimsg_9 (by first | (rw [List.drop_drop]; exact (by rfl : okT2 g__law_rims (tRims.drop 30) = true)) | exact (by rfl : okT2 g__law_rims (tRims.drop 30) = true))))))) | exact okT2_split 3 okRimsg_5 (by first | (rw [List.drop_drop]; exact okT2_split 3 okRimsg_6 (by first | (rw [List.drop_drop]; exact okT2_split 3 okRimsg_7 (by first | (rw [List.drop_drop]; exact okT2_split 3 okRimsg_8 (by first | (rw [List.drop_drop]; exact okT2_split 3 okRimsg_9 (by first | (rw [List.drop_drop]; exact (by rfl : okT2 g__law_rims (tRims.drop 30) = true)) | exact (by rfl : okT2 g__law_rims (tRims.drop 30) = true))) | exact okT2_split 3 okRimsg_9 (by first | (rw [List.drop_drop]; exact (by rfl : okT2 g__law_rims (tRims.drop 30) = true)) | exact (by rfl : okT2 g__law_rims (tRims.drop 30) = true)))) | exact okT2_split 3 okRimsg_8 (by first | (rw [List.drop_drop]; exact okT2_split 3 okRimsg_9 (by first | (rw [List.drop_drop]; exact (by rfl : okT2 g__law_rims (tRims.drop 30) = true)) | exact (by rfl : okT2 g__law_rims (tRims.drop 30) = true))) | exact okT2_split 3 okRimsg_9 (by first | (rw [List.drop_drop]; exact (by rfl : okT2 g__law_rims (tRims.drop 30) = true)) | exact (by rfl : okT2 g__law_rims (tRims.drop 30) = true))))) | exact okT2_split 3 okRimsg_7 (by first | (rw [List.drop_drop]; exact okT2_split 3 okRimsg_8 (by first | (rw [List.drop_drop]; exact okT2_split 3 okRimsg_9 (by first | (rw [List.drop_drop]; exact (by rfl : okT2 g__law_rims (tRims.drop 30) = true)) | exact (by rfl : okT2 g__law_rims (tRims.drop 30) = true))) | exact okT2_split 3 okRimsg_9 (by first | (rw [List.drop_drop]; exact (by rfl : okT2 g__law_rims (tRims.drop 30) = true)) | exact (by rfl : okT2 g__law_rims (tRims.drop 30) = true)))) | exact okT2_split 3 okRimsg_8 (by first | (rw [List.drop_drop]; exact okT2_split 3 okRimsg_9 (by first | (rw [List.drop_drop]; exact (by rfl : okT2 g__law_rims (tRims.drop 30) = true)) | exact (by rfl : okT2 g__law_rims (tRims.drop 30) = true))) | exact okT2_split 3 okRimsg_9 (by first | (rw [List.drop_drop]; exact (by rfl : okT2 g__law_rims (tRims.drop 30) = true)) | exact (by rfl : okT2 g__law_rims (tRims.drop 30) = true)))))) | exact okT2_split 3 okRimsg_6 (by first | (rw [List.drop_drop]; exact okT2_split 3 okRimsg_7 (by first | (rw [List.drop_drop]; exact okT2_split 3 okRimsg_8 (by first | (rw [List.drop_drop]; exact okT2_split 3 okRimsg_9 (by first | (rw [List.drop_drop]; exact (by rfl : okT2 g__law_rims (tRims.drop 30) = true)) | exact (by rfl : okT2 g__law_rims (tRims.drop 30) = true))) | exact okT2_split 3 okRimsg_9 (by first | (rw [List.drop_drop]; exact (by rfl : okT2 g__law_rims (tRims.drop 30) = true)) | exact (by rfl : okT2 g__law_rims (tRims.drop 30) = true)))) | exact okT2_split 3 okRimsg_8 (by first | (rw [List.drop_drop]; exact okT2_split 3 okRimsg_9 (by first | (rw [List.drop_drop]; exact (by rfl : okT2 g__law_rims (tRims.drop 30) = true)) | exact (by rfl : okT2 g__law_rims (tRims.drop 30) = true))) | exact okT2_split 3 okRimsg_9 (by first | (rw [List.drop_drop]; exact (by rfl : okT2 g__law_rims (tRims.drop 30) = true)) | exact (by rfl : okT2 g__law_rims (tRims.drop 30) = true))))) | exact okT2_split 3 okRimsg_7 (by first | (rw [List.drop_drop]; exact okT2_split 3 okRimsg_8 (by first | (rw [List.drop_drop]; exact okT2_split 3 okRimsg_9 (by first | (rw [List.drop_drop]; exact (by rfl : okT2 g__law_rims (tRims.drop 30) = true)) | exact (by rfl : okT2 g__law_rims (tRims.drop 30) = true))) | exact okT2_split 3 okRimsg_9 (by first | (rw [List.drop_drop]; exact (by rfl : okT2 g__law_rims (tRims.drop 30) = true)) | exact (by rfl : okT2 g__law_rims (tRims.drop 30) = true)))) | exact okT2_split 3 okRimsg_8 (by first | (rw [List.drop_drop]; exact okT2_split 3 okRimsg_9 (by first | (rw [List.drop_drop]; exact (by rfl : okT2 g__law_rims (tRims.drop 30) = true)) | exact (by rfl : okT2 g__law_rims (tRims.drop 30) = true))) | exact okT2_split 3 okRimsg_9 (by first | (rw [List.drop_drop]; exact (by rfl : okT2 g__law_rims (tRims.drop 30) = true)) | exact (by rfl : okT2 g__law_rims (tRims.drop 30) = true)))))))))) | exact okT2_split 3 okRimsg_2 (by first | (rw [List.drop_drop]; exact okT2_split 3 okRimsg_3 (by first | (rw [List.drop_drop]; exact okT2_split 3 okRimsg_4 (by first | (rw [List.drop_drop]; exact okT2_split 3 okRimsg_5 (by first | (rw [List.drop_drop]; exact okT2_split 3 okRimsg_6 (by first | (rw [List.drop_drop]; exact okT2_split 3 okRimsg_7 (by first | (rw [List.drop_drop]; exact okT2_split 3 okRimsg_8 (by first | (rw [List.drop_drop]; exact okT2_split 3 okRimsg_9 (by first | (rw [List.drop_drop]; exact (by rfl : okT2 g__law_rims (tRims.drop 30) = true)) | exact (by rfl : okT2 g__law_rims (tRims.drop 30) = true))) | exact okT2_split 3 okRimsg_9 (by first | (rw [List.drop_drop]; exact (by rfl : okT2 g__law_rims (tRims.drop 30) = true)) | exact (by rfl : okT2 g__law_rims (tRims.drop 30) = true)))) | exact okT2_split 3 okRimsg_8 (by first | (rw [List.drop_drop]; exact okT2_split 3 okRimsg_9 (by first | (rw [List.drop_drop]; exact (by rfl : okT2 g__law_rims (tRims.drop 30) = true)) | exact (by rfl : okT2 g__law_rims (tRims.drop 30) = true))) | exact okT2_split 3 okRimsg_9 (by first | (rw [List.drop_drop]; exact (by rfl : okT2 g__law_rims (tRims.drop 30) = true)) | exact (by rfl : okT2 g__law_rims (tRims.drop 30) = true))))) | exact okT2_split 3 okRimsg_7 (by first | (rw [List.drop_drop]; exact okT2_split 3 okRimsg_8 (by first | (rw [List.drop_drop]; exact okT2_split 3 okRimsg_9 (by first | (rw [List.drop_drop]; exact (by rfl : okT2 g__law_rims (tRims.drop 30) = true)) | exact (by rfl : okT2 g__law_rims (tRims.drop 30) = true))) | exact okT2_split 3 okRimsg_9 (by first | (rw [List.drop_drop]; exact (by rfl : okT2 g__law_rims (tRims.drop 30) = true)) | exact (by rfl : okT2 g__law_rims (tRims.drop 30) = true)))) | exact okT2_split 3 okRimsg_8 (by first | (rw [List.drop_drop]; exact okT2_split 3 okRimsg_9 (by first | (rw [List.drop_drop]; exact (by rfl : okT2 g__law_rims (tRims.drop 30) = true)) | exact (by rfl : okT2 g__law_rims (tRims.drop 30) = true))) | exact okT2_split 3 okRimsg_9 (by first | (rw [List.drop_drop]; exact (by rfl : okT2 g__law_rims (tRims.drop 30) = true)) | exact (by rfl : okT2 g__law_rims (tRims.drop 30) = true)))))) | exact okT2_split 3 okRimsg_6 (by first | (rw [List.drop_drop]; exact okT2_split 3 okRimsg_7 (by first | (rw [List.drop_drop]; exact okT2_split 3 okRimsg_8 (by first | (rw [List.drop_drop]; exact okT2_split 3 okRimsg_9 (by first | (rw [List.drop_drop]; exact (by rfl : okT2 g__law_rims (tRims.drop 30) = true)) | exact (by rfl : okT2 g__law_rims (tRims.drop 30) = true))) | exact okT2_split 3 okRimsg_9 (by first | (rw [List.drop_drop]; exact (by rfl : okT2 g__law_rims (tRims.drop 30) = true)) | exact (by rfl : okT2 g__law_rims (tRims.drop 30) = true)))) | exact okT2_split 3 okRimsg_8 (by first | (rw [List.drop_drop]; exact okT2_split 3 okRimsg_9 (by first | (rw [List.drop_drop]; exact (by rfl : okT2 g__law_rims (tRims.drop 30) = true)) | exact (by rfl : okT2 g__law_rims (tRims.drop 30) = true))) | exact okT2_split 3 okRimsg_9 (by first | (rw [List.drop_drop]; exact (by rfl : okT2 g__law_rims (tRims.drop 30) = true)) | exact (by rfl : okT2 g__law_rims (tRims.drop 30) = true))))) | exact okT2_split 3 okRimsg_7 (by first | (rw [List.drop_drop]; exact okT2_split 3 okRimsg_8 (by first | (rw [List.drop_drop]; exact okT2_split 3 okRimsg_9 (by first | (rw [List.drop_drop]; exact (by rfl : okT2 g__law_rims (tRims.drop 30) = true)) | exact (by rfl : okT2 g__law_rims (tRims.drop 30) = true))) | exact okT2_split 3 okRimsg_9 (by first | (rw [List.drop_drop]; exact (by rfl : okT2 g__law_rims (tRims.drop 30) = true)) | exact (by rfl : okT2 g__law_rims (tRims.drop 30) = true)))) | exact okT2_split 3 okRimsg_8 (by first | (rw [List.drop_drop]; exact okT2_split 3 okRimsg_9 (by first | (rw [List.drop_drop]; exact (by rfl : okT2 g__law_rims (tRims.drop 30) = true)) | exact (by rfl : okT2 g__law_rims (tRims.drop 30) = true))) | exact okT2_split 3 okRimsg_9 (by first | (rw [List.drop_drop]; exact (by rfl : okT2 g__law_rims (tRims.drop 30) = true)) | exact (by rfl : okT2 g__law_rims (tRims.drop 30) = true))))))) | exact okT2_split 3 okRimsg_5 (by first | (rw [List.drop_drop]; exact okT2_split 3 okRimsg_6 (by first | (rw [List.drop_drop]; exact okT2_split 3 okRimsg_7 (by first | (rw [List.drop_drop]; exact okT2_split 3 okRimsg_8 (by first | (rw [List.drop_drop]; exact okT2_split 3 okRimsg_9 (by first | (rw [List.drop_drop]; exact (by rfl : okT2 g__law_rims (tRims.drop 30) = true)) | exact (by rfl : okT2 g__law_rims (tRims.drop 30) = true))) | exact okT2_split 3 okRimsg_9 (by first | (rw [List.drop_drop]; exact (by rfl : okT2 g__law_rims (tRims.drop 30) = true)) | exact (by rfl : okT2 g__law_rims (tRims.drop 30) = true)))) | exact okT2_split 3 okRimsg_8 (by first | (rw [List.drop_drop]; exact okT2_split 3 okRimsg_9 (by first | (rw [List.drop_drop]; exact (by rfl : okT2 g__law_rims (tRims.drop 30) = true)) | exact (by rfl : okT2 g__law_rims (tRims.drop 30) = true))) | exact okT2_split 3 okRimsg_9 (by first | (rw [List.drop_drop]; exact (by rfl : okT2 g__law_rims (tRims.drop 30) = true)) | exact (by rfl : okT2 g__law_rims (tRims.drop 30) = true))))) | exact okT2_split 3 okRimsg_7 (by first | (rw [List.drop_drop]; exact okT2_split 3 okRimsg_8 (by first | (rw [List.drop_drop]; exact okT2_split 3 okRimsg_9 (by first | (rw [List.drop_drop]; exact (by rfl : okT2 g__law_rims (tRims.drop 30) = true)) | exact (by rfl : okT2 g__law_rims (tRims.drop 30) = true))) | exact okT2_split 3 okRimsg_9 (by first | (rw [List.drop_drop]; exact (by rfl : okT2 g__law_rims (tRims.drop 30) = true)) | exact (by rfl : okT2 g__law_rims (tRims.drop 30) = true)))) | exact okT2_split 3 okRimsg_8 (by first | (rw [List.drop_drop]; exact okT2_split 3 okRimsg_9 (by first | (rw [List.drop_drop]; exact (by rfl : okT2 g__law_rims (tRims.drop 30) = true)) | exact (by rfl : okT2 g__law_rims (tRims.drop 30) = true))) | exact okT2_split 3 okRimsg_9 (by first | (rw [List.drop_drop]; exact (by rfl : okT2 g__law_rims (tRims.drop 30) = true)) | exact (by rfl : okT2 g__law_rims (tRims.drop 30) = true)))))) | exact okT2_split 3 okRimsg_6 (by first | (rw [List.drop_drop]; exact okT2_split 3 okRimsg_7 (by first | (rw [List.drop_drop]; exact okT2_split 3 okRimsg_8 (by first | (rw [List.drop_drop]; exact okT2_split 3 okRimsg_9 (by first | (rw [List.drop_drop]; exact (by rfl : okT2 g__law_rims (tRims.drop 30) = true)) | exact (by rfl : okT2 g__law_rims (tRims.drop 30) = true))) | exact okT2_split 3 okRimsg_9 (by first | (rw [List.drop_drop]; exact (by rfl : okT2 g__law_rims (tRims.drop 30) = true)) | exact (by rfl : okT2 g__law_rims (tRims.drop 30) = true)))) | exact okT2_split 3 okRimsg_8 (by first | (rw [List.drop_drop]; exact okT2_split 3 okRimsg_9 (by first | (rw [List.drop_drop]; exact (by rfl : okT2 g__law_rims (tRims.drop 30) = true)) | exact (by rfl : okT2 g__law_rims (tRims.drop 30) = true))) | exact okT2_split 3 okRimsg_9 (by first | (rw [List.drop_drop]; exact (by rfl : okT2 g__law_rims (tRims.drop 30) = true)) | exact (by rfl : okT2 g__law_rims (tRims.drop 30) = true))))) | exact okT2_split 3 okRimsg_7 (by first | (rw [List.drop_drop]; exact okT2_split 3 okRimsg_8 (by first | (rw [List.drop_drop]; exact okT2_split 3 okRimsg_9 (by first | (rw [List.drop_drop]; exact (by rfl : okT2 g__law_rims (tRims.drop 30) = true)) | exact (by rfl : okT2 g__law_rims (tRims.drop 30) = true))) | exact okT2_split 3 okRimsg_9 (by first | (rw [List.drop_drop]; exact (by rfl : okT2 g__law_rims (tRims.drop 30) = true)) | exact (by rfl : okT2 g__law_rims (tRims.drop 30) = true)))) | exact okT2_split 3 okRimsg_8 (by first | (rw [List.drop_drop]; exact okT2_split 3 okRimsg_9 (by first | (rw [List.drop_drop]; exact (by rfl : okT2 g__law_rims (tRims.drop 30) = true)) | exact (by rfl : okT2 g__law_rims (tRims.drop 30) = true))) | exact okT2_split 3 okRimsg_9 (by first | (rw [List.drop_drop]; exact (by rfl : okT2 g__law_rims (tRims.drop 30) = true)) | exact (by rfl : okT2 g__law_rims (tRims.drop 30) = true)))))))) | exact okT2_split 3 okRimsg_4 (by first | (rw [List.drop_drop]; exact okT2_split 3 okRimsg_5 (by first | (rw [List.drop_drop]; exact okT2_split 3 okRimsg_6 (by first | (rw [List.drop_drop]; exact okT2_split 3 okRimsg_7 (by first | (rw [List.drop_drop]; exact okT2_split 3 okRimsg_8 (by first | (rw [List.drop_drop]; exact okT2_split 3 okRimsg_9 (by first | (rw [List.drop_drop]; exact (by rfl : okT2 g__law_rims (tRims.drop 30) = true)) | exact (by rfl : okT2 g__law_rims (tRims.drop 30) = true))) | exact okT2_split 3 okRimsg_9 (by first | (rw [List.drop_drop]; exact (by rfl : okT2 g__law_rims (tRims.drop 30) = true)) | exact (by rfl : okT2 g__law_rims (tRims.drop 30) = true)))) | exact okT2_split 3 okRimsg_8 (by first | (rw [List.drop_drop]; exact okT2_split 3 okRimsg_9 (by first | (rw [List.drop_drop]; exact (by rfl : okT2 g__law_rims (tRims.drop 30) = true)) | exact (by rfl : okT2 g__law_rims (tRims.drop 30) = true))) | exact okT2_split 3 okRimsg_9 (by first | (rw [List.drop_drop]; exact (by rfl : okT2 g__law_rims (tRims.drop 30) = true)) | exact (by rfl : okT2 g__law_rims (tRims.drop 30) = true))))) | exact okT2_split 3 okRimsg_7 (by first | (rw [List.drop_drop]; exact okT2_split 3 okRimsg_8 (by first | (rw [List.drop_drop]; exact okT2_split 3 okRimsg_9 (by first | (rw [List.drop_drop]; exact (by rfl : okT2 g__law_rims (tRims.drop 30) = true)) | exact (by rfl : okT2 g__law_rims (tRims.drop 30) = true))) | exact okT2_split 3 okRimsg_9 (by first | (rw [List.drop_drop]; exact (by rfl : okT2 g__law_rims (tRims.drop 30) = true)) | exact (by rfl : okT2 g__law_rims (tRims.drop 30) = true)))) | exact okT2_split 3 okRimsg_8 (by first | (rw [List.drop_drop]; exact okT2_split 3 okRimsg_9 (by first | (rw [List.drop_drop]; exact (by rfl : okT2 g__law_rims (tRims.drop 30) = true)) | exact (by rfl : okT2 g__law_rims (tRims.drop 30) = true))) | exact okT2_split 3 okRimsg_9 (by first | (rw [List.drop_drop]; exact (by rfl : okT2 g__law_rims (tRims.drop 30) = true)) | exact (by rfl : okT2 g__law_rims (tRims.drop 30) = true)))))) | exact okT2_split 3 okRimsg_6 (by first | (rw [List.drop_drop]; exact okT2_split 3 okRimsg_7 (by first | (rw [List.drop_drop]; exact okT2_split 3 okRimsg_8 (by first | (rw [List.drop_drop]; exact okT2_split 3 okRimsg_9 (by first | (rw [List.drop_drop]; exact (by rfl : okT2 g__law_rims (tRims.drop 30) = true)) | exact (by rfl : okT2 g__law_rims (tRims.drop 30) = true))) | exact okT2_split 3 okRimsg_9 (by first | (rw [List.drop_drop]; exact (by rfl : okT2 g__law_rims (tRims.drop 30) = true)) | exact (by rfl : okT2 g__law_rims (tRims.drop 30) = true)))) | exact okT2_split 3 okRimsg_8 (by first | (rw [List.drop_drop]; exact okT2_split 3 okRimsg_9 (by first | (rw [List.drop_drop]; exact (by rfl : okT2 g__law_rims (tRims.drop 30) = true)) | exact (by rfl : okT2 g__law_rims (tRims.drop 30) = true))) | exact okT2_split 3 okRimsg_9 (by first | (rw [List.drop_drop]; exact (by rfl : okT2 g__law_rims (tRims.drop 30) = true)) | exact (by rfl : okT2 g__law_rims (tRims.drop 30) = true))))) | exact okT2_split 3 okRimsg_7 (by first | (rw [List.drop_drop]; exact okT2_split 3 okRimsg_8 (by first | (rw [List.drop_drop]; exact okT2_split 3 okRimsg_9 (by first | (rw [List.drop_drop]; exact (by rfl : okT2 g__law_rims (tRims.drop 30) = true)) | exact (by rfl : okT2 g__law_rims (tRims.drop 30) = true))) | exact okT2_split 3 okRimsg_9 (by first | (rw [List.drop_drop]; exact (by rfl : okT2 g__law_rims (tRims.drop 30) = true)) | exact (by rfl : okT2 g__law_rims (tRims.drop 30) = true)))) | exact okT2_split 3 okRimsg_8 (by first | (rw [List.drop_drop]; exact okT2_split 3 okRimsg_9 (by first | (rw [List.drop_drop]; exact (by rfl : okT2 g__law_rims (tRims.drop 30) = true)) | exact (by rfl : okT2 g__law_rims (tRims.drop 30) = true))) | exact okT2_split 3 okRimsg_9 (by first | (rw [List.drop_drop]; exact (by rfl : okT2 g__law_rims (tRims.drop 30) = true)) | exact (by rfl : okT2 g__law_rims (tRims.drop 30) = true))))))) | exact okT2_split 3 okRimsg_5 (by first | (rw [List.drop_drop]; exact okT2_split 3 okRimsg_6 (by first | (rw [List.drop_drop]; exact okT2_split 3 okRimsg_7 (by first | (rw [List.drop_drop]; exact okT2_split 3 okRimsg_8 (by first | (rw [List.drop_drop]; exact okT2_split 3 okRimsg_9 (by first | (rw [List.drop_drop]; exact (by rfl : okT2 g__law_rims (tRims.drop 30) = true)) | exact (by rfl : okT2 g__law_rims (tRims.drop 30) = true))) | exact okT2_split 3 okRimsg_9 (by first | (rw [List.drop_drop]; exact (by rfl : okT2 g__law_rims (tRims.drop 30) = true)) | exact (by rfl : okT2 g__law_rims (tRims.drop 30) = true)))) | exact okT2_split 3 okRimsg_8 (by first | (rw [List.drop_drop]; exact okT2_split 3 okRimsg_9 (by first | (rw [List.drop_drop]; exact (by rfl : okT2 g__law_rims (tRims.drop 30) = true)) | exact (by rfl : okT2 g__law_rims (tRims.drop 30) = true))) | exact okT2_split 3 okRimsg_9 (by first | (rw [List.drop_drop]; exact (by rfl : okT2 g__law_rims (tRims.drop 30) = true)) | exact (by rfl : okT2 g__law_rims (tRims.drop 30) = true))))) | exact okT2_split 3 okRimsg_7 (by first | (rw [List.drop_drop]; exact okT2_split 3 okRimsg_8 (by first | (rw [List.drop_drop]; exact okT2_split 3 okRimsg_9 (by first | (rw [List.drop_drop]; exact (by rfl : okT2 g__law_rims (tRims.drop 30) = true)) | exact (by rfl : okT2 g__law_rims (tRims.drop 30) = true))) | exact okT2_split 3 okRimsg_9 (by first | (rw [List.drop_drop]; exact (by rfl : okT2 g__law_rims (tRims.drop 30) = true)) | exact (by rfl : okT2 g__law_rims (tRims.drop 30) = true)))) | exact okT2_split 3 okRimsg_8 (by first | (rw [List.drop_drop]; exact okT2_split 3 okRimsg_9 (by first | (rw [List.drop_drop]; exact (by rfl : okT2 g__law_rims (tRims.drop 30) = true)) | exact (by rfl : okT2 g__law_rims (tRims.drop 30) = true))) | exact okT2_split 3 okRimsg_9 (by first | (rw [List.drop_drop]; exact (by rfl : okT2 g__law_rims (tRims.drop 30) = true)) | exact (by rfl : okT2 g__law_rims (tRims.drop 30) = true)))))) | exact okT2_split 3 okRimsg_6 (by first | (rw [List.drop_drop]; exact okT2_split 3 okRimsg_7 (by first | (rw [List.drop_drop]; exact okT2_split 3 okRimsg_8 (by first | (rw [List.drop_drop]; exact okT2_split 3 okRimsg_9 (by first | (rw [List.drop_drop]; exact (by rfl : okT2 g__law_rims (tRims.drop 30) = true)) | exact (by rfl : okT2 g__law_rims (tRims.drop 30) = true))) | exact okT2_split 3 okRimsg_9 (by first | (rw [List.drop_drop]; exact (by rfl : okT2 g__law_rims (tRims.drop 30) = true)) | exact (by rfl : okT2 g__law_rims (tRims.drop 30) = true)))) | exact okT2_split 3 okRimsg_8 (by first | (rw [List.drop_drop]; exact okT2_split 3 okRimsg_9 (by first | (rw [List.drop_drop]; exact (by rfl : okT2 g__law_rims (tRims.drop 30) = true)) | exact (by rfl : okT2 g__law_rims (tRims.drop 30) = true))) | exact okT2_split 3 okRimsg_9 (by first | (rw [List.drop_drop]; exact (by rfl : okT2 g__law_rims (tRims.drop 30) = true)) | exact (by rfl : okT2 g__law_rims (tRims.drop 30) = true))))) | exact okT2_split 3 okRimsg_7 (by first | (rw [List.drop_drop]; exact okT2_split 3 okRimsg_8 (by first | (rw [List.drop_drop]; exact okT2_split 3 okRimsg_9 (by first | (rw [List.drop_drop]; exact (by rfl : okT2 g__law_rims (tRims.drop 30) = true)) | exact (by rfl : okT2 g__law_rims (tRims.drop 30) = true))) | exact okT2_split 3 okRimsg_9 (by first | (rw [List.drop_drop]; exact (by rfl : okT2 g__law_rims (tRims.drop 30) = true)) | exact (by rfl : okT2 g__law_rims (tRims.drop 30) = true)))) | exact okT2_split 3 okRimsg_8 (by first | (rw [List.drop_drop]; exact okT2_split 3 okRimsg_9 (by first | (rw [List.drop_drop]; exact (by rfl : okT2 g__law_rims (tRims.drop 30) = true)) | exact (by rfl : okT2 g__law_rims (tRims.drop 30) = true))) | exact okT2_split 3 okRimsg_9 (by first | (rw [List.drop_drop]; exact (by rfl : okT2 g__law_rims (tRims.drop 30) = true)) | exact (by rfl : okT2 g__law_rims (tRims.drop 30) = true))))))))) | exact okT2_split 3 okRimsg_3 (by first | (rw [List.drop_drop]; exact okT2_split 3 okRimsg_4 (by first | (rw [List.drop_drop]; exact okT2_split 3 okRimsg_5 (by first | (rw [List.drop_drop]; exact okT2_split 3 okRimsg_6 (by first | (rw [List.drop_drop]; exact okT2_split 3 okRimsg_7 (by first | (rw [List.drop_drop]; exact okT2_split 3 okRimsg_8 (by first | (rw [List.drop_drop]; exact okT2_split 3 okRimsg_9 (by first | (rw [List.drop_drop]; exact (by rfl : okT2 g__law_rims (tRims.drop 30) = true)) | exact (by rfl : okT2 g__law_rims (tRims.drop 30) = true))) | exact okT2_split 3 okRimsg_9 (by first | (rw [List.drop_drop]; exact (by rfl : okT2 g__law_rims (tRims.drop 30) = true)) | exact (by rfl : okT2 g__law_rims (tRims.drop 30) = true)))) | exact okT2_split 3 okRimsg_8 (by first | (rw [List.drop_drop]; exact okT2_split 3 okRimsg_9 (by first | (rw [List.drop_drop]; exact (by rfl : okT2 g__law_rims (tRims.drop 30) = true)) | exact (by rfl : okT2 g__law_rims (tRims.drop 30) = true))) | exact okT2_split 3 okRimsg_9 (by first | (rw [List.drop_drop]; exact (by rfl : okT2 g__law_rims (tRims.drop 30) = true)) | exact (by rfl : okT2 g__law_rims (tRims.drop 30) = true))))) | exact okT2_split 3 okRimsg_7 (by first | (rw [List.drop_drop]; exact okT2_split 3 okRimsg_8 (by first | (rw [List.drop_drop]; exact okT2_split 3 okRimsg_9 (by first | (rw [List.drop_drop]; exact (by rfl : okT2 g__law_rims (tRims.drop 30) = true)) | exact (by rfl : okT2 g__law_rims (tRims.drop 30) = true))) | exact okT2_split 3 okRimsg_9 (by first | (rw [List.drop_drop]; exact (by rfl : okT2 g__law_rims (tRims.drop 30) = true)) | exact (by rfl : okT2 g__law_rims (tRims.drop 30) = true)))) | exact okT2_split 3 okRimsg_8 (by first | (rw [List.drop_drop]; exact okT2_split 3 okRimsg_9 (by first | (rw [List.drop_drop]; exact (by rfl : okT2 g__law_rims (tRims.drop 30) = true)) | exact (by rfl : okT2 g__law_rims (tRims.drop 30) = true))) | exact okT2_split 3 okRimsg_9 (by first | (rw [List.drop_drop]; exact (by rfl : okT2 g__law_rims (tRims.drop 30) = true)) | exact (by rfl : okT2 g__law_rims (tRims.drop 30) = true)))))) | exact okT2_split 3 okRimsg_6 (by first | (rw [List.drop_drop]; exact okT2_split 3 okRimsg_7 (by first | (rw [List.drop_drop]; exact okT2_split 3 okRimsg_8 (by first | (rw [List.drop_drop]; exact okT2_split 3 okRimsg_9 (by first | (rw [List.drop_drop]; exact (by rfl : okT2 g__law_rims (tRims.drop 30) = true)) | exact (by rfl : okT2 g__law_rims (tRims.drop 30) = true))) | exact okT2_split 3 okRimsg_9 (by first | (rw [List.drop_drop]; exact (by rfl : okT2 g__law_rims (tRims.drop 30) = true)) | exact (by rfl : okT2 g__law_rims (tRims.drop 30) = true)))) | exact okT2_split 3 okRimsg_8 (by first | (rw [List.drop_drop]; exact okT2_split 3 okRimsg_9 (by first | (rw [List.drop_drop]; exact (by rfl : okT2 g__law_rims (tRims.drop 30) = true)) | exact (by rfl : okT2 g__law_rims (tRims.drop 30) = true))) | exact okT2_split 3 okRimsg_9 (by first | (rw [List.drop_drop]; exact (by rfl : okT2 g__law_rims (tRims.drop 30) = true)) | exact (by rfl : okT2 g__law_rims (tRims.drop 30) = true))))) | exact okT2_split 3 okRimsg_7 (by first | (rw [List.drop_drop]; exact okT2_split 3 okRimsg_8 (by first | (rw [List.drop_drop]; exact okT2_split 3 okRimsg_9 (by first | (rw [List.drop_drop]; exact (by rfl : okT2 g__law_rims (tRims.drop 30) = true)) | exact (by rfl : okT2 g__law_rims (tRims.drop 30) = true))) | exact okT2_split 3 okRimsg_9 (by first | (rw [List.drop_drop]; exact (by rfl : okT2 g__law_rims (tRims.drop 30) = true)) | exact (by rfl : okT2 g__law_rims (tRims.drop 30) = true)))) | exact okT2_split 3 okRimsg_8 (by first | (rw [List.drop_drop]; exact okT2_split 3 okRimsg_9 (by first | (rw [List.drop_drop]; exact (by rfl : okT2 g__law_rims (tRims.drop 30) = true)) | exact (by rfl : okT2 g__law_rims (tRims.drop 30) = true))) | exact okT2_split 3 okRimsg_9 (by first | (rw [List.drop_drop]; exact (by rfl : okT2 g__law_rims (tRims.drop 30) = true)) | exact (by rfl : okT2 g__law_rims (tRims.drop 30) = true))))))) | exact okT2_split 3 okRimsg_5 (by first | (rw [List.drop_drop]; exact okT2_split 3 okRimsg_6 (by first | (rw [List.drop_drop]; exact okT2_split 3 okRimsg_7 (by first | (rw [List.drop_drop]; exact okT2_split 3 okRimsg_8 (by first | (rw [List.drop_drop]; exact okT2_split 3 okRimsg_9 (by first | (rw [List.drop_drop]; exact (by rfl : okT2 g__law_rims (tRims.drop 30) = true)) | exact (by rfl : okT2 g__law_rims (tRims.drop 30) = true))) | exact okT2_split 3 okRimsg_9 (by first | (rw [List.drop_drop]; exact (by rfl : okT2 g__law_rims (tRims.drop 30) = true)) | exact (by rfl : okT2 g__law_rims (tRims.drop 30) = true)))) | exact okT2_split 3 okRimsg_8 (by first | (rw [List.drop_drop]; exact okT2_split 3 okRimsg_9 (by first | (rw [List.drop_drop]; exact (by rfl : okT2 g__law_rims (tRims.drop 30) = true)) | exact (by rfl : okT2 g__law_rims (tRims.drop 30) = true))) | exact okT2_split 3 okRimsg_9 (by first | (rw [List.drop_drop]; exact (by rfl : okT2 g__law_rims (tRims.drop 30) = true)) | exact (by rfl : okT2 g__law_rims (tRims.drop 30) = true))))) | exact okT2_split 3 okRimsg_7 (by first | (rw [List.drop_drop]; exact okT2_split 3 okRimsg_8 (by first | (rw [List.drop_drop]; exact okT2_split 3 okRimsg_9 (by first | (rw [List.drop_drop]; exact (by rfl : okT2 g__law_rims (tRims.drop 30) = true)) | exact (by rfl : okT2 g__law_rims (tRims.drop 30) = true))) | exact okT2_split 3 okRimsg_9 (by first | (rw [List.drop_drop]; exact (by rfl : okT2 g__law_rims (tRims.drop 30) = true)) | exact (by rfl : okT2 g__law_rims (tRims.drop 30) = true)))) | exact okT2_split 3 okRimsg_8 (by first | (rw [List.drop_drop]; exact okT2_split 3 okRimsg_9 (by first | (rw [List.drop_drop]; exact (by rfl : okT2 g__law_rims (tRims.drop 30) = true)) | exact (by rfl : okT2 g__law_rims (tRims.drop 30) = true))) | exact okT2_split 3 okRimsg_9 (by first | (rw [List.drop_drop]; exact (by rfl : okT2 g__law_rims (tRims.drop 30) = true)) | exact (by rfl : okT2 g__law_rims (tRims.drop 30) = true)))))) | exact okT2_split 3 okRimsg_6 (by first | (rw [List.drop_drop]; exact okT2_split 3 okRimsg_7 (by first | (rw [List.drop_drop]; exact okT2_split 3 okRimsg_8 (by first | (rw [List.drop_drop]; exact okT2_split 3 okRimsg_9 (by first | (rw [List.drop_drop]; exact (by rfl : okT2 g__law_rims (tRims.drop 30) = true)) | exact (by rfl : okT2 g__law_rims (tRims.drop 30) = true))) | exact okT2_split 3 okRimsg_9 (by first | (rw [List.drop_drop]; exact (by rfl : okT2 g__law_rims (tRims.drop 30) = true)) | exact (by rfl : okT2 g__law_rims (tRims.drop 30) = true)))) | exact okT2_split 3 okRimsg_8 (by first | (rw [List.drop_drop]; exact okT2_split 3 okRimsg_9 (by first | (rw [List.drop_drop]; exact (by rfl : okT2 g__law_rims (tRims.drop 30) = true)) | exact (by rfl : okT2 g__law_rims (tRims.drop 30) = true))) | exact okT2_split 3 okRimsg_9 (by first | (rw [List.drop_drop]; exact (by rfl : okT2 g__law_rims (tRims.drop 30) = true)) | exact (by rfl : okT2 g__law_rims (tRims.drop 30) = true))))) | exact okT2_split 3 okRimsg_7 (by first | (rw [List.drop_drop]; exact okT2_split 3 okRimsg_8 (by first | (rw [List.drop_drop]; exact okT2_split 3 okRimsg_9 (by first | (rw [List.drop_drop]; exact (by rfl : okT2 g__law_rims (tRims.drop 30) = true)) | exact (by rfl : okT2 g__law_rims (tRims.drop 30) = true))) | exact okT2_split 3 okRimsg_9 (by first | (rw [List.drop_drop]; exact (by rfl : okT2 g__law_rims (tRims.drop 30) = true)) | exact (by rfl : okT2 g__law_rims (tRims.drop 30) = true)))) | exact okT2_split 3 okRimsg_8 (by first | (rw [List.drop_drop]; exact okT2_split 3 okRimsg_9 (by first | (rw [List.drop_drop]; exact (by rfl : okT2 g__law_rims (tRims.drop 30) = true)) | exact (by rfl : okT2 g__law_rims (tRims.drop 30) = true))) | exact okT2_split 3 okRimsg_9 (by first | (rw [List.drop_drop]; exact (by rfl : okT2 g__law_rims (tRims.drop 30) = true)) | exact (by rfl : okT2 g__law_rims (tRims.drop 30) = true)))))))) | exact okT2_split 3 okRimsg_4 (by first | (rw [List.drop_drop]; exact okT2_split 3 okRimsg_5 (by first | (rw [List.drop_drop]; exact okT2_split 3 okRimsg_6 (by first | (rw [List.drop_drop]; exact okT2_split 3 okRimsg_7 (by first | (rw [List.drop_drop]; exact okT2_split 3 okRimsg_8 (by first | (rw [List.drop_drop]; exact okT2_split 3 okRimsg_9 (by first | (rw [List.drop_drop]; exact (by rfl : okT2 g__law_rims (tRims.drop 30) = true)) | exact (by rfl : okT2 g__law_rims (tRims.drop 30) = true))) | exact okT2_split 3 okRimsg_9 (by first | (rw [List.drop_drop]; exact (by rfl : okT2 g__law_rims (tRims.drop 30) = true)) | exact (by rfl : okT2 g__law_rims (tRims.drop 30) = true)))) | exact okT2_split 3 okRimsg_8 (by first | (rw [List.drop_drop]; exact okT2_split 3 okRimsg_9 (by first | (rw [List.drop_drop]; exact (by rfl : okT2 g__law_rims (tRims.drop 30) = true)) | exact (by rfl : okT2 g__law_rims (tRims.drop 30) = true))) | exact okT2_split 3 okRimsg_9 (by first | (rw [List.drop_drop]; exact (by rfl : okT2 g__law_rims (tRims.drop 30) = true)) | exact (by rfl : okT2 g__law_rims (tRims.drop 30) = true))))) | exact okT2_split 3 okRimsg_7 (by first | (rw [List.drop_drop]; exact okT2_split 3 okRimsg_8 (by first | (rw [List.drop_drop]; exact okT2_split 3 okRimsg_9 (by first | (rw [List.drop_drop]; exact (by rfl : okT2 g__law_rims (tRims.drop 30) = true)) | exact (by rfl : okT2 g__law_rims (tRims.drop 30) = true))) | exact okT2_split 3 okRimsg_9 (by first | (rw [List.drop_drop]; exact (by rfl : okT2 g__law_rims (tRims.drop 30) = true)) | exact (by rfl : okT2 g__law_rims (tRims.drop 30) = true)))) | exact okT2_split 3 okRimsg_8 (by first | (rw [List.drop_drop]; exact okT2_split 3 okRimsg_9 (by first | (rw [List.drop_drop]; exact (by rfl : okT2 g__law_rims (tRims.drop 30) = true)) | exact (by rfl : okT2 g__law_rims (tRims.drop 30) = true))) | exact okT2_split 3 okRimsg_9 (by first | (rw [List.drop_drop]; exact (by rfl : okT2 g__law_rims (tRims.drop 30) = true)) | exact (by rfl : okT2 g__law_rims (tRims.drop 30) = true)))))) | exact okT2_split 3 okRimsg_6 (by first | (rw [List.drop_drop]; exact okT2_split 3 okRimsg_7 (by first | (rw [List.drop_drop]; exact okT2_split 3 okRimsg_8 (by first | (rw [List.drop_drop]; exact okT2_split 3 okRimsg_9 (by first | (rw [List.drop_drop]; exact (by rfl : okT2 g__law_rims (tRims.drop 30) = true)) | exact (by rfl : okT2 g__law_rims (tRims.drop 30) = true))) | exact okT2_split 3 okRimsg_9 (by first | (rw [List.drop_drop]; exact (by rfl : okT2 g__law_rims (tRims.drop 30) = true)) | exact (by rfl : okT2 g__law_rims (tRims.drop 30) = true)))) | exact okT2_split 3 okRimsg_8 (by first | (rw [List.drop_drop]; exact okT2_split 3 okRimsg_9 (by first | (rw [List.drop_drop]; exact (by rfl : okT2 g__law_rims (tRims.drop 30) = true)) | exact (by rfl : okT2 g__law_rims (tRims.drop 30) = true))) | exact okT2_split 3 okRimsg_9 (by first | (rw [List.drop_drop]; exact (by rfl : okT2 g__law_rims (tRims.drop 30) = true)) | exact (by rfl : okT2 g__law_rims (tRims.drop 30) = true))))) | exact okT2_split 3 okRimsg_7 (by first | (rw [List.drop_drop]; exact okT2_split 3 okRimsg_8 (by first | (rw [List.drop_drop]; exact okT2_split 3 okRimsg_9 (by first | (rw [List.drop_drop]; exact (by rfl : okT2 g__law_rims (tRims.drop 30) = true)) | exact (by rfl : okT2 g__law_rims (tRims.drop 30) = true))) | exact okT2_split 3 okRimsg_9 (by first | (rw [List.drop_drop]; exact (by rfl : okT2 g__law_rims (tRims.drop 30) = true)) | exact (by rfl : okT2 g__law_rims (tRims.drop 30) = true)))) | exact okT2_split 3 okRimsg_8 (by first | (rw [List.drop_drop]; exact okT2_split 3 okRimsg_9 (by first | (rw [List.drop_drop]; exact (by rfl : okT2 g__law_rims (tRims.drop 30) = true)) | exact (by rfl : okT2 g__law_rims (tRims.drop 30) = true))) | exact okT2_split 3 okRimsg_9 (by first | (rw [List.drop_drop]; exact (by rfl : okT2 g__law_rims (tRims.drop 30) = true)) | exact (by rfl : okT2 g__law_rims (tRims.drop 30) = true))))))) | exact okT2_split 3 okRimsg_5 (by first | (rw [List.drop_drop]; exact okT2_split 3 okRimsg_6 (by first | (rw [List.drop_drop]; exact okT2_split 3 okRimsg_7 (by first | (rw [List.drop_drop]; exact okT2_split 3 okRimsg_8 (by first | (rw [List.drop_drop]; exact okT2_split 3 okRimsg_9 (by first | (rw [List.drop_drop]; exact (by rfl : okT2 g__law_rims (tRims.drop 30) = true)) | exact (by rfl : okT2 g__law_rims (tRims.drop 30) = true))) | exact okT2_split 3 okRimsg_9 (by first | (rw [List.drop_drop]; exact (by rfl : okT2 g__law_rims (tRims.drop 30) = true)) | exact (by rfl : okT2 g__law_rims (tRims.drop 30) = true)))) | exact okT2_split 3 okRimsg_8 (by first | (rw [List.drop_drop]; exact okT2_split 3 okRimsg_9 (by first | (rw [List.drop_drop]; exact (by rfl : okT2 g__law_rims (tRims.drop 30) = true)) | exact (by rfl : okT2 g__law_rims (tRims.drop 30) = true))) | exact okT2_split 3 okRimsg_9 (by first | (rw [List.drop_drop]; exact (by rfl : okT2 g__law_rims (tRims.drop 30) = true)) | exact (by rfl : okT2 g__law_rims (tRims.drop 30) = true))))) | exact okT2_split 3 okRimsg_7 (by first | (rw [List.drop_drop]; exact okT2_split 3 okRimsg_8 (by first | (rw [List.drop_drop]; exact okT2_split 3 okRimsg_9 (by first | (rw [List.drop_drop]; exact (by rfl : okT2 g__law_rims (tRims.drop 30) = true)) | exact (by rfl : okT2 g__law_rims (tRims.drop 30) = true))) | exact okT2_split 3 okRimsg_9 (by first | (rw [List.drop_drop]; exact (by rfl : okT2 g__law_rims (tRims.drop 30) = true)) | exact (by rfl : okT2 g__law_rims (tRims.drop 30) = true)))) | exact okT2_split 3 okRimsg_8 (by first | (rw [List.drop_drop]; exact okT2_split 3 okRimsg_9 (by first | (rw [List.drop_drop]; exact (by rfl : okT2 g__law_rims (tRims.drop 30) = true)) | exact (by rfl : okT2 g__law_rims (tRims.drop 30) = true))) | exact okT2_split 3 okRimsg_9 (by first | (rw [List.drop_drop]; exact (by rfl : okT2 g__law_rims (tRims.drop 30) = true)) | exact (by rfl : okT2 g__law_rims (tRims.drop 30) = true)))))) | exact okT2_split 3 okRimsg_6 (by first | (rw [List.drop_drop]; exact okT2_split 3 okRimsg_7 (by first | (rw [List.drop_drop]; exact okT2_split 3 okRimsg_8 (by first | (rw [List.drop_drop]; exact okT2_split 3 okRimsg_9 (by first | (rw [List.drop_drop]; exact (by rfl : okT2 g__law_rims (tRims.drop 30) = true)) | exact (by rfl : okT2 g__law_rims (tRims.drop 30) = true))) | exact okT2_split 3 okRimsg_9 (by first | (rw [List.drop_drop]; exact (by rfl : okT2 g__law_rims (tRims.drop 30) = true)) | exact (by rfl : okT2 g__law_rims (tRims.drop 30) = true)))) | exact okT2_split 3 okRimsg_8 (by first | (rw [List.drop_drop]; exact okT2_split 3 okRimsg_9 (by first | (rw [List.drop_drop]; exact (by rfl : okT2 g__law_rims (tRims.drop 30) = true)) | exact (by rfl : okT2 g__law_rims (tRims.drop 30) = true))) | exact okT2_split 3 okRimsg_9 (by first | (rw [List.drop_drop]; exact (by rfl : okT2 g__law_rims (tRims.drop 30) = true)) | exact (by rfl : okT2 g__law_rims (tRims.drop 30) = true))))) | exact okT2_split 3 okRimsg_7 (by first | (rw [List.drop_drop]; exact okT2_split 3 okRimsg_8 (by first | (rw [List.drop_drop]; exact okT2_split 3 okRimsg_9 (by first | (rw [List.drop_drop]; exact (by rfl : okT2 g__law_rims (tRims.drop 30) = true)) | exact (by rfl : okT2 g__law_rims (tRims.drop 30) = true))) | exact okT2_split 3 okRimsg_9 (by first | (rw [List.drop_drop]; exact (by rfl : okT2 g__law_rims (tRims.drop 30) = true)) | exact (by rfl : okT2 g__law_rims (tRims.drop 30) = true)))) | exact okT2_split 3 okRimsg_8 (by first | (rw [List.drop_drop]; exact okT2_split 3 okRimsg_9 (by first | (rw [List.drop_drop]; exact (by rfl : okT2 g__law_rims (tRims.drop 30) = true)) | exact (by rfl : okT2 g__law_rims (tRims.drop 30) = true))) | exact okT2_split 3 okRimsg_9 (by first | (rw [List.drop_drop]; exact (by rfl : okT2 g__law_rims (tRims.drop 30) = true)) | exact (by rfl : okT2 g__law_rims (tRims.drop 30) = true)))))))))))
end K64
end Sx

namespace Sx
namespace K64
open PySem PySem.Spec L2
def g__law_character (ds : List D) : RD := if ds.length = 2 then outD (mp__law_character (lookT2 tRims f__law_rims) (initS 9 ds)) else .no
theorem g__law_character_eq : g__law_character = f__law_character := by
  funext ds
  unfold g__law_character
  rw [lookT2_eq okRims]
  rfl
theorem okChiLg_0 : okT2 g__law_character ((tChiL.drop 0).take 8) = true := by decide +kernel
theorem okChiLg_1 : okT2 g__law_character ((tChiL.drop 8).take 8) = true := by decide +kernel
theorem okChiLg_2 : okT2 g__law_character ((tChiL.drop 16).take 8) = true := by decide +kernel
theorem okChiLg_3 : okT2 g__law_character ((tChiL.drop 24).take 8) = true := by decide +kernel
theorem okChiL : okT2 f__law_character tChiL = true := by
  rw [← g__law_character_eq]
  exact okT2_split 8 okChiLg_0 (okT2_split 8 okChiLg_1 (by first | (rw [List.drop_drop]; exact okT2_split 8 okChiLg_2 (by first | (rw [List.drop_drop]; exact okT2_split 8 okChiLg_3 (by first | (rw [List.drop_drop]; exact (by rfl : okT2 g__law_character (tChiL.drop 32) = true)) | exact (by rfl : okT2 g__law_character (tChiL.drop 32) = true))) | exact okT2_split 8 okChiLg_3 (by first | (rw [List.drop_drop]; exact (by rfl : okT2 g__law_character (tChiL.drop 32) = true)) | exact (by rfl : okT2 g__law_character (tChiL.drop 32) = true)))) | exact okT2_split 8 okChiLg_2 (by first | (rw [List.drop_drop]; exact okT2_split 8 okChiLg_3 (by first | (rw [List.drop_drop]; exact (by rfl : okT2 g__law_character (tChiL.drop 32) = true)) | exact (by rfl : okT2 g__law_character (tChiL.drop 32) = true))) | exact okT2_split 8 okChiLg_3 (by first | (rw [List.drop_drop]; exact (by rfl : okT2 g__law_character (tChiL.drop 32) = true)) | exact (by rfl : okT2 g__law_character (tChiL.drop 32) = true)))))
end K64
end Sx

namespace Sx
namespace K64
open PySem PySem.Spec L2
theorem okChi_0 : okT2 f_character_by ((tChi.drop 0).take 6) = true := by decide +kernel
theorem okChi_1 : okT2 f_character_by ((tChi.drop 6).take 6) = true := by decide +kernel
theorem okChi_2 : okT2 f_character_by ((tChi.drop 12).take 6) = true := by decide +kernel
theorem okChi_3 : okT2 f_character_by ((tChi.drop 18).take 6) = true := by decide +kernel
theorem okChi_4 : okT2 f_character_by ((tChi.drop 24).take 6) = true := by decide +kernel
theorem okChi : okT2 f_character_by tChi = true := okT2_split 6 okChi_0 (okT2_split 6 okChi_1 (by first | (rw [List.drop_drop]; exact okT2_split 6 okChi_2 (by first | (rw [List.drop_drop]; exact okT2_split 6 okChi_3 (by first | (rw [List.drop_drop]; exact okT2_split 6 okChi_4 (by first | (rw [List.drop_drop]; exact (by rfl : okT2 f_character_by (tChi.drop 30) = true)) | exact (by rfl : okT2 f_character_by (tChi.drop 30) = true))) | exact okT2_split 6 okChi_4 (by first | (rw [List.drop_drop]; exact (by rfl : okT2 f_character_by (tChi.drop 30) = true)) | exact (by rfl : okT2 f_character_by (tChi.drop 30) = true)))) | exact okT2_split 6 okChi_3 (by first | (rw [List.drop_drop]; exact okT2_split 6 okChi_4 (by first | (rw [List.drop_drop]; exact (by rfl : okT2 f_character_by (tChi.drop 30) = true)) | exact (by rfl : okT2 f_character_by (tChi.drop 30) = true))) | exact okT2_split 6 okChi_4 (by first | (rw [List.drop_drop]; exact (by rfl : okT2 f_character_by (tChi.drop 30) = true)) | exact (by rfl : okT2 f_character_by (tChi.drop 30) = true))))) | exact okT2_split 6 okChi_2 (by first | (rw [List.drop_drop]; exact okT2_split 6 okChi_3 (by first | (rw [List.drop_drop]; exact okT2_split 6 okChi_4 (by first | (rw [List.drop_drop]; exact (by rfl : okT2 f_character_by (tChi.drop 30) = true)) | exact (by rfl : okT2 f_character_by (tChi.drop 30) = true))) | exact okT2_split 6 okChi_4 (by first | (rw [List.drop_drop]; exact (by rfl : okT2 f_character_by (tChi.drop 30) = true)) | exact (by rfl : okT2 f_character_by (tChi.drop 30) = true)))) | exact okT2_split 6 okChi_3 (by first | (rw [List.drop_drop]; exact okT2_split 6 okChi_4 (by first | (rw [List.drop_drop]; exact (by rfl : okT2 f_character_by (tChi.drop 30) = true)) | exact (by rfl : okT2 f_character_by (tChi.drop 30) = true))) | exact okT2_split 6 okChi_4 (by first | (rw [List.drop_drop]; exact (by rfl : okT2 f_character_by (tChi.drop 30) = true)) | exact (by rfl : okT2 f_character_by (tChi.drop 30) = true))))))
theorem okFew_0 : okT f_few_from ((tFew.drop 0).take 20) = true := by decide +kernel
theorem okFew_1 : okT f_few_from ((tFew.drop 20).take 20) = true := by decide +kernel
theorem okFew_2 : okT f_few_from ((tFew.drop 40).take 20) = true := by decide +kernel
theorem okFew : okT f_few_from tFew = true := okT_split 20 okFew_0 (okT_split 20 okFew_1 (by first | (rw [List.drop_drop]; exact okT_split 20 okFew_2 (by first | (rw [List.drop_drop]; exact (by rfl : okT f_few_from (tFew.drop 60) = true)) | exact (by rfl : okT f_few_from (tFew.drop 60) = true))) | exact okT_split 20 okFew_2 (by first | (rw [List.drop_drop]; exact (by rfl : okT f_few_from (tFew.drop 60) = true)) | exact (by rfl : okT f_few_from (tFew.drop 60) = true))))
theorem okFall : okT f_falling_rows tFall = true := by decide +kernel
theorem okFact : okT f_factorial tFact = true := by decide +kernel
theorem okStays : okT f_stays_of tStays = true := by decide +kernel
theorem okFactL : okT f__law_factorial tFactL = true := by decide +kernel
theorem okStaysL : okT f__law_stays tStaysL = true := by decide +kernel
def g__law_kinds (ds : List D) : RD := if ds.length = 1 then outD (mp__law_kinds (lookT tShapes f__law_shapes) (initS 1 ds)) else .no
theorem g__law_kinds_eq : g__law_kinds = f__law_kinds := by
  funext ds
  unfold g__law_kinds
  rw [lookT_eq okShapes]
  rfl
theorem okKinds : okT f__law_kinds tKinds = true := by
  rw [← g__law_kinds_eq]
  decide +kernel
theorem okTurned : okT f__law_turned tTurned = true := by decide +kernel
end K64
end Sx

namespace Sx
namespace K64
open PySem PySem.Spec L2
def r_inner (c_character_by c_factorial c_falling_rows c_stays_of : List D → RD) : SF := sSeq (sSet 6 (op1 gSum (eV 3))) (sSeq (sIf (bOr (bE (op2 gNe (op1 gSum (eV 4)) (eV 6))) (bE (op2 gNe (op1 gSum (eV 5)) (eV 6)))) (sRaise "Unlike" ["what"] (aCons (eC (.str "boxes")) (aNil))) (sNext)) (sSeq (sSet 7 (eC (.int 0))) (sSeq (sFor (iSq (eCall c_falling_rows (aCons (eV 6) (aCons (eV 6) (aCons (eV 6) (aNil)))))) (tNm 8) (sSeq (sSet 9 (op2 gMul (op2 gMul (eCall c_character_by (aCons (eV 3) (aCons (eV 8) (aNil)))) (eCall c_character_by (aCons (eV 4) (aCons (eV 8) (aNil))))) (eCall c_character_by (aCons (eV 5) (aCons (eV 8) (aNil)))))) (sAug 7 (fun a b => a + b) (op2 gMul (eV 9) (op2 gDiv (eCall c_factorial (aCons (eV 6) (aNil))) (eCall c_stays_of (aCons (eV 8) (aNil)))))))) (sRet (op2 gDiv (eV 7) (eCall c_factorial (aCons (eV 6) (aNil))))))))
def v_inner (x y z a b c : D) : RD := outD (r_inner (lookT2 tChi f_character_by) (lookT tFact f_factorial) (lookT tFall f_falling_rows) (lookT tStays f_stays_of) ⟨[some (.fr x), some (.fr y), some (.fr z), some (.fr a), some (.fr b), some (.fr c), none, none, none, none], none⟩)
theorem inner_eq {x y z a b c : D} (ha : f_few_from [x] = .ok a) (hb : f_few_from [y] = .ok b) (hc : f_few_from [z] = .ok c) : f_inner_number [x, y, z] = v_inner x y z a b c := by
  unfold v_inner
  rw [lookT2_eq okChi, lookT_eq okFact, lookT_eq okFall, lookT_eq okStays]
  show outD (sSeq (sSet 3 (eCall f_few_from (aCons (eV 0) (aNil)))) (sSeq (sSet 4 (eCall f_few_from (aCons (eV 1) (aNil)))) (sSeq (sSet 5 (eCall f_few_from (aCons (eV 2) (aNil)))) (r_inner f_character_by f_factorial f_falling_rows f_stays_of))) (initS 10 [x, y, z])) = _
  simp [sSeq, sSet, eCall, aCons, aNil, eV, R.bind, getS, initS, fz, datsF, ha, hb, hc, asn, setS]
def g__law_own (ds : List D) : RD := if ds.length = 3 then outD (mp__law_own (lookT2 tChiL f__law_character) (lookT tFactL f__law_factorial) (lookT tKinds f__law_kinds) f__law_q (lookT tStaysL f__law_stays) (initS 7 ds)) else .no
theorem g__law_own_eq : g__law_own = f__law_own := by
  funext ds
  unfold g__law_own
  rw [lookT2_eq okChiL, lookT_eq okFactL, lookT_eq okKinds, lookT_eq okStaysL]
  rfl
def chk1 (g : Int → D) (f : D → RD) : List D → List Int → Bool
  | [], [] => true
  | c :: cs, n :: ns => rdS (f c) (.ok (g n)) && chk1 g f cs ns
  | _, _ => false
def chk2 (g : Int → D) (f : D → D → RD) : List D → List D → List (List Int) → Bool
  | [], _, [] => true
  | b :: bs, cs, r :: rs => chk1 g (f b) cs r && chk2 g f bs cs rs
  | _, _, _ => false
def gI (n : Int) : D := .int n
def gQ (n : Int) : D := .tuple [.int n, .int 1]
def own (a b c : D) : RD := g__law_own [a, b, c]
end K64
end Sx

namespace Sx
namespace K64
open PySem PySem.Spec L2
/-! inner_number and _law_own, by rows of characters -/
theorem cMul_small {i j : Int} (h : i.natAbs ≤ 1000000) (_ : True) : cMul i j = true := by
  unfold cMul
  rw [show decide (i.natAbs < 18446744073709551616) = true from decide_eq_true (by omega)]
  rfl
theorem cDiv_small {i j : Int} (h : 0 < j) (h2 : j ≤ 1000) : cDiv i j = true := by
  unfold cDiv
  rw [show decide (0 < j) = true from decide_eq_true h, show decide (j < 1073741824) = true from decide_eq_true (by omega)]
  rfl
def RowOk (f : List D → RD) (a : D) : List D → List Int → Prop
  | [], [] => True
  | k :: ks, i :: is => (f [a, k] = .ok (.int i) ∧ i.natAbs ≤ 100) ∧ RowOk f a ks is
  | _, _ => False
def RowZ (f : List D → RD) : List D → List Int → Prop
  | [], [] => True
  | k :: ks, z :: zs => (f [k] = .ok (.int z) ∧ 0 < z ∧ z ≤ 1000) ∧ RowZ f ks zs
  | _, _ => False
def dotI (F : Int) : List Int → List Int → List Int → List Int → Int → Int
  | i :: a, j :: b, l :: c, z :: zs, T => dotI F a b c zs (T + i * j * l * (F / z))
  | _, _, _, _, T => T
abbrev bodyI : SF := sSeq (sSet 9 (op2 gMul (op2 gMul (eCall f_character_by (aCons (eV 3) (aCons (eV 8) (aNil)))) (eCall f_character_by (aCons (eV 4) (aCons (eV 8) (aNil))))) (eCall f_character_by (aCons (eV 5) (aCons (eV 8) (aNil)))))) (sAug 7 (fun a b => a + b) (op2 gMul (eV 9) (op2 gDiv (eCall f_factorial (aCons (eV 6) (aNil))) (eCall f_stays_of (aCons (eV 8) (aNil))))))
theorem loopI {x y z a b c m : D} {F : Int} (hF0 : 0 ≤ F) (hF1 : F ≤ 1000) (hF : f_factorial [m] = .ok (.int F)) : ∀ (ks : List D) (ra rb rc zs : List Int) (T : Int) (u v : Option SV), RowOk f_character_by a ks ra → RowOk f_character_by b ks rb → RowOk f_character_by c ks rc → RowZ f_stays_of ks zs →
    ∃ u' v', loopD (tNm 8) bodyI (ks.map .d) ⟨[some (.fr x), some (.fr y), some (.fr z), some (.fr a), some (.fr b), some (.fr c), some (.fr m), some (.fr (.int T)), u, v], none⟩ =
      .ok .next ⟨[some (.fr x), some (.fr y), some (.fr z), some (.fr a), some (.fr b), some (.fr c), some (.fr m), some (.fr (.int (dotI F ra rb rc zs T))), u', v'], none⟩
  | [], [], [], [], [], T, u, v, _, _, _, _ => ⟨u, v, rfl⟩
  | k :: ks, i :: ra, j :: rb, l :: rc, w :: zs, T, u, v, ha, hb, hc, hz => by
    obtain ⟨⟨h1, q1⟩, ha⟩ := ha
    obtain ⟨⟨h2, q2⟩, hb⟩ := hb
    obtain ⟨⟨h3, q3⟩, hc⟩ := hc
    obtain ⟨⟨h4, h5, h6⟩, hz⟩ := hz
    obtain ⟨u', v', ih⟩ := loopI (x := x) (y := y) (z := z) hF0 hF1 hF ks ra rb rc zs (T + i * j * l * (F / w)) (some (.fr k)) (some (.fr (.int (i * j * l)))) ha hb hc hz
    refine ⟨u', v', ?_⟩
    have b1 : (i * j).natAbs ≤ 10000 := by rw [Int.natAbs_mul]; exact Nat.mul_le_mul q1 q2
    have b2 : (i * j * l).natAbs ≤ 1000000 := by rw [Int.natAbs_mul]; exact Nat.mul_le_mul b1 q3
    have m1 : cMul i j = true := cMul_small (by omega) trivial
    have m2 : cMul (i * j) l = true := cMul_small (by omega) trivial
    have m3 : cMul (i * j * l) (F / w) = true := cMul_small (by omega) trivial
    have m4 : cDiv F w = true := cDiv_small (by omega) (by omega)
    simp [loopD, tNm, bodyI, sSeq, sSet, eCall, aCons, aNil, eV, R.bind, getS, fz, datsF, asn, setS, op2, rdv, nod, gMul, gDiv, sAug, h1, h2, h3, h4, hF, m1, m2, m3, m4, ih, dotI]
  | [], _ :: _, _, _, _, _, _, _, h, _, _, _ => h.elim
  | [], [], _ :: _, _, _, _, _, _, _, h, _, _ => h.elim
  | [], [], [], _ :: _, _, _, _, _, _, _, h, _ => h.elim
  | [], [], [], [], _ :: _, _, _, _, _, _, _, h => h.elim
  | _ :: _, [], _, _, _, _, _, _, h, _, _, _ => h.elim
  | _ :: _, _ :: _, [], _, _, _, _, _, _, h, _, _ => h.elim
  | _ :: _, _ :: _, _ :: _, [], _, _, _, _, _, _, h, _ => h.elim
  | _ :: _, _ :: _, _ :: _, _ :: _, [], _, _, _, _, _, _, h => h.elim
end K64
end Sx

namespace Sx
namespace K64
open PySem PySem.Spec L2
theorem gNe_same (n : Int) : gNe (.int n) (.int n) = some (.fr (.bool false)) := by
  unfold gNe
  rw [if_pos (by simp [shal2, shal])]
  simp [PyData.eqv]
theorem inner_val {x y z : D} {la lb lc : List D} {n F : Int} {ks : List D} {ra rb rc zs : List Int} (hx : f_few_from [x] = .ok (.tuple la)) (hy : f_few_from [y] = .ok (.tuple lb)) (hz : f_few_from [z] = .ok (.tuple lc))
    (sa : gSum (.tuple la) = some (.fr (.int n))) (sb : gSum (.tuple lb) = some (.fr (.int n))) (sc : gSum (.tuple lc) = some (.fr (.int n))) (hk : f_falling_rows [.int n, .int n, .int n] = .ok (.list ks)) (hF : f_factorial [.int n] = .ok (.int F)) (F0 : 0 < F) (F1 : F ≤ 1000)
    (oa : RowOk f_character_by (.tuple la) ks ra) (ob : RowOk f_character_by (.tuple lb) ks rb) (oc : RowOk f_character_by (.tuple lc) ks rc) (oz : RowZ f_stays_of ks zs) : f_inner_number [x, y, z] = .ok (.int (dotI F ra rb rc zs 0 / F)) := by
  obtain ⟨u', v', lp⟩ := loopI (x := x) (y := y) (z := z) (by omega) F1 hF ks ra rb rc zs 0 none none oa ob oc oz
  have m4 : cDiv (dotI F ra rb rc zs 0) F = true := cDiv_small F0 F1
  simp [f_inner_number, m_inner_number, mp_inner_number, sSeq, sSet, eCall, aCons, aNil, eV, eC, R.bind, getS, initS, fz, datsF, asn, setS, op1, op2, rdv, nod, hx, hy, hz, sa, sb, sc, sIf, bOr, bE, gNe_same, sNext, sFor, iSq, hk, lp, sRet, hF, gDiv, m4, outD]
theorem cMul_r {i j : Int} (h : j.natAbs ≤ 100) : cMul i j = true := by
  unfold cMul
  rw [show decide (j.natAbs < 18446744073709551616) = true from decide_eq_true (by omega), Bool.or_true]
theorem arithL {F w i j l : Int} (hF0 : 0 ≤ F) (hF1 : F ≤ 1000) (h5 : 0 < w) (h6 : w ≤ 1000) (q1 : i.natAbs ≤ 100) (q2 : j.natAbs ≤ 100) (q3 : l.natAbs ≤ 100) : cMul (F / w) i = true ∧ cMul (F / w * i) j = true ∧ cMul (F / w * i * j) l = true ∧ cDiv F w = true ∧ F / w * i * j * l = i * j * l * (F / w) :=
  ⟨cMul_r q1, cMul_r q2, cMul_r q3, cDiv_small h5 h6, by rw [Int.mul_comm (i * j * l), Int.mul_assoc, Int.mul_assoc, ← Int.mul_assoc i j l]⟩
theorem seq_next {f g : SF} {s s1 : AS} (h : f s = .ok .next s1) : sSeq f g s = g s1 := by unfold sSeq; rw [h]
theorem seq_last {f : SF} {s s1 : AS} {x : SV} (h : f s = .ok (.ret x) s1) : f s = .ok (.ret x) s1 := h
theorem gAdd_i {i j : Int} : gAdd (.int i) (.int j) = some (.fr (.int (i + j))) := rfl
theorem gMul_i {i j : Int} (h : cMul i j = true) : gMul (.int i) (.int j) = some (.fr (.int (i * j))) := by unfold gMul; exact if_pos h
theorem gDiv_i {i j : Int} (h : cDiv i j = true) : gDiv (.int i) (.int j) = some (.fr (.int (i / j))) := by unfold gDiv; exact if_pos h
abbrev bodyL : SF := sSeq (sSet 6 (op2 gDiv (eCall f__law_factorial (aCons (eV 3) (aNil))) (eCall f__law_stays (aCons (eV 5) (aNil))))) (sSet 4 (op2 gAdd (eV 4) (op2 gMul (op2 gMul (op2 gMul (eV 6) (eCall f__law_character (aCons (eV 0) (aCons (eV 5) (aNil))))) (eCall f__law_character (aCons (eV 1) (aCons (eV 5) (aNil))))) (eCall f__law_character (aCons (eV 2) (aCons (eV 5) (aNil)))))))
theorem stepL {a b c m k : D} {F T w i j l : Int} {u v : Option SV} (hF0 : 0 ≤ F) (hF1 : F ≤ 1000) (hF : f__law_factorial [m] = .ok (.int F)) (h1 : f__law_character [a, k] = .ok (.int i)) (h2 : f__law_character [b, k] = .ok (.int j)) (h3 : f__law_character [c, k] = .ok (.int l)) (h4 : f__law_stays [k] = .ok (.int w))
    (m1 : gMul (.int (F / w)) (.int i) = some (.fr (.int (F / w * i)))) (m2 : gMul (.int (F / w * i)) (.int j) = some (.fr (.int (F / w * i * j)))) (m3 : gMul (.int (F / w * i * j)) (.int l) = some (.fr (.int (F / w * i * j * l)))) (m4 : gDiv (.int F) (.int w) = some (.fr (.int (F / w)))) :
    bodyL ⟨[some (.fr a), some (.fr b), some (.fr c), some (.fr m), some (.fr (.int T)), some (.fr k), v], none⟩ = .ok .next ⟨[some (.fr a), some (.fr b), some (.fr c), some (.fr m), some (.fr (.int (T + F / w * i * j * l))), some (.fr k), some (.fr (.int (F / w)))], none⟩ := by
  have s1 : sSet 6 (op2 gDiv (eCall f__law_factorial (aCons (eV 3) (aNil))) (eCall f__law_stays (aCons (eV 5) (aNil)))) ⟨[some (.fr a), some (.fr b), some (.fr c), some (.fr m), some (.fr (.int T)), some (.fr k), v], none⟩ = .ok .next ⟨[some (.fr a), some (.fr b), some (.fr c), some (.fr m), some (.fr (.int T)), some (.fr k), some (.fr (.int (F / w)))], none⟩ := by
    simp [sSet, eCall, aCons, aNil, eV, R.bind, getS, fz, datsF, asn, setS, op2, rdv, nod, h4, hF, m4]
  have s2 : sSet 4 (op2 gAdd (eV 4) (op2 gMul (op2 gMul (op2 gMul (eV 6) (eCall f__law_character (aCons (eV 0) (aCons (eV 5) (aNil))))) (eCall f__law_character (aCons (eV 1) (aCons (eV 5) (aNil))))) (eCall f__law_character (aCons (eV 2) (aCons (eV 5) (aNil)))))) ⟨[some (.fr a), some (.fr b), some (.fr c), some (.fr m), some (.fr (.int T)), some (.fr k), some (.fr (.int (F / w)))], none⟩ = .ok .next ⟨[some (.fr a), some (.fr b), some (.fr c), some (.fr m), some (.fr (.int (T + F / w * i * j * l))), some (.fr k), some (.fr (.int (F / w)))], none⟩ := by
    simp [sSet, eCall, aCons, aNil, eV, R.bind, getS, fz, datsF, asn, setS, op2, rdv, nod, gAdd_i, h1, h2, h3, m1, m2, m3]
  unfold bodyL sSeq
  rw [s1]
  exact s2
theorem loopL {a b c m : D} {F : Int} (hF0 : 0 ≤ F) (hF1 : F ≤ 1000) (hF : f__law_factorial [m] = .ok (.int F)) : ∀ (ks : List D) (ra rb rc zs : List Int) (T : Int) (u v : Option SV), RowOk f__law_character a ks ra → RowOk f__law_character b ks rb → RowOk f__law_character c ks rc → RowZ f__law_stays ks zs →
    ∃ u' v', loopD (tNm 5) bodyL (ks.map .d) ⟨[some (.fr a), some (.fr b), some (.fr c), some (.fr m), some (.fr (.int T)), u, v], none⟩ =
      .ok .next ⟨[some (.fr a), some (.fr b), some (.fr c), some (.fr m), some (.fr (.int (dotI F ra rb rc zs T))), u', v'], none⟩
  | [], [], [], [], [], T, u, v, _, _, _, _ => ⟨u, v, rfl⟩
  | k :: ks, i :: ra, j :: rb, l :: rc, w :: zs, T, u, v, ha, hb, hc, hz => by
    obtain ⟨⟨h1, q1⟩, ha⟩ := ha
    obtain ⟨⟨h2, q2⟩, hb⟩ := hb
    obtain ⟨⟨h3, q3⟩, hc⟩ := hc
    obtain ⟨⟨h4, h5, h6⟩, hz⟩ := hz
    obtain ⟨u', v', ih⟩ := loopL hF0 hF1 hF ks ra rb rc zs (T + i * j * l * (F / w)) (some (.fr k)) (some (.fr (.int (F / w)))) ha hb hc hz
    refine ⟨u', v', ?_⟩
    obtain ⟨m1, m2, m3, m4, e5⟩ := arithL hF0 hF1 h5 h6 q1 q2 q3
    have m1 := gMul_i m1
    have m2 := gMul_i m2
    have m3 := gMul_i m3
    have m4 := gDiv_i m4
    have st := stepL (u := u) (a := a) (b := b) (c := c) (T := T) (v := v) hF0 hF1 hF h1 h2 h3 h4 m1 m2 m3 m4
    rw [e5] at st
    rw [List.map_cons, loopD]
    rw [show tNm 5 (.d k) ⟨[some (.fr a), some (.fr b), some (.fr c), some (.fr m), some (.fr (.int T)), u, v], none⟩ = some ⟨[some (.fr a), some (.fr b), some (.fr c), some (.fr m), some (.fr (.int T)), some (.fr k), v], none⟩ from rfl]
    dsimp only
    rw [st]
    exact ih
  | [], _ :: _, _, _, _, _, _, _, h, _, _, _ => h.elim
  | [], [], _ :: _, _, _, _, _, _, _, h, _, _ => h.elim
  | [], [], [], _ :: _, _, _, _, _, _, _, h, _ => h.elim
  | [], [], [], [], _ :: _, _, _, _, _, _, _, h => h.elim
  | _ :: _, [], _, _, _, _, _, _, h, _, _, _ => h.elim
  | _ :: _, _ :: _, [], _, _, _, _, _, _, h, _, _ => h.elim
  | _ :: _, _ :: _, _ :: _, [], _, _, _, _, _, _, h, _ => h.elim
  | _ :: _, _ :: _, _ :: _, _ :: _, [], _, _, _, _, _, _, h => h.elim
theorem own1 {la lb lc : List D} {n : Int} (sa : gSum (.tuple la) = some (.fr (.int n))) : sPar 3 4 (op1 gSum (eV 0)) (eC (.int 0)) ⟨[some (.fr (.tuple la)), some (.fr (.tuple lb)), some (.fr (.tuple lc)), none, none, none, none], none⟩ = .ok .next ⟨[some (.fr (.tuple la)), some (.fr (.tuple lb)), some (.fr (.tuple lc)), some (.fr (.int n)), some (.fr (.int 0)), none, none], none⟩ := by
    simp [sPar, eV, eC, R.bind, getS, asn, setS, op1, rdv, nod, nob, sa]
theorem own2 {a b c : D} {n : Int} {ks : List D} {r : R Fl} (hk : f__law_kinds [.int n] = .ok (.list ks)) (lp : loopD (tNm 5) bodyL (ks.map .d) ⟨[some (.fr a), some (.fr b), some (.fr c), some (.fr (.int n)), some (.fr (.int 0)), none, none], none⟩ = r) :
    sFor (iSq (eCall f__law_kinds (aCons (eV 3) (aNil)))) (tNm 5) bodyL ⟨[some (.fr a), some (.fr b), some (.fr c), some (.fr (.int n)), some (.fr (.int 0)), none, none], none⟩ = r := by
  have h : iSq (eCall f__law_kinds (aCons (eV 3) (aNil))) ⟨[some (.fr a), some (.fr b), some (.fr c), some (.fr (.int n)), some (.fr (.int 0)), none, none], none⟩ = .ok (ks.map .d) ⟨[some (.fr a), some (.fr b), some (.fr c), some (.fr (.int n)), some (.fr (.int 0)), none, none], none⟩ := by
    simp [iSq, eCall, aCons, aNil, eV, R.bind, getS, fz, datsF, hk]
  unfold sFor
  rw [h]
  exact lp
theorem own3 {g h : List D → RD} {a b c q : D} {n T F : Int} {u v : Option SV} (hF : h [.int n] = .ok (.int F)) (hq : g [.int T, .int F] = .ok q) : sRet (eCall g (aCons (eV 4) (aCons (eCall h (aCons (eV 3) (aNil))) (aNil)))) ⟨[some (.fr a), some (.fr b), some (.fr c), some (.fr (.int n)), some (.fr (.int T)), u, v], none⟩ = .ok (.ret (.fr q)) ⟨[some (.fr a), some (.fr b), some (.fr c), some (.fr (.int n)), some (.fr (.int T)), u, v], none⟩ := by
    simp [sRet, eCall, aCons, aNil, eV, R.bind, getS, fz, datsF, hF, hq]
theorem own4a {x y z : D} : f__law_own [x, y, z] = outD (m__law_own (initS 7 [x, y, z])) := by
  rw [f__law_own, if_pos]
  rfl
theorem own4b : m__law_own = sSeq (sPar 3 4 (op1 gSum (eV 0)) (eC (.int 0))) (sSeq (sFor (iSq (eCall f__law_kinds (aCons (eV 3) (aNil)))) (tNm 5) bodyL) (sRet (eCall f__law_q (aCons (eV 4) (aCons (eCall f__law_factorial (aCons (eV 3) (aNil))) (aNil)))))) := rfl
theorem own4c {x y z : D} : initS 7 [x, y, z] = ⟨[some (.fr x), some (.fr y), some (.fr z), none, none, none, none], none⟩ := rfl
theorem own_val {la lb lc : List D} {n F : Int} {ks : List D} {ra rb rc zs : List Int} (sa : gSum (.tuple la) = some (.fr (.int n))) (hk : f__law_kinds [.int n] = .ok (.list ks)) (hF : f__law_factorial [.int n] = .ok (.int F)) (F0 : 0 < F) (F1 : F ≤ 1000)
    (oa : RowOk f__law_character (.tuple la) ks ra) (ob : RowOk f__law_character (.tuple lb) ks rb) (oc : RowOk f__law_character (.tuple lc) ks rc) (oz : RowZ f__law_stays ks zs) {q : D} (hq : f__law_q [.int (dotI F ra rb rc zs 0), .int F] = .ok q) : f__law_own [.tuple la, .tuple lb, .tuple lc] = .ok q := by
  obtain ⟨u', v', lp⟩ := loopL (by omega) F1 hF ks ra rb rc zs 0 none none oa ob oc oz
  have eo : ∀ s, outD (.ok (.ret (.fr q)) s) = .ok q := fun _ => rfl
  rw [own4a, own4c, own4b, seq_next (own1 sa), seq_next (own2 hk lp), own3 hF hq, eo]
end K64
end Sx

namespace Sx
namespace K64
open PySem PySem.Spec L2
variable (dr sh pa shf : List D → Pen → RN) (ow tu inn : List D → RD)
def q_0 : SF := sSet 1 (eCallN dr (aCons (eV 0) (aCons (eC (.int 7)) (aNil))))
def q_1 : SF := sSet 2 (eLc (iRg rg1 (aCons (eC (.int 3)) (aNil))) (tNm 7) bYes (eCallN sh (aCons (eV 0) (aCons (eV 1) (aCons (eC (.int 6)) (aNil))))) [7])
def q_2 : SF := sSet 3 (eCall inn (aCons (eCallN pa (aCons (eV 0) (aCons (op2 gIx (eV 2) (eC (.int 0))) (aNil)))) (aCons (op2 gIx (eV 2) (eC (.int 1))) (aCons (eCallN pa (aCons (eV 0) (aCons (op2 gIx (eV 2) (eC (.int 2))) (aNil)))) (aNil)))))
def q_3 : SF := sIf (bOr (bE (eRE false (eTup (aCons (eV 3) (aCons (eC (.int 1)) (aNil)))) (eCall ow (aCons (op2 gIx (eV 2) (eC (.int 0))) (aCons (op2 gIx (eV 2) (eC (.int 1))) (aCons (op2 gIx (eV 2) (eC (.int 2))) (aNil))))))) (bE (op2 gLt (eV 3) (eC (.int 0))))) (sRet (eC (.bool false))) (sNext)
def q_4 : SF := sSet 4 (eCallN shf (aCons (eV 0) (aCons (eV 2) (aNil))))
def q_5 : SF := sIf (bOr (bE (op2 gNe (eCall inn (aCons (op2 gIx (eV 4) (eC (.int 0))) (aCons (op2 gIx (eV 4) (eC (.int 1))) (aCons (op2 gIx (eV 4) (eC (.int 2))) (aNil))))) (eV 3))) (bE (op2 gNe (eCall inn (aCons (eCall tu (aCons (op2 gIx (eV 2) (eC (.int 0))) (aNil))) (aCons (eCall tu (aCons (op2 gIx (eV 2) (eC (.int 1))) (aNil))) (aCons (op2 gIx (eV 2) (eC (.int 2))) (aNil))))) (eV 3)))) (sRet (eC (.bool false))) (sNext)
def q_6 : SF := sPar 5 6 (eIf (bE (op2 gGt (eV 1) (eC (.int 0)))) (eTup (aCons (eV 1) (aNil))) (eTup (aNil))) (op2 gMul (eTup (aCons (eC (.int 1)) (aNil))) (eV 1))
def q_7 : SF := sIf (bE (op2 gNe (eCall inn (aCons (eV 5) (aCons (op2 gIx (eV 2) (eC (.int 0))) (aCons (op2 gIx (eV 2) (eC (.int 1))) (aNil))))) (op1 gInt (op2 gEq (op2 gIx (eV 2) (eC (.int 0))) (op2 gIx (eV 2) (eC (.int 1))))))) (sRet (eC (.bool false))) (sNext)
def q_8 : SF := sRet (op2 gEq (eCall inn (aCons (op2 gIx (eV 2) (eC (.int 0))) (aCons (eV 6) (aCons (op2 gIx (eV 2) (eC (.int 1))) (aNil))))) (op1 gInt (op2 gEq (op2 gIx (eV 2) (eC (.int 0))) (eCall tu (aCons (op2 gIx (eV 2) (eC (.int 1))) (aNil))))))
variable {dr sh pa shf : List D → Pen → RN} {ow tu inn : List D → RD} {p0 p1 p2 p3 p4 p5 p6 p7 : Pen} {la lb lc : List D} {n N : Int} {x y o0 o1 o2 ta tb rw cl : D}
theorem at0 {a b c : D} : atI [a, b, c] 0 = some a := rfl
theorem at1 {a b c : D} : atI [a, b, c] 1 = some b := rfl
theorem at2 {a b c : D} : atI [a, b, c] 2 = some c := rfl
theorem r3 : List.range 3 = [0, 1, 2] := rfl
theorem gEq_same (n : Int) : gEq (.int n) (.int n) = some (.fr (.bool true)) := by
  unfold gEq
  rw [if_pos (by simp [shal2, shal])]
  simp [PyData.eqv]
theorem l0 (h : dr [.int 7] p0 = .ok (.int n) p1) : q_0 dr ⟨[some .pen, none, none, none, none, none, none, none], some p0⟩ = .ok .next ⟨[some .pen, some (.fr (.int n)), none, none, none, none, none, none], some p1⟩ := by
  simp [q_0, sSeq, sSet, sPar, sIf, sRet, sNext, eCall, eCallN, eLc, lcD, R.bind, R.bindN, aCons, aNil, eV, eC, eTup, eTup.datsOf, eIf, eRE, bOr, bE, bYes, op1, op2, gIx, iRg, rg1, rangeD, big, tNm, asn, nob, fz, rdv, nod, getS, setS, setP, wipeA, delS, datsF, intsS, szOk, at0, at1, at2, r3, h]
theorem l1 (h1 : sh [.int n, .int 6] p1 = .ok (.tuple la) p2) (h2 : sh [.int n, .int 6] p2 = .ok (.tuple lb) p3) (h3 : sh [.int n, .int 6] p3 = .ok (.tuple lc) p4) : q_1 sh ⟨[some .pen, some (.fr (.int n)), none, none, none, none, none, none], some p1⟩ = .ok .next ⟨[some .pen, some (.fr (.int n)), some (.ol [.tuple la, .tuple lb, .tuple lc]), none, none, none, none, none], some p4⟩ := by
  simp [q_1, sSeq, sSet, sPar, sIf, sRet, sNext, eCall, eCallN, eLc, lcD, R.bind, R.bindN, aCons, aNil, eV, eC, eTup, eTup.datsOf, eIf, eRE, bOr, bE, bYes, op1, op2, gIx, iRg, rg1, rangeD, big, tNm, asn, nob, fz, rdv, nod, getS, setS, setP, wipeA, delS, datsF, intsS, szOk, at0, at1, at2, r3, h1, h2, h3]
theorem l2 (h1 : pa [.tuple la] p4 = .ok x p5) (h2 : pa [.tuple lc] p5 = .ok y p6) (h3 : inn [x, .tuple lb, y] = .ok (.int N)) : q_2 pa inn ⟨[some .pen, some (.fr (.int n)), some (.ol [.tuple la, .tuple lb, .tuple lc]), none, none, none, none, none], some p4⟩ = .ok .next ⟨[some .pen, some (.fr (.int n)), some (.ol [.tuple la, .tuple lb, .tuple lc]), some (.fr (.int N)), none, none, none, none], some p6⟩ := by
  simp [q_2, sSeq, sSet, sPar, sIf, sRet, sNext, eCall, eCallN, eLc, lcD, R.bind, R.bindN, aCons, aNil, eV, eC, eTup, eTup.datsOf, eIf, eRE, bOr, bE, bYes, op1, op2, gIx, iRg, rg1, rangeD, big, tNm, asn, nob, fz, rdv, nod, getS, setS, setP, wipeA, delS, datsF, intsS, szOk, at0, at1, at2, r3, h1, h2, h3]
theorem l3 (h1 : ow [.tuple la, .tuple lb, .tuple lc] = .ok (.tuple [.int N, .int 1])) (h2 : reOk (.tuple [.int N, .int 1]) = true) (h3 : 0 ≤ N) : q_3 ow ⟨[some .pen, some (.fr (.int n)), some (.ol [.tuple la, .tuple lb, .tuple lc]), some (.fr (.int N)), none, none, none, none], some p6⟩ = .ok .next ⟨[some .pen, some (.fr (.int n)), some (.ol [.tuple la, .tuple lb, .tuple lc]), some (.fr (.int N)), none, none, none, none], some p6⟩ := by
  have h4 : ¬ N < 0 := by omega
  have hs : dSame (.tuple [.int N, .int 1]) (.tuple [.int N, .int 1]) = true := by simp [dSame, dSames]
  simp [q_3, sSeq, sSet, sPar, sIf, sRet, sNext, eCall, eCallN, eLc, lcD, R.bind, R.bindN, aCons, aNil, eV, eC, eTup, eTup.datsOf, eIf, eRE, bOr, bE, bYes, op1, op2, gIx, iRg, rg1, rangeD, big, tNm, asn, nob, fz, rdv, nod, getS, setS, setP, wipeA, delS, datsF, intsS, szOk, at0, at1, at2, r3, h1, h2, hs, gLt, h4]
theorem l4 (h1 : shf [.list [.tuple la, .tuple lb, .tuple lc]] p6 = .ok (.list [o0, o1, o2]) p7) : q_4 shf ⟨[some .pen, some (.fr (.int n)), some (.ol [.tuple la, .tuple lb, .tuple lc]), some (.fr (.int N)), none, none, none, none], some p6⟩ = .ok .next ⟨[some .pen, some (.fr (.int n)), some (.fr (.list [.tuple la, .tuple lb, .tuple lc])), some (.fr (.int N)), some (.fr (.list [o0, o1, o2])), none, none, none], some p7⟩ := by
  simp [q_4, sSeq, sSet, sPar, sIf, sRet, sNext, eCall, eCallN, eLc, lcD, R.bind, R.bindN, aCons, aNil, eV, eC, eTup, eTup.datsOf, eIf, eRE, bOr, bE, bYes, op1, op2, gIx, iRg, rg1, rangeD, big, tNm, asn, nob, fz, rdv, nod, getS, setS, setP, wipeA, delS, datsF, intsS, szOk, at0, at1, at2, r3, h1]
theorem l5 (h1 : inn [o0, o1, o2] = .ok (.int N)) (h2 : tu [.tuple la] = .ok ta) (h3 : tu [.tuple lb] = .ok tb) (h4 : inn [ta, tb, .tuple lc] = .ok (.int N)) : q_5 tu inn ⟨[some .pen, some (.fr (.int n)), some (.fr (.list [.tuple la, .tuple lb, .tuple lc])), some (.fr (.int N)), some (.fr (.list [o0, o1, o2])), none, none, none], some p7⟩ = .ok .next ⟨[some .pen, some (.fr (.int n)), some (.fr (.list [.tuple la, .tuple lb, .tuple lc])), some (.fr (.int N)), some (.fr (.list [o0, o1, o2])), none, none, none], some p7⟩ := by
  simp [q_5, sSeq, sSet, sPar, sIf, sRet, sNext, eCall, eCallN, eLc, lcD, R.bind, R.bindN, aCons, aNil, eV, eC, eTup, eTup.datsOf, eIf, eRE, bOr, bE, bYes, op1, op2, gIx, iRg, rg1, rangeD, big, tNm, asn, nob, fz, rdv, nod, getS, setS, setP, wipeA, delS, datsF, intsS, szOk, at0, at1, at2, r3, h1, h2, h3, h4, gNe_same]
theorem l7 {e : Bool} (h1 : inn [rw, .tuple la, .tuple lb] = .ok (.int (if e then 1 else 0))) (h2 : gEq (.tuple la) (.tuple lb) = some (.fr (.bool e))) : q_7 inn ⟨[some .pen, some (.fr (.int n)), some (.fr (.list [.tuple la, .tuple lb, .tuple lc])), some (.fr (.int N)), some (.fr (.list [o0, o1, o2])), some (.fr rw), some (.fr cl), none], some p7⟩ = .ok .next ⟨[some .pen, some (.fr (.int n)), some (.fr (.list [.tuple la, .tuple lb, .tuple lc])), some (.fr (.int N)), some (.fr (.list [o0, o1, o2])), some (.fr rw), some (.fr cl), none], some p7⟩ := by
  simp [q_7, sSeq, sSet, sPar, sIf, sRet, sNext, eCall, eCallN, eLc, lcD, R.bind, R.bindN, aCons, aNil, eV, eC, eTup, eTup.datsOf, eIf, eRE, bOr, bE, bYes, op1, op2, gIx, iRg, rg1, rangeD, big, tNm, asn, nob, fz, rdv, nod, getS, setS, setP, wipeA, delS, datsF, intsS, szOk, at0, at1, at2, r3, h1, h2, gInt, gNe_same]
theorem l8 {e : Bool} (h1 : inn [.tuple la, cl, .tuple lb] = .ok (.int (if e then 1 else 0))) {lt : List D} (h0 : tu [.tuple lb] = .ok (.tuple lt)) (h2 : gEq (.tuple la) (.tuple lt) = some (.fr (.bool e))) : q_8 tu inn ⟨[some .pen, some (.fr (.int n)), some (.fr (.list [.tuple la, .tuple lb, .tuple lc])), some (.fr (.int N)), some (.fr (.list [o0, o1, o2])), some (.fr rw), some (.fr cl), none], some p7⟩ = .ok (.ret (.fr (.bool true))) ⟨[some .pen, some (.fr (.int n)), some (.fr (.list [.tuple la, .tuple lb, .tuple lc])), some (.fr (.int N)), some (.fr (.list [o0, o1, o2])), some (.fr rw), some (.fr cl), none], some p7⟩ := by
  simp [q_8, sSeq, sRet, eCall, R.bind, aCons, aNil, eV, eC, op1, op2, gIx, fz, getS, datsF, at0, at1, at2, rdv, nod, h1, h0, h2, gInt, gEq_same]
end K64
end Sx

namespace Sx
namespace K64
open PySem PySem.Spec L2
/-- a shape: its rows, its characters (the program's, the law's), itself turned -/
structure ShI where
  l : List Int
  r : List Int
  q : List Int
  t : List Int
structure SzI where
  n : Nat
  F : Int
  zs : List Int
  sh : List ShI
def sz0 : SzI := ⟨0, 1, [1], [
  ⟨[], [1], [1], []⟩]⟩
def sz1 : SzI := ⟨1, 1, [1], [
  ⟨[1], [1], [1], [1]⟩]⟩
def sz2 : SzI := ⟨2, 2, [2, 2], [
  ⟨[1, 1], [1, -1], [1, -1], [2]⟩,
  ⟨[2], [1, 1], [1, 1], [1, 1]⟩]⟩
def sz3 : SzI := ⟨3, 6, [6, 2, 3], [
  ⟨[1, 1, 1], [1, -1, 1], [1, -1, 1], [3]⟩,
  ⟨[2, 1], [2, 0, -1], [2, 0, -1], [2, 1]⟩,
  ⟨[3], [1, 1, 1], [1, 1, 1], [1, 1, 1]⟩]⟩
def sz4 : SzI := ⟨4, 24, [24, 4, 8, 3, 4], [
  ⟨[1, 1, 1, 1], [1, -1, 1, 1, -1], [1, -1, 1, 1, -1], [4]⟩,
  ⟨[2, 1, 1], [3, -1, -1, 0, 1], [3, -1, -1, 0, 1], [3, 1]⟩,
  ⟨[2, 2], [2, 0, 2, -1, 0], [2, 0, 2, -1, 0], [2, 2]⟩,
  ⟨[3, 1], [3, 1, -1, 0, -1], [3, 1, -1, 0, -1], [2, 1, 1]⟩,
  ⟨[4], [1, 1, 1, 1, 1], [1, 1, 1, 1, 1], [1, 1, 1, 1]⟩]⟩
def sz5 : SzI := ⟨5, 120, [120, 12, 8, 6, 6, 4, 5], [
  ⟨[1, 1, 1, 1, 1], [1, -1, 1, 1, -1, -1, 1], [1, -1, 1, 1, -1, -1, 1], [5]⟩,
  ⟨[2, 1, 1, 1], [4, -2, 0, 1, 1, 0, -1], [4, -2, 0, 1, 1, 0, -1], [4, 1]⟩,
  ⟨[2, 2, 1], [5, -1, 1, -1, -1, 1, 0], [5, -1, 1, -1, -1, 1, 0], [3, 2]⟩,
  ⟨[3, 1, 1], [6, 0, -2, 0, 0, 0, 1], [6, 0, -2, 0, 0, 0, 1], [3, 1, 1]⟩,
  ⟨[3, 2], [5, 1, 1, -1, 1, -1, 0], [5, 1, 1, -1, 1, -1, 0], [2, 2, 1]⟩,
  ⟨[4, 1], [4, 2, 0, 1, -1, 0, -1], [4, 2, 0, 1, -1, 0, -1], [2, 1, 1, 1]⟩,
  ⟨[5], [1, 1, 1, 1, 1, 1, 1], [1, 1, 1, 1, 1, 1, 1], [1, 1, 1, 1, 1]⟩]⟩
def sz6 : SzI := ⟨6, 720, [720, 48, 16, 48, 18, 6, 18, 8, 8, 5, 6], [
  ⟨[1, 1, 1, 1, 1, 1], [1, -1, 1, -1, 1, -1, 1, -1, 1, 1, -1], [1, -1, 1, -1, 1, -1, 1, -1, 1, 1, -1], [6]⟩,
  ⟨[2, 1, 1, 1, 1], [5, -3, 1, 1, 2, 0, -1, -1, -1, 0, 1], [5, -3, 1, 1, 2, 0, -1, -1, -1, 0, 1], [5, 1]⟩,
  ⟨[2, 2, 1, 1], [9, -3, 1, -3, 0, 0, 0, 1, 1, -1, 0], [9, -3, 1, -3, 0, 0, 0, 1, 1, -1, 0], [4, 2]⟩,
  ⟨[2, 2, 2], [5, -1, 1, 3, -1, -1, 2, 1, -1, 0, 0], [5, -1, 1, 3, -1, -1, 2, 1, -1, 0, 0], [3, 3]⟩,
  ⟨[3, 1, 1, 1], [10, -2, -2, 2, 1, 1, 1, 0, 0, 0, -1], [10, -2, -2, 2, 1, 1, 1, 0, 0, 0, -1], [4, 1, 1]⟩,
  ⟨[3, 2, 1], [16, 0, 0, 0, -2, 0, -2, 0, 0, 1, 0], [16, 0, 0, 0, -2, 0, -2, 0, 0, 1, 0], [3, 2, 1]⟩,
  ⟨[3, 3], [5, 1, 1, -3, -1, 1, 2, -1, -1, 0, 0], [5, 1, 1, -3, -1, 1, 2, -1, -1, 0, 0], [2, 2, 2]⟩,
  ⟨[4, 1, 1], [10, 2, -2, -2, 1, -1, 1, 0, 0, 0, 1], [10, 2, -2, -2, 1, -1, 1, 0, 0, 0, 1], [3, 1, 1, 1]⟩,
  ⟨[4, 2], [9, 3, 1, 3, 0, 0, 0, -1, 1, -1, 0], [9, 3, 1, 3, 0, 0, 0, -1, 1, -1, 0], [2, 2, 1, 1]⟩,
  ⟨[5, 1], [5, 3, 1, -1, 2, 0, -1, 1, -1, 0, -1], [5, 3, 1, -1, 2, 0, -1, 1, -1, 0, -1], [2, 1, 1, 1, 1]⟩,
  ⟨[6], [1, 1, 1, 1, 1, 1, 1, 1, 1, 1, 1], [1, 1, 1, 1, 1, 1, 1, 1, 1, 1, 1], [1, 1, 1, 1, 1, 1]⟩]⟩
def SZs : List SzI := [sz0, sz1, sz2, sz3, sz4, sz5, sz6]
def iD (l : List Int) : List D := l.map .int
def isD (o : Option D) (d : D) : Bool := match o with
  | some x => dSame x d
  | none => false
def rowB (T : Tb2) (a : D) : List D → List Int → Bool
  | [], [] => true
  | k :: ks, i :: r => (match lkT2 T a [k] with
    | some (.int x) => decide (x = i) && decide (i.natAbs ≤ 100)
    | _ => false) && rowB T a ks r
  | _, _ => false
def zsB (T : Tb) : List D → List Int → Bool
  | [], [] => true
  | k :: ks, i :: r => (match lkT T [k] with
    | some (.int x) => decide (x = i) && decide (0 < i) && decide (i ≤ 1000)
    | _ => false) && zsB T ks r
  | _, _ => false
def ksOf (z : SzI) : List D := z.sh.map fun s => .tuple (iD s.l)
def shB (z : SzI) (s : ShI) : Bool := isD (lkT tFew [.tuple (iD s.l)]) (.tuple (iD s.l)) && isD (lkT tFew [.list (iD s.l)]) (.tuple (iD s.l)) && decide (s.l.sum = z.n) && rowB tChi (.tuple (iD s.l)) (ksOf z) s.r && rowB tChiL (.tuple (iD s.l)) (ksOf z) s.q && isD (lkT tTurned [.tuple (iD s.l)]) (.tuple (iD s.t))
def szB (z : SzI) : Bool := isD (lkT tFall [.int z.n, .int z.n, .int z.n]) (.list (ksOf z)) && isD (lkT tKinds [.int z.n]) (.list (ksOf z)) && isD (lkT tFact [.int z.n]) (.int z.F) && isD (lkT tFactL [.int z.n]) (.int z.F) && decide (0 < z.F) && decide (z.F ≤ 1000) && zsB tStays (ksOf z) z.zs && zsB tStaysL (ksOf z) z.zs &&
  isD (lkT tShapes [.int z.n, .int 6]) (.list (ksOf z)) && z.sh.all (shB z)
theorem szB_all : SZs.all szB = true := by decide +kernel
theorem isD_eq {o : Option D} {d : D} (h : isD o d = true) : o = some d := by
  cases o with
  | none => cases h
  | some x => rw [dSame_eq x d h]
theorem row_ok {f : List D → RD} {T : Tb2} (ok : okT2 f T = true) {a : D} : ∀ {ks : List D} {r : List Int}, rowB T a ks r = true → RowOk f a ks r
  | [], [], _ => trivial
  | k :: ks, i :: r, h => by
    simp only [rowB, Bool.and_eq_true] at h
    refine ⟨?_, row_ok ok h.2⟩
    have h1 := h.1
    cases e : lkT2 T a [k] with
    | none => rw [e] at h1; cases h1
    | some d =>
      rw [e] at h1
      cases d with
      | int x =>
        simp only [Bool.and_eq_true, decide_eq_true_eq] at h1
        obtain ⟨rfl, h2⟩ := h1
        exact ⟨lk2_ok ok e, h2⟩
      | _ => cases h1
  | [], _ :: _, h => by cases h
  | _ :: _, [], h => by cases h
theorem zs_ok {f : List D → RD} {T : Tb} (ok : okT f T = true) : ∀ {ks : List D} {r : List Int}, zsB T ks r = true → RowZ f ks r
  | [], [], _ => trivial
  | k :: ks, i :: r, h => by
    simp only [zsB, Bool.and_eq_true] at h
    refine ⟨?_, zs_ok ok h.2⟩
    have h1 := h.1
    cases e : lkT T [k] with
    | none => rw [e] at h1; cases h1
    | some d =>
      rw [e] at h1
      cases d with
      | int x =>
        simp only [Bool.and_eq_true, decide_eq_true_eq] at h1
        obtain ⟨⟨rfl, h2⟩, h3⟩ := h1
        exact ⟨lk_ok ok e, h2, h3⟩
      | _ => cases h1
  | [], _ :: _, h => by cases h
  | _ :: _, [], h => by cases h
theorem intsD_iD : ∀ l : List Int, intsD (iD l) = some l
  | [] => rfl
  | i :: l => by show (match intsD (iD l) with | some ns => some (i :: ns) | none => none) = _; rw [intsD_iD l]
theorem gSum_iD (l : List Int) : gSum (.tuple (iD l)) = some (.fr (.int l.sum)) := by
  show (match intsD (iD l) with | some ns => some (SV.fr (.int ns.sum)) | none => none) = _
  rw [intsD_iD]
structure ShF (z : SzI) (s : ShI) : Prop where
  few : f_few_from [.tuple (iD s.l)] = .ok (.tuple (iD s.l))
  fewL : f_few_from [.list (iD s.l)] = .ok (.tuple (iD s.l))
  sum : gSum (.tuple (iD s.l)) = some (.fr (.int z.n))
  chi : RowOk f_character_by (.tuple (iD s.l)) (ksOf z) s.r
  chiL : RowOk f__law_character (.tuple (iD s.l)) (ksOf z) s.q
  turn : f__law_turned [.tuple (iD s.l)] = .ok (.tuple (iD s.t))
structure SzF (z : SzI) : Prop where
  fall : f_falling_rows [.int z.n, .int z.n, .int z.n] = .ok (.list (ksOf z))
  kinds : f__law_kinds [.int z.n] = .ok (.list (ksOf z))
  fact : f_factorial [.int z.n] = .ok (.int z.F)
  factL : f__law_factorial [.int z.n] = .ok (.int z.F)
  F0 : 0 < z.F
  F1 : z.F ≤ 1000
  st : RowZ f_stays_of (ksOf z) z.zs
  stL : RowZ f__law_stays (ksOf z) z.zs
  shapes : f__law_shapes [.int z.n, .int 6] = .ok (.list (ksOf z))
  sh : ∀ s ∈ z.sh, ShF z s
theorem szF {z : SzI} (h : szB z = true) : SzF z := by
  simp only [szB, Bool.and_eq_true, decide_eq_true_eq, List.all_eq_true] at h
  obtain ⟨⟨⟨⟨⟨⟨⟨⟨⟨h1, h2⟩, h3⟩, h4⟩, h5⟩, h6⟩, h7⟩, h8⟩, h9⟩, h10⟩ := h
  refine ⟨lk_ok okFall (isD_eq h1), lk_ok okKinds (isD_eq h2), lk_ok okFact (isD_eq h3), lk_ok okFactL (isD_eq h4), h5, h6, zs_ok okStays h7, zs_ok okStaysL h8, lk_ok okShapes (isD_eq h9), fun s hs => ?_⟩
  have := h10 s hs
  simp only [shB, Bool.and_eq_true, decide_eq_true_eq] at this
  obtain ⟨⟨⟨⟨⟨g1, g2⟩, g3⟩, g4⟩, g5⟩, g6⟩ := this
  exact ⟨lk_ok okFew (isD_eq g1), lk_ok okFew (isD_eq g2), by rw [gSum_iD, g3], row_ok okChi g4, row_ok okChiL g5, lk_ok okTurned (isD_eq g6)⟩
theorem sz_all {z : SzI} (h : z ∈ SZs) : SzF z := szF (List.all_eq_true.mp szB_all z h)
def nOf (z : SzI) (a b c : ShI) : Int := dotI z.F a.r b.r c.r z.zs 0 / z.F
theorem inner_of {z : SzI} (h : SzF z) {a b c : ShI} (ha : a ∈ z.sh) (hb : b ∈ z.sh) (hc : c ∈ z.sh) {x y w : D} (hx : f_few_from [x] = .ok (.tuple (iD a.l))) (hy : f_few_from [y] = .ok (.tuple (iD b.l))) (hw : f_few_from [w] = .ok (.tuple (iD c.l))) : f_inner_number [x, y, w] = .ok (.int (nOf z a b c)) :=
  inner_val hx hy hw (h.sh a ha).sum (h.sh b hb).sum (h.sh c hc).sum h.fall h.fact h.F0 h.F1 (h.sh a ha).chi (h.sh b hb).chi (h.sh c hc).chi h.st
end K64
end Sx

namespace Sx
namespace K64
open PySem PySem.Spec L2
def findS (z : SzI) (l : List Int) : Option ShI := z.sh.find? fun s => decide (s.l = l)
theorem findS_ok {z : SzI} {l : List Int} {s : ShI} (h : findS z l = some s) : s ∈ z.sh ∧ s.l = l := ⟨List.mem_of_find?_eq_some h, by simpa using List.find?_some h⟩
def rowL (n : Nat) : List Int := if n = 0 then [] else [(n : Int)]
def colL (n : Nat) : List Int := List.replicate n 1
def triB (z : SzI) (a b c : ShI) : Bool :=
  let N := nOf z a b c
  decide (0 ≤ N) && decide (N ≤ 5) && decide (dotI z.F a.q b.q c.q z.zs 0 = N * z.F) && decide (nOf z a c b = N) && decide (nOf z b a c = N) && decide (nOf z b c a = N) && decide (nOf z c a b = N) && decide (nOf z c b a = N) &&
  match findS z a.t, findS z b.t with
  | some a', some b' => decide (nOf z a' b' c = N)
  | _, _ => false
def eqB (x y : D) (e : Bool) : Bool := match gEq x y with
  | some (.fr (.bool k)) => k == e
  | _ => false
theorem eqB_ok {x y : D} {e : Bool} (h : eqB x y e = true) : gEq x y = some (.fr (.bool e)) := by
  unfold eqB at h
  cases q : gEq x y with
  | none => rw [q] at h; cases h
  | some v =>
    rw [q] at h
    cases v with
    | fr d =>
      cases d with
      | bool k => rw [eq_of_beq (show (k == e) = true from h)]
      | _ => cases h
    | _ => cases h
def pairB (z : SzI) (a b : ShI) : Bool :=
  (match findS z (rowL z.n), findS z (colL z.n) with
  | some r, some k => decide (nOf z r a b = if decide (a.l = b.l) then 1 else 0) && decide (nOf z a k b = if decide (a.l = b.t) then 1 else 0)
  | _, _ => false) && eqB (.tuple (iD a.l)) (.tuple (iD b.l)) (decide (a.l = b.l)) && eqB (.tuple (iD a.l)) (.tuple (iD b.t)) (decide (a.l = b.t))
theorem tri_all : SZs.all (fun z => z.sh.all fun a => z.sh.all fun b => z.sh.all fun c => triB z a b c) = true := by decide +kernel
theorem pair_all : SZs.all (fun z => z.sh.all fun a => z.sh.all fun b => pairB z a b) = true := by decide +kernel
theorem q_all : SZs.all (fun z => (List.range 6).all fun N => rdS (f__law_q [.int ((N : Int) * z.F), .int z.F]) (.ok (.tuple [.int (N : Int), .int 1]))) = true := by decide +kernel
theorem re_all : (List.range 6).all (fun N => reOk (.tuple [.int (N : Int), .int 1])) = true := by decide +kernel
end K64
end Sx

namespace Sx
namespace K64
open PySem PySem.Spec L2
theorem draw_run {m : Nat} {p : Pen} (n : Nat) (h0 : 0 < n) (h1 : n < 1000000) (ok : PenOk (m + 1) p) : ∃ (i : Nat) (p' : Pen), i < n ∧ PenOk m p' ∧ gDraw [.int n] p = .ok (.int i) p' := by
  have hn : (0 : Int) < (n : Int) := by omega
  obtain ⟨h2, h3, h4⟩ := drawP_ok (many := (n : Int)) ok hn
  obtain ⟨i, hi⟩ := Int.eq_ofNat_of_zero_le h3
  refine ⟨i, (drawP p n).2, by omega, h2, ?_⟩
  have := penB_of ok
  show (if penB p = true ∧ 0 < (n : Int) ∧ (n : Int) < 1073741824 then Sx.RN.ok (.int (drawP p n).1) (drawP p n).2 else Sx.RN.no) = _
  rw [if_pos ⟨this, hn, by omega⟩, hi]
theorem pick_run {p p' : Pen} {L : List D} {i : Nat} {x : D} (h : gDraw [.int L.length] p = .ok (.int i) p') (hx : L[i]? = some x) : f__law_pick [.list L] p = .ok x p' := by
  have hi : i < L.length := (List.getElem?_eq_some_iff.mp hx).1
  have e : atI L (i : Int) = some x := by
    rw [atI_nat hx]
  simp [f__law_pick, m__law_pick, outN, initN, sRet, op2, eV, getS, eCallN, aCons, aNil, R.bind, op1, rdv, nod, gLen, fz, datsF, h, setP, gIx, e]
/-- one of a list is picked -/
theorem pick_ok {m : Nat} {p : Pen} (L : List D) (h0 : L ≠ []) (h1 : L.length < 1000000) (ok : PenOk (m + 1) p) : ∃ x p', x ∈ L ∧ PenOk m p' ∧ f__law_pick [.list L] p = .ok x p' := by
  have hl : 0 < L.length := List.length_pos_iff.mpr h0
  obtain ⟨i, p', h2, h3, h4⟩ := draw_run L.length hl h1 ok
  exact ⟨L[i], p', List.getElem_mem h2, h3, pick_run h4 (List.getElem?_eq_getElem h2)⟩
section
variable (dr pk : List D → Pen → RN) (sh : List D → RD)
def qShape : SF := sSeq (sSet 3 (eCall sh (aCons (eV 1) (aCons (eV 2) (aNil))))) (sRet (eCallN pk (aCons (eV 0) (aCons (eV 3) (aNil)))))
def qPass : SF := sRet (eCallN pk (aCons (eV 0) (aCons (eLst (aCons (op1 gTuple (eV 1)) (aCons (op1 gList (eV 1)) (aNil)))) (aNil))))
def qShuf : SF := sSeq (sPar 2 3 (op1 gList (eV 1)) (eLst (aNil))) (sSeq (sFor (iRg rg1 (aCons (op1 gLen (eV 1)) (aNil))) (tNm 4) (sDrop (eApp 3 (ePopAt 2 (eCallN dr (aCons (eV 0) (aCons (op1 gLen (eV 2)) (aNil)))))))) (sRet (eV 3)))
end
section
variable {dr pk : List D → Pen → RN} {sh : List D → RD} {p p1 p2 p3 : Pen} {x n s : D} {L l la lb lc : List D}
theorem qShape_ok (h1 : sh [n, s] = .ok (.list L)) (h2 : pk [.list L] p = .ok x p1) : outN (qShape pk sh (initN 4 [n, s] p)) = .ok x p1 := by
  simp [qShape, outN, initN, sSeq, sSet, sRet, eCall, eCallN, aCons, aNil, eV, R.bind, getS, fz, datsF, asn, setS, setP, h1, h2]
theorem qPass_ok (h2 : pk [.list [.tuple l, .list l]] p = .ok x p1) : outN (qPass pk (initN 2 [.tuple l] p)) = .ok x p1 := by
  simp [qPass, outN, initN, sRet, eCallN, eLst, eTup.datsOf, aCons, aNil, eV, R.bind, getS, fz, datsF, op1, rdv, nod, gTuple, gList, szOk, setP, h2]
theorem qShuf_00 (h1 : dr [.int 3] p = .ok (.int 0) p1) (h2 : dr [.int 2] p1 = .ok (.int 0) p2) (h3 : dr [.int 1] p2 = .ok (.int 0) p3) : outN (qShuf dr (initN 5 [.list [.tuple la, .tuple lb, .tuple lc]] p)) = .ok (.list [.tuple la, .tuple lb, .tuple lc]) p3 := by
  simp [qShuf, outN, initN, sSeq, sPar, sFor, loopD, iRg, rg1, rangeD, big, tNm, sDrop, eApp, ePopAt, sRet, eCallN, eLst, eTup.datsOf, aCons, aNil, eV, R.bind, getS, fz, nob, asn, setS, delS, setP, datsF, op1, rdv, nod, gList, gLen, intsS, szOk, r3, h1, h2, h3]
theorem qShuf_01 (h1 : dr [.int 3] p = .ok (.int 0) p1) (h2 : dr [.int 2] p1 = .ok (.int 1) p2) (h3 : dr [.int 1] p2 = .ok (.int 0) p3) : outN (qShuf dr (initN 5 [.list [.tuple la, .tuple lb, .tuple lc]] p)) = .ok (.list [.tuple la, .tuple lc, .tuple lb]) p3 := by
  simp [qShuf, outN, initN, sSeq, sPar, sFor, loopD, iRg, rg1, rangeD, big, tNm, sDrop, eApp, ePopAt, sRet, eCallN, eLst, eTup.datsOf, aCons, aNil, eV, R.bind, getS, fz, nob, asn, setS, delS, setP, datsF, op1, rdv, nod, gList, gLen, intsS, szOk, r3, h1, h2, h3]
theorem qShuf_10 (h1 : dr [.int 3] p = .ok (.int 1) p1) (h2 : dr [.int 2] p1 = .ok (.int 0) p2) (h3 : dr [.int 1] p2 = .ok (.int 0) p3) : outN (qShuf dr (initN 5 [.list [.tuple la, .tuple lb, .tuple lc]] p)) = .ok (.list [.tuple lb, .tuple la, .tuple lc]) p3 := by
  simp [qShuf, outN, initN, sSeq, sPar, sFor, loopD, iRg, rg1, rangeD, big, tNm, sDrop, eApp, ePopAt, sRet, eCallN, eLst, eTup.datsOf, aCons, aNil, eV, R.bind, getS, fz, nob, asn, setS, delS, setP, datsF, op1, rdv, nod, gList, gLen, intsS, szOk, r3, h1, h2, h3]
theorem qShuf_11 (h1 : dr [.int 3] p = .ok (.int 1) p1) (h2 : dr [.int 2] p1 = .ok (.int 1) p2) (h3 : dr [.int 1] p2 = .ok (.int 0) p3) : outN (qShuf dr (initN 5 [.list [.tuple la, .tuple lb, .tuple lc]] p)) = .ok (.list [.tuple lb, .tuple lc, .tuple la]) p3 := by
  simp [qShuf, outN, initN, sSeq, sPar, sFor, loopD, iRg, rg1, rangeD, big, tNm, sDrop, eApp, ePopAt, sRet, eCallN, eLst, eTup.datsOf, aCons, aNil, eV, R.bind, getS, fz, nob, asn, setS, delS, setP, datsF, op1, rdv, nod, gList, gLen, intsS, szOk, r3, h1, h2, h3]
theorem qShuf_20 (h1 : dr [.int 3] p = .ok (.int 2) p1) (h2 : dr [.int 2] p1 = .ok (.int 0) p2) (h3 : dr [.int 1] p2 = .ok (.int 0) p3) : outN (qShuf dr (initN 5 [.list [.tuple la, .tuple lb, .tuple lc]] p)) = .ok (.list [.tuple lc, .tuple la, .tuple lb]) p3 := by
  simp [qShuf, outN, initN, sSeq, sPar, sFor, loopD, iRg, rg1, rangeD, big, tNm, sDrop, eApp, ePopAt, sRet, eCallN, eLst, eTup.datsOf, aCons, aNil, eV, R.bind, getS, fz, nob, asn, setS, delS, setP, datsF, op1, rdv, nod, gList, gLen, intsS, szOk, r3, h1, h2, h3]
theorem qShuf_21 (h1 : dr [.int 3] p = .ok (.int 2) p1) (h2 : dr [.int 2] p1 = .ok (.int 1) p2) (h3 : dr [.int 1] p2 = .ok (.int 0) p3) : outN (qShuf dr (initN 5 [.list [.tuple la, .tuple lb, .tuple lc]] p)) = .ok (.list [.tuple lc, .tuple lb, .tuple la]) p3 := by
  simp [qShuf, outN, initN, sSeq, sPar, sFor, loopD, iRg, rg1, rangeD, big, tNm, sDrop, eApp, ePopAt, sRet, eCallN, eLst, eTup.datsOf, aCons, aNil, eV, R.bind, getS, fz, nob, asn, setS, delS, setP, datsF, op1, rdv, nod, gList, gLen, intsS, szOk, r3, h1, h2, h3]
end
end K64
end Sx

namespace Sx
namespace K64
open PySem PySem.Spec L2
theorem sz_len : SZs.all (fun z => !z.sh.isEmpty && decide (z.sh.length < 100)) = true := by decide +kernel
theorem sz_at {k : Nat} (h : k < 7) : ∃ z ∈ SZs, z.n = k := by
  match k, h with
  | 0, _ => exact ⟨sz0, by simp [SZs], rfl⟩
  | 1, _ => exact ⟨sz1, by simp [SZs], rfl⟩
  | 2, _ => exact ⟨sz2, by simp [SZs], rfl⟩
  | 3, _ => exact ⟨sz3, by simp [SZs], rfl⟩
  | 4, _ => exact ⟨sz4, by simp [SZs], rfl⟩
  | 5, _ => exact ⟨sz5, by simp [SZs], rfl⟩
  | 6, _ => exact ⟨sz6, by simp [SZs], rfl⟩
theorem shape_eq {n s : D} {p : Pen} : f__law_shape_of [n, s] p = outN (qShape f__law_pick f__law_shapes (initN 4 [n, s] p)) := by
  rw [f__law_shape_of, if_pos]
  · rfl
  · rfl
theorem pass_eq {a : D} {p : Pen} : f__law_passed [a] p = outN (qPass f__law_pick (initN 2 [a] p)) := by
  rw [f__law_passed, if_pos]
  · rfl
  · rfl
theorem shuf_eq {a : D} {p : Pen} : f__law_shuffled [a] p = outN (qShuf gDraw (initN 5 [a] p)) := by
  rw [f__law_shuffled, if_pos]
  · rfl
  · rfl
abbrev tD (s : ShI) : D := .tuple (iD s.l)
theorem shp_ok {z : SzI} (hz : z ∈ SZs) {m : Nat} {p : Pen} (ok : PenOk (m + 1) p) : ∃ a ∈ z.sh, ∃ p', PenOk m p' ∧ f__law_shape_of [.int z.n, .int 6] p = .ok (tD a) p' := by
  have hl := List.all_eq_true.mp sz_len z hz
  simp only [Bool.and_eq_true, Bool.not_eq_true', List.isEmpty_eq_false_iff, decide_eq_true_eq] at hl
  obtain ⟨x, p', hx, ok', e⟩ := pick_ok (ksOf z) (by simpa [ksOf] using hl.1) (by have := hl.2; simp only [ksOf, List.length_map]; omega) ok
  obtain ⟨a, ha, rfl⟩ := List.mem_map.mp hx
  exact ⟨a, ha, p', ok', by rw [shape_eq]; exact qShape_ok (sz_all hz).shapes e⟩
theorem pas_ok {l : List D} {m : Nat} {p : Pen} (ok : PenOk (m + 1) p) : ∃ x p', (x = .tuple l ∨ x = .list l) ∧ PenOk m p' ∧ f__law_passed [.tuple l] p = .ok x p' := by
  obtain ⟨x, p', hx, ok', e⟩ := pick_ok [.tuple l, .list l] (by simp) (by simp) ok
  exact ⟨x, p', by simpa using hx, ok', by rw [pass_eq]; exact qPass_ok e⟩
structure TriF (z : SzI) (a b c : ShI) : Prop where
  n0 : 0 ≤ nOf z a b c
  own : f__law_own [tD a, tD b, tD c] = .ok (.tuple [.int (nOf z a b c), .int 1])
  re : reOk (.tuple [.int (nOf z a b c), .int 1]) = true
  s1 : nOf z a c b = nOf z a b c
  s2 : nOf z b a c = nOf z a b c
  s3 : nOf z b c a = nOf z a b c
  s4 : nOf z c a b = nOf z a b c
  s5 : nOf z c b a = nOf z a b c
  tu : ∃ a' ∈ z.sh, ∃ b' ∈ z.sh, a'.l = a.t ∧ b'.l = b.t ∧ nOf z a' b' c = nOf z a b c
theorem triF {z : SzI} (hz : z ∈ SZs) {a b c : ShI} (ha : a ∈ z.sh) (hb : b ∈ z.sh) (hc : c ∈ z.sh) : TriF z a b c := by
  have F := sz_all hz
  have h := List.all_eq_true.mp (List.all_eq_true.mp (List.all_eq_true.mp (List.all_eq_true.mp tri_all z hz) a ha) b hb) c hc
  simp only [triB, Bool.and_eq_true, decide_eq_true_eq] at h
  obtain ⟨⟨⟨⟨⟨⟨⟨⟨h0, h5⟩, hd⟩, e1⟩, e2⟩, e3⟩, e4⟩, e5⟩, ht⟩ := h
  obtain ⟨N, hN⟩ := Int.eq_ofNat_of_zero_le h0
  have hN6 : N ∈ List.range 6 := List.mem_range.mpr (by omega)
  have hq := rdS_eq (List.all_eq_true.mp (List.all_eq_true.mp q_all z hz) N hN6)
  have hr := List.all_eq_true.mp re_all N hN6
  refine ⟨h0, ?_, by rw [hN]; exact hr, e1, e2, e3, e4, e5, ?_⟩
  · refine own_val (F.sh a ha).sum F.kinds F.factL F.F0 F.F1 (F.sh a ha).chiL (F.sh b hb).chiL (F.sh c hc).chiL F.stL ?_
    rw [hd, hN]
    exact hq
  · cases q1 : findS z a.t with
    | none => rw [q1] at ht; cases ht
    | some a' =>
      cases q2 : findS z b.t with
      | none => rw [q1, q2] at ht; cases ht
      | some b' =>
        rw [q1, q2] at ht
        obtain ⟨g1, g2⟩ := findS_ok q1
        obtain ⟨g3, g4⟩ := findS_ok q2
        exact ⟨a', g1, b', g3, g2, g4, by simpa using ht⟩
structure PairF (z : SzI) (a b : ShI) : Prop where
  rw_ : f_inner_number [.tuple (iD (rowL z.n)), tD a, tD b] = .ok (.int (if decide (a.l = b.l) = true then 1 else 0))
  cl : f_inner_number [tD a, .tuple (iD (colL z.n)), tD b] = .ok (.int (if decide (a.l = b.t) = true then 1 else 0))
  e1 : gEq (tD a) (tD b) = some (.fr (.bool (decide (a.l = b.l))))
  e2 : gEq (tD a) (.tuple (iD b.t)) = some (.fr (.bool (decide (a.l = b.t))))
theorem pairF {z : SzI} (hz : z ∈ SZs) {a b : ShI} (ha : a ∈ z.sh) (hb : b ∈ z.sh) : PairF z a b := by
  have F := sz_all hz
  have h := List.all_eq_true.mp (List.all_eq_true.mp (List.all_eq_true.mp pair_all z hz) a ha) b hb
  simp only [pairB, Bool.and_eq_true] at h
  obtain ⟨⟨ht, h1⟩, h2⟩ := h
  cases q1 : findS z (rowL z.n) with
  | none => rw [q1] at ht; cases ht
  | some r =>
    cases q2 : findS z (colL z.n) with
    | none => rw [q1, q2] at ht; cases ht
    | some k =>
      rw [q1, q2] at ht
      obtain ⟨g1, g2⟩ := findS_ok q1
      obtain ⟨g3, g4⟩ := findS_ok q2
      simp only [Bool.and_eq_true, decide_eq_true_eq] at ht
      refine ⟨?_, ?_, eqB_ok h1, eqB_ok h2⟩
      · rw [← g2, inner_of F g1 ha hb (F.sh r g1).few (F.sh a ha).few (F.sh b hb).few, ht.1]
        simp only [decide_eq_true_eq]
      · rw [← g4, inner_of F ha g3 hb (F.sh a ha).few (F.sh k g3).few (F.sh b hb).few, ht.2]
        simp only [decide_eq_true_eq]
end K64
end Sx

namespace Sx
namespace K64
open PySem PySem.Spec L2
theorem l6 {la lb lc : List D} {N : Int} {o0 o1 o2 : D} {p7 : Pen} {k : Nat} (h : k < 7) : q_6 ⟨[some .pen, some (.fr (.int (k : Int))), some (.fr (.list [.tuple la, .tuple lb, .tuple lc])), some (.fr (.int N)), some (.fr (.list [o0, o1, o2])), none, none, none], some p7⟩ =
    .ok .next ⟨[some .pen, some (.fr (.int (k : Int))), some (.fr (.list [.tuple la, .tuple lb, .tuple lc])), some (.fr (.int N)), some (.fr (.list [o0, o1, o2])), some (.fr (.tuple (iD (rowL k)))), some (.fr (.tuple (iD (colL k)))), none], some p7⟩ := by
  match k, h with
  | 0, _ => rfl
  | 1, _ => rfl
  | 2, _ => rfl
  | 3, _ => rfl
  | 4, _ => rfl
  | 5, _ => rfl
  | 6, _ => rfl
theorem case_eq {p : Pen} : f__law_case [] p = outN (m__law_case (initN 8 [] p)) := by
  rw [f__law_case, if_pos]
  rfl
theorem case_m : m__law_case = sSeq (q_0 gDraw) (sSeq (q_1 f__law_shape_of) (sSeq (q_2 f__law_passed f_inner_number) (sSeq (q_3 f__law_own) (sSeq (q_4 f__law_shuffled) (sSeq (q_5 f__law_turned f_inner_number) (sSeq q_6 (sSeq (q_7 f_inner_number) (q_8 f__law_turned f_inner_number)))))))) := rfl
theorem case_i {p : Pen} : initN 8 [] p = ⟨[some .pen, none, none, none, none, none, none, none], some p⟩ := rfl
theorem shuf_ok {z : SzI} (hz : z ∈ SZs) {a b c : ShI} (ha : a ∈ z.sh) (hb : b ∈ z.sh) (hc : c ∈ z.sh) {m : Nat} {p : Pen} (ok : PenOk (m + 3) p) :
    ∃ o0 o1 o2 p', PenOk m p' ∧ f__law_shuffled [.list [tD a, tD b, tD c]] p = .ok (.list [o0, o1, o2]) p' ∧ f_inner_number [o0, o1, o2] = .ok (.int (nOf z a b c)) := by
  have F := sz_all hz
  have T := triF hz ha hb hc
  have fa := (F.sh a ha).few
  have fb := (F.sh b hb).few
  have fc := (F.sh c hc).few
  obtain ⟨i0, p1, h0, ok1, d0⟩ := draw_run 3 (by decide) (by decide) (m := m + 2) ok
  obtain ⟨i1, p2, h1, ok2, d1⟩ := draw_run 2 (by decide) (by decide) (m := m + 1) ok1
  obtain ⟨i2, p3, h2, ok3, d2⟩ := draw_run 1 (by decide) (by decide) (m := m) ok2
  obtain rfl : i2 = 0 := by omega
  match i0, h0, i1, h1, d0, d1 with
  | 0, _, 0, _, d0, d1 => exact ⟨_, _, _, p3, ok3, by rw [shuf_eq]; exact qShuf_00 d0 d1 d2, inner_of F ha hb hc fa fb fc⟩
  | 0, _, 1, _, d0, d1 => exact ⟨_, _, _, p3, ok3, by rw [shuf_eq]; exact qShuf_01 d0 d1 d2, by rw [← T.s1]; exact inner_of F ha hc hb fa fc fb⟩
  | 1, _, 0, _, d0, d1 => exact ⟨_, _, _, p3, ok3, by rw [shuf_eq]; exact qShuf_10 d0 d1 d2, by rw [← T.s2]; exact inner_of F hb ha hc fb fa fc⟩
  | 1, _, 1, _, d0, d1 => exact ⟨_, _, _, p3, ok3, by rw [shuf_eq]; exact qShuf_11 d0 d1 d2, by rw [← T.s3]; exact inner_of F hb hc ha fb fc fa⟩
  | 2, _, 0, _, d0, d1 => exact ⟨_, _, _, p3, ok3, by rw [shuf_eq]; exact qShuf_20 d0 d1 d2, by rw [← T.s4]; exact inner_of F hc ha hb fc fa fb⟩
  | 2, _, 1, _, d0, d1 => exact ⟨_, _, _, p3, ok3, by rw [shuf_eq]; exact qShuf_21 d0 d1 d2, by rw [← T.s5]; exact inner_of F hc hb ha fc fb fa⟩
/-- a case holds, at every pen -/
theorem case_ok {m : Nat} {p : Pen} (ok : PenOk (m + 9) p) : ∃ p', PenOk m p' ∧ f__law_case [] p = .ok (.bool true) p' := by
  obtain ⟨k, p1, hk, ok1, d1⟩ := draw_run 7 (by decide) (by decide) (m := m + 8) ok
  obtain ⟨z, hz, rfl⟩ := sz_at hk
  have F := sz_all hz
  obtain ⟨a, ha, p2, ok2, e1⟩ := shp_ok hz (m := m + 7) ok1
  obtain ⟨b, hb, p3, ok3, e2⟩ := shp_ok hz (m := m + 6) ok2
  obtain ⟨c, hc, p4, ok4, e3⟩ := shp_ok hz (m := m + 5) ok3
  obtain ⟨x, p5, hx, ok5, e4⟩ := pas_ok (l := iD a.l) (m := m + 4) ok4
  obtain ⟨y, p6, hy, ok6, e5⟩ := pas_ok (l := iD c.l) (m := m + 3) ok5
  obtain ⟨o0, o1, o2, p7, ok7, e6, e7⟩ := shuf_ok hz ha hb hc ok6
  have T := triF hz ha hb hc
  have Q := pairF hz ha hb
  have fx : f_few_from [x] = .ok (tD a) := by
    rcases hx with rfl | rfl
    · exact (F.sh a ha).few
    · exact (F.sh a ha).fewL
  have fy : f_few_from [y] = .ok (tD c) := by
    rcases hy with rfl | rfl
    · exact (F.sh c hc).few
    · exact (F.sh c hc).fewL
  have i1 : f_inner_number [x, tD b, y] = .ok (.int (nOf z a b c)) := inner_of F ha hb hc fx (F.sh b hb).few fy
  obtain ⟨a', ha', b', hb', ea, eb, en⟩ := T.tu
  have i2 : f_inner_number [.tuple (iD a.t), .tuple (iD b.t), tD c] = .ok (.int (nOf z a b c)) := by
    rw [← ea, ← eb, ← en]
    exact inner_of F ha' hb' hc (F.sh a' ha').few (F.sh b' hb').few (F.sh c hc).few
  refine ⟨p7, ok7, ?_⟩
  have eo : ∀ s : List (Option SV), outN (.ok (.ret (.fr (.bool true))) ⟨s, some p7⟩) = .ok (.bool true) p7 := fun _ => rfl
  rw [case_eq, case_m, case_i, seq_next (l0 d1), seq_next (l1 e1 e2 e3), seq_next (l2 e4 e5 i1), seq_next (l3 T.own T.re T.n0), seq_next (l4 e6), seq_next (l5 e7 (F.sh a ha).turn (F.sh b hb).turn i2), seq_next (l6 hk), seq_next (l7 Q.rw_ Q.e1), l8 Q.cl (F.sh b hb).turn Q.e2, eo]
end K64
end Sx

namespace Sx
namespace K64
open PySem PySem.Spec L2
def qs0 (dr : List D → Pen → RN) : SF := sSet 1 (op2 gAdd (eC (.int 1)) (eCallN dr (aCons (eV 0) (aCons (eC (.int 3)) (aNil)))))
def qsR (c__law_kinds c__law_stays c_inner_number : List D → RD) : SF := sSeq (sPar 2 3 (eCall c__law_kinds (aCons (eV 1) (aNil))) (eC (.int 0))) (sSeq (sFor (iSq (eV 2)) (tNm 4) (sFor (iSq (eV 2)) (tNm 5) (sSet 3 (op2 gAdd (eV 3) (op1 gSum (eLc (iSq (eV 2)) (tNm 6) bYes (op2 gMul (eCall c_inner_number (aCons (eV 4) (aCons (eV 5) (aCons (eV 6) (aNil))))) (eCall c_inner_number (aCons (eV 4) (aCons (eV 5) (aCons (eV 6) (aNil)))))) [6])))))) (sRet (op2 gEq (eV 3) (op1 gSum (eLc (iSq (eV 2)) (tNm 7) bYes (eCall c__law_stays (aCons (eV 7) (aNil))) [7])))))
def tIn : Tb := [sz1, sz2, sz3].flatMap fun z => z.sh.flatMap fun a => z.sh.flatMap fun b => z.sh.map fun c => ([tD a, tD b, tD c], .int (nOf z a b c))
theorem okT_of {f : List D → RD} : ∀ {T : Tb}, (∀ p ∈ T, f p.1 = .ok p.2 ∧ dSame p.2 p.2 = true) → okT f T = true
  | [], _ => rfl
  | p :: r, h => by
    obtain ⟨h1, h2⟩ := h p List.mem_cons_self
    show (rdS (f p.1) (.ok p.2) && okT f r) = true
    rw [h1, okT_of fun q hq => h q (List.mem_cons_of_mem _ hq), Bool.and_true]
    exact h2
theorem okIn : okT f_inner_number tIn = true := okT_of fun p hp => by
  obtain ⟨z, hz, hp⟩ := List.mem_flatMap.mp hp
  obtain ⟨a, ha, hp⟩ := List.mem_flatMap.mp hp
  obtain ⟨b, hb, hp⟩ := List.mem_flatMap.mp hp
  obtain ⟨c, hc, rfl⟩ := List.mem_map.mp hp
  have F := sz_all (z := z) (by
    simp only [List.mem_cons, List.not_mem_nil, or_false] at hz
    rcases hz with rfl | rfl | rfl <;> simp [SZs])
  exact ⟨inner_of F ha hb hc (F.sh a ha).few (F.sh b hb).few (F.sh c hc).few, by simp [dSame]⟩
theorem qs0_ok {dr : List D → Pen → RN} {p p1 : Pen} {d : Int} (h : dr [.int 3] p = .ok (.int d) p1) : qs0 dr ⟨[some .pen, none, none, none, none, none, none, none], some p⟩ = .ok .next ⟨[some .pen, some (.fr (.int (1 + d))), none, none, none, none, none, none], some p1⟩ := by
  simp [qs0, sSet, op2, eC, eV, eCallN, aCons, aNil, R.bind, getS, fz, datsF, rdv, nod, gAdd_i, asn, setS, setP, h]
def qsF (n : Int) (p : Pen) : RN := outN (qsR (lookT tKinds f__law_kinds) (lookT tStaysL f__law_stays) (lookT tIn f_inner_number) ⟨[some .pen, some (.fr (.int n)), none, none, none, none, none, none], some p⟩)
theorem qsF1 (p : Pen) : qsF (1 + 0) p = .ok (.bool true) p := by kernel_rfl
theorem qsF2 (p : Pen) : qsF (1 + 1) p = .ok (.bool true) p := by kernel_rfl
theorem qsF3 (p : Pen) : qsF (1 + 2) p = .ok (.bool true) p := by kernel_rfl
theorem sq_eq {p : Pen} : f__law_squares_hold [] p = outN (m__law_squares_hold (initN 8 [] p)) := by
  rw [f__law_squares_hold, if_pos]
  rfl
theorem sq_m : m__law_squares_hold = sSeq (qs0 gDraw) (qsR f__law_kinds f__law_stays f_inner_number) := rfl
theorem squares_ok {m : Nat} {p : Pen} (ok : PenOk (m + 1) p) : ∃ p', PenOk m p' ∧ f__law_squares_hold [] p = .ok (.bool true) p' := by
  obtain ⟨d, p1, hd, ok1, e⟩ := draw_run 3 (by decide) (by decide) ok
  refine ⟨p1, ok1, ?_⟩
  have key : outN (qsR f__law_kinds f__law_stays f_inner_number ⟨[some .pen, some (.fr (.int (1 + (d : Int)))), none, none, none, none, none, none], some p1⟩) = .ok (.bool true) p1 := by
    rw [← lookT_eq okIn, ← lookT_eq okKinds, ← lookT_eq okStaysL]
    match d, hd with
    | 0, _ => exact qsF1 p1
    | 1, _ => exact qsF2 p1
    | 2, _ => exact qsF3 p1
  rw [sq_eq, sq_m, case_i, seq_next (qs0_ok e), key]
end K64
end Sx

namespace Sx
namespace K64
open PySem PySem.Spec L2
/-! the law's middle -/
def qm0 (cs sq : List D → Pen → RN) : SF := sIf (bOr (bNot (bT (op1 gAll (eLc (iRg rg1 (aCons (eC (.int 3)) (aNil))) (tNm 6) bYes (eCallN cs (aCons (eV 1) (aNil))) [6])))) (bNot (bT (eCallN sq (aCons (eV 1) (aNil)))))) (sRet (eC (.bool false))) (sNext)
theorem m0_eq : m_law0 = qm0 f__law_case f__law_squares_hold := rfl
theorem qm0_ok {cs sq : List D → Pen → RN} {p0 p1 p2 p3 p4 : Pen} (h1 : cs [] p0 = .ok (.bool true) p1) (h2 : cs [] p1 = .ok (.bool true) p2) (h3 : cs [] p2 = .ok (.bool true) p3) (h4 : sq [] p3 = .ok (.bool true) p4) :
    qm0 cs sq ⟨[none, some .pen, none, none, none, none, none], some p0⟩ = .ok .next ⟨[none, some .pen, none, none, none, none, none], some p4⟩ := by
  simp [qm0, sIf, bOr, bNot, bT, op1, gAll, truAll, truD, eLc, lcD, iRg, rg1, rangeD, big, tNm, bYes, eCallN, aCons, aNil, eV, eC, R.bind, R.bindN, getS, fz, datsF, intsS, szOk, r3, setP, setS, delS, wipeA, rdv, nod, sNext, h1, h2, h3, h4]
theorem callN_ok {pk : List D → Pen → RN} {fa : AF} {s : AS} {xs : List SV} {ds : List D} {p p' : Pen} {x : D} (h1 : fa s = .ok (.pen :: xs) s) (h2 : datsF xs = some ds) (h3 : s.pn = some p) (h4 : pk ds p = .ok x p') : eCallN pk fa s = .ok (.fr x) (setP s p') := by
  unfold eCallN
  rw [h1]
  simp only [R.bind, h2, h3, h4]
def tz (l : List Int) : D := .tuple (iD l)
def bad12 : List D := [.none, tz [1, 2], tz [0], tz [-1], .tuple [.bool true], .tuple [.str "1"], .int 5, tz [31], tz [1, 1, 1, 1, 1, 1, 1, 1, 1, 1, 1, 1, 1], .tuple [tz [1]], .list [.int 2, .int 3], tz [8, 8, 8, 8]]
def bads : List D := bad12 ++ [tz [9], tz [3, 3, 3]]
def odds : List D := [.none, tz [1, 2], tz [0], .int 5]
def fars : List D := [tz [2], tz [], tz [4]]
def aBad : AF := aCons (eV 0) (aCons (eLst (aCons (eC .none) (aCons (eTup (aCons (eC (.int 1)) (aCons (eC (.int 2)) (aNil)))) (aCons (eTup (aCons (eC (.int 0)) (aNil))) (aCons (eTup (aCons (op1 gNeg (eC (.int 1))) (aNil))) (aCons (eTup (aCons (eC (.bool true)) (aNil))) (aCons (eTup (aCons (eC (.str "1")) (aNil))) (aCons (eC (.int 5)) (aCons (eTup (aCons (eC (.int 31)) (aNil))) (aCons (op2 gMul (eTup (aCons (eC (.int 1)) (aNil))) (eC (.int 13))) (aCons (eTup (aCons (eTup (aCons (eC (.int 1)) (aNil))) (aNil))) (aCons (eLst (aCons (eC (.int 2)) (aCons (eC (.int 3)) (aNil)))) (aCons (eTup (aCons (eC (.int 8)) (aCons (eC (.int 8)) (aCons (eC (.int 8)) (aCons (eC (.int 8)) (aNil)))))) (aNil)))))))))))))) (aNil))
theorem badN_eq {p : Pen} : f__law_bad_shape [] p = outN (m__law_bad_shape (initN 1 [] p)) := by
  rw [f__law_bad_shape, if_pos]
  rfl
theorem badM_eq : m__law_bad_shape = sRet (eCallN f__law_pick aBad) := rfl
theorem aBad_ok (p : Pen) : aBad (initN 1 [] p) = .ok [.pen, .fr (.list bad12)] (initN 1 [] p) := rfl
theorem ret_fr {f : EF} {s s1 : AS} {d : D} (h : f s = .ok (.fr d) s1) : sRet f s = .ok (.ret (.fr d)) s1 := by
  unfold sRet
  rw [h]
  rfl
theorem bad_ok {m : Nat} {p : Pen} (ok : PenOk (m + 1) p) : ∃ x ∈ bad12, ∃ p', PenOk m p' ∧ f__law_bad_shape [] p = .ok x p' := by
  obtain ⟨x, p', hx, ok', e⟩ := pick_ok bad12 (by simp [bad12]) (by simp [bad12]) ok
  refine ⟨x, hx, p', ok', ?_⟩
  have h := callN_ok (fa := aBad) (aBad_ok p) rfl rfl e
  rw [badN_eq, badM_eq, ret_fr h]
  rfl
/-! bad, odd, far -/
def aB1 (bs : List D → Pen → RN) : AF := aCons (eV 1) (aCons (eLst (aCons (eCallN bs (aCons (eV 1) (aNil))) (aCons (eTup (aCons (eC (.int 9)) (aNil))) (aCons (eTup (aCons (eC (.int 3)) (aCons (eC (.int 3)) (aCons (eC (.int 3)) (aNil))))) (aNil))))) (aNil))
def qm1 (pk bs : List D → Pen → RN) : SF := sSet 2 (eCallN pk (aB1 bs))
theorem m1_eq : m_law1 = qm1 f__law_pick f__law_bad_shape := rfl
theorem nod_i {i : Int} : nod (.int i) = some (.int i) := rfl
theorem nod_t {l : List D} : nod (.tuple l) = some (.tuple l) := rfl
theorem qm1_ok {pk bs : List D → Pen → RN} {p p1 p2 : Pen} {x y : D} (hx : nod x = some x) (h1 : bs [] p = .ok x p1) (h2 : pk [.list [x, tz [9], tz [3, 3, 3]]] p1 = .ok y p2) :
    qm1 pk bs ⟨[none, some .pen, none, none, none, none, none], some p⟩ = .ok .next ⟨[none, some .pen, some (.fr y), none, none, none, none], some p2⟩ := by
  have h2' : pk [.list [x, .tuple [.int 9], .tuple [.int 3, .int 3, .int 3]]] p1 = .ok y p2 := h2
  simp [qm1, aB1, sSet, eCallN, eLst, eTup, eTup.datsOf, aCons, aNil, eV, eC, R.bind, getS, fz, datsF, asn, setS, setP, szOk, nod_i, nod_t, hx, h1, h2']
end K64
end Sx

namespace Sx
namespace K64
open PySem PySem.Spec L2
def qm2 (pk : List D → Pen → RN) : SF := sAsg (tTp 2 (tsCons (tNm 3) (tsCons (tNm 4) tsNil))) (eTup (aCons (eCallN pk (aCons (eV 1) (aCons (eLst (aCons (eC .none) (aCons (eTup (aCons (eC (.int 1)) (aCons (eC (.int 2)) (aNil)))) (aCons (eTup (aCons (eC (.int 0)) (aNil))) (aCons (eC (.int 5)) (aNil)))))) (aNil)))) (aCons (eCallN pk (aCons (eV 1) (aCons (eLst (aCons (eTup (aCons (eC (.int 2)) (aNil))) (aCons (eTup (aNil)) (aCons (eTup (aCons (eC (.int 4)) (aNil))) (aNil))))) (aNil)))) (aNil))))
theorem m2_eq : m_law2 = qm2 f__law_pick := rfl
theorem nod_n : nod .none = some .none := rfl
theorem qm2_ok {pk : List D → Pen → RN} {p p1 p2 : Pen} {bad odd far : D} (ho : nod odd = some odd) (hf : nod far = some far) (h1 : pk [.list odds] p = .ok odd p1) (h2 : pk [.list fars] p1 = .ok far p2) :
    qm2 pk ⟨[none, some .pen, some (.fr bad), none, none, none, none], some p⟩ = .ok .next ⟨[none, some .pen, some (.fr bad), some (.fr odd), some (.fr far), none, none], some p2⟩ := by
  have h1' : pk [.list [.none, .tuple [.int 1, .int 2], .tuple [.int 0], .int 5]] p = .ok odd p1 := h1
  have h2' : pk [.list [.tuple [.int 2], .tuple [], .tuple [.int 4]]] p1 = .ok far p2 := h2
  simp [qm2, sAsg, tTp, tsCons, tNm, tsNil, eCallN, eLst, eTup, eTup.datsOf, aCons, aNil, eV, eC, R.bind, getS, fz, datsF, asn, setS, setP, szOk, nod_i, nod_t, nod_n, ho, hf, h1', h2']
/-! inner_number's errors -/
section
variable {cc cf cfa few cst : List D → RD} {x y w : D} {e : Ex} {la lb lc : List D} {n m k : Int}
theorem ie1 (h : few [x] = .ex e) : outD (mp_inner_number cc cf cfa few cst (initS 10 [x, y, w])) = .ex e := by
  simp [mp_inner_number, sSeq, sSet, eCall, aCons, aNil, eV, R.bind, getS, initS, fz, datsF, h, outD]
theorem ie2 (h1 : few [x] = .ok (.tuple la)) (h : few [y] = .ex e) : outD (mp_inner_number cc cf cfa few cst (initS 10 [x, y, w])) = .ex e := by
  simp [mp_inner_number, sSeq, sSet, eCall, aCons, aNil, eV, R.bind, getS, initS, fz, datsF, asn, setS, h1, h, outD]
theorem ie3 (h1 : few [x] = .ok (.tuple la)) (h2 : few [y] = .ok (.tuple lb)) (h : few [w] = .ex e) : outD (mp_inner_number cc cf cfa few cst (initS 10 [x, y, w])) = .ex e := by
  simp [mp_inner_number, sSeq, sSet, eCall, aCons, aNil, eV, R.bind, getS, initS, fz, datsF, asn, setS, h1, h2, h, outD]
theorem gNe_i {b : Bool} (h : gNe (.int n) (.int m) = some (.fr (.bool b))) : gNe (.int n) (.int m) = some (.fr (.bool b)) := h
theorem ie4 (h1 : few [x] = .ok (.tuple la)) (h2 : few [y] = .ok (.tuple lb)) (h3 : few [w] = .ok (.tuple lc)) (s1 : gSum (.tuple la) = some (.fr (.int n))) (s2 : gSum (.tuple lb) = some (.fr (.int m))) (s3 : gSum (.tuple lc) = some (.fr (.int k)))
    (hn : gNe (.int m) (.int n) = some (.fr (.bool true))) : outD (mp_inner_number cc cf cfa few cst (initS 10 [x, y, w])) = .ex ⟨"Unlike", [("what", .str "boxes")]⟩ := by
  simp [mp_inner_number, sSeq, sSet, sIf, bOr, bE, sRaise, eTup.datsOf, eCall, aCons, aNil, eV, eC, R.bind, getS, initS, fz, datsF, asn, setS, op1, op2, rdv, nod, h1, h2, h3, s1, s2, s3, hn, outD]
theorem ie5 (h1 : few [x] = .ok (.tuple la)) (h2 : few [y] = .ok (.tuple lb)) (h3 : few [w] = .ok (.tuple lc)) (s1 : gSum (.tuple la) = some (.fr (.int n))) (s2 : gSum (.tuple lb) = some (.fr (.int n))) (s3 : gSum (.tuple lc) = some (.fr (.int k)))
    (hn : gNe (.int k) (.int n) = some (.fr (.bool true))) : outD (mp_inner_number cc cf cfa few cst (initS 10 [x, y, w])) = .ex ⟨"Unlike", [("what", .str "boxes")]⟩ := by
  simp [mp_inner_number, sSeq, sSet, sIf, bOr, bE, sRaise, eTup.datsOf, eCall, aCons, aNil, eV, eC, R.bind, getS, initS, fz, datsF, asn, setS, op1, op2, rdv, nod, gNe_same, h1, h2, h3, s1, s2, s3, hn, outD]
theorem inn_eq : f_inner_number [x, y, w] = outD (mp_inner_number f_character_by f_factorial f_falling_rows f_few_from f_stays_of (initS 10 [x, y, w])) := by
  rw [f_inner_number, if_pos]
  · rfl
  · rfl
end
def exB (r : RD) (nm f : Str) (d : D) : Bool := match r with
  | .ex ⟨n, [(g, x)]⟩ => decide (n = nm) && decide (g = f) && dSame x d
  | _ => false
theorem exB_ok {r : RD} {nm f : Str} {d : D} (h : exB r nm f d = true) : r = .ex ⟨nm, [(f, d)]⟩ := by
  unfold exB at h
  split at h
  · simp only [Bool.and_eq_true, decide_eq_true_eq] at h
    obtain ⟨⟨rfl, rfl⟩, h3⟩ := h
    rw [dSame_eq _ _ h3]
  · cases h
theorem bad_few : bads.all (fun d => exB (f_few_from [d]) "BadShape" "shape" d) = true := by decide +kernel
theorem odd_in : ∀ d ∈ odds, d ∈ bads := by
  intro d hd
  simp only [odds, List.mem_cons, List.not_mem_nil, or_false] at hd
  rcases hd with rfl | rfl | rfl | rfl <;> simp [bads, bad12]
theorem bads_re : bads.all (fun d => reOk (.tuple [.str "shape", d])) = true := by decide +kernel
theorem bads_nod : bads.all (fun d => match nod d with | some x => dSame x d | none => false) = true := by decide +kernel
theorem few_ok {l : List Int} (h : isD (lkT tFew [tz l]) (tz l) = true) : f_few_from [tz l] = .ok (tz l) := lk_ok okFew (isD_eq h)
theorem few21 : f_few_from [tz [2, 1]] = .ok (tz [2, 1]) := few_ok (by decide +kernel)
theorem few3 : f_few_from [tz [3]] = .ok (tz [3]) := few_ok (by decide +kernel)
theorem far_few : fars.all (fun d => isD (lkT tFew [d]) d) = true := by decide +kernel
end K64
end Sx

namespace Sx
namespace K64
open PySem PySem.Spec L2
section
variable (inn : List D → RD)
def qb0 : EF := eCall inn (aCons (eV 2) (aCons (eV 3) (aCons (eC .none) (aNil))))
def qb1 : EF := eCall inn (aCons (eTup (aCons (eC (.int 2)) (aCons (eC (.int 1)) (aNil)))) (aCons (eV 2) (aCons (eV 3) (aNil))))
def qb2 : EF := eCall inn (aCons (eTup (aCons (eC (.int 2)) (aCons (eC (.int 1)) (aNil)))) (aCons (eV 4) (aCons (eV 3) (aNil))))
def qb3 : EF := eCall inn (aCons (eTup (aCons (eC (.int 2)) (aCons (eC (.int 1)) (aNil)))) (aCons (eV 4) (aCons (eTup (aCons (eC (.int 2)) (aCons (eC (.int 1)) (aNil)))) (aNil))))
def qb4 : EF := eCall inn (aCons (eTup (aCons (eC (.int 2)) (aCons (eC (.int 1)) (aNil)))) (aCons (eTup (aCons (eC (.int 3)) (aNil))) (aCons (eV 4) (aNil))))
end
theorem qb0_eq : b_0 = qb0 f_inner_number := rfl
theorem qb1_eq : b_1 = qb1 f_inner_number := rfl
theorem qb2_eq : b_2 = qb2 f_inner_number := rfl
theorem qb3_eq : b_3 = qb3 f_inner_number := rfl
theorem qb4_eq : b_4 = qb4 f_inner_number := rfl
abbrev sF (bad odd far : D) : AS := ⟨[none, none, some (.fr bad), some (.fr odd), some (.fr far), none, none], none⟩
abbrev sE (bad odd far : D) (p : Pen) : AS := ⟨[none, some .pen, some (.fr bad), some (.fr odd), some (.fr far), none, none], some p⟩
theorem frA_eq {bad odd far : D} {p : Pen} : frA (sE bad odd far p) = sF bad odd far := rfl
section
variable {inn : List D → RD} {bad odd far : D} {e : Ex}
theorem o0 (h : inn [bad, odd, .none] = .ex e) : outE (qb0 inn (sF bad odd far)) = .ex e := by
  simp [qb0, eCall, aCons, aNil, eV, eC, R.bind, getS, fz, datsF, h, outE]
theorem o1 (h : inn [tz [2, 1], bad, odd] = .ex e) : outE (qb1 inn (sF bad odd far)) = .ex e := by
  have h' : inn [.tuple [.int 2, .int 1], bad, odd] = .ex e := h
  simp [qb1, eCall, eTup, eTup.datsOf, nod_i, szOk, aCons, aNil, eV, eC, R.bind, getS, fz, datsF, h', outE]
theorem o2 (h : inn [tz [2, 1], far, odd] = .ex e) : outE (qb2 inn (sF bad odd far)) = .ex e := by
  have h' : inn [.tuple [.int 2, .int 1], far, odd] = .ex e := h
  simp [qb2, eCall, eTup, eTup.datsOf, nod_i, szOk, aCons, aNil, eV, eC, R.bind, getS, fz, datsF, h', outE]
theorem o3 (h : inn [tz [2, 1], far, tz [2, 1]] = .ex e) : outE (qb3 inn (sF bad odd far)) = .ex e := by
  have h' : inn [.tuple [.int 2, .int 1], far, .tuple [.int 2, .int 1]] = .ex e := h
  simp [qb3, eCall, eTup, eTup.datsOf, nod_i, szOk, aCons, aNil, eV, eC, R.bind, getS, fz, datsF, h', outE]
theorem o4 (h : inn [tz [2, 1], tz [3], far] = .ex e) : outE (qb4 inn (sF bad odd far)) = .ex e := by
  have h' : inn [.tuple [.int 2, .int 1], .tuple [.int 3], far] = .ex e := h
  simp [qb4, eCall, eTup, eTup.datsOf, nod_i, szOk, aCons, aNil, eV, eC, R.bind, getS, fz, datsF, h', outE]
end
theorem nod_s {x : Str} : nod (.str x) = some (.str x) := rfl
theorem due2 {bad odd far : D} {p : Pen} (h : nod bad = some bad) : eTup (aCons (eC (.str "shape")) (aCons (eV 2) (aNil))) (sE bad odd far p) = .ok (.fr (.tuple [.str "shape", bad])) (sE bad odd far p) := by
  simp [eTup, eTup.datsOf, aCons, aNil, eV, eC, R.bind, getS, fz, nod_s, h, szOk]
theorem due3 {bad odd far : D} {p : Pen} (h : nod odd = some odd) : eTup (aCons (eC (.str "shape")) (aCons (eV 3) (aNil))) (sE bad odd far p) = .ok (.fr (.tuple [.str "shape", odd])) (sE bad odd far p) := by
  simp [eTup, eTup.datsOf, aCons, aNil, eV, eC, R.bind, getS, fz, nod_s, h, szOk]
theorem dueU {s : AS} : eTup (aCons (eC (.str "unlike")) (aCons (eC (.str "boxes")) (aNil))) s = .ok (.fr (.tuple [.str "unlike", .str "boxes"])) s := by
  simp [eTup, eTup.datsOf, aCons, aNil, eC, R.bind, fz, nod_s, szOk]
section
variable {K : PySem.W.Frag} {mg : Str → Option Value}
theorem fault_shape (Φ : Ff K mg) (d : D) : faultR (hsL Φ) (.ex ⟨"BadShape", [("shape", d)]⟩) = some (.tuple [.str "shape", d]) := by kernel_rfl
theorem fault_unlike (Φ : Ff K mg) : faultR (hsL Φ) (.ex ⟨"Unlike", [("what", .str "boxes")]⟩) = some (.tuple [.str "unlike", .str "boxes"]) := by kernel_rfl
structure BadF (d : D) : Prop where
  few : f_few_from [d] = .ex ⟨"BadShape", [("shape", d)]⟩
  re : reOk (.tuple [.str "shape", d]) = true
  nod_ : nod d = some d
theorem badF {d : D} (h : d ∈ bads) : BadF d := by
  refine ⟨exB_ok (List.all_eq_true.mp bad_few d h), List.all_eq_true.mp bads_re d h, ?_⟩
  have := List.all_eq_true.mp bads_nod d h
  cases q : nod d with
  | none => simp only [q] at this; cases this
  | some x => simp only [q] at this; rw [dSame_eq _ _ this]
theorem bad12_in {d : D} (h : d ∈ bad12) : d ∈ bads := List.mem_append_left _ h
theorem u34 (l : List Int) (hl : l = [2] ∨ l = [] ∨ l = [4]) : f_inner_number [tz [2, 1], tz l, tz [2, 1]] = .ex ⟨"Unlike", [("what", .str "boxes")]⟩ ∧ f_inner_number [tz [2, 1], tz [3], tz l] = .ex ⟨"Unlike", [("what", .str "boxes")]⟩ := by
  have hf : f_few_from [tz l] = .ok (tz l) := by
    have := List.all_eq_true.mp far_few (tz l) (by rcases hl with rfl | rfl | rfl <;> simp [fars])
    exact few_ok this
  have hn : gNe (.int l.sum) (.int ([2, 1] : List Int).sum) = some (.fr (.bool true)) := by
    rcases hl with rfl | rfl | rfl <;> rfl
  refine ⟨?_, ?_⟩
  · rw [inn_eq]
    exact ie4 few21 hf few21 (gSum_iD _) (gSum_iD _) (gSum_iD _) hn
  · rw [inn_eq]
    exact ie5 (n := ([2, 1] : List Int).sum) few21 few3 hf (gSum_iD _) (gSum_iD _) (gSum_iD _) hn
theorem plain (Φ : Ff K mg) : Plain (hsL Φ) := by
  intro ns fo hn f0 f1
  have ok0 : PenOk 32 ⟨ns, 0, 0, 0, fo⟩ := ⟨Nat.zero_le _, by show ns.length ≤ 1000; omega, (show (0 : Int) ≤ 0 by decide), (show (0 : Int) ≤ 0 by decide), (show (0 : Int) + ((32 : Nat) : Int) ≤ 1099511627776 by decide), f0, by show fo < 2147483489; omega⟩
  obtain ⟨p1, ok1, c1⟩ := case_ok (m := 23) ok0
  obtain ⟨p2, ok2, c2⟩ := case_ok (m := 14) ok1
  obtain ⟨p3, ok3, c3⟩ := case_ok (m := 5) ok2
  obtain ⟨p4, ok4, s4⟩ := squares_ok (m := 4) ok3
  obtain ⟨x, hx, p5, ok5, e1⟩ := bad_ok (m := 3) ok4
  obtain ⟨bad, p6, hb, ok6, e2⟩ := pick_ok [x, tz [9], tz [3, 3, 3]] (by simp) (by simp) (m := 2) ok5
  obtain ⟨odd, p7, ho, ok7, e3⟩ := pick_ok odds (by simp [odds]) (by simp [odds]) (m := 1) ok6
  obtain ⟨far, p8, hf, ok8, e4⟩ := pick_ok fars (by simp [fars]) (by simp [fars]) (m := 0) ok7
  have hbad : bad ∈ bads := by
    rcases List.mem_cons.mp hb with rfl | hb
    · exact bad12_in hx
    · exact List.mem_append_right _ hb
  have B := badF hbad
  have O := badF (odd_in odd ho)
  have X := badF (bad12_in hx)
  obtain ⟨l, hl, rfl⟩ : ∃ l : List Int, (l = [2] ∨ l = [] ∨ l = [4]) ∧ far = tz l := by
    simp only [fars, List.mem_cons, List.not_mem_nil, or_false] at hf
    rcases hf with rfl | rfl | rfl
    · exact ⟨_, .inl rfl, rfl⟩
    · exact ⟨_, .inr (.inl rfl), rfl⟩
    · exact ⟨_, .inr (.inr rfl), rfl⟩
  have hfew : f_few_from [tz l] = .ok (tz l) := few_ok (List.all_eq_true.mp far_few (tz l) hf)
  obtain ⟨u3, u4⟩ := u34 l hl
  have reU : reOk (.tuple [.str "unlike", .str "boxes"]) = true := by decide +kernel
  refine ⟨_, rfl, ⟨[none, some .pen, none, none, none, none, none], some p4⟩, ⟨[none, some .pen, some (.fr bad), none, none, none, none], some p6⟩, sE bad odd (tz l) p8, ?_, rfl, ?_, rfl, ?_, rfl, rfl, rfl, ⟨_, due2 B.nod_, ?_, B.re⟩, ⟨_, due2 B.nod_, ?_, B.re⟩, ⟨_, due3 O.nod_, ?_, O.re⟩, ⟨_, dueU, ?_, reU⟩, ⟨_, dueU, ?_, reU⟩⟩
  · rw [m0_eq]; exact qm0_ok c1 c2 c3 s4
  · rw [m1_eq]; exact qm1_ok X.nod_ e1 e2
  · rw [m2_eq]; exact qm2_ok O.nod_ rfl e3 e4
  · rw [frA_eq, qb0_eq, o0 (by rw [inn_eq]; exact ie1 B.few)]; exact fault_shape Φ bad
  · rw [frA_eq, qb1_eq, o1 (by rw [inn_eq]; exact ie2 few21 B.few)]; exact fault_shape Φ bad
  · rw [frA_eq, qb2_eq, o2 (by rw [inn_eq]; exact ie3 few21 hfew O.few)]; exact fault_shape Φ odd
  · rw [frA_eq, qb3_eq, o3 u3]; exact fault_unlike Φ
  · rw [frA_eq, qb4_eq, o4 u4]; exact fault_unlike Φ
end
end K64
end Sx

namespace Sx
namespace K64
open PySem PySem.Spec L2
open PyProof.Rows hiding St
theorem nf_cons {K : PySem.W.Frag} {C : Addr} {x : Str} {xs : List Str} (h : PySem.W.findIn K (.ref C) x = some none) (t : ∀ f ∈ xs, PySem.W.findIn K (.ref C) f = some none) : ∀ f ∈ x :: xs, PySem.W.findIn K (.ref C) f = some none := fun f hf => (List.mem_cons.mp hf).elim (fun e => by rw [e]; exact h) (t f)
theorem all_nil {α : Type} {p : α → Prop} : ∀ x ∈ ([] : List α), p x := fun _ h => absurd h List.not_mem_nil
theorem all_cons {α : Type} {p : α → Prop} {a : α} {l : List α} (h : p a) (t : ∀ x ∈ l, p x) : ∀ x ∈ a :: l, p x := fun x hx => (List.mem_cons.mp hx).elim (fun e => by rw [e]; exact h) (t x)
theorem law_all {P : Program} {w : World} {K : PySem.W.Frag} {mg : Str → Option Value} {h : Heap} {fa : Addr} {f__law_draw_ : Addr} {od__law_draw an__law_draw : Option Addr} {sl__law_draw : Array (Option Value)} {oc__law_draw kV__law_draw dc__law_draw pm__law_draw cd__law_draw ct__law_draw : Value} {f_is_whole_ : Addr} {od_is_whole an_is_whole : Option Addr} {sl_is_whole : Array (Option Value)} {oc_is_whole kV_is_whole dc_is_whole pm_is_whole cd_is_whole ct_is_whole : Value} {f_in_tuples_ : Addr} {od_in_tuples an_in_tuples : Option Addr} {sl_in_tuples : Array (Option Value)} {oc_in_tuples kV_in_tuples dc_in_tuples pm_in_tuples cd_in_tuples ct_in_tuples : Value} {f_is_falling_ : Addr} {od_is_falling an_is_falling : Option Addr} {sl_is_falling : Array (Option Value)} {oc_is_falling kV_is_falling dc_is_falling pm_is_falling cd_is_falling ct_is_falling : Value} {f_is_shape_ : Addr} {od_is_shape an_is_shape : Option Addr} {sl_is_shape : Array (Option Value)} {oc_is_shape kV_is_shape dc_is_shape pm_is_shape cd_is_shape ct_is_shape : Value} {f_shape_from_ : Addr} {od_shape_from an_shape_from : Option Addr} {sl_shape_from : Array (Option Value)} {oc_shape_from kV_shape_from dc_shape_from pm_shape_from cd_shape_from ct_shape_from : Value} {f_falling_rows_ : Addr} {od_falling_rows an_falling_rows : Option Addr} {sl_falling_rows : Array (Option Value)} {oc_falling_rows kV_falling_rows dc_falling_rows pm_falling_rows cd_falling_rows ct_falling_rows : Value} {f_factorial_ : Addr} {od_factorial an_factorial : Option Addr} {sl_factorial : Array (Option Value)} {oc_factorial kV_factorial dc_factorial pm_factorial cd_factorial ct_factorial : Value} {f_beads_of_ : Addr} {od_beads_of an_beads_of : Option Addr} {sl_beads_of : Array (Option Value)} {oc_beads_of kV_beads_of dc_beads_of pm_beads_of cd_beads_of ct_beads_of : Value} {f_shape_of_beads_ : Addr} {od_shape_of_beads an_shape_of_beads : Option Addr} {sl_shape_of_beads : Array (Option Value)} {oc_shape_of_beads kV_shape_of_beads dc_shape_of_beads pm_shape_of_beads cd_shape_of_beads ct_shape_of_beads : Value} {f_strips_by_ : Addr} {od_strips_by an_strips_by : Option Addr} {sl_strips_by : Array (Option Value)} {oc_strips_by kV_strips_by dc_strips_by pm_strips_by cd_strips_by ct_strips_by : Value} {f_character_by_ : Addr} {od_character_by an_character_by : Option Addr} {sl_character_by : Array (Option Value)} {oc_character_by kV_character_by dc_character_by pm_character_by cd_character_by ct_character_by : Value} {f_stays_of_ : Addr} {od_stays_of an_stays_of : Option Addr} {sl_stays_of : Array (Option Value)} {oc_stays_of kV_stays_of dc_stays_of pm_stays_of cd_stays_of ct_stays_of : Value} {f_few_from_ : Addr} {od_few_from an_few_from : Option Addr} {sl_few_from : Array (Option Value)} {oc_few_from kV_few_from dc_few_from pm_few_from cd_few_from ct_few_from : Value} {f_inner_number_ : Addr} {od_inner_number an_inner_number : Option Addr} {sl_inner_number : Array (Option Value)} {oc_inner_number kV_inner_number dc_inner_number pm_inner_number cd_inner_number ct_inner_number : Value} {f__law_pick_ : Addr} {od__law_pick an__law_pick : Option Addr} {sl__law_pick : Array (Option Value)} {oc__law_pick kV__law_pick dc__law_pick pm__law_pick cd__law_pick ct__law_pick : Value} {f__law_shuffled_ : Addr} {od__law_shuffled an__law_shuffled : Option Addr} {sl__law_shuffled : Array (Option Value)} {oc__law_shuffled kV__law_shuffled dc__law_shuffled pm__law_shuffled cd__law_shuffled ct__law_shuffled : Value} {f__law_gcd_ : Addr} {od__law_gcd an__law_gcd : Option Addr} {sl__law_gcd : Array (Option Value)} {oc__law_gcd kV__law_gcd dc__law_gcd pm__law_gcd cd__law_gcd ct__law_gcd : Value} {f__law_q_ : Addr} {od__law_q an__law_q : Option Addr} {sl__law_q : Array (Option Value)} {oc__law_q kV__law_q dc__law_q pm__law_q cd__law_q ct__law_q : Value} {f__law_shapes_ : Addr} {od__law_shapes an__law_shapes : Option Addr} {sl__law_shapes : Array (Option Value)} {oc__law_shapes kV__law_shapes dc__law_shapes pm__law_shapes cd__law_shapes ct__law_shapes : Value} {f__law_shape_of_ : Addr} {od__law_shape_of an__law_shape_of : Option Addr} {sl__law_shape_of : Array (Option Value)} {oc__law_shape_of kV__law_shape_of dc__law_shape_of pm__law_shape_of cd__law_shape_of ct__law_shape_of : Value} {f__law_turned_ : Addr} {od__law_turned an__law_turned : Option Addr} {sl__law_turned : Array (Option Value)} {oc__law_turned kV__law_turned dc__law_turned pm__law_turned cd__law_turned ct__law_turned : Value} {f__law_padded_ : Addr} {od__law_padded an__law_padded : Option Addr} {sl__law_padded : Array (Option Value)} {oc__law_padded kV__law_padded dc__law_padded pm__law_padded cd__law_padded ct__law_padded : Value} {f__law_lies_in_ : Addr} {od__law_lies_in an__law_lies_in : Option Addr} {sl__law_lies_in : Array (Option Value)} {oc__law_lies_in kV__law_lies_in dc__law_lies_in pm__law_lies_in cd__law_lies_in ct__law_lies_in : Value} {f__law_factorial_ : Addr} {od__law_factorial an__law_factorial : Option Addr} {sl__law_factorial : Array (Option Value)} {oc__law_factorial kV__law_factorial dc__law_factorial pm__law_factorial cd__law_factorial ct__law_factorial : Value} {f__law_bad_shape_ : Addr} {od__law_bad_shape an__law_bad_shape : Option Addr} {sl__law_bad_shape : Array (Option Value)} {oc__law_bad_shape kV__law_bad_shape dc__law_bad_shape pm__law_bad_shape cd__law_bad_shape ct__law_bad_shape : Value} {f__law_passed_ : Addr} {od__law_passed an__law_passed : Option Addr} {sl__law_passed : Array (Option Value)} {oc__law_passed kV__law_passed dc__law_passed pm__law_passed cd__law_passed ct__law_passed : Value} {f__law_kinds_ : Addr} {od__law_kinds an__law_kinds : Option Addr} {sl__law_kinds : Array (Option Value)} {oc__law_kinds kV__law_kinds dc__law_kinds pm__law_kinds cd__law_kinds ct__law_kinds : Value} {f__law_stays_ : Addr} {od__law_stays an__law_stays : Option Addr} {sl__law_stays : Array (Option Value)} {oc__law_stays kV__law_stays dc__law_stays pm__law_stays cd__law_stays ct__law_stays : Value} {f__law_is_rim_ : Addr} {od__law_is_rim an__law_is_rim : Option Addr} {sl__law_is_rim : Array (Option Value)} {oc__law_is_rim kV__law_is_rim dc__law_is_rim pm__law_is_rim cd__law_is_rim ct__law_is_rim : Value} {f__law_rims_ : Addr} {od__law_rims an__law_rims : Option Addr} {sl__law_rims : Array (Option Value)} {oc__law_rims kV__law_rims dc__law_rims pm__law_rims cd__law_rims ct__law_rims : Value} {f__law_character_ : Addr} {od__law_character an__law_character : Option Addr} {sl__law_character : Array (Option Value)} {oc__law_character kV__law_character dc__law_character pm__law_character cd__law_character ct__law_character : Value} {f__law_own_ : Addr} {od__law_own an__law_own : Option Addr} {sl__law_own : Array (Option Value)} {oc__law_own kV__law_own dc__law_own pm__law_own cd__law_own ct__law_own : Value} {f__law_case_ : Addr} {od__law_case an__law_case : Option Addr} {sl__law_case : Array (Option Value)} {oc__law_case kV__law_case dc__law_case pm__law_case cd__law_case ct__law_case : Value} {f__law_squares_hold_ : Addr} {od__law_squares_hold an__law_squares_hold : Option Addr} {sl__law_squares_hold : Array (Option Value)} {oc__law_squares_hold kV__law_squares_hold dc__law_squares_hold pm__law_squares_hold cd__law_squares_hold ct__law_squares_hold : Value} {t_MOST_BOXES : Tok} {t_MOST_ROWS : Tok} {t_MOST_SIZE : Tok} {B_BoxError : Addr} {C_BadName : Addr} {cd_BadName : ClassData} {C_BadNumber : Addr} {cd_BadNumber : ClassData} {C_BadRow : Addr} {cd_BadRow : ClassData} {C_BadShape : Addr} {cd_BadShape : ClassData} {C_BadTable : Addr} {cd_BadTable : ClassData} {C_TooMany : Addr} {cd_TooMany : ClassData} {C_Unlike : Addr} {cd_Unlike : ClassData} {nm_BadShape q_BadShape : Str} {N_BadShape f_BadShape_ : Addr} {bs_BadShape bm_BadShape : List Value} {sn_BadShape : List Str} {sub_BadShape : List Value} {ab_BadShape : Bool} {col_BadShape : Option Bool} {dd_BadShape : Option Addr} {k0_BadShape k1_BadShape k2_BadShape k3_BadShape k5_BadShape : Option Value} {od_BadShape an_BadShape : Option Addr} {sl_BadShape : Array (Option Value)} {oc_BadShape kV_BadShape dc_BadShape pm_BadShape cv_BadShape cx_BadShape : Value} {nm_Unlike q_Unlike : Str} {N_Unlike f_Unlike_ : Addr} {bs_Unlike bm_Unlike : List Value} {sn_Unlike : List Str} {sub_Unlike : List Value} {ab_Unlike : Bool} {col_Unlike : Option Bool} {dd_Unlike : Option Addr} {k0_Unlike k1_Unlike k2_Unlike k3_Unlike k5_Unlike : Option Value} {od_Unlike an_Unlike : Option Addr} {sl_Unlike : Array (Option Value)} {oc_Unlike kV_Unlike dc_Unlike pm_Unlike cv_Unlike cx_Unlike : Value} {f__law_pen_ : Addr} {od__law_pen an__law_pen : Option Addr} {sl__law_pen : Array (Option Value)} {oc__law_pen kV__law_pen dc__law_pen pm__law_pen cd__law_pen ct__law_pen : Value} {f__law_fault_ : Addr} {od__law_fault an__law_fault : Option Addr} {sl__law_fault : Array (Option Value)} {oc__law_fault kV__law_fault dc__law_fault pm__law_fault cd__law_fault ct__law_fault : Value} {f__law_due_ : Addr} {od__law_due an__law_due : Option Addr} {sl__law_due : Array (Option Value)} {oc__law_due kV__law_due dc__law_due pm__law_due cd__law_due ct__law_due : Value} {fLaw_ cLaw_ Pt_ : Addr} {odLaw anLaw : Option Addr} {slLaw : Array (Option Value)} {ocLaw kVLaw dcLaw pmLaw ctLaw : Value}
    (X : K.In h) (G : h.Ns mainGlobals mg) (hfa : mg "law" = some (.ref fa))
    (tkb : tkB K = true)
    (a__law_draw : PySem.W.nsIn K mainGlobals "_law_draw" = some (some (.ref f__law_draw_)))
    (l__law_draw : K.lookup f__law_draw_ = some ⟨oc__law_draw, od__law_draw, .func (PySem.W.fnOf "_law_draw" "_law_draw" (defArgs s__law_draw) (defBody s__law_draw) (defScope s__law_draw) .none kV__law_draw dc__law_draw pm__law_draw an__law_draw cd__law_draw ct__law_draw), sl__law_draw⟩)
    (c__law_draw : PySem.W.codeIn K cd__law_draw "_law_draw" = true)
    (k__law_draw : PySem.W.keepIn K (.ref f__law_draw_) = true)
    (a_is_whole : PySem.W.nsIn K mainGlobals "is_whole" = some (some (.ref f_is_whole_)))
    (l_is_whole : K.lookup f_is_whole_ = some ⟨oc_is_whole, od_is_whole, .func (PySem.W.fnOf "is_whole" "is_whole" (defArgs s_is_whole) (defBody s_is_whole) (defScope s_is_whole) .none kV_is_whole dc_is_whole pm_is_whole an_is_whole cd_is_whole ct_is_whole), sl_is_whole⟩)
    (c_is_whole : PySem.W.codeIn K cd_is_whole "is_whole" = true)
    (k_is_whole : PySem.W.keepIn K (.ref f_is_whole_) = true)
    (a_in_tuples : PySem.W.nsIn K mainGlobals "in_tuples" = some (some (.ref f_in_tuples_)))
    (l_in_tuples : K.lookup f_in_tuples_ = some ⟨oc_in_tuples, od_in_tuples, .func (PySem.W.fnOf "in_tuples" "in_tuples" (defArgs s_in_tuples) (defBody s_in_tuples) (defScope s_in_tuples) .none kV_in_tuples dc_in_tuples pm_in_tuples an_in_tuples cd_in_tuples ct_in_tuples), sl_in_tuples⟩)
    (c_in_tuples : PySem.W.codeIn K cd_in_tuples "in_tuples" = true)
    (k_in_tuples : PySem.W.keepIn K (.ref f_in_tuples_) = true)
    (a_is_falling : PySem.W.nsIn K mainGlobals "is_falling" = some (some (.ref f_is_falling_)))
    (l_is_falling : K.lookup f_is_falling_ = some ⟨oc_is_falling, od_is_falling, .func (PySem.W.fnOf "is_falling" "is_falling" (defArgs s_is_falling) (defBody s_is_falling) (defScope s_is_falling) .none kV_is_falling dc_is_falling pm_is_falling an_is_falling cd_is_falling ct_is_falling), sl_is_falling⟩)
    (c_is_falling : PySem.W.codeIn K cd_is_falling "is_falling" = true)
    (k_is_falling : PySem.W.keepIn K (.ref f_is_falling_) = true)
    (a_is_shape : PySem.W.nsIn K mainGlobals "is_shape" = some (some (.ref f_is_shape_)))
    (l_is_shape : K.lookup f_is_shape_ = some ⟨oc_is_shape, od_is_shape, .func (PySem.W.fnOf "is_shape" "is_shape" (defArgs s_is_shape) (defBody s_is_shape) (defScope s_is_shape) .none kV_is_shape dc_is_shape pm_is_shape an_is_shape cd_is_shape ct_is_shape), sl_is_shape⟩)
    (c_is_shape : PySem.W.codeIn K cd_is_shape "is_shape" = true)
    (k_is_shape : PySem.W.keepIn K (.ref f_is_shape_) = true)
    (a_shape_from : PySem.W.nsIn K mainGlobals "shape_from" = some (some (.ref f_shape_from_)))
    (l_shape_from : K.lookup f_shape_from_ = some ⟨oc_shape_from, od_shape_from, .func (PySem.W.fnOf "shape_from" "shape_from" (defArgs s_shape_from) (defBody s_shape_from) (defScope s_shape_from) .none kV_shape_from dc_shape_from pm_shape_from an_shape_from cd_shape_from ct_shape_from), sl_shape_from⟩)
    (c_shape_from : PySem.W.codeIn K cd_shape_from "shape_from" = true)
    (k_shape_from : PySem.W.keepIn K (.ref f_shape_from_) = true)
    (a_falling_rows : PySem.W.nsIn K mainGlobals "falling_rows" = some (some (.ref f_falling_rows_)))
    (l_falling_rows : K.lookup f_falling_rows_ = some ⟨oc_falling_rows, od_falling_rows, .func (PySem.W.fnOf "falling_rows" "falling_rows" (defArgs s_falling_rows) (defBody s_falling_rows) (defScope s_falling_rows) .none kV_falling_rows dc_falling_rows pm_falling_rows an_falling_rows cd_falling_rows ct_falling_rows), sl_falling_rows⟩)
    (c_falling_rows : PySem.W.codeIn K cd_falling_rows "falling_rows" = true)
    (k_falling_rows : PySem.W.keepIn K (.ref f_falling_rows_) = true)
    (a_factorial : PySem.W.nsIn K mainGlobals "factorial" = some (some (.ref f_factorial_)))
    (l_factorial : K.lookup f_factorial_ = some ⟨oc_factorial, od_factorial, .func (PySem.W.fnOf "factorial" "factorial" (defArgs s_factorial) (defBody s_factorial) (defScope s_factorial) .none kV_factorial dc_factorial pm_factorial an_factorial cd_factorial ct_factorial), sl_factorial⟩)
    (c_factorial : PySem.W.codeIn K cd_factorial "factorial" = true)
    (k_factorial : PySem.W.keepIn K (.ref f_factorial_) = true)
    (a_beads_of : PySem.W.nsIn K mainGlobals "beads_of" = some (some (.ref f_beads_of_)))
    (l_beads_of : K.lookup f_beads_of_ = some ⟨oc_beads_of, od_beads_of, .func (PySem.W.fnOf "beads_of" "beads_of" (defArgs s_beads_of) (defBody s_beads_of) (defScope s_beads_of) .none kV_beads_of dc_beads_of pm_beads_of an_beads_of cd_beads_of ct_beads_of), sl_beads_of⟩)
    (c_beads_of : PySem.W.codeIn K cd_beads_of "beads_of" = true)
    (k_beads_of : PySem.W.keepIn K (.ref f_beads_of_) = true)
    (a_shape_of_beads : PySem.W.nsIn K mainGlobals "shape_of_beads" = some (some (.ref f_shape_of_beads_)))
    (l_shape_of_beads : K.lookup f_shape_of_beads_ = some ⟨oc_shape_of_beads, od_shape_of_beads, .func (PySem.W.fnOf "shape_of_beads" "shape_of_beads" (defArgs s_shape_of_beads) (defBody s_shape_of_beads) (defScope s_shape_of_beads) .none kV_shape_of_beads dc_shape_of_beads pm_shape_of_beads an_shape_of_beads cd_shape_of_beads ct_shape_of_beads), sl_shape_of_beads⟩)
    (c_shape_of_beads : PySem.W.codeIn K cd_shape_of_beads "shape_of_beads" = true)
    (k_shape_of_beads : PySem.W.keepIn K (.ref f_shape_of_beads_) = true)
    (a_strips_by : PySem.W.nsIn K mainGlobals "strips_by" = some (some (.ref f_strips_by_)))
    (l_strips_by : K.lookup f_strips_by_ = some ⟨oc_strips_by, od_strips_by, .func (PySem.W.fnOf "strips_by" "strips_by" (defArgs s_strips_by) (defBody s_strips_by) (defScope s_strips_by) .none kV_strips_by dc_strips_by pm_strips_by an_strips_by cd_strips_by ct_strips_by), sl_strips_by⟩)
    (c_strips_by : PySem.W.codeIn K cd_strips_by "strips_by" = true)
    (k_strips_by : PySem.W.keepIn K (.ref f_strips_by_) = true)
    (a_character_by : PySem.W.nsIn K mainGlobals "character_by" = some (some (.ref f_character_by_)))
    (l_character_by : K.lookup f_character_by_ = some ⟨oc_character_by, od_character_by, .func (PySem.W.fnOf "character_by" "character_by" (defArgs s_character_by) (defBody s_character_by) (defScope s_character_by) .none kV_character_by dc_character_by pm_character_by an_character_by cd_character_by ct_character_by), sl_character_by⟩)
    (c_character_by : PySem.W.codeIn K cd_character_by "character_by" = true)
    (k_character_by : PySem.W.keepIn K (.ref f_character_by_) = true)
    (a_stays_of : PySem.W.nsIn K mainGlobals "stays_of" = some (some (.ref f_stays_of_)))
    (l_stays_of : K.lookup f_stays_of_ = some ⟨oc_stays_of, od_stays_of, .func (PySem.W.fnOf "stays_of" "stays_of" (defArgs s_stays_of) (defBody s_stays_of) (defScope s_stays_of) .none kV_stays_of dc_stays_of pm_stays_of an_stays_of cd_stays_of ct_stays_of), sl_stays_of⟩)
    (c_stays_of : PySem.W.codeIn K cd_stays_of "stays_of" = true)
    (k_stays_of : PySem.W.keepIn K (.ref f_stays_of_) = true)
    (a_few_from : PySem.W.nsIn K mainGlobals "few_from" = some (some (.ref f_few_from_)))
    (l_few_from : K.lookup f_few_from_ = some ⟨oc_few_from, od_few_from, .func (PySem.W.fnOf "few_from" "few_from" (defArgs s_few_from) (defBody s_few_from) (defScope s_few_from) .none kV_few_from dc_few_from pm_few_from an_few_from cd_few_from ct_few_from), sl_few_from⟩)
    (c_few_from : PySem.W.codeIn K cd_few_from "few_from" = true)
    (k_few_from : PySem.W.keepIn K (.ref f_few_from_) = true)
    (a_inner_number : PySem.W.nsIn K mainGlobals "inner_number" = some (some (.ref f_inner_number_)))
    (l_inner_number : K.lookup f_inner_number_ = some ⟨oc_inner_number, od_inner_number, .func (PySem.W.fnOf "inner_number" "inner_number" (defArgs s_inner_number) (defBody s_inner_number) (defScope s_inner_number) .none kV_inner_number dc_inner_number pm_inner_number an_inner_number cd_inner_number ct_inner_number), sl_inner_number⟩)
    (c_inner_number : PySem.W.codeIn K cd_inner_number "inner_number" = true)
    (k_inner_number : PySem.W.keepIn K (.ref f_inner_number_) = true)
    (a__law_pick : PySem.W.nsIn K mainGlobals "_law_pick" = some (some (.ref f__law_pick_)))
    (l__law_pick : K.lookup f__law_pick_ = some ⟨oc__law_pick, od__law_pick, .func (PySem.W.fnOf "_law_pick" "_law_pick" (defArgs s__law_pick) (defBody s__law_pick) (defScope s__law_pick) .none kV__law_pick dc__law_pick pm__law_pick an__law_pick cd__law_pick ct__law_pick), sl__law_pick⟩)
    (c__law_pick : PySem.W.codeIn K cd__law_pick "_law_pick" = true)
    (k__law_pick : PySem.W.keepIn K (.ref f__law_pick_) = true)
    (a__law_shuffled : PySem.W.nsIn K mainGlobals "_law_shuffled" = some (some (.ref f__law_shuffled_)))
    (l__law_shuffled : K.lookup f__law_shuffled_ = some ⟨oc__law_shuffled, od__law_shuffled, .func (PySem.W.fnOf "_law_shuffled" "_law_shuffled" (defArgs s__law_shuffled) (defBody s__law_shuffled) (defScope s__law_shuffled) .none kV__law_shuffled dc__law_shuffled pm__law_shuffled an__law_shuffled cd__law_shuffled ct__law_shuffled), sl__law_shuffled⟩)
    (c__law_shuffled : PySem.W.codeIn K cd__law_shuffled "_law_shuffled" = true)
    (k__law_shuffled : PySem.W.keepIn K (.ref f__law_shuffled_) = true)
    (a__law_gcd : PySem.W.nsIn K mainGlobals "_law_gcd" = some (some (.ref f__law_gcd_)))
    (l__law_gcd : K.lookup f__law_gcd_ = some ⟨oc__law_gcd, od__law_gcd, .func (PySem.W.fnOf "_law_gcd" "_law_gcd" (defArgs s__law_gcd) (defBody s__law_gcd) (defScope s__law_gcd) .none kV__law_gcd dc__law_gcd pm__law_gcd an__law_gcd cd__law_gcd ct__law_gcd), sl__law_gcd⟩)
    (c__law_gcd : PySem.W.codeIn K cd__law_gcd "_law_gcd" = true)
    (k__law_gcd : PySem.W.keepIn K (.ref f__law_gcd_) = true)
    (a__law_q : PySem.W.nsIn K mainGlobals "_law_q" = some (some (.ref f__law_q_)))
    (l__law_q : K.lookup f__law_q_ = some ⟨oc__law_q, od__law_q, .func (PySem.W.fnOf "_law_q" "_law_q" (defArgs s__law_q) (defBody s__law_q) (defScope s__law_q) .none kV__law_q dc__law_q pm__law_q an__law_q cd__law_q ct__law_q), sl__law_q⟩)
    (c__law_q : PySem.W.codeIn K cd__law_q "_law_q" = true)
    (k__law_q : PySem.W.keepIn K (.ref f__law_q_) = true)
    (a__law_shapes : PySem.W.nsIn K mainGlobals "_law_shapes" = some (some (.ref f__law_shapes_)))
    (l__law_shapes : K.lookup f__law_shapes_ = some ⟨oc__law_shapes, od__law_shapes, .func (PySem.W.fnOf "_law_shapes" "_law_shapes" (defArgs s__law_shapes) (defBody s__law_shapes) (defScope s__law_shapes) .none kV__law_shapes dc__law_shapes pm__law_shapes an__law_shapes cd__law_shapes ct__law_shapes), sl__law_shapes⟩)
    (c__law_shapes : PySem.W.codeIn K cd__law_shapes "_law_shapes" = true)
    (k__law_shapes : PySem.W.keepIn K (.ref f__law_shapes_) = true)
    (a__law_shape_of : PySem.W.nsIn K mainGlobals "_law_shape_of" = some (some (.ref f__law_shape_of_)))
    (l__law_shape_of : K.lookup f__law_shape_of_ = some ⟨oc__law_shape_of, od__law_shape_of, .func (PySem.W.fnOf "_law_shape_of" "_law_shape_of" (defArgs s__law_shape_of) (defBody s__law_shape_of) (defScope s__law_shape_of) .none kV__law_shape_of dc__law_shape_of pm__law_shape_of an__law_shape_of cd__law_shape_of ct__law_shape_of), sl__law_shape_of⟩)
    (c__law_shape_of : PySem.W.codeIn K cd__law_shape_of "_law_shape_of" = true)
    (k__law_shape_of : PySem.W.keepIn K (.ref f__law_shape_of_) = true)
    (a__law_turned : PySem.W.nsIn K mainGlobals "_law_turned" = some (some (.ref f__law_turned_)))
    (l__law_turned : K.lookup f__law_turned_ = some ⟨oc__law_turned, od__law_turned, .func (PySem.W.fnOf "_law_turned" "_law_turned" (defArgs s__law_turned) (defBody s__law_turned) (defScope s__law_turned) .none kV__law_turned dc__law_turned pm__law_turned an__law_turned cd__law_turned ct__law_turned), sl__law_turned⟩)
    (c__law_turned : PySem.W.codeIn K cd__law_turned "_law_turned" = true)
    (k__law_turned : PySem.W.keepIn K (.ref f__law_turned_) = true)
    (a__law_padded : PySem.W.nsIn K mainGlobals "_law_padded" = some (some (.ref f__law_padded_)))
    (l__law_padded : K.lookup f__law_padded_ = some ⟨oc__law_padded, od__law_padded, .func (PySem.W.fnOf "_law_padded" "_law_padded" (defArgs s__law_padded) (defBody s__law_padded) (defScope s__law_padded) .none kV__law_padded dc__law_padded pm__law_padded an__law_padded cd__law_padded ct__law_padded), sl__law_padded⟩)
    (c__law_padded : PySem.W.codeIn K cd__law_padded "_law_padded" = true)
    (k__law_padded : PySem.W.keepIn K (.ref f__law_padded_) = true)
    (a__law_lies_in : PySem.W.nsIn K mainGlobals "_law_lies_in" = some (some (.ref f__law_lies_in_)))
    (l__law_lies_in : K.lookup f__law_lies_in_ = some ⟨oc__law_lies_in, od__law_lies_in, .func (PySem.W.fnOf "_law_lies_in" "_law_lies_in" (defArgs s__law_lies_in) (defBody s__law_lies_in) (defScope s__law_lies_in) .none kV__law_lies_in dc__law_lies_in pm__law_lies_in an__law_lies_in cd__law_lies_in ct__law_lies_in), sl__law_lies_in⟩)
    (c__law_lies_in : PySem.W.codeIn K cd__law_lies_in "_law_lies_in" = true)
    (k__law_lies_in : PySem.W.keepIn K (.ref f__law_lies_in_) = true)
    (a__law_factorial : PySem.W.nsIn K mainGlobals "_law_factorial" = some (some (.ref f__law_factorial_)))
    (l__law_factorial : K.lookup f__law_factorial_ = some ⟨oc__law_factorial, od__law_factorial, .func (PySem.W.fnOf "_law_factorial" "_law_factorial" (defArgs s__law_factorial) (defBody s__law_factorial) (defScope s__law_factorial) .none kV__law_factorial dc__law_factorial pm__law_factorial an__law_factorial cd__law_factorial ct__law_factorial), sl__law_factorial⟩)
    (c__law_factorial : PySem.W.codeIn K cd__law_factorial "_law_factorial" = true)
    (k__law_factorial : PySem.W.keepIn K (.ref f__law_factorial_) = true)
    (a__law_bad_shape : PySem.W.nsIn K mainGlobals "_law_bad_shape" = some (some (.ref f__law_bad_shape_)))
    (l__law_bad_shape : K.lookup f__law_bad_shape_ = some ⟨oc__law_bad_shape, od__law_bad_shape, .func (PySem.W.fnOf "_law_bad_shape" "_law_bad_shape" (defArgs s__law_bad_shape) (defBody s__law_bad_shape) (defScope s__law_bad_shape) .none kV__law_bad_shape dc__law_bad_shape pm__law_bad_shape an__law_bad_shape cd__law_bad_shape ct__law_bad_shape), sl__law_bad_shape⟩)
    (c__law_bad_shape : PySem.W.codeIn K cd__law_bad_shape "_law_bad_shape" = true)
    (k__law_bad_shape : PySem.W.keepIn K (.ref f__law_bad_shape_) = true)
    (a__law_passed : PySem.W.nsIn K mainGlobals "_law_passed" = some (some (.ref f__law_passed_)))
    (l__law_passed : K.lookup f__law_passed_ = some ⟨oc__law_passed, od__law_passed, .func (PySem.W.fnOf "_law_passed" "_law_passed" (defArgs s__law_passed) (defBody s__law_passed) (defScope s__law_passed) .none kV__law_passed dc__law_passed pm__law_passed an__law_passed cd__law_passed ct__law_passed), sl__law_passed⟩)
    (c__law_passed : PySem.W.codeIn K cd__law_passed "_law_passed" = true)
    (k__law_passed : PySem.W.keepIn K (.ref f__law_passed_) = true)
    (a__law_kinds : PySem.W.nsIn K mainGlobals "_law_kinds" = some (some (.ref f__law_kinds_)))
    (l__law_kinds : K.lookup f__law_kinds_ = some ⟨oc__law_kinds, od__law_kinds, .func (PySem.W.fnOf "_law_kinds" "_law_kinds" (defArgs s__law_kinds) (defBody s__law_kinds) (defScope s__law_kinds) .none kV__law_kinds dc__law_kinds pm__law_kinds an__law_kinds cd__law_kinds ct__law_kinds), sl__law_kinds⟩)
    (c__law_kinds : PySem.W.codeIn K cd__law_kinds "_law_kinds" = true)
    (k__law_kinds : PySem.W.keepIn K (.ref f__law_kinds_) = true)
    (a__law_stays : PySem.W.nsIn K mainGlobals "_law_stays" = some (some (.ref f__law_stays_)))
    (l__law_stays : K.lookup f__law_stays_ = some ⟨oc__law_stays, od__law_stays, .func (PySem.W.fnOf "_law_stays" "_law_stays" (defArgs s__law_stays) (defBody s__law_stays) (defScope s__law_stays) .none kV__law_stays dc__law_stays pm__law_stays an__law_stays cd__law_stays ct__law_stays), sl__law_stays⟩)
    (c__law_stays : PySem.W.codeIn K cd__law_stays "_law_stays" = true)
    (k__law_stays : PySem.W.keepIn K (.ref f__law_stays_) = true)
    (a__law_is_rim : PySem.W.nsIn K mainGlobals "_law_is_rim" = some (some (.ref f__law_is_rim_)))
    (l__law_is_rim : K.lookup f__law_is_rim_ = some ⟨oc__law_is_rim, od__law_is_rim, .func (PySem.W.fnOf "_law_is_rim" "_law_is_rim" (defArgs s__law_is_rim) (defBody s__law_is_rim) (defScope s__law_is_rim) .none kV__law_is_rim dc__law_is_rim pm__law_is_rim an__law_is_rim cd__law_is_rim ct__law_is_rim), sl__law_is_rim⟩)
    (c__law_is_rim : PySem.W.codeIn K cd__law_is_rim "_law_is_rim" = true)
    (k__law_is_rim : PySem.W.keepIn K (.ref f__law_is_rim_) = true)
    (a__law_rims : PySem.W.nsIn K mainGlobals "_law_rims" = some (some (.ref f__law_rims_)))
    (l__law_rims : K.lookup f__law_rims_ = some ⟨oc__law_rims, od__law_rims, .func (PySem.W.fnOf "_law_rims" "_law_rims" (defArgs s__law_rims) (defBody s__law_rims) (defScope s__law_rims) .none kV__law_rims dc__law_rims pm__law_rims an__law_rims cd__law_rims ct__law_rims), sl__law_rims⟩)
    (c__law_rims : PySem.W.codeIn K cd__law_rims "_law_rims" = true)
    (k__law_rims : PySem.W.keepIn K (.ref f__law_rims_) = true)
    (a__law_character : PySem.W.nsIn K mainGlobals "_law_character" = some (some (.ref f__law_character_)))
    (l__law_character : K.lookup f__law_character_ = some ⟨oc__law_character, od__law_character, .func (PySem.W.fnOf "_law_character" "_law_character" (defArgs s__law_character) (defBody s__law_character) (defScope s__law_character) .none kV__law_character dc__law_character pm__law_character an__law_character cd__law_character ct__law_character), sl__law_character⟩)
    (c__law_character : PySem.W.codeIn K cd__law_character "_law_character" = true)
    (k__law_character : PySem.W.keepIn K (.ref f__law_character_) = true)
    (a__law_own : PySem.W.nsIn K mainGlobals "_law_own" = some (some (.ref f__law_own_)))
    (l__law_own : K.lookup f__law_own_ = some ⟨oc__law_own, od__law_own, .func (PySem.W.fnOf "_law_own" "_law_own" (defArgs s__law_own) (defBody s__law_own) (defScope s__law_own) .none kV__law_own dc__law_own pm__law_own an__law_own cd__law_own ct__law_own), sl__law_own⟩)
    (c__law_own : PySem.W.codeIn K cd__law_own "_law_own" = true)
    (k__law_own : PySem.W.keepIn K (.ref f__law_own_) = true)
    (a__law_case : PySem.W.nsIn K mainGlobals "_law_case" = some (some (.ref f__law_case_)))
    (l__law_case : K.lookup f__law_case_ = some ⟨oc__law_case, od__law_case, .func (PySem.W.fnOf "_law_case" "_law_case" (defArgs s__law_case) (defBody s__law_case) (defScope s__law_case) .none kV__law_case dc__law_case pm__law_case an__law_case cd__law_case ct__law_case), sl__law_case⟩)
    (c__law_case : PySem.W.codeIn K cd__law_case "_law_case" = true)
    (k__law_case : PySem.W.keepIn K (.ref f__law_case_) = true)
    (a__law_squares_hold : PySem.W.nsIn K mainGlobals "_law_squares_hold" = some (some (.ref f__law_squares_hold_)))
    (l__law_squares_hold : K.lookup f__law_squares_hold_ = some ⟨oc__law_squares_hold, od__law_squares_hold, .func (PySem.W.fnOf "_law_squares_hold" "_law_squares_hold" (defArgs s__law_squares_hold) (defBody s__law_squares_hold) (defScope s__law_squares_hold) .none kV__law_squares_hold dc__law_squares_hold pm__law_squares_hold an__law_squares_hold cd__law_squares_hold ct__law_squares_hold), sl__law_squares_hold⟩)
    (c__law_squares_hold : PySem.W.codeIn K cd__law_squares_hold "_law_squares_hold" = true)
    (k__law_squares_hold : PySem.W.keepIn K (.ref f__law_squares_hold_) = true)
    (z_abs : PySem.W.nsIn K mainGlobals "abs" = some none)
    (z_all : PySem.W.nsIn K mainGlobals "all" = some none)
    (z_any : PySem.W.nsIn K mainGlobals "any" = some none)
    (z_bool : PySem.W.nsIn K mainGlobals "bool" = some none)
    (z_enumerate : PySem.W.nsIn K mainGlobals "enumerate" = some none)
    (z_int : PySem.W.nsIn K mainGlobals "int" = some none)
    (z_isinstance : PySem.W.nsIn K mainGlobals "isinstance" = some none)
    (z_len : PySem.W.nsIn K mainGlobals "len" = some none)
    (z_list : PySem.W.nsIn K mainGlobals "list" = some none)
    (z_max : PySem.W.nsIn K mainGlobals "max" = some none)
    (z_min : PySem.W.nsIn K mainGlobals "min" = some none)
    (z_range : PySem.W.nsIn K mainGlobals "range" = some none)
    (z_repr : PySem.W.nsIn K mainGlobals "repr" = some none)
    (z_set : PySem.W.nsIn K mainGlobals "set" = some none)
    (z_sorted : PySem.W.nsIn K mainGlobals "sorted" = some none)
    (z_sum : PySem.W.nsIn K mainGlobals "sum" = some none)
    (z_tuple : PySem.W.nsIn K mainGlobals "tuple" = some none)
    (z_zip : PySem.W.nsIn K mainGlobals "zip" = some none)
    (g_MOST_BOXES : PySem.W.nsIn K mainGlobals "MOST_BOXES" = some (some (.int 30 t_MOST_BOXES)))
    (g_MOST_ROWS : PySem.W.nsIn K mainGlobals "MOST_ROWS" = some (some (.int 12 t_MOST_ROWS)))
    (g_MOST_SIZE : PySem.W.nsIn K mainGlobals "MOST_SIZE" = some (some (.int 8 t_MOST_SIZE)))
    (ba_BoxError : PySem.W.nsIn K mainGlobals "BoxError" = some (some (.ref B_BoxError)))
    (bg_BoxError : PySem.W.specialIn K (.ref B_BoxError) "__getattribute__" = some (some (.builtin "type.__getattribute__")))
    (br_BoxError : PySem.W.readsIn K B_BoxError (.type "type") = true)
    (bi_BoxError : PySem.W.findCls K (.ref B_BoxError) (.type "type") "__init__" = some (.val (.builtin "ValueError.__init__")))
    (ca_BadName : PySem.W.nsIn K mainGlobals "BadName" = some (some (.ref C_BadName)))
    (ce_BadName : PySem.W.subIn K (.ref C_BadName) (.type "BaseException") = some true)
    (ct_BadName_ : PySem.W.typeIn K (.ref C_BadName) = some (.type "type"))
    (nf_BadName_name : PySem.W.findIn K (.ref C_BadName) "name" = some none)
    (ca_BadNumber : PySem.W.nsIn K mainGlobals "BadNumber" = some (some (.ref C_BadNumber)))
    (ce_BadNumber : PySem.W.subIn K (.ref C_BadNumber) (.type "BaseException") = some true)
    (ct_BadNumber_ : PySem.W.typeIn K (.ref C_BadNumber) = some (.type "type"))
    (nf_BadNumber_what : PySem.W.findIn K (.ref C_BadNumber) "what" = some none)
    (nf_BadNumber_number : PySem.W.findIn K (.ref C_BadNumber) "number" = some none)
    (ca_BadRow : PySem.W.nsIn K mainGlobals "BadRow" = some (some (.ref C_BadRow)))
    (ce_BadRow : PySem.W.subIn K (.ref C_BadRow) (.type "BaseException") = some true)
    (ct_BadRow_ : PySem.W.typeIn K (.ref C_BadRow) = some (.type "type"))
    (nf_BadRow_row : PySem.W.findIn K (.ref C_BadRow) "row" = some none)
    (ca_BadShape : PySem.W.nsIn K mainGlobals "BadShape" = some (some (.ref C_BadShape)))
    (ce_BadShape : PySem.W.subIn K (.ref C_BadShape) (.type "BaseException") = some true)
    (ct_BadShape_ : PySem.W.typeIn K (.ref C_BadShape) = some (.type "type"))
    (nf_BadShape_shape : PySem.W.findIn K (.ref C_BadShape) "shape" = some none)
    (ca_BadTable : PySem.W.nsIn K mainGlobals "BadTable" = some (some (.ref C_BadTable)))
    (ce_BadTable : PySem.W.subIn K (.ref C_BadTable) (.type "BaseException") = some true)
    (ct_BadTable_ : PySem.W.typeIn K (.ref C_BadTable) = some (.type "type"))
    (nf_BadTable_table : PySem.W.findIn K (.ref C_BadTable) "table" = some none)
    (ca_TooMany : PySem.W.nsIn K mainGlobals "TooMany" = some (some (.ref C_TooMany)))
    (ce_TooMany : PySem.W.subIn K (.ref C_TooMany) (.type "BaseException") = some true)
    (ct_TooMany_ : PySem.W.typeIn K (.ref C_TooMany) = some (.type "type"))
    (nf_TooMany_what : PySem.W.findIn K (.ref C_TooMany) "what" = some none)
    (nf_TooMany_many : PySem.W.findIn K (.ref C_TooMany) "many" = some none)
    (nf_TooMany_limit : PySem.W.findIn K (.ref C_TooMany) "limit" = some none)
    (ca_Unlike : PySem.W.nsIn K mainGlobals "Unlike" = some (some (.ref C_Unlike)))
    (ce_Unlike : PySem.W.subIn K (.ref C_Unlike) (.type "BaseException") = some true)
    (ct_Unlike_ : PySem.W.typeIn K (.ref C_Unlike) = some (.type "type"))
    (nf_Unlike_what : PySem.W.findIn K (.ref C_Unlike) "what" = some none)
    (xl_BadShape : K.lookup C_BadShape = some (excClassObj nm_BadShape q_BadShape C_BadShape N_BadShape bs_BadShape bm_BadShape true sn_BadShape sub_BadShape ab_BadShape col_BadShape dd_BadShape k0_BadShape k1_BadShape k2_BadShape k3_BadShape k5_BadShape "ValueError.__new__"))
    (xm_BadShape : PySem.HandSPX.refsVE bm_BadShape = true)
    (xs_BadShape : PySem.W.findIn K (.ref C_BadShape) "__setattr__" = some (some (.builtin "object.__setattr__")))
    (xk_BadShape : PySem.W.keepIn K (.ref C_BadShape) = true)
    (xi_BadShape : PySem.W.findIn K (.ref C_BadShape) "__init__" = some (some (.ref f_BadShape_)))
    (xt_BadShape : PySem.W.typeIn K (.ref f_BadShape_) = some (.type "function"))
    (xf_BadShape : K.lookup f_BadShape_ = some ⟨oc_BadShape, od_BadShape, .func (PySem.W.fnOf "__init__" "BadShape.__init__" (defArgs i_BadShape) (defBody i_BadShape) (defScope i_BadShape) .none kV_BadShape dc_BadShape pm_BadShape an_BadShape cv_BadShape cx_BadShape), sl_BadShape⟩)
    (xc_BadShape : PySem.W.codeIn K cv_BadShape "BadShape.__init__" = true)
    (xp_BadShape : PySem.W.keepIn K (.ref f_BadShape_) = true)
    (xl_Unlike : K.lookup C_Unlike = some (excClassObj nm_Unlike q_Unlike C_Unlike N_Unlike bs_Unlike bm_Unlike true sn_Unlike sub_Unlike ab_Unlike col_Unlike dd_Unlike k0_Unlike k1_Unlike k2_Unlike k3_Unlike k5_Unlike "ValueError.__new__"))
    (xm_Unlike : PySem.HandSPX.refsVE bm_Unlike = true)
    (xs_Unlike : PySem.W.findIn K (.ref C_Unlike) "__setattr__" = some (some (.builtin "object.__setattr__")))
    (xk_Unlike : PySem.W.keepIn K (.ref C_Unlike) = true)
    (xi_Unlike : PySem.W.findIn K (.ref C_Unlike) "__init__" = some (some (.ref f_Unlike_)))
    (xt_Unlike : PySem.W.typeIn K (.ref f_Unlike_) = some (.type "function"))
    (xf_Unlike : K.lookup f_Unlike_ = some ⟨oc_Unlike, od_Unlike, .func (PySem.W.fnOf "__init__" "Unlike.__init__" (defArgs i_Unlike) (defBody i_Unlike) (defScope i_Unlike) .none kV_Unlike dc_Unlike pm_Unlike an_Unlike cv_Unlike cx_Unlike), sl_Unlike⟩)
    (xc_Unlike : PySem.W.codeIn K cv_Unlike "Unlike.__init__" = true)
    (xp_Unlike : PySem.W.keepIn K (.ref f_Unlike_) = true)
    (a__law_pen : PySem.W.nsIn K mainGlobals "_law_pen" = some (some (.ref f__law_pen_)))
    (l__law_pen : K.lookup f__law_pen_ = some ⟨oc__law_pen, od__law_pen, .func (PySem.W.fnOf "_law_pen" "_law_pen" (defArgs s__law_pen) (defBody s__law_pen) (defScope s__law_pen) .none kV__law_pen dc__law_pen pm__law_pen an__law_pen cd__law_pen ct__law_pen), sl__law_pen⟩)
    (c__law_pen : PySem.W.codeIn K cd__law_pen "_law_pen" = true)
    (k__law_pen : PySem.W.keepIn K (.ref f__law_pen_) = true)
    (a__law_fault : PySem.W.nsIn K mainGlobals "_law_fault" = some (some (.ref f__law_fault_)))
    (l__law_fault : K.lookup f__law_fault_ = some ⟨oc__law_fault, od__law_fault, .func (PySem.W.fnOf "_law_fault" "_law_fault" (defArgs s__law_fault) (defBody s__law_fault) (defScope s__law_fault) .none kV__law_fault dc__law_fault pm__law_fault an__law_fault cd__law_fault ct__law_fault), sl__law_fault⟩)
    (c__law_fault : PySem.W.codeIn K cd__law_fault "_law_fault" = true)
    (k__law_fault : PySem.W.keepIn K (.ref f__law_fault_) = true)
    (a__law_due : PySem.W.nsIn K mainGlobals "_law_due" = some (some (.ref f__law_due_)))
    (l__law_due : K.lookup f__law_due_ = some ⟨oc__law_due, od__law_due, .func (PySem.W.fnOf "_law_due" "_law_due" (defArgs s__law_due) (defBody s__law_due) (defScope s__law_due) .none kV__law_due dc__law_due pm__law_due an__law_due cd__law_due ct__law_due), sl__law_due⟩)
    (c__law_due : PySem.W.codeIn K cd__law_due "_law_due" = true)
    (k__law_due : PySem.W.keepIn K (.ref f__law_due_) = true)
    (cl_BadNumber : PySem.W.clsIn K C_BadNumber = some cd_BadNumber)
    (cg_BadNumber : PySem.W.findIn K (.ref C_BadNumber) "__getattribute__" = some (some (.builtin "BaseException.__getattribute__")))
    (ch_BadNumber : PySem.W.findIn K (.ref C_BadNumber) "__getattr__" = some none)
    (cw_BadNumber : PySem.W.hasDictIn K C_BadNumber = true)
    (cl_BadShape : PySem.W.clsIn K C_BadShape = some cd_BadShape)
    (cg_BadShape : PySem.W.findIn K (.ref C_BadShape) "__getattribute__" = some (some (.builtin "BaseException.__getattribute__")))
    (ch_BadShape : PySem.W.findIn K (.ref C_BadShape) "__getattr__" = some none)
    (cw_BadShape : PySem.W.hasDictIn K C_BadShape = true)
    (cl_BadRow : PySem.W.clsIn K C_BadRow = some cd_BadRow)
    (cg_BadRow : PySem.W.findIn K (.ref C_BadRow) "__getattribute__" = some (some (.builtin "BaseException.__getattribute__")))
    (ch_BadRow : PySem.W.findIn K (.ref C_BadRow) "__getattr__" = some none)
    (cw_BadRow : PySem.W.hasDictIn K C_BadRow = true)
    (cl_BadTable : PySem.W.clsIn K C_BadTable = some cd_BadTable)
    (cg_BadTable : PySem.W.findIn K (.ref C_BadTable) "__getattribute__" = some (some (.builtin "BaseException.__getattribute__")))
    (ch_BadTable : PySem.W.findIn K (.ref C_BadTable) "__getattr__" = some none)
    (cw_BadTable : PySem.W.hasDictIn K C_BadTable = true)
    (cl_BadName : PySem.W.clsIn K C_BadName = some cd_BadName)
    (cg_BadName : PySem.W.findIn K (.ref C_BadName) "__getattribute__" = some (some (.builtin "BaseException.__getattribute__")))
    (ch_BadName : PySem.W.findIn K (.ref C_BadName) "__getattr__" = some none)
    (cw_BadName : PySem.W.hasDictIn K C_BadName = true)
    (cl_TooMany : PySem.W.clsIn K C_TooMany = some cd_TooMany)
    (cg_TooMany : PySem.W.findIn K (.ref C_TooMany) "__getattribute__" = some (some (.builtin "BaseException.__getattribute__")))
    (ch_TooMany : PySem.W.findIn K (.ref C_TooMany) "__getattr__" = some none)
    (cw_TooMany : PySem.W.hasDictIn K C_TooMany = true)
    (cl_Unlike : PySem.W.clsIn K C_Unlike = some cd_Unlike)
    (cg_Unlike : PySem.W.findIn K (.ref C_Unlike) "__getattribute__" = some (some (.builtin "BaseException.__getattribute__")))
    (ch_Unlike : PySem.W.findIn K (.ref C_Unlike) "__getattr__" = some none)
    (cw_Unlike : PySem.W.hasDictIn K C_Unlike = true)
    (sb_BadNumber_BadNumber : PySem.W.subIn K (.ref C_BadNumber) (.ref C_BadNumber) = some true)
    (sb_BadNumber_BadShape : PySem.W.subIn K (.ref C_BadNumber) (.ref C_BadShape) = some false)
    (sb_BadNumber_BadRow : PySem.W.subIn K (.ref C_BadNumber) (.ref C_BadRow) = some false)
    (sb_BadNumber_BadTable : PySem.W.subIn K (.ref C_BadNumber) (.ref C_BadTable) = some false)
    (sb_BadNumber_BadName : PySem.W.subIn K (.ref C_BadNumber) (.ref C_BadName) = some false)
    (sb_BadNumber_TooMany : PySem.W.subIn K (.ref C_BadNumber) (.ref C_TooMany) = some false)
    (sb_BadNumber_Unlike : PySem.W.subIn K (.ref C_BadNumber) (.ref C_Unlike) = some false)
    (sb_BadShape_BadNumber : PySem.W.subIn K (.ref C_BadShape) (.ref C_BadNumber) = some false)
    (sb_BadShape_BadShape : PySem.W.subIn K (.ref C_BadShape) (.ref C_BadShape) = some true)
    (sb_BadShape_BadRow : PySem.W.subIn K (.ref C_BadShape) (.ref C_BadRow) = some false)
    (sb_BadShape_BadTable : PySem.W.subIn K (.ref C_BadShape) (.ref C_BadTable) = some false)
    (sb_BadShape_BadName : PySem.W.subIn K (.ref C_BadShape) (.ref C_BadName) = some false)
    (sb_BadShape_TooMany : PySem.W.subIn K (.ref C_BadShape) (.ref C_TooMany) = some false)
    (sb_BadShape_Unlike : PySem.W.subIn K (.ref C_BadShape) (.ref C_Unlike) = some false)
    (sb_BadRow_BadNumber : PySem.W.subIn K (.ref C_BadRow) (.ref C_BadNumber) = some false)
    (sb_BadRow_BadShape : PySem.W.subIn K (.ref C_BadRow) (.ref C_BadShape) = some false)
    (sb_BadRow_BadRow : PySem.W.subIn K (.ref C_BadRow) (.ref C_BadRow) = some true)
    (sb_BadRow_BadTable : PySem.W.subIn K (.ref C_BadRow) (.ref C_BadTable) = some false)
    (sb_BadRow_BadName : PySem.W.subIn K (.ref C_BadRow) (.ref C_BadName) = some false)
    (sb_BadRow_TooMany : PySem.W.subIn K (.ref C_BadRow) (.ref C_TooMany) = some false)
    (sb_BadRow_Unlike : PySem.W.subIn K (.ref C_BadRow) (.ref C_Unlike) = some false)
    (sb_BadTable_BadNumber : PySem.W.subIn K (.ref C_BadTable) (.ref C_BadNumber) = some false)
    (sb_BadTable_BadShape : PySem.W.subIn K (.ref C_BadTable) (.ref C_BadShape) = some false)
    (sb_BadTable_BadRow : PySem.W.subIn K (.ref C_BadTable) (.ref C_BadRow) = some false)
    (sb_BadTable_BadTable : PySem.W.subIn K (.ref C_BadTable) (.ref C_BadTable) = some true)
    (sb_BadTable_BadName : PySem.W.subIn K (.ref C_BadTable) (.ref C_BadName) = some false)
    (sb_BadTable_TooMany : PySem.W.subIn K (.ref C_BadTable) (.ref C_TooMany) = some false)
    (sb_BadTable_Unlike : PySem.W.subIn K (.ref C_BadTable) (.ref C_Unlike) = some false)
    (sb_BadName_BadNumber : PySem.W.subIn K (.ref C_BadName) (.ref C_BadNumber) = some false)
    (sb_BadName_BadShape : PySem.W.subIn K (.ref C_BadName) (.ref C_BadShape) = some false)
    (sb_BadName_BadRow : PySem.W.subIn K (.ref C_BadName) (.ref C_BadRow) = some false)
    (sb_BadName_BadTable : PySem.W.subIn K (.ref C_BadName) (.ref C_BadTable) = some false)
    (sb_BadName_BadName : PySem.W.subIn K (.ref C_BadName) (.ref C_BadName) = some true)
    (sb_BadName_TooMany : PySem.W.subIn K (.ref C_BadName) (.ref C_TooMany) = some false)
    (sb_BadName_Unlike : PySem.W.subIn K (.ref C_BadName) (.ref C_Unlike) = some false)
    (sb_TooMany_BadNumber : PySem.W.subIn K (.ref C_TooMany) (.ref C_BadNumber) = some false)
    (sb_TooMany_BadShape : PySem.W.subIn K (.ref C_TooMany) (.ref C_BadShape) = some false)
    (sb_TooMany_BadRow : PySem.W.subIn K (.ref C_TooMany) (.ref C_BadRow) = some false)
    (sb_TooMany_BadTable : PySem.W.subIn K (.ref C_TooMany) (.ref C_BadTable) = some false)
    (sb_TooMany_BadName : PySem.W.subIn K (.ref C_TooMany) (.ref C_BadName) = some false)
    (sb_TooMany_TooMany : PySem.W.subIn K (.ref C_TooMany) (.ref C_TooMany) = some true)
    (sb_TooMany_Unlike : PySem.W.subIn K (.ref C_TooMany) (.ref C_Unlike) = some false)
    (sb_Unlike_BadNumber : PySem.W.subIn K (.ref C_Unlike) (.ref C_BadNumber) = some false)
    (sb_Unlike_BadShape : PySem.W.subIn K (.ref C_Unlike) (.ref C_BadShape) = some false)
    (sb_Unlike_BadRow : PySem.W.subIn K (.ref C_Unlike) (.ref C_BadRow) = some false)
    (sb_Unlike_BadTable : PySem.W.subIn K (.ref C_Unlike) (.ref C_BadTable) = some false)
    (sb_Unlike_BadName : PySem.W.subIn K (.ref C_Unlike) (.ref C_BadName) = some false)
    (sb_Unlike_TooMany : PySem.W.subIn K (.ref C_Unlike) (.ref C_TooMany) = some false)
    (sb_Unlike_Unlike : PySem.W.subIn K (.ref C_Unlike) (.ref C_Unlike) = some true)
    (aLaw : PySem.W.nsIn K mainGlobals "law" = some (some (.ref fLaw_)))
    (lLaw : K.lookup fLaw_ = some ⟨ocLaw, odLaw, .func (PySem.W.fnOf "law" "law" (defArgs s_law) (defBody s_law) (defScope s_law) .none kVLaw dcLaw pmLaw anLaw (.ref cLaw_) ctLaw), slLaw⟩)
    (kcLaw : PySem.W.codeIn K (.ref cLaw_) "law" = true)
    (kLaw : PySem.W.keepIn K (.ref fLaw_) = true)
    : LawRun P w K mg fa cLaw_ Pt_ := by
  have e := hfa.symm.trans (PySem.W.mg_of X G aLaw)
  cases e
  have Γ : Nonempty (Fx K mg) := ⟨{
    tk := tk_of tkb,
    e__law_draw := mkDef X G a__law_draw l__law_draw c__law_draw k__law_draw (fun F => F.binds fun _ _ _ _ _ _ us hl => match us, hl with | [_, _], _ => rfl),
    e_is_whole := mkDef X G a_is_whole l_is_whole c_is_whole k_is_whole (fun F => F.binds fun _ _ _ _ _ _ us hl => match us, hl with | [_], _ => rfl),
    e_in_tuples := mkDef X G a_in_tuples l_in_tuples c_in_tuples k_in_tuples (fun F => F.binds fun _ _ _ _ _ _ us hl => match us, hl with | [_], _ => rfl),
    e_is_falling := mkDef X G a_is_falling l_is_falling c_is_falling k_is_falling (fun F => F.binds fun _ _ _ _ _ _ us hl => match us, hl with | [_], _ => rfl),
    e_is_shape := mkDef X G a_is_shape l_is_shape c_is_shape k_is_shape (fun F => F.binds fun _ _ _ _ _ _ us hl => match us, hl with | [_], _ => rfl),
    e_shape_from := mkDef X G a_shape_from l_shape_from c_shape_from k_shape_from (fun F => F.binds fun _ _ _ _ _ _ us hl => match us, hl with | [_], _ => rfl),
    e_falling_rows := mkDef X G a_falling_rows l_falling_rows c_falling_rows k_falling_rows (fun F => F.binds fun _ _ _ _ _ _ us hl => match us, hl with | [_, _, _], _ => rfl),
    e_factorial := mkDef X G a_factorial l_factorial c_factorial k_factorial (fun F => F.binds fun _ _ _ _ _ _ us hl => match us, hl with | [_], _ => rfl),
    e_beads_of := mkDef X G a_beads_of l_beads_of c_beads_of k_beads_of (fun F => F.binds fun _ _ _ _ _ _ us hl => match us, hl with | [_], _ => rfl),
    e_shape_of_beads := mkDef X G a_shape_of_beads l_shape_of_beads c_shape_of_beads k_shape_of_beads (fun F => F.binds fun _ _ _ _ _ _ us hl => match us, hl with | [_], _ => rfl),
    e_strips_by := mkDef X G a_strips_by l_strips_by c_strips_by k_strips_by (fun F => F.binds fun _ _ _ _ _ _ us hl => match us, hl with | [_, _], _ => rfl),
    e_character_by := mkDef X G a_character_by l_character_by c_character_by k_character_by (fun F => F.binds fun _ _ _ _ _ _ us hl => match us, hl with | [_, _], _ => rfl),
    e_stays_of := mkDef X G a_stays_of l_stays_of c_stays_of k_stays_of (fun F => F.binds fun _ _ _ _ _ _ us hl => match us, hl with | [_], _ => rfl),
    e_few_from := mkDef X G a_few_from l_few_from c_few_from k_few_from (fun F => F.binds fun _ _ _ _ _ _ us hl => match us, hl with | [_], _ => rfl),
    e_inner_number := mkDef X G a_inner_number l_inner_number c_inner_number k_inner_number (fun F => F.binds fun _ _ _ _ _ _ us hl => match us, hl with | [_, _, _], _ => rfl),
    e__law_pick := mkDef X G a__law_pick l__law_pick c__law_pick k__law_pick (fun F => F.binds fun _ _ _ _ _ _ us hl => match us, hl with | [_, _], _ => rfl),
    e__law_shuffled := mkDef X G a__law_shuffled l__law_shuffled c__law_shuffled k__law_shuffled (fun F => F.binds fun _ _ _ _ _ _ us hl => match us, hl with | [_, _], _ => rfl),
    e__law_gcd := mkDef X G a__law_gcd l__law_gcd c__law_gcd k__law_gcd (fun F => F.binds fun _ _ _ _ _ _ us hl => match us, hl with | [_, _], _ => rfl),
    e__law_q := mkDef X G a__law_q l__law_q c__law_q k__law_q (fun F => F.binds fun _ _ _ _ _ _ us hl => match us, hl with | [_, _], _ => rfl),
    e__law_shapes := mkDef X G a__law_shapes l__law_shapes c__law_shapes k__law_shapes (fun F => F.binds fun _ _ _ _ _ _ us hl => match us, hl with | [_, _], _ => rfl),
    e__law_shape_of := mkDef X G a__law_shape_of l__law_shape_of c__law_shape_of k__law_shape_of (fun F => F.binds fun _ _ _ _ _ _ us hl => match us, hl with | [_, _, _], _ => rfl),
    e__law_turned := mkDef X G a__law_turned l__law_turned c__law_turned k__law_turned (fun F => F.binds fun _ _ _ _ _ _ us hl => match us, hl with | [_], _ => rfl),
    e__law_padded := mkDef X G a__law_padded l__law_padded c__law_padded k__law_padded (fun F => F.binds fun _ _ _ _ _ _ us hl => match us, hl with | [_, _], _ => rfl),
    e__law_lies_in := mkDef X G a__law_lies_in l__law_lies_in c__law_lies_in k__law_lies_in (fun F => F.binds fun _ _ _ _ _ _ us hl => match us, hl with | [_, _], _ => rfl),
    e__law_factorial := mkDef X G a__law_factorial l__law_factorial c__law_factorial k__law_factorial (fun F => F.binds fun _ _ _ _ _ _ us hl => match us, hl with | [_], _ => rfl),
    e__law_bad_shape := mkDef X G a__law_bad_shape l__law_bad_shape c__law_bad_shape k__law_bad_shape (fun F => F.binds fun _ _ _ _ _ _ us hl => match us, hl with | [_], _ => rfl),
    e__law_passed := mkDef X G a__law_passed l__law_passed c__law_passed k__law_passed (fun F => F.binds fun _ _ _ _ _ _ us hl => match us, hl with | [_, _], _ => rfl),
    e__law_kinds := mkDef X G a__law_kinds l__law_kinds c__law_kinds k__law_kinds (fun F => F.binds fun _ _ _ _ _ _ us hl => match us, hl with | [_], _ => rfl),
    e__law_stays := mkDef X G a__law_stays l__law_stays c__law_stays k__law_stays (fun F => F.binds fun _ _ _ _ _ _ us hl => match us, hl with | [_], _ => rfl),
    e__law_is_rim := mkDef X G a__law_is_rim l__law_is_rim c__law_is_rim k__law_is_rim (fun F => F.binds fun _ _ _ _ _ _ us hl => match us, hl with | [_], _ => rfl),
    e__law_rims := mkDef X G a__law_rims l__law_rims c__law_rims k__law_rims (fun F => F.binds fun _ _ _ _ _ _ us hl => match us, hl with | [_, _], _ => rfl),
    e__law_character := mkDef X G a__law_character l__law_character c__law_character k__law_character (fun F => F.binds fun _ _ _ _ _ _ us hl => match us, hl with | [_, _], _ => rfl),
    e__law_own := mkDef X G a__law_own l__law_own c__law_own k__law_own (fun F => F.binds fun _ _ _ _ _ _ us hl => match us, hl with | [_, _, _], _ => rfl),
    e__law_case := mkDef X G a__law_case l__law_case c__law_case k__law_case (fun F => F.binds fun _ _ _ _ _ _ us hl => match us, hl with | [_], _ => rfl),
    e__law_squares_hold := mkDef X G a__law_squares_hold l__law_squares_hold c__law_squares_hold k__law_squares_hold (fun F => F.binds fun _ _ _ _ _ _ us hl => match us, hl with | [_], _ => rfl),
    m_abs := PySem.W.mg_none_of X G z_abs,
    m_all := PySem.W.mg_none_of X G z_all,
    m_any := PySem.W.mg_none_of X G z_any,
    m_bool := PySem.W.mg_none_of X G z_bool,
    m_enumerate := PySem.W.mg_none_of X G z_enumerate,
    m_int := PySem.W.mg_none_of X G z_int,
    m_isinstance := PySem.W.mg_none_of X G z_isinstance,
    m_len := PySem.W.mg_none_of X G z_len,
    m_list := PySem.W.mg_none_of X G z_list,
    m_max := PySem.W.mg_none_of X G z_max,
    m_min := PySem.W.mg_none_of X G z_min,
    m_range := PySem.W.mg_none_of X G z_range,
    m_repr := PySem.W.mg_none_of X G z_repr,
    m_set := PySem.W.mg_none_of X G z_set,
    m_sorted := PySem.W.mg_none_of X G z_sorted,
    m_sum := PySem.W.mg_none_of X G z_sum,
    m_tuple := PySem.W.mg_none_of X G z_tuple,
    m_zip := PySem.W.mg_none_of X G z_zip,
    k_MOST_BOXES := ⟨_, PySem.W.mg_of X G g_MOST_BOXES⟩,
    k_MOST_ROWS := ⟨_, PySem.W.mg_of X G g_MOST_ROWS⟩,
    k_MOST_SIZE := ⟨_, PySem.W.mg_of X G g_MOST_SIZE⟩,
    b_BoxError := mkBas X G ba_BoxError bg_BoxError br_BoxError bi_BoxError,
    x_BadShape := mkExc X G ca_BadShape xl_BadShape xm_BadShape xs_BadShape ce_BadShape ct_BadShape_ xk_BadShape xi_BadShape xt_BadShape xf_BadShape xc_BadShape xp_BadShape (fun F => F.binds fun _ _ _ _ _ _ us hl => match us, hl with | [_, _], _ => rfl) (nf_cons nf_BadShape_shape (fun y hy => absurd hy List.not_mem_nil)),
    x_Unlike := mkExc X G ca_Unlike xl_Unlike xm_Unlike xs_Unlike ce_Unlike ct_Unlike_ xk_Unlike xi_Unlike xt_Unlike xf_Unlike xc_Unlike xp_Unlike (fun F => F.binds fun _ _ _ _ _ _ us hl => match us, hl with | [_, _], _ => rfl) (nf_cons nf_Unlike_what (fun y hy => absurd hy List.not_mem_nil)) }⟩
  have Φ : Nonempty (Ff K mg) := ⟨{
    C_BadNumber := C_BadNumber,
    C_BadShape := C_BadShape,
    C_BadRow := C_BadRow,
    C_BadTable := C_BadTable,
    C_BadName := C_BadName,
    C_TooMany := C_TooMany,
    C_Unlike := C_Unlike,
    e__law_pen := mkDef X G a__law_pen l__law_pen c__law_pen k__law_pen (fun F => F.binds fun _ _ _ _ _ _ us hl => match us, hl with | [_], _ => rfl),
    e__law_fault := mkDef X G a__law_fault l__law_fault c__law_fault k__law_fault (fun F => F.binds fun _ _ _ _ _ _ us hl => match us, hl with | [_], _ => rfl),
    e__law_due := mkDef X G a__law_due l__law_due c__law_due k__law_due (fun F => F.binds fun _ _ _ _ _ _ us hl => match us, hl with | [_], _ => rfl),
    T := ⟨all_cons (PySem.W.mg_of X G ca_BadNumber) (all_cons (PySem.W.mg_of X G ca_BadShape) (all_cons (PySem.W.mg_of X G ca_BadRow) (all_cons (PySem.W.mg_of X G ca_BadTable) (all_cons (PySem.W.mg_of X G ca_BadName) (all_cons (PySem.W.mg_of X G ca_TooMany) (all_cons (PySem.W.mg_of X G ca_Unlike) (all_nil))))))), all_cons (⟨⟨cg_BadNumber, ch_BadNumber, ce_BadNumber, cw_BadNumber⟩, nf_cons nf_BadNumber_what (nf_cons nf_BadNumber_number (fun y hy => absurd hy List.not_mem_nil))⟩) (all_cons (⟨⟨cg_BadShape, ch_BadShape, ce_BadShape, cw_BadShape⟩, nf_cons nf_BadShape_shape (fun y hy => absurd hy List.not_mem_nil)⟩) (all_cons (⟨⟨cg_BadRow, ch_BadRow, ce_BadRow, cw_BadRow⟩, nf_cons nf_BadRow_row (fun y hy => absurd hy List.not_mem_nil)⟩) (all_cons (⟨⟨cg_BadTable, ch_BadTable, ce_BadTable, cw_BadTable⟩, nf_cons nf_BadTable_table (fun y hy => absurd hy List.not_mem_nil)⟩) (all_cons (⟨⟨cg_BadName, ch_BadName, ce_BadName, cw_BadName⟩, nf_cons nf_BadName_name (fun y hy => absurd hy List.not_mem_nil)⟩) (all_cons (⟨⟨cg_TooMany, ch_TooMany, ce_TooMany, cw_TooMany⟩, nf_cons nf_TooMany_what (nf_cons nf_TooMany_many (nf_cons nf_TooMany_limit (fun y hy => absurd hy List.not_mem_nil)))⟩) (all_cons (⟨⟨cg_Unlike, ch_Unlike, ce_Unlike, cw_Unlike⟩, nf_cons nf_Unlike_what (fun y hy => absurd hy List.not_mem_nil)⟩) (all_nil))))))), all_cons (all_cons (exm_mk cl_BadNumber ce_BadNumber ct_BadNumber_ sb_BadNumber_BadNumber) (all_cons (exm_mk cl_BadShape ce_BadShape ct_BadShape_ sb_BadNumber_BadShape) (all_cons (exm_mk cl_BadRow ce_BadRow ct_BadRow_ sb_BadNumber_BadRow) (all_cons (exm_mk cl_BadTable ce_BadTable ct_BadTable_ sb_BadNumber_BadTable) (all_cons (exm_mk cl_BadName ce_BadName ct_BadName_ sb_BadNumber_BadName) (all_cons (exm_mk cl_TooMany ce_TooMany ct_TooMany_ sb_BadNumber_TooMany) (all_cons (exm_mk cl_Unlike ce_Unlike ct_Unlike_ sb_BadNumber_Unlike) (all_nil)))))))) (all_cons (all_cons (exm_mk cl_BadNumber ce_BadNumber ct_BadNumber_ sb_BadShape_BadNumber) (all_cons (exm_mk cl_BadShape ce_BadShape ct_BadShape_ sb_BadShape_BadShape) (all_cons (exm_mk cl_BadRow ce_BadRow ct_BadRow_ sb_BadShape_BadRow) (all_cons (exm_mk cl_BadTable ce_BadTable ct_BadTable_ sb_BadShape_BadTable) (all_cons (exm_mk cl_BadName ce_BadName ct_BadName_ sb_BadShape_BadName) (all_cons (exm_mk cl_TooMany ce_TooMany ct_TooMany_ sb_BadShape_TooMany) (all_cons (exm_mk cl_Unlike ce_Unlike ct_Unlike_ sb_BadShape_Unlike) (all_nil)))))))) (all_cons (all_cons (exm_mk cl_BadNumber ce_BadNumber ct_BadNumber_ sb_BadRow_BadNumber) (all_cons (exm_mk cl_BadShape ce_BadShape ct_BadShape_ sb_BadRow_BadShape) (all_cons (exm_mk cl_BadRow ce_BadRow ct_BadRow_ sb_BadRow_BadRow) (all_cons (exm_mk cl_BadTable ce_BadTable ct_BadTable_ sb_BadRow_BadTable) (all_cons (exm_mk cl_BadName ce_BadName ct_BadName_ sb_BadRow_BadName) (all_cons (exm_mk cl_TooMany ce_TooMany ct_TooMany_ sb_BadRow_TooMany) (all_cons (exm_mk cl_Unlike ce_Unlike ct_Unlike_ sb_BadRow_Unlike) (all_nil)))))))) (all_cons (all_cons (exm_mk cl_BadNumber ce_BadNumber ct_BadNumber_ sb_BadTable_BadNumber) (all_cons (exm_mk cl_BadShape ce_BadShape ct_BadShape_ sb_BadTable_BadShape) (all_cons (exm_mk cl_BadRow ce_BadRow ct_BadRow_ sb_BadTable_BadRow) (all_cons (exm_mk cl_BadTable ce_BadTable ct_BadTable_ sb_BadTable_BadTable) (all_cons (exm_mk cl_BadName ce_BadName ct_BadName_ sb_BadTable_BadName) (all_cons (exm_mk cl_TooMany ce_TooMany ct_TooMany_ sb_BadTable_TooMany) (all_cons (exm_mk cl_Unlike ce_Unlike ct_Unlike_ sb_BadTable_Unlike) (all_nil)))))))) (all_cons (all_cons (exm_mk cl_BadNumber ce_BadNumber ct_BadNumber_ sb_BadName_BadNumber) (all_cons (exm_mk cl_BadShape ce_BadShape ct_BadShape_ sb_BadName_BadShape) (all_cons (exm_mk cl_BadRow ce_BadRow ct_BadRow_ sb_BadName_BadRow) (all_cons (exm_mk cl_BadTable ce_BadTable ct_BadTable_ sb_BadName_BadTable) (all_cons (exm_mk cl_BadName ce_BadName ct_BadName_ sb_BadName_BadName) (all_cons (exm_mk cl_TooMany ce_TooMany ct_TooMany_ sb_BadName_TooMany) (all_cons (exm_mk cl_Unlike ce_Unlike ct_Unlike_ sb_BadName_Unlike) (all_nil)))))))) (all_cons (all_cons (exm_mk cl_BadNumber ce_BadNumber ct_BadNumber_ sb_TooMany_BadNumber) (all_cons (exm_mk cl_BadShape ce_BadShape ct_BadShape_ sb_TooMany_BadShape) (all_cons (exm_mk cl_BadRow ce_BadRow ct_BadRow_ sb_TooMany_BadRow) (all_cons (exm_mk cl_BadTable ce_BadTable ct_BadTable_ sb_TooMany_BadTable) (all_cons (exm_mk cl_BadName ce_BadName ct_BadName_ sb_TooMany_BadName) (all_cons (exm_mk cl_TooMany ce_TooMany ct_TooMany_ sb_TooMany_TooMany) (all_cons (exm_mk cl_Unlike ce_Unlike ct_Unlike_ sb_TooMany_Unlike) (all_nil)))))))) (all_cons (all_cons (exm_mk cl_BadNumber ce_BadNumber ct_BadNumber_ sb_Unlike_BadNumber) (all_cons (exm_mk cl_BadShape ce_BadShape ct_BadShape_ sb_Unlike_BadShape) (all_cons (exm_mk cl_BadRow ce_BadRow ct_BadRow_ sb_Unlike_BadRow) (all_cons (exm_mk cl_BadTable ce_BadTable ct_BadTable_ sb_Unlike_BadTable) (all_cons (exm_mk cl_BadName ce_BadName ct_BadName_ sb_Unlike_BadName) (all_cons (exm_mk cl_TooMany ce_TooMany ct_TooMany_ sb_Unlike_TooMany) (all_cons (exm_mk cl_Unlike ce_Unlike ct_Unlike_ sb_Unlike_Unlike) (all_nil)))))))) (all_nil)))))))⟩ }⟩
  obtain ⟨Γ⟩ := Γ
  obtain ⟨Φ⟩ := Φ
  have FLaw := fun_mk (st := s_law) lLaw kcLaw kLaw
  exact law_run Γ Φ lLaw kcLaw (fun s u => .of_eq rfl) (plain Φ)
end K64
end Sx

open PySem PySem.W PyProof.Rows
set_option maxHeartbeats 0 in
theorem PySem.Challenge.cw_boxfillings_k64_inner_numbers_holds : PySem.Challenge.rw_boxfillings_k64_inner_numbers.Holds := by
  w_on; o_law; k_head; (case hw => w_witness2)
  k_fill
  refine Sx.walk_gT (l := PySem.Challenge.rw_boxfillings_k64_inner_numbers) rfl rfl (fun w h Y => PySem.W.km_in_of Y) ?F
  case F =>
    intro w mg fa h Y G hmg
    have KX := PySem.W.km_in_of Y
    have HT := PySem.W.km_tabs_of Y
    refine' ⟨_, _, HT _ List.mem_cons_self, ?nT, PySem.W.codeHd_of_K KX ?hC, Sx.K64.law_all KX G hmg ?tkb ?a__law_draw ?l__law_draw ?c__law_draw ?k__law_draw ?a_is_whole ?l_is_whole ?c_is_whole ?k_is_whole ?a_in_tuples ?l_in_tuples ?c_in_tuples ?k_in_tuples ?a_is_falling ?l_is_falling ?c_is_falling ?k_is_falling ?a_is_shape ?l_is_shape ?c_is_shape ?k_is_shape ?a_shape_from ?l_shape_from ?c_shape_from ?k_shape_from ?a_falling_rows ?l_falling_rows ?c_falling_rows ?k_falling_rows ?a_factorial ?l_factorial ?c_factorial ?k_factorial ?a_beads_of ?l_beads_of ?c_beads_of ?k_beads_of ?a_shape_of_beads ?l_shape_of_beads ?c_shape_of_beads ?k_shape_of_beads ?a_strips_by ?l_strips_by ?c_strips_by ?k_strips_by ?a_character_by ?l_character_by ?c_character_by ?k_character_by ?a_stays_of ?l_stays_of ?c_stays_of ?k_stays_of ?a_few_from ?l_few_from ?c_few_from ?k_few_from ?a_inner_number ?l_inner_number ?c_inner_number ?k_inner_number ?a__law_pick ?l__law_pick ?c__law_pick ?k__law_pick ?a__law_shuffled ?l__law_shuffled ?c__law_shuffled ?k__law_shuffled ?a__law_gcd ?l__law_gcd ?c__law_gcd ?k__law_gcd ?a__law_q ?l__law_q ?c__law_q ?k__law_q ?a__law_shapes ?l__law_shapes ?c__law_shapes ?k__law_shapes ?a__law_shape_of ?l__law_shape_of ?c__law_shape_of ?k__law_shape_of ?a__law_turned ?l__law_turned ?c__law_turned ?k__law_turned ?a__law_padded ?l__law_padded ?c__law_padded ?k__law_padded ?a__law_lies_in ?l__law_lies_in ?c__law_lies_in ?k__law_lies_in ?a__law_factorial ?l__law_factorial ?c__law_factorial ?k__law_factorial ?a__law_bad_shape ?l__law_bad_shape ?c__law_bad_shape ?k__law_bad_shape ?a__law_passed ?l__law_passed ?c__law_passed ?k__law_passed ?a__law_kinds ?l__law_kinds ?c__law_kinds ?k__law_kinds ?a__law_stays ?l__law_stays ?c__law_stays ?k__law_stays ?a__law_is_rim ?l__law_is_rim ?c__law_is_rim ?k__law_is_rim ?a__law_rims ?l__law_rims ?c__law_rims ?k__law_rims ?a__law_character ?l__law_character ?c__law_character ?k__law_character ?a__law_own ?l__law_own ?c__law_own ?k__law_own ?a__law_case ?l__law_case ?c__law_case ?k__law_case ?a__law_squares_hold ?l__law_squares_hold ?c__law_squares_hold ?k__law_squares_hold ?z_abs ?z_all ?z_any ?z_bool ?z_enumerate ?z_int ?z_isinstance ?z_len ?z_list ?z_max ?z_min ?z_range ?z_repr ?z_set ?z_sorted ?z_sum ?z_tuple ?z_zip ?g_MOST_BOXES ?g_MOST_ROWS ?g_MOST_SIZE ?ba_BoxError ?bg_BoxError ?br_BoxError ?bi_BoxError ?ca_BadName ?ce_BadName ?ct_BadName_ ?nf_BadName_name ?ca_BadNumber ?ce_BadNumber ?ct_BadNumber_ ?nf_BadNumber_what ?nf_BadNumber_number ?ca_BadRow ?ce_BadRow ?ct_BadRow_ ?nf_BadRow_row ?ca_BadShape ?ce_BadShape ?ct_BadShape_ ?nf_BadShape_shape ?ca_BadTable ?ce_BadTable ?ct_BadTable_ ?nf_BadTable_table ?ca_TooMany ?ce_TooMany ?ct_TooMany_ ?nf_TooMany_what ?nf_TooMany_many ?nf_TooMany_limit ?ca_Unlike ?ce_Unlike ?ct_Unlike_ ?nf_Unlike_what ?xl_BadShape ?xm_BadShape ?xs_BadShape ?xk_BadShape ?xi_BadShape ?xt_BadShape ?xf_BadShape ?xc_BadShape ?xp_BadShape ?xl_Unlike ?xm_Unlike ?xs_Unlike ?xk_Unlike ?xi_Unlike ?xt_Unlike ?xf_Unlike ?xc_Unlike ?xp_Unlike ?a__law_pen ?l__law_pen ?c__law_pen ?k__law_pen ?a__law_fault ?l__law_fault ?c__law_fault ?k__law_fault ?a__law_due ?l__law_due ?c__law_due ?k__law_due ?cl_BadNumber ?cg_BadNumber ?ch_BadNumber ?cw_BadNumber ?cl_BadShape ?cg_BadShape ?ch_BadShape ?cw_BadShape ?cl_BadRow ?cg_BadRow ?ch_BadRow ?cw_BadRow ?cl_BadTable ?cg_BadTable ?ch_BadTable ?cw_BadTable ?cl_BadName ?cg_BadName ?ch_BadName ?cw_BadName ?cl_TooMany ?cg_TooMany ?ch_TooMany ?cw_TooMany ?cl_Unlike ?cg_Unlike ?ch_Unlike ?cw_Unlike ?sb_BadNumber_BadNumber ?sb_BadNumber_BadShape ?sb_BadNumber_BadRow ?sb_BadNumber_BadTable ?sb_BadNumber_BadName ?sb_BadNumber_TooMany ?sb_BadNumber_Unlike ?sb_BadShape_BadNumber ?sb_BadShape_BadShape ?sb_BadShape_BadRow ?sb_BadShape_BadTable ?sb_BadShape_BadName ?sb_BadShape_TooMany ?sb_BadShape_Unlike ?sb_BadRow_BadNumber ?sb_BadRow_BadShape ?sb_BadRow_BadRow ?sb_BadRow_BadTable ?sb_BadRow_BadName ?sb_BadRow_TooMany ?sb_BadRow_Unlike ?sb_BadTable_BadNumber ?sb_BadTable_BadShape ?sb_BadTable_BadRow ?sb_BadTable_BadTable ?sb_BadTable_BadName ?sb_BadTable_TooMany ?sb_BadTable_Unlike ?sb_BadName_BadNumber ?sb_BadName_BadShape ?sb_BadName_BadRow ?sb_BadName_BadTable ?sb_BadName_BadName ?sb_BadName_TooMany ?sb_BadName_Unlike ?sb_TooMany_BadNumber ?sb_TooMany_BadShape ?sb_TooMany_BadRow ?sb_TooMany_BadTable ?sb_TooMany_BadName ?sb_TooMany_TooMany ?sb_TooMany_Unlike ?sb_Unlike_BadNumber ?sb_Unlike_BadShape ?sb_Unlike_BadRow ?sb_Unlike_BadTable ?sb_Unlike_BadName ?sb_Unlike_TooMany ?sb_Unlike_Unlike ?aLaw ?lLaw ?kcLaw ?kLaw⟩
    (case tkb => kernel_rfl)
    (case a__law_draw => k_is)
    (case l__law_draw => k_is)
    (case c__law_draw => k_is)
    (case k__law_draw => k_is)
    (case a_is_whole => k_is)
    (case l_is_whole => k_is)
    (case c_is_whole => k_is)
    (case k_is_whole => k_is)
    (case a_in_tuples => k_is)
    (case l_in_tuples => k_is)
    (case c_in_tuples => k_is)
    (case k_in_tuples => k_is)
    (case a_is_falling => k_is)
    (case l_is_falling => k_is)
    (case c_is_falling => k_is)
    (case k_is_falling => k_is)
    (case a_is_shape => k_is)
    (case l_is_shape => k_is)
    (case c_is_shape => k_is)
    (case k_is_shape => k_is)
    (case a_shape_from => k_is)
    (case l_shape_from => k_is)
    (case c_shape_from => k_is)
    (case k_shape_from => k_is)
    (case a_falling_rows => k_is)
    (case l_falling_rows => k_is)
    (case c_falling_rows => k_is)
    (case k_falling_rows => k_is)
    (case a_factorial => k_is)
    (case l_factorial => k_is)
    (case c_factorial => k_is)
    (case k_factorial => k_is)
    (case a_beads_of => k_is)
    (case l_beads_of => k_is)
    (case c_beads_of => k_is)
    (case k_beads_of => k_is)
    (case a_shape_of_beads => k_is)
    (case l_shape_of_beads => k_is)
    (case c_shape_of_beads => k_is)
    (case k_shape_of_beads => k_is)
    (case a_strips_by => k_is)
    (case l_strips_by => k_is)
    (case c_strips_by => k_is)
    (case k_strips_by => k_is)
    (case a_character_by => k_is)
    (case l_character_by => k_is)
    (case c_character_by => k_is)
    (case k_character_by => k_is)
    (case a_stays_of => k_is)
    (case l_stays_of => k_is)
    (case c_stays_of => k_is)
    (case k_stays_of => k_is)
    (case a_few_from => k_is)
    (case l_few_from => k_is)
    (case c_few_from => k_is)
    (case k_few_from => k_is)
    (case a_inner_number => k_is)
    (case l_inner_number => k_is)
    (case c_inner_number => k_is)
    (case k_inner_number => k_is)
    (case a__law_pick => k_is)
    (case l__law_pick => k_is)
    (case c__law_pick => k_is)
    (case k__law_pick => k_is)
    (case a__law_shuffled => k_is)
    (case l__law_shuffled => k_is)
    (case c__law_shuffled => k_is)
    (case k__law_shuffled => k_is)
    (case a__law_gcd => k_is)
    (case l__law_gcd => k_is)
    (case c__law_gcd => k_is)
    (case k__law_gcd => k_is)
    (case a__law_q => k_is)
    (case l__law_q => k_is)
    (case c__law_q => k_is)
    (case k__law_q => k_is)
    (case a__law_shapes => k_is)
    (case l__law_shapes => k_is)
    (case c__law_shapes => k_is)
    (case k__law_shapes => k_is)
    (case a__law_shape_of => k_is)
    (case l__law_shape_of => k_is)
    (case c__law_shape_of => k_is)
    (case k__law_shape_of => k_is)
    (case a__law_turned => k_is)
    (case l__law_turned => k_is)
    (case c__law_turned => k_is)
    (case k__law_turned => k_is)
    (case a__law_padded => k_is)
    (case l__law_padded => k_is)
    (case c__law_padded => k_is)
    (case k__law_padded => k_is)
    (case a__law_lies_in => k_is)
    (case l__law_lies_in => k_is)
    (case c__law_lies_in => k_is)
    (case k__law_lies_in => k_is)
    (case a__law_factorial => k_is)
    (case l__law_factorial => k_is)
    (case c__law_factorial => k_is)
    (case k__law_factorial => k_is)
    (case a__law_bad_shape => k_is)
    (case l__law_bad_shape => k_is)
    (case c__law_bad_shape => k_is)
    (case k__law_bad_shape => k_is)
    (case a__law_passed => k_is)
    (case l__law_passed => k_is)
    (case c__law_passed => k_is)
    (case k__law_passed => k_is)
    (case a__law_kinds => k_is)
    (case l__law_kinds => k_is)
    (case c__law_kinds => k_is)
    (case k__law_kinds => k_is)
    (case a__law_stays => k_is)
    (case l__law_stays => k_is)
    (case c__law_stays => k_is)
    (case k__law_stays => k_is)
    (case a__law_is_rim => k_is)
    (case l__law_is_rim => k_is)
    (case c__law_is_rim => k_is)
    (case k__law_is_rim => k_is)
    (case a__law_rims => k_is)
    (case l__law_rims => k_is)
    (case c__law_rims => k_is)
    (case k__law_rims => k_is)
    (case a__law_character => k_is)
    (case l__law_character => k_is)
    (case c__law_character => k_is)
    (case k__law_character => k_is)
    (case a__law_own => k_is)
    (case l__law_own => k_is)
    (case c__law_own => k_is)
    (case k__law_own => k_is)
    (case a__law_case => k_is)
    (case l__law_case => k_is)
    (case c__law_case => k_is)
    (case k__law_case => k_is)
    (case a__law_squares_hold => k_is)
    (case l__law_squares_hold => k_is)
    (case c__law_squares_hold => k_is)
    (case k__law_squares_hold => k_is)
    (case z_abs => k_is)
    (case z_all => k_is)
    (case z_any => k_is)
    (case z_bool => k_is)
    (case z_enumerate => k_is)
    (case z_int => k_is)
    (case z_isinstance => k_is)
    (case z_len => k_is)
    (case z_list => k_is)
    (case z_max => k_is)
    (case z_min => k_is)
    (case z_range => k_is)
    (case z_repr => k_is)
    (case z_set => k_is)
    (case z_sorted => k_is)
    (case z_sum => k_is)
    (case z_tuple => k_is)
    (case z_zip => k_is)
    (case g_MOST_BOXES => k_is)
    (case g_MOST_ROWS => k_is)
    (case g_MOST_SIZE => k_is)
    (case ba_BoxError => k_is)
    (case bg_BoxError => k_is)
    (case br_BoxError => k_is)
    (case bi_BoxError => k_is)
    (case ca_BadName => k_is)
    (case ce_BadName => k_is)
    (case ct_BadName_ => k_is)
    (case nf_BadName_name => k_is)
    (case ca_BadNumber => k_is)
    (case ce_BadNumber => k_is)
    (case ct_BadNumber_ => k_is)
    (case nf_BadNumber_what => k_is)
    (case nf_BadNumber_number => k_is)
    (case ca_BadRow => k_is)
    (case ce_BadRow => k_is)
    (case ct_BadRow_ => k_is)
    (case nf_BadRow_row => k_is)
    (case ca_BadShape => k_is)
    (case ce_BadShape => k_is)
    (case ct_BadShape_ => k_is)
    (case nf_BadShape_shape => k_is)
    (case ca_BadTable => k_is)
    (case ce_BadTable => k_is)
    (case ct_BadTable_ => k_is)
    (case nf_BadTable_table => k_is)
    (case ca_TooMany => k_is)
    (case ce_TooMany => k_is)
    (case ct_TooMany_ => k_is)
    (case nf_TooMany_what => k_is)
    (case nf_TooMany_many => k_is)
    (case nf_TooMany_limit => k_is)
    (case ca_Unlike => k_is)
    (case ce_Unlike => k_is)
    (case ct_Unlike_ => k_is)
    (case nf_Unlike_what => k_is)
    (case xl_BadShape => k_is)
    (case xm_BadShape => first | rfl | decide +kernel)
    (case xs_BadShape => k_is)
    (case xk_BadShape => k_is)
    (case xi_BadShape => k_is)
    (case xt_BadShape => k_is)
    (case xf_BadShape => k_is)
    (case xc_BadShape => k_is)
    (case xp_BadShape => k_is)
    (case xl_Unlike => k_is)
    (case xm_Unlike => first | rfl | decide +kernel)
    (case xs_Unlike => k_is)
    (case xk_Unlike => k_is)
    (case xi_Unlike => k_is)
    (case xt_Unlike => k_is)
    (case xf_Unlike => k_is)
    (case xc_Unlike => k_is)
    (case xp_Unlike => k_is)
    (case a__law_pen => k_is)
    (case l__law_pen => k_is)
    (case c__law_pen => k_is)
    (case k__law_pen => k_is)
    (case a__law_fault => k_is)
    (case l__law_fault => k_is)
    (case c__law_fault => k_is)
    (case k__law_fault => k_is)
    (case a__law_due => k_is)
    (case l__law_due => k_is)
    (case c__law_due => k_is)
    (case k__law_due => k_is)
    (case cl_BadNumber => k_is)
    (case cg_BadNumber => k_is)
    (case ch_BadNumber => k_is)
    (case cw_BadNumber => k_is)
    (case cl_BadShape => k_is)
    (case cg_BadShape => k_is)
    (case ch_BadShape => k_is)
    (case cw_BadShape => k_is)
    (case cl_BadRow => k_is)
    (case cg_BadRow => k_is)
    (case ch_BadRow => k_is)
    (case cw_BadRow => k_is)
    (case cl_BadTable => k_is)
    (case cg_BadTable => k_is)
    (case ch_BadTable => k_is)
    (case cw_BadTable => k_is)
    (case cl_BadName => k_is)
    (case cg_BadName => k_is)
    (case ch_BadName => k_is)
    (case cw_BadName => k_is)
    (case cl_TooMany => k_is)
    (case cg_TooMany => k_is)
    (case ch_TooMany => k_is)
    (case cw_TooMany => k_is)
    (case cl_Unlike => k_is)
    (case cg_Unlike => k_is)
    (case ch_Unlike => k_is)
    (case cw_Unlike => k_is)
    (case sb_BadNumber_BadNumber => k_is)
    (case sb_BadNumber_BadShape => k_is)
    (case sb_BadNumber_BadRow => k_is)
    (case sb_BadNumber_BadTable => k_is)
    (case sb_BadNumber_BadName => k_is)
    (case sb_BadNumber_TooMany => k_is)
    (case sb_BadNumber_Unlike => k_is)
    (case sb_BadShape_BadNumber => k_is)
    (case sb_BadShape_BadShape => k_is)
    (case sb_BadShape_BadRow => k_is)
    (case sb_BadShape_BadTable => k_is)
    (case sb_BadShape_BadName => k_is)
    (case sb_BadShape_TooMany => k_is)
    (case sb_BadShape_Unlike => k_is)
    (case sb_BadRow_BadNumber => k_is)
    (case sb_BadRow_BadShape => k_is)
    (case sb_BadRow_BadRow => k_is)
    (case sb_BadRow_BadTable => k_is)
    (case sb_BadRow_BadName => k_is)
    (case sb_BadRow_TooMany => k_is)
    (case sb_BadRow_Unlike => k_is)
    (case sb_BadTable_BadNumber => k_is)
    (case sb_BadTable_BadShape => k_is)
    (case sb_BadTable_BadRow => k_is)
    (case sb_BadTable_BadTable => k_is)
    (case sb_BadTable_BadName => k_is)
    (case sb_BadTable_TooMany => k_is)
    (case sb_BadTable_Unlike => k_is)
    (case sb_BadName_BadNumber => k_is)
    (case sb_BadName_BadShape => k_is)
    (case sb_BadName_BadRow => k_is)
    (case sb_BadName_BadTable => k_is)
    (case sb_BadName_BadName => k_is)
    (case sb_BadName_TooMany => k_is)
    (case sb_BadName_Unlike => k_is)
    (case sb_TooMany_BadNumber => k_is)
    (case sb_TooMany_BadShape => k_is)
    (case sb_TooMany_BadRow => k_is)
    (case sb_TooMany_BadTable => k_is)
    (case sb_TooMany_BadName => k_is)
    (case sb_TooMany_TooMany => k_is)
    (case sb_TooMany_Unlike => k_is)
    (case sb_Unlike_BadNumber => k_is)
    (case sb_Unlike_BadShape => k_is)
    (case sb_Unlike_BadRow => k_is)
    (case sb_Unlike_BadTable => k_is)
    (case sb_Unlike_BadName => k_is)
    (case sb_Unlike_TooMany => k_is)
    (case sb_Unlike_Unlike => k_is)
    (case aLaw => k_is)
    (case lLaw => k_is)
    (case kcLaw => k_is)
    (case kLaw => k_is)
    (case nT => kernel_rfl)
    (case hC => kernel_rfl)

