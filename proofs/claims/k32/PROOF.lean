import PyProof.Rows.All
import Wide.All
import OpenK.AllK
import Wide.FinOn
import PyProof.EqAt
import PyProof.EqKinds
import PyProof.TupleCall
import HandS.ForMost
import HandS.Exc
import HandS.TryOnly
import HandS.ExcOwn
import HandS.ExcField
import HandS.WordsExc
import HandS.Lambda
import HandS.IsInst
import HandS.Wide
import HandS.WideMore
import HandS.Walk
import HandS.TupAny
import HandS.Rev
import HandS.Flow
import HandS.Style
import HandS.Zip
import KE.KExcSuper
import HandS.ExcSuper
import HandS.ExcInit
import HandS.TryMany
import HandS.EndTab
import KE.GoesMore
import HandS.Iter
import HandS.Text
import HandS.Conv
import KE.KTupSum
import HandS.MakeKw
import HandS.Defaults
import HandS.SortRule
import KE.DataMinMax
import KE.SortData
import PyProof.ReprBulk
import PyProof.Rows.ReprOcc
import PySem.Challenge.RW_whatmovesbuy_k32_whole_what_the_foe_asks
section
set_option Elab.async false
set_option linter.all false
set_option maxRecDepth 100000
set_option maxHeartbeats 4000000
/-! DsA: data-level meaning: what a slot bears, what a run leaves -/
namespace DS
open PySem PySem.Spec PyProof.Rows L2
abbrev D := PyData
/-! what a slot bears: nothing yet, data (never changed from now on), a list, a dict, an instance of the def's own -/
mutual
inductive SV where
  | un
  | d (x : PyData)
  | ol (xs : List PyData)
  | od (kvs : List (Key × PyData))
  | oo (c : Str) (fs : FS)
/-- an instance's attributes, by name -/
inductive FS where
  | nil
  | cons (f : Str) (s : SV) (r : FS)
end
abbrev Rho := List SV
/-- an error: its class, its one field, what the field holds -/
structure Er where
  cls : Str
  fld : Str
  val : PyData
/-- how a run ends -/
inductive R (α : Type) where
  | ok (a : α) (ρ : Rho)
  | er (e : Er) (ρ : Rho)
  | bad
abbrev M (α : Type) := Rho → R α
/-- a value: data, or the slot that owns it -/
inductive RV where
  | dat (x : PyData)
  | slot (i : Nat)
/-- what a def hands back: data, or a new object that is the caller's -/
inductive RO where
  | dat (x : PyData)
  | new (s : SV)
inductive Fl where
  | nx | brk | ct
  | ret (r : RO)
def R.bnd {α β : Type} (r : R α) (f : α → M β) : R β := match r with
  | .ok a ρ => f a ρ
  | .er e ρ => .er e ρ
  | .bad => .bad
def bnd {α β : Type} (m : M α) (f : α → M β) : M β := fun ρ => (m ρ).bnd f
def ret {α : Type} (a : α) : M α := fun ρ => .ok a ρ
def bad {α : Type} : M α := fun _ => .bad
def opt {α : Type} (o : Option α) : M α := fun ρ => match o with
  | some a => .ok a ρ
  | none => .bad
@[simp] theorem R.bnd_ok {α β : Type} (a : α) (ρ : Rho) (f : α → M β) : (R.ok a ρ).bnd f = f a ρ := rfl
@[simp] theorem R.bnd_er {α β : Type} (e : Er) (ρ : Rho) (f : α → M β) : (R.er e ρ : R α).bnd f = .er e ρ := rfl
@[simp] theorem R.bnd_bad {α β : Type} (f : α → M β) : (R.bad : R α).bnd f = .bad := rfl
/-! ### data in a heap -/
section
variable {K : PySem.W.Frag} {H H' Hs Hs' : Hp}
theorem same_sqT {a : Addr} {xs : List V} (e : Same H H') (h : SqT K H a xs) : SqT K H' a xs := by
  rcases h with (h | ⟨o, h⟩) | h
  · exact .inl (.inl (e _ _ h))
  · exact .inl (.inr ⟨o, e _ _ h⟩)
  · exact .inr h
mutual
theorem dp_mono (e : Same H H') : ∀ {v : V} {d : PyData}, Dp K H v d → Dp K H' v d
  | _, _, .non => .non
  | _, _, .bl b => .bl b
  | _, _, .int i => .int i
  | _, _, .str x => .str x
  | _, _, .lst h ds => .lst (e.seq h) (dpAll_mono e ds)
  | _, _, .tup h ds => .tup (same_sqT e h) (dpAll_mono e ds)
theorem dpAll_mono (e : Same H H') : ∀ {vs : List V} {ds : List PyData}, DpAll K H vs ds → DpAll K H' vs ds
  | _, _, .nil => .nil
  | _, _, .cons a b => .cons (dp_mono e a) (dpAll_mono e b)
end
theorem dpAll_len : ∀ {vs : List V} {ds : List PyData}, DpAll K H vs ds → vs.length = ds.length
  | _, _, .nil => rfl
  | _, _, .cons _ b => by rw [List.length_cons, List.length_cons, dpAll_len b]
theorem dpAll_app : ∀ {vs ws : List V} {ds es : List PyData}, DpAll K H vs ds → DpAll K H ws es → DpAll K H (vs ++ ws) (ds ++ es)
  | _, _, _, _, .nil, b => b
  | _, _, _, _, .cons a r, b => .cons a (dpAll_app r b)
theorem dpAll_get : ∀ {vs : List V} {ds : List PyData} {i : Nat} {d : PyData}, DpAll K H vs ds → ds[i]? = some d → ∃ v, vs[i]? = some v ∧ Dp K H v d
  | _, _, _, _, .nil, e => by simp at e
  | _, _, 0, _, .cons a r, e => by
    simp at e; subst e
    exact ⟨_, rfl, a⟩
  | _, _, i + 1, _, .cons a r, e => by
    obtain ⟨v, h1, h2⟩ := dpAll_get (i := i) r (by simpa using e)
    exact ⟨v, by simpa using h1, h2⟩
theorem dpAll_take : ∀ {vs : List V} {ds : List PyData} (n : Nat), DpAll K H vs ds → DpAll K H (vs.take n) (ds.take n)
  | _, _, 0, _ => .nil
  | _, _, _ + 1, .nil => .nil
  | _, _, n + 1, .cons a r => .cons a (dpAll_take n r)
theorem dpAll_drop : ∀ {vs : List V} {ds : List PyData} (n : Nat), DpAll K H vs ds → DpAll K H (vs.drop n) (ds.drop n)
  | _, _, 0, r => r
  | _, _, _ + 1, .nil => .nil
  | _, _, n + 1, .cons _ r => dpAll_drop n r
theorem dpAll_set : ∀ {vs : List V} {ds : List PyData} {v : V} {d : PyData} (i : Nat), DpAll K H vs ds → Dp K H v d → DpAll K H (vs.set i v) (ds.set i d)
  | _, _, _, _, _, .nil, _ => .nil
  | _, _, _, _, 0, .cons _ r, q => .cons q r
  | _, _, _, _, i + 1, .cons a r, q => .cons a (dpAll_set i r q)
theorem dpAll_rev {vs : List V} {ds : List PyData} (h : DpAll K H vs ds) : DpAll K H vs.reverse ds.reverse := by
  induction h using DpAll.rec (motive_1 := fun _ _ _ => True) with
  | nil => exact .nil
  | cons a r _ ih =>
    rw [List.reverse_cons, List.reverse_cons]
    exact dpAll_app ih (.cons a .nil)
  | _ => trivial
theorem dpAll_ints : ∀ (ns : List Int), DpAll K H (ns.map V.int) (ns.map PyData.int)
  | [] => .nil
  | n :: r => .cons (.int n) (dpAll_ints r)
end
end DS
end
section
set_option Elab.async false
set_option linter.all false
set_option maxRecDepth 100000
set_option maxHeartbeats 4000000
/-! DsB: slots against a heap, growth, posts -/
namespace DS
open PySem PySem.Spec PyProof.Rows L2
/-- the tables of code objects; the own classes by name -/
structure Tbs where
  tb : List (Addr × Str)
  cl : Str → Option Addr
def kvRep (K : PySem.W.Frag) (Hs : Hp) : List (Key × V) → List (Key × PyData) → Prop
  | [], [] => True
  | p :: r, q :: t => p.1 = q.1 ∧ Dp K Hs p.2 q.2 ∧ kvRep K Hs r t
  | _, _ => False
mutual
/-- the addresses of what a slot owns -/
def OwnAt (H : Hp) : SV → Option V → Addr → Prop
  | .ol _, v, a => v = some (.ref a)
  | .od _, v, a => v = some (.ref a)
  | .oo _ fs, v, a => ∃ p C dx gs, v = some (.ref p) ∧ H p = some (.ins C dx gs) ∧ (a = p ∨ OwnF H fs gs a)
  | .un, _, _ => False
  | .d _, _, _ => False
def OwnF (H : Hp) : FS → List (Str × V) → Addr → Prop
  | .cons _ s r, g :: t, a => OwnAt H s (some g.2) a ∨ OwnF H r t a
  | .cons _ _ _, [], _ => False
  | .nil, _, _ => False
end
/-- what slot i of the state holds -/
abbrev at? (σ : L2.St) (i : Nat) : Option V := (σ[i]?).join
def OwnI (H : Hp) (ρ : Rho) (σ : L2.St) (i : Nat) (a : Addr) : Prop := ∃ s, ρ[i]? = some s ∧ OwnAt H s (at? σ i) a
def Own (H : Hp) (ρ : Rho) (σ : L2.St) (a : Addr) : Prop := ∃ i, OwnI H ρ σ i a
mutual
def SRep (K : PySem.W.Frag) (T : Tbs) (Hs H : Hp) : SV → Option V → Prop
  | .un, _ => True
  | .d x, v => ∃ y, v = some y ∧ Dp K Hs y x
  | .ol xs, v => ∃ p vs, v = some (.ref p) ∧ H p = some (.lst vs) ∧ DpAll K Hs vs xs ∧ Hs p = none
  | .od kvs, v => ∃ p hs, v = some (.ref p) ∧ H p = some (.dK hs) ∧ kvRep K Hs hs kvs ∧ Hs p = none
  | .oo c fs, v => ∃ p C dx gs, v = some (.ref p) ∧ H p = some (.ins C dx gs) ∧ T.cl c = some C ∧ Hs p = none ∧ ¬ OwnF H fs gs p ∧ FRep K T Hs H fs gs
def FRep (K : PySem.W.Frag) (T : Tbs) (Hs H : Hp) : FS → List (Str × V) → Prop
  | .nil, [] => True
  | .cons f s r, g :: t => g.1 = f ∧ SRep K T Hs H s (some g.2) ∧ FRep K T Hs H r t ∧ ∀ a, OwnAt H s (some g.2) a → ¬ OwnF H r t a
  | .nil, _ :: _ => False
  | .cons _ _ _, [] => False
end
structure Rep (K : PySem.W.Frag) (T : Tbs) (Hs : Hp) (ρ : Rho) (σ : L2.St) (H : Hp) : Prop where
  sub : Same Hs H
  ntb : ∀ a ps, Hs a ≠ some (.tbl ps)
  len : ρ.length = σ.length
  at_ : ∀ i s, ρ[i]? = some s → SRep K T Hs H s (at? σ i)
  dis : ∀ i j a s t, ρ[i]? = some s → ρ[j]? = some t → OwnAt H s (at? σ i) a → OwnAt H t (at? σ j) a → i = j
  tab : LamX.Tabs T.tb H
/-- nothing is there but a table, perhaps -/
def Fre (H : Hp) (a : Addr) : Prop := ∀ o, H a = some o → ∃ ps, o = .tbl ps
theorem fre_none {H : Hp} {a : Addr} (h : H a = none) : Fre H a := fun o e => by rw [h] at e; cases e
theorem fre_same {H H' : Hp} {a : Addr} (s : Same H H') (h : Fre H' a) : Fre H a := fun o e => h o (s a o e)
structure Grow (ρ : Rho) (σ : L2.St) (Hs H : Hp) (ρ' : Rho) (σ' : L2.St) (Hs' H' : Hp) : Prop where
  fr : ∀ a o, H a = some o → (∀ ps, o ≠ .tbl ps) → ¬ Own H ρ σ a → H' a = some o
  dm : ∀ a, Fre H' a → Fre H a
  sh : Same Hs Hs'
  nw : ∀ a, Hs' a ≠ none → Hs a ≠ none ∨ Fre H a ∨ Own H ρ σ a
  ow : ∀ i a, OwnI H' ρ' σ' i a → OwnI H ρ σ i a ∨ Fre H a
/-- an object that is there and no slot's own -/
def RVRep (K : PySem.W.Frag) (Hs : Hp) (σ : L2.St) (r : RV) (v : V) : Prop := match r with
  | .dat x => Dp K Hs v x
  | .slot i => at? σ i = some v
def ERep (K : PySem.W.Frag) (mg : Str → Option Value) (Hs H : Hp) (e : Er) (cls : Value) (dd : Option Addr) : Prop :=
  ∃ C d v, cls = .ref C ∧ mg e.cls = some (.ref C) ∧ dd = some d ∧ H d = some (.xd [(e.fld, v)]) ∧ Dp K Hs v e.val
section
variable {K : PySem.W.Frag} {T : Tbs} {mg : Str → Option Value} {Hs H Hs' H' Hs1 H1 Hs2 H2 : Hp} {ρ ρ' ρ1 ρ2 : Rho} {σ σ' σ1 σ2 : L2.St}
theorem none_of_same {a : Addr} (e : Same H H') (h : H' a = none) : H a = none := e.free h
/-- what may be owned -/
def IsOwn : HO → Prop
  | .lst _ => True
  | .dK _ => True
  | .ins _ _ _ => True
  | _ => False
theorem isOwn_tbl {u : HO} (h : IsOwn u) (ps : Array Value) : u ≠ .tbl ps := fun z => by rw [z] at h; exact h
theorem isOwn_code {u : HO} (h : IsOwn u) {c : Addr} {q : Str} : u ≠ LamX.CodeO c q := fun z => by rw [z] at h; exact h
mutual
theorem SRep.ownedK : ∀ {s : SV} {v : Option V} {a : Addr}, SRep K T Hs H s v → OwnAt H s v a → (∃ u, H a = some u ∧ IsOwn u) ∧ Hs a = none
  | .un, _, _, _, o => o.elim
  | .d _, _, _, _, o => o.elim
  | .ol xs, v, a, r, o => by
    obtain ⟨p, vs, e, h, _, n⟩ := r
    have o' : v = some (.ref a) := o
    rw [e] at o'; cases o'
    exact ⟨⟨_, h, trivial⟩, n⟩
  | .od xs, v, a, r, o => by
    obtain ⟨p, vs, e, h, _, n⟩ := r
    have o' : v = some (.ref a) := o
    rw [e] at o'; cases o'
    exact ⟨⟨_, h, trivial⟩, n⟩
  | .oo c fs, v, a, r, o => by
    obtain ⟨p, C, dx, gs, e, h, _, n, _, fr⟩ := r
    obtain ⟨p', C', dx', gs', e', h', o⟩ := o
    rw [e] at e'; cases e'
    rw [h] at h'; cases h'
    rcases o with rfl | o
    · exact ⟨⟨_, h, trivial⟩, n⟩
    · exact FRep.ownedK fr o
theorem FRep.ownedK : ∀ {fs : FS} {gs : List (Str × V)} {a : Addr}, FRep K T Hs H fs gs → OwnF H fs gs a → (∃ u, H a = some u ∧ IsOwn u) ∧ Hs a = none
  | .nil, _, _, _, o => o.elim
  | .cons _ _ _, [], _, _, o => o.elim
  | .cons f s r, g :: t, a, h, o => by
    rcases o with o | o
    · exact SRep.ownedK h.2.1 o
    · exact FRep.ownedK h.2.2.1 o
end
theorem SRep.owned {s : SV} {v : Option V} {a : Addr} (r : SRep K T Hs H s v) (o : OwnAt H s v a) : (∃ u, H a = some u ∧ ∀ ps, u ≠ .tbl ps) ∧ Hs a = none := by
  obtain ⟨⟨u, h1, h2⟩, h3⟩ := r.ownedK o
  exact ⟨⟨u, h1, isOwn_tbl h2⟩, h3⟩
theorem Rep.ownedK {a : Addr} (r : Rep K T Hs ρ σ H) (o : Own H ρ σ a) : (∃ u, H a = some u ∧ IsOwn u) ∧ Hs a = none := by
  obtain ⟨i, s, e, q⟩ := o
  exact (r.at_ i s e).ownedK q
theorem Rep.owned {a : Addr} (r : Rep K T Hs ρ σ H) (o : Own H ρ σ a) : (∃ u, H a = some u ∧ ∀ ps, u ≠ .tbl ps) ∧ Hs a = none := by
  obtain ⟨i, s, e, q⟩ := o
  exact (r.at_ i s e).owned q
theorem kvRep_mono (e : Same Hs Hs') : ∀ {hs : List (Key × V)} {kvs : List (Key × PyData)}, kvRep K Hs hs kvs → kvRep K Hs' hs kvs
  | [], [], _ => trivial
  | _ :: _, _ :: _, ⟨a, b, c⟩ => ⟨a, dp_mono e b, kvRep_mono e c⟩
mutual
theorem SRep.mv (sh : Same Hs Hs') : ∀ {s : SV} {v : Option V}, SRep K T Hs H s v → (∀ a, OwnAt H s v a → H' a = H a ∧ Hs' a = none) → SRep K T Hs' H' s v ∧ ∀ a, OwnAt H' s v a ↔ OwnAt H s v a
  | .un, _, _, _ => ⟨trivial, fun _ => Iff.rfl⟩
  | .d x, v, r, _ => by
    obtain ⟨y, e, h⟩ := r
    exact ⟨⟨y, e, dp_mono sh h⟩, fun _ => Iff.rfl⟩
  | .ol xs, v, r, k => by
    obtain ⟨p, vs, e, h, q, n⟩ := r
    obtain ⟨k1, k2⟩ := k p e
    exact ⟨⟨p, vs, e, by rw [k1]; exact h, dpAll_mono sh q, k2⟩, fun _ => Iff.rfl⟩
  | .od xs, v, r, k => by
    obtain ⟨p, vs, e, h, q, n⟩ := r
    obtain ⟨k1, k2⟩ := k p e
    exact ⟨⟨p, vs, e, by rw [k1]; exact h, kvRep_mono sh q, k2⟩, fun _ => Iff.rfl⟩
  | .oo c fs, v, r, k => by
    obtain ⟨p, C, dx, gs, e, h, hc, n, np, fr⟩ := r
    obtain ⟨k1, k2⟩ := k p ⟨p, C, dx, gs, e, h, .inl rfl⟩
    obtain ⟨f1, f2⟩ := FRep.mv sh fr fun a o => k a ⟨p, C, dx, gs, e, h, .inr o⟩
    rw [h] at k1
    refine ⟨⟨p, C, dx, gs, e, k1, hc, k2, fun z => np ((f2 p).mp z), f1⟩, fun a => ⟨?_, ?_⟩⟩
    · rintro ⟨p', C', dx', gs', e', h', o⟩
      rw [e] at e'; cases e'
      rw [k1] at h'; cases h'
      exact ⟨p, C, dx, gs, e, h, o.imp id (f2 a).mp⟩
    · rintro ⟨p', C', dx', gs', e', h', o⟩
      rw [e] at e'; cases e'
      rw [h] at h'; cases h'
      exact ⟨p, C, dx, gs, e, k1, o.imp id (f2 a).mpr⟩
theorem FRep.mv (sh : Same Hs Hs') : ∀ {fs : FS} {gs : List (Str × V)}, FRep K T Hs H fs gs → (∀ a, OwnF H fs gs a → H' a = H a ∧ Hs' a = none) → FRep K T Hs' H' fs gs ∧ ∀ a, OwnF H' fs gs a ↔ OwnF H fs gs a
  | .nil, [], _, _ => ⟨trivial, fun _ => Iff.rfl⟩
  | .nil, _ :: _, r, _ => r.elim
  | .cons _ _ _, [], r, _ => r.elim
  | .cons f s r, g :: t, h, k => by
    obtain ⟨h1, h2, h3, h4⟩ := h
    obtain ⟨a1, a2⟩ := SRep.mv sh h2 fun a o => k a (.inl o)
    obtain ⟨b1, b2⟩ := FRep.mv sh h3 fun a o => k a (.inr o)
    exact ⟨⟨h1, a1, b1, fun a o z => h4 a ((a2 a).mp o) ((b2 a).mp z)⟩, fun a => or_congr (a2 a) (b2 a)⟩
end
theorem SRep.move {s : SV} {v : Option V} (r : SRep K T Hs H s v) (sh : Same Hs Hs') (k : ∀ a, OwnAt H s v a → H' a = H a ∧ Hs' a = none) : SRep K T Hs' H' s v := (SRep.mv sh r k).1
theorem SRep.own_iff {s : SV} {v : Option V} (r : SRep K T Hs H s v) (k : ∀ a, OwnAt H s v a → H' a = H a) (a : Addr) : OwnAt H' s v a ↔ OwnAt H s v a :=
  (SRep.mv (Hs' := Hs) (Same.refl _) r fun a o => ⟨k a o, (r.owned o).2⟩).2 a
theorem Grow.refl : Grow ρ σ Hs H ρ σ Hs H := ⟨fun _ _ h _ _ => h, fun _ h => h, fun _ _ h => h, fun _ h => .inl h, fun _ _ h => .inl h⟩
theorem Grow.own (g : Grow ρ σ Hs H ρ1 σ1 Hs1 H1) {a : Addr} (h : Own H1 ρ1 σ1 a) : Own H ρ σ a ∨ Fre H a := by
  obtain ⟨i, h⟩ := h
  exact (g.ow i a h).imp (fun z => ⟨i, z⟩) id
theorem Grow.trans (a : Grow ρ σ Hs H ρ1 σ1 Hs1 H1) (b : Grow ρ1 σ1 Hs1 H1 ρ2 σ2 Hs2 H2) : Grow ρ σ Hs H ρ2 σ2 Hs2 H2 where
  fr := fun c o h nt no => b.fr c o (a.fr c o h nt no) nt fun z => (a.own z).elim no fun q => by obtain ⟨ps, e⟩ := q o h; exact nt ps e
  dm := fun c h => a.dm c (b.dm c h)
  sh := a.sh.trans b.sh
  nw := fun c h => by
    rcases b.nw c h with z | z | z
    · exact a.nw c z
    · exact .inr (.inl (a.dm c z))
    · rcases a.own z with q | q
      · exact .inr (.inr q)
      · exact .inr (.inl q)
  ow := fun i c h => by
    rcases b.ow i c h with z | z
    · exact a.ow i c z
    · exact .inr (a.dm c z)
theorem at_set_self {i : Nat} {v : V} (h : i < σ.length) : at? (σ.set i (some v)) i = some v := by
  unfold at?
  rw [List.getElem?_set_self h]
  rfl
theorem at_set_ne {i j : Nat} {v : Option V} (h : i ≠ j) : at? (σ.set i v) j = at? σ j := by
  unfold at?
  rw [List.getElem?_set_ne h]
theorem at_some {i : Nat} {v : V} (h : at? σ i = some v) : σ[i]? = some (some v) := by
  unfold at? at h
  cases e : σ[i]? with
  | none => rw [e] at h; cases h
  | some o => rw [e] at h; exact congrArg some h
/-! #### a new object, shared at once -/
theorem same_upd {p : Addr} {o : HO} (h : H p = none) : Same H (upd H p o) := fun a u e => by
  rw [upd_ne (ne_of_none e h)]; exact e
theorem same_upd2 {p : Addr} {o : HO} (e : Same Hs H) : Same (upd Hs p o) (upd H p o) := fun a u q => by
  by_cases hb : a = p
  · subst hb
    rw [upd_same] at q ⊢
    exact q
  · rw [upd_ne hb] at q ⊢
    exact e a u q
theorem Rep.own_iff (r : Rep K T Hs ρ σ H) (k : ∀ a, Own H ρ σ a → H' a = H a) (i : Nat) (a : Addr) : OwnI H' ρ σ i a ↔ OwnI H ρ σ i a := by
  constructor
  · rintro ⟨s, e, o⟩
    exact ⟨s, e, ((r.at_ i s e).own_iff (fun a o => k a ⟨i, s, e, o⟩) a).mp o⟩
  · rintro ⟨s, e, o⟩
    exact ⟨s, e, ((r.at_ i s e).own_iff (fun a o => k a ⟨i, s, e, o⟩) a).mpr o⟩
theorem Rep.move (r : Rep K T Hs ρ σ H) (sub : Same Hs' H') (ntb : ∀ a ps, Hs' a ≠ some (.tbl ps)) (sh : Same Hs Hs') (k : ∀ a, Own H ρ σ a → H' a = H a ∧ Hs' a = none) (tab : LamX.Tabs T.tb H') : Rep K T Hs' ρ σ H' where
  sub := sub
  ntb := ntb
  len := r.len
  at_ := fun i s e => (r.at_ i s e).move sh fun a o => k a ⟨i, s, e, o⟩
  dis := fun i j a s t e1 e2 o1 o2 => r.dis i j a s t e1 e2 (((r.at_ i s e1).own_iff (fun a o => (k a ⟨i, s, e1, o⟩).1) a).mp o1) (((r.at_ j t e2).own_iff (fun a o => (k a ⟨j, t, e2, o⟩).1) a).mp o2)
  tab := tab
theorem Rep.own_upd (r : Rep K T Hs ρ σ H) {p : Addr} {o : HO} (h : H p = none) (i : Nat) (a : Addr) : OwnI (upd H p o) ρ σ i a ↔ OwnI H ρ σ i a := r.own_iff (fun b ow => by
  obtain ⟨⟨u, h1, _⟩, _⟩ := r.owned ow
  rw [upd_ne (ne_of_none h1 h)]) i a
theorem ntb_upd {p : Addr} {o : HO} (h : ∀ a ps, Hs a ≠ some (.tbl ps)) (n : ∀ ps, o ≠ .tbl ps) : ∀ a ps, upd Hs p o a ≠ some (.tbl ps) := fun a ps => by
  by_cases hb : a = p
  · subst hb; rw [upd_same]
    intro z; exact n ps (Option.some.inj z)
  · rw [upd_ne hb]; exact h a ps
theorem Rep.alloc (r : Rep K T Hs ρ σ H) {p : Addr} {o : HO} (h : H p = none) (n : ∀ ps, o ≠ .tbl ps) : Rep K T (upd Hs p o) ρ σ (upd H p o) := by
  have hn : Hs p = none := none_of_same r.sub h
  refine r.move (same_upd2 r.sub) (ntb_upd r.ntb n) (same_upd hn) (fun a ow => ?_) (r.tab.ext (same_upd h))
  obtain ⟨⟨u, h1, _⟩, h2⟩ := r.owned ow
  have ne : a ≠ p := ne_of_none h1 h
  rw [upd_ne ne, upd_ne ne]
  exact ⟨rfl, h2⟩
theorem Grow.alloc (r : Rep K T Hs ρ σ H) {p : Addr} {o : HO} (h : H p = none) (hs : Hs p = none) : Grow ρ σ Hs H ρ σ (upd Hs p o) (upd H p o) where
  fr := fun a u e _ _ => same_upd h a u e
  dm := fun a e => fre_same (same_upd h) e
  sh := same_upd hs
  nw := fun a e => by
    by_cases hb : a = p
    · subst hb; exact .inr (.inl (fre_none h))
    · rw [upd_ne hb] at e; exact .inl e
  ow := fun i a e => .inl ((r.own_upd h i a).mp e)
/-- a new object beside, not shared -/
theorem Rep.beside (r : Rep K T Hs ρ σ H) {p : Addr} {o : HO} (h : H p = none) : Rep K T Hs ρ σ (upd H p o) :=
  r.move (r.sub.trans (same_upd h)) r.ntb (Same.refl _) (fun a ow => by
    obtain ⟨⟨u, h1, _⟩, h2⟩ := r.owned ow
    rw [upd_ne (ne_of_none h1 h)]
    exact ⟨rfl, h2⟩) (r.tab.ext (same_upd h))
theorem Grow.beside (r : Rep K T Hs ρ σ H) {p : Addr} {o : HO} (h : H p = none) : Grow ρ σ Hs H ρ σ Hs (upd H p o) where
  fr := fun a u e _ _ => same_upd h a u e
  dm := fun a e => fre_same (same_upd h) e
  sh := Same.refl _
  nw := fun a e => .inl e
  ow := fun i a e => .inl ((r.own_upd h i a).mp e)
theorem own_set {i j : Nat} {s : SV} {v : Option V} {a : Addr} (o : OwnI H (ρ.set i s) (σ.set i v) j a) : (i = j ∧ OwnAt H s v a) ∨ OwnI H ρ σ j a := by
  obtain ⟨t, e, q⟩ := o
  by_cases hj : i = j
  · subst hj
    by_cases hl : i < ρ.length
    · rw [List.getElem?_set_self hl] at e; cases e
      by_cases hm : i < σ.length
      · unfold at? at q
        rw [List.getElem?_set_self hm] at q
        exact .inl ⟨rfl, q⟩
      · have z : at? (σ.set i v) i = none := by
          unfold at?
          rw [List.getElem?_eq_none (by rw [List.length_set]; omega)]; rfl
        rw [z] at q
        cases s <;> first | exact q.elim | exact nomatch (show (none : Option V) = some _ from q) | (obtain ⟨_, _, _, _, z, _⟩ := q; cases z)
    · rw [List.getElem?_eq_none (by rw [List.length_set]; omega)] at e; cases e
  · rw [List.getElem?_set_ne hj] at e
    rw [at_set_ne hj] at q
    exact .inr ⟨t, e, q⟩
/-- a slot takes another value -/
theorem Rep.set (r : Rep K T Hs ρ σ H) {i : Nat} {s : SV} {v : Option V} (h : SRep K T Hs H s v) (hd : ∀ a, OwnAt H s v a → ¬ Own H ρ σ a) : Rep K T Hs (ρ.set i s) (σ.set i v) H := by
  by_cases hl : i < ρ.length
  · have hm : i < σ.length := by rw [← r.len]; exact hl
    have at_i : at? (σ.set i v) i = v := by
      unfold at?
      rw [List.getElem?_set_self hm]; rfl
    refine ⟨r.sub, r.ntb, by simpa using r.len, fun j t e => ?_, fun j k a t u e1 e2 o1 o2 => ?_, r.tab⟩
    · by_cases hj : i = j
      · subst hj
        rw [List.getElem?_set_self hl] at e; cases e
        rw [at_i]; exact h
      · rw [List.getElem?_set_ne hj] at e
        rw [at_set_ne hj]
        exact r.at_ j t e
    · by_cases hj : i = j
      · by_cases hk : i = k
        · rw [← hj, hk]
        · exfalso
          subst hj
          rw [List.getElem?_set_self hl] at e1; cases e1
          rw [List.getElem?_set_ne hk] at e2
          rw [at_i] at o1
          rw [at_set_ne hk] at o2
          exact hd a o1 ⟨k, u, e2, o2⟩
      · by_cases hk : i = k
        · exfalso
          subst hk
          rw [List.getElem?_set_self hl] at e2; cases e2
          rw [List.getElem?_set_ne hj] at e1
          rw [at_i] at o2
          rw [at_set_ne hj] at o1
          exact hd a o2 ⟨j, t, e1, o1⟩
        · rw [List.getElem?_set_ne hj] at e1
          rw [List.getElem?_set_ne hk] at e2
          rw [at_set_ne hj] at o1
          rw [at_set_ne hk] at o2
          exact r.dis j k a t u e1 e2 o1 o2
  · have hl' : ρ.length ≤ i := by omega
    have hm' : σ.length ≤ i := by rw [← r.len]; exact hl'
    rw [List.set_eq_of_length_le hl', List.set_eq_of_length_le hm']
    exact r
theorem Grow.set {i : Nat} {s : SV} {v : Option V} (h : ∀ a, OwnAt H s v a → OwnI H ρ σ i a ∨ Fre H a) : Grow ρ σ Hs H (ρ.set i s) (σ.set i v) Hs H where
  fr := fun _ _ e _ _ => e
  dm := fun _ e => e
  sh := Same.refl _
  nw := fun _ e => .inl e
  ow := fun j a o => (own_set o).elim (fun ⟨e, z⟩ => e ▸ h a z) .inl
theorem Rep.setD (r : Rep K T Hs ρ σ H) {i : Nat} {x : PyData} {v : V} (h : Dp K Hs v x) : Rep K T Hs (ρ.set i (.d x)) (σ.set i (some v)) H :=
  r.set ⟨v, rfl, h⟩ fun _ z => z.elim
theorem Grow.setD {i : Nat} {x : PyData} {v : Option V} : Grow ρ σ Hs H (ρ.set i (.d x)) (σ.set i v) Hs H := .set fun _ z => z.elim
/-- what a slot owns is changed: the rest stands -/
theorem Rep.mutG (r : Rep K T Hs ρ σ H) {i : Nat} {s t : SV} (e : ρ[i]? = some s) (fr : ∀ a u, H a = some u → ¬ OwnAt H s (at? σ i) a → H' a = some u) (h : SRep K T Hs H' t (at? σ i)) (ow' : ∀ a, OwnAt H' t (at? σ i) a → OwnAt H s (at? σ i) a ∨ ¬ Own H ρ σ a) : Rep K T Hs (ρ.set i t) σ H' := by
  have hl : i < ρ.length := (List.getElem?_eq_some_iff.mp e).1
  have rs := r.at_ i s e
  have stay : ∀ j v, i ≠ j → ρ[j]? = some v → ∀ a, OwnAt H v (at? σ j) a → H' a = H a := fun j v hj ej a oa => by
    obtain ⟨⟨u, hu, _⟩, _⟩ := (r.at_ j v ej).owned oa
    rw [hu]
    exact fr a u hu fun z => hj (r.dis i j a s v e ej z oa)
  have mv : ∀ j v, i ≠ j → ρ[j]? = some v → SRep K T Hs H' v (at? σ j) ∧ ∀ a, OwnAt H' v (at? σ j) a ↔ OwnAt H v (at? σ j) a := fun j v hj ej =>
    SRep.mv (Same.refl _) (r.at_ j v ej) fun a oa => ⟨stay j v hj ej a oa, ((r.at_ j v ej).owned oa).2⟩
  refine ⟨fun a w q => fr a w (r.sub a w q) fun z => ?_, r.ntb, by simpa using r.len, fun j v ej => ?_, fun j k a v w e1 e2 o1 o2 => ?_, fun q hq => ?_⟩
  · rw [(rs.owned z).2] at q; cases q
  · by_cases hj : i = j
    · subst hj
      rw [List.getElem?_set_self hl] at ej; cases ej
      exact h
    · rw [List.getElem?_set_ne hj] at ej
      exact (mv j v hj ej).1
  · have no : ∀ {j : Nat} {v : SV}, i ≠ j → ρ[j]? = some v → OwnAt H' v (at? σ j) a → OwnAt H' t (at? σ i) a → False := fun {j v} hj ej oj ot => by
      have oj' := ((mv j v hj ej).2 a).mp oj
      rcases ow' a ot with z | z
      · exact hj (r.dis i j a s v e ej z oj')
      · exact z ⟨j, v, ej, oj'⟩
    by_cases hj : i = j
    · by_cases hk : i = k
      · rw [← hj, hk]
      · exfalso
        subst hj
        rw [List.getElem?_set_self hl] at e1; cases e1
        rw [List.getElem?_set_ne hk] at e2
        exact no hk e2 o2 o1
    · by_cases hk : i = k
      · exfalso
        subst hk
        rw [List.getElem?_set_self hl] at e2; cases e2
        rw [List.getElem?_set_ne hj] at e1
        exact no hj e1 o1 o2
      · rw [List.getElem?_set_ne hj] at e1
        rw [List.getElem?_set_ne hk] at e2
        exact r.dis j k a v w e1 e2 (((mv j v hj e1).2 a).mp o1) (((mv k w hk e2).2 a).mp o2)
  · obtain ⟨ps, h1, h2, h3⟩ := r.tab q hq
    refine ⟨ps, fr _ _ h1 fun z => ?_, h2, fun pos cv hc => ?_⟩
    · obtain ⟨⟨u, hu, nt⟩, _⟩ := rs.owned z
      rw [h1] at hu
      exact nt ps (Option.some.inj hu).symm
    · obtain ⟨c, e1, e2⟩ := h3 pos cv hc
      refine ⟨c, e1, fr _ _ e2 fun z => ?_⟩
      obtain ⟨⟨u, hu, ik⟩, _⟩ := rs.ownedK z
      rw [e2] at hu
      exact isOwn_code ik (Option.some.inj hu).symm
theorem Grow.mutG (r : Rep K T Hs ρ σ H) {i : Nat} {s t : SV} (e : ρ[i]? = some s) (fr : ∀ a u, H a = some u → ¬ OwnAt H s (at? σ i) a → H' a = some u) (dm : ∀ a, Fre H' a → Fre H a) (ow' : ∀ a, OwnAt H' t (at? σ i) a → OwnAt H s (at? σ i) a ∨ Fre H a) : Grow ρ σ Hs H (ρ.set i t) σ Hs H' where
  fr := fun a u q _ no => fr a u q fun z => no ⟨i, s, e, z⟩
  dm := dm
  sh := Same.refl _
  nw := fun _ q => .inl q
  ow := fun j a q => by
    obtain ⟨v, ej, oj⟩ := q
    have hl : i < ρ.length := (List.getElem?_eq_some_iff.mp e).1
    by_cases hj : i = j
    · subst hj
      rw [List.getElem?_set_self hl] at ej; cases ej
      rcases ow' a oj with z | z
      · exact .inl ⟨s, e, z⟩
      · exact .inr z
    · rw [List.getElem?_set_ne hj] at ej
      refine .inl ⟨v, ej, ((r.at_ j v ej).own_iff (fun a oa => ?_) a).mp oj⟩
      obtain ⟨⟨u, hu, _⟩, _⟩ := (r.at_ j v ej).owned oa
      rw [hu]
      exact fr a u hu fun z => hj (r.dis i j a s v e ej z oa)
theorem Rep.fre_no (r : Rep K T Hs ρ σ H) {a : Addr} (h : Fre H a) : ¬ Own H ρ σ a := fun ow => by
  obtain ⟨⟨u, hu, nt⟩, _⟩ := r.owned ow
  obtain ⟨ps, z⟩ := h _ hu
  exact nt ps z
/-- growth to a state whose slot i is changed further -/
theorem Grow.mutN (gr : Grow ρ σ Hs H ρ1 σ Hs1 H1) (r : Rep K T Hs1 ρ1 σ H1) {i : Nat} {s t : SV} (e : ρ1[i]? = some s) (fr : ∀ a u, H1 a = some u → ¬ OwnAt H1 s (at? σ i) a → H' a = some u) (dm : ∀ a, Fre H' a → Fre H1 a) (ow' : ∀ a, OwnAt H' t (at? σ i) a → OwnAt H1 s (at? σ i) a ∨ Fre H a) : Grow ρ σ Hs H (ρ1.set i t) σ Hs1 H' where
  fr := fun a u q nt no => fr a u (gr.fr a u q nt no) fun z => by
    rcases gr.ow i a ⟨s, e, z⟩ with y | y
    · exact no ⟨i, y⟩
    · obtain ⟨ps, y⟩ := y _ q; exact nt ps y
  dm := fun a q => gr.dm a (dm a q)
  sh := gr.sh
  nw := gr.nw
  ow := fun j a q => by
    obtain ⟨v, ej, oj⟩ := q
    have hl : i < ρ1.length := (List.getElem?_eq_some_iff.mp e).1
    by_cases hj : i = j
    · subst hj
      rw [List.getElem?_set_self hl] at ej; cases ej
      rcases ow' a oj with z | z
      · exact gr.ow i a ⟨s, e, z⟩
      · exact .inr z
    · rw [List.getElem?_set_ne hj] at ej
      refine gr.ow j a ⟨v, ej, ((r.at_ j v ej).own_iff (fun a oa => ?_) a).mp oj⟩
      obtain ⟨⟨u, hu, _⟩, _⟩ := (r.at_ j v ej).owned oa
      rw [hu]
      exact fr a u hu fun z => hj (r.dis i j a s v e ej z oa)
/-- a slot of the def's own is written -/
theorem upd_fr {p : Addr} {o : HO} {O : Addr → Prop} (ow : O p) (a : Addr) (u : HO) (h : H a = some u) (n : ¬ O a) : upd H p o a = some u := by
  rw [upd_ne (fun z => n (by rw [z]; exact ow))]; exact h
theorem Rep.mut (r : Rep K T Hs ρ σ H) {i : Nat} {s t : SV} {p : Addr} {o : HO} (e : ρ[i]? = some s) (ow : OwnAt H s (at? σ i) p) (ow' : ∀ a, OwnAt (upd H p o) t (at? σ i) a → OwnAt H s (at? σ i) a) (h : SRep K T Hs (upd H p o) t (at? σ i)) : Rep K T Hs (ρ.set i t) σ (upd H p o) :=
  r.mutG e (upd_fr ow) h fun a q => .inl (ow' a q)
theorem Grow.mut (r : Rep K T Hs ρ σ H) {i : Nat} {s t : SV} {p : Addr} {o : HO} (e : ρ[i]? = some s) (ow : OwnAt H s (at? σ i) p) (ow' : ∀ a, OwnAt (upd H p o) t (at? σ i) a → OwnAt H s (at? σ i) a) (nt : ∀ ps, o ≠ .tbl ps) : Grow ρ σ Hs H (ρ.set i t) σ Hs (upd H p o) :=
  .mutG r e (upd_fr ow) (fun a q => by
    by_cases hb : a = p
    · subst hb
      obtain ⟨ps, z⟩ := q o upd_same
      exact absurd z (nt ps)
    · exact fun u z => q u (by rw [upd_ne hb]; exact z)) fun a q => .inl (ow' a q)
end
end DS
end
section
set_option Elab.async false
set_option linter.all false
set_option maxRecDepth 100000
set_option maxHeartbeats 4000000
/-! DsC: posts, judgements, expressions -/
namespace DS
open PySem PySem.Spec PyProof.Rows L2
theorem pe_imp {X : Cx} {e : Expr} {t t' : TE} (h : PE X e t) (k : ∀ σ H Q, t' σ H Q → t σ H Q) : PE X e t' := ⟨fun pins s σ H Q I q => h.run pins s σ H Q I (k σ H Q q)⟩
theorem pt_imp {X : Cx} {e : Expr} {t t' : TT} (h : PT X e t) (k : ∀ σ H Q, t' σ H Q → t σ H Q) : PT X e t' := ⟨fun pins s σ H Q I q => h.run pins s σ H Q I (k σ H Q q)⟩
theorem pw_imp {X : Cx} {e : Expr} {t t' : TT} (h : PW X e t) (k : ∀ σ H Q, t' σ H Q → t σ H Q) : PW X e t' := ⟨fun wh pins s σ H Q I q => h.run wh pins s σ H Q I (k σ H Q q)⟩
theorem pa_imp {X : Cx} {e : List Expr} {t t' : TA} (h : PA X e t) (k : ∀ σ H Q, t' σ H Q → t σ H Q) : PA X e t' := ⟨fun pos pins s σ H Q I q => h.run pos pins s σ H Q I (k σ H Q q)⟩
theorem ps_imp {X : Cx} {e : Stmt} {t t' : TS} (h : PS X e t) (k : ∀ D σ H, t' D σ H → t D σ H) : PS X e t' := ⟨fun pins s σ H D I q => h.run pins s σ H D I (k D σ H q)⟩
theorem pss_imp {X : Cx} {e : List Stmt} {t t' : TS} (h : PSs X e t) (k : ∀ D σ H, t' D σ H → t D σ H) : PSs X e t' := ⟨fun pins s σ H D I q => h.run pins s σ H D I (k D σ H q)⟩
/-- how what comes out lies in the heap; which addresses are new by it -/
structure Kd (α β : Type) where
  A : Hp → Hp → Rho → L2.St → α → β → Prop
  N : Hp → α → β → Addr → Prop
section
variable (K : PySem.W.Frag) (T : Tbs) (mg : Str → Option Value) (W : WX)
/-- what is wanted behind a run that keeps the slots' values -/
def Post {α β : Type} (k : Kd α β) (ρ : Rho) (σ : L2.St) (Hs H : Hp) (r : R α) (Q : β → Hp → Prop) : Prop := match r with
  | .ok a ρ' => ∀ v H' Hs', Rep K T Hs' ρ' σ H' → Grow ρ σ Hs H ρ' σ Hs' H' → k.A Hs' H' ρ' σ a v → (∀ c, k.N H' a v c → Fre H c) → Q v H'
  | .er e ρ' => ∀ cls dd H' Hs', Rep K T Hs' ρ' σ H' → Grow ρ σ Hs H ρ' σ Hs' H' → ERep K mg Hs' H' e cls dd → W cls dd σ H'
  | .bad => False
def kE : Kd RV V := ⟨fun Hs _ _ σ r v => RVRep K Hs σ r v, fun _ _ _ _ => False⟩
def kB : Kd Bool Bool := ⟨fun _ _ _ _ b c => c = b, fun _ _ _ _ => False⟩
def aA (Hs : Hp) (σ : L2.St) : List RV → List V → Prop
  | [], [] => True
  | r :: rs, v :: vs => RVRep K Hs σ r v ∧ aA Hs σ rs vs
  | _, _ => False
def kA : Kd (List RV) (List V) := ⟨fun Hs _ _ σ rs vs => aA K Hs σ rs vs, fun _ _ _ _ => False⟩
/-- an object of the def's own, new -/
def kO : Kd SV V := ⟨fun Hs H ρ σ s v => SRep K T Hs H s (some v) ∧ ∀ a, OwnAt H s (some v) a → ¬ Own H ρ σ a, fun H s v a => OwnAt H s (some v) a⟩
def tM {α β : Type} (k : Kd α β) (m : M α) : L2.St → Hp → (β → Hp → Prop) → Prop := fun σ H Q => ∃ ρ Hs, Rep K T Hs ρ σ H ∧ Post K T mg W k ρ σ Hs H (m ρ) Q
end
def SimE (T : Tbs) (X : Cx) (W : WX) (e : Expr) (m : M RV) : Prop := PE X e (tM X.K T X.mg W (kE X.K) m)
def SimO (T : Tbs) (X : Cx) (W : WX) (e : Expr) (m : M SV) : Prop := PE X e (tM X.K T X.mg W (kO X.K T) m)
def SimT (T : Tbs) (X : Cx) (W : WX) (e : Expr) (m : M Bool) : Prop := PT X e (tM X.K T X.mg W kB m)
def SimW (T : Tbs) (X : Cx) (W : WX) (e : Expr) (m : M Bool) : Prop := PW X e (tM X.K T X.mg W kB m)
def SimA (T : Tbs) (X : Cx) (W : WX) (es : List Expr) (m : M (List RV)) : Prop := PA X es (tM X.K T X.mg W (kA X.K) m)
section
variable {K : PySem.W.Frag} {T : Tbs} {mg : Str → Option Value} {W : WX} {Hs H Hs' H' : Hp} {ρ ρ' : Rho} {σ : L2.St} {α β γ δ : Type} {k : Kd α β} {l : Kd γ δ}
theorem Post.mono {r : R α} {Q Q' : β → Hp → Prop} (h : Post K T mg W k ρ σ Hs H r Q) (w : ∀ v H', Q v H' → Q' v H') : Post K T mg W k ρ σ Hs H r Q' := by
  cases r with
  | ok a ρ' => exact fun v H' Hs' a b c d => w v H' (h v H' Hs' a b c d)
  | er e ρ' => exact h
  | bad => exact h
theorem Post.grow {r : R α} {Q : β → Hp → Prop} (h : Post K T mg W k ρ σ Hs H r Q) (g : Grow ρ σ Hs H ρ' σ Hs' H') : Post K T mg W k ρ' σ Hs' H' r Q := by
  cases r with
  | ok a ρ1 => exact fun v H1 Hs1 a b c d => h v H1 Hs1 a (g.trans b) c fun x q => g.dm x (d x q)
  | er e ρ1 => exact fun cls dd H1 Hs1 a b c => h cls dd H1 Hs1 a (g.trans b) c
  | bad => exact h
/-- THE STEP: the first part, then the rest -/
theorem Post.bnd {r : R α} {f : α → M γ} {Q : δ → Hp → Prop} {Q' : β → Hp → Prop} (h : Post K T mg W l ρ σ Hs H (r.bnd f) Q)
    (w : ∀ a ρ1 v H1 Hs1, Rep K T Hs1 ρ1 σ H1 → Grow ρ σ Hs H ρ1 σ Hs1 H1 → k.A Hs1 H1 ρ1 σ a v → Post K T mg W l ρ1 σ Hs1 H1 (f a ρ1) Q → Q' v H1) : Post K T mg W k ρ σ Hs H r Q' := by
  cases r with
  | ok a ρ1 => exact fun v H1 Hs1 rp g q _ => w a ρ1 v H1 Hs1 rp g q (Post.grow (r := f a ρ1) h g)
  | er e ρ1 => exact h
  | bad => exact h
theorem tM_bnd {m : M α} {f : α → M γ} {Q : δ → Hp → Prop} {Q' : β → Hp → Prop} (h : tM K T mg W l (bnd m f) σ H Q)
    (w : ∀ a ρ1 v H1 Hs1, Rep K T Hs1 ρ1 σ H1 → (∃ ρ Hs, Rep K T Hs ρ σ H ∧ Grow ρ σ Hs H ρ1 σ Hs1 H1) → k.A Hs1 H1 ρ1 σ a v → Post K T mg W l ρ1 σ Hs1 H1 (f a ρ1) Q → Q' v H1) : tM K T mg W k m σ H Q' := by
  obtain ⟨ρ, Hs, rp, p⟩ := h
  exact ⟨ρ, Hs, rp, Post.bnd (r := m ρ) p fun a ρ1 v H1 Hs1 rp1 g q => w a ρ1 v H1 Hs1 rp1 ⟨ρ, Hs, rp, g⟩ q⟩
theorem post_ok {a : α} {Q : β → Hp → Prop} {v : β} (h : Post K T mg W k ρ σ Hs H (.ok a ρ) Q) (rp : Rep K T Hs ρ σ H) (q : k.A Hs H ρ σ a v) (n : ∀ c, k.N H a v c → Fre H c) : Q v H := h v H Hs rp Grow.refl q n
theorem post_okE {a : RV} {Q : V → Hp → Prop} {v : V} (h : Post K T mg W (kE K) ρ σ Hs H (.ok a ρ) Q) (rp : Rep K T Hs ρ σ H) (q : RVRep K Hs σ a v) : Q v H := h v H Hs rp Grow.refl q fun _ z => z.elim
theorem post_okB {a : Bool} {Q : Bool → Hp → Prop} (h : Post K T mg W kB ρ σ Hs H (.ok a ρ) Q) (rp : Rep K T Hs ρ σ H) : Q a H := h a H Hs rp Grow.refl rfl fun _ z => z.elim
end
/-! ### data that is read where it lies -/
section
variable {K : PySem.W.Frag} {T : Tbs} {mg : Str → Option Value} {W : WX} {Hs H Hs' H' : Hp} {ρ ρ' : Rho} {σ : L2.St}
/-- v bears the data x: shared, or a list of the def's own -/
def BRep (K : PySem.W.Frag) (Hs H : Hp) (v : V) (x : PyData) : Prop := Dp K Hs v x ∨ ∃ p vs ds, v = .ref p ∧ x = .list ds ∧ H p = some (.lst vs) ∧ DpAll K Hs vs ds
theorem BRep.dp (h : BRep K Hs H v x) (s : Same Hs H) : Dp K H v x := by
  rcases h with h | ⟨p, vs, ds, rfl, rfl, h, q⟩
  · exact dp_mono s h
  · exact .lst (SqL.of h) (dpAll_mono s q)
theorem BRep.int {v : V} {i : Int} (h : BRep K Hs H v (.int i)) : v = .int i := by
  rcases h with h | ⟨p, vs, ds, _, e, _⟩
  · cases h; rfl
  · cases e
theorem BRep.str {v : V} {i : Str} (h : BRep K Hs H v (.str i)) : v = .str i := by
  rcases h with h | ⟨p, vs, ds, _, e, _⟩
  · cases h; rfl
  · cases e
theorem BRep.bool {v : V} {i : Bool} (h : BRep K Hs H v (.bool i)) : v = .bl i := by
  rcases h with h | ⟨p, vs, ds, _, e, _⟩
  · cases h; rfl
  · cases e
theorem BRep.non {v : V} (h : BRep K Hs H v .none) : v = .non := by
  rcases h with h | ⟨p, vs, ds, _, e, _⟩
  · cases h; rfl
  · cases e
theorem BRep.list {v : V} {ds : List PyData} (h : BRep K Hs H v (.list ds)) (s : Same Hs H) : ∃ p vs, v = .ref p ∧ SqL K H p vs ∧ DpAll K Hs vs ds := by
  rcases h with h | ⟨p, vs, ds', e, e2, h, q⟩
  · cases h with
    | lst a b => exact ⟨_, _, rfl, s.seq a, b⟩
  · cases e2
    exact ⟨p, vs, e, SqL.of h, q⟩
theorem BRep.tup {v : V} {ds : List PyData} (h : BRep K Hs H v (.tuple ds)) (s : Same Hs H) : ∃ p vs, v = .ref p ∧ SqT K H p vs ∧ DpAll K Hs vs ds ∧ Dp K Hs v (.tuple ds) := by
  rcases h with h | ⟨p, vs, ds', e, e2, h, q⟩
  · cases h with
    | tup a b => exact ⟨_, _, rfl, same_sqT s a, b, .tup a b⟩
  · cases e2
/-- what a value is, as data -/
def RV.data (ρ : Rho) : RV → Option PyData
  | .dat x => some x
  | .slot i => match ρ[i]? with
    | some (.ol xs) => some (.list xs)
    | _ => none
def datas (ρ : Rho) : List RV → Option (List PyData)
  | [] => some []
  | r :: rs => (r.data ρ).bind fun x => (datas ρ rs).map (x :: ·)
theorem brep_of {r : RV} {v : V} {x : PyData} (rp : Rep K T Hs ρ σ H) (h : RVRep K Hs σ r v) (e : r.data ρ = some x) : BRep K Hs H v x := by
  cases r with
  | dat y => cases e; exact .inl h
  | slot i =>
    have h' : at? σ i = some v := h
    simp only [RV.data] at e
    split at e
    · rename_i xs hx
      cases e
      obtain ⟨p, vs, q1, q2, q3, _⟩ := rp.at_ i _ hx
      rw [h'] at q1; cases q1
      exact .inr ⟨p, vs, xs, rfl, rfl, q2, q3⟩
    · cases e
def bReps (K : PySem.W.Frag) (Hs H : Hp) : List V → List PyData → Prop
  | [], [] => True
  | v :: vs, x :: xs => BRep K Hs H v x ∧ bReps K Hs H vs xs
  | _, _ => False
theorem breps_of {rs : List RV} {vs : List V} {xs : List PyData} (rp : Rep K T Hs ρ σ H) (h : aA K Hs σ rs vs) (e : datas ρ rs = some xs) : bReps K Hs H vs xs := by
  induction rs generalizing vs xs with
  | nil =>
    cases vs with
    | nil => cases e; trivial
    | cons v vs => exact h.elim
  | cons r rs ih =>
    cases vs with
    | nil => exact h.elim
    | cons v vs =>
      obtain ⟨h1, h2⟩ := h
      unfold datas at e
      cases e1 : r.data ρ with
      | none => rw [e1] at e; cases e
      | some x =>
        rw [e1] at e
        cases e2 : datas ρ rs with
        | none => rw [e2] at e; cases e
        | some ys =>
          rw [e2] at e
          cases e
          exact ⟨brep_of rp h1 e1, ih h2 e2⟩
/-- the heap behind an operation: as it was, or with one new object that is shared -/
inductive Ext (Hs H : Hp) : Hp → Hp → Prop where
  | same : Ext Hs H Hs H
  | new {p : Addr} {o : HO} (h : H p = none) (n : ∀ ps, o ≠ .tbl ps) : Ext Hs H (upd Hs p o) (upd H p o)
def OpEnd (K : PySem.W.Frag) (Hs H : Hp) (d : PyData) (Q : VK) : Prop := ∀ v H' Hs', Ext Hs H Hs' H' → Dp K Hs' v d → Q v H'
theorem OpEnd.here {d : PyData} {Q : VK} {v : V} (h : OpEnd K Hs H d Q) (r : Dp K Hs v d) : Q v H := h v H Hs .same r
theorem OpEnd.lst {ds : List PyData} {vs : List V} {Q : VK} {p : Addr} (h : OpEnd K Hs H (.list ds) Q) (s : Same Hs H) (hp : H p = none) (r : DpAll K Hs vs ds) : Q (.ref p) (upd H p (.lst vs)) :=
  h _ _ _ (.new hp fun _ z => nomatch z) (.lst (SqL.of upd_same) (dpAll_mono (same_upd (none_of_same s hp)) r))
theorem OpEnd.tup {ds : List PyData} {vs : List V} {Q : VK} {p : Addr} (h : OpEnd K Hs H (.tuple ds) Q) (s : Same Hs H) (hp : H p = none) (r : DpAll K Hs vs ds) : Q (.ref p) (upd H p (.tup vs)) :=
  h _ _ _ (.new hp fun _ z => nomatch z) (.tup (SqT.of upd_same) (dpAll_mono (same_upd (none_of_same s hp)) r))
theorem Ext.rep (e : Ext Hs H Hs' H') (r : Rep K T Hs ρ σ H) : Rep K T Hs' ρ σ H' ∧ Grow ρ σ Hs H ρ σ Hs' H' := by
  cases e with
  | same => exact ⟨r, Grow.refl⟩
  | new h n => exact ⟨r.alloc h n, Grow.alloc r h (none_of_same r.sub h)⟩
/-- what an operation on data answers -/
def opD (f : PyData → PyData → Option PyData) (a b : RV) : M RV := fun ρ => match a.data ρ, b.data ρ with
  | some x, some y => match f x y with
    | some z => .ok (.dat z) ρ
    | none => .bad
  | _, _ => .bad
def op1D (f : PyData → Option PyData) (a : RV) : M RV := fun ρ => match a.data ρ with
  | some x => match f x with
    | some z => .ok (.dat z) ρ
    | none => .bad
  | none => .bad
def opnD (f : List PyData → Option PyData) (a : List RV) : M RV := fun ρ => match datas ρ a with
  | some x => match f x with
    | some z => .ok (.dat z) ρ
    | none => .bad
  | none => .bad
theorem opD_end {f : PyData → PyData → Option PyData} {a b : RV} {v u : V} {Q : VK} (rp : Rep K T Hs ρ σ H) (ha : RVRep K Hs σ a v) (hb : RVRep K Hs σ b u) (h : Post K T mg W (kE K) ρ σ Hs H (opD f a b ρ) Q) :
    ∃ x y z, BRep K Hs H v x ∧ BRep K Hs H u y ∧ f x y = some z ∧ OpEnd K Hs H z Q := by
  unfold opD at h
  cases ea : a.data ρ with
  | none => rw [ea] at h; exact h.elim
  | some x =>
    cases eb : b.data ρ with
    | none => rw [ea, eb] at h; exact h.elim
    | some y =>
      rw [ea, eb] at h
      dsimp only at h
      cases ef : f x y with
      | none => rw [ef] at h; exact h.elim
      | some z =>
        rw [ef] at h
        refine ⟨x, y, z, brep_of rp ha ea, brep_of rp hb eb, ef, fun w H' Hs' ex q => ?_⟩
        obtain ⟨r2, g2⟩ := ex.rep rp
        exact h w H' Hs' r2 g2 q fun _ z => z.elim
theorem op1D_end {f : PyData → Option PyData} {a : RV} {v : V} {Q : VK} (rp : Rep K T Hs ρ σ H) (ha : RVRep K Hs σ a v) (h : Post K T mg W (kE K) ρ σ Hs H (op1D f a ρ) Q) :
    ∃ x z, BRep K Hs H v x ∧ f x = some z ∧ OpEnd K Hs H z Q := by
  unfold op1D at h
  cases ea : a.data ρ with
  | none => rw [ea] at h; exact h.elim
  | some x =>
    rw [ea] at h
    dsimp only at h
    cases ef : f x with
    | none => rw [ef] at h; exact h.elim
    | some z =>
      rw [ef] at h
      refine ⟨x, z, brep_of rp ha ea, ef, fun w H' Hs' ex q => ?_⟩
      obtain ⟨r2, g2⟩ := ex.rep rp
      exact h w H' Hs' r2 g2 q fun _ z => z.elim
theorem opnD_end {f : List PyData → Option PyData} {a : List RV} {vs : List V} {Q : VK} (rp : Rep K T Hs ρ σ H) (ha : aA K Hs σ a vs) (h : Post K T mg W (kE K) ρ σ Hs H (opnD f a ρ) Q) :
    ∃ xs z, bReps K Hs H vs xs ∧ f xs = some z ∧ OpEnd K Hs H z Q := by
  unfold opnD at h
  cases ea : datas ρ a with
  | none => rw [ea] at h; exact h.elim
  | some x =>
    rw [ea] at h
    dsimp only at h
    cases ef : f x with
    | none => rw [ef] at h; exact h.elim
    | some z =>
      rw [ef] at h
      refine ⟨x, z, breps_of rp ha ea, ef, fun w H' Hs' ex q => ?_⟩
      obtain ⟨r2, g2⟩ := ex.rep rp
      exact h w H' Hs' r2 g2 q fun _ z => z.elim
end
/-! ### expressions -/
section
variable {T : Tbs} {X : Cx} {W : WX} {e a b : Expr} {ma mb : M RV} {es : List Expr} {mr : M (List RV)}
def mVar (i : Nat) : M RV := fun ρ => match ρ[i]? with
  | some (.d x) => .ok (.dat x) ρ
  | some (.ol _) => .ok (.slot i) ρ
  | some (.od _) => .ok (.slot i) ρ
  | some (.oo _ _) => .ok (.slot i) ρ
  | _ => .bad
theorem sim_var {i : Nat} (h : PE X e (tVar i)) : SimE T X W e (mVar i) := pe_imp h fun σ H Q ⟨ρ, Hs, rp, p⟩ => by
  unfold mVar at p
  cases e : ρ[i]? with
  | none => rw [e] at p; exact p.elim
  | some s =>
    rw [e] at p
    have r := rp.at_ i s e
    cases s with
    | un => exact p.elim
    | d x =>
      obtain ⟨y, e1, h1⟩ := r
      exact ⟨y, at_some e1, post_okE p rp h1⟩
    | ol xs =>
      obtain ⟨q, vs, e1, _⟩ := r
      exact ⟨_, at_some e1, post_okE p rp e1⟩
    | od xs =>
      obtain ⟨q, vs, e1, _⟩ := r
      exact ⟨_, at_some e1, post_okE p rp e1⟩
    | oo c fs =>
      obtain ⟨q, _, _, _, e1, _⟩ := r
      exact ⟨_, at_some e1, post_okE p rp e1⟩
def mC (x : PyData) : M RV := ret (.dat x)
theorem sim_c {v : V} {x : PyData} (h : PE X e (tC v)) (r : ∀ H, Dp X.K H v x) : SimE T X W e (mC x) := pe_imp h fun σ H Q ⟨ρ, Hs, rp, p⟩ => post_okE p rp (r Hs)
def mOp2 (f : PyData → PyData → Option PyData) (ma mb : M RV) : M RV := bnd ma fun a => bnd mb fun b => opD f a b
/-- an operation on values does what f does on data -/
def Op2 (K : PySem.W.Frag) (f : PyData → PyData → Option PyData) (r : R2) : Prop := ∀ Hs H v u x y z Q, Same Hs H → BRep K Hs H v x → BRep K Hs H u y → f x y = some z → OpEnd K Hs H z Q → r v u H Q
def Op1 (K : PySem.W.Frag) (f : PyData → Option PyData) (r : V → Hp → VK → Prop) : Prop := ∀ Hs H v x z Q, Same Hs H → BRep K Hs H v x → f x = some z → OpEnd K Hs H z Q → r v H Q
def OpN (K : PySem.W.Frag) (f : List PyData → Option PyData) (r : List V → Hp → VK → Prop) : Prop := ∀ Hs H vs xs z Q, Same Hs H → bReps K Hs H vs xs → f xs = some z → OpEnd K Hs H z Q → r vs H Q
theorem rv_grow {K : PySem.W.Frag} {Hs H Hs' H' : Hp} {ρ ρ' : Rho} {σ : L2.St} {r : RV} {v : V} (h : RVRep K Hs σ r v) (g : Grow ρ σ Hs H ρ' σ Hs' H') : RVRep K Hs' σ r v := by
  cases r with
  | dat x => exact dp_mono g.sh h
  | slot i => exact h
theorem aA_grow {K : PySem.W.Frag} {Hs H Hs' H' : Hp} {ρ ρ' : Rho} {σ : L2.St} {rs : List RV} {vs : List V} (h : aA K Hs σ rs vs) (g : Grow ρ σ Hs H ρ' σ Hs' H') : aA K Hs' σ rs vs := by
  induction rs generalizing vs with
  | nil =>
    cases vs with
    | nil => trivial
    | cons => exact h.elim
  | cons r rs ih =>
    cases vs with
    | nil => exact h.elim
    | cons v vs => exact ⟨rv_grow h.1 g, ih h.2⟩
/-- a meaning's wish is a reading's -/
def Rf (T : Tbs) (X : Cx) (W : WX) (m : M RV) (t : TE) : Prop := ∀ σ H Q, tM X.K T X.mg W (kE X.K) m σ H Q → t σ H Q
theorem rf_op2 {f : PyData → PyData → Option PyData} {r : R2} (ho : Op2 X.K f r) : Rf T X W (mOp2 f ma mb) (tOp r (tM X.K T X.mg W (kE X.K) ma) (tM X.K T X.mg W (kE X.K) mb)) :=
  fun σ H Q q => tM_bnd q fun a ρ1 v H1 Hs1 rp1 _ ra p => ⟨ρ1, Hs1, rp1, Post.bnd (r := mb ρ1) p fun b ρ2 u H2 Hs2 rp2 g2 rb p2 => by
    obtain ⟨x, y, z, hx, hy, hf, he⟩ := opD_end rp2 (rv_grow ra g2) rb p2
    exact ho Hs2 H2 v u x y z Q rp2.sub hx hy hf he⟩
theorem sim_op2 {f : PyData → PyData → Option PyData} {r : R2} (ho : Op2 X.K f r) (ha : SimE T X W a ma) (hb : SimE T X W b mb)
    (h : PE X a (tM X.K T X.mg W (kE X.K) ma) → PE X b (tM X.K T X.mg W (kE X.K) mb) → PE X e (tOp r (tM X.K T X.mg W (kE X.K) ma) (tM X.K T X.mg W (kE X.K) mb))) : SimE T X W e (mOp2 f ma mb) :=
  pe_imp (h ha hb) (rf_op2 ho)
def mOp1 (f : PyData → Option PyData) (ma : M RV) : M RV := bnd ma fun a => op1D f a
theorem sim_op1 {f : PyData → Option PyData} {r : V → Hp → VK → Prop} (ho : Op1 X.K f r) (ha : SimE T X W a ma)
    (h : PE X a (tM X.K T X.mg W (kE X.K) ma) → PE X e (tUn r (tM X.K T X.mg W (kE X.K) ma))) : SimE T X W e (mOp1 f ma) :=
  pe_imp (h ha) fun σ H Q q => tM_bnd q fun a ρ1 v H1 Hs1 rp1 _ ra p => by
    obtain ⟨x, z, hx, hf, he⟩ := op1D_end rp1 ra p
    exact ho Hs1 H1 v x z Q rp1.sub hx hf he
def mNil : M (List RV) := ret []
def mCons (ma : M RV) (mr : M (List RV)) : M (List RV) := bnd ma fun a => bnd mr fun r => ret (a :: r)
theorem sa_nil : SimA T X W [] mNil := pa_imp pa_nil fun σ H Q ⟨ρ, Hs, rp, p⟩ => post_ok (k := kA X.K) (v := []) p rp trivial fun _ z => z.elim
theorem sa_cons (ha : SimE T X W a ma) (hr : SimA T X W es mr) (hs : starEach (a :: es) X.env = (false, eval a X.env) :: starEach es X.env := by rfl) : SimA T X W (a :: es) (mCons ma mr) :=
  pa_imp (pa_cons ha hr hs) fun σ H Q q => tM_bnd q fun a ρ1 v H1 Hs1 rp1 _ ra p => ⟨ρ1, Hs1, rp1, Post.bnd (r := mr ρ1) p fun rs ρ2 us H2 Hs2 rp2 g2 rb p2 => post_ok (v := v :: us) p2 rp2 ⟨rv_grow ra g2, rb⟩ fun _ z => z.elim⟩
def mCB (f : List PyData → Option PyData) (mr : M (List RV)) : M RV := bnd mr fun rs => opnD f rs
theorem sim_cb {f : List PyData → Option PyData} {r : List V → Hp → VK → Prop} (ho : OpN X.K f r) (ha : SimA T X W es mr) (h : PA X es (tM X.K T X.mg W (kA X.K) mr) → PE X e (tCB r (tM X.K T X.mg W (kA X.K) mr))) : SimE T X W e (mCB f mr) :=
  pe_imp (h ha) fun σ H Q q => tM_bnd q fun a ρ1 vs H1 Hs1 rp1 _ ra p => by
    obtain ⟨xs, z, hx, hf, he⟩ := opnD_end rp1 ra p
    exact ho Hs1 H1 vs xs z Q rp1.sub hx hf he
end
end DS
end
section
set_option Elab.async false
set_option linter.all false
set_option maxRecDepth 100000
set_option maxHeartbeats 4000000
/-! DsD: operations on data -/
namespace DS
open PySem PySem.Spec PyProof.Rows L2
/-! ### what Python's operations answer on data; none where a room is lacking or the kind isn't served -/
def dAdd : PyData → PyData → Option PyData
  | .int a, .int b => some (.int (a + b))
  | .str a, .str b => if a.length + b.length ≤ sizeLine then some (.str (a ++ b)) else none
  | .tuple a, .tuple b => if a.length + b.length ≤ sizeLine then some (.tuple (a ++ b)) else none
  | .list a, .list b => if a.length + b.length ≤ sizeLine then some (.list (a ++ b)) else none
  | _, _ => none
def dSub : PyData → PyData → Option PyData
  | .int a, .int b => some (.int (a - b))
  | _, _ => none
def mulOk (a b : Int) : Bool := decide (a.natAbs.log2 + b.natAbs.log2 < 1000000)
def dMul : PyData → PyData → Option PyData
  | .int a, .int b => if mulOk a b = true then some (.int (a * b)) else none
  | _, _ => none
def dDiv : PyData → PyData → Option PyData
  | .int a, .int b => if 0 < b ∧ b.natAbs.log2 < 9000 then some (.int (a / b)) else none
  | _, _ => none
def dMod : PyData → PyData → Option PyData
  | .int a, .int b => if 0 < b then some (.int (a % b)) else none
  | _, _ => none
def dPow : PyData → PyData → Option PyData
  | .int a, .int b => if 0 ≤ b ∧ b ≤ 1000000 ∧ a.natAbs < 2 ^ 64 then some (.int (a ^ b.toNat)) else none
  | _, _ => none
def dNeg : PyData → Option PyData
  | .int a => some (.int (-a))
  | _ => none
def dLt : PyData → PyData → Option PyData
  | .int a, .int b => some (.bool (decide (a < b)))
  | _, _ => none
def dLe : PyData → PyData → Option PyData
  | .int a, .int b => some (.bool (decide (a ≤ b)))
  | _, _ => none
def dGt : PyData → PyData → Option PyData
  | .int a, .int b => some (.bool (decide (b < a)))
  | _, _ => none
def dGe : PyData → PyData → Option PyData
  | .int a, .int b => some (.bool (decide (b ≤ a)))
  | _, _ => none
def dEqB : PyData → PyData → Option Bool
  | .int a, .int b => some (decide (a = b))
  | .str a, .str b => some (decide (a = b))
  | .bool a, .bool b => some (decide (a = b))
  | .none, .none => some true
  | .none, .int _ => some false
  | .int _, .none => some false
  | .none, .str _ => some false
  | .str _, .none => some false
  | x, y => if SeqAt.shaped x = true ∧ SeqAt.shaped y = true then some (PyData.eqv x y) else none
def dEq (x y : PyData) : Option PyData := (dEqB x y).map fun b => .bool b
def dNe (x y : PyData) : Option PyData := (dEqB x y).map fun b => .bool (!b)
def isNon : PyData → Bool
  | .none => true
  | _ => false
def dIs : PyData → PyData → Option PyData
  | x, .none => some (.bool (isNon x))
  | _, _ => none
def dIsNot : PyData → PyData → Option PyData
  | x, .none => some (.bool (!isNon x))
  | _, _ => none
def dInB (x : PyData) : PyData → Option Bool
  | .list ds => if SeqAt.shaped x = true ∧ SeqAt.shaped (.list ds) = true then some (ds.any fun z => PyData.eqv z x) else none
  | .tuple ds => if SeqAt.shaped x = true ∧ SeqAt.shaped (.tuple ds) = true then some (ds.any fun z => PyData.eqv z x) else none
  | _ => none
def dIn (x y : PyData) : Option PyData := (dInB x y).map fun b => .bool b
def dNotIn (x y : PyData) : Option PyData := (dInB x y).map fun b => .bool (!b)
def dIx : PyData → PyData → Option PyData
  | .list ds, .int i => atI ds i
  | .tuple ds, .int i => atI ds i
  | .str z, .int i => if z.length ≤ sizeLine then (atI z.cps.toList i).map fun c => .str ⟨#[c]⟩ else none
  | _, _ => none
def cutD (xs : List PyData) (lo hi : Option Int) : List PyData := (xs.drop (HT.sIx xs.length 0 lo)).take (HT.sIx xs.length xs.length hi - HT.sIx xs.length 0 lo)
def dSl (x : PyData) (lo hi : Option Int) : Option PyData := match x with
  | .list ds => some (.list (cutD ds lo hi))
  | .tuple ds => some (.tuple (cutD ds lo hi))
  | .str z => if z.length ≤ sizeLine then some (.str (cutS z lo hi)) else none
  | _ => none
def dLen : List PyData → Option PyData
  | [.list ds] => some (.int ds.length)
  | [.tuple ds] => some (.int ds.length)
  | [.str z] => if z.length ≤ sizeLine then some (.int z.length) else none
  | _ => none
def dTuple : List PyData → Option PyData
  | [.list ds] => some (.tuple ds)
  | [.tuple ds] => some (.tuple ds)
  | _ => none
def dList : List PyData → Option PyData
  | [.list ds] => some (.list ds)
  | [.tuple ds] => some (.list ds)
  | _ => none
def dAbs : List PyData → Option PyData
  | [.int i] => some (.int (if i < 0 then -i else i))
  | _ => none
def dInt : List PyData → Option PyData
  | [.int i] => some (.int i)
  | [.bool b] => some (.int (if b then 1 else 0))
  | _ => none
def dMax2 : List PyData → Option PyData
  | [.int i, .int j] => some (.int (if j > i then j else i))
  | _ => none
def dMin2 : List PyData → Option PyData
  | [.int i, .int j] => some (.int (if j < i then j else i))
  | _ => none
def ints? : List PyData → Option (List Int)
  | [] => some []
  | .int i :: r => (ints? r).map (i :: ·)
  | _ => none
def bools? : List PyData → Option (List Bool)
  | [] => some []
  | .bool i :: r => (bools? r).map (i :: ·)
  | _ => none
def dSum : List PyData → Option PyData
  | [.list ds] => (ints? ds).map fun ns => .int ns.sum
  | _ => none
def dAny : List PyData → Option PyData
  | [.list ds] => (bools? ds).map fun bs => .bool (bs.any id)
  | _ => none
def dAll : List PyData → Option PyData
  | [.list ds] => (bools? ds).map fun bs => .bool (bs.all id)
  | _ => none
def kindOf : PyData → String
  | .none => "NoneType"
  | .bool _ => "bool"
  | .int _ => "int"
  | .str _ => "str"
  | .list _ => "list"
  | .tuple _ => "tuple"
  | .dict _ => "dict"
def dIsi (cs : List String) (x : PyData) : Bool := cs.any fun c => kindOf x == c || (kindOf x == "bool" && c == "int")
def dRepr : List PyData → Option PyData
  | [x] => if x.showable = true ∧ x.depth ≤ 32 ∧ x.shown.length ≤ sizeLine then some (.str x.shown) else none
  | _ => none
section
variable {K : PySem.W.Frag} {Hs H : Hp} {X : Cx}
theorem bReps.one {vs : List V} {x : PyData} (h : bReps K Hs H vs [x]) : ∃ v, vs = [v] ∧ BRep K Hs H v x := by
  cases vs with
  | nil => exact h.elim
  | cons v vs =>
    cases vs with
    | nil => exact ⟨v, rfl, h.1⟩
    | cons => exact h.2.elim
theorem bReps.two {vs : List V} {x y : PyData} (h : bReps K Hs H vs [x, y]) : ∃ v u, vs = [v, u] ∧ BRep K Hs H v x ∧ BRep K Hs H u y := by
  cases vs with
  | nil => exact h.elim
  | cons v vs =>
    obtain ⟨u, rfl, q⟩ := bReps.one h.2
    exact ⟨v, u, rfl, h.1, q⟩
theorem op2_I0 {f : PyData → PyData → Option PyData} {g : Int → Int → V} {g' : Int → Int → PyData} (hf : ∀ x y z, f x y = some z → ∃ i j, x = .int i ∧ y = .int j ∧ z = g' i j) (hg : ∀ Hs i j, Dp K Hs (g i j) (g' i j)) : Op2 K f (rI0 g) := by
  intro Hs H v u x y z Q s hv hu hz he
  obtain ⟨i, j, rfl, rfl, rfl⟩ := hf x y z hz
  exact ⟨i, j, hv.int, hu.int, he.here (hg Hs i j)⟩
theorem op2_I {f : PyData → PyData → Option PyData} {C : Int → Int → Prop} {g : Int → Int → V} {g' : Int → Int → PyData} (hf : ∀ x y z, f x y = some z → ∃ i j, x = .int i ∧ y = .int j ∧ C i j ∧ z = g' i j) (hg : ∀ Hs i j, Dp K Hs (g i j) (g' i j)) : Op2 K f (rI C g) := by
  intro Hs H v u x y z Q s hv hu hz he
  obtain ⟨i, j, rfl, rfl, hc, rfl⟩ := hf x y z hz
  exact ⟨i, j, hv.int, hu.int, hc, he.here (hg Hs i j)⟩
theorem o_sub : Op2 K dSub (rI0 fun i j => .int (i - j)) := op2_I0 (g' := fun i j => .int (i - j)) (fun x y z h => by
  unfold dSub at h
  split at h
  · cases h; exact ⟨_, _, rfl, rfl, rfl⟩
  · cases h) fun _ _ _ => .int _
theorem o_lt : Op2 K dLt (rI0 fun i j => .bl (decide (i < j))) := op2_I0 (g' := fun i j => .bool (decide (i < j))) (fun x y z h => by
  unfold dLt at h
  split at h
  · cases h; exact ⟨_, _, rfl, rfl, rfl⟩
  · cases h) fun _ _ _ => .bl _
theorem o_le : Op2 K dLe (rI0 fun i j => .bl (decide (i ≤ j))) := op2_I0 (g' := fun i j => .bool (decide (i ≤ j))) (fun x y z h => by
  unfold dLe at h
  split at h
  · cases h; exact ⟨_, _, rfl, rfl, rfl⟩
  · cases h) fun _ _ _ => .bl _
theorem o_gt : Op2 K dGt (rI0 fun i j => .bl (decide (j < i))) := op2_I0 (g' := fun i j => .bool (decide (j < i))) (fun x y z h => by
  unfold dGt at h
  split at h
  · cases h; exact ⟨_, _, rfl, rfl, rfl⟩
  · cases h) fun _ _ _ => .bl _
theorem o_ge : Op2 K dGe (rI0 fun i j => .bl (decide (j ≤ i))) := op2_I0 (g' := fun i j => .bool (decide (j ≤ i))) (fun x y z h => by
  unfold dGe at h
  split at h
  · cases h; exact ⟨_, _, rfl, rfl, rfl⟩
  · cases h) fun _ _ _ => .bl _
theorem o_mul : Op2 K dMul (rI CMulW fun i j => .int (i * j)) := op2_I (g' := fun i j => .int (i * j)) (fun x y z h => by
  unfold dMul at h
  split at h
  · split at h
    · rename_i q
      cases h; exact ⟨_, _, rfl, rfl, (show CMulW _ _ from by unfold CMulW; exact of_decide_eq_true q), rfl⟩
    · cases h
  · cases h) fun _ _ _ => .int _
theorem o_div : Op2 K dDiv (rI CDivW fun i j => .int (i / j)) := op2_I (g' := fun i j => .int (i / j)) (fun x y z h => by
  unfold dDiv at h
  split at h
  · split at h
    · rename_i q
      cases h; exact ⟨_, _, rfl, rfl, q, rfl⟩
    · cases h
  · cases h) fun _ _ _ => .int _
theorem o_mod : Op2 K dMod (rI (fun _ j => 0 < j) fun i j => .int (i % j)) := op2_I (g' := fun i j => .int (i % j)) (fun x y z h => by
  unfold dMod at h
  split at h
  · split at h
    · rename_i q
      cases h; exact ⟨_, _, rfl, rfl, q, rfl⟩
    · cases h
  · cases h) fun _ _ _ => .int _
theorem o_pow : Op2 K dPow (rI CPow fun i j => .int (i ^ j.toNat)) := op2_I (g' := fun i j => .int (i ^ j.toNat)) (fun x y z h => by
  unfold dPow at h
  split at h
  · split at h
    · rename_i q
      cases h; exact ⟨_, _, rfl, rfl, q, rfl⟩
    · cases h
  · cases h) fun _ _ _ => .int _
theorem o_neg : Op1 K dNeg (rU fun i => .int (-i)) := by
  intro Hs H v x z Q s hv hz he
  unfold dNeg at hz
  split at hz
  · cases hz; exact ⟨_, hv.int, he.here (.int _)⟩
  · cases hz
/-- list + list, wherever they lie -/
def rCatL (K : PySem.W.Frag) : R2 := fun x y H Q => ∃ a b xs ys, x = .ref a ∧ y = .ref b ∧ SqL K H a xs ∧ SqL K H b ys ∧ xs.length + ys.length ≤ sizeLine ∧ ∀ p, H p = none → Q (.ref p) (upd H p (.lst (xs ++ ys)))
theorem op_catL : OpR X (binaryOp .Add) (rCatL X.K) := by
  intro pins s σ H x y v u Q I rx ry ⟨a, b, xs, ys, ex, ey, q1, q2, hz, k⟩
  subst ex ey
  cases rx
  cases ry
  obtain ⟨i1, r1, p1, z1⟩ := I.list q1
  obtain ⟨i2, r2, p2, z2⟩ := I.list q2
  obtain ⟨⟨c1, d1, t1, s1⟩, n1, g1, e1, f1, j1⟩ := p1
  obtain ⟨⟨c2, d2, t2, s2⟩, n2, g2, e2, f2, j2⟩ := p2
  simp only at e1 f1 j1 e2 f2 j2
  subst e1 f1 j1 e2 f2 j2
  have es : i1.toArray ++ i2.toArray = (i1 ++ i2).toArray := by simp
  have l1 := r1.length
  have l2 := r2.length
  have W := list_addW a b i1.toArray i2.toArray n1 n2 none none s1 s2 (by simp; omega)
  refine concat_meets ⟨_, g1, rfl⟩ ⟨_, g2, rfl⟩ noFill_list_add seq_list_add PySem.F.slot_list_add PySem.F.entry_list_add (PySem.F.args_list_add_2 _ _) W ⟨g1, g2, ?_⟩
  rw [es]
  exact ⟨.ref _, _, I.lnew (t' := s.toks) (r1.append r2) (by rw [List.length_append]; omega), rfl, k _ I.fresh⟩
/-- + of ints, texts, tuples, lists -/
def rAddD (K : PySem.W.Frag) : R2 := fun x y H Q => (∃ i j, x = .int i ∧ y = .int j ∧ Q (.int (i + j)) H) ∨ (∃ i j, x = .str i ∧ y = .str j ∧ i.length + j.length ≤ sizeLine ∧ Q (.str (i ++ j)) H) ∨ rCatA K x y H Q ∨ rCatL K x y H Q
theorem op_addD : OpR X (binaryOp .Add) (rAddD X.K) := op_add.or (op_add_str.or (op_catA.or op_catL))
theorem o_add : Op2 K dAdd (rAddD K) := by
  intro Hs H v u x y z Q s hv hu hz he
  unfold dAdd at hz
  split at hz
  · cases hz; exact .inl ⟨_, _, hv.int, hu.int, he.here (.int _)⟩
  · split at hz
    · cases hz; exact .inr (.inl ⟨_, _, hv.str, hu.str, by assumption, he.here (.str _)⟩)
    · cases hz
  · split at hz
    · rename_i a b hl
      cases hz
      obtain ⟨p, vs, rfl, h1, h2, h3⟩ := hv.tup s
      obtain ⟨q, us, rfl, h4, h5, h6⟩ := hu.tup s
      have l1 := dpAll_len h2
      have l2 := dpAll_len h5
      refine .inr (.inr (.inl ⟨p, q, vs, us, rfl, rfl, h1, h4, by rw [l1, l2]; exact hl, fun e => ?_, fun _ e => ?_, fun _ _ r hr => ?_⟩))
      · have ea : a = [] := List.length_eq_zero_iff.mp (by rw [← l1, e]; rfl)
        subst ea
        exact he.here h6
      · have eb : b = [] := List.length_eq_zero_iff.mp (by rw [← l2, e]; rfl)
        subst eb
        rw [List.append_nil] at he
        exact he.here h3
      · exact he.tup s hr (dpAll_app h2 h5)
    · cases hz
  · split at hz
    · rename_i a b hl
      cases hz
      obtain ⟨p, vs, rfl, h1, h2⟩ := hv.list s
      obtain ⟨q, us, rfl, h4, h5⟩ := hu.list s
      have l1 := dpAll_len h2
      have l2 := dpAll_len h5
      exact .inr (.inr (.inr ⟨p, q, vs, us, rfl, rfl, h1, h4, by rw [l1, l2]; exact hl, fun r hr => he.lst s hr (dpAll_app h2 h5)⟩))
    · cases hz
  · cases hz
def rEqA (K : PySem.W.Frag) : R2 := fun x y H Q => rEq x y H Q ∨ rEqD K x y H Q
def rNeA (K : PySem.W.Frag) : R2 := fun x y H Q => rNe x y H Q ∨ rNeD K x y H Q
theorem op_eqA (hu : X.A.units + 64 < cLine) : OpR X (compareOp .Eq) (rEqA X.K) := op_eq.or (op_eqD hu)
theorem op_neA (hu : X.A.units + 64 < cLine) : OpR X (compareOp .NotEq) (rNeA X.K) := op_ne.or (op_neD hu)
theorem dEqB_cases {x y : PyData} {b : Bool} {v u : V} (h : dEqB x y = some b) (hv : BRep K Hs H v x) (hu : BRep K Hs H u y) : (scal v u = true ∧ decide (v = u) = b) ∨ (SeqAt.shaped x = true ∧ SeqAt.shaped y = true ∧ PyData.eqv x y = b) := by
  unfold dEqB at h
  split at h
  · cases h; rw [hv.int, hu.int]; exact .inl ⟨rfl, by rw [dec_int, Bool.beq_eq_decide_eq]⟩
  · cases h; rw [hv.str, hu.str]; exact .inl ⟨rfl, by rw [dec_str, Bool.beq_eq_decide_eq]⟩
  · cases h; rw [hv.bool, hu.bool]; exact .inl ⟨rfl, by rw [dec_bl, Bool.beq_eq_decide_eq]⟩
  · cases h; rw [hv.non, hu.non]; exact .inl ⟨rfl, by simp⟩
  · cases h; rw [hv.non, hu.int]; exact .inl ⟨rfl, by simp⟩
  · cases h; rw [hv.int, hu.non]; exact .inl ⟨rfl, by simp⟩
  · cases h; rw [hv.non, hu.str]; exact .inl ⟨rfl, by simp⟩
  · cases h; rw [hv.str, hu.non]; exact .inl ⟨rfl, by simp⟩
  · split at h
    · rename_i q
      cases h; exact .inr ⟨q.1, q.2, rfl⟩
    · cases h
theorem o_eq : Op2 K dEq (rEqA K) := by
  intro Hs H v u x y z Q s hv hu hz he
  unfold dEq at hz
  cases e : dEqB x y with
  | none => rw [e] at hz; cases hz
  | some b =>
    rw [e] at hz
    cases hz
    rcases dEqB_cases e hv hu with ⟨h1, h2⟩ | ⟨h1, h2, h3⟩
    · exact .inl ⟨h1, by rw [h2]; exact he.here (.bl b)⟩
    · exact .inr ⟨x, y, hv.dp s, hu.dp s, h1, h2, by rw [h3]; exact he.here (.bl b)⟩
theorem o_ne : Op2 K dNe (rNeA K) := by
  intro Hs H v u x y z Q s hv hu hz he
  unfold dNe at hz
  cases e : dEqB x y with
  | none => rw [e] at hz; cases hz
  | some b =>
    rw [e] at hz
    cases hz
    rcases dEqB_cases e hv hu with ⟨h1, h2⟩ | ⟨h1, h2, h3⟩
    · exact .inl ⟨h1, by rw [h2]; exact he.here (.bl (!b))⟩
    · exact .inr ⟨x, y, hv.dp s, hu.dp s, h1, h2, by rw [h3]; exact he.here (.bl (!b))⟩
theorem brep_none_iff {v : V} {x : PyData} (h : BRep K Hs H v x) : decide (v = .non) = isNon x := by
  rcases h with h | ⟨p, vs, ds, rfl, rfl, _⟩
  · cases h <;> simp [isNon]
  · simp [isNon]
theorem o_is : Op2 K dIs (fun x y H Q => y = .non ∧ Q (.bl (decide (x = .non))) H) := by
  intro Hs H v u x y z Q s hv hu hz he
  unfold dIs at hz
  split at hz
  · cases hz
    refine ⟨hu.non, ?_⟩
    rw [brep_none_iff hv]
    exact he.here (.bl _)
  · cases hz
theorem o_isNot : Op2 K dIsNot (fun x y H Q => y = .non ∧ Q (.bl (!decide (x = .non))) H) := by
  intro Hs H v u x y z Q s hv hu hz he
  unfold dIsNot at hz
  split at hz
  · rename_i x'
    cases hz
    refine ⟨hu.non, ?_⟩
    rw [brep_none_iff hv]
    exact he.here (.bl _)
  · cases hz
def rInA (K : PySem.W.Frag) (neg : Bool) : R2 := fun x y H Q => ∃ d ds e, Dp K H x d ∧ Dp K H y e ∧ (e = .list ds ∨ e = .tuple ds) ∧ SeqAt.shaped d = true ∧ SeqAt.shaped e = true ∧ Q (.bl (if neg then !(ds.any fun z => PyData.eqv z d) else ds.any fun z => PyData.eqv z d)) H
theorem op_inA (hu : X.A.units + 65 < cLine) : OpR X (compareOp .In) (rInA X.K false) := by
  intro pins s σ H x y v u Q I rx ry h
  obtain ⟨d, ds, e, hd, he, k, sd, se, q⟩ := h
  obtain ⟨as, r1⟩ := Dp.reads I d x v hd rx
  obtain ⟨bs, r2⟩ := Dp.reads I e y u he ry
  rcases k with rfl | rfl
  · exact SeqAt.in_list_reads r2 r1 (SeqAt.canLay_of_shaped se) (SeqAt.canLay_of_shaped sd) (room_in_shaped sd hu) ⟨.bl _, H, I, rfl, q⟩
  · exact SeqAt.in_tuple_reads r2 r1 (SeqAt.canLay_of_shaped se) (SeqAt.canLay_of_shaped sd) (room_in_shaped sd hu) ⟨.bl _, H, I, rfl, q⟩
theorem op_notInA (hu : X.A.units + 65 < cLine) : OpR X (compareOp .NotIn) (rInA X.K true) := by
  intro pins s σ H x y v u Q I rx ry h
  obtain ⟨d, ds, e, hd, he, k, sd, se, q⟩ := h
  obtain ⟨as, r1⟩ := Dp.reads I d x v hd rx
  obtain ⟨bs, r2⟩ := Dp.reads I e y u he ry
  rcases k with rfl | rfl
  · exact SeqAt.notIn_list_reads r2 r1 (SeqAt.canLay_of_shaped se) (SeqAt.canLay_of_shaped sd) (room_in_shaped sd hu) ⟨.bl _, H, I, rfl, q⟩
  · exact SeqAt.notIn_tuple_reads r2 r1 (SeqAt.canLay_of_shaped se) (SeqAt.canLay_of_shaped sd) (room_in_shaped sd hu) ⟨.bl _, H, I, rfl, q⟩
theorem dInB_cases {x y : PyData} {b : Bool} (h : dInB x y = some b) : ∃ ds, (y = .list ds ∨ y = .tuple ds) ∧ SeqAt.shaped x = true ∧ SeqAt.shaped y = true ∧ (ds.any fun z => PyData.eqv z x) = b := by
  unfold dInB at h
  split at h
  · split at h
    · rename_i q
      cases h; exact ⟨_, .inl rfl, q.1, q.2, rfl⟩
    · cases h
  · split at h
    · rename_i q
      cases h; exact ⟨_, .inr rfl, q.1, q.2, rfl⟩
    · cases h
  · cases h
theorem o_in : Op2 K dIn (rInA K false) := by
  intro Hs H v u x y z Q s hv hu hz he
  unfold dIn at hz
  cases e : dInB x y with
  | none => rw [e] at hz; cases hz
  | some b =>
    rw [e] at hz
    cases hz
    obtain ⟨ds, h1, h2, h3, h4⟩ := dInB_cases e
    refine ⟨x, ds, y, hv.dp s, hu.dp s, h1, h2, h3, ?_⟩
    rw [if_neg Bool.false_ne_true, h4]
    exact he.here (.bl b)
theorem o_notIn : Op2 K dNotIn (rInA K true) := by
  intro Hs H v u x y z Q s hv hu hz he
  unfold dNotIn at hz
  cases e : dInB x y with
  | none => rw [e] at hz; cases hz
  | some b =>
    rw [e] at hz
    cases hz
    obtain ⟨ds, h1, h2, h3, h4⟩ := dInB_cases e
    refine ⟨x, ds, y, hv.dp s, hu.dp s, h1, h2, h3, ?_⟩
    rw [if_pos rfl, h4]
    exact he.here (.bl (!b))
theorem atI_dp {vs : List V} {ds : List PyData} {i : Int} {z : PyData} (h : DpAll K Hs vs ds) (e : atI ds i = some z) : ∃ v, atI vs i = some v ∧ Dp K Hs v z := by
  unfold atI at e ⊢
  rw [dpAll_len h]
  cases q : ixN ds.length i with
  | none => rw [q] at e; cases e
  | some j =>
    rw [q] at e
    exact dpAll_get h e
theorem o_ix : Op2 K dIx (rIx K) := by
  intro Hs H v u x y z Q s hv hu hz he
  unfold dIx at hz
  split at hz
  · obtain ⟨p, vs, rfl, h1, h2⟩ := hv.list s
    obtain ⟨w, h3, h4⟩ := atI_dp h2 hz
    exact .inl ⟨p, vs, _, w, rfl, hu.int, h1, h3, he.here h4⟩
  · obtain ⟨p, vs, rfl, h1, h2, _⟩ := hv.tup s
    obtain ⟨w, h3, h4⟩ := atI_dp h2 hz
    exact .inr (.inl ⟨p, vs, _, w, rfl, hu.int, h1, h3, he.here h4⟩)
  · split at hz
    · rename_i zz i hl
      cases e : atI zz.cps.toList i with
      | none => rw [e] at hz; cases hz
      | some c =>
        rw [e] at hz
        cases hz
        exact .inr (.inr ⟨zz, i, c, hv.str, hu.int, hl, e, he.here (.str _)⟩)
    · cases hz
  · cases hz
theorem o_len : OpN K dLen (fun xs H Q => ∃ x n, xs = [x] ∧ LenV K x H n ∧ Q (.int n) H) := by
  intro Hs H vs xs z Q s hv hz he
  unfold dLen at hz
  split at hz
  · cases hz
    obtain ⟨v, rfl, h⟩ := hv.one
    obtain ⟨p, us, rfl, h1, h2⟩ := h.list s
    exact ⟨_, _, rfl, .inl ⟨us, h1, (dpAll_len h2).symm⟩, he.here (.int _)⟩
  · cases hz
    obtain ⟨v, rfl, h⟩ := hv.one
    obtain ⟨p, us, rfl, h1, h2, _⟩ := h.tup s
    exact ⟨_, _, rfl, .inr ⟨us, h1, (dpAll_len h2).symm⟩, he.here (.int _)⟩
  · split at hz
    · rename_i hl
      cases hz
      obtain ⟨v, rfl, h⟩ := hv.one
      exact ⟨_, _, rfl, by rw [h.str]; exact ⟨hl, rfl⟩, he.here (.int _)⟩
    · cases hz
  · cases hz
theorem o_tuple : OpN K dTuple (fun xs H Q => ∃ p ys, xs = [.ref p] ∧ ((SqL K H p ys ∧ ∀ l, H l = none → Q (.ref l) (upd H l (.tup ys))) ∨ (SqT K H p ys ∧ Q (.ref p) H))) := by
  intro Hs H vs xs z Q s hv hz he
  unfold dTuple at hz
  split at hz
  · cases hz
    obtain ⟨v, rfl, h⟩ := hv.one
    obtain ⟨p, us, rfl, h1, h2⟩ := h.list s
    exact ⟨p, us, rfl, .inl ⟨h1, fun l hl => he.tup s hl h2⟩⟩
  · cases hz
    obtain ⟨v, rfl, h⟩ := hv.one
    obtain ⟨p, us, rfl, h1, h2, h3⟩ := h.tup s
    exact ⟨p, us, rfl, .inr ⟨h1, he.here h3⟩⟩
  · cases hz
theorem o_list : OpN K dList (fun xs H Q => ∃ p ys, xs = [.ref p] ∧ (SqL K H p ys ∨ SqT K H p ys) ∧ ∀ l, H l = none → Q (.ref l) (upd H l (.lst ys))) := by
  intro Hs H vs xs z Q s hv hz he
  unfold dList at hz
  split at hz
  · cases hz
    obtain ⟨v, rfl, h⟩ := hv.one
    obtain ⟨p, us, rfl, h1, h2⟩ := h.list s
    exact ⟨p, us, rfl, .inl h1, fun l hl => he.lst s hl h2⟩
  · cases hz
    obtain ⟨v, rfl, h⟩ := hv.one
    obtain ⟨p, us, rfl, h1, h2, h3⟩ := h.tup s
    exact ⟨p, us, rfl, .inr h1, fun l hl => he.lst s hl h2⟩
  · cases hz
theorem o_abs : OpN K dAbs (fun xs H Q => ∃ i, xs = [.int i] ∧ Q (.int (if i < 0 then -i else i)) H) := by
  intro Hs H vs xs z Q s hv hz he
  unfold dAbs at hz
  split at hz
  · cases hz
    obtain ⟨v, rfl, h⟩ := hv.one
    exact ⟨_, by rw [h.int], he.here (.int _)⟩
  · cases hz
theorem o_int : OpN K dInt (fun xs H Q => (∃ i, xs = [.int i] ∧ Q (.int i) H) ∨ ∃ k, xs = [.bl k] ∧ Q (.int (if k then 1 else 0)) H) := by
  intro Hs H vs xs z Q s hv hz he
  unfold dInt at hz
  split at hz
  · cases hz
    obtain ⟨v, rfl, h⟩ := hv.one
    exact .inl ⟨_, by rw [h.int], he.here (.int _)⟩
  · cases hz
    obtain ⟨v, rfl, h⟩ := hv.one
    exact .inr ⟨_, by rw [h.bool], he.here (.int _)⟩
  · cases hz
theorem o_max2 : OpN K dMax2 (fun xs H Q => ∃ i j, xs = [.int i, .int j] ∧ Q (.int (if j > i then j else i)) H) := by
  intro Hs H vs xs z Q s hv hz he
  unfold dMax2 at hz
  split at hz
  · cases hz
    obtain ⟨v, u, rfl, h, h'⟩ := hv.two
    exact ⟨_, _, by rw [h.int, h'.int], he.here (.int _)⟩
  · cases hz
theorem o_min2 : OpN K dMin2 (fun xs H Q => ∃ i j, xs = [.int i, .int j] ∧ Q (.int (if j < i then j else i)) H) := by
  intro Hs H vs xs z Q s hv hz he
  unfold dMin2 at hz
  split at hz
  · cases hz
    obtain ⟨v, u, rfl, h, h'⟩ := hv.two
    exact ⟨_, _, by rw [h.int, h'.int], he.here (.int _)⟩
  · cases hz
theorem ints_dp : ∀ {vs : List V} {ds : List PyData} {ns : List Int}, DpAll K Hs vs ds → ints? ds = some ns → vs = ns.map V.int
  | _, _, _, .nil, e => by cases e; rfl
  | _, _, _, .cons (d := .int i) (ds := t) a r, e => by
    simp only [ints?] at e
    cases e2 : ints? t with
    | none => rw [e2] at e; cases e
    | some ms =>
      rw [e2] at e
      cases e
      cases a
      rw [List.map_cons, ints_dp r e2]
  | _, _, _, .cons (d := .none) a r, e => nomatch e
  | _, _, _, .cons (d := .bool _) a r, e => nomatch e
  | _, _, _, .cons (d := .str _) a r, e => nomatch e
  | _, _, _, .cons (d := .list _) a r, e => nomatch e
  | _, _, _, .cons (d := .tuple _) a r, e => nomatch e
  | _, _, _, .cons (d := .dict _) a r, e => nomatch e
theorem bools_dp : ∀ {vs : List V} {ds : List PyData} {ns : List Bool}, DpAll K Hs vs ds → bools? ds = some ns → vs = ns.map V.bl
  | _, _, _, .nil, e => by cases e; rfl
  | _, _, _, .cons (d := .bool i) (ds := t) a r, e => by
    simp only [bools?] at e
    cases e2 : bools? t with
    | none => rw [e2] at e; cases e
    | some ms =>
      rw [e2] at e
      cases e
      cases a
      rw [List.map_cons, bools_dp r e2]
  | _, _, _, .cons (d := .none) a r, e => nomatch e
  | _, _, _, .cons (d := .int _) a r, e => nomatch e
  | _, _, _, .cons (d := .str _) a r, e => nomatch e
  | _, _, _, .cons (d := .list _) a r, e => nomatch e
  | _, _, _, .cons (d := .tuple _) a r, e => nomatch e
  | _, _, _, .cons (d := .dict _) a r, e => nomatch e
theorem o_sum : OpN K dSum (rSum K) := by
  intro Hs H vs xs z Q s hv hz he
  unfold dSum at hz
  split at hz
  · rename_i ds
    cases e : ints? ds with
    | none => rw [e] at hz; cases hz
    | some ns =>
      rw [e] at hz
      cases hz
      obtain ⟨v, rfl, h⟩ := hv.one
      obtain ⟨p, us, rfl, h1, h2⟩ := h.list s
      rw [ints_dp h2 e] at h1
      exact ⟨p, ns, rfl, h1, he.here (.int _)⟩
  · cases hz
theorem o_any : OpN K dAny (rAny K) := by
  intro Hs H vs xs z Q s hv hz he
  unfold dAny at hz
  split at hz
  · rename_i ds
    cases e : bools? ds with
    | none => rw [e] at hz; cases hz
    | some ns =>
      rw [e] at hz
      cases hz
      obtain ⟨v, rfl, h⟩ := hv.one
      obtain ⟨p, us, rfl, h1, h2⟩ := h.list s
      rw [bools_dp h2 e] at h1
      exact ⟨p, ns, rfl, h1, he.here (.bl _)⟩
  · cases hz
theorem o_all : OpN K dAll (rAll K) := by
  intro Hs H vs xs z Q s hv hz he
  unfold dAll at hz
  split at hz
  · rename_i ds
    cases e : bools? ds with
    | none => rw [e] at hz; cases hz
    | some ns =>
      rw [e] at hz
      cases hz
      obtain ⟨v, rfl, h⟩ := hv.one
      obtain ⟨p, us, rfl, h1, h2⟩ := h.list s
      rw [bools_dp h2 e] at h1
      exact ⟨p, ns, rfl, h1, he.here (.bl _)⟩
  · cases hz
/-- repr of data -/
theorem dp_hasDict : ∀ {v : V} {d : PyData}, Dp K H v d → d.hasDict = false := by
  intro v d h
  induction h using Dp.rec (motive_2 := fun _ ds _ => PyData.hasDictAll ds = false) with
  | non => rfl
  | bl => rfl
  | int => rfl
  | str => rfl
  | lst _ _ ih => simpa [PyData.hasDict] using ih
  | tup _ _ ih => simpa [PyData.hasDict] using ih
  | nil => rfl
  | cons _ _ h1 h2 => simp [PyData.hasDictAll, h1, h2]
def rRepr (K : PySem.W.Frag) : List V → Hp → VK → Prop := fun xs H Q => ∃ v d, xs = [v] ∧ Dp K H v d ∧ d.showable = true ∧ d.depth ≤ 32 ∧ d.shown.length ≤ sizeLine ∧ Q (.str d.shown) H
theorem call_repr (hg : X.A.guards = some []) (hu : X.A.units + 64 < cLine) : CallR X (.builtin "repr") (rRepr X.K) := by
  intro pins s σ H xs us Q I r h
  obtain ⟨v, d, rfl, hd, h1, h2, h3, q⟩ := h
  obtain ⟨u, rfl, ru⟩ := vals1 r
  cases hd with
  | non =>
    cases ru
    exact PySem.P.repr_of_none ⟨.str _, H, I.tok _, ⟨_, rfl⟩, q⟩
  | bl b =>
    cases ru
    refine PySem.P.repr_of_bool ⟨.str _, H, I.tok _, ⟨_, rfl⟩, ?_⟩
    cases b <;> exact q
  | int i =>
    obtain ⟨t, rfl⟩ := ru
    exact PySem.P.repr_of_int (of_decide_eq_true h1) ⟨.str _, H, I.tok _, ⟨_, rfl⟩, q⟩
  | str x =>
    obtain ⟨t, rfl⟩ := ru
    exact PySem.P.repr_of_str ⟨.str _, H, I.tok _, ⟨_, rfl⟩, q⟩ h3
  | @lst a ys ds p q' =>
    cases (show u = Value.ref a from ru)
    obtain ⟨as, rd⟩ := Dp.reads I (.list ds) (.ref a) (.ref a) (.lst p q') rfl
    exact repr_of_reads' rd h1 (PyData.noDict_hsm (dp_hasDict (K := X.K) (H := H) (v := .ref a) (.lst p q'))) hg (by omega) (fun _ _ e => e) (fun h' u tk k => ⟨.str _, H, I.kept k, ⟨_, rfl⟩, q⟩) h3
  | @tup a ys ds p q' =>
    cases (show u = Value.ref a from ru)
    obtain ⟨as, rd⟩ := Dp.reads I (.tuple ds) (.ref a) (.ref a) (.tup p q') rfl
    exact repr_of_reads' rd h1 (PyData.noDict_hsm (dp_hasDict (K := X.K) (H := H) (v := .ref a) (.tup p q'))) hg (by omega) (fun _ _ e => e) (fun h' u tk k => ⟨.str _, H, I.kept k, ⟨_, rfl⟩, q⟩) h3
theorem o_repr : OpN K dRepr (rRepr K) := by
  intro Hs H vs xs z Q s hv hz he
  unfold dRepr at hz
  split at hz
  · split at hz
    · rename_i q
      cases hz
      obtain ⟨v, rfl, h⟩ := hv.one
      exact ⟨v, _, rfl, h.dp s, q.1, q.2.1, q.2.2, he.here (.str _)⟩
    · cases hz
  · cases hz
end
end DS
end
section
set_option Elab.async false
set_option linter.all false
set_option maxRecDepth 100000
set_option maxHeartbeats 4000000
/-! DsE: tests, displays, parts of expressions -/
namespace DS
open PySem PySem.Spec PyProof.Rows L2
section
variable {T : Tbs} {X : Cx} {W : WX} {e a b c : Expr} {ma mb mc : M RV} {es rest : List Expr} {mr : M (List RV)} {mt mu : M Bool} {pos : Pos}
/-- a value that is a bool -/
def asB (r : RV) : M Bool := fun ρ => match r with
  | .dat (.bool b) => .ok b ρ
  | _ => .bad
theorem asB_end {K : PySem.W.Frag} {mg : Str → Option Value} {Hs H : Hp} {ρ : Rho} {σ : L2.St} {r : RV} {v : V} {Q : Bool → Hp → Prop} (rp : Rep K T Hs ρ σ H) (h : RVRep K Hs σ r v) (p : Post K T mg W kB ρ σ Hs H (asB r ρ) Q) : ∃ k, v = .bl k ∧ Q k H := by
  unfold asB at p
  split at p
  · have h' : Dp K Hs v (.bool _) := h
    cases h'
    exact ⟨_, rfl, post_okB p rp⟩
  · exact p.elim
def mT (ma : M RV) : M Bool := bnd ma asB
theorem st_val (ha : SimE T X W e ma) (he : ∀ whole, isTrue e X.env whole = (do let v ← whole; standAt e.pos; holding [v] (truthy v)) := by intro _; rfl) : SimT T X W e (mT ma) :=
  pt_imp (pt_val ha he) fun σ H Q q => tM_bnd q fun a ρ1 v H1 Hs1 rp1 _ ra p => asB_end rp1 ra p
/-- a comparison (a chain of two) as a test -/
theorem st_of {m : M RV} {t : TE} (h : PT X e (tTest t)) (r : Rf T X W m t) : SimT T X W e (mT m) :=
  pt_imp h fun σ H Q q => r σ H _ (tM_bnd q fun a ρ1 v H1 Hs1 rp1 _ ra p => asB_end rp1 ra p)
theorem st_cmp {f : PyData → PyData → Option PyData} {r : R2} (ho : Op2 X.K f r) (ha : SimE T X W a ma) (hb : SimE T X W b mb)
    (h : PE X a (tM X.K T X.mg W (kE X.K) ma) → PE X b (tM X.K T X.mg W (kE X.K) mb) → PT X e (tTest (tOp r (tM X.K T X.mg W (kE X.K) ma) (tM X.K T X.mg W (kE X.K) mb)))) : SimT T X W e (mT (mOp2 f ma mb)) :=
  st_of (h ha hb) (rf_op2 ho)
def mNot (mt : M Bool) : M Bool := bnd mt fun b => ret (!b)
theorem st_not (h : SimT T X W a mt) : SimT T X W (.UnaryOp .Not a pos) (mNot mt) :=
  pt_imp (pt_not h) fun σ H Q q => tM_bnd q fun b ρ1 v H1 Hs1 rp1 _ rb p => by
    cases rb
    exact post_okB p rp1
def mAnd (mt mu : M Bool) : M Bool := bnd mt fun b => if b = true then mu else ret false
def mOr (mt mu : M Bool) : M Bool := bnd mt fun b => if b = true then ret true else mu
theorem sw_and1 (h : SimT T X W a mt) : SimW T X W (.BoolOp .And [a] pos) mt := pw_and1 h
theorem sw_or1 (h : SimT T X W a mt) : SimW T X W (.BoolOp .Or [a] pos) mt := pw_or1 h
theorem sw_and (h : SimT T X W a mt) (k : SimW T X W (.BoolOp .And (b :: rest) pos) mu) : SimW T X W (.BoolOp .And (a :: b :: rest) pos) (mAnd mt mu) :=
  pw_imp (pw_and h k) fun σ H Q q => tM_bnd q fun x ρ1 v H1 Hs1 rp1 _ rb p => by
    cases rb
    cases x with
    | true => exact ⟨ρ1, Hs1, rp1, p⟩
    | false => exact post_okB p rp1
theorem sw_or (h : SimT T X W a mt) (k : SimW T X W (.BoolOp .Or (b :: rest) pos) mu) : SimW T X W (.BoolOp .Or (a :: b :: rest) pos) (mOr mt mu) :=
  pw_imp (pw_or h k) fun σ H Q q => tM_bnd q fun x ρ1 v H1 Hs1 rp1 _ rb p => by
    cases rb
    cases x with
    | false => exact ⟨ρ1, Hs1, rp1, p⟩
    | true => exact post_okB p rp1
theorem st_w (h : SimW T X W e mt) : SimT T X W e mt := PW.pt h
/-! as values -/
def datB (m : M Bool) : M RV := bnd m fun b => ret (.dat (.bool b))
def mAndV (ma mb : M RV) : M RV := bnd ma fun a => bnd (asB a) fun b => if b = true then mb else ret (.dat (.bool false))
def mOrV (ma mb : M RV) : M RV := bnd ma fun a => bnd (asB a) fun b => if b = true then ret (.dat (.bool true)) else mb
def mNotV (ma : M RV) : M RV := bnd ma fun a => bnd (asB a) fun b => ret (.dat (.bool !b))
theorem asB_bnd {α : Type} {r : RV} {ρ : Rho} {f : Bool → M α} : (bnd (asB r) f) ρ = match r with | .dat (.bool b) => f b ρ | _ => .bad := by
  unfold DS.bnd asB
  split <;> first | rfl | (split <;> first | rfl | contradiction)
theorem asB_endE {K : PySem.W.Frag} {mg : Str → Option Value} {Hs H : Hp} {ρ : Rho} {σ : L2.St} {r : RV} {v : V} {f : Bool → M RV} {Q : V → Hp → Prop} (h : RVRep K Hs σ r v) (p : Post K T mg W (kE K) ρ σ Hs H ((bnd (asB r) f) ρ) Q) : ∃ k, v = .bl k ∧ Post K T mg W (kE K) ρ σ Hs H (f k ρ) Q := by
  rw [asB_bnd] at p
  split at p
  · have h' : Dp K Hs v (.bool _) := h
    cases h'
    exact ⟨_, rfl, p⟩
  · exact p.elim
theorem sv_one {op : BoolOp} (h : SimE T X W a ma) : SimE T X W (.BoolOp op [a] pos) ma := pe_one h
theorem sv_and (h : SimE T X W a ma) (k : SimE T X W (.BoolOp .And (b :: rest) pos) mb) : SimE T X W (.BoolOp .And (a :: b :: rest) pos) (mAndV ma mb) :=
  pe_imp (pe_and h k) fun σ H Q q => tM_bnd q fun x ρ1 v H1 Hs1 rp1 _ rb p => by
    obtain ⟨k, e, p⟩ := asB_endE rb p
    refine ⟨k, e, ?_⟩
    cases k with
    | true => exact ⟨ρ1, Hs1, rp1, p⟩
    | false => exact post_okE p rp1 (.bl false)
theorem sv_or (h : SimE T X W a ma) (k : SimE T X W (.BoolOp .Or (b :: rest) pos) mb) : SimE T X W (.BoolOp .Or (a :: b :: rest) pos) (mOrV ma mb) :=
  pe_imp (pe_or h k) fun σ H Q q => tM_bnd q fun x ρ1 v H1 Hs1 rp1 _ rb p => by
    obtain ⟨k, e, p⟩ := asB_endE rb p
    refine ⟨k, e, ?_⟩
    cases k with
    | false => exact ⟨ρ1, Hs1, rp1, p⟩
    | true => exact post_okE p rp1 (.bl true)
theorem sv_not (h : SimE T X W a ma) : SimE T X W (.UnaryOp .Not a pos) (mNotV ma) :=
  pe_imp (pe_not h) fun σ H Q q => tM_bnd q fun x ρ1 v H1 Hs1 rp1 _ rb p => by
    obtain ⟨k, e, p⟩ := asB_endE rb p
    exact ⟨k, e, post_okE p rp1 (.bl _)⟩
/-! a if t else b -/
def mIf (mt : M Bool) (ma mb : M RV) : M RV := bnd mt fun b => if b = true then ma else mb
theorem sim_if (h : SimT T X W c mt) (ha : SimE T X W a ma) (hb : SimE T X W b mb) : SimE T X W (.IfExp c a b pos) (mIf mt ma mb) :=
  pe_imp (pe_ifExp h ha hb) fun σ H Q q => tM_bnd q fun x ρ1 v H1 Hs1 rp1 _ rb p => by
    cases rb
    cases x with
    | true => exact ⟨ρ1, Hs1, rp1, p⟩
    | false => exact ⟨ρ1, Hs1, rp1, p⟩
/-! displays -/
def dats : List RV → Option (List PyData)
  | [] => some []
  | .dat x :: r => (dats r).map (x :: ·)
  | .slot _ :: _ => none
theorem dats_all {K : PySem.W.Frag} {Hs : Hp} {σ : L2.St} : ∀ {rs : List RV} {vs : List V} {ds : List PyData}, aA K Hs σ rs vs → dats rs = some ds → DpAll K Hs vs ds
  | [], [], _, _, e => by cases e; exact .nil
  | [], _ :: _, _, h, _ => h.elim
  | .dat x :: r, [], _, h, _ => h.elim
  | .dat x :: r, v :: vs, ds, h, e => by
    cases e2 : dats r with
    | none => simp only [dats, e2] at e; cases e
    | some t =>
      simp only [dats, e2] at e
      cases e
      exact .cons h.1 (dats_all h.2 e2)
  | .slot _ :: _, _, _, _, e => nomatch e
def dspD (f : List PyData → PyData) (rs : List RV) : M RV := fun ρ => match dats rs with
  | some ds => if ds.length ≤ sizeLine then .ok (.dat (f ds)) ρ else .bad
  | none => .bad
def mTup (mr : M (List RV)) : M RV := bnd mr (dspD .tuple)
def mLst (mr : M (List RV)) : M RV := bnd mr (dspD .list)
theorem dspD_end {K : PySem.W.Frag} {mg : Str → Option Value} {Hs H : Hp} {ρ : Rho} {σ : L2.St} {f : List PyData → PyData} {rs : List RV} {vs : List V} {Q : V → Hp → Prop} (rp : Rep K T Hs ρ σ H) (h : aA K Hs σ rs vs) (p : Post K T mg W (kE K) ρ σ Hs H (dspD f rs ρ) Q) :
    ∃ ds, DpAll K Hs vs ds ∧ vs.length ≤ sizeLine ∧ OpEnd K Hs H (f ds) Q := by
  unfold dspD at p
  cases e : dats rs with
  | none => rw [e] at p; exact p.elim
  | some ds =>
    rw [e] at p
    dsimp only at p
    by_cases hl : ds.length ≤ sizeLine
    · rw [if_pos hl] at p
      have q := dats_all h e
      refine ⟨ds, q, by rw [dpAll_len q]; exact hl, fun w H' Hs' ex q => ?_⟩
      obtain ⟨r2, g2⟩ := ex.rep rp
      exact p w H' Hs' r2 g2 q fun _ z => z.elim
    · rw [if_neg hl] at p; exact p.elim
theorem sim_tup {x1} (h : SimA T X W es mr) : SimE T X W (.Tuple es x1 pos) (mTup mr) :=
  pe_imp (pe_tup h) fun σ H Q q => tM_bnd q fun rs ρ1 vs H1 Hs1 rp1 _ ra p => by
    obtain ⟨ds, h1, h2, h3⟩ := dspD_end rp1 ra p
    exact ⟨h2, fun l hl => h3.tup rp1.sub hl h1⟩
theorem sim_lst (h : SimA T X W es mr) : SimE T X W (.List es pos) (mLst mr) :=
  pe_imp (pe_lst h) fun σ H Q q => tM_bnd q fun rs ρ1 vs H1 Hs1 rp1 _ ra p => by
    obtain ⟨ds, h1, h2, h3⟩ := dspD_end rp1 ra p
    exact ⟨h2, fun l hl => h3.lst rp1.sub hl h1⟩
/-- [..], the def's own -/
def ownL (rs : List RV) : M SV := fun ρ => match dats rs with
  | some ds => if ds.length ≤ sizeLine then .ok (.ol ds) ρ else .bad
  | none => .bad
def mLstO (mr : M (List RV)) : M SV := bnd mr ownL
theorem own_new {K : PySem.W.Frag} {mg : Str → Option Value} {Hs H : Hp} {ρ : Rho} {σ : L2.St} {s : SV} {p : Addr} {o : HO} {Q : V → Hp → Prop} (rp : Rep K T Hs ρ σ H) (hp : H p = none) (hs : SRep K T Hs (upd H p o) s (some (.ref p))) (n : ∀ a, OwnAt (upd H p o) s (some (.ref p)) a → a = p)
    (h : Post K T mg W (kO K T) ρ σ Hs H (.ok s ρ) Q) : Q (.ref p) (upd H p o) := by
  refine h _ _ Hs (rp.beside hp) (Grow.beside rp hp) ⟨hs, fun a ha ow => ?_⟩ fun a ha => ?_
  · obtain ⟨i, ow⟩ := ow
    obtain ⟨⟨u, hu, _⟩, _⟩ := rp.owned ⟨i, (rp.own_upd hp i a).mp ow⟩
    rw [n a ha, hp] at hu; cases hu
  · have e := n a ha
    subst e
    exact fre_none hp
theorem ownAt_l {H : Hp} {xs : List PyData} {p a : Addr} (h : OwnAt H (.ol xs) (some (.ref p)) a) : a = p := by
  have h' : some (V.ref p) = some (.ref a) := h
  cases h'; rfl
theorem ownAt_d {H : Hp} {xs : List (Key × PyData)} {p a : Addr} (h : OwnAt H (.od xs) (some (.ref p)) a) : a = p := by
  have h' : some (V.ref p) = some (.ref a) := h
  cases h'; rfl
theorem own_newL {K : PySem.W.Frag} {mg : Str → Option Value} {Hs H : Hp} {ρ : Rho} {σ : L2.St} {ds : List PyData} {vs : List V} {p : Addr} {Q : V → Hp → Prop} (rp : Rep K T Hs ρ σ H) (hp : H p = none) (hd : DpAll K Hs vs ds)
    (h : Post K T mg W (kO K T) ρ σ Hs H (.ok (.ol ds) ρ) Q) : Q (.ref p) (upd H p (.lst vs)) :=
  own_new (s := .ol ds) rp hp ⟨p, vs, rfl, upd_same, hd, none_of_same rp.sub hp⟩ (fun a => ownAt_l) h
theorem so_lst (h : SimA T X W es mr) : SimO T X W (.List es pos) (mLstO mr) :=
  pe_imp (pe_lst h) fun σ H Q q => tM_bnd q fun rs ρ1 vs H1 Hs1 rp1 _ ra p => by
    unfold ownL at p
    cases e : dats rs with
    | none => rw [e] at p; exact p.elim
    | some ds =>
      rw [e] at p
      dsimp only at p
      by_cases hl : ds.length ≤ sizeLine
      · rw [if_pos hl] at p
        have q := dats_all ra e
        exact ⟨by rw [dpAll_len q]; exact hl, fun l hl => own_newL rp1 hl q p⟩
      · rw [if_neg hl] at p; exact p.elim
/-- list(e), the def's own -/
def ownOf (rs : List RV) : M SV := fun ρ => match datas ρ rs with
  | some [.list ds] => .ok (.ol ds) ρ
  | some [.tuple ds] => .ok (.ol ds) ρ
  | _ => .bad
def mListO (mr : M (List RV)) : M SV := bnd mr ownOf
theorem so_list (h : SimA T X W es mr) (hp : PA X es (tM X.K T X.mg W (kA X.K) mr) → PE X e (tCB (fun xs H Q => ∃ p ys, xs = [.ref p] ∧ (SqL X.K H p ys ∨ SqT X.K H p ys) ∧ ∀ l, H l = none → Q (.ref l) (upd H l (.lst ys))) (tM X.K T X.mg W (kA X.K) mr))) : SimO T X W e (mListO mr) :=
  pe_imp (hp h) fun σ H Q q => tM_bnd q fun rs ρ1 vs H1 Hs1 rp1 _ ra p => by
    unfold ownOf at p
    cases e : datas ρ1 rs with
    | none => rw [e] at p; exact p.elim
    | some ds =>
      rw [e] at p
      have bs := breps_of rp1 ra e
      split at p
      · rename_i q; cases q
        obtain ⟨v, rfl, h⟩ := bs.one
        obtain ⟨q, us, rfl, h1, h2⟩ := h.list rp1.sub
        exact ⟨q, us, rfl, .inl h1, fun l hl => own_newL rp1 hl h2 p⟩
      · rename_i q; cases q
        obtain ⟨v, rfl, h⟩ := bs.one
        obtain ⟨q, us, rfl, h1, h2, _⟩ := h.tup rp1.sub
        exact ⟨q, us, rfl, .inr h1, fun l hl => own_newL rp1 hl h2 p⟩
      · exact p.elim
/-- a list of the def's own becomes data -/
def mFrz (i : Nat) : M RV := fun ρ => match ρ[i]? with
  | some (.ol xs) => .ok (.dat (.list xs)) (ρ.set i (.d (.list xs)))
  | some (.d x) => .ok (.dat x) ρ
  | _ => .bad
theorem set_at_self {σ : L2.St} {i : Nat} {v : V} (h : at? σ i = some v) : σ.set i (some v) = σ := by
  have h' := at_some h
  apply List.ext_getElem?
  intro j
  by_cases hj : i = j
  · subst hj
    rw [List.getElem?_set_self (List.getElem?_eq_some_iff.mp h').1, h']
  · rw [List.getElem?_set_ne hj]
theorem sim_frz {i : Nat} (h : PE X e (tVar i)) : SimE T X W e (mFrz i) := pe_imp h fun σ H Q ⟨ρ, Hs, rp, p⟩ => by
  unfold mFrz at p
  cases e : ρ[i]? with
  | none => rw [e] at p; exact p.elim
  | some s =>
    rw [e] at p
    have r := rp.at_ i s e
    cases s with
    | un => exact p.elim
    | d x =>
      obtain ⟨y, e1, h1⟩ := r
      exact ⟨y, at_some e1, post_okE p rp h1⟩
    | od xs => exact p.elim
    | oo c fs => exact p.elim
    | ol xs =>
      obtain ⟨q, vs, e1, h1, h2, h3⟩ := r
      refine ⟨_, at_some e1, ?_⟩
      have hl : i < ρ.length := (List.getElem?_eq_some_iff.mp e).1
      have sh : Same Hs (upd Hs q (.lst vs)) := same_upd h3
      have sub : Same (upd Hs q (.lst vs)) H := fun a o z => by
        by_cases hb : a = q
        · subst hb; rw [upd_same] at z; cases z; exact h1
        · rw [upd_ne hb] at z; exact rp.sub a o z
      have dq : Dp X.K (upd Hs q (.lst vs)) (.ref q) (.list xs) := .lst (SqL.of upd_same) (dpAll_mono sh h2)
      have rp' : Rep X.K T (upd Hs q (.lst vs)) (ρ.set i (.d (.list xs))) σ H := by
        refine ⟨sub, ntb_upd rp.ntb (fun _ z => nomatch z), by simpa using rp.len, fun j t ej => ?_, fun j k a t u e2 e3 o2 o3 => ?_, rp.tab⟩
        · by_cases hj : i = j
          · subst hj
            rw [List.getElem?_set_self hl] at ej; cases ej
            exact ⟨_, e1, dq⟩
          · rw [List.getElem?_set_ne hj] at ej
            refine (rp.at_ j t ej).move sh fun a oa => ⟨rfl, ?_⟩
            have ne : a ≠ q := fun z => by
              subst z
              exact hj (rp.dis i j a _ _ e ej e1 oa)
            rw [upd_ne ne]
            exact ((rp.at_ j t ej).owned oa).2
        · have back : ∀ {j : Nat} {v : SV}, (ρ.set i (.d (.list xs)))[j]? = some v → OwnAt H v (at? σ j) a → ρ[j]? = some v := fun {j v} ej oj => by
            by_cases hj : i = j
            · subst hj
              rw [List.getElem?_set_self hl] at ej; cases ej
              exact False.elim oj
            · rw [List.getElem?_set_ne hj] at ej
              exact ej
          exact rp.dis j k a t u (back e2 o2) (back e3 o3) o2 o3
      have g : Grow ρ σ Hs H (ρ.set i (.d (.list xs))) σ (upd Hs q (.lst vs)) H := by
        refine ⟨fun _ _ z _ _ => z, fun _ z => z, sh, fun a z => ?_, fun j a z => .inl ?_⟩
        · by_cases hb : a = q
          · subst hb; exact .inr (.inr ⟨i, _, e, e1⟩)
          · rw [upd_ne hb] at z; exact .inl z
        · obtain ⟨t, et, ot⟩ := z
          by_cases hj : i = j
          · subst hj
            rw [List.getElem?_set_self hl] at et; cases et
            exact False.elim ot
          · rw [List.getElem?_set_ne hj] at et
            exact ⟨t, et, ot⟩
      exact p _ _ _ rp' g dq fun _ z => z.elim
/-! chains -/
def mChain (f g : PyData → PyData → Option PyData) (ma mb mc : M RV) : M RV := bnd ma fun a => bnd mb fun b => bnd (opD f a b) fun r => bnd (asB r) fun k => if k = true then bnd mc fun c => opD g b c else ret (.dat (.bool false))
/-- the first answer of a chain is a bool, and the heap is as it was -/
def Bool2 (K : PySem.W.Frag) (f : PyData → PyData → Option PyData) (r : R2) : Prop := ∀ Hs H v u x y k (Q : VK), Same Hs H → BRep K Hs H v x → BRep K Hs H u y → f x y = some (.bool k) → Q (.bl k) H → r v u H Q
theorem rf_chain {f g : PyData → PyData → Option PyData} {r r' : R2} (h1 : Bool2 X.K f r) (h2 : Op2 X.K g r') : Rf T X W (mChain f g ma mb mc) (tChain r r' (tM X.K T X.mg W (kE X.K) ma) (tM X.K T X.mg W (kE X.K) mb) (tM X.K T X.mg W (kE X.K) mc)) :=
  fun σ H Q q => tM_bnd q fun a ρ1 v H1 Hs1 rp1 _ ra p => ⟨ρ1, Hs1, rp1, Post.bnd (r := mb ρ1) p fun b ρ2 u H2 Hs2 rp2 g2 rb p2 => by
    have ra2 := rv_grow ra g2
    unfold DS.bnd opD at p2
    cases ea : a.data ρ2 with
    | none => rw [ea] at p2; exact p2.elim
    | some x =>
      cases eb : b.data ρ2 with
      | none => rw [ea, eb] at p2; exact p2.elim
      | some y =>
        rw [ea, eb] at p2
        dsimp only at p2
        cases ef : f x y with
        | none => rw [ef] at p2; exact p2.elim
        | some z =>
          rw [ef] at p2
          dsimp only [R.bnd_ok] at p2
          cases z with
          | bool k =>
            refine h1 Hs2 H2 v u x y k _ rp2.sub (brep_of rp2 ra2 ea) (brep_of rp2 rb eb) ef ⟨k, rfl, ?_⟩
            cases k with
            | false =>
              show Q (.bl false) H2
              exact post_okE p2 rp2 (.bl false)
            | true =>
              refine ⟨ρ2, Hs2, rp2, Post.bnd (r := mc ρ2) (f := fun c => opD g b c) p2 fun c ρ3 w H3 Hs3 rp3 g3 rc p3 => ?_⟩
              obtain ⟨y', z', w', hx, hy, hf, he⟩ := opD_end rp3 (rv_grow rb g3) rc p3
              exact h2 Hs3 H3 u w y' z' w' Q rp3.sub hx hy hf he
          | none => exact p2.elim
          | int _ => exact p2.elim
          | str _ => exact p2.elim
          | list _ => exact p2.elim
          | tuple _ => exact p2.elim
          | dict _ => exact p2.elim⟩
theorem sim_chain {f g : PyData → PyData → Option PyData} {r r' : R2} (h1 : Bool2 X.K f r) (h2 : Op2 X.K g r') (ha : SimE T X W a ma) (hb : SimE T X W b mb) (hc : SimE T X W c mc)
    (hp : PE X a (tM X.K T X.mg W (kE X.K) ma) → PE X b (tM X.K T X.mg W (kE X.K) mb) → PE X c (tM X.K T X.mg W (kE X.K) mc) → PE X e (tChain r r' (tM X.K T X.mg W (kE X.K) ma) (tM X.K T X.mg W (kE X.K) mb) (tM X.K T X.mg W (kE X.K) mc))) : SimE T X W e (mChain f g ma mb mc) :=
  pe_imp (hp ha hb hc) (rf_chain h1 h2)
theorem st_chain {f g : PyData → PyData → Option PyData} {r r' : R2} (h1 : Bool2 X.K f r) (h2 : Op2 X.K g r') (ha : SimE T X W a ma) (hb : SimE T X W b mb) (hc : SimE T X W c mc)
    (hp : PE X a (tM X.K T X.mg W (kE X.K) ma) → PE X b (tM X.K T X.mg W (kE X.K) mb) → PE X c (tM X.K T X.mg W (kE X.K) mc) → PT X e (tTest (tChain r r' (tM X.K T X.mg W (kE X.K) ma) (tM X.K T X.mg W (kE X.K) mb) (tM X.K T X.mg W (kE X.K) mc)))) : SimT T X W e (mT (mChain f g ma mb mc)) :=
  st_of (hp ha hb hc) (rf_chain h1 h2)
theorem b_le {K : PySem.W.Frag} : Bool2 K dLe (rI0 fun i j => .bl (decide (i ≤ j))) := fun Hs H v u x y k Q s hv hu e q => by
  unfold dLe at e
  split at e
  · cases e; exact ⟨_, _, hv.int, hu.int, q⟩
  · cases e
theorem b_lt {K : PySem.W.Frag} : Bool2 K dLt (rI0 fun i j => .bl (decide (i < j))) := fun Hs H v u x y k Q s hv hu e q => by
  unfold dLt at e
  split at e
  · cases e; exact ⟨_, _, hv.int, hu.int, q⟩
  · cases e
theorem b_gt {K : PySem.W.Frag} : Bool2 K dGt (rI0 fun i j => .bl (decide (j < i))) := fun Hs H v u x y k Q s hv hu e q => by
  unfold dGt at e
  split at e
  · cases e; exact ⟨_, _, hv.int, hu.int, q⟩
  · cases e
end
end DS
end
section
set_option Elab.async false
set_option linter.all false
set_option maxRecDepth 100000
set_option maxHeartbeats 4000000
/-! DsF: statements -/
namespace DS
open PySem PySem.Spec PyProof.Rows L2
def RORep (K : PySem.W.Frag) (T : Tbs) (Hs H : Hp) (ρ : Rho) (σ : L2.St) (r : RO) (v : V) : Prop := match r with
  | .dat x => Dp K Hs v x
  | .new s => SRep K T Hs H s (some v) ∧ ∀ a, OwnAt H s (some v) a → ¬ Own H ρ σ a
def RONew (H : Hp) (r : RO) (v : V) (a : Addr) : Prop := match r with
  | .dat _ => False
  | .new s => OwnAt H s (some v) a
/-- slots that no statement stores to -/
def Kp (pr : List Nat) (σ σ' : L2.St) : Prop := ∀ i, i ∈ pr → at? σ' i = at? σ i
theorem Kp.refl {pr : List Nat} {σ : L2.St} : Kp pr σ σ := fun _ _ => rfl
theorem Kp.trans {pr : List Nat} {σ σ1 σ2 : L2.St} (a : Kp pr σ σ1) (b : Kp pr σ1 σ2) : Kp pr σ σ2 := fun i h => (b i h).trans (a i h)
theorem Kp.set {pr : List Nat} {σ : L2.St} {i : Nat} {v : Option V} (h : i ∉ pr) : Kp pr σ (σ.set i v) := fun j hj => at_set_ne (fun z => h (z ▸ hj))
/-- the first slot that is no parameter's; the parameters whose objects are the caller's own -/
structure Sg where
  np : Nat
  pr : List Nat
section
variable (K : PySem.W.Frag) (T : Tbs) (mg : Str → Option Value) (g : Sg) (W : WX)
def PostS (D : Ends) (ρ : Rho) (σ : L2.St) (Hs H : Hp) (r : R Fl) : Prop := match r with
  | .ok .nx ρ' => ∀ σ' H' Hs', Rep K T Hs' ρ' σ' H' → Grow ρ σ Hs H ρ' σ' Hs' H' → Kp g.pr σ σ' → D.nx σ' H'
  | .ok .brk ρ' => ∀ σ' H' Hs', Rep K T Hs' ρ' σ' H' → Grow ρ σ Hs H ρ' σ' Hs' H' → Kp g.pr σ σ' → D.bk σ' H'
  | .ok .ct ρ' => ∀ σ' H' Hs', Rep K T Hs' ρ' σ' H' → Grow ρ σ Hs H ρ' σ' Hs' H' → Kp g.pr σ σ' → D.ct σ' H'
  | .ok (.ret ro) ρ' => ∀ v σ' H' Hs', Rep K T Hs' ρ' σ' H' → Grow ρ σ Hs H ρ' σ' Hs' H' → Kp g.pr σ σ' → RORep K T Hs' H' ρ' σ' ro v → (∀ a, RONew H' ro v a → Fre H a ∨ ∃ i, g.np ≤ i ∧ OwnI H ρ σ i a) → D.rt v H'
  | .er e ρ' => ∀ cls dd σ' H' Hs', Rep K T Hs' ρ' σ' H' → Grow ρ σ Hs H ρ' σ' Hs' H' → Kp g.pr σ σ' → ERep K mg Hs' H' e cls dd → W cls dd σ' H'
  | .bad => False
def tS (m : M Fl) : TS := fun D σ H => ∃ ρ Hs, Rep K T Hs ρ σ H ∧ PostS K T mg g W D ρ σ Hs H (m ρ)
end
def SimS (T : Tbs) (g : Sg) (X : Cx) (W : WX) (st : Stmt) (m : M Fl) : Prop := PS X st (tS X.K T X.mg g W m)
def SimB (T : Tbs) (g : Sg) (X : Cx) (W : WX) (st : List Stmt) (m : M Fl) : Prop := PSs X st (tS X.K T X.mg g W m)
section
variable {K : PySem.W.Frag} {T : Tbs} {mg : Str → Option Value} {g : Sg} {W : WX} {D : Ends} {Hs H Hs' H' : Hp} {ρ ρ' : Rho} {σ σ' : L2.St} {α β : Type} {k : Kd α β}
theorem PostS.shift {r : R Fl} (h : PostS K T mg g W D ρ σ Hs H r) (gr : Grow ρ σ Hs H ρ' σ' Hs' H') (kp : Kp g.pr σ σ') : PostS K T mg g W D ρ' σ' Hs' H' r := by
  cases r with
  | bad => exact h
  | er e ρ1 => exact fun cls dd s1 H1 Hs1 a b c d => h cls dd s1 H1 Hs1 a (gr.trans b) (kp.trans c) d
  | ok f ρ1 =>
    cases f with
    | nx => exact fun s1 H1 Hs1 a b c => h s1 H1 Hs1 a (gr.trans b) (kp.trans c)
    | brk => exact fun s1 H1 Hs1 a b c => h s1 H1 Hs1 a (gr.trans b) (kp.trans c)
    | ct => exact fun s1 H1 Hs1 a b c => h s1 H1 Hs1 a (gr.trans b) (kp.trans c)
    | ret ro =>
      refine fun v s1 H1 Hs1 a b c d n => h v s1 H1 Hs1 a (gr.trans b) (kp.trans c) d fun x hx => ?_
      rcases n x hx with z | ⟨i, hi, z⟩
      · exact .inl (gr.dm x z)
      · rcases gr.ow i x z with q | q
        · exact .inr ⟨i, hi, q⟩
        · exact .inl q
/-- an expression, then the rest of the statement -/
theorem PostS.bnd {r : R α} {f : α → M Fl} {Q' : β → Hp → Prop} (h : PostS K T mg g W D ρ σ Hs H (r.bnd f))
    (w : ∀ a ρ1 v H1 Hs1, Rep K T Hs1 ρ1 σ H1 → Grow ρ σ Hs H ρ1 σ Hs1 H1 → k.A Hs1 H1 ρ1 σ a v → (∀ c, k.N H1 a v c → Fre H c) → PostS K T mg g W D ρ1 σ Hs1 H1 (f a ρ1) → Q' v H1) : Post K T mg W k ρ σ Hs H r Q' := by
  cases r with
  | ok a ρ1 => exact fun v H1 Hs1 rp gr q n => w a ρ1 v H1 Hs1 rp gr q n (PostS.shift (r := f a ρ1) h gr Kp.refl)
  | er e ρ1 => exact fun cls dd H1 Hs1 a b c => h cls dd σ H1 Hs1 a b Kp.refl c
  | bad => exact h
theorem tS_bnd {m : M α} {f : α → M Fl} {Q' : β → Hp → Prop} (h : tS K T mg g W (bnd m f) D σ H)
    (w : ∀ a ρ1 v H1 Hs1, Rep K T Hs1 ρ1 σ H1 → (∀ c, k.N H1 a v c → Fre H c) → k.A Hs1 H1 ρ1 σ a v → PostS K T mg g W D ρ1 σ Hs1 H1 (f a ρ1) → Q' v H1) : tM K T mg W k m σ H Q' := by
  obtain ⟨ρ, Hs, rp, p⟩ := h
  exact ⟨ρ, Hs, rp, PostS.bnd (r := m ρ) p fun a ρ1 v H1 Hs1 rp1 _ q n => w a ρ1 v H1 Hs1 rp1 n q⟩
end
section
variable {T : Tbs} {g : Sg} {X : Cx} {W : WX} {e a b c : Expr} {ma mb mc : M RV} {es rest : List Expr} {mr : M (List RV)} {mt : M Bool} {pos : Pos} {st : Stmt} {sts rest2 : List Stmt} {m1 m2 : M Fl}
def mNx : M Fl := ret .nx
def mBrk : M Fl := ret .brk
def mCt : M Fl := ret .ct
theorem sb_nil : SimB T g X W [] mNx := pss_imp pss_nil fun D σ H ⟨ρ, Hs, rp, p⟩ => p σ H Hs rp Grow.refl Kp.refl
theorem ss_pass : SimS T g X W (.Pass pos) mNx := ps_imp ps_pass fun D σ H ⟨ρ, Hs, rp, p⟩ => p σ H Hs rp Grow.refl Kp.refl
theorem ss_break : SimS T g X W (.Break pos) mBrk := ps_imp ps_break fun D σ H ⟨ρ, Hs, rp, p⟩ => p σ H Hs rp Grow.refl Kp.refl
theorem ss_cont : SimS T g X W (.Continue pos) mCt := ps_imp ps_continue fun D σ H ⟨ρ, Hs, rp, p⟩ => p σ H Hs rp Grow.refl Kp.refl
def sq (f : Fl) (m : M Fl) : M Fl := match f with
  | .nx => m
  | f => ret f
def mSeq (m1 m2 : M Fl) : M Fl := bnd m1 fun f => sq f m2
theorem sb_cons (h1 : SimS T g X W st m1) (h2 : SimB T g X W sts m2) : SimB T g X W (st :: sts) (mSeq m1 m2) :=
  pss_imp (pss_cons h1 h2) fun D σ H ⟨ρ, Hs, rp, p⟩ => by
    refine ⟨ρ, Hs, rp, ?_⟩
    unfold mSeq DS.bnd at p
    cases e1 : m1 ρ with
    | bad => rw [e1] at p; exact p
    | er e ρ1 => rw [e1] at p; exact p
    | ok f ρ1 =>
      rw [e1] at p
      cases f with
      | nx =>
        have p : PostS X.K T X.mg g W D ρ σ Hs H (m2 ρ1) := p
        exact fun σ1 H1 Hs1 rp1 gr kp => ⟨ρ1, Hs1, rp1, p.shift gr kp⟩
      | brk => exact p
      | ct => exact p
      | ret ro => exact p
theorem sb_one (h1 : SimS T g X W st m1) : SimB T g X W [st] m1 := pss_one h1
/-! stores -/
def keepD (r : RV) (i : Nat) : M Fl := fun ρ => match r with
  | .dat x => .ok .nx (ρ.set i (.d x))
  | .slot _ => .bad
def mSet (i : Nat) (ma : M RV) : M Fl := bnd ma fun a => keepD a i
theorem keepD_end {K : PySem.W.Frag} {mg : Str → Option Value} {D : Ends} {Hs H : Hp} {ρ : Rho} {σ : L2.St} {r : RV} {v : V} {i : Nat} (rp : Rep K T Hs ρ σ H) (h : RVRep K Hs σ r v) (hi : i ∉ g.pr) (p : PostS K T mg g W D ρ σ Hs H (keepD r i ρ)) : D.nx (σ.set i (some v)) H := by
  cases r with
  | slot j => exact p.elim
  | dat x => exact p _ H Hs (rp.setD h) Grow.setD (Kp.set hi)
theorem ss_set {i : Nat} (ha : SimE T X W e ma) (hi : i ∉ g.pr) (h : PE X e (tM X.K T X.mg W (kE X.K) ma) → PS X st (tAsg (tM X.K T X.mg W (kE X.K) ma) (gName i))) : SimS T g X W st (mSet i ma) :=
  ps_imp (h ha) fun D σ H q => tS_bnd q fun a ρ1 v H1 Hs1 rp1 _ ra p => keepD_end rp1 ra hi p
def mSetO (i : Nat) (mo : M SV) : M Fl := bnd mo fun s => fun ρ => .ok .nx (ρ.set i s)
theorem grow_setO {ρ : Rho} {σ : L2.St} {Hs H Hs1 H1 : Hp} {ρ1 : Rho} {i : Nat} {s : SV} {v : V} (gr : Grow ρ σ Hs H ρ1 σ Hs1 H1) (n : ∀ a, OwnAt H1 s (some v) a → Fre H a) : Grow ρ σ Hs H (ρ1.set i s) (σ.set i (some v)) Hs1 H1 where
  fr := gr.fr
  dm := gr.dm
  sh := gr.sh
  nw := gr.nw
  ow := fun j a o => (own_set o).elim (fun ⟨_, z⟩ => .inr (n a z)) (gr.ow j a)
theorem ss_setO {i : Nat} {mo : M SV} (ha : SimO T X W e mo) (hi : i ∉ g.pr) (h : PE X e (tM X.K T X.mg W (kO X.K T) mo) → PS X st (tAsg (tM X.K T X.mg W (kO X.K T) mo) (gName i))) : SimS T g X W st (mSetO i mo) :=
  ps_imp (h ha) fun D σ H ⟨ρ, Hs, rp, p⟩ => ⟨ρ, Hs, rp, by
    unfold mSetO DS.bnd at p
    cases e1 : mo ρ with
    | bad => rw [e1] at p; exact p
    | er e ρ1 => rw [e1] at p; exact fun cls dd H1 Hs1 a b c => p cls dd σ H1 Hs1 a b Kp.refl c
    | ok s ρ1 =>
      rw [e1] at p
      intro v H1 Hs1 rp1 gr ⟨q1, q2⟩ n
      exact p _ H1 Hs1 (rp1.set q1 q2) (grow_setO gr n) (Kp.set hi)⟩
/-- x op= e of data -/
def aug2 (f : PyData → PyData → Option PyData) (x : PyData) (i : Nat) (r : RV) : M Fl := fun ρ => match r.data ρ with
  | some y => match f x y with
    | some z => .ok .nx (ρ.set i (.d z))
    | none => .bad
  | none => .bad
def mAug (f : PyData → PyData → Option PyData) (i : Nat) (ma : M RV) : M Fl := fun ρ => match ρ[i]? with
  | some (.d x) => (bnd ma fun a => aug2 f x i a) ρ
  | _ => .bad
theorem ss_aug {i : Nat} {f : PyData → PyData → Option PyData} {ti : TIp} (ho : Op2 X.K f ti) (ha : SimE T X W e ma) (hi : i ∉ g.pr)
    (h : PE X e (tM X.K T X.mg W (kE X.K) ma) → PS X st (tAug i (tM X.K T X.mg W (kE X.K) ma) ti)) : SimS T g X W st (mAug f i ma) :=
  ps_imp (h ha) fun D σ H ⟨ρ, Hs, rp, p⟩ => by
    unfold mAug at p
    cases e : ρ[i]? with
    | none => rw [e] at p; exact p.elim
    | some s =>
      rw [e] at p
      cases s with
      | un => exact p.elim
      | ol _ => exact p.elim
      | od _ => exact p.elim
      | oo _ _ => exact p.elim
      | d x =>
        obtain ⟨w, e1, h1⟩ := rp.at_ i _ e
        refine ⟨w, at_some e1, ρ, Hs, rp, PostS.bnd (r := ma ρ) (f := fun a => aug2 f x i a) p fun r ρ1 v H1 Hs1 rp1 gr ra _ p1 => ?_⟩
        unfold aug2 at p1
        cases er : r.data ρ1 with
        | none => rw [er] at p1; exact p1.elim
        | some y =>
          rw [er] at p1
          dsimp only at p1
          cases ef : f x y with
          | none => rw [ef] at p1; exact p1.elim
          | some z =>
            rw [ef] at p1
            refine ho Hs1 H1 w v x y z _ rp1.sub (.inl (dp_mono gr.sh h1)) (brep_of rp1 ra er) ef fun u H2 Hs2 ex q => ?_
            obtain ⟨rp2, g2⟩ := ex.rep rp1
            exact p1 _ H2 Hs2 (rp2.setD q) (g2.trans Grow.setD) (Kp.set hi)
/-- an expression whose value is dropped -/
def mDrop (ma : M RV) : M Fl := bnd ma fun _ => mNx
theorem ss_drop (ha : SimE T X W e ma) (h : PE X e (tM X.K T X.mg W (kE X.K) ma) → PS X st (tDrop (tM X.K T X.mg W (kE X.K) ma))) : SimS T g X W st (mDrop ma) :=
  ps_imp (h ha) fun D σ H q => tS_bnd q fun a ρ1 v H1 Hs1 rp1 _ _ p => p σ H1 Hs1 rp1 Grow.refl Kp.refl
/-! return -/
def mRet (ma : M RV) : M Fl := bnd ma fun a ρ => match a with
  | .dat x => .ok (.ret (.dat x)) ρ
  | .slot i => match ρ[i]? with
    | some s => if g.np ≤ i then .ok (.ret (.new s)) (ρ.set i .un) else .bad
    | none => .bad
theorem ss_ret (ha : SimE T X W e ma) : SimS T g X W (.Return (some e) pos) (mRet (g := g) ma) :=
  ps_imp (ps_ret ha) fun D σ H q => tS_bnd q fun a ρ1 v H1 Hs1 rp1 _ ra p => by
    cases a with
    | dat x => exact p v σ H1 Hs1 rp1 Grow.refl Kp.refl ra fun _ z => z.elim
    | slot i =>
      dsimp only at p
      cases e1 : ρ1[i]? with
      | none => rw [e1] at p; exact p.elim
      | some s =>
        rw [e1] at p
        dsimp only at p
        by_cases hi : g.np ≤ i
        · rw [if_pos hi] at p
          have hl : i < ρ1.length := (List.getElem?_eq_some_iff.mp e1).1
          have ra : at? σ i = some v := ra
          have self : σ.set i (some v) = σ := set_at_self ra
          have rp2 : Rep X.K T Hs1 (ρ1.set i .un) σ H1 := by
            have q := rp1.set (i := i) (s := .un) (v := some v) trivial fun _ z => z.elim
            rw [self] at q; exact q
          have gr : Grow ρ1 σ Hs1 H1 (ρ1.set i .un) σ Hs1 H1 := by
            have q := Grow.set (ρ := ρ1) (σ := σ) (Hs := Hs1) (H := H1) (i := i) (s := .un) (v := some v) fun _ z => z.elim
            rw [self] at q; exact q
          have r1 := rp1.at_ i s e1
          rw [ra] at r1
          refine p v σ H1 Hs1 rp2 gr Kp.refl ⟨r1, fun a oa ow => ?_⟩ fun a oa => .inr ⟨i, hi, s, e1, by rw [ra]; exact oa⟩
          obtain ⟨j, t, ej, oj⟩ := ow
          by_cases hj : i = j
          · subst hj
            rw [List.getElem?_set_self hl] at ej; cases ej
            exact oj
          · rw [List.getElem?_set_ne hj] at ej
            exact hj (rp1.dis i j a s t e1 ej (by rw [ra]; exact oa) oj)
        · rw [if_neg hi] at p; exact p.elim
def mRetO (mo : M SV) : M Fl := bnd mo fun s => ret (.ret (.new s))
theorem ss_retO {mo : M SV} (ha : SimO T X W e mo) : SimS T g X W (.Return (some e) pos) (mRetO mo) :=
  ps_imp (ps_ret ha) fun D σ H ⟨ρ, Hs, rp, p⟩ => ⟨ρ, Hs, rp, by
    unfold mRetO DS.bnd at p
    cases e1 : mo ρ with
    | bad => rw [e1] at p; exact p
    | er e ρ1 => rw [e1] at p; exact fun cls dd H1 Hs1 a b c => p cls dd σ H1 Hs1 a b Kp.refl c
    | ok s ρ1 =>
      rw [e1] at p
      exact fun v H1 Hs1 rp1 gr q n => p v σ H1 Hs1 rp1 gr Kp.refl q fun a oa => .inl (n a oa)⟩
def mRetN : M Fl := ret (.ret (.dat .none))
theorem ss_retN : SimS T g X W (.Return none pos) mRetN := ps_imp ps_retN fun D σ H ⟨ρ, Hs, rp, p⟩ => p .non σ H Hs rp Grow.refl Kp.refl .non fun _ z => z.elim
/-! if -/
def mIte (mt : M Bool) (m1 m2 : M Fl) : M Fl := bnd mt fun b => if b = true then m1 else m2
theorem ss_if (h : SimT T X W c mt) (h1 : SimB T g X W sts m1) (h2 : SimB T g X W rest2 m2) : SimS T g X W (.If c sts rest2 pos) (mIte mt m1 m2) :=
  ps_imp (ps_if h h1 h2) fun D σ H q => tS_bnd q fun x ρ1 v H1 Hs1 rp1 _ rb p => by
    cases rb
    cases x with
    | true => exact ⟨ρ1, Hs1, rp1, p⟩
    | false => exact ⟨ρ1, Hs1, rp1, p⟩
/-! while, by so many turns at most -/
def wh (mt : M Bool) (mb : M Fl) : Nat → M Fl
  | 0 => bad
  | n + 1 => bnd mt fun b => if b = true then (bnd mb fun f => match f with
    | .nx => wh mt mb n
    | .ct => wh mt mb n
    | .brk => ret .nx
    | .ret r => ret (.ret r)) else ret .nx
def mWhile (fuel : Rho → Nat) (mt : M Bool) (mb : M Fl) : M Fl := fun ρ => wh mt mb (fuel ρ) ρ
theorem ss_while {fuel : Rho → Nat} {mb : M Fl} (h : SimT T X W c mt) (hb : SimB T g X W sts mb) (hp : PassesOwn (model X.prog X.w) X.A X.env X.xe) : SimS T g X W (.While c sts [] pos) (mWhile fuel mt mb) :=
  ps_imp (ps_while hp h hb) fun D σ H ⟨ρ, Hs, rp, p⟩ => by
    refine ⟨fun n σ1 H1 => ∃ ρ1 Hs1, Rep X.K T Hs1 ρ1 σ1 H1 ∧ PostS X.K T X.mg g W D ρ1 σ1 Hs1 H1 (wh mt mb n ρ1), ⟨fuel ρ, ρ, Hs, rp, p⟩, ?_⟩
    rintro n σ1 H1 ⟨ρ1, Hs1, rp1, p1⟩
    cases n with
    | zero => exact p1.elim
    | succ n =>
      refine ⟨ρ1, Hs1, rp1, PostS.bnd (r := mt ρ1) (k := kB) p1 fun b ρ2 v H2 Hs2 rp2 _ rb _ p2 => ?_⟩
      cases rb
      cases b with
      | false => exact p2 σ1 H2 Hs2 rp2 Grow.refl Kp.refl
      | true =>
        refine ⟨fun σ3 H3 => ∃ ρ3 Hs3, Rep X.K T Hs3 ρ3 σ3 H3 ∧ PostS X.K T X.mg g W D ρ3 σ3 Hs3 H3 (wh mt mb n ρ3), fun σ3 H3 q => ⟨n, Nat.lt_succ_self n, q⟩, ρ2, Hs2, rp2, ?_⟩
        have p2 : PostS X.K T X.mg g W D ρ2 σ1 Hs2 H2 ((mb ρ2).bnd fun f => match f with
          | .nx => wh mt mb n
          | .ct => wh mt mb n
          | .brk => ret .nx
          | .ret r => ret (.ret r)) := p2
        cases e1 : mb ρ2 with
        | bad => rw [e1] at p2; exact p2.elim
        | er e ρ3 => rw [e1] at p2; exact p2
        | ok f ρ3 =>
          rw [e1] at p2
          cases f with
          | nx =>
            have p2 : PostS X.K T X.mg g W D ρ2 σ1 Hs2 H2 (wh mt mb n ρ3) := p2
            exact fun σ3 H3 Hs3 rp3 gr kp => ⟨ρ3, Hs3, rp3, p2.shift gr kp⟩
          | ct =>
            have p2 : PostS X.K T X.mg g W D ρ2 σ1 Hs2 H2 (wh mt mb n ρ3) := p2
            exact fun σ3 H3 Hs3 rp3 gr kp => ⟨ρ3, Hs3, rp3, p2.shift gr kp⟩
          | brk => exact p2
          | ret r => exact p2
/-! ### lists and dicts of the def's own, changed -/
/-- l.append(e) -/
def app2 (i : Nat) (r : RV) : M Fl := fun ρ => match ρ[i]?, r with
  | some (.ol xs), .dat y => if xs.length < sizeLine then .ok .nx (ρ.set i (.ol (xs ++ [y]))) else .bad
  | _, _ => .bad
def mApp (i : Nat) (ma : M RV) : M Fl := fun ρ => match ρ[i]? with
  | some (.ol _) => (bnd ma fun a => app2 i a) ρ
  | _ => .bad
theorem ss_app {i : Nat} (ha : SimE T X W e ma)
    (h : PE X e (tM X.K T X.mg W (kE X.K) ma) → PS X st (tDrop (tBM X.K "list" rAppend (tVar i) (tCons (tM X.K T X.mg W (kE X.K) ma) tNil)))) : SimS T g X W st (mApp i ma) :=
  ps_imp (h ha) fun D σ H ⟨ρ, Hs, rp, p⟩ => by
    unfold mApp at p
    cases e : ρ[i]? with
    | none => rw [e] at p; exact p.elim
    | some s =>
      rw [e] at p
      cases s with
      | un => exact p.elim
      | d _ => exact p.elim
      | od _ => exact p.elim
      | oo _ _ => exact p.elim
      | ol xs =>
        obtain ⟨l, vs, e1, h1, h2, h3⟩ := rp.at_ i _ e
        refine ⟨_, at_some e1, .inl ⟨rfl, vs, SqL.of h1⟩, ρ, Hs, rp, PostS.bnd (r := ma ρ) (f := fun a => app2 i a) p fun r ρ1 v H1 Hs1 rp1 gr ra _ p1 => ?_⟩
        unfold app2 at p1
        cases ei : ρ1[i]? with
        | none => rw [ei] at p1; exact p1.elim
        | some s1 =>
          rw [ei] at p1
          cases s1 with
          | un => exact p1.elim
          | d _ => exact p1.elim
          | od _ => exact p1.elim
          | oo _ _ => exact p1.elim
          | ol ys =>
            cases r with
            | slot j => exact p1.elim
            | dat y =>
              dsimp only at p1
              by_cases hz : ys.length < sizeLine
              · rw [if_pos hz] at p1
                obtain ⟨l', us, f1, f2, f3, f4⟩ := rp1.at_ i _ ei
                rw [e1] at f1; cases f1
                refine ⟨l, us, v, rfl, rfl, f2, by rw [dpAll_len f3]; exact hz, ?_⟩
                have hs : SRep X.K T Hs1 (upd H1 l (.lst (us ++ [v]))) (.ol (ys ++ [y])) (at? σ i) := ⟨l, _, e1, upd_same, dpAll_app f3 (.cons ra .nil), f4⟩
                have ow' : ∀ a, OwnAt (upd H1 l (.lst (us ++ [v]))) (.ol (ys ++ [y])) (at? σ i) a → OwnAt H1 (.ol ys) (at? σ i) a := fun a o => o
                exact p1 σ _ Hs1 (rp1.mut ei e1 ow' hs) (Grow.mut rp1 ei e1 ow' fun _ z => nomatch z) Kp.refl
              · rw [if_neg hz] at p1; exact p1.elim
/-- l[k] = e -/
def setL2 (i : Nat) (r k : RV) : M Fl := fun ρ => match ρ[i]?, r, k with
  | some (.ol xs), .dat y, .dat (.int z) => match ixN xs.length z with
    | some j => .ok .nx (ρ.set i (.ol (xs.set j y)))
    | none => .bad
  | _, _, _ => .bad
def isOL (ρ : Rho) (i : Nat) : Bool := match ρ[i]? with
  | some (.ol _) => true
  | _ => false
def mSetL (i : Nat) (mk ma : M RV) : M Fl := bnd ma fun a => fun ρ => if isOL ρ i = true then (bnd mk fun k => setL2 i a k) ρ else .bad
theorem ss_setL {i : Nat} (ha : SimE T X W e ma) (hk : SimE T X W a mb)
    (h : PE X e (tM X.K T X.mg W (kE X.K) ma) → PE X a (tM X.K T X.mg W (kE X.K) mb) → PS X st (tAsg (tM X.K T X.mg W (kE X.K) ma) (gSub (tVar i) (tM X.K T X.mg W (kE X.K) mb) rSetL))) : SimS T g X W st (mSetL i mb ma) :=
  ps_imp (h ha hk) fun D σ H q => tS_bnd q fun r ρ1 v H1 Hs1 rp1 _ ra p => by
    unfold isOL at p
    cases e : ρ1[i]? with
    | none => rw [e] at p; exact p.elim
    | some s =>
      rw [e] at p
      cases s with
      | un => exact p.elim
      | d _ => exact p.elim
      | od _ => exact p.elim
      | oo _ _ => exact p.elim
      | ol xs =>
        obtain ⟨l, vs, e1, h1, h2, h3⟩ := rp1.at_ i _ e
        refine ⟨_, at_some e1, ρ1, Hs1, rp1, PostS.bnd (r := mb ρ1) (f := fun k => setL2 i r k) p fun k ρ2 u H2 Hs2 rp2 gr rk _ p2 => ?_⟩
        unfold setL2 at p2
        have ra2 := rv_grow ra gr
        cases ei : ρ2[i]? with
        | none => rw [ei] at p2; exact p2.elim
        | some s1 =>
          rw [ei] at p2
          cases s1 with
          | un => exact p2.elim
          | d _ => exact p2.elim
          | od _ => exact p2.elim
          | oo _ _ => exact p2.elim
          | ol ys =>
            cases r with
            | slot _ => exact p2.elim
            | dat y =>
              cases k with
              | slot _ => exact p2.elim
              | dat zz =>
                cases zz with
                | int z =>
                  dsimp only at p2
                  cases hj : ixN ys.length z with
                  | none => rw [hj] at p2; exact p2.elim
                  | some j =>
                    rw [hj] at p2
                    have rk' : Dp X.K Hs2 u (.int z) := rk
                    cases rk'
                    obtain ⟨l', us, f1, f2, f3, f4⟩ := rp2.at_ i _ ei
                    rw [e1] at f1; cases f1
                    refine ⟨l, us, z, j, rfl, rfl, f2, by rw [dpAll_len f3]; exact hj, ?_⟩
                    have hs : SRep X.K T Hs2 (upd H2 l (.lst (us.set j v))) (.ol (ys.set j y)) (at? σ i) := ⟨l, _, e1, upd_same, dpAll_set j f3 ra2, f4⟩
                    have ow' : ∀ a, OwnAt (upd H2 l (.lst (us.set j v))) (.ol (ys.set j y)) (at? σ i) a → OwnAt H2 (.ol ys) (at? σ i) a := fun a o => o
                    exact p2 σ _ Hs2 (rp2.mut ei e1 ow' hs) (Grow.mut rp2 ei e1 ow' fun _ z => nomatch z) Kp.refl
                | none => exact p2.elim
                | bool _ => exact p2.elim
                | str _ => exact p2.elim
                | list _ => exact p2.elim
                | tuple _ => exact p2.elim
                | dict _ => exact p2.elim
end
end DS
end
section
set_option Elab.async false
set_option linter.all false
set_option maxRecDepth 100000
set_option maxHeartbeats 4000000
/-! DsG: targets, walks, for, comprehensions -/
namespace DS
open PySem PySem.Spec PyProof.Rows L2
abbrev Gm := PyData → Rho → Option Rho
section
variable (K : PySem.W.Frag) (T : Tbs) (g : Sg) (ts : List Nat)
/-- only slots of ts are stored to -/
def Only (ts : List Nat) (σ σ' : L2.St) : Prop := σ'.length = σ.length ∧ ∀ j, j ∉ ts → σ'[j]? = σ[j]?
def tG (gm : Gm) : TG := fun v σ H Q => ∃ ρ Hs x ρ', Rep K T Hs ρ σ H ∧ Dp K Hs v x ∧ gm x ρ = some ρ' ∧ ∀ σ', Rep K T Hs ρ' σ' H → Grow ρ σ Hs H ρ' σ' Hs H → Kp g.pr σ σ' → Only ts σ σ' → Q σ' H
def tGs (gm : List PyData → Rho → Option Rho) : TGs := fun vs σ H Q => ∃ ρ Hs xs ρ', Rep K T Hs ρ σ H ∧ DpAll K Hs vs xs ∧ gm xs ρ = some ρ' ∧ ∀ σ', Rep K T Hs ρ' σ' H → Grow ρ σ Hs H ρ' σ' Hs H → Kp g.pr σ σ' → Only ts σ σ' → Q σ' H
end
def SimG (T : Tbs) (g : Sg) (ts : List Nat) (X : Cx) (tg : Expr) (gm : Gm) : Prop := PG X tg (tG X.K T g ts gm)
def SimGs (T : Tbs) (g : Sg) (ts : List Nat) (X : Cx) (es : List Expr) (gm : List PyData → Rho → Option Rho) : Prop := PGs X es (tGs X.K T g ts gm)
theorem Only.refl {ts : List Nat} {σ : L2.St} : Only ts σ σ := ⟨rfl, fun _ _ => rfl⟩
theorem Only.trans {ts : List Nat} {σ σ1 σ2 : L2.St} (a : Only ts σ σ1) (b : Only ts σ1 σ2) : Only ts σ σ2 := ⟨b.1.trans a.1, fun j h => (b.2 j h).trans (a.2 j h)⟩
theorem Only.set {ts : List Nat} {σ : L2.St} {i : Nat} {v : Option V} (h : i ∈ ts) : Only ts σ (σ.set i v) := ⟨by simp, fun j hj => List.getElem?_set_ne (fun z => hj (by rw [← z]; exact h))⟩
section
variable {T : Tbs} {g : Sg} {ts : List Nat} {X : Cx} {W : WX} {e a b c tg iter elt : Expr} {es : List Expr} {pos : Pos} {gm : Gm} {gs : List PyData → Rho → Option Rho} {st : Stmt} {sts : List Stmt}
theorem pg_imp {tg : Expr} {t t' : TG} (h : PG X tg t) (k : ∀ v σ H Q, t' v σ H Q → t v σ H Q) : PG X tg t' := ⟨fun pins s σ H v u Q I r q => h.run pins s σ H v u Q I r (k v σ H Q q)⟩
theorem pgs_imp {ts : List Expr} {t t' : TGs} (h : PGs X ts t) (k : ∀ v σ H Q, t' v σ H Q → t v σ H Q) : PGs X ts t' := ⟨fun pins s σ H v u Q I r q => h.run pins s σ H v u Q I r (k v σ H Q q)⟩
theorem pg_or {tg : Expr} {t t' : TG} (h : PG X tg t) (h' : PG X tg t') : PG X tg (fun v σ H Q => t v σ H Q ∨ t' v σ H Q) := ⟨fun pins s σ H v u Q I r q => q.elim (h.run pins s σ H v u Q I r) (h'.run pins s σ H v u Q I r)⟩
def gN (i : Nat) : Gm := fun x ρ => some (ρ.set i (.d x))
theorem sg_name {i : Nat} (h : PG X tg (gName i)) (hi : i ∉ g.pr) (ht : i ∈ ts) : SimG T g ts X tg (gN i) := pg_imp h fun v σ H Q ⟨ρ, Hs, x, ρ', rp, d, e, k⟩ => by
  cases e
  exact k _ (rp.setD d) Grow.setD (Kp.set hi) (Only.set ht)
def gA0 : List PyData → Rho → Option Rho
  | [], ρ => some ρ
  | _ :: _, _ => none
def gA (gm : Gm) (gs : List PyData → Rho → Option Rho) : List PyData → Rho → Option Rho
  | [], _ => none
  | x :: xs, ρ => (gm x ρ).bind fun ρ' => gs xs ρ'
theorem sgs_nil : SimGs T g ts X [] gA0 := pgs_imp pgs_nil fun v σ H Q ⟨ρ, Hs, xs, ρ', rp, d, e, k⟩ => by
  cases d with
  | nil =>
    cases e
    exact ⟨rfl, k σ rp Grow.refl Kp.refl Only.refl⟩
  | cons _ _ => cases e
theorem sgs_cons (h1 : SimG T g ts X a gm) (h2 : SimGs T g ts X es gs) (hs : (assignEach (a :: es) X.env).map (·.2) = assign a X.env :: (assignEach es X.env).map (·.2) := by rfl) : SimGs T g ts X (a :: es) (gA gm gs) :=
  pgs_imp (pgs_cons h1 h2 hs) fun vs σ H Q ⟨ρ, Hs, xs, ρ', rp, d, e, k⟩ => by
    cases d with
    | nil => cases e
    | @cons v vs x xs a b =>
      have e : ((gm x ρ).bind fun ρ' => gs xs ρ') = some ρ' := e
      cases e1 : gm x ρ with
      | none => rw [e1] at e; cases e
      | some ρ1 =>
        rw [e1] at e
        exact ⟨v, vs, rfl, ρ, Hs, x, ρ1, rp, a, e1, fun σ1 rp1 g1 k1 o1 => ⟨ρ1, Hs, xs, ρ', rp1, b, e, fun σ2 rp2 g2 k2 o2 => k σ2 rp2 (g1.trans g2) (k1.trans k2) (o1.trans o2)⟩⟩
/-- a, b, .. = a tuple or a list of so many -/
def gT (n : Nat) (gs : List PyData → Rho → Option Rho) : Gm := fun x ρ => match x with
  | .tuple xs => if xs.length = n then gs xs ρ else none
  | .list xs => if xs.length = n then gs xs ρ else none
  | _ => none
theorem sg_tup {n k : Nat} (hc : X.calm = true) (h : SimGs T g ts X es gs) (hn : (assignEach es X.env).length = n := by rfl) (hst : (assignEach es X.env).findIdx? (·.1) = none := by rfl) : SimG T g ts X (.Tuple es k pos) (gT n gs) :=
  pg_imp (pg_or (pg_tup hc h hn hst) (pg_lst hc h hn hst)) fun v σ H Q ⟨ρ, Hs, x, ρ', rp, d, e, k⟩ => by
    unfold gT at e
    cases d with
    | non => cases e
    | bl _ => cases e
    | int _ => cases e
    | str _ => cases e
    | @tup a vs xs s al =>
      dsimp only at e
      split at e
      · rename_i hl
        exact .inl ⟨a, vs, rfl, same_sqT rp.sub s, by rw [dpAll_len al]; exact hl, ρ, Hs, xs, ρ', rp, al, e, k⟩
      · cases e
    | @lst a vs xs s al =>
      dsimp only at e
      split at e
      · rename_i hl
        exact .inr ⟨a, vs, rfl, rp.sub.seq s, by rw [dpAll_len al]; exact hl, ρ, Hs, xs, ρ', rp, al, e, k⟩
      · cases e
/-- target = e -/
def bindD (gm : Gm) (r : RV) : M Fl := fun ρ => match r with
  | .dat x => match gm x ρ with
    | some ρ' => .ok .nx ρ'
    | none => .bad
  | .slot _ => .bad
def mAsg (gm : Gm) (ma : M RV) : M Fl := bnd ma fun a => bindD gm a
theorem ss_asg {ma : M RV} (ha : SimE T X W e ma) (hg : SimG T g ts X tg gm)
    (h : PE X e (tM X.K T X.mg W (kE X.K) ma) → PG X tg (tG X.K T g ts gm) → PS X st (tAsg (tM X.K T X.mg W (kE X.K) ma) (tG X.K T g ts gm))) : SimS T g X W st (mAsg gm ma) :=
  ps_imp (h ha hg) fun D σ H q => tS_bnd q fun a ρ1 v H1 Hs1 rp1 _ ra p => by
    cases a with
    | slot _ => exact p.elim
    | dat x =>
      unfold bindD at p
      dsimp only at p
      cases e1 : gm x ρ1 with
      | none => rw [e1] at p; exact p.elim
      | some ρ' =>
        rw [e1] at p
        exact ⟨ρ1, Hs1, x, ρ', rp1, ra, e1, fun σ' rp' gr kp _ => p σ' H1 Hs1 rp' gr kp⟩
/-! ### what is walked -/
/-- J walks the data items, whatever is new, as long as what Hs tells stands -/
structure WalkD (K : PySem.W.Frag) (J : It) (items : List PyData) (Hs : Hp) : Prop where
  goes : ∀ i H, i < items.length → Same Hs H → J.go i H
  stops : ∀ H, Same Hs H → J.stop items.length H
  yields : ∀ i H x H' Hs1 d, items[i]? = some d → Same Hs Hs1 → Same Hs1 H → J.yld i H x H' → ∃ Hs2, Ext Hs1 H Hs2 H' ∧ Dp K Hs2 x d
section
variable (K : PySem.W.Frag) (mg : Str → Option Value)
def tI (T : Tbs) (W : WX) (mi : M (List PyData)) : TI := fun σ H R => ∃ ρ Hs, Rep K T Hs ρ σ H ∧ match mi ρ with
  | .ok items ρ' => ∀ J H' Hs', Rep K T Hs' ρ' σ H' → Grow ρ σ Hs H ρ' σ Hs' H' → WalkD K J items Hs' → R J H'
  | .er e ρ' => ∀ cls dd H' Hs', Rep K T Hs' ρ' σ H' → Grow ρ σ Hs H ρ' σ Hs' H' → ERep K mg Hs' H' e cls dd → W cls dd σ H'
  | .bad => False
end
def SimI (T : Tbs) (X : Cx) (W : WX) (tg iter : Expr) (mi : M (List PyData)) : Prop := PI X tg iter (tI X.K X.mg T W mi)
theorem pi_imp {t t' : TI} (h : PI X tg iter t) (k : ∀ σ H Q, t' σ H Q → t σ H Q) : PI X tg iter t' := ⟨fun pins s σ H R I q => h.run pins s σ H R I (k σ H R q)⟩
/-- the items of a list or a tuple -/
def itemsD (r : RV) : M (List PyData) := fun ρ => match r with
  | .dat (.list xs) => .ok xs ρ
  | .dat (.tuple xs) => .ok xs ρ
  | _ => .bad
def mIt (ma : M RV) : M (List PyData) := bnd ma itemsD
theorem tI_bnd {K : PySem.W.Frag} {mg : Str → Option Value} {α β : Type} {k : Kd α β} {m : M α} {f : α → M (List PyData)} {σ : L2.St} {H : Hp} {R : It → Hp → Prop} {Q' : β → Hp → Prop} (h : tI K mg T W (bnd m f) σ H R)
    (w : ∀ a ρ1 v H1 Hs1, Rep K T Hs1 ρ1 σ H1 → k.A Hs1 H1 ρ1 σ a v → (match f a ρ1 with
      | .ok items ρ' => ∀ J H' Hs', Rep K T Hs' ρ' σ H' → Grow ρ1 σ Hs1 H1 ρ' σ Hs' H' → WalkD K J items Hs' → R J H'
      | .er e ρ' => ∀ cls dd H' Hs', Rep K T Hs' ρ' σ H' → Grow ρ1 σ Hs1 H1 ρ' σ Hs' H' → ERep K mg Hs' H' e cls dd → W cls dd σ H'
      | .bad => False) → Q' v H1) : tM K T mg W k m σ H Q' := by
  obtain ⟨ρ, Hs, rp, p⟩ := h
  refine ⟨ρ, Hs, rp, ?_⟩
  unfold DS.bnd at p
  cases e1 : m ρ with
  | bad => rw [e1] at p; exact p
  | er e ρ1 => rw [e1] at p; exact p
  | ok a ρ1 =>
    rw [e1] at p
    have p : (match f a ρ1 with
      | .ok items ρ' => ∀ J H' Hs', Rep K T Hs' ρ' σ H' → Grow ρ σ Hs H ρ' σ Hs' H' → WalkD K J items Hs' → R J H'
      | .er e ρ' => ∀ cls dd H' Hs', Rep K T Hs' ρ' σ H' → Grow ρ σ Hs H ρ' σ Hs' H' → ERep K mg Hs' H' e cls dd → W cls dd σ H'
      | .bad => False) := p
    intro v H1 Hs1 rp1 gr q _
    refine w a ρ1 v H1 Hs1 rp1 q ?_
    cases e2 : f a ρ1 with
    | bad => rw [e2] at p; exact p
    | er e ρ2 => rw [e2] at p; exact fun cls dd H2 Hs2 a b c => p cls dd H2 Hs2 a (gr.trans b) c
    | ok items ρ2 => rw [e2] at p; exact fun J H2 Hs2 a b c => p J H2 Hs2 a (gr.trans b) c
theorem walkD_list {K : PySem.W.Frag} {Hs : Hp} {a : Addr} {vs : List V} {ds : List PyData} (s : SqL K Hs a vs) (al : DpAll K Hs vs ds) : WalkD K (Itl K a) ds Hs := by
  have w := walk_list (K := K) (a := a) (xs := vs)
  have hl := dpAll_len al
  refine ⟨fun i H hi sm => w.goes i H (by omega) (sm.seq s), fun H sm => by rw [← hl]; exact w.stops H (sm.seq s), fun i H x H' Hs1 d e s1 s2 y => ?_⟩
  have hi : i < vs.length := by rw [hl]; exact (List.getElem?_eq_some_iff.mp e).1
  obtain ⟨rfl, q⟩ := w.yields i H x H' hi ((s1.trans s2).seq s) y
  obtain ⟨v, h1, h2⟩ := dpAll_get al e
  rw [q] at h1; cases h1
  exact ⟨Hs1, .same, dp_mono s1 h2⟩
theorem walkD_tup {K : PySem.W.Frag} {Hs : Hp} {a : Addr} {vs : List V} {ds : List PyData} (s : SqT K Hs a vs) (al : DpAll K Hs vs ds) : WalkD K (Itt K a) ds Hs := by
  have w := walk_tup (K := K) (a := a) (xs := vs)
  have hl := dpAll_len al
  refine ⟨fun i H hi sm => w.goes i H (by omega) (same_sqT sm s), fun H sm => by rw [← hl]; exact w.stops H (same_sqT sm s), fun i H x H' Hs1 d e s1 s2 y => ?_⟩
  have hi : i < vs.length := by rw [hl]; exact (List.getElem?_eq_some_iff.mp e).1
  obtain ⟨rfl, q⟩ := w.yields i H x H' hi (same_sqT (s1.trans s2) s) y
  obtain ⟨v, h1, h2⟩ := dpAll_get al e
  rw [q] at h1; cases h1
  exact ⟨Hs1, .same, dp_mono s1 h2⟩
theorem pi_or {t t' : TI} {te : TE} (h : PE X iter te → PI X tg iter t) (h' : PE X iter te → PI X tg iter t') : True := trivial
/-- over a list or a tuple -/
theorem pi_seq {te : TE} (he : PE X iter te) : PI X tg iter (fun σ H R => te σ H fun x H1 => ∃ a, x = .ref a ∧ ((∃ xs, SqL X.K H1 a xs ∧ R (Itl X.K a) H1) ∨ (∃ xs, SqT X.K H1 a xs ∧ R (Itt X.K a) H1))) := by
  refine ⟨fun pins s σ H R I h => ?_⟩
  refine thn (he.run pins s σ H _ I h) fun u s1 ⟨x, H1, I1, r1, a, ex, q⟩ => ?_
  subst ex
  have key : ∀ (t : TI), PI X tg iter t → True := fun _ _ => trivial
  rcases q with ⟨xs, sq, q⟩ | ⟨xs, sq, q⟩
  · obtain rfl : u = Value.ref a := r1
    obtain ⟨its, rv, p, hz⟩ := I1.list sq
    refine wpAny_pyIter_list p.isList ?_
    refine ⟨s1.heap.objs.size, [s1.heap.objs.size], _, _, H1, rfl, I1.kept (t' := s1.toks) fun b o e => Heap.get?_push_of_some _ e, turn_list a _, ⟨_, Heap.get?_push_size _ rfl, rfl, rfl⟩, fun b hb => ?_, q⟩
    cases List.mem_singleton.mp hb
    exact I1.fpOk (Nat.le_refl _) (I1.hok.fresh (Nat.le_refl _))
  · obtain rfl : u = Value.ref a := r1
    obtain ⟨its, rv, p, hz⟩ := I1.tuple sq
    refine wpAny_pyIter_tuple (show s1.heap.IsTuple a its.toArray from p) ?_
    refine ⟨s1.heap.objs.size, [s1.heap.objs.size], _, _, H1, rfl, I1.kept (t' := s1.toks) fun b o e => Heap.get?_push_of_some _ e, turn_tuple a _, ⟨_, Heap.get?_push_size _ rfl, rfl, rfl⟩, fun b hb => ?_, q⟩
    cases List.mem_singleton.mp hb
    exact I1.fpOk (Nat.le_refl _) (I1.hok.fresh (Nat.le_refl _))
theorem si_seq {ma : M RV} (ha : SimE T X W iter ma) : SimI T X W tg iter (mIt ma) :=
  pi_imp (pi_seq ha) fun σ H R q => tI_bnd q fun a ρ1 v H1 Hs1 rp1 ra p => by
    unfold itemsD at p
    cases a with
    | slot _ => exact p.elim
    | dat x =>
      have ra : Dp X.K Hs1 v x := ra
      cases ra with
      | non => exact p.elim
      | bl _ => exact p.elim
      | int _ => exact p.elim
      | str _ => exact p.elim
      | @lst a vs ds s al => exact ⟨a, rfl, .inl ⟨vs, rp1.sub.seq s, p _ _ _ rp1 Grow.refl (walkD_list s al)⟩⟩
      | @tup a vs ds s al => exact ⟨a, rfl, .inr ⟨vs, same_sqT rp1.sub s, p _ _ _ rp1 Grow.refl (walkD_tup s al)⟩⟩
/-- range -/
def rangeD (lo hi : Int) : List PyData := (List.range (hi - lo).toNat).map fun (k : Nat) => .int (lo + k)
def int1 : List RV → Option Int
  | [.dat (.int j)] => some j
  | _ => none
def int2 : List RV → Option (Int × Int)
  | [.dat (.int i), .dat (.int j)] => some (i, j)
  | _ => none
theorem int1_some {r : List RV} {j : Int} (h : int1 r = some j) : r = [.dat (.int j)] := by
  unfold int1 at h
  split at h
  · cases h; rfl
  · cases h
theorem int2_some {r : List RV} {i j : Int} (h : int2 r = some (i, j)) : r = [.dat (.int i), .dat (.int j)] := by
  unfold int2 at h
  split at h
  · cases h; rfl
  · cases h
def rng1 (r : List RV) : M (List PyData) := fun ρ => match int1 r with
  | some j => if -(2 ^ 62) ≤ j ∧ j < 2 ^ 62 then .ok (rangeD 0 j) ρ else .bad
  | none => .bad
def rng2 (r : List RV) : M (List PyData) := fun ρ => match int2 r with
  | some (i, j) => if -(2 ^ 62) ≤ i ∧ i < 2 ^ 62 ∧ -(2 ^ 62) ≤ j ∧ j < 2 ^ 62 then .ok (rangeD i j) ρ else .bad
  | none => .bad
theorem walkD_range {K : PySem.W.Frag} {Hs : Hp} {lo hi : Int} : WalkD K (Itr lo (hi - lo).toNat) (rangeD lo hi) Hs := by
  have hl : (rangeD lo hi).length = (hi - lo).toNat := by simp [rangeD]
  refine ⟨fun i H h _ => by rw [hl] at h; exact h, fun H _ => by rw [hl]; exact Nat.le_refl _, fun i H x H' Hs1 d e s1 s2 y => ?_⟩
  obtain ⟨rfl, rfl⟩ := y
  unfold rangeD at e
  rw [List.getElem?_map] at e
  cases e2 : (List.range (hi - lo).toNat)[i]? with
  | none => rw [e2] at e; cases e
  | some k =>
    rw [e2] at e
    cases e
    have : k = i := by
      have := List.getElem?_eq_some_iff.mp e2
      obtain ⟨h1, h2⟩ := this
      simpa using h2.symm
    subst this
    exact ⟨Hs1, .same, .int _⟩
theorem si_range1 {mr : M (List RV)} (ha : SimA T X W es mr) (h : PA X es (tM X.K T X.mg W (kA X.K) mr) → PI X tg iter (iRng1 (tM X.K T X.mg W (kA X.K) mr))) : SimI T X W tg iter (bnd mr rng1) :=
  pi_imp (h ha) fun σ H R q => tI_bnd q fun rs ρ1 vs H1 Hs1 rp1 ra p => by
    unfold rng1 at p
    cases ej : int1 rs with
    | none => rw [ej] at p; exact p.elim
    | some j =>
      rw [ej] at p
      dsimp only at p
      by_cases hj : -(2 ^ 62) ≤ j ∧ j < 2 ^ 62
      · rw [if_pos hj] at p
        cases int1_some ej
        have ra : aA X.K Hs1 σ [.dat (.int j)] vs := ra
        cases vs with
        | nil => exact ra.elim
        | cons v vs =>
          cases vs with
          | cons _ _ => exact ra.2.elim
          | nil =>
            have r1 : Dp X.K Hs1 v (.int j) := ra.1
            cases r1
            have w := walkD_range (K := X.K) (Hs := Hs1) (lo := 0) (hi := j)
            rw [Int.sub_zero] at w
            exact ⟨j, rfl, hj.1, hj.2, p _ _ _ rp1 Grow.refl w⟩
      · rw [if_neg hj] at p; exact p.elim
theorem si_range2 {mr : M (List RV)} (ha : SimA T X W es mr) (h : PA X es (tM X.K T X.mg W (kA X.K) mr) → PI X tg iter (iRng2 (tM X.K T X.mg W (kA X.K) mr))) : SimI T X W tg iter (bnd mr rng2) :=
  pi_imp (h ha) fun σ H R q => tI_bnd q fun rs ρ1 vs H1 Hs1 rp1 ra p => by
    unfold rng2 at p
    cases ej : int2 rs with
    | none => rw [ej] at p; exact p.elim
    | some ij =>
      obtain ⟨i, j⟩ := ij
      rw [ej] at p
      dsimp only at p
      by_cases hj : -(2 ^ 62) ≤ i ∧ i < 2 ^ 62 ∧ -(2 ^ 62) ≤ j ∧ j < 2 ^ 62
      · rw [if_pos hj] at p
        cases int2_some ej
        have ra : aA X.K Hs1 σ [.dat (.int i), .dat (.int j)] vs := ra
        cases vs with
        | nil => exact ra.elim
        | cons v vs =>
          cases vs with
          | nil => exact ra.2.elim
          | cons u vs =>
            cases vs with
            | cons _ _ => exact ra.2.2.elim
            | nil =>
              have r1 : Dp X.K Hs1 v (.int i) := ra.1
              have r2 : Dp X.K Hs1 u (.int j) := ra.2.1
              cases r1
              cases r2
              exact ⟨i, j, rfl, hj, p _ _ _ rp1 Grow.refl walkD_range⟩
      · rw [if_neg hj] at p; exact p.elim
/-! ### for -/
def forL (gm : Gm) (mb : M Fl) : List PyData → M Fl
  | [] => ret .nx
  | x :: r => fun ρ => match gm x ρ with
    | none => .bad
    | some ρ1 => match mb ρ1 with
      | .ok .nx ρ2 => forL gm mb r ρ2
      | .ok .ct ρ2 => forL gm mb r ρ2
      | .ok .brk ρ2 => .ok .nx ρ2
      | .ok (.ret ro) ρ2 => .ok (.ret ro) ρ2
      | .er e ρ2 => .er e ρ2
      | .bad => .bad
def mFor (mi : M (List PyData)) (gm : Gm) (mb : M Fl) : M Fl := bnd mi fun items => forL gm mb items
theorem ss_for {mi : M (List PyData)} {mb : M Fl} (hi : SimI T X W tg iter mi) (hg : SimG T g ts X tg gm) (hb : SimB T g X W sts mb) (hp : PassesOwn (model X.prog X.w) X.A X.env X.xe) (hc : X.calm = true)
    (hs : ∀ x, foldedSetIterable iter X.env x = pure x := by intro _; rfl) : SimS T g X W (.For tg iter sts [] pos) (mFor mi gm mb) :=
  ps_imp (ps_for hp hc hi hg hb hs) fun D σ H ⟨ρ, Hs, rp, p⟩ => by
    refine ⟨ρ, Hs, rp, ?_⟩
    unfold mFor DS.bnd at p
    cases e1 : mi ρ with
    | bad => rw [e1] at p; exact p
    | er e ρ1 => rw [e1] at p; exact fun cls dd H1 Hs1 a b c => p cls dd σ H1 Hs1 a b Kp.refl c
    | ok items ρ1 =>
      rw [e1] at p
      have p : PostS X.K T X.mg g W D ρ σ Hs H (forL gm mb items ρ1) := p
      intro J H1 Hs1 rp1 gr wk
      refine for_it (n := items.length) (G := fun H => Same Hs1 H) (Y := J.yld) ⟨fun i H hi q => wk.goes i H hi q, fun H q => wk.stops H q, fun i H x H' _ _ y => y⟩
        (fun i σ2 H2 => ∃ ρ2 Hs2, Rep X.K T Hs2 ρ2 σ2 H2 ∧ Same Hs1 Hs2 ∧ PostS X.K T X.mg g W D ρ2 σ2 Hs2 H2 (forL gm mb (items.drop i) ρ2)) ⟨ρ1, Hs1, rp1, Same.refl _, p.shift gr Kp.refl⟩
        (fun i σ2 H2 _ ⟨ρ2, Hs2, rp2, sm, _⟩ => sm.trans rp2.sub) ?_ ?_
      · rintro i x σ2 H2 H3 hi ⟨ρ2, Hs2, rp2, sm, p2⟩ y
        have hget : items[i]? = some items[i] := List.getElem?_eq_getElem hi
        obtain ⟨Hs3, ex, dx⟩ := wk.yields i H2 x H3 Hs2 items[i] hget sm rp2.sub y
        obtain ⟨rp3, g3⟩ := ex.rep rp2
        rw [List.drop_eq_getElem_cons hi] at p2
        unfold forL at p2
        cases eg : gm items[i] ρ2 with
        | none => rw [eg] at p2; exact p2.elim
        | some ρ3 =>
          rw [eg] at p2
          dsimp only at p2
          refine ⟨ρ2, Hs3, items[i], ρ3, rp3, dx, eg, fun σ4 rp4 g4 k4 _ => ⟨ρ3, Hs3, rp4, ?_⟩⟩
          have g24 := g3.trans g4
          cases eb : mb ρ3 with
          | bad => rw [eb] at p2; exact p2.elim
          | er e ρ5 => rw [eb] at p2; exact fun cls dd σ5 H5 Hs5 a b c d => p2 cls dd σ5 H5 Hs5 a (g24.trans b) (k4.trans c) d
          | ok f ρ5 =>
            rw [eb] at p2
            cases f with
            | nx =>
              have p2 : PostS X.K T X.mg g W D ρ2 σ2 Hs2 H2 (forL gm mb (items.drop (i + 1)) ρ5) := p2
              exact fun σ5 H5 Hs5 a b c => ⟨ρ5, Hs5, a, sm.trans (g24.trans b).sh, p2.shift (g24.trans b) (k4.trans c)⟩
            | ct =>
              have p2 : PostS X.K T X.mg g W D ρ2 σ2 Hs2 H2 (forL gm mb (items.drop (i + 1)) ρ5) := p2
              exact fun σ5 H5 Hs5 a b c => ⟨ρ5, Hs5, a, sm.trans (g24.trans b).sh, p2.shift (g24.trans b) (k4.trans c)⟩
            | brk => exact fun σ5 H5 Hs5 a b c => p2 σ5 H5 Hs5 a (g24.trans b) (k4.trans c)
            | ret ro => exact PostS.shift (r := .ok (.ret ro) ρ5) p2 g24 k4
      · rintro σ2 H2 ⟨ρ2, Hs2, rp2, sm, p2⟩
        rw [List.drop_length] at p2
        exact p2 σ2 H2 Hs2 rp2 Grow.refl Kp.refl
end
end DS
end
section
set_option Elab.async false
set_option linter.all false
set_option maxRecDepth 100000
set_option maxHeartbeats 4000000
/-! DsH: comprehensions -/
namespace DS
open PySem PySem.Spec PyProof.Rows L2
def wipeR (ρ : Rho) : List Nat → Rho
  | [] => ρ
  | i :: r => wipeR (ρ.set i .un) r
def notOwn (ρ : Rho) (i : Nat) : Bool := match ρ[i]? with
  | some (.ol _) => false
  | some (.od _) => false
  | some (.oo _ _) => false
  | _ => true
/-- the slots at vs as ρ has them, all others as ρ' -/
def backR (ρ ρ' : Rho) : List Nat → Rho
  | [] => ρ'
  | i :: r => backR ρ (ρ'.set i (ρ.getD i .un)) r
theorem wipeR_len : ∀ (vs : List Nat) (ρ : Rho), (wipeR ρ vs).length = ρ.length
  | [], _ => rfl
  | i :: r, ρ => by unfold wipeR; rw [wipeR_len r]; simp
theorem wipeR_out : ∀ (vs : List Nat) (ρ : Rho) {j : Nat}, j ∉ vs → (wipeR ρ vs)[j]? = ρ[j]?
  | [], _, _, _ => rfl
  | i :: r, ρ, j, h => by
    unfold wipeR
    rw [wipeR_out r _ (fun z => h (.tail _ z)), List.getElem?_set_ne (fun z => h (by rw [z]; exact .head _))]
theorem wipeR_in : ∀ (vs : List Nat) (ρ : Rho) {j : Nat} {s : SV}, j ∈ vs → (wipeR ρ vs)[j]? = some s → s = .un
  | i :: r, ρ, j, s, h, e => by
    unfold wipeR at e
    by_cases hj : j ∈ r
    · exact wipeR_in r _ hj e
    · have hi : j = i := by
        rcases List.mem_cons.mp h with z | z
        · exact z
        · exact absurd z hj
      subst hi
      rw [wipeR_out r _ hj] at e
      by_cases hl : j < ρ.length
      · rw [List.getElem?_set_self hl] at e; exact (Option.some.inj e).symm
      · rw [List.getElem?_eq_none (by rw [List.length_set]; omega)] at e; cases e
theorem backR_len (ρ : Rho) : ∀ (vs : List Nat) (ρ' : Rho), (backR ρ ρ' vs).length = ρ'.length
  | [], _ => rfl
  | i :: r, ρ' => by unfold backR; rw [backR_len ρ r]; simp
theorem backR_out (ρ : Rho) : ∀ (vs : List Nat) (ρ' : Rho) {j : Nat}, j ∉ vs → (backR ρ ρ' vs)[j]? = ρ'[j]?
  | [], _, _, _ => rfl
  | i :: r, ρ', j, h => by
    unfold backR
    rw [backR_out ρ r _ (fun z => h (.tail _ z)), List.getElem?_set_ne (fun z => h (by rw [z]; exact .head _))]
theorem backR_in (ρ : Rho) : ∀ (vs : List Nat) (ρ' : Rho) {j : Nat} {s : SV}, j ∈ vs → (backR ρ ρ' vs)[j]? = some s → s = ρ.getD j .un
  | i :: r, ρ', j, s, h, e => by
    unfold backR at e
    by_cases hj : j ∈ r
    · exact backR_in ρ r _ hj e
    · have hi : j = i := by
        rcases List.mem_cons.mp h with z | z
        · exact z
        · exact absurd z hj
      subst hi
      rw [backR_out ρ r _ hj] at e
      by_cases hl : j < ρ'.length
      · rw [List.getElem?_set_self hl] at e; exact (Option.some.inj e).symm
      · rw [List.getElem?_eq_none (by rw [List.length_set]; omega)] at e; cases e
theorem wipe_in {σ : L2.St} : ∀ {vs : List Nat} {i : Nat}, i ∈ vs → at? (wipe σ vs) i = none := by
  intro vs i h
  cases e : at? (wipe σ vs) i with
  | none => rfl
  | some v =>
    have := (wipe_some (at_some e)).2
    exact absurd h this
theorem at_wipe_out {σ : L2.St} {vs : List Nat} {i : Nat} (h : i ∉ vs) : at? (wipe σ vs) i = at? σ i := by
  unfold at?
  rw [wipe_out h]
theorem ownAt_un {H : Hp} {v : Option V} {a : Addr} (h : OwnAt H .un v a) : False := h
/-- the comprehension's turns -/
def lcL (gm : Gm) (mt : M Bool) (me : M RV) (vs : List Nat) : List PyData → List PyData → M (List PyData)
  | [], acc => ret acc
  | x :: r, acc => fun ρ => match gm x ρ with
    | none => .bad
    | some ρ1 => match mt ρ1 with
      | .ok true ρ2 => match me ρ2 with
        | .ok (.dat y) ρ3 => if acc.length < sizeLine then lcL gm mt me vs r (acc ++ [y]) (wipeR ρ3 vs) else .bad
        | _ => .bad
      | .ok false ρ2 => lcL gm mt me vs r acc (wipeR ρ2 vs)
      | _ => .bad
def mLCc (mi : M (List PyData)) (gm : Gm) (mt : M Bool) (me : M RV) (vs : List Nat) : M (List PyData) := bnd mi fun items => fun ρ =>
  if vs.all (notOwn ρ) = true then match lcL gm mt me vs items [] (wipeR ρ vs) with
    | .ok acc ρ' => .ok acc (backR ρ ρ' vs)
    | _ => .bad
  else .bad
abbrev W0 : WX := fun _ _ _ _ => False
section
variable {K : PySem.W.Frag} {T : Tbs} {mg : Str → Option Value} {g : Sg} {W : WX} {vs : List Nat} {Hs H Hs' H' : Hp} {ρ ρ' : Rho} {σ σ' : L2.St}
theorem Rep.wipe (r : Rep K T Hs ρ σ H) (hw : wipe σ vs = σ') : Rep K T Hs (wipeR ρ vs) σ' H := by
  subst hw
  refine ⟨r.sub, r.ntb, by rw [wipeR_len, wipe_length]; exact r.len, fun i s e => ?_, fun i j a s t e1 e2 o1 o2 => ?_, r.tab⟩
  · by_cases hi : i ∈ vs
    · rw [wipeR_in vs ρ hi e]; trivial
    · rw [wipeR_out vs ρ hi] at e
      rw [at_wipe_out hi]; exact r.at_ i s e
  · by_cases hi : i ∈ vs
    · rw [wipeR_in vs ρ hi e1] at o1; exact (ownAt_un o1).elim
    · by_cases hj : j ∈ vs
      · rw [wipeR_in vs ρ hj e2] at o2; exact (ownAt_un o2).elim
      · rw [wipeR_out vs ρ hi] at e1
        rw [wipeR_out vs ρ hj] at e2
        rw [at_wipe_out hi] at o1
        rw [at_wipe_out hj] at o2
        exact r.dis i j a s t e1 e2 o1 o2
theorem own_wipe {i : Nat} {a : Addr} (h : OwnI H (wipeR ρ vs) (wipe σ vs) i a) : OwnI H ρ σ i a := by
  obtain ⟨s, e, o⟩ := h
  by_cases hi : i ∈ vs
  · rw [wipeR_in vs ρ hi e] at o; exact (ownAt_un o).elim
  · rw [wipeR_out vs ρ hi] at e
    rw [at_wipe_out hi] at o
    exact ⟨s, e, o⟩
theorem notOwn_at {i : Nat} {s : SV} {v : Option V} {a : Addr} (h : notOwn ρ i = true) (e : ρ[i]? = some s) (o : OwnAt H s v a) : False := by
  unfold notOwn at h
  rw [e] at h
  cases s with
  | un => exact o
  | d _ => exact o
  | ol _ => cases h
  | od _ => cases h
  | oo _ _ => cases h
theorem Rep.back (r0 : Rep K T Hs ρ σ H) (r : Rep K T Hs' ρ' (L2.wipe σ vs) H') (sh : Same Hs Hs') (hv : vs.all (notOwn ρ) = true) : Rep K T Hs' (backR ρ ρ' vs) σ H' := by
  have hlen : ρ'.length = ρ.length := by rw [r.len, wipe_length, r0.len]
  have old : ∀ {i : Nat} {s : SV}, i ∈ vs → (backR ρ ρ' vs)[i]? = some s → ρ[i]? = some s ∧ ∀ (H : Hp) v a, OwnAt H s v a → False := fun {i s} hi e => by
    have hl : i < ρ.length := by
      have := (List.getElem?_eq_some_iff.mp e).1
      rw [backR_len, hlen] at this; exact this
    have e2 : ρ[i]? = some s := by
      have q := backR_in ρ vs ρ' hi e
      rw [q, List.getD_eq_getElem?_getD, List.getElem?_eq_getElem hl]; rfl
    exact ⟨e2, fun H v a o => notOwn_at (List.all_eq_true.mp hv i hi) e2 o⟩
  refine ⟨r.sub, r.ntb, by rw [backR_len, hlen]; exact r0.len, fun i s e => ?_, fun i j a s t e1 e2 o1 o2 => ?_, r.tab⟩
  · by_cases hi : i ∈ vs
    · obtain ⟨e2, no⟩ := old hi e
      exact (r0.at_ i s e2).move sh fun a o => (no _ _ a o).elim
    · rw [backR_out ρ vs ρ' hi] at e
      have := r.at_ i s e
      rw [at_wipe_out hi] at this; exact this
  · by_cases hi : i ∈ vs
    · exact ((old hi e1).2 _ _ a o1).elim
    · by_cases hj : j ∈ vs
      · exact ((old hj e2).2 _ _ a o2).elim
      · rw [backR_out ρ vs ρ' hi] at e1
        rw [backR_out ρ vs ρ' hj] at e2
        exact r.dis i j a s t e1 e2 (by rw [at_wipe_out hi]; exact o1) (by rw [at_wipe_out hj]; exact o2)
theorem own_back {i : Nat} {a : Addr} (hlen : ρ'.length = ρ.length) (hv : vs.all (notOwn ρ) = true) (h : OwnI H (backR ρ ρ' vs) σ i a) : OwnI H ρ' (L2.wipe σ vs) i a := by
  obtain ⟨s, e, o⟩ := h
  by_cases hi : i ∈ vs
  · exfalso
    have hl : i < ρ.length := by
      have := (List.getElem?_eq_some_iff.mp e).1
      rw [backR_len, hlen] at this; exact this
    have e2 : ρ[i]? = some s := by
      have q := backR_in ρ vs ρ' hi e
      rw [q, List.getD_eq_getElem?_getD, List.getElem?_eq_getElem hl]; rfl
    exact notOwn_at (List.all_eq_true.mp hv i hi) e2 o
  · rw [backR_out ρ vs ρ' hi] at e
    exact ⟨s, e, by rw [at_wipe_out hi]; exact o⟩
end
theorem wipe_only {ts : List Nat} {σ σ' : L2.St} (h : Only ts σ σ') : wipe σ' ts = wipe σ ts := by
  apply List.ext_getElem?
  intro j
  by_cases hj : j ∈ ts
  · have e : ∀ s : L2.St, j < s.length → (wipe s ts)[j]? = some none := fun s hl => by
      cases e1 : (wipe s ts)[j]? with
      | none =>
        have := List.getElem?_eq_none_iff.mp e1
        rw [wipe_length] at this; omega
      | some o =>
        cases o with
        | none => rfl
        | some v => exact absurd hj (wipe_some e1).2
    by_cases hl : j < σ.length
    · rw [e σ hl, e σ' (by rw [h.1]; exact hl)]
    · rw [List.getElem?_eq_none (by rw [wipe_length, h.1]; omega), List.getElem?_eq_none (by rw [wipe_length]; omega)]
  · rw [wipe_out hj, wipe_out hj]; exact h.2 j hj
theorem wipe_wipe {σ : L2.St} {vs : List Nat} : wipe (wipe σ vs) vs = wipe σ vs := wipe_only ⟨wipe_length _ _, fun j hj => wipe_out hj⟩
theorem Rep.own_put {K : PySem.W.Frag} {T : Tbs} {Hs H : Hp} {ρ : Rho} {σ : L2.St} {L : Addr} {o : HO} (r : Rep K T Hs ρ σ H) (no : ¬ Own H ρ σ L) (i : Nat) (a : Addr) : OwnI (upd H L o) ρ σ i a ↔ OwnI H ρ σ i a := r.own_iff (fun b ow => by
  rw [upd_ne (fun z => no (by rw [← z]; exact ow))]) i a
/-- an object that is no slot's own and not shared is written -/
theorem Rep.put {K : PySem.W.Frag} {T : Tbs} {Hs H : Hp} {ρ : Rho} {σ : L2.St} {L : Addr} {us vs : List V} (r : Rep K T Hs ρ σ H) (h : H L = some (.lst us)) (n : Hs L = none) (no : ¬ Own H ρ σ L) : Rep K T Hs ρ σ (upd H L (.lst vs)) := by
  have nHs : ∀ a w, Hs a = some w → a ≠ L := fun a w q z => by rw [z, n] at q; cases q
  have stay : ∀ i s, ρ[i]? = some s → ∀ a, OwnAt H s (at? σ i) a → upd H L (.lst vs) a = H a := fun i s e a o => by rw [upd_ne (fun z => no ⟨i, s, e, by rw [← z]; exact o⟩)]
  refine ⟨fun a w q => by rw [upd_ne (nHs a w q)]; exact r.sub a w q, r.ntb, r.len, fun i s e => ?_, fun i j a s t e1 e2 o1 o2 => r.dis i j a s t e1 e2 (((r.at_ i s e1).own_iff (stay i s e1) a).mp o1) (((r.at_ j t e2).own_iff (stay j t e2) a).mp o2), fun q hq => ?_⟩
  · refine (r.at_ i s e).move (Same.refl _) fun a o => ?_
    rw [upd_ne (fun z => no ⟨i, s, e, by rw [← z]; exact o⟩)]
    exact ⟨rfl, ((r.at_ i s e).owned o).2⟩
  · obtain ⟨ps, h1, h2, h3⟩ := r.tab q hq
    have n1 : q.1 ≠ L := fun z => by rw [z, h] at h1; cases h1
    refine ⟨ps, by rw [upd_ne n1]; exact h1, h2, fun pos cv hc => ?_⟩
    obtain ⟨c, e1, e2⟩ := h3 pos cv hc
    refine ⟨c, e1, ?_⟩
    rw [upd_ne (fun z => by rw [z, h] at e2; exact nomatch Option.some.inj e2)]
    exact e2
section
variable {T : Tbs} {g : Sg} {X : Cx} {W : WX} {e tg iter elt : Expr} {gm : Gm} {vs : List Nat} {mi : M (List PyData)} {mt : M Bool} {me : M RV}
/-- what a comprehension leaves: a new list at D, no slot's own and not shared -/
theorem lc_ds {σ : L2.St} {H : Hp} {Q : VK} (h : ∃ ρ Hs, Rep X.K T Hs ρ σ H ∧ match mLCc mi gm mt me vs ρ with
      | .ok acc ρe => ∀ L H' Hs' us, Rep X.K T Hs' ρe σ H' → Grow ρ σ Hs H ρe σ Hs' H' → H' L = some (.lst us) → DpAll X.K Hs' us acc → Hs' L = none → Fre H L → ¬ Own H' ρe σ L → Q (.ref L) H'
      | .er e ρ' => ∀ cls dd H' Hs', Rep X.K T Hs' ρ' σ H' → Grow ρ σ Hs H ρ' σ Hs' H' → ERep X.K X.mg Hs' H' e cls dd → W cls dd σ H'
      | .bad => False) : tLc (tI X.K X.mg T W mi) (tG X.K T ⟨0, []⟩ vs gm) (tM X.K T X.mg W0 kB mt) (tM X.K T X.mg W0 (kE X.K) me) vs σ H Q := by
  obtain ⟨ρ, Hs, rp, p⟩ := h
  refine ⟨ρ, Hs, rp, ?_⟩
  unfold mLCc DS.bnd at p
  cases e1 : mi ρ with
  | bad => rw [e1] at p; exact p
  | er e ρ1 => rw [e1] at p; exact p
  | ok items ρ1 =>
    rw [e1] at p
    dsimp only [R.bnd_ok] at p
    intro J H1 Hs1 rp1 gr wk L hL
    by_cases hv : vs.all (notOwn ρ1) = true
    · rw [if_pos hv] at p
      cases eR : lcL gm mt me vs items [] (wipeR ρ1 vs) with
      | bad => rw [eR] at p; exact p.elim
      | er _ _ => rw [eR] at p; exact p.elim
      | ok accE ρE =>
      rw [eR] at p
      have p : ∀ L H' Hs' us, Rep X.K T Hs' (backR ρ1 ρE vs) σ H' → Grow ρ σ Hs H (backR ρ1 ρE vs) σ Hs' H' → H' L = some (.lst us) → DpAll X.K Hs' us accE → Hs' L = none → Fre H L → ¬ Own H' (backR ρ1 ρE vs) σ L → Q (.ref L) H' := p
      have no1 : ¬ Own H1 ρ1 σ L := fun ow => by
        obtain ⟨⟨u, hu, _⟩, _⟩ := rp1.owned ow
        rw [hL] at hu; cases hu
      have rpw : Rep X.K T Hs1 (wipeR ρ1 vs) (wipe σ vs) (upd H1 L (.lst [])) := (rp1.wipe rfl).beside hL
      have grw : Grow ρ1 σ Hs1 H1 (wipeR ρ1 vs) (wipe σ vs) Hs1 (upd H1 L (.lst [])) := by
        have q := Grow.beside rp1 (o := .lst []) hL
        exact ⟨q.fr, q.dm, q.sh, q.nw, fun i a o => .inl ((rp1.own_upd hL i a).mp (own_wipe o))⟩
      refine lc_it (n := items.length) (G := fun H => Same Hs1 H) (Y := J.yld) ⟨fun i H hi q => wk.goes i H hi q, fun H q => wk.stops H q, fun i H x H' _ _ y => y⟩
        (fun i H2 => ∃ ρ2 Hs2 acc us, Rep X.K T Hs2 ρ2 (wipe σ vs) H2 ∧ Grow ρ1 σ Hs1 H1 ρ2 (wipe σ vs) Hs2 H2 ∧ H2 L = some (.lst us) ∧ DpAll X.K Hs2 us acc ∧ Hs2 L = none ∧ ¬ Own H2 ρ2 (wipe σ vs) L ∧ lcL gm mt me vs (items.drop i) acc ρ2 = .ok accE ρE)
        ⟨wipeR ρ1 vs, Hs1, [], [], rpw, grw, upd_same, .nil, none_of_same rp1.sub hL, fun ⟨i, o⟩ => no1 ⟨i, (rp1.own_upd hL i L).mp (own_wipe o)⟩, eR⟩ (fun i H2 _ ⟨ρ2, Hs2, acc, us, rp2, g2, _⟩ => g2.sh.trans rp2.sub) ?_ ?_
      · rintro i x H2 H3 hi ⟨ρ2, Hs2, acc, us, rp2, g2, hl2, al, nl, no2, eq⟩ y
        have hget : items[i]? = some items[i] := List.getElem?_eq_getElem hi
        obtain ⟨Hs3, ex, dx⟩ := wk.yields i H2 x H3 Hs2 items[i] hget g2.sh rp2.sub y
        obtain ⟨rp3, g3⟩ := ex.rep rp2
        rw [List.drop_eq_getElem_cons hi] at eq
        unfold lcL at eq
        cases eg : gm items[i] ρ2 with
        | none => rw [eg] at eq; cases eq
        | some ρ3 =>
          rw [eg] at eq
          dsimp only at eq
          refine ⟨ρ2, Hs3, items[i], ρ3, rp3, dx, eg, fun σ4 rp4 g4 _ on => ?_⟩
          -- what stands at L stays, whatever comes
          have stay : ∀ {ρ5 : Rho} {σ5 : L2.St} {Hs5 H5 : Hp}, Grow ρ2 (wipe σ vs) Hs2 H2 ρ5 σ5 Hs5 H5 → H5 L = some (.lst us) ∧ Hs5 L = none ∧ ¬ Own H5 ρ5 σ5 L := fun {ρ5 σ5 Hs5 H5} g5 => by
            refine ⟨g5.fr L _ hl2 (fun _ z => nomatch z) no2, ?_, fun ow => (g5.own ow).elim no2 fun z => by obtain ⟨ps, z⟩ := z _ hl2; cases z⟩
            cases e : Hs5 L with
            | none => rfl
            | some u =>
              rcases g5.nw L (by rw [e]; simp) with z | z | z
              · exact absurd nl z
              · obtain ⟨ps, z⟩ := z _ hl2; cases z
              · exact absurd z no2
          have g24 := g3.trans g4
          have hw : wipe σ4 vs = wipe σ vs := by
            rw [wipe_only on, wipe_wipe]
          refine ⟨hw, ρ3, Hs3, rp4, ?_⟩
          cases em : mt ρ3 with
          | bad => rw [em] at eq; cases eq
          | er _ _ => rw [em] at eq; cases eq
          | ok b ρ5 =>
            rw [em] at eq
            intro b' H5 Hs5 rp5 g5 hb _
            have hb : b' = b := hb
            subst hb
            have g25 := g24.trans g5
            cases b' with
            | false =>
              rw [if_neg Bool.false_ne_true]
              have eq : lcL gm mt me vs (items.drop (i + 1)) acc (wipeR ρ5 vs) = .ok accE ρE := eq
              obtain ⟨s1, s2, s3⟩ := stay g25
              have gw : Grow ρ1 σ Hs1 H1 (wipeR ρ5 vs) (wipe σ vs) Hs5 H5 := by
                have q := g2.trans g25
                exact ⟨q.fr, q.dm, q.sh, q.nw, fun j a o => q.ow j a (own_wipe (by rw [hw]; exact o))⟩
              exact ⟨wipeR ρ5 vs, Hs5, acc, us, rp5.wipe hw, gw, s1, dpAll_mono g25.sh al, s2, fun ⟨j, o⟩ => s3 ⟨j, own_wipe (by rw [hw]; exact o)⟩, eq⟩
            | true =>
              rw [if_pos rfl]
              refine ⟨ρ5, Hs5, rp5, ?_⟩
              dsimp only at eq
              cases ee : me ρ5 with
              | bad => rw [ee] at eq; cases eq
              | er _ _ => rw [ee] at eq; cases eq
              | ok r ρ6 =>
                rw [ee] at eq
                cases r with
                | slot _ => cases eq
                | dat y =>
                  dsimp only at eq
                  by_cases hz : acc.length < sizeLine
                  · rw [if_pos hz] at eq
                    intro v H6 Hs6 rp6 g6 dy _
                    have g26 := g25.trans g6
                    obtain ⟨s1, s2, s3⟩ := stay g26
                    have al6 := dpAll_mono g26.sh al
                    have rpw6 := rp6.wipe hw
                    have no6 : ¬ Own H6 (wipeR ρ6 vs) (wipe σ vs) L := fun ⟨j, o⟩ => s3 ⟨j, own_wipe (by rw [hw]; exact o)⟩
                    refine ⟨us, s1, by rw [dpAll_len al]; exact hz, wipeR ρ6 vs, Hs6, acc ++ [y], us ++ [v], ?_, ?_, upd_same, dpAll_app al6 (.cons dy .nil), s2, fun ⟨j, o⟩ => no6 ⟨j, (rpw6.own_put no6 j L).mp o⟩, eq⟩
                    · exact rpw6.put s1 s2 no6
                    · have q := g2.trans g26
                      refine ⟨fun a o e nt no => ?_, fun a e => ?_, q.sh, q.nw, fun j a o => q.ow j a (own_wipe (by rw [hw]; exact (rpw6.own_put no6 j a).mp o))⟩
                      · rw [upd_ne (ne_of_none e hL)]; exact q.fr a o e nt no
                      · by_cases ha : a = L
                        · rw [ha]; exact fre_none hL
                        · exact q.dm a fun u z => e u (by rw [upd_ne ha]; exact z)
                  · rw [if_neg hz] at eq; cases eq
      · rintro H2 ⟨ρ2, Hs2, acc, us, rp2, g2, hl2, al, nl, no2, eq⟩
        rw [List.drop_length] at eq
        have eq : R.ok acc ρ2 = R.ok accE ρE := eq
        cases eq
        have hlen : ρE.length = ρ1.length := by rw [rp2.len, wipe_length, rp1.len]
        have g5 : Grow ρ1 σ Hs1 H1 (backR ρ1 ρE vs) σ Hs2 H2 := ⟨g2.fr, g2.dm, g2.sh, g2.nw, fun i a o => g2.ow i a (own_back hlen hv o)⟩
        exact p L H2 Hs2 us (rp1.back rp2 g2.sh hv) (gr.trans g5) hl2 al nl (gr.dm L (fre_none hL)) fun ⟨i, o⟩ => no2 ⟨i, own_back hlen hv o⟩
    · rw [if_neg hv] at p; exact p.elim
/-- [elt for tg in iter if ..] -/
def mLC (mi : M (List PyData)) (gm : Gm) (mt : M Bool) (me : M RV) (vs : List Nat) : M RV := bnd (mLCc mi gm mt me vs) fun acc => ret (.dat (.list acc))
def mLCO (mi : M (List PyData)) (gm : Gm) (mt : M Bool) (me : M RV) (vs : List Nat) : M SV := bnd (mLCc mi gm mt me vs) fun acc => ret (.ol acc)
def SimPT (T : Tbs) (X : Cx) (ifs : List Expr) (m : M Bool) : Prop := PTs X ifs (tM X.K T X.mg W0 kB m)
def mYes : M Bool := ret true
theorem spt_nil : SimPT T X [] mYes := ⟨fun pins s σ H Q I ⟨ρ, Hs, rp, p⟩ => pts_nil.run pins s σ H Q I (post_okB p rp)⟩
theorem spt_one {c : Expr} (h : SimT T X W0 c mt) : SimPT T X [c] mt := pts_one h
theorem rf_lc : Rf T X W (mLC mi gm mt me vs) (tLc (tI X.K X.mg T W mi) (tG X.K T ⟨0, []⟩ vs gm) (tM X.K T X.mg W0 kB mt) (tM X.K T X.mg W0 (kE X.K) me) vs) := fun σ H Q ⟨ρ, Hs, rp, p⟩ => lc_ds ⟨ρ, Hs, rp, by
  unfold mLC DS.bnd at p
  cases e1 : mLCc mi gm mt me vs ρ with
  | bad => rw [e1] at p; exact p
  | er e ρ1 => rw [e1] at p; exact p
  | ok acc ρe =>
    rw [e1] at p
    intro L H' Hs' us rp' gr hl al nl hL no
    have p : ∀ v H' Hs', Rep X.K T Hs' ρe σ H' → Grow ρ σ Hs H ρe σ Hs' H' → Dp X.K Hs' v (.list acc) → (∀ c, False → Fre H c) → Q v H' := p
    have sub : Same (upd Hs' L (.lst us)) H' := fun a o e => by
      by_cases ha : a = L
      · subst ha; rw [upd_same] at e; cases e; exact hl
      · rw [upd_ne ha] at e; exact rp'.sub a o e
    have sh : Same Hs' (upd Hs' L (.lst us)) := same_upd nl
    refine p (.ref L) H' (upd Hs' L (.lst us)) (rp'.move sub (ntb_upd rp'.ntb fun _ z => nomatch z) sh (fun a ow => ⟨rfl, ?_⟩) rp'.tab) ⟨gr.fr, gr.dm, gr.sh.trans sh, fun a e => ?_, gr.ow⟩ (.lst (SqL.of upd_same) (dpAll_mono sh al)) fun _ z => z.elim
    · rw [upd_ne (fun z => no (by rw [← z]; exact ow))]
      exact (rp'.owned ow).2
    · by_cases ha : a = L
      · rw [ha]; exact .inr (.inl hL)
      · rw [upd_ne ha] at e; exact gr.nw a e⟩
theorem rfo_lc : ∀ σ H Q, tM X.K T X.mg W (kO X.K T) (mLCO mi gm mt me vs) σ H Q → tLc (tI X.K X.mg T W mi) (tG X.K T ⟨0, []⟩ vs gm) (tM X.K T X.mg W0 kB mt) (tM X.K T X.mg W0 (kE X.K) me) vs σ H Q := fun σ H Q ⟨ρ, Hs, rp, p⟩ => lc_ds ⟨ρ, Hs, rp, by
  unfold mLCO DS.bnd at p
  cases e1 : mLCc mi gm mt me vs ρ with
  | bad => rw [e1] at p; exact p
  | er e ρ1 => rw [e1] at p; exact p
  | ok acc ρe =>
    rw [e1] at p
    intro L H' Hs' us rp' gr hl al nl hL no
    have p : ∀ v H' Hs', Rep X.K T Hs' ρe σ H' → Grow ρ σ Hs H ρe σ Hs' H' → (SRep X.K T Hs' H' (.ol acc) (some v) ∧ ∀ a, OwnAt H' (.ol acc) (some v) a → ¬ Own H' ρe σ a) → (∀ c, OwnAt H' (.ol acc) (some v) c → Fre H c) → Q v H' := p
    exact p (.ref L) H' Hs' rp' gr ⟨⟨L, us, rfl, hl, al, nl⟩, fun a o => by rw [ownAt_l o]; exact no⟩ fun a o => by rw [ownAt_l o]; exact hL⟩
end
end DS
end
section
set_option Elab.async false
set_option linter.all false
set_option maxRecDepth 100000
set_option maxHeartbeats 4000000
/-! DsI: defs and calls -/
namespace DS
open PySem PySem.Spec PyProof.Rows L2
abbrev FnSem := List SV → R RO
def finR (pr : List Nat) (ρ' : Rho) : Nat → List SV → List SV
  | _, [] => []
  | k, s :: r => (if k ∈ pr then ρ'.getD k .un else s) :: finR pr ρ' (k + 1) r
def okArgs (g : Sg) (svs : List SV) : Bool := decide (svs.length = g.np) && (List.range g.np).all fun i => decide (i ∈ g.pr) || notOwn svs i
/-- a def's meaning by its body's: n slots in all -/
def bodyF (g : Sg) (n : Nat) (m : M Fl) : FnSem := fun svs => if okArgs g svs = true then match m (svs ++ List.replicate (n - g.np) .un) with
    | .ok (.ret ro) ρ' => .ok ro (finR g.pr ρ' 0 svs)
    | .ok .nx ρ' => .ok (.dat .none) (finR g.pr ρ' 0 svs)
    | .ok _ _ => .bad
    | .er e ρ' => .er e (finR g.pr ρ' 0 svs)
    | .bad => .bad
  else .bad
section
variable (K : PySem.W.Frag) (T : Tbs) (mg : Str → Option Value)
def PostF (svs : Rho) (vs : List V) (Hs H : Hp) (r : R RO) (Q : VK) (E : XK) : Prop := match r with
  | .ok ro ρ' => ∀ v H' Hs', Rep K T Hs' ρ' (vs.map some) H' → Grow svs (vs.map some) Hs H ρ' (vs.map some) Hs' H' → RORep K T Hs' H' ρ' (vs.map some) ro v → (∀ a, RONew H' ro v a → Fre H a) → Q v H'
  | .er e ρ' => ∀ cls dd H' Hs', Rep K T Hs' ρ' (vs.map some) H' → Grow svs (vs.map some) Hs H ρ' (vs.map some) Hs' H' → ERep K mg Hs' H' e cls dd → E cls dd H'
  | .bad => False
/-- the promise of a def of this meaning -/
def spG (F : FnSem) : Sp := fun vs H Q E => ∃ svs Hs, Rep K T Hs svs (vs.map some) H ∧ PostF K T mg svs vs Hs H (F svs) Q E
end
structure FnS (P : Program) (w : World) (K : PySem.W.Frag) (mg : Str → Option Value) (base : Heap) (T : Tbs) (gd : Bool) (k : Nat) (f : Addr) (fd : FuncData) (ps : List Str) (F : FnSem) : Prop where
  len : ∀ svs, F svs ≠ .bad → svs.length = ps.length
  run : ∀ (A : Around) (outer : List Env) (s : Shared) (H : Hp) (args : Args) (us : List Value) (vs : List V) (Q : VK) (E : XK), (gd = true → A.guards = some []) → Room k A → Env0 P w K mg base A outer s H → BindsTo s fd args (ps.zip us) → Vals vs us → spG K T mg F vs H Q E →
    codeAny (model P w) A (.call (.ref f) args) (CR (L2.CX P w) outer P w H s Q E) s
theorem FnS.mono {P : Program} {w : World} {K : PySem.W.Frag} {mg : Str → Option Value} {base : Heap} {T : Tbs} {gd : Bool} {j k : Nat} {f : Addr} {fd : FuncData} {ps : List Str} {F : FnSem} (h : FnS P w K mg base T gd j f fd ps F) (hk : j ≤ k) : FnS P w K mg base T gd k f fd ps F :=
  ⟨h.len, fun A outer s H args us vs Q E hg hr => h.run A outer s H args us vs Q E hg (hr.mono hk)⟩
section
variable {K : PySem.W.Frag} {T : Tbs} {mg : Str → Option Value} {g : Sg} {Hs H Hs' H' : Hp} {ρ ρ' svs : Rho} {σ σ' : L2.St} {vs : List V} {N : List Str}
theorem finR_len (pr : List Nat) (ρ' : Rho) : ∀ (l : List SV) (k : Nat), (finR pr ρ' k l).length = l.length
  | [], _ => rfl
  | s :: r, k => by unfold finR; rw [List.length_cons, finR_len pr ρ' r, List.length_cons]
theorem finR_get (pr : List Nat) (ρ' : Rho) : ∀ (l : List SV) (k i : Nat), (finR pr ρ' k l)[i]? = (l[i]?).map fun s => if k + i ∈ pr then ρ'.getD (k + i) .un else s
  | [], _, _ => by simp [finR]
  | s :: r, k, 0 => by simp [finR]
  | s :: r, k, i + 1 => by
    unfold finR
    rw [List.getElem?_cons_succ, finR_get pr ρ' r (k + 1) i, List.getElem?_cons_succ]
    have e : k + 1 + i = k + (i + 1) := by omega
    rw [e]
theorem okArgs_len (h : okArgs g svs = true) : svs.length = g.np := by
  unfold okArgs at h
  exact of_decide_eq_true (Bool.and_eq_true_iff.mp h).1
theorem okArgs_at (h : okArgs g svs = true) {i : Nat} {s : SV} (e : svs[i]? = some s) (hi : i ∉ g.pr) (v : Option V) (a : Addr) (o : OwnAt H s v a) : False := by
  have hl := okArgs_len h
  have hlt : i < g.np := by rw [← hl]; exact (List.getElem?_eq_some_iff.mp e).1
  have q := List.all_eq_true.mp (Bool.and_eq_true_iff.mp h).2 i (List.mem_range.mpr hlt)
  rcases Bool.or_eq_true_iff.mp q with z | z
  · exact hi (of_decide_eq_true z)
  · exact notOwn_at z e o
theorem at_map {i : Nat} : at? (vs.map some) i = vs[i]? := by
  unfold at?
  rw [List.getElem?_map]
  cases vs[i]? <;> rfl
theorem at_start {i : Nat} (hl : vs.length ≤ N.length) : at? (L2.start N vs) i = vs[i]? := by
  unfold at? L2.start
  by_cases hi : i < vs.length
  · rw [List.getElem?_append_left (by simpa using hi), List.getElem?_map]
    cases vs[i]? <;> rfl
  · rw [List.getElem?_append_right (by simpa using Nat.le_of_not_lt hi), List.getElem?_replicate]
    rw [List.getElem?_eq_none (by omega)]
    split <;> rfl
theorem ownI_entry {n i : Nat} {a : Addr} (hl : vs.length ≤ N.length) (o : OwnI H (svs ++ List.replicate n .un) (L2.start N vs) i a) : i < svs.length ∧ OwnI H svs (vs.map some) i a := by
  obtain ⟨s, e, o⟩ := o
  rw [at_start hl] at o
  by_cases hi : i < svs.length
  · rw [List.getElem?_append_left hi] at e
    exact ⟨hi, s, e, by rw [at_map]; exact o⟩
  · rw [List.getElem?_append_right (by omega), List.getElem?_replicate] at e
    split at e
    · cases e; exact (ownAt_un o).elim
    · cases e
theorem entry_ownI {n i : Nat} {a : Addr} (hl : vs.length ≤ N.length) (o : OwnI H svs (vs.map some) i a) : OwnI H (svs ++ List.replicate n .un) (L2.start N vs) i a := by
  obtain ⟨s, e, o⟩ := o
  rw [at_map] at o
  have hi := (List.getElem?_eq_some_iff.mp e).1
  exact ⟨s, by rw [List.getElem?_append_left hi]; exact e, by rw [at_start hl]; exact o⟩
theorem Rep.entry {n : Nat} (r : Rep K T Hs svs (vs.map some) H) (hn : svs.length + n = N.length) : Rep K T Hs (svs ++ List.replicate n .un) (L2.start N vs) H := by
  have hv : svs.length = vs.length := by have := r.len; simpa using this
  have hl : vs.length ≤ N.length := by omega
  refine ⟨r.sub, r.ntb, by unfold L2.start; simp; omega, fun i s e => ?_, fun i j a s t e1 e2 o1 o2 => ?_, r.tab⟩
  · rw [at_start hl]
    by_cases hi : i < svs.length
    · rw [List.getElem?_append_left hi] at e
      have q := r.at_ i s e
      rw [at_map] at q; exact q
    · rw [List.getElem?_append_right (by omega), List.getElem?_replicate] at e
      split at e
      · cases e; trivial
      · cases e
  · obtain ⟨h1, s', f1, g1⟩ := ownI_entry hl ⟨s, e1, o1⟩
    obtain ⟨h2, t', f2, g2⟩ := ownI_entry hl ⟨t, e2, o2⟩
    exact r.dis i j a s' t' f1 f2 g1 g2
theorem fin_ownI {i : Nat} {a : Addr} (ha : okArgs g svs = true) (hl : vs.length ≤ N.length) (hv : svs.length = vs.length) (kp : Kp g.pr (L2.start N vs) σ') (o : OwnI H (finR g.pr ρ' 0 svs) (vs.map some) i a) : i < svs.length ∧ i ∈ g.pr ∧ OwnI H ρ' σ' i a := by
  obtain ⟨s, e, o⟩ := o
  rw [finR_get] at e
  cases es : svs[i]? with
  | none => rw [es] at e; cases e
  | some t =>
    rw [es] at e
    have hi := (List.getElem?_eq_some_iff.mp es).1
    simp only [Option.map_some, Nat.zero_add, Option.some.injEq] at e
    by_cases hp : i ∈ g.pr
    · rw [if_pos hp] at e
      refine ⟨hi, hp, ?_⟩
      cases er : ρ'[i]? with
      | none =>
        rw [List.getD_eq_getElem?_getD, er] at e
        subst e
        exact (ownAt_un o).elim
      | some u =>
        rw [List.getD_eq_getElem?_getD, er] at e
        subst e
        refine ⟨_, er, ?_⟩
        rw [kp i hp, at_start hl, ← at_map]
        exact o
    · rw [if_neg hp] at e
      subst e
      exact (okArgs_at ha es hp _ a o).elim
theorem Rep.fin {n : Nat} (r0 : Rep K T Hs svs (vs.map some) H) (ha : okArgs g svs = true) (hn : svs.length + n = N.length) (r : Rep K T Hs' ρ' σ' H') (sh : Same Hs Hs') (kp : Kp g.pr (L2.start N vs) σ') : Rep K T Hs' (finR g.pr ρ' 0 svs) (vs.map some) H' := by
  have hv : svs.length = vs.length := by have := r0.len; simpa using this
  have hl : vs.length ≤ N.length := by omega
  refine ⟨r.sub, r.ntb, by rw [finR_len]; exact r0.len, fun i s e => ?_, fun i j a s t e1 e2 o1 o2 => ?_, r.tab⟩
  · rw [finR_get] at e
    cases es : svs[i]? with
    | none => rw [es] at e; cases e
    | some t =>
      rw [es] at e
      simp only [Option.map_some, Nat.zero_add, Option.some.injEq] at e
      by_cases hp : i ∈ g.pr
      · rw [if_pos hp] at e
        cases er : ρ'[i]? with
        | none =>
          rw [List.getD_eq_getElem?_getD, er] at e
          subst e
          trivial
        | some u =>
          rw [List.getD_eq_getElem?_getD, er] at e
          subst e
          have q := r.at_ i _ er
          rw [kp i hp, at_start hl, ← at_map] at q
          exact q
      · rw [if_neg hp] at e
        subst e
        exact (r0.at_ i t es).move sh fun a o => (okArgs_at ha es hp _ a o).elim
  · obtain ⟨_, _, s', f1, g1⟩ := fin_ownI ha hl hv kp ⟨s, e1, o1⟩
    obtain ⟨_, _, t', f2, g2⟩ := fin_ownI ha hl hv kp ⟨t, e2, o2⟩
    exact r.dis i j a s' t' f1 f2 g1 g2
theorem Grow.fin {n : Nat} (r0 : Rep K T Hs svs (vs.map some) H) (ha : okArgs g svs = true) (hn : svs.length + n = N.length) (gr : Grow (svs ++ List.replicate n .un) (L2.start N vs) Hs H ρ' σ' Hs' H') (kp : Kp g.pr (L2.start N vs) σ') :
    Grow svs (vs.map some) Hs H (finR g.pr ρ' 0 svs) (vs.map some) Hs' H' := by
  have hv : svs.length = vs.length := by have := r0.len; simpa using this
  have hl : vs.length ≤ N.length := by omega
  refine ⟨fun a o e nt no => gr.fr a o e nt fun ⟨i, ow⟩ => no ⟨i, (ownI_entry hl ow).2⟩, gr.dm, gr.sh, fun a e => ?_, fun i a o => ?_⟩
  · rcases gr.nw a e with z | z | ⟨i, z⟩
    · exact .inl z
    · exact .inr (.inl z)
    · exact .inr (.inr ⟨i, (ownI_entry hl z).2⟩)
  · obtain ⟨h1, h2, h3⟩ := fin_ownI ha hl hv kp o
    rcases gr.ow i a h3 with z | z
    · exact .inl (ownI_entry hl z).2
    · exact .inr z
end
section
variable {P : Program} {w : World} {K : PySem.W.Frag} {mg : Str → Option Value} {base : Heap} {T : Tbs}
theorem body_fin {K : PySem.W.Frag} {T : Tbs} {mg : Str → Option Value} {g : Sg} {N : List Str} {n : Nat} {svs : Rho} {vs : List V} {Hs H : Hp} {m : M Fl} {Q : VK} {E : XK} (ha : okArgs g svs = true) (hn : svs.length + (n - g.np) = N.length) (rp : Rep K T Hs svs (vs.map some) H)
    (p : PostF K T mg svs vs Hs H (match m (svs ++ List.replicate (n - g.np) .un) with
      | .ok (.ret ro) ρ' => .ok ro (finR g.pr ρ' 0 svs)
      | .ok .nx ρ' => .ok (.dat .none) (finR g.pr ρ' 0 svs)
      | .ok _ _ => .bad
      | .er e ρ' => .er e (finR g.pr ρ' 0 svs)
      | .bad => .bad) Q E) :
    PostS K T mg g (fun cls d _ H => E cls d H) { nx := fun _ H' => Q .non H', rt := Q } (svs ++ List.replicate (n - g.np) .un) (L2.start N vs) Hs H (m (svs ++ List.replicate (n - g.np) .un)) := by
  have hv : svs.length = vs.length := by have := rp.len; simpa using this
  cases e1 : m (svs ++ List.replicate (n - g.np) .un) with
  | bad => rw [e1] at p; exact p.elim
  | er e ρ' =>
    rw [e1] at p
    exact fun cls dd σ' H' Hs' r gr kp er => p cls dd H' Hs' (rp.fin ha hn r gr.sh kp) (Grow.fin rp ha hn gr kp) er
  | ok fl ρ' =>
    rw [e1] at p
    cases fl with
    | brk => exact p.elim
    | ct => exact p.elim
    | nx => exact fun σ' H' Hs' r gr kp => p .non H' Hs' (rp.fin ha hn r gr.sh kp) (Grow.fin rp ha hn gr kp) .non fun _ z => z.elim
    | ret ro =>
      have hl : vs.length ≤ N.length := by omega
      refine fun v σ' H' Hs' r gr kp rr nw => p v H' Hs' (rp.fin ha hn r gr.sh kp) (Grow.fin rp ha hn gr kp) ?_ fun a ra => ?_
      · cases ro with
        | dat x => exact rr
        | new s => exact ⟨rr.1, fun a oa ⟨i, ow⟩ => rr.2 a oa ⟨i, (fin_ownI ha hl hv kp ow).2.2⟩⟩
      · rcases nw a ra with z | ⟨i, hi, z⟩
        · exact z
        · have := (ownI_entry hl z).1
          rw [okArgs_len ha] at this; omega
/-- THE RULE for a def: its body does what m says -/
theorem fn_def {x qual : Str} {st : Stmt} {f : Addr} {fd : FuncData} {N ps : List Str} {gd : Bool} {k n : Nat} {g : Sg} {m : M Fl} (F : Fun K x qual st f fd) (S : FnScope N ps (defScope st)) (hps : ps.length = g.np) (hN : N.length = n)
    (hbody : ∀ (cdv : Value) (A : Around) (outer : List Env) (s : Shared) (H : Hp) (E : XK), (gd = true → A.guards = some []) → Room k (A.deeper (envOfC qual (defScope st) s.heap.objs.size f cdv)) →
      SimB T g (cxOf (L2.CX P w) P w K mg base N qual (defScope st) f cdv A outer s H E) (fun cls d _ H => E cls d H) (defBody st) m) : FnS P w K mg base T gd (k + 1) f fd ps (bodyF g n m) := by
  refine ⟨fun svs h => ?_, fun A outer s H args us vs Q E hg hr e0 hb rv hsp => ?_⟩
  · unfold bodyF at h
    by_cases ha : okArgs g svs = true
    · rw [okArgs_len ha, hps]
    · rw [if_neg ha] at h; exact absurd rfl h
  · obtain ⟨oc, od, kV, doc, pm, an, cdv, ct, osl, rfl, lk, hcd⟩ := F.ex
    obtain ⟨svs, Hs, rp, p⟩ := hsp
    unfold bodyF at p
    by_cases ha : okArgs g svs = true
    · rw [if_pos ha] at p
      have hv : svs.length = vs.length := by have := rp.len; simpa using this
      have hlen : vs.length = ps.length := by rw [← hv, okArgs_len ha, hps]
      have hNP : ps.length ≤ N.length := by
        have := S.pre
        have h2 : (N.take ps.length).length = ps.length := by rw [this]
        rw [List.length_take] at h2; omega
      have hn : svs.length + (n - g.np) = N.length := by rw [okArgs_len ha, hN]; omega
      refine LamX.run_ofS (N := N) (ps := ps) (us := us) (vs := vs) lk hcd S hr e0 hb rv hlen fun hr' => ?_
      refine ⟨_, hbody cdv A outer s H E hg hr', (svs ++ List.replicate (n - g.np) SV.un : Rho), Hs, rp.entry hn, ?_⟩
      exact body_fin ha hn rp p
    · rw [if_neg ha] at p; exact p.elim
end
end DS
end
section
set_option Elab.async false
set_option linter.all false
set_option maxRecDepth 100000
set_option maxHeartbeats 4000000
/-! DsJ: calls of defs -/
namespace DS
open PySem PySem.Spec PyProof.Rows L2
def RV.sv (ρ : Rho) : RV → Option SV
  | .dat x => some (.d x)
  | .slot i => match ρ[i]? with
    | some (.ol xs) => some (.ol xs)
    | some (.od xs) => some (.od xs)
    | some (.oo c fs) => some (.oo c fs)
    | _ => none
def svsOf (ρ : Rho) : List RV → Option (List SV)
  | [] => some []
  | r :: rs => (r.sv ρ).bind fun s => (svsOf ρ rs).map (s :: ·)
def slotsOf : List RV → List Nat
  | [] => []
  | .dat _ :: r => slotsOf r
  | .slot i :: r => i :: slotsOf r
def wb : List RV → List SV → Rho → Rho
  | .slot i :: r, s :: t, ρ => wb r t (ρ.set i s)
  | .dat _ :: r, _ :: t, ρ => wb r t ρ
  | _, _, ρ => ρ
def callD (F : FnSem) (rs : List RV) : M RO := fun ρ => match svsOf ρ rs with
  | some svs => if (slotsOf rs).Nodup then match F svs with
      | .ok ro svs' => .ok ro (wb rs svs' ρ)
      | .er e svs' => .er e (wb rs svs' ρ)
      | .bad => .bad
    else .bad
  | none => .bad
/-- as data: a new list is shared at once -/
def roD (r : RO) : M RV := fun ρ => match r with
  | .dat x => .ok (.dat x) ρ
  | .new (.ol xs) => .ok (.dat (.list xs)) ρ
  | .new _ => .bad
def roO (r : RO) : M SV := fun ρ => match r with
  | .new s => .ok s ρ
  | .dat _ => .bad
def mCall (F : FnSem) (mr : M (List RV)) : M RV := bnd mr fun rs => bnd (callD F rs) roD
def mCallO (F : FnSem) (mr : M (List RV)) : M SV := bnd mr fun rs => bnd (callD F rs) roO
section
variable {K : PySem.W.Frag} {T : Tbs} {mg : Str → Option Value} {g : Sg} {Hs H Hs' H' : Hp} {ρ ρ' svs svs' : Rho} {σ σ' : L2.St} {vs : List V} {rs : List RV}
theorem wb_len : ∀ (rs : List RV) (t : List SV) (ρ : Rho), (wb rs t ρ).length = ρ.length
  | [], t, ρ => by cases t <;> rfl
  | .slot i :: r, [], ρ => rfl
  | .slot i :: r, s :: t, ρ => by unfold wb; rw [wb_len r t]; simp
  | .dat _ :: r, [], ρ => rfl
  | .dat _ :: r, s :: t, ρ => by unfold wb; exact wb_len r t ρ
theorem wb_out : ∀ (rs : List RV) (t : List SV) (ρ : Rho) {j : Nat}, j ∉ slotsOf rs → (wb rs t ρ)[j]? = ρ[j]?
  | [], t, ρ, j, h => by cases t <;> rfl
  | .slot i :: r, [], ρ, j, h => rfl
  | .slot i :: r, s :: t, ρ, j, h => by
    unfold wb
    have h1 : i ≠ j := fun z => h (by unfold slotsOf; rw [z]; exact .head _)
    rw [wb_out r t _ (fun z => h (by unfold slotsOf; exact .tail _ z)), List.getElem?_set_ne h1]
  | .dat _ :: r, [], ρ, j, h => rfl
  | .dat _ :: r, s :: t, ρ, j, h => by unfold wb; exact wb_out r t ρ h
theorem wb_in : ∀ (rs : List RV) (t : List SV) (ρ : Rho) {j : Nat} {u : SV}, (slotsOf rs).Nodup → j ∈ slotsOf rs → rs.length = t.length → (wb rs t ρ)[j]? = some u → ∃ k : Nat, rs[k]? = some (.slot j) ∧ t[k]? = some u
  | [], t, ρ, j, u, nd, h, hl, e => by cases h
  | .slot i :: r, [], ρ, j, u, nd, h, hl, e => by simp at hl
  | .slot i :: r, s :: t, ρ, j, u, nd, h, hl, e => by
    unfold slotsOf at nd h
    unfold wb at e
    have nd' := List.nodup_cons.mp nd
    rcases List.mem_cons.mp h with z | z
    · subst z
      rw [wb_out r t _ nd'.1] at e
      by_cases hj : j < ρ.length
      · rw [List.getElem?_set_self hj] at e
        exact ⟨0, rfl, e⟩
      · rw [List.getElem?_eq_none (by rw [List.length_set]; omega)] at e; cases e
    · obtain ⟨k, h1, h2⟩ := wb_in r t _ nd'.2 z (by simpa using hl) e
      exact ⟨k + 1, by simpa using h1, by simpa using h2⟩
  | .dat _ :: r, [], ρ, j, u, nd, h, hl, e => by simp at hl
  | .dat _ :: r, s :: t, ρ, j, u, nd, h, hl, e => by
    unfold slotsOf at nd h
    unfold wb at e
    obtain ⟨k, h1, h2⟩ := wb_in r t _ nd h (by simpa using hl) e
    exact ⟨k + 1, by simpa using h1, by simpa using h2⟩
theorem aA_get : ∀ {rs : List RV} {vs : List V} {k : Nat} {r : RV}, aA K Hs σ rs vs → rs[k]? = some r → ∃ v, vs[k]? = some v ∧ RVRep K Hs σ r v
  | [], _, _, _, _, e => by simp at e
  | r :: rs, [], _, _, h, _ => h.elim
  | r :: rs, v :: vs, 0, _, h, e => by
    simp at e; subst e
    exact ⟨v, rfl, h.1⟩
  | r :: rs, v :: vs, k + 1, _, h, e => by
    obtain ⟨u, h1, h2⟩ := aA_get (k := k) h.2 (by simpa using e)
    exact ⟨u, by simpa using h1, h2⟩
theorem aA_len : ∀ {rs : List RV} {vs : List V}, aA K Hs σ rs vs → rs.length = vs.length
  | [], [], _ => rfl
  | [], _ :: _, h => h.elim
  | _ :: _, [], h => h.elim
  | _ :: rs, _ :: vs, h => by rw [List.length_cons, List.length_cons, aA_len h.2]
theorem svsOf_len : ∀ {rs : List RV} {svs : List SV}, svsOf ρ rs = some svs → svs.length = rs.length
  | [], _, e => by cases e; rfl
  | r :: rs, svs, e => by
    unfold svsOf at e
    cases e1 : r.sv ρ with
    | none => rw [e1] at e; cases e
    | some s =>
      rw [e1] at e
      cases e2 : svsOf ρ rs with
      | none => rw [e2] at e; cases e
      | some t =>
        rw [e2] at e
        cases e
        rw [List.length_cons, svsOf_len e2, List.length_cons]
theorem svsOf_get : ∀ {rs : List RV} {svs : List SV} {k : Nat} {s : SV}, svsOf ρ rs = some svs → svs[k]? = some s → ∃ r, rs[k]? = some r ∧ r.sv ρ = some s
  | [], _, _, _, e, h => by cases e; simp at h
  | r :: rs, svs, k, s, e, h => by
    unfold svsOf at e
    cases e1 : r.sv ρ with
    | none => rw [e1] at e; cases e
    | some s' =>
      rw [e1] at e
      cases e2 : svsOf ρ rs with
      | none => rw [e2] at e; cases e
      | some t =>
        rw [e2] at e
        cases e
        cases k with
        | zero => simp at h; subst h; exact ⟨r, rfl, e1⟩
        | succ k =>
          obtain ⟨r', h1, h2⟩ := svsOf_get (k := k) e2 (by simpa using h)
          exact ⟨r', by simpa using h1, h2⟩
theorem sv_slot {j : Nat} {s : SV} (h : RV.sv ρ (.slot j) = some s) : ρ[j]? = some s := by
  have h : (match ρ[j]? with
    | some (.ol xs) => some (SV.ol xs)
    | some (.od xs) => some (SV.od xs)
    | some (.oo c fs) => some (SV.oo c fs)
    | _ => none) = some s := h
  cases e : ρ[j]? with
  | none => rw [e] at h; cases h
  | some u =>
    rw [e] at h
    cases u with
    | un => cases h
    | d x => cases h
    | ol xs => cases h; rfl
    | od xs => cases h; rfl
    | oo c fs => cases h; rfl
theorem mem_slots : ∀ {rs : List RV} {j : Nat}, j ∈ slotsOf rs → ∃ k : Nat, rs[k]? = some (.slot j)
  | [], _, h => by cases h
  | .dat _ :: r, j, h => by
    obtain ⟨k, e⟩ := mem_slots (rs := r) h
    exact ⟨k + 1, by simpa using e⟩
  | .slot i :: r, j, h => by
    rcases List.mem_cons.mp h with z | z
    · subst z; exact ⟨0, rfl⟩
    · obtain ⟨k, e⟩ := mem_slots (rs := r) z
      exact ⟨k + 1, by simpa using e⟩
/-- the callee's slots against the heap -/
theorem Rep.args (r : Rep K T Hs ρ σ H) (ra : aA K Hs σ rs vs) (es : svsOf ρ rs = some svs) (nd : (slotsOf rs).Nodup) : Rep K T Hs svs (vs.map some) H := by
  have hl : svs.length = vs.length := by rw [svsOf_len es, aA_len ra]
  have back : ∀ {k : Nat} {s : SV} {a : Addr}, svs[k]? = some s → OwnAt H s (at? (vs.map some) k) a → ∃ j, rs[k]? = some (.slot j) ∧ ρ[j]? = some s ∧ OwnAt H s (at? σ j) a := fun {k s a} e o => by
    obtain ⟨q, h1, h2⟩ := svsOf_get es e
    obtain ⟨v, h3, h4⟩ := aA_get ra h1
    cases q with
    | dat x => cases h2; exact o.elim
    | slot j =>
      have h4 : at? σ j = some v := h4
      refine ⟨j, h1, sv_slot h2, ?_⟩
      rw [at_map, h3] at o
      rw [h4]; exact o
  refine ⟨r.sub, r.ntb, by simpa using hl, fun k s e => ?_, fun i j a s t e1 e2 o1 o2 => ?_, r.tab⟩
  · obtain ⟨q, h1, h2⟩ := svsOf_get es e
    obtain ⟨v, h3, h4⟩ := aA_get ra h1
    rw [at_map, h3]
    cases q with
    | dat x => cases h2; exact ⟨v, rfl, h4⟩
    | slot j =>
      have h4 : at? σ j = some v := h4
      have := r.at_ j s (sv_slot h2)
      rw [h4] at this; exact this
  · obtain ⟨p, h1, h2, h3⟩ := back e1 o1
    obtain ⟨q, h4, h5, h6⟩ := back e2 o2
    have epq := r.dis p q a s t h2 h5 h3 h6
    subst epq
    have key : ∀ {l : List RV} {i j : Nat}, (slotsOf l).Nodup → l[i]? = some (.slot p) → l[j]? = some (.slot p) → i = j := by
      intro l
      induction l with
      | nil => intro i j _ e; simp at e
      | cons x l ih =>
        intro i j nd e1 e2
        cases x with
        | dat _ =>
          cases i with
          | zero => simp at e1
          | succ i =>
            cases j with
            | zero => simp at e2
            | succ j => rw [ih (i := i) (j := j) nd (by simpa using e1) (by simpa using e2)]
        | slot m =>
          have nd' := List.nodup_cons.mp (show (m :: slotsOf l).Nodup from nd)
          have mem : ∀ {l : List RV} {i : Nat}, l[i]? = some (.slot p) → p ∈ slotsOf l := by
            intro l
            induction l with
            | nil => intro i e; simp at e
            | cons y l ih2 =>
              intro i e
              cases i with
              | zero =>
                simp at e; subst e
                exact .head _
              | succ i =>
                have := ih2 (i := i) (by simpa using e)
                cases y with
                | dat _ => exact this
                | slot _ => exact .tail _ this
          cases i with
          | zero =>
            simp at e1
            subst e1
            cases j with
            | zero => rfl
            | succ j => exact absurd (mem (by simpa using e2)) nd'.1
          | succ i =>
            cases j with
            | zero =>
              simp at e2
              subst e2
              exact absurd (mem (by simpa using e1)) nd'.1
            | succ j => rw [ih (i := i) (j := j) nd'.2 (by simpa using e1) (by simpa using e2)]
    exact key nd h1 h4
theorem args_own (r : Rep K T Hs ρ σ H) (ra : aA K Hs σ rs vs) (es : svsOf ρ rs = some svs) {k : Nat} {a : Addr} (o : OwnI H svs (vs.map some) k a) : ∃ j, rs[k]? = some (.slot j) ∧ OwnI H ρ σ j a := by
  obtain ⟨s, e, o⟩ := o
  obtain ⟨q, h1, h2⟩ := svsOf_get es e
  obtain ⟨v, h3, h4⟩ := aA_get ra h1
  cases q with
  | dat x => cases h2; exact o.elim
  | slot j =>
    have h4 : at? σ j = some v := h4
    refine ⟨j, h1, s, sv_slot h2, ?_⟩
    rw [at_map, h3] at o
    rw [h4]; exact o
theorem mem_slotsOf : ∀ {l : List RV} {k j : Nat}, l[k]? = some (.slot j) → j ∈ slotsOf l := by
  intro l
  induction l with
  | nil => intro k j e; simp at e
  | cons y l ih2 =>
    intro k j e
    cases k with
    | zero => simp at e; subst e; exact .head _
    | succ k =>
      have := ih2 (k := k) (j := j) (by simpa using e)
      cases y with
      | dat _ => exact this
      | slot _ => exact .tail _ this
/-- behind a call -/
theorem Rep.after (r : Rep K T Hs ρ σ H) (ra : aA K Hs σ rs vs) (es : svsOf ρ rs = some svs) (nd : (slotsOf rs).Nodup) (rc : Rep K T Hs' svs' (vs.map some) H') (gc : Grow svs (vs.map some) Hs H svs' (vs.map some) Hs' H') :
    Rep K T Hs' (wb rs svs' ρ) σ H' ∧ Grow ρ σ Hs H (wb rs svs' ρ) σ Hs' H' ∧ ∀ j a, OwnI H' (wb rs svs' ρ) σ j a → (∃ k, OwnI H' svs' (vs.map some) k a) ∨ OwnI H ρ σ j a := by
  have hlr : rs.length = svs'.length := by
    have h1 := rc.len
    have h2 := aA_len ra
    rw [List.length_map] at h1; omega
  have noc : ∀ {a : Addr}, ¬ Own H ρ σ a → ¬ Own H svs (vs.map some) a := fun {a} no ⟨k, o⟩ => by
    obtain ⟨j, _, oj⟩ := args_own r ra es o
    exact no ⟨j, oj⟩
  -- what slot j bears behind the call
  have inn : ∀ {j : Nat} {s : SV}, j ∈ slotsOf rs → (wb rs svs' ρ)[j]? = some s → ∃ (k : Nat) (v : V), rs[k]? = some (RV.slot j) ∧ svs'[k]? = some s ∧ vs[k]? = some v ∧ at? σ j = some v := fun {j s} hj e => by
    obtain ⟨k, h1, h2⟩ := wb_in rs svs' ρ nd hj hlr e
    obtain ⟨v, h3, h4⟩ := aA_get ra h1
    exact ⟨k, v, h1, h2, h3, h4⟩
  -- what no argument is stands as it was
  have out : ∀ {j : Nat} {s : SV} {a : Addr}, j ∉ slotsOf rs → ρ[j]? = some s → OwnAt H s (at? σ j) a → H' a = H a ∧ Hs' a = none := fun {j s a} hj e o => by
    obtain ⟨⟨u, hu, nt⟩, hn⟩ := (r.at_ j s e).owned o
    have nos : ¬ Own H svs (vs.map some) a := fun ⟨k, ok⟩ => by
      obtain ⟨i, hi, si, ei, oi⟩ := args_own r ra es ok
      have : j = i := r.dis j i a s si e ei o oi
      subst this
      exact hj (mem_slotsOf hi)
    refine ⟨by rw [hu]; exact gc.fr a u hu nt nos, ?_⟩
    cases q : Hs' a with
    | none => rfl
    | some z =>
      rcases gc.nw a (by rw [q]; simp) with z | z | z
      · exact absurd hn z
      · obtain ⟨ps, z⟩ := z _ hu; exact absurd z (nt ps)
      · exact absurd z nos
  have outI : ∀ {j : Nat} {s : SV}, j ∉ slotsOf rs → ρ[j]? = some s → ∀ a, OwnAt H' s (at? σ j) a ↔ OwnAt H s (at? σ j) a := fun {j s} hj e a => (r.at_ j s e).own_iff (fun b o => (out hj e o).1) a
  have ownk : ∀ {j : Nat} {s : SV} {a : Addr}, j ∈ slotsOf rs → (wb rs svs' ρ)[j]? = some s → OwnAt H' s (at? σ j) a → ∃ k, rs[k]? = some (RV.slot j) ∧ OwnI H' svs' (vs.map some) k a := fun {j s a} hj e o => by
    obtain ⟨k, v, h1, h2, h3, h4⟩ := inn hj e
    exact ⟨k, h1, s, h2, by rw [at_map, h3, ← h4]; exact o⟩
  have ownw : ∀ {j : Nat} {s : SV} {a : Addr}, (wb rs svs' ρ)[j]? = some s → OwnAt H' s (at? σ j) a → OwnI H ρ σ j a ∨ Fre H a := fun {j s a} e o => by
    by_cases hj : j ∈ slotsOf rs
    · obtain ⟨k, h1, h2⟩ := ownk hj e o
      rcases gc.ow k a h2 with z | z
      · obtain ⟨i, hi, oi⟩ := args_own r ra es z
        rw [h1] at hi; cases hi
        exact .inl oi
      · exact .inr z
    · rw [wb_out rs svs' ρ hj] at e
      exact .inl ⟨s, e, (outI hj e a).mp o⟩
  refine ⟨⟨rc.sub, rc.ntb, by rw [wb_len]; exact r.len, fun j s e => ?_, fun i j a s t e1 e2 o1 o2 => ?_, rc.tab⟩, ⟨fun a o e nt no => gc.fr a o e nt (noc no), gc.dm, gc.sh, fun a e => ?_, fun j a ⟨s, e, o⟩ => ownw e o⟩, fun j a ⟨s, e, o⟩ => ?_⟩
  · by_cases hj : j ∈ slotsOf rs
    · obtain ⟨k, v, h1, h2, h3, h4⟩ := inn hj e
      have := rc.at_ k s h2
      rw [at_map, h3] at this
      rw [h4]; exact this
    · rw [wb_out rs svs' ρ hj] at e
      exact (r.at_ j s e).move gc.sh fun a o => out hj e o
  · by_cases hi : i ∈ slotsOf rs
    · by_cases hj : j ∈ slotsOf rs
      · obtain ⟨k, h1, s', q1, q2⟩ := ownk hi e1 o1
        obtain ⟨m, h2, t', p1, p2⟩ := ownk hj e2 o2
        have := rc.dis k m a s' t' q1 p1 q2 p2
        subst this
        rw [h1] at h2; cases h2; rfl
      · exfalso
        obtain ⟨k, h1, h2⟩ := ownk hi e1 o1
        rw [wb_out rs svs' ρ hj] at e2
        have o2' := (outI hj e2 a).mp o2
        rcases gc.ow k a h2 with z | z
        · obtain ⟨m, hm, t', f1, f2⟩ := args_own r ra es z
          have := r.dis m j a t' t f1 e2 f2 o2'
          subst this
          exact hj (mem_slotsOf hm)
        · obtain ⟨⟨u, hu, nt⟩, _⟩ := (r.at_ j t e2).owned o2'
          obtain ⟨ps, z⟩ := z _ hu; exact nt ps z
    · rw [wb_out rs svs' ρ hi] at e1
      have o1' := (outI hi e1 a).mp o1
      by_cases hj : j ∈ slotsOf rs
      · exfalso
        obtain ⟨k, h1, h2⟩ := ownk hj e2 o2
        rcases gc.ow k a h2 with z | z
        · obtain ⟨m, hm, t', f1, f2⟩ := args_own r ra es z
          have := r.dis m i a t' s f1 e1 f2 o1'
          subst this
          exact hi (mem_slotsOf hm)
        · obtain ⟨⟨u, hu, nt⟩, _⟩ := (r.at_ i s e1).owned o1'
          obtain ⟨ps, z⟩ := z _ hu; exact nt ps z
      · rw [wb_out rs svs' ρ hj] at e2
        exact r.dis i j a s t e1 e2 o1' ((outI hj e2 a).mp o2)
  · rcases gc.nw a e with z | z | ⟨k, z⟩
    · exact .inl z
    · exact .inr (.inl z)
    · obtain ⟨j, _, oj⟩ := args_own r ra es z
      exact .inr (.inr ⟨j, oj⟩)
  · by_cases hj : j ∈ slotsOf rs
    · obtain ⟨k, h1, h2⟩ := ownk hj e o
      exact .inl ⟨k, h2⟩
    · rw [wb_out rs svs' ρ hj] at e
      exact .inr ⟨s, e, (outI hj e a).mp o⟩
/-- a new list is shared -/
theorem Rep.share {L : Addr} {us : List V} (r : Rep K T Hs ρ σ H) (h : H L = some (.lst us)) (n : Hs L = none) (no : ¬ Own H ρ σ L) : Rep K T (upd Hs L (.lst us)) ρ σ H := by
  have sub : Same (upd Hs L (.lst us)) H := fun a o e => by
    by_cases ha : a = L
    · subst ha; rw [upd_same] at e; cases e; exact h
    · rw [upd_ne ha] at e; exact r.sub a o e
  refine r.move sub (ntb_upd r.ntb fun _ z => nomatch z) (same_upd n) (fun a ow => ⟨rfl, ?_⟩) r.tab
  rw [upd_ne (fun z => no (by rw [← z]; exact ow))]
  exact (r.owned ow).2
theorem Grow.share {L : Addr} {o : HO} (gr : Grow ρ σ Hs H ρ' σ' Hs' H') (h : Fre H L) (n : Hs' L = none) : Grow ρ σ Hs H ρ' σ' (upd Hs' L o) H' :=
  ⟨gr.fr, gr.dm, gr.sh.trans (same_upd n), fun a e => by
    by_cases ha : a = L
    · rw [ha]; exact .inr (.inl h)
    · rw [upd_ne ha] at e; exact gr.nw a e, gr.ow⟩
end
section
variable {T : Tbs} {g : Sg} {X : Cx} {W : WX} {e : Expr} {es : List Expr} {mr : M (List RV)} {F : FnSem}
theorem callD_end {K : PySem.W.Frag} {mg : Str → Option Value} {σ : L2.St} {Hs H : Hp} {ρ : Rho} {rs : List RV} {vs : List V} {Q : V → Hp → Prop} {α : Type} {kd : Kd α V} {h : RO → M α} (rp : Rep K T Hs ρ σ H) (ra : aA K Hs σ rs vs) (p : Post K T mg W kd ρ σ Hs H ((bnd (callD F rs) h) ρ) Q)
    (hk : ∀ ro ρ' Hs' H' v, Rep K T Hs' ρ' σ H' → Grow ρ σ Hs H ρ' σ Hs' H' → (∀ a, RONew H' ro v a → Fre H a) → (∀ s, ro = .new s → SRep K T Hs' H' s (some v) ∧ ∀ a, OwnAt H' s (some v) a → ¬ Own H' ρ' σ a) → (∀ x, ro = .dat x → Dp K Hs' v x) → Post K T mg W kd ρ σ Hs H (h ro ρ') Q → Q v H') :
    spG K T mg F vs H Q (WE W σ) := by
  unfold DS.bnd callD at p
  cases es : svsOf ρ rs with
  | none => rw [es] at p; exact p.elim
  | some svs =>
    rw [es] at p
    dsimp only at p
    by_cases nd : (slotsOf rs).Nodup
    · rw [if_pos nd] at p
      refine ⟨svs, Hs, rp.args ra es nd, ?_⟩
      cases ef : F svs with
      | bad => rw [ef] at p; exact p.elim
      | er e svs' =>
        rw [ef] at p
        intro cls dd H' Hs' rc gc er
        obtain ⟨r2, g2, g3⟩ := rp.after ra es nd rc gc
        exact p cls dd H' Hs' r2 g2 er
      | ok ro svs' =>
        rw [ef] at p
        intro v H' Hs' rc gc rr nw
        obtain ⟨r2, g2, g3⟩ := rp.after ra es nd rc gc
        refine hk ro _ Hs' H' v r2 g2 nw (fun s e => ?_) (fun x e => ?_) p
        · subst e
          refine ⟨rr.1, fun a oa ow => ?_⟩
          obtain ⟨j, oj⟩ := ow
          rcases g3 j a oj with ow | ⟨s2, e2, o2⟩
          · exact rr.2 a oa ow
          · obtain ⟨⟨u, hu, nt⟩, _⟩ := (rp.at_ j s2 e2).owned o2
            obtain ⟨ps, z⟩ := nw a oa _ hu
            exact nt ps z
        · subst e; exact rr
    · rw [if_neg nd] at p; exact p.elim
end
end DS
end
section
set_option Elab.async false
set_option linter.all false
set_option maxRecDepth 100000
set_option maxHeartbeats 4000000
/-! DsK: rules for calls -/
namespace DS
open PySem PySem.Spec PyProof.Rows L2
def pickL {α : Type} (idx : List Nat) (l : List α) : List α := idx.filterMap fun i => l[i]?
theorem vals_at : ∀ {vs : List V} {us : List Value} (i : Nat), Vals vs us → (vs[i]? = none ∧ us[i]? = none) ∨ ∃ v u, vs[i]? = some v ∧ us[i]? = some u ∧ RelV v u
  | [], [], i, _ => .inl ⟨rfl, rfl⟩
  | v :: vs, u :: us, 0, h => by
    cases h with
    | cons a b => exact .inr ⟨v, u, rfl, rfl, a⟩
  | v :: vs, u :: us, i + 1, h => by
    cases h with
    | cons a b => simpa using vals_at i b
theorem pick_vals {vs : List V} {us : List Value} (h : Vals vs us) : ∀ idx : List Nat, Vals (pickL idx vs) (pickL idx us)
  | [] => .nil
  | i :: r => by
    unfold pickL
    rcases vals_at i h with ⟨a, b⟩ | ⟨v, u, a, b, c⟩
    · rw [List.filterMap_cons_none a, List.filterMap_cons_none b]; exact pick_vals h r
    · rw [List.filterMap_cons_some a, List.filterMap_cons_some b]; exact .cons c (pick_vals h r)
section
variable {K : PySem.W.Frag} {Hs : Hp} {σ : L2.St}
theorem aA_at : ∀ {rs : List RV} {vs : List V} (i : Nat), aA K Hs σ rs vs → (rs[i]? = none ∧ vs[i]? = none) ∨ ∃ v u, rs[i]? = some v ∧ vs[i]? = some u ∧ RVRep K Hs σ v u
  | [], [], i, _ => .inl ⟨rfl, rfl⟩
  | [], _ :: _, i, h => h.elim
  | _ :: _, [], i, h => h.elim
  | v :: vs, u :: us, 0, h => .inr ⟨v, u, rfl, rfl, h.1⟩
  | v :: vs, u :: us, i + 1, h => by simpa using aA_at i h.2
theorem pick_aA {rs : List RV} {vs : List V} (h : aA K Hs σ rs vs) : ∀ idx : List Nat, aA K Hs σ (pickL idx rs) (pickL idx vs)
  | [] => trivial
  | i :: r => by
    unfold pickL
    rcases aA_at i h with ⟨a, b⟩ | ⟨v, u, a, b, c⟩
    · rw [List.filterMap_cons_none a, List.filterMap_cons_none b]; exact pick_aA h r
    · rw [List.filterMap_cons_some a, List.filterMap_cons_some b]; exact ⟨c, pick_aA h r⟩
theorem aA_app : ∀ {rs zs : List RV} {vs us : List V}, aA K Hs σ rs vs → aA K Hs σ zs us → aA K Hs σ (rs ++ zs) (vs ++ us)
  | [], zs, [], us, _, h => h
  | [], _, _ :: _, _, h, _ => h.elim
  | _ :: _, _, [], _, h, _ => h.elim
  | r :: rs, zs, v :: vs, us, h, h2 => ⟨h.1, aA_app h.2 h2⟩
end
/-- how a call with keywords binds -/
def KB (K : PySem.W.Frag) (fd : FuncData) (ps ks : List Str) (np : Nat) (idx : List Nat) : Prop := ∀ (s : Shared) (us ws : List Value), K.In s.heap → us.length = np → ws.length = ks.length → BindsTo s fd ⟨us, ks.zip ws⟩ (ps.zip (pickL idx (us ++ ws)))
def mCallK {α : Type} (F : FnSem) (np nk : Nat) (idx : List Nat) (h : RO → M α) (mr mk : M (List RV)) : M α := bnd mr fun rs => bnd mk fun zs => if rs.length = np ∧ zs.length = nk then bnd (callD F (pickL idx (rs ++ zs))) h else bad
def mCallKE (F : FnSem) (np nk : Nat) (idx : List Nat) (mr mk : M (List RV)) : M RV := mCallK F np nk idx roD mr mk
def mCallKO (F : FnSem) (np nk : Nat) (idx : List Nat) (mr mk : M (List RV)) : M SV := mCallK F np nk idx roO mr mk
section
variable {X : Cx} {T : Tbs} {W : WX} {gd : Bool} {k : Nat} {f : Addr} {fd : FuncData} {ps ks : List Str} {F : FnSem} {x : Str} {p pos : Pos} {e : Expr} {es : List Expr} {kws : List Keyword} {t tk : TA} {np : Nat} {idx : List Nat}
theorem run_ds {pins : List (Addr × Obj)} {σ : L2.St} {H : Hp} {s : Shared} {Q : VK} {args : Args} {us : List Value} {vs : List V} (G : FnS X.prog X.w X.K X.mg X.base T gd k f fd ps F) (hg : gd = true → X.A.guards = some []) (hr : Room k X.A) (tk : Takes X W) (I : Inv X pins σ H s)
    (hb : us.length = ps.length → BindsTo s fd args (ps.zip us)) (r : Vals vs us) (h : spG X.K T X.mg F vs H Q (WE W σ)) : wpAny (model X.prog X.w) X.A (call (.ref f) args.pos args.kw) (EP X pins σ Q) X.xe s := by
  have hl : us.length = ps.length := by
    obtain ⟨svs, Hs, rp, q⟩ := h
    rw [← r.length, ← G.len svs fun z => by rw [z] at q; exact q]
    have := rp.len
    rw [List.length_map] at this; exact this.symm
  refine wpAny_call (codeAny_mono (G.run X.A X.stack s H args us vs Q (WE W σ) hg hr I.env0 (hb hl) r h) fun r s' hq => ?_)
  cases r with
  | error e => exact passAt tk σ pins H s e s' I hq
  | ok fl =>
    cases fl with
    | ret u => exact I.after hq
    | next => exact False.elim hq
    | brk => exact False.elim hq
    | cont => exact False.elim hq
def tCallG (T : Tbs) (X : Cx) (W : WX) (F : FnSem) (t : TA) : TE := fun σ H Q => t σ H fun vs H1 => spG X.K T X.mg F vs H1 Q (WE W σ)
def tCallGK (T : Tbs) (X : Cx) (W : WX) (F : FnSem) (np nk : Nat) (idx : List Nat) (t tk : TA) : TE := fun σ H Q => t σ H fun vs H1 => tk σ H1 fun zs H2 => vs.length = np ∧ zs.length = nk ∧ spG X.K T X.mg F (pickL idx (vs ++ zs)) H2 Q (WE W σ)
theorem pe_ds (G : FnS X.prog X.w X.K X.mg X.base T gd k f fd ps F) (hg : gd = true → X.A.guards = some []) (hr : Room k X.A) (tk : Takes X W) (gl : Gl X x) (hm : X.mg x = some (.ref f)) (hk : PySem.W.keepIn X.K (.ref f) = true) (hb : Binds X.K fd ps [])
    (ha : PA X (e :: es) t) (hdb : (x == ("__debug__" : Str)) = false := by decide) (he : starEach (e :: es) X.env = (false, eval e X.env) :: starEach es X.env := by rfl) (hpl : (backTo pos (starEach es X.env)).any (·.1) = false := by rfl) :
    PE X (.Call (.Name x p) (e :: es) [] pos) (tCallG T X W F t) := by
  refine ⟨fun pins s σ H Q I h => ?_⟩
  refine wpAny_Call_Name_kw (ld_glob I gl hm ?_ hdb)
  refine PySem.W.callWith_K (h₀ := X.base) I.ok.mod.kin hk (thn (ha.run pos pins s σ H _ I h) fun us s1 ⟨vs, H1, I1, r, q⟩ => ⟨I1.kIn, ?_⟩) he hpl
  refine run_ds (args := ⟨us, []⟩) G hg hr tk I1 (fun hl => ?_) r q
  have b := hb s1 us I1.kIn (by rw [List.append_nil]; exact hl)
  rw [List.append_nil] at b
  exact b
theorem pe_ds0 (G : FnS X.prog X.w X.K X.mg X.base T gd k f fd ps F) (hg : gd = true → X.A.guards = some []) (hr : Room k X.A) (tk : Takes X W) (gl : Gl X x) (hm : X.mg x = some (.ref f)) (hk : PySem.W.keepIn X.K (.ref f) = true) (hb : Binds X.K fd ps [])
    (hdb : (x == ("__debug__" : Str)) = false := by decide) : PE X (.Call (.Name x p) [] [] pos) (tCallG T X W F tNil) := by
  refine ⟨fun pins s σ H Q I h => ?_⟩
  refine wpAny_Call_Name_kw (ld_glob I gl hm ?_ hdb)
  refine PySem.W.callWith_K0 I.kIn hk ?_
  exact run_ds (args := ⟨[], []⟩) (us := []) (vs := []) G hg hr tk I (fun hl => hb s [] I.kIn hl) .nil h
theorem pe_dsK (G : FnS X.prog X.w X.K X.mg X.base T gd k f fd ps F) (hg : gd = true → X.A.guards = some []) (hr : Room k X.A) (tk' : Takes X W) (gl : Gl X x) (hm : X.mg x = some (.ref f)) (hk : PySem.W.keepIn X.K (.ref f) = true) (hb : KB X.K fd ps ks np idx)
    (ha : PA X (e :: es) t) (hkw : PK X kws tk) (hall : (backToKw pos (keywordEach kws X.env)).all (·.1.isSome) = true := by rfl) (hks : (backToKw pos (keywordEach kws X.env)).filterMap (·.1) = ks := by rfl)
    (hdb : (x == ("__debug__" : Str)) = false := by decide) (he : starEach (e :: es) X.env = (false, eval e X.env) :: starEach es X.env := by rfl)
    (hpl : ((backTo pos (starEach (e :: es) X.env)).any (·.1) || (backToKw pos (keywordEach kws X.env)).any (·.1.isNone)) = false := by rfl) :
    PE X (.Call (.Name x p) (e :: es) kws pos) (tCallGK T X W F np ks.length idx t tk) := by
  refine ⟨fun pins s σ H Q I h => ?_⟩
  refine wpAny_Call_Name_kw (ld_glob I gl hm ?_ hdb)
  refine PySem.W.callWith_KW (h₀ := X.base) I.ok.mod.kin hk hall (thn (ha.run pos pins s σ H _ I h) fun us s1 ⟨vs, H1, I1, r, q⟩ => ?_) hpl he
  refine thn (hkw.run pos pins s1 σ H1 _ I1 q) fun ws s2 ⟨zs, H2, I2, rz, n1, n2, q2⟩ => ⟨I2.kIn, ?_⟩
  rw [hks]
  exact run_ds (args := ⟨us, ks.zip ws⟩) (us := pickL idx (us ++ ws)) G hg hr tk' I2 (fun _ => hb s2 us ws I2.kIn (by rw [← r.length]; exact n1) (by rw [← rz.length]; exact n2)) (pick_vals (r.append rz) idx) q2
theorem pe_dsK0 (G : FnS X.prog X.w X.K X.mg X.base T gd k f fd ps F) (hg : gd = true → X.A.guards = some []) (hr : Room k X.A) (tk' : Takes X W) (gl : Gl X x) (hm : X.mg x = some (.ref f)) (hk : PySem.W.keepIn X.K (.ref f) = true) (hb : KB X.K fd ps ks 0 idx)
    (hkw : PK X kws tk) (hall : (backToKw pos (keywordEach kws X.env)).all (·.1.isSome) = true := by rfl) (hks : (backToKw pos (keywordEach kws X.env)).filterMap (·.1) = ks := by rfl)
    (hdb : (x == ("__debug__" : Str)) = false := by decide)
    (hpl : ((backTo pos (starEach [] X.env)).any (·.1) || (backToKw pos (keywordEach kws X.env)).any (·.1.isNone)) = false := by rfl) :
    PE X (.Call (.Name x p) [] kws pos) (tCallGK T X W F 0 ks.length idx tNil tk) := by
  refine ⟨fun pins s σ H Q I h => ?_⟩
  refine wpAny_Call_Name_kw (ld_glob I gl hm ?_ hdb)
  refine PySem.W.callWith_KW0 (h₀ := X.base) I.ok.mod.kin hk hall (thn (hkw.run pos pins s σ H _ I h) fun ws s2 ⟨zs, H2, I2, rz, n1, n2, q2⟩ => ⟨I2.kIn, ?_⟩) hpl
  rw [hks]
  exact run_ds (args := ⟨[], ks.zip ws⟩) (us := pickL idx ([] ++ ws)) G hg hr tk' I2 (fun _ => hb s2 [] ws I2.kIn rfl (by rw [← rz.length]; exact n2)) (pick_vals (vs := [] ++ zs) rz idx) q2
/-! from readings to meanings -/
variable {K : PySem.W.Frag} {mg : Str → Option Value}
theorem roD_end {σ : L2.St} {Hs H : Hp} {ρ : Rho} {rs : List RV} {vs : List V} {Q : VK} (rp : Rep K T Hs ρ σ H) (ra : aA K Hs σ rs vs) (p : Post K T mg W (kE K) ρ σ Hs H ((bnd (callD F rs) roD) ρ) Q) : spG K T mg F vs H Q (WE W σ) :=
  callD_end rp ra p fun ro ρ' Hs' H' v r g nw hn hd p => by
    cases ro with
    | dat x => exact p v H' Hs' r g (hd x rfl) fun _ z => z.elim
    | new s =>
      cases s with
      | un => exact p.elim
      | d x => exact p.elim
      | od x => exact p.elim
      | oo c fs => exact p.elim
      | ol xs =>
        obtain ⟨⟨q, us, e1, e2, e3, e4⟩, no⟩ := hn _ rfl
        cases e1
        have no' : ¬ Own H' ρ' σ q := no q rfl
        have n0 : Fre H q := nw q rfl
        refine p _ H' _ (r.share e2 e4 no') (g.share n0 e4) ?_ fun _ z => z.elim
        exact Dp.lst (SqL.of upd_same) (dpAll_mono (same_upd e4) e3)
theorem roO_end {σ : L2.St} {Hs H : Hp} {ρ : Rho} {rs : List RV} {vs : List V} {Q : VK} (rp : Rep K T Hs ρ σ H) (ra : aA K Hs σ rs vs) (p : Post K T mg W (kO K T) ρ σ Hs H ((bnd (callD F rs) roO) ρ) Q) : spG K T mg F vs H Q (WE W σ) :=
  callD_end rp ra p fun ro ρ' Hs' H' v r g nw hn hd p => by
    cases ro with
    | dat x => exact p.elim
    | new s => exact p v H' Hs' r g (hn s rfl) nw
variable {mr mk : M (List RV)} {α β : Type} {kd : Kd α V} {h : RO → M α}
theorem tcall {Q : VK} {σ : L2.St} {H : Hp} (hh : ∀ {σ : L2.St} {Hs H : Hp} {ρ : Rho} {rs : List RV} {vs : List V} {Q : VK}, Rep X.K T Hs ρ σ H → aA X.K Hs σ rs vs → Post X.K T X.mg W kd ρ σ Hs H ((bnd (callD F rs) h) ρ) Q → spG X.K T X.mg F vs H Q (WE W σ))
    (q : tM X.K T X.mg W kd (bnd mr fun rs => bnd (callD F rs) h) σ H Q) : tCallG T X W F (tM X.K T X.mg W (kA X.K) mr) σ H Q :=
  tM_bnd q fun rs ρ1 vs H1 Hs1 rp1 _ ra p => hh rp1 ra p
theorem tcallK {nk : Nat} {Q : VK} {σ : L2.St} {H : Hp} (hh : ∀ {σ : L2.St} {Hs H : Hp} {ρ : Rho} {rs : List RV} {vs : List V} {Q : VK}, Rep X.K T Hs ρ σ H → aA X.K Hs σ rs vs → Post X.K T X.mg W kd ρ σ Hs H ((bnd (callD F rs) h) ρ) Q → spG X.K T X.mg F vs H Q (WE W σ))
    (q : tM X.K T X.mg W kd (mCallK F np nk idx h mr mk) σ H Q) : tCallGK T X W F np nk idx (tM X.K T X.mg W (kA X.K) mr) (tM X.K T X.mg W (kA X.K) mk) σ H Q :=
  tM_bnd q fun rs ρ1 vs H1 Hs1 rp1 _ ra p => ⟨ρ1, Hs1, rp1, Post.bnd (r := mk ρ1) p fun zs ρ2 us H2 Hs2 rp2 g2 rz p2 => by
    have p2 : Post X.K T X.mg W kd ρ2 σ Hs2 H2 ((if rs.length = np ∧ zs.length = nk then bnd (callD F (pickL idx (rs ++ zs))) h else bad) ρ2) Q := p2
    by_cases hn : rs.length = np ∧ zs.length = nk
    · rw [if_pos hn] at p2
      exact ⟨by rw [← aA_len ra]; exact hn.1, by rw [← aA_len rz]; exact hn.2, hh rp2 (pick_aA (aA_app (aA_grow ra g2) rz) idx) p2⟩
    · rw [if_neg hn] at p2; exact p2.elim⟩
theorem sim_call (h : PE X (.Call (.Name x p) es kws pos) (tCallG T X W F (tM X.K T X.mg W (kA X.K) mr))) : SimE T X W (.Call (.Name x p) es kws pos) (mCall F mr) := pe_imp h fun σ H Q q => tcall (kd := kE X.K) (h := roD) roD_end q
theorem so_call (h : PE X (.Call (.Name x p) es kws pos) (tCallG T X W F (tM X.K T X.mg W (kA X.K) mr))) : SimO T X W (.Call (.Name x p) es kws pos) (mCallO F mr) := pe_imp h fun σ H Q q => tcall (kd := kO X.K T) (h := roO) roO_end q
theorem sim_callK {nk : Nat} (h : PE X (.Call (.Name x p) es kws pos) (tCallGK T X W F np nk idx (tM X.K T X.mg W (kA X.K) mr) (tM X.K T X.mg W (kA X.K) mk))) : SimE T X W (.Call (.Name x p) es kws pos) (mCallKE F np nk idx mr mk) := pe_imp h fun σ H Q q => tcallK (kd := kE X.K) (h := roD) roD_end q
theorem so_callK {nk : Nat} (h : PE X (.Call (.Name x p) es kws pos) (tCallGK T X W F np nk idx (tM X.K T X.mg W (kA X.K) mr) (tM X.K T X.mg W (kA X.K) mk))) : SimO T X W (.Call (.Name x p) es kws pos) (mCallKO F np nk idx mr mk) := pe_imp h fun σ H Q q => tcallK (kd := kO X.K T) (h := roO) roO_end q
def SimK (T : Tbs) (X : Cx) (W : WX) (kws : List Keyword) (m : M (List RV)) : Prop := PK X kws (tM X.K T X.mg W (kA X.K) m)
theorem sk_nil : SimK T X W [] mNil := ⟨fun pos pins s σ H Q I ⟨ρ, Hs, rp, p⟩ => pk_nil.run pos pins s σ H Q I (post_ok (k := kA X.K) (v := []) p rp trivial fun _ z => z.elim)⟩
theorem sk_cons {nm : Option Str} {kpos : Pos} {ma : M RV} (ha : SimE T X W e ma) (hr : SimK T X W kws mr) : SimK T X W (⟨nm, e, kpos⟩ :: kws) (mCons ma mr) :=
  ⟨fun pos pins s σ H Q I q => (pk_cons ha hr).run pos pins s σ H Q I (tM_bnd q fun a ρ1 v H1 Hs1 rp1 _ ra p => ⟨ρ1, Hs1, rp1, Post.bnd (r := mr ρ1) p fun rs ρ2 us H2 Hs2 rp2 g2 rb p2 => post_ok (v := v :: us) p2 rp2 ⟨rv_grow ra g2, rb⟩ fun _ z => z.elim⟩)⟩
end
end DS
end
section
set_option Elab.async false
set_option linter.all false
set_option maxRecDepth 100000
set_option maxHeartbeats 4000000
/-! DsL: own errors: super().__init__('m'); self.f = f -/
namespace PySem
namespace OwnErr
open PySem.W PySem.Calls PyProof.Rows PySem.HandSPX
def eA (f : Str) (p1 p2 : Pos) : Arguments := { posonlyargs := [], args := [{ arg := "self", annotation := none, pos := p1 }, { arg := f, annotation := none, pos := p2 }], vararg := none, kwonlyargs := [], kw_defaults := [], kwarg := none, defaults := [] }
def eB (f msg : Str) (n : Nat) (r0 r1 r2 r3 r4 q1 q2 q3 q4 : Pos) : List Stmt :=
  [.Expr (.Call (.Attribute (.Call (.Name "super" r0) [] [] r1) "__init__" r2) [.Constant (.str msg) n r3] [] r4) r4, .Assign [.Attribute (.Name "self" q1) f q2] (.Name f q3) q4]
def eS (f : Str) : Scope := { kind := .function, names := [(PySem.Str.ofString "self", .local), (f, .local), (PySem.Str.ofString "__class__", .free), (PySem.Str.ofString "super", .globalImplicit)], isGenerator := false, isCoroutine := false, more := [] }
theorem mc_line {o : Expr} {nm : Str} {env : Env} {r2 r4 : Pos} {args : List Expr} (h : (r2.endLine == r4.line) = true) (hn : eval (.Call (.Attribute o nm r2) args [] r4) env = (do
      let ov ← attributeBase o nm env (eval o env)
      standAt r2.atName
      methodCall o nm r2 r4 env ov (args.length + 0) (backTo r4 (starEach args env)) []) := by rfl) : eval (.Call (.Attribute o nm r2) args [] r4) env = (do
      let ov ← attributeBase o nm env (eval o env)
      standAt r2.atName
      let (f, first) ← holding [ov] (calleeOf (methodCallForm (args.length + 0) (backTo r4 (starEach args env)) []) o env ov nm)
      callWith r4 f first (backTo r4 (starEach args env)) []) := by
  rw [hn]
  congr 1; funext ov; congr 1; funext _
  unfold methodCall methodCallPos
  congr 1; funext p
  obtain ⟨a, b⟩ := p
  dsimp only
  rw [h, Bool.or_true, if_pos rfl]
  exact pure_bind _ _
theorem super_line {env : Env} {r0 r1 r2 r3 r4 : Pos} {n : Nat} {msg : Str} (h : (r2.endLine == r4.line) = true) : eval (.Call (.Attribute (.Call (.Name "super" r0) [] [] r1) "__init__" r2) [.Constant (.str msg) n r3] [] r4) env = (do
      let ov ← attributeBase (.Call (.Name "super" r0) [] [] r1) "__init__" env (eval (.Call (.Name "super" r0) [] [] r1) env)
      standAt r2.atName
      let (f, first) ← holding [ov] (getMethod ov "__init__" (do return (← importBound (.Call (.Name "super" r0) [] [] r1) env).getD true))
      callWith r4 f first (backTo r4 (starEach [.Constant (.str msg) n r3] env)) []) := mc_line h
/-- what the written part says of such a class, at C, and of its __init__, at fI -/
structure OErr (P : Program) (K : Frag) (mg : Str → Option Value) (x f msg : Str) (C fI : Addr) : Prop where
  gC : mg x = some (.ref C)
  cls : ∃ nm q N bs bm sn sub ab col dd k0 k1 k2 k3 k5, K.lookup C = some (excClassObj nm q C N bs bm true sn sub ab col dd k0 k1 k2 k3 k5 "ValueError.__new__") ∧ refsVE bm = true
  sa : findIn K (.ref C) "__setattr__" = some (some (.builtin "object.__setattr__"))
  noN : findIn K (.ref C) f = some none
  iC : findIn K (.ref C) "__init__" = some (some (.ref fI))
  tC : typeIn K (.ref fI) = some (.type "function")
  kC : keepIn K (.ref C) = true
  exC : subIn K (.ref C) (.type "BaseException") = some true
  tyC : typeIn K (.ref C) = some (.type "type")
  veC : subIn K (.ref C) (.type "ValueError") = some true
  mroC : mroIn K C (.ref C) = some true
  sup : ks_superIn K C C "__init__" = some (some (.builtin "ValueError.__init__"))
  opq : nsIn K cStatics "thirdparty.any" = some none
  nosup : mg "super" = none
  top : (P.main.scope.names.lookup ("super" : Str)).isSome = false
  fn : ∃ (oc ct cl ccl : Value) (od cld cdd : Option Addr) (doc pm : Value) (an : Option Addr) (osl csl ccs : Array (Option Value)) (cc cda : Addr) (qual file : Str) (tf : Tok) (vs : Array Value) (n : Nat) (p1 p2 r0 r1 r2 r3 r4 q1 q2 q3 q4 : Pos),
    K.lookup fI = some ⟨oc, od, .func (ksFn "__init__" qual (eA f p1 p2) (eB f msg n r0 r1 r2 r3 r4 q1 q2 q3 q4) (eS f) .none .none doc pm an (.ref cda) ct cc), osl⟩ ∧ codeIn K (.ref cda) qual = true ∧
    K.lookup cda = some ⟨ccl, cdd, .fields vs, ccs⟩ ∧ vs[2]? = some (.str file tf) ∧ ((P.main.file : Str) == file) = true ∧ K.lookup cc = some ⟨cl, cld, .cell (some (.ref C)), csl⟩ ∧
    (∀ u v : Value, bindArgs (ksFn "__init__" qual (eA f p1 p2) (eB f msg n r0 r1 r2 r3 r4 q1 q2 q3 q4) (eS f) .none .none doc pm an (.ref cda) ct cc) ⟨[u, v], []⟩ = pure [(("self" : Str), u), (f, v)]) ∧ (r2.endLine == r4.line) = true
  ne : (f == ("self" : Str)) = false
  nd : (f == ("__debug__" : Str)) = false
  nc : (f == ("__class__" : Str)) = false
  nu : (f == ("super" : Str)) = false
/-- what the making leaves -/
structure InitE (h h' : Heap) (x C dx t1 : Addr) (f : Str) (v : Value) : Prop where
  stay : ∀ b o, b ≠ x → h.get? b = some o → h'.get? b = some o
  obj : h'.get? x = some { cls := .ref C, dict := some dx, data := .fields #[.ref t1, .none, .none, .none, .bool false, .none] }
  dbig : h.objs.size ≤ dx
  dne : dx ≠ x
  ns : h'.Ns1 dx (fun y => if y = f then some v else none)
structure MadeE (h h' : Heap) (e C d : Addr) (f : Str) (v : Value) : Prop where
  stay : ∀ b o, h.get? b = some o → h'.get? b = some o
  new : h.objs.size ≤ e
  obj : ∃ oe vs, h'.get? e = some oe ∧ oe.cls = .ref C ∧ oe.dict = some d ∧ oe.data = .fields vs ∧ vs[1]? = some .none
  dbig : h.objs.size ≤ d
  dne : d ≠ e
  ns : h'.Ns1 d (fun y => if y = f then some v else none)
section
variable {P : Program} {w : World} {A : Around} {E : Value → Shared → Prop} {R : Result → Shared → Prop} {s : Shared} {K : Frag} {mg : Str → Option Value} {C fI : Addr} {x f msg : Str}
/-- the wrapper called: ValueError.__init__ bound to e -/
theorem call_ve {h : Heap} {g : Array GenState} {d : Drawn} {t : Nat} {os : OsState} {nm q : Str} {N : Addr} {bs bm : List Value} {hdct : Bool} {sn : List Str} {sub : List Value} {ab : Bool} {col : Option Bool} {dd : Option Addr} {k0 k1 k2 k3 k5 : Option Value}
    {u e t0 : Addr} {rest : List Value} {Q : Value → Shared → Prop} (hC : h.get? C = some (excClassObj nm q C N bs bm hdct sn sub ab col dd k0 k1 k2 k3 k5 "ValueError.__new__")) (he : h.get? e = some (excO C t0)) (hu : h.get? u = some (kxs_mw "ValueError.__init__" e)) (hrest : rest.length ≤ sizeLine)
    (hq : ∀ h' t1, (∀ b o, b ≠ e → h.get? b = some o → h'.get? b = some o) → h'.get? e = some (excO C t1) → Q .none ⟨h', g, d, t, os⟩) : wpAny (model P w) A (call (.ref u) rest) Q E ⟨h, g, d, t, os⟩ := by
  refine wpAny_call (codeAny_of_tree ?_)
  show wpAny (model P w) A.in1 (callAny (.ref u) ⟨rest, []⟩) _ _ (⟨h, g, d, t, os⟩ : Shared)
  simp only [callAny]
  refine wpAny_bind (wpAny_load hu ?_)
  simp only [kxs_mw, show (Value.type "method-wrapper" == Value.type "method" || Value.type "method-wrapper" == Value.type "builtin_function_or_method" || Value.type "method-wrapper" == Value.type "method-wrapper") = true from by decide, if_true]
  refine KFB.if_so (by decide) ?_
  refine wpAny_bind (ESX.check_bound F.excBase_ValueError hC he rfl ?_)
  refine wpAny_bind (wpAny_pure (wpAny_pure ?_))
  refine ⟨Code.quiet_builtin _ (by decide +kernel), codeAny_builtin F.excBase_ValueError.initEntry ?_⟩
  rw [Around.under_plainId F.excBase_ValueError.init.plain _]
  wp_walk
  refine hq _ h.objs.size (fun b o nb ob => ?_) ?_
  · rw [Heap.get?_update_other _ _ (Ne.symm nb)]
    exact Heap.get?_push_of_some (h := h) _ ob
  · rw [Heap.get?_update_self _ (Heap.get?_push_of_some (h := h) _ he) rfl]
    rfl
theorem one_fits (v : Value) : [v].length ≤ sizeLine := by
  rw [sizeLine_eq]; exact Nat.le_of_ble_eq_true rfl
theorem oerr_init (T : OErr P K mg x f msg C fI) {base : Heap} (Mo : L2.Mod K mg base) (kb : ∀ b o, base.get? b = some o → s.heap.get? b = some o) {e t0 : Addr} {v : Value} (X : K.In s.heap) (hlim : s.heap.NoLimit) (hx : s.heap.get? e = some (excO C t0)) (hnK : K.lookup e = none) (hroom : A.depth < recursionLimit)
    (hq : ∀ h' tk dx t1, InitE s.heap h' e C dx t1 f v → R (.ok (.ret .none)) { s with heap := h', toks := tk }) :
    codeAny (model P w) A (.call (.ref fI) ⟨[.ref e, v], []⟩) R s := by
  obtain ⟨oc, ct, cl, ccl, od, cld, cdd, doc, pm, an, osl, csl, ccs, cc, cda, qual, file, tf, vs, n, p1, p2, r0, r1, r2, r3, r4, q1, q2, q3, q4, ho, hcd, hcda, hvs, hfile, hcc, hbi, hli⟩ := T.fn
  obtain ⟨nm, q, N, bs, bm, sn, sub, ab, col, dd, k0, k1, k2, k3, k5, hC, hbm⟩ := T.cls
  have hcl : clsIn K C = some { name := nm, bases := bs, mro := .ref C :: bm, ns := N, qualname := q, hasDict := true, slotNames := sn, subclasses := sub, abstract := ab, collection := col, hasDel := false } := by unfold clsIn; rw [hC] <;> rfl
  have nf : ("self" : Str) ≠ f := fun z => by have := T.ne; rw [← z] at this; simp at this
  have fs : f ≠ ("self" : Str) := fun z => nf z.symm
  have ls : (eS f).names.lookup ("self" : Str) = some .local := rfl
  have lf : (eS f).names.lookup f = some .local := by
    have e1 : (f == PySem.Str.ofString "self") = false := T.ne
    show List.lookup f ((PySem.Str.ofString "self", NameKind.local) :: (f, .local) :: _) = _
    rw [List.lookup_cons, e1]
    simp
  have lc : (eS f).names.lookup ("__class__" : Str) = some .free := by
    have e1 : (("__class__" : Str) == f) = false := by
      have := T.nc
      simp at this ⊢
      exact fun z => this z.symm
    show List.lookup _ ((PySem.Str.ofString "self", NameKind.local) :: (f, .local) :: (PySem.Str.ofString "__class__", .free) :: _) = _
    rw [List.lookup_cons, show (("__class__" : Str) == PySem.Str.ofString "self") = false from rfl]
    dsimp only
    rw [List.lookup_cons, e1]
    rfl
  have lu : (eS f).names.lookup ("super" : Str) = some .globalImplicit := by
    have e1 : (("super" : Str) == f) = false := by
      have := T.nu
      simp at this ⊢
      exact fun z => this z.symm
    show List.lookup _ ((PySem.Str.ofString "self", NameKind.local) :: (f, .local) :: (PySem.Str.ofString "__class__", .free) :: _) = _
    rw [List.lookup_cons, show (("super" : Str) == PySem.Str.ofString "self") = false from rfl]
    dsimp only
    rw [List.lookup_cons, e1]
    rfl
  obtain ⟨hp, g, d, t, os⟩ := s
  refine ks_codeAny_call_defAt (fd := ksFn "__init__" qual (eA f p1 p2) (eB f msg n r0 r1 r2 r3 r4 q1 q2 q3 q4) (eS f) .none .none doc pm an (.ref cda) ct cc) (body := eB f msg n r0 r1 r2 r3 r4 q1 q2 q3 q4) (binds := [("self", .ref e), (f, v)]) hroom (X _ _ ho) rfl hlim (codeRec_of X hcd) rfl
    (BindsTo.of_eq (hbi _ _)) (fun y hy => ?_) (fun y hy => ?_) (fun h₁ hns hk => ?_) rfl rfl rfl
  · simp only [eS, List.mem_cons, List.not_mem_nil, or_false] at hy
    rcases hy with rfl | rfl | rfl | rfl <;> simp
  · simp only [List.mem_cons, List.not_mem_nil, or_false] at hy
    rcases hy with rfl | rfl
    · exact ls
    · exact lf
  have X1 : K.In h₁ := fun b o z => hk b o (X b o z)
  have he1 := hk _ _ hx
  have IA : InstAt h₁ e (excO C t0) C none := ⟨he1, rfl, rfl, trivial⟩
  have m1 : (([("self", Value.ref e), (f, v)] : List (Str × Value)).reverse).lookup ("self" : Str) = some (Value.ref e) := by
    show List.lookup _ [(f, v), (("self" : Str), Value.ref e)] = _
    rw [List.lookup_cons, show (("self" : Str) == f) = false by simpa using nf]
    rfl
  have m2 : (([("self", Value.ref e), (f, v)] : List (Str × Value)).reverse).lookup f = some v := by
    show List.lookup _ [(f, v), (("self" : Str), Value.ref e)] = _
    simp
  have hD : ∃ oD cdD, h₁.get? C = some oD ∧ oD.data = .cls cdD := ⟨_, _, X1 _ _ hC, rfl⟩
  obtain ⟨oD, cdD, hD1, hD2⟩ := hD
  obtain ⟨mb, hb1, hb2⟩ := Mo.blt
  unfold eB
  refine ks_wpAt_execs_cons (ks_wpAt_Expr_any (ks_wpAt_MethodCall (pl := (do return (← importBound (.Call (.Name "super" r0) [] [] r1) (ksEnv qual (eS f) hp.objs.size fI (.ref cda) cc)).getD true)) ?_ (super_line hli)))
  refine ks_wpAt_super_base (env := ksEnv qual (eS f) hp.objs.size fI (.ref cda) cc) lu lc rfl rfl (X1 _ _ ho) rfl rfl rfl (X1 _ _ hcda) rfl hvs hfile T.top ?_
  refine ks_loadName_global rfl lu (loadGlobal_builtin (env := ksEnv qual (eS f) hp.objs.size fI (.ref cda) cc) (Mo.glob.keeps fun b o z => hk b o (kb b o z)) T.nosup (hb1.keeps fun b o z => hk b o (kb b o z)) ((hb2 _ (by decide)).trans (by first | boot_by_name | rfl | kernel_rfl)) ⟨rfl, ?_⟩)
  refine wpAny_loadName_free rfl lc rfl ⟨_, X1 _ _ hcc, rfl⟩ ?_
  refine wpAny_loadName_local rfl ls hns m1 ?_
  refine ks_wpAny_isType_cls hD1 hD2 ⟨rfl, ?_⟩
  refine ks_wpAny_call_super hD1 hD2 he1 rfl (fun c z => nomatch z) (looks_mroIn X1 T.mroC) (fun h₂ hso k2 => ?_)
  have X2 : K.In h₂ := fun b o z => k2 b o (X1 b o z)
  have sup : alongIn K "__init__" (((.ref C :: bm : List Value).dropWhile (· != .ref C)).drop 1) = some (some (.builtin "ValueError.__init__")) := by
    have := T.sup
    unfold ks_superIn at this
    rw [hcl] at this
    exact this
  have neC : e ≠ C := ks_ne X1 IA hcl
  refine kxs_getMethod kxs_ValueError hso (looks_opaque X2 T.opq) (l₀ := .ref C :: bm) (fun A Q E s k q => wpAny_bind ((looks_clsIn X2 hcl) A _ E s k (wpAny_pure q))) rfl X2 sup
    ((InstAt.type (⟨k2 _ _ he1, rfl, rfl, trivial⟩ : InstAt h₂ e (excO C t0) C none)).andThen (looks_subIn X2 T.veC)) neC rfl ?_
  have hu : (h₂.push (kxs_mw "ValueError.__init__" e)).get? h₂.objs.size = some (kxs_mw "ValueError.__init__" e) := Heap.get?_push_at rfl rfl
  have k3 : ∀ b o, hp.get? b = some o → (h₂.push (kxs_mw "ValueError.__init__" e)).get? b = some o := fun b o z => Heap.get?_push_of_some (h := h₂) _ (k2 b o (hk b o z))
  refine kxs_callWith (i := "ValueError.__init__") (x := e) rfl (evalArgs_plain (spliced_cons (wpAny_Constant_str (k := n) (pos := r3) (spliced_nil ⟨hu, ?_⟩))))
  have kx : ∀ b o, b ≠ e → h₂.get? b = some o → (h₂.push (kxs_mw "ValueError.__init__" e)).get? b = some o := fun b o _ z => Heap.get?_push_of_some (h := h₂) _ z
  refine call_ve (k3 _ _ (X _ _ hC)) (k3 _ _ hx) hu (one_fits _) fun h₄ t1 k4 he4 => ?_
  have k5 : ∀ b o, b ≠ e → hp.get? b = some o → h₄.get? b = some o := fun b o nb z => k4 b o nb (k3 b o z)
  have heL : hp.objs.size ≠ e := Nat.ne_of_gt (Heap.lt_size hx)
  have X4 : K.In h₄ := fun b o z => k5 b o (fun y => by rw [y, hnK] at z; cases z) (X b o z)
  dsimp only
  refine wpAt_of_wpAny (wpAny_execs_cons (plainObj_wpAny_Assign_Attribute ?_))
  have hn4 : h₄.Ns hp.objs.size (fun y => ([("self", Value.ref e), (f, v)] : List (Str × Value)).reverse.lookup y) := hns.at fun o z => k4 _ _ heL (Heap.get?_push_of_some (h := h₂) _ (k2 _ _ z))
  refine wpAny_Name (wpAny_loadName_local rfl lf hn4 m2 ?_) T.nd
  refine wpAny_Name (wpAny_loadName_local rfl ls hn4 m1 ?_) rfl
  refine set_plain X4 (ox := excO C t1) (od := none) ⟨he4, rfl, rfl, trivial⟩ T.sa ?_
  refine exc_osa X4 he4 hcl (show refsVE (.ref C :: bm) = true from hbm) rfl T.noN (fun h₅ tk₅ dx k₅ dn dne hx₅ hn₅ => ?_)
  show wpAny _ _ (execs _ _) _ _ _
  refine wpAny_execs_nil (hq h₅ tk₅ dx t1 ⟨fun b o nb z => k₅ b o nb (k5 b o nb z), hx₅, ?_, dne, hn₅⟩)
  exact Nat.le_of_lt (Nat.lt_of_lt_of_le hn4.lt dn)
/-- such an error is made -/
theorem oerr_made (T : OErr P K mg x f msg C fI) {base : Heap} (Mo : L2.Mod K mg base) (kb : ∀ b o, base.get? b = some o → s.heap.get? b = some o) {v : Value} (X : K.In s.heap) (hlim : s.heap.NoLimit) (hroom : A.depth + 1 < recursionLimit)
    (hq : ∀ h' tk e d, MadeE s.heap h' e C d f v → R (.ok (.ret (.ref e))) { s with heap := h', toks := tk }) :
    codeAny (model P w) A (.call (.ref C) ⟨[v], []⟩) R s := by
  obtain ⟨nm, q, N, bs, bm, sn, sub, ab, col, dd, k0, k1, k2, k3, k5, hC, hbm⟩ := T.cls
  obtain ⟨hp, g, dr, tk, os⟩ := s
  have two : ∀ b o, hp.get? b = some o → ((hp.push (kdv_tup [v])).push (excO C hp.objs.size)).get? b = some o := fun b o z => Heap.get?_push_of_some (h := hp.push (kdv_tup [v])) _ (Heap.get?_push_of_some (h := hp) _ z)
  have mine : ((hp.push (kdv_tup [v])).push (excO C hp.objs.size)).get? (hp.objs.size + 1) = some (excO C hp.objs.size) := by heap_get
  have hnx : K.lookup (hp.objs.size + 1) = none := by
    cases z : K.lookup (hp.objs.size + 1) with
    | none => rfl
    | some o => exact absurd (Heap.lt_size (X _ _ z : hp.get? (hp.objs.size + 1) = some o)) (Nat.not_lt_of_le (Nat.le_succ _))
  refine call_own F.excBase_ValueError (fun Y => refsVE_contains Y bm hbm) (X _ _ hC) (looks_findIn X T.iC) (fun self => bind_fn X self T.tC) (one_fits v) ?_
  refine oerr_init (s := ⟨(hp.push (kdv_tup [v])).push (excO C hp.objs.size), g, dr, tk, os⟩) T Mo (fun b o z => two b o (kb b o z)) (fun b o z => two b o (X b o z)) (hlim.keeps two) mine hnx (show A.depth + 1 < recursionLimit from hroom) fun h' tk' dx t1 M => ?_
  have old : ∀ b o, hp.get? b = some o → h'.get? b = some o := fun b o z => M.stay b o (Nat.ne_of_lt (Nat.lt_succ_of_lt (Heap.lt_size z))) (two b o z)
  have big : hp.objs.size + 1 + 1 ≤ dx := by
    have z := M.dbig
    rw [Heap.size_push, Heap.size_push] at z; exact z
  exact ⟨rfl, hq h' tk' (hp.objs.size + 1) dx ⟨old, Nat.le_succ _, ⟨_, _, M.obj, rfl, rfl, rfl, rfl⟩, by show hp.objs.size ≤ dx; omega, M.dne, M.ns⟩⟩
end
end OwnErr
end PySem
namespace DS
open PySem PySem.Spec PyProof.Rows L2
theorem relO_one {f : Str} {v : V} {v' : Value} (r : RelV v v') (g : Str) : RelO (List.lookup g [(f, v)]) (if g = f then some v' else none) := by
  by_cases hw : g = f
  · subst hw
    rw [if_pos rfl, show List.lookup g [(g, v)] = some v from by simp]
    exact r
  · rw [if_neg hw, show List.lookup g [(f, v)] = none from by
      rw [List.lookup_cons, show (g == f) = false by simpa using hw]; rfl]
    trivial
section
variable {X : Cx} {T : Tbs} {W : WX} {C fI : Addr} {x f msg : Str} {g : Sg} {a : Expr} {ma : M RV} {k : Nat} {p pos pos2 : Pos}
/-- x(e) -/
def tMkE (f : Str) (C : Addr) (ta : TA) : L2.St → Hp → XK → Prop := fun σ H Q => ta σ H fun vs H1 => ∃ v, vs = [v] ∧ ∀ d, H1 d = none → Q (.ref C) (some d) (upd H1 d (.xd [(f, v)]))
theorem pmk_own {ta : TA} (O : OwnErr.OErr X.prog X.K X.mg x f msg C fI) (hr : Room k X.A) (ha : PA X [a] ta) (hg : Gl X x) (hdb : (x == ("__debug__" : Str)) = false := by decide)
    (he : starEach (a :: []) X.env = (false, eval a X.env) :: starEach [] X.env := by rfl) (hpl : (backTo pos (starEach [] X.env)).any (·.1) = false := by rfl) :
    PMk X (.Call (.Name x p) [a] [] pos) (tMkE f C ta) := by
  intro pins s σ H Q I h
  refine wpAny_Call_Name_kw (ld_glob I hg O.gC ?_ hdb)
  refine PySem.W.callWith_K (h₀ := X.base) I.ok.mod.kin O.kC (thn (ha.run pos pins s σ H _ I h) fun us s1 ⟨vs, H1, I1, r1, v, ev, q1⟩ => ⟨I1.kIn, ?_⟩) he hpl
  subst ev
  cases r1 with
  | @cons _ v' _ us' rv rn =>
    cases rn
    show wpAny (model X.prog X.w) X.A (call (.ref C) [v']) _ _ s1
    have hlim := I1.nolimit
    have kb := I1.bk
    obtain ⟨hp, gs, dr, tk, os⟩ := s1
    refine wpAny_call (OwnErr.oerr_made O I1.mod kb I1.kIn hlim (by have := hr.dp; omega) fun h' tk' e d M => ?_)
    obtain ⟨oe, fv, hoe, hc, hd, hdat, h1⟩ := M.obj
    have hns := M.ns
    obtain ⟨G, g1, g2⟩ := restrict h' fun b => decide (b ≠ e)
    have gk : ∀ b, b ≠ e → G.get? b = h'.get? b := fun b nb => g1 b (decide_eq_true nb)
    have ge : G.get? e = none := g2 e (by simp)
    have old : ∀ b o, hp.get? b = some o → G.get? b = some o := fun b o z => (gk b (Nat.ne_of_lt (Nat.lt_of_lt_of_le (Heap.lt_size z) M.new))).trans (M.stay b o z)
    have ob : ObjOk X.prog X.w (upd H1 d (.xd [(f, v)])) G d (.xd [(f, v)]) := ⟨_, hns.at (fun o z => (gk d M.dne).trans z), fun y => relO_one rv y⟩
    have J : Inv X pins σ (upd H1 d (.xd [(f, v)])) ⟨G, gs, dr, tk', os⟩ := I1.laid (t' := tk') old M.dbig ob
    refine ⟨e, oe, fv, ⟨G, gs, dr, tk', os⟩, upd H1 d (.xd [(f, v)]), .ref C, some d, rfl, J, fun b o z => ?_, ge, hoe, ⟨hc, hd⟩, hdat, h1, ?_, rfl, I1.bare, raises_own O.exC O.tyC, q1 d (I1.hok.fresh M.dbig)⟩
    · by_cases nb : b = e
      · have z' : G.get? b = some o := z
        rw [nb, ge] at z'; cases z'
      · exact (gk b nb).symm.trans z
    · rw [upd_ne (Ne.symm M.dne)]
      exact I1.hok.fresh M.new
/-- raise x(e), its meaning -/
def mRaise (x f : Str) (ma : M RV) : M Fl := bnd ma fun r => fun ρ => match r.data ρ with
  | some y => match r with
    | .dat _ => .er ⟨x, f, y⟩ ρ
    | .slot _ => .bad
  | none => .bad
theorem ss_raise (O : OwnErr.OErr X.prog X.K X.mg x f msg C fI) (hr : Room k X.A) (hc : X.calm = true) (tk : Takes X W) (hg : Gl X x) (ha : SimE T X W a ma) (hdb : (x == ("__debug__" : Str)) = false := by decide)
    (he : starEach (a :: []) X.env = (false, eval a X.env) :: starEach [] X.env := by rfl) (hpl : (backTo pos (starEach [] X.env)).any (·.1) = false := by rfl) :
    SimS T g X W (.Raise (some (.Call (.Name x p) [a] [] pos)) none pos2) (mRaise x f ma) :=
  ps_imp (ps_raise hc tk (pmk_own O hr (pa_cons ha pa_nil he) hg hdb he hpl)) fun D σ H q => tS_bnd (k := kE X.K) q fun r ρ1 v H1 Hs1 rp1 _ ra p => by
    refine ⟨_, rfl, fun d hd => ?_⟩
    cases r with
    | slot i =>
      exfalso
      revert p
      unfold DS.RV.data
      dsimp only
      split <;> exact id
    | dat y =>
      have hn := none_of_same rp1.sub hd
      obtain ⟨r2, g2⟩ := (Ext.new (o := HO.xd [(f, v)]) hd fun ps z => by cases z).rep rp1
      have hd' : (upd Hs1 d (HO.xd [(f, v)])) d = some (.xd [(f, v)]) := upd_same
      exact p _ _ _ _ _ r2 g2 Kp.refl ⟨C, d, v, rfl, O.gC, rfl, upd_same, dp_mono (same_upd hn) ra⟩
end
end DS
end
section
set_option Elab.async false
set_option linter.all false
set_option maxRecDepth 100000
set_option maxHeartbeats 4000000
/-! DsM: try with several clauses, named or not -/
namespace DS
open PySem PySem.Spec PyProof.Rows L2
abbrev Clause := Value × Option Nat × (Addr → Value → Option Addr → TS)
def clearD (i : Nat) (D : Ends) : Ends := { nx := fun σ H => D.nx (σ.set i none) H, rt := D.rt, bk := fun σ H => D.bk (σ.set i none) H, ct := fun σ H => D.ct (σ.set i none) H }
def runC (q : Clause) (a : Addr) (cls : Value) (d : Option Addr) (D : Ends) (σ : L2.St) (H : Hp) : Prop := match q.2.1 with
  | some i => q.2.2 a cls d (clearD i D) (σ.set i (some (.ref a))) H
  | none => q.2.2 a cls d D σ H
/-- what the clauses want of an exception of the body -/
def wN (K : PySem.W.Frag) (Wout : WX) (D : Ends) : List Clause → WX
  | [] => Wout
  | q :: r => fun cls d σ H => ∃ b, PySem.W.exmOne K cls q.1 = some b ∧ (b = true → ∀ a, H a = none → runC q a cls d D σ H) ∧ (b = false → wN K Wout D r cls d σ H)
inductive HdN (X : Cx) : List ExceptHandler → List Clause → Prop
  | nil : HdN X [] []
  | as {x n : Str} {i : Nat} {c : Value} {ts : Addr → Value → Option Addr → TS} {b₀ : Stmt} {suite : List Stmt} {np pos' : Pos} {hds : List ExceptHandler} {l : List Clause} (hc : Names X x c) (hi : X.N[i]? = some n) (hn : X.env.kindOf n = some .local)
      (hsu : ∀ (a : Addr) (oe : Obj) (cls : Value) (d : Option Addr) (pn : List (Addr × Obj)), Zc cls d oe → (∃ vs, oe.data = .fields vs) → PSs (X.suite a ((a, oe) :: pn)) (b₀ :: suite) (ts a cls d)) (r : HdN X hds l) :
      HdN X (.ExceptHandler (some (.Name x np)) (some n) (b₀ :: suite) pos' :: hds) ((c, some i, ts) :: l)
  | only {x : Str} {c : Value} {ts : Addr → Value → Option Addr → TS} {b₀ : Stmt} {suite : List Stmt} {np pos' : Pos} {hds : List ExceptHandler} {l : List Clause} (hc : Names X x c)
      (hsu : ∀ (a : Addr) (oe : Obj) (cls : Value) (d : Option Addr) (pn : List (Addr × Obj)), Zc cls d oe → (∃ vs, oe.data = .fields vs) → PSs (X.suite a ((a, oe) :: pn)) (b₀ :: suite) (ts a cls d)) (r : HdN X hds l) :
      HdN X (.ExceptHandler (some (.Name x np)) none (b₀ :: suite) pos' :: hds) ((c, none, ts) :: l)
section
variable {X : Cx} {σ : L2.St} {H : Hp} {pins : List (Addr × Obj)}
/-- what is known where the clauses are looked at -/
structure Seen (X : Cx) (pins : List (Addr × Obj)) (σ : L2.St) (H : Hp) (cls : Value) (d : Option Addr) (a : Addr) (B : Heap) (sI : Shared) (s : Shared) (h : Heap) : Prop where
  inv : Inv X pins σ H sI
  land : ∀ h', HandSPX.FlyingZ B (X.env :: X.outer) a (Zc cls d) h' → h.UpToSlots h' → Inv X pins σ H { s with heap := h' }
  fly : HandSPX.FlyingZ B (X.env :: X.outer) a (Zc cls d) h
  na : H a = none
  nL : a ≠ X.env.locals
  nF : a ∉ X.fs
theorem Seen.here {cls : Value} {d : Option Addr} {a : Addr} {B : Heap} {sI s : Shared} {h : Heap} (q : Seen X pins σ H cls d a B sI s h) : Inv X pins σ H { s with heap := h } := q.land h q.fly (Heap.UpToSlots.refl h)
/-- the suite's end: what it stored stays; the exception's name is dropped -/
theorem clauses {cls : Value} {d : Option Addr} {a : Addr} {B : Heap} {sI s : Shared} {h : Heap} {D : Ends} {Wout : WX} (ok : X.Ok) (hf : X.env.frame = some X.env.locals) (hN : X.N.Nodup) (hout : ∀ h', HandSPX.HeldZ B (X.env :: X.outer) a (Zc cls d) X.env.locals h' → h.UpToSlots h' → Wout cls d σ H → X.xe (.ref a) { s with heap := h' })
    (q : Seen X pins σ H cls d a B sI s h) : ∀ {hds : List ExceptHandler} {l : List Clause}, HdN X hds l → wN X.K Wout D l cls d σ H → wpAny (model X.prog X.w) X.A (handleBy (.ref a) X.env hds) (SP X pins D) X.xe { s with heap := h } := by
  have J := q.here
  obtain ⟨oe, vs, he, hz, hd⟩ := q.fly.there
  have S0 := J.suite he hd q.na q.nL q.nF
  have named : ∀ {x : Str} {c : Value} {np : Pos} {Q : Value → Shared → Prop} {E : Value → Shared → Prop}, Names X x c → Q c { s with heap := h } → wpAny (model X.prog X.w) (X.A.mark (some (.ref a))) (eval (.Name x np) X.env) Q E { s with heap := h } :=
    fun {x c np Q E} hc hq => by
      obtain ⟨n1, n2, n3⟩ := hc
      rcases n3 with n3 | ⟨n3, n4, n5⟩
      · exact ld_glob (X := X.suite a ((a, oe) :: (X.pn ++ pins))) S0 n1 n3 hq n2
      · exact ld_blt (X := X.suite a ((a, oe) :: (X.pn ++ pins))) S0 n1 n3 n4 hq n5 n2
  have ty : PySem.W.Looks (model X.prog X.w) h (typeOf (.ref a)) cls := fun A Q E s' k hq => wpAny_typeOf_ref (k _ _ he) (by rw [hz.1]; exact hq)
  intro hds l hk
  induction hk with
  | nil =>
    intro w
    refine wpAny_handleBy_nil ?_
    obtain ⟨_, _, _, oe', vs', t1, t2, t3, f1, f2, f3, f4, f5⟩ := id q.fly
    unfold PySem.passOn
    refine wpAny_bind (wpAny_field f1 f3 f4 ?_)
    rw [if_neg (show ¬ ((Value.ref t1 == Value.none) = true) by simp)]
    have last : wpAny (model X.prog X.w) X.A (setFlight (.ref a) X.env.frame) (fun _ s4 => wpAny (model X.prog X.w) X.A (throw (.ref a) : Sem Flow) (SP X pins D) X.xe s4) X.xe { s with heap := h } := by
      rw [hf]
      exact HandSPX.setFlight_upZ q.fly fun h4 held up => wpAny_throw (hout h4 held up w)
    first
      | exact wpAny_bind (wpAny_pure (wpAny_bind last))
      | exact wpAny_bind last
  | @as x n i c ts b₀ suite np pos' hds2 l2 hc hi hn hsu r ih =>
    rintro ⟨b, hb, yes, no⟩
    refine wpAny_handleBy_cons (codeAny_handlers_test ?_) (fun z => nomatch z)
    refine named hc ((PySem.W.exm_one (M := model X.prog X.w) J.kIn ty hb).here ?_)
    cases b with
    | false => exact ih (no rfl)
    | true =>
      refine codeAny_handlers_suite_as (HandSPX.lands_againZ q.fly fun h4 fl4 up4 => ?_)
      obtain ⟨oe4, vs4, he4, hz4, hd4⟩ := fl4.there
      have S4 := (q.land h4 fl4 up4).suite he4 hd4 q.na q.nL q.nF
      refine store_ok (X := X.suite a ((a, oe4) :: (X.pn ++ pins))) (v := .ref a) S4 hN hi (.inl hn) rfl (fun s5 S5 => ?_) (.inr hn)
      refine wpAny_mono ((hsu a oe4 cls d (X.pn ++ pins) hz4 ⟨_, hd4⟩).run [] s5 _ H _ S5 (yes rfl a q.na)) (fun f s6 hsp => ?_) (fun _ _ z => z.elim)
      have drop : ∀ {σ6 : L2.St} {H6 : Hp} {Q : Shared → Prop}, Inv (X.suite a ((a, oe4) :: (X.pn ++ pins))) [] σ6 H6 s6 → (∀ s7, Inv X pins (σ6.set i none) H6 s7 → Q s7) →
          wpAny (model X.prog X.w) X.A (do bindName X.env n .none; unbindBehindTheSuite X.env n pos') (fun _ s7 => Q s7) X.xe s6 := fun {σ6 H6 Q} S6 hq => gone_ok (S6.unsuite ok) hN hi hn hq
      cases f with
      | next => obtain ⟨σ6, H6, S6, e6⟩ := hsp; exact drop S6 fun s7 J7 => ⟨_, _, J7, e6⟩
      | brk => obtain ⟨σ6, H6, S6, e6⟩ := hsp; exact drop S6 fun s7 J7 => ⟨_, _, J7, e6⟩
      | cont => obtain ⟨σ6, H6, S6, e6⟩ := hsp; exact drop S6 fun s7 J7 => ⟨_, _, J7, e6⟩
      | ret u => obtain ⟨v6, σ6, H6, S6, r6, e6⟩ := hsp; exact drop S6 fun s7 J7 => ⟨v6, _, _, J7, r6, e6⟩
  | @only x c ts b₀ suite np pos' hds2 l2 hc hsu r ih =>
    rintro ⟨b, hb, yes, no⟩
    refine wpAny_handleBy_cons (codeAny_handlers_test ?_) (fun z => nomatch z)
    refine named hc ((PySem.W.exm_one (M := model X.prog X.w) J.kIn ty hb).here ?_)
    cases b with
    | false => exact ih (no rfl)
    | true =>
      refine codeAny_handlers_suite (HandSPX.lands_againZ q.fly fun h4 fl4 up4 => ?_)
      obtain ⟨oe4, vs4, he4, hz4, hd4⟩ := fl4.there
      have S4 := (q.land h4 fl4 up4).suite he4 hd4 q.na q.nL q.nF
      refine wpAny_mono ((hsu a oe4 cls d (X.pn ++ pins) hz4 ⟨_, hd4⟩).run [] _ _ H _ S4 (yes rfl a q.na)) (fun f s6 hsp => ?_) (fun _ _ z => z.elim)
      cases f with
      | next => obtain ⟨σ6, H6, S6, e6⟩ := hsp; exact ⟨_, _, S6.unsuite ok, e6⟩
      | brk => obtain ⟨σ6, H6, S6, e6⟩ := hsp; exact ⟨_, _, S6.unsuite ok, e6⟩
      | cont => obtain ⟨σ6, H6, S6, e6⟩ := hsp; exact ⟨_, _, S6.unsuite ok, e6⟩
      | ret u => obtain ⟨v6, σ6, H6, S6, r6, e6⟩ := hsp; exact ⟨v6, _, _, S6.unsuite ok, r6, e6⟩
theorem ps_tryN {body : List Stmt} {h₀ : ExceptHandler} {hds : List ExceptHandler} {l : List Clause} {pos : Pos} {tb : WX → TS} {Wout : WX} (hs : X.stack = X.env :: X.outer) (hf : X.env.frame = some X.env.locals) (hN : X.N.Nodup) (tk : Takes X Wout)
    (hb : ∀ (W : WX) (pn : List (Addr × Obj)) (xe : Value → Shared → Prop), Takes (X.tr pn xe) W → PassesOwn (model X.prog X.w) X.A X.env xe → PSs (X.tr pn xe) body (tb W))
    (hh : HdN X (h₀ :: hds) l) : PS X (.Try body (h₀ :: hds) [] [] pos) (fun D σ H => tb (wN X.K Wout D l) D σ H) := by
  refine ⟨fun pins s σ H D I h => wpAny_Try_except ?_⟩
  have ok := I.ok
  have hfr : X.A.frames = some (X.env :: X.outer) := by rw [ok.frames, hs]
  refine wpAny_mono ((hb (wN X.K Wout D l) (X.pn ++ pins) (fun e s₁ => wpAny (model X.prog X.w) X.A (noteFrame e X.env) (fun _ s₂ => wpAny (model X.prog X.w) X.A (setFlight e none) (fun _ s₃ =>
    wpAny (model X.prog X.w) X.A (handleBy e X.env (h₀ :: hds)) (SP X pins D) X.xe s₃) X.xe s₂) X.xe s₁) (fun u s' xx => ?_) PassesOwn.looking).run [] s σ H D (I.toTry _) h) (fun f s1 hsp => ?_) (fun _ _ z => z)
  · obtain ⟨a, B, sI, pins', σ', H', cls, d, rfl, J', nb, up, sky, na, os, ag, w⟩ := xx
    have J : Inv X pins σ' H' sI := J'.ofTry ok
    have sky' : Sky B (X.env :: X.outer) a (Zc cls d) X.env.locals s'.heap := by rw [← hs]; exact sky
    refine Sky.land Zc.steady hfr hf sky' fun h3 fl up3 => ?_
    obtain ⟨oe3, vs3, he3, hz3, hd3⟩ := fl.there
    have nfr : a ∉ frs (X.env :: X.outer) := fun hm => by
      obtain ⟨_, o', e', hnf⟩ := fl.2.2.1.mem hm
      rw [he3] at e'; cases e'
      exact hnf _ hd3
    refine clauses ok hf hN (fun h4 held up4 w' => tk _ _ ?_) ⟨J, fun h' fl' up' => J.landed nb fl'.1 ((up.trans up3).trans up') os ag, fl, na, fun z => nfr ?_, fun hm => nfr ?_⟩ hh w
    · exact ⟨a, B, sI, pins, σ', H', cls, d, rfl, J, nb, (up.trans up3).trans up4, .inr (.inr (by rw [hs]; exact held)), na, os, ag, w'⟩
    · exact List.mem_filterMap.mpr ⟨X.env, List.mem_cons_self, by rw [hf, z]⟩
    · obtain ⟨e, he, y⟩ := List.mem_filterMap.mp hm
      exact List.mem_filterMap.mpr ⟨e, List.mem_cons_of_mem _ he, y⟩
  · cases f with
    | next => obtain ⟨σ', H', J', e'⟩ := hsp; exact wpAny_execs_nil ⟨σ', H', J'.ofTry ok, e'⟩
    | brk => obtain ⟨σ', H', J', e'⟩ := hsp; exact ⟨σ', H', J'.ofTry ok, e'⟩
    | cont => obtain ⟨σ', H', J', e'⟩ := hsp; exact ⟨σ', H', J'.ofTry ok, e'⟩
    | ret u => obtain ⟨v, σ', H', J', r, e'⟩ := hsp; exact ⟨v, σ', H', J'.ofTry ok, r, e'⟩
end
end DS
end
section
set_option Elab.async false
set_option linter.all false
set_option maxRecDepth 100000
set_option maxHeartbeats 4000000
/-! DsN: a def that hears what a lambda does -/
namespace DS
open PySem PySem.Spec PyProof.Rows L2
section
variable {K : PySem.W.Frag} {T : Tbs} {mg : Str → Option Value} {Hs H Hs' H' : Hp} {ρ : Rho} {σ : L2.St}
theorem Rep.bare (r : Rep K T Hs ρ σ H) : Rep K T Hs [] [] H := ⟨r.sub, r.ntb, rfl, fun i s e => by simp at e, fun i j a s t e => by simp at e, r.tab⟩
theorem no_own0 {H : Hp} {a : Addr} : ¬ Own H [] [] a := fun ⟨i, s, e, _⟩ => by simp at e
theorem Rep.unbare (r : Rep K T Hs ρ σ H) (b : Rep K T Hs' [] [] H') (g : Grow [] [] Hs H [] [] Hs' H') : Rep K T Hs' ρ σ H' ∧ Grow ρ σ Hs H ρ σ Hs' H' := by
  have stay : ∀ a, Own H ρ σ a → H' a = H a := fun a ow => by
    obtain ⟨⟨u, hu, nt⟩, hn⟩ := r.owned ow
    rw [hu]; exact g.fr a u hu nt no_own0
  refine ⟨r.move b.sub b.ntb g.sh (fun a ow => ?_) b.tab, ⟨fun a o e nt _ => g.fr a o e nt no_own0, g.dm, g.sh, fun a e => ?_, fun i a o => .inl ((r.own_iff stay i a).mp o)⟩⟩
  · obtain ⟨⟨u, hu, nt⟩, hn⟩ := r.owned ow
    refine ⟨stay a ow, ?_⟩
    cases e : Hs' a with
    | none => rfl
    | some z =>
      rcases g.nw a (by rw [e]; simp) with y | y | y
      · exact absurd hn y
      · obtain ⟨ps, y⟩ := y _ hu; exact absurd y (nt ps)
      · exact absurd y no_own0
  · rcases g.nw a e with y | y | y
    · exact .inl y
    · exact .inr (.inl y)
    · exact absurd y no_own0
/-- tables may be written: nothing else changes -/
theorem Rep.extN (r : Rep K T Hs ρ σ H) {H1 : Hp} (e : LamX.ExtN H H1) (t : LamX.Tabs T.tb H1) : Rep K T Hs ρ σ H1 ∧ Grow ρ σ Hs H ρ σ Hs H1 := by
  have stay : ∀ a, Own H ρ σ a → H1 a = H a := fun a ow => by
    obtain ⟨⟨u, hu, nt⟩, hn⟩ := r.owned ow
    rw [hu]; exact e a u hu nt
  refine ⟨r.move (fun a o h => e a o (r.sub a o h) fun ps z => r.ntb a ps (by rw [h, z])) r.ntb (Same.refl _) (fun a ow => ?_) t, ⟨fun a o h nt _ => e a o h nt, fun a f o h => ?_, Same.refl _, fun a h => .inl h, fun i a o => .inl ((r.own_iff stay i a).mp o)⟩⟩
  · obtain ⟨⟨u, hu, nt⟩, hn⟩ := r.owned ow
    exact ⟨by rw [hu]; exact e a u hu nt, hn⟩
  · rcases Classical.em (∃ ps, o = .tbl ps) with z | z
    · exact z
    · exact f o (e a o h fun ps y => z ⟨ps, y⟩)
end
theorem breps_dp {K : PySem.W.Frag} {Hs H : Hp} : ∀ {vs : List V} {ys : List PyData}, DpAll K Hs vs ys → bReps K Hs H vs ys
  | _, _, .nil => trivial
  | _, _, .cons a b => ⟨.inl a, breps_dp b⟩
/-- what an except clause makes of the error's field -/
structure CSpec where
  x : Str
  f : Str
  C : Addr
  out : PyData → Option PyData
def findC : List CSpec → Er → Option PyData
  | [], _ => none
  | q :: r, e => if e.cls = q.x then (if e.fld = q.f then q.out e.val else none) else findC r e
def ChainOk (K : PySem.W.Frag) (mg : Str → Option Value) (l : List CSpec) : Prop :=
  (∀ q ∈ l, mg q.x = some (.ref q.C) ∧ PySem.W.exmOne K (.ref q.C) (.ref q.C) = some true) ∧ l.Pairwise fun p q => PySem.W.exmOne K (.ref q.C) (.ref p.C) = some false
section
variable (K : PySem.W.Frag) (T : Tbs)
/-- the error e: at dd its field -/
structure ExAt (H Hs : Hp) (f : Str) (C : Addr) (cls : Value) (d : Option Addr) (x : PyData) : Prop where
  cls : cls = .ref C
  at_ : ∃ dd v, d = some dd ∧ H dd = some (.xd [(f, v)]) ∧ Dp K Hs v x
def tX (i : Nat) (a : Addr) (f : Str) (C : Addr) (cls : Value) (d : Option Addr) (m : PyData → Option PyData) : TE := fun σ H Q => ∃ Hs x y, Rep K T Hs [] [] H ∧ σ[i]? = some (some (.ref a)) ∧ ExAt K H Hs f C cls d x ∧ m x = some y ∧
  ∀ v' H' Hs', Rep K T Hs' [] [] H' → Grow [] [] Hs H [] [] Hs' H' → Dp K Hs' v' y → Q v' H'
def tXs (i : Nat) (a : Addr) (f : Str) (C : Addr) (cls : Value) (d : Option Addr) (m : PyData → Option (List PyData)) : TA := fun σ H Q => ∃ Hs x ys, Rep K T Hs [] [] H ∧ σ[i]? = some (some (.ref a)) ∧ ExAt K H Hs f C cls d x ∧ m x = some ys ∧
  ∀ vs H' Hs', Rep K T Hs' [] [] H' → Grow [] [] Hs H [] [] Hs' H' → DpAll K Hs' vs ys → Q vs H'
def tSu (i : Nat) (q : CSpec) (a : Addr) (cls : Value) (d : Option Addr) : TS := fun D σ H => tX K T i a q.f q.C cls d q.out σ H D.rt
end
theorem ExAt.grow {K : PySem.W.Frag} {H Hs H' Hs' : Hp} {f : Str} {C : Addr} {cls : Value} {d : Option Addr} {x : PyData} (h : ExAt K H Hs f C cls d x) (g : Grow [] [] Hs H [] [] Hs' H') : ExAt K H' Hs' f C cls d x := by
  obtain ⟨c, dd, v, e, h1, h2⟩ := h
  exact ⟨c, dd, v, e, g.fr dd _ h1 (fun _ z => nomatch z) no_own0, dp_mono g.sh h2⟩
section
variable {X : Cx} {T : Tbs} {i : Nat} {a : Addr} {f : Str} {C : Addr} {cls : Value} {d : Option Addr} {oe : Obj} {pn : List (Addr × Obj)} {e : Expr} {es : List Expr} {m : PyData → Option PyData} {ms : PyData → Option (List PyData)} {pos : Pos}
def SimX (T : Tbs) (X : Cx) (i : Nat) (a : Addr) (f : Str) (C : Addr) (cls : Value) (d : Option Addr) (oe : Obj) (pn : List (Addr × Obj)) (e : Expr) (m : PyData → Option PyData) : Prop := PE (X.suite a ((a, oe) :: pn)) e (tX X.K T i a f C cls d m)
def SimXs (T : Tbs) (X : Cx) (i : Nat) (a : Addr) (f : Str) (C : Addr) (cls : Value) (d : Option Addr) (oe : Obj) (pn : List (Addr × Obj)) (es : List Expr) (m : PyData → Option (List PyData)) : Prop := PA (X.suite a ((a, oe) :: pn)) es (tXs X.K T i a f C cls d m)
theorem sx_c {v : V} {y : PyData} (h : PE (X.suite a ((a, oe) :: pn)) e (tC v)) (r : ∀ H, Dp X.K H v y) : SimX T X i a f C cls d oe pn e (fun _ => some y) :=
  pe_imp h fun σ H Q ⟨Hs, x, y', rp, _, _, e, q⟩ => by cases e; exact q _ _ _ rp Grow.refl (r Hs)
theorem sx_field {n : Str} {p : Pos} (tx : XfC X.K C) (hno : PySem.W.findIn X.K (.ref C) f = some none) (hz : Zc cls d oe) (hf : ∃ vs, oe.data = .fields vs) (hv : PE (X.suite a ((a, oe) :: pn)) (.Name n p) (tVar i)) (hb : attributeBase (.Name n p) f X.env (eval (.Name n p) X.env) = eval (.Name n p) X.env := by rfl) :
    SimX T X i a f C cls d oe pn (.Attribute (.Name n p) f pos) some :=
  pe_imp (pe_xf tx hno hz hf hv hb) fun σ H Q ⟨Hs, x, y', rp, hs, ⟨hc, dd, v, e1, e2, e3⟩, e, q⟩ => by
    cases e
    exact ⟨_, hs, rfl, hc, dd, _, v, e1, e2, by simp, q _ _ _ rp Grow.refl e3⟩
theorem sx_op {ev : PyData → Option PyData} {fo : List PyData → Option PyData} {r : List V → Hp → VK → Prop} (ho : OpN X.K fo r) (ha : SimXs T X i a f C cls d oe pn es ms) (h : PA (X.suite a ((a, oe) :: pn)) es (tXs X.K T i a f C cls d ms) → PE (X.suite a ((a, oe) :: pn)) e (tCB r (tXs X.K T i a f C cls d ms))) :
    SimX T X i a f C cls d oe pn e (fun x => (ms x).bind fo) :=
  pe_imp (h ha) fun σ H Q ⟨Hs, x, y, rp, hs, ex, e, q⟩ => by
    dsimp only at e
    cases em : ms x with
    | none => rw [em] at e; cases e
    | some ys =>
      rw [em] at e
      refine ⟨Hs, x, ys, rp, hs, ex, em, fun vs H1 Hs1 rp1 g1 dp1 => ?_⟩
      refine ho Hs1 H1 vs ys y Q rp1.sub ?_ e fun v' H' Hs' ext dv => ?_
      · exact breps_dp dp1
      · obtain ⟨r2, g2⟩ := ext.rep rp1
        exact q v' H' Hs' r2 (g1.trans g2) dv
theorem sxs_nil : SimXs T X i a f C cls d oe pn [] (fun _ => some []) := pa_imp pa_nil fun σ H Q ⟨Hs, x, ys, rp, _, _, e, q⟩ => by cases e; exact q _ _ _ rp Grow.refl .nil
theorem sxs_cons (h1 : SimX T X i a f C cls d oe pn e m) (h2 : SimXs T X i a f C cls d oe pn es ms) (hs : starEach (e :: es) X.env = (false, eval e X.env) :: starEach es X.env := by rfl) : SimXs T X i a f C cls d oe pn (e :: es) (fun x => (m x).bind fun y => (ms x).map (y :: ·)) :=
  pa_imp (pa_cons h1 h2 hs) fun σ H Q ⟨Hs, x, ys, rp, hs, ex, e, q⟩ => by
    dsimp only at e
    cases e1 : m x with
    | none => rw [e1] at e; cases e
    | some y =>
      cases e2 : ms x with
      | none => rw [e1, e2] at e; cases e
      | some zs =>
        rw [e1, e2] at e
        cases e
        exact ⟨Hs, x, y, rp, hs, ex, e1, fun v1 H1 Hs1 rp1 g1 d1 => ⟨Hs1, x, zs, rp1, hs, ex.grow g1, e2, fun vs H2 Hs2 rp2 g2 d2 => q _ _ _ rp2 (g1.trans g2) (.cons (dp_mono g2.sh d1) d2)⟩⟩
theorem sx_tup {x1} (h : SimXs T X i a f C cls d oe pn es ms) : SimX T X i a f C cls d oe pn (.Tuple es x1 pos) (fun x => (ms x).bind fun ys => if ys.length ≤ sizeLine then some (.tuple ys) else none) :=
  pe_imp (pe_tup h) fun σ H Q ⟨Hs, x, y, rp, hs, ex, e, q⟩ => by
    dsimp only at e
    cases em : ms x with
    | none => rw [em] at e; cases e
    | some ys =>
      rw [em] at e
      have e : (if ys.length ≤ sizeLine then some (PyData.tuple ys) else none) = some y := e
      by_cases hl : ys.length ≤ sizeLine
      · rw [if_pos hl] at e
        cases e
        refine ⟨Hs, x, ys, rp, hs, ex, em, fun vs H1 Hs1 rp1 g1 dp1 => ⟨by rw [dpAll_len dp1]; exact hl, fun p hp => ?_⟩⟩
        obtain ⟨r2, g2⟩ := (Ext.new (o := HO.tup vs) hp fun ps z => by cases z).rep rp1
        have hn := none_of_same rp1.sub hp
        exact q _ _ _ r2 (g1.trans g2) (.tup (SqT.of upd_same) (dpAll_mono (same_upd hn) dp1))
      · rw [if_neg hl] at e; cases e
theorem sx_ret {q : CSpec} (h : SimX T X i a q.f q.C cls d oe pn e q.out) : PSs (X.suite a ((a, oe) :: pn)) [.Return (some e) pos] (tSu X.K T i q a cls d) := pss_imp (pss_one (ps_ret h)) fun D σ H z => z
end
/-! the clauses together -/
def clsOf (K : PySem.W.Frag) (T : Tbs) (i : Nat) (l : List CSpec) : List Clause := l.map fun q => (.ref q.C, some i, tSu K T i q)
theorem wn_find {K : PySem.W.Frag} {T : Tbs} {mg : Str → Option Value} {Hs H : Hp} {e : Er} {cls : Value} {d : Option Addr} {i n : Nat} {D : Ends} {y : PyData} (rp : Rep K T Hs [] [] H) (er : ERep K mg Hs H e cls d) (hn : i < n)
    (q : ∀ v' H' Hs', Rep K T Hs' [] [] H' → Grow [] [] Hs H [] [] Hs' H' → Dp K Hs' v' y → D.rt v' H') : ∀ {l : List CSpec}, ChainOk K mg l → findC l e = some y → ∀ σ : L2.St, σ.length = n → wN K (fun _ _ _ _ => False) D (clsOf K T i l) cls d σ H
  | [], _, h => nomatch h
  | p :: r, ok, h => fun σ hs => by
    obtain ⟨C, dd, v, rfl, hm, rfl, h1, h2⟩ := er
    unfold findC at h
    have okr : ChainOk K mg r := ⟨fun q hq => ok.1 q (.tail _ hq), (List.pairwise_cons.mp ok.2).2⟩
    obtain ⟨o1, o2⟩ := ok.1 p (.head _)
    by_cases hc : e.cls = p.x
    · rw [if_pos hc] at h
      rw [hc, o1] at hm
      cases hm
      by_cases hf : e.fld = p.f
      · rw [if_pos hf] at h
        refine ⟨true, o2, fun _ a _ => ?_, fun z => nomatch z⟩
        refine ⟨Hs, e.val, y, rp, ?_, ⟨rfl, dd, v, rfl, by rw [← hf]; exact h1, h2⟩, h, q⟩
        rw [List.getElem?_set_self (by omega)]
      · rw [if_neg hf] at h; cases h
    · rw [if_neg hc] at h
      refine ⟨false, ?_, (fun z => nomatch z), fun _ => ?_⟩
      · have mem : ∀ {l : List CSpec}, findC l e = some y → ∃ q ∈ l, e.cls = q.x := by
          intro l
          induction l with
          | nil => intro z; cases z
          | cons q l ih =>
            intro z
            unfold findC at z
            by_cases hq : e.cls = q.x
            · exact ⟨q, .head _, hq⟩
            · rw [if_neg hq] at z
              obtain ⟨q', m', e'⟩ := ih z
              exact ⟨q', .tail _ m', e'⟩
        obtain ⟨q', m', e'⟩ := mem h
        have o3 := (ok.1 q' (.tail _ m')).1
        rw [← e', hm] at o3
        cases o3
        exact (List.pairwise_cons.mp ok.2).1 q' m'
      · exact wn_find rp ⟨C, dd, v, rfl, hm, rfl, h1, h2⟩ hn q okr h σ hs
/-- exceptions are wished for where the slots stand as many as they are -/
theorem takes_len {X : Cx} {W : WX} (tk : Takes X W) : Takes X (fun cls d σ H => σ.length = X.N.length → W cls d σ H) := fun u s' ⟨a, B, sI, pins, σ, H, cls, d, e, I, nb, up, sky, na, os, ag, w⟩ =>
  tk u s' ⟨a, B, sI, pins, σ, H, cls, d, e, I, nb, up, sky, na, os, ag, w I.len⟩
/-- what a def hears: a value (told by okv), or an error of one of the clauses (told by erv) -/
def mHeard (okv : Option PyData → Option PyData) (erv : Er → Option PyData) (mb : M RV) : M RV := fun ρ => match mb ρ with
  | .ok r ρ' => match okv (r.data ρ') with
    | some y => .ok (.dat y) ρ'
    | none => .bad
  | .er e ρ' => match erv e with
    | some y => .ok (.dat y) ρ'
    | none => .bad
  | .bad => .bad
/-- try: a() / except .. / return None -/
def TTh (K : PySem.W.Frag) (T : Tbs) (i n : Nat) (l : List CSpec) : (XK → Hp → VK → Prop) → Hp → VK → Prop := fun tl H Q =>
  tl (fun cls d H' => ∀ σ : L2.St, σ.length = n → wN K (fun _ _ _ _ => False) ⟨fun _ _ => Q .non H, Q, fun _ _ => False, fun _ _ => False⟩ (clsOf K T i l) cls d σ H') H (fun _ H' => Q .non H')
end DS
end
section
set_option Elab.async false
set_option linter.all false
set_option maxRecDepth 100000
set_option maxHeartbeats 4000000
/-! DsO: what hears, joined with the lambda -/
namespace DS
open PySem PySem.Spec PyProof.Rows L2
theorem wn_rt {K : PySem.W.Frag} {T : Tbs} {i : Nat} {D D' : Ends} (h : D.rt = D'.rt) : ∀ {l : List CSpec} {cls : Value} {d : Option Addr} {σ : L2.St} {H : Hp}, wN K (fun _ _ _ _ => False) D (clsOf K T i l) cls d σ H → wN K (fun _ _ _ _ => False) D' (clsOf K T i l) cls d σ H
  | [], _, _, _, _, z => z
  | p :: r, cls, d, σ, H, ⟨b, h1, h2, h3⟩ => by
    refine ⟨b, h1, fun hb a na => ?_, fun hb => wn_rt h (h3 hb)⟩
    have z : tX K T i a p.f p.C cls d p.out (σ.set i (some (.ref a))) H D.rt := h2 hb a na
    rw [h] at z
    exact z
section
variable {X : Cx} {T : Tbs}
theorem heard_gives {Ng : List Str} {x a q : Str} {sg : Scope} {g : Addr} {cdg : Value} {i j : Nat} {l : List CSpec} {h₀ : ExceptHandler} {hds : List ExceptHandler} {p1 p2 p3 p4 p5 p6 : Pos} (hN : Ng.Nodup) (h0 : ∀ f : Addr, (L2.start Ng [V.ref f])[0]? = some (some (V.ref f)))
    (hh : ∀ (s : Shared) (H : Hp), HdN (cxOf C8.CX0 X.prog X.w X.K X.mg X.base Ng x sg g cdg X.A X.stack s H C8.E0).nox (h₀ :: hds) (clsOf X.K T i l)) :
    LamX.GivesTo X Ng x sg g cdg [.Try [.Expr (.Call (.Name a p1) [] [] p2) p3] (h₀ :: hds) [] [] p4, .Return (some (.Constant .none j p5)) p6] a q (TTh X.K T i Ng.length l) := by
  intro f c' s H Q tl act hc h
  refine ⟨_, pss_cons (ps_tryN (X := (cxOf C8.CX0 X.prog X.w X.K X.mg X.base Ng x sg g cdg X.A X.stack s H C8.E0).nox) (Wout := fun _ _ _ _ => False) rfl rfl hN takes_none5
      (tb := fun W D σ H => ∃ Ech : XK, (∀ cls d σ' H', Ech cls d H' → σ'.length = Ng.length → W cls d σ' H') ∧ σ[0]? = some (some (.ref f)) ∧ H c' = some (LamX.CodeO c' q) ∧ tl Ech H (fun _ H' => D.nx σ H')) (fun W pn xe tk _ => ?_) (hh s H)) (pss_one (ps_ret pe_non)), ?_⟩
  · refine ⟨fun pins s' σ H' D I ⟨Ech, hW, e1, e2, e3⟩ => ?_⟩
    have pe := act (fun cls d σ' H' => σ'.length = Ng.length → W cls d σ' H') pn xe Ech p1 p2 (takes_len tk) (fun cls d σ' H' y hl => hW cls d σ' H' y hl)
    exact (pss_one (ps_expr pe)).run pins s' σ H' D I ⟨e1, e2, e3⟩
  · exact ⟨_, fun cls d σ' H' y hl => (by refine wn_rt (K := X.K) ?_ (y σ' hl); rfl), h0 f, hc, h⟩
theorem post_heard {K : PySem.W.Frag} {mg : Str → Option Value} {W : WX} {mb : M RV} {i n : Nat} {l : List CSpec} (ok : ChainOk K mg l) (hi : i < n) : ∀ σ H Q, tM K T mg W (kE K) (mHeard (fun _ => some .none) (findC l) mb) σ H Q →
    LamX.tLam T.tb (TTh K T i n l) (fun E => tM K T mg (fun cls d _ H => E cls d H) (kE K) mb) σ H Q := fun σ H Q ⟨ρ, Hs, rp, p⟩ => by
  refine ⟨rp.tab, fun H1 eN t1 => ?_⟩
  obtain ⟨r1, g1⟩ := rp.extN eN t1
  refine ⟨ρ, Hs, r1, ?_⟩
  unfold mHeard at p
  cases e : mb ρ with
  | bad => rw [e] at p; exact p.elim
  | ok r ρ' =>
    rw [e] at p
    exact fun v H2 Hs2 r2 g2 _ _ => p .non H2 Hs2 r2 (g1.trans g2) .non fun _ z => z.elim
  | er x ρ' =>
    rw [e] at p
    dsimp only at p
    cases ef : findC l x with
    | none => rw [ef] at p; exact p.elim
    | some y =>
      rw [ef] at p
      intro cls dd H2 Hs2 r2 g2 er σ2 hl
      refine wn_find r2.bare er hi (fun v H3 Hs3 r3 g3 d3 => ?_) ok ef σ2 hl
      obtain ⟨r4, g4⟩ := r2.unbare r3 g3
      exact p v H3 Hs3 r4 ((g1.trans g2).trans g4) d3 fun _ z => z.elim
end
end DS
end
section
set_option Elab.async false
set_option linter.all false
set_option maxRecDepth 100000
set_option maxHeartbeats 4000000
/-! DsP: the end of a law -/
namespace DS
open PySem PySem.Spec PyProof.Rows L2
/-- what is tracked at the law's start: its tables; the script, where K doesn't know it -/
def H0 (K : PySem.W.Frag) (tb : List Addr) (a : Addr) (vs : List Value) (ns : List Int) : Hp := fun b =>
  if b ∈ tb then some (.tbl #[]) else if b = a ∧ K.lookup a = none then some (.frz { cls := .type "list", data := .seq vs.toArray } (.lst (ns.map V.int))) else none
section
variable {K : PySem.W.Frag} {tb : List Addr} {a : Addr} {vs : List Value} {ns : List Int}
theorem H0_cases (b : Addr) : (b ∈ tb ∧ H0 K tb a vs ns b = some (.tbl #[])) ∨ (b ∉ tb ∧ b = a ∧ K.lookup a = none ∧ H0 K tb a vs ns b = some (.frz { cls := .type "list", data := .seq vs.toArray } (.lst (ns.map V.int)))) ∨ (b ∉ tb ∧ H0 K tb a vs ns b = none) := by
  unfold H0
  by_cases h1 : b ∈ tb
  · exact .inl ⟨h1, if_pos h1⟩
  · by_cases h2 : b = a ∧ K.lookup a = none
    · exact .inr (.inl ⟨h1, h2.1, h2.2, by rw [if_neg h1, if_pos h2]⟩)
    · exact .inr (.inr ⟨h1, by rw [if_neg h1, if_neg h2]⟩)
end
theorem law_ds {P : Program} {w : World} {K : PySem.W.Frag} {mg mb : Str → Option Value} {k : Nat} {fa a : Addr} {cs : List (Addr × Addr)} {T : Tbs} {gd : Bool} {fd : FuncData} {x : Str} {F : FnSem} {s₁ : Shared} {vs : List Value} {ns : List Int} {ρ' : Rho}
    (KX : K.In s₁.heap) (hns : s₁.heap.Ns mainGlobals mg) (hb : s₁.heap.Ns builtinsNs mb) (hbb : ∀ x : Str, x ≠ "__name__" → mb x = bootBuiltins x) (hlim : s₁.heap.NoLimit) (hg : s₁.gens = #[])
    (hT : ∀ p ∈ cs, s₁.heap.get? p.2 = some { cls := .none, data := .fields #[] }) (nT : ∀ p ∈ cs, K.lookup p.2 = none) (C : ∀ p ∈ cs, PySem.W.CodeHd s₁.heap p.1 p.2) (hTab : ∀ q ∈ T.tb, q.1 ∈ cs.map (·.2))
    (hbm : ∃ (bm : Addr) (ob : Obj), mg "__builtins__" = some (.ref bm) ∧ bm ≠ builtinsNs ∧ s₁.heap.get? bm = some ob ∧ ob.cls = .type "module" ∧ ob.dict = some builtinsNs ∧ ob.data = .plain)
    (ha : s₁.heap.get? a = some { cls := .type "list", data := .seq vs.toArray }) (hi : IntsAre vs ns) (hl : ns.length ≤ sizeLine) (hr : Room k callerA)
    (G : ∀ base : Heap, K.In base → base.Ns mainGlobals mg → (∀ p ∈ cs, LamX.TabB base mg p.1 p.2) → FnS P w K mg base T gd k fa fd [x] F) (hbind : ∀ (s : Shared) (u : Value), BindsTo s fd ⟨[u], []⟩ [(x, u)])
    (hF : F [.d (.list (ns.map .int))] = .ok (.dat (.bool true)) ρ') :
    codeAny (model P w) callerA (.call (.ref fa) ⟨[.ref a], []⟩) (fun r s' => r = .ok (.ret (.bool true)) ∧ OldK s₁.heap s'.heap ∧ s'.os = s₁.os ∧ AllBare s'.gens) s₁ := by
  have rv := vals_ints hi
  have tbl : ∀ b, b ∈ cs.map (·.2) → s₁.heap.get? b = some { cls := .none, data := .fields #[] } := fun b m => by
    obtain ⟨p, mp, rfl⟩ := List.mem_map.mp m
    exact hT p mp
  have anT : a ∉ cs.map (·.2) := fun z => by
    have y := tbl a z
    rw [ha] at y
    exact nomatch (congrArg Obj.data (Option.some.inj y) : Data.seq vs.toArray _ = Data.fields #[])
  -- whatever is there and is neither a list nor an empty table isn't tracked
  have plain : ∀ {b : Addr} {o : Obj}, s₁.heap.get? b = some o → (∀ us n, o.data ≠ .seq us n) → o.data ≠ .fields #[] → H0 K (cs.map (·.2)) a vs ns b = none := fun {b o} e n1 n2 => by
    rcases H0_cases (K := K) (tb := cs.map (·.2)) (a := a) (vs := vs) (ns := ns) b with ⟨m, _⟩ | ⟨_, rfl, _, _⟩ | ⟨_, h⟩
    · rw [tbl b m] at e; cases e; exact absurd rfl n2
    · rw [ha] at e; cases e; exact absurd rfl (n1 _ _)
    · exact h
  have see : ∀ {b : Addr} {o : Obj}, s₁.heap.get? b = some o → H0 K (cs.map (·.2)) a vs ns b = none → (hidT s₁.heap (H0 K (cs.map (·.2)) a vs ns)).get? b = some o := fun e n => hidT_get e n
  have dictN : ∀ {b : Addr} {m : Str → Option Value}, s₁.heap.Ns b m → (hidT s₁.heap (H0 K (cs.map (·.2)) a vs ns)).Ns b m := fun {b m} z0 => by
    obtain ⟨o, es, ep, e, d, r⟩ := z0
    exact ⟨o, es, ep, see e (plain e (fun us n z => by rw [d] at z; cases z) fun z => by rw [d] at z; cases z), d, r⟩
  have hK : K.In (hidT s₁.heap (H0 K (cs.map (·.2)) a vs ns)) := fun b o e => see (KX b o e) (by
    rcases H0_cases (K := K) (tb := cs.map (·.2)) (a := a) (vs := vs) (ns := ns) b with ⟨m, _⟩ | ⟨_, rfl, n, _⟩ | ⟨_, h⟩
    · obtain ⟨p, mp, ep⟩ := List.mem_map.mp m
      rw [← ep, nT p mp] at e; cases e
    · rw [n] at e; cases e
    · exact h)
  have hM : L2.Mod K mg (hidT s₁.heap (H0 K (cs.map (·.2)) a vs ns)) := ⟨hK, dictN hns, ⟨mb, dictN hb, hbb⟩, let ⟨mc, l1, l2⟩ := hlim; ⟨mc, dictN l1, l2⟩⟩
  have TB : ∀ p ∈ cs, LamX.TabB (hidT s₁.heap (H0 K (cs.map (·.2)) a vs ns)) mg p.1 p.2 := fun p mp => by
    have gT := hT p mp
    refine ⟨?_, ?_, fun z => ?_⟩
    · obtain ⟨o, us, file, tf, flags, tg, inF, text, tt, e1, r1, r2, r3, rest⟩ := C p mp
      exact ⟨o, us, file, tf, flags, tg, inF, text, tt, see e1 (plain e1 (fun us' n z => by rw [r2] at z; cases z) fun z => by rw [r2] at z; cases z; simp at r3), r1, r2, r3, rest⟩
    · obtain ⟨bm, ob, b1, b2, b3, b4, b5, b6⟩ := hbm
      refine ⟨bm, ob, b1, b2, fun y => ?_, fun y => ?_, see b3 (plain b3 (fun us' n z => by rw [b6] at z; cases z) fun z => by rw [b6] at z; cases z), b4, b5, b6⟩
      · obtain ⟨o, es, ep, e, hd, _⟩ := hns
        rw [y, e] at b3; cases b3
        rw [hd] at b6; cases b6
      · rw [y, gT] at b3; cases b3
        cases b6
    · obtain ⟨o, es, ep, e, hd, _⟩ := hns
      rw [z, gT] at e; cases e
      cases hd
  have hok : HOk P w (H0 K (cs.map (·.2)) a vs ns) s₁.heap := fun b u z => by
    rcases H0_cases (K := K) (tb := cs.map (·.2)) (a := a) (vs := vs) (ns := ns) b with ⟨m, h⟩ | ⟨_, rfl, n, h⟩ | ⟨_, h⟩
    · rw [h] at z; cases z; exact tbl b m
    · rw [h] at z; cases z
      exact ⟨ha, by rw [List.length_map]; exact hl, vs, _, rv, ha⟩
    · rw [h] at z; cases z
  have e0 : Env0 P w K mg (hidT s₁.heap (H0 K (cs.map (·.2)) a vs ns)) callerA [] s₁ (H0 K (cs.map (·.2)) a vs ns) :=
    ⟨rfl, hM, fun b o e => of_hidT e, Nat.le_of_eq (hidT_size _ _), trivial, fun b m => absurd (show b ∈ ([] : List Addr) from m) (by simp), hok, .of_eq hg⟩
  have hH : ∀ p ∈ cs, H0 K (cs.map (·.2)) a vs ns p.2 = some (.tbl #[]) := fun p mp => if_pos (List.mem_map.mpr ⟨p, mp, rfl⟩)
  have hS : SqL K (H0 K (cs.map (·.2)) a vs ns) a (ns.map V.int) := by
    cases hk : K.lookup a with
    | some o =>
      have e := KX a o hk
      rw [ha] at e; cases e
      exact .inr ⟨_, vs.toArray, _, hk, rfl, rfl, rfl, by rw [List.size_toArray, hi.length]; exact hl, by simpa using rv⟩
    | none => exact .inl (.inr ⟨_, by unfold H0; rw [if_neg anT, if_pos ⟨rfl, hk⟩]⟩)
  have tabs : LamX.Tabs T.tb (H0 K (cs.map (·.2)) a vs ns) := fun q mq => LamX.TabS.nil (if_pos (hTab q mq))
  -- what is shared at the start: the script
  have shs : Same (fun b => if b ∈ cs.map (·.2) then none else H0 K (cs.map (·.2)) a vs ns b) (H0 K (cs.map (·.2)) a vs ns) := fun b o e => by
    by_cases m : b ∈ cs.map (·.2)
    · have e : (if b ∈ cs.map (·.2) then none else H0 K (cs.map (·.2)) a vs ns b) = some o := e
      rw [if_pos m] at e; cases e
    · have e : (if b ∈ cs.map (·.2) then none else H0 K (cs.map (·.2)) a vs ns b) = some o := e
      rw [if_neg m] at e; exact e
  have hS' : SqL K (fun b => if b ∈ cs.map (·.2) then none else H0 K (cs.map (·.2)) a vs ns b) a (ns.map V.int) := by
    rcases hS with z | z
    · refine .inl ?_
      rcases z with z | ⟨o, z⟩
      · exact .inl ((if_neg anT).trans z)
      · exact .inr ⟨o, (if_neg anT).trans z⟩
    · exact .inr z
  have dints : ∀ l : List Int, DpAll K (fun b => if b ∈ cs.map (·.2) then none else H0 K (cs.map (·.2)) a vs ns b) (l.map V.int) (l.map PyData.int) := fun l => by
    induction l with
    | nil => exact .nil
    | cons z l ih => exact .cons (.int _) ih
  have rep : Rep K T (fun b => if b ∈ cs.map (·.2) then none else H0 K (cs.map (·.2)) a vs ns b) [.d (.list (ns.map .int))] ([V.ref a].map some) (H0 K (cs.map (·.2)) a vs ns) := by
    refine ⟨shs, fun b ps e => ?_, rfl, fun i s e => ?_, fun i j c s t e1 e2 o1 o2 => ?_, tabs⟩
    · have e : (if b ∈ cs.map (·.2) then none else H0 K (cs.map (·.2)) a vs ns b) = some (.tbl ps) := e
      rcases H0_cases (K := K) (tb := cs.map (·.2)) (a := a) (vs := vs) (ns := ns) b with ⟨m, h⟩ | ⟨m, _, _, h⟩ | ⟨m, h⟩
      · rw [if_pos m] at e; cases e
      · rw [if_neg m, h] at e; cases e
      · rw [if_neg m, h] at e; cases e
    · cases i with
      | zero =>
        cases e
        exact ⟨.ref a, rfl, .lst hS' (dints ns)⟩
      | succ i => simp at e
    · cases i with
      | zero => cases e1; exact o1.elim
      | succ i => simp at e1
  refine codeAny_mono ((G _ hK (dictN hns) TB).run callerA [] s₁ _ ⟨[.ref a], []⟩ [.ref a] [.ref a] (fun v _ => v = .bl true) (fun _ _ _ => False) (fun _ => rfl) hr e0 (hbind s₁ (.ref a)) (.cons rfl .nil) ⟨_, _, rep, ?_⟩) fun r s' h => ?_
  · rw [hF]
    intro v H' Hs' _ _ rr _
    have rr : Dp K Hs' v (.bool true) := rr
    cases rr
    rfl
  cases r with
  | error e =>
    have h : L2.CX P w [] (H0 K (cs.map (·.2)) a vs ns) s₁ (fun _ _ _ => False) e s' := h
    unfold L2.CX at h
    simp at h
  | ok fl =>
    cases fl with
    | next => exact False.elim h
    | brk => exact False.elim h
    | cont => exact False.elim h
    | ret u =>
      obtain ⟨v, H', os, bare, un, hok', r', q⟩ := h
      have q : v = .bl true := q
      subst q
      obtain rfl : u = Value.bool true := r'
      have grown : ∀ p ∈ cs, ∃ more : Array Value, s'.heap.get? p.2 = some { cls := .none, data := .fields more } := fun p mp => by
        obtain ⟨more, z⟩ := un.tbls p.2 #[] (hH p mp)
        exact ⟨_, hok' p.2 _ z⟩
      have stays : ∀ b o, b ∉ cs.map (·.2) → s₁.heap.get? b = some o → s'.heap.get? b = some o := fun b o nb e => by
        rcases H0_cases (K := K) (tb := cs.map (·.2)) (a := a) (vs := vs) (ns := ns) b with ⟨m, _⟩ | ⟨_, rfl, _, h⟩ | ⟨_, h⟩
        · exact absurd m nb
        · obtain ⟨e2, _⟩ := hok' _ _ (un.frzs _ _ _ h)
          rw [ha] at e; cases e; exact e2
        · exact un.keep b o e h (fun z => absurd (show b ∈ ([] : List Addr) from z) (by simp)) (by simp)
      refine ⟨rfl, ⟨fun b o e => ?_, fun b o e => ?_⟩, os, bare⟩
      · by_cases m : b ∈ cs.map (·.2)
        · obtain ⟨p, mp, rfl⟩ := List.mem_map.mp m
          obtain ⟨more, hm⟩ := grown p mp
          rw [hT p mp] at e; cases e
          exact .inr (.inl ⟨((C p mp).tab (hT p mp)).isCodeTable, rfl, #[], more, rfl, by rw [Array.empty_append]; exact hm⟩)
        · exact .inl (stays b o m e)
      · by_cases m : b ∈ cs.map (·.2)
        · obtain ⟨p, mp, rfl⟩ := List.mem_map.mp m
          obtain ⟨more, hm⟩ := grown p mp
          exact ⟨_, hm⟩
        · exact ⟨o, stays b o m e⟩
/-- what a law's walk must bring -/
def LawD (P : Program) (w : World) (K : PySem.W.Frag) (k n : Nat) (x : Str) (mg : Str → Option Value) (fa : Addr) (h : Heap) : Prop :=
  ∃ (fd : FuncData) (cs : List (Addr × Addr)) (T : Tbs) (gd : Bool) (F : FnSem), (∀ p ∈ cs, h.get? p.2 = some { cls := .none, data := .fields #[] }) ∧ (∀ p ∈ cs, K.lookup p.2 = none) ∧ (∀ p ∈ cs, PySem.W.CodeHd h p.1 p.2) ∧ (∀ q ∈ T.tb, q.1 ∈ cs.map (·.2)) ∧
    (∀ (s : Shared) (u : Value), BindsTo s fd ⟨[u], []⟩ [(x, u)]) ∧
    (∀ ns : List Int, ns.length ≤ n → (∀ z ∈ ns, Builtin.Int.intBits z ≤ 1048576) → ∃ ρ', F [.d (.list (ns.map .int))] = .ok (.dat (.bool true)) ρ') ∧
    ∀ base : Heap, K.In base → base.Ns mainGlobals mg → (∀ p ∈ cs, LamX.TabB base mg p.1 p.2) → FnS P w K mg base T gd k fa fd [x] F
theorem walk_ds {l : PySem.W.OpenLaw} {n k : Nat} {q : Program} {loose : List Str} {XP : (Str → Option Value) → Heap → Prop} {YP : World → Heap → Prop} {d : DefRec} {K : Params → PySem.W.Frag} {x : Str}
    (hn : l.most = some n) (hn2 : n ≤ sizeLine) (hdf : d.params.defaults = []) (hr : Room k callerA) (hY : ∀ (w : World) (h : Heap), YP w h → (K w.params).In h)
    (F : ∀ (w : World) (s₀ : Shared) (mg mb : Str → Option Value) (fa : Addr) (h : Heap), PySem.W.Ground q loose [] XP w s₀ mg mb h → (K w.params).In h → mg d.name = some (.ref fa) → LawD l.prog w (K w.params) k n x mg fa h) :
    PySem.W.WalkO q loose XP YP l.row.toRowW d [] (fun f vs => PySem.call f vs) := by
  refine Att.attach_callB hn hdf fun w s₀ s₁ mg mb fa o pm cd doc a vs ns G Y ho hd hcd hmg hobj hints hlen hbits hg => ?_
  obtain ⟨fd, cs, T, gd, F', hT, nT, C, hTab, hb, hsp, hF⟩ := F w s₀ mg mb fa _ G (hY w _ Y) hmg
  obtain ⟨ρ', he⟩ := hsp ns hlen hbits
  exact law_ds (hY w _ Y) G.T.g G.T.b G.T.builtins G.T.nolimit hg hT nT C hTab G.T.bmain hobj hints (Nat.le_trans hlen hn2) hr hF hb he
end DS
end
section
set_option Elab.async false
set_option linter.all false
set_option maxRecDepth 100000
set_option maxHeartbeats 4000000
/-! DsQ: enumerate over tuples, isinstance, slices, parallel stores -/
namespace PySem
namespace EnumTup
theorem make_meets (l : Addr) (items : Array Value) (n : Nat) (dct : Option Addr) (sl : Array (Option Value)) :
    Meets (Builtin.«enumerate.__new__» ⟨[.type "enumerate", .ref l], []⟩) (fun _ R s => s.heap.get? l = some { cls := .type "tuple", dict := dct, data := .seq items n, slots := sl } ∧
      R (.ok (.ret (.ref (s.heap.push { cls := .type "tuple_iterator", data := .fields #[.ref l, .int 0 0] }).objs.size)))
        { s with heap := (s.heap.push { cls := .type "tuple_iterator", data := .fields #[.ref l, .int 0 0] }).push { cls := .type "enumerate", data := .fields #[.none, .bool false, .ref s.heap.objs.size, rawInt 0, .none, .none] } }) :=
  .of_wp fun prog w A R s h => by
    obtain ⟨hp, g, d, tk, os⟩ := s
    obtain ⟨hl, h⟩ := h
    have hsub := sub_enumerate
    have hT : Heap.IsTuple (Shared.heap ⟨hp, g, d, tk, os⟩) l items := ⟨_, hl, rfl, n, rfl⟩
    wp_walk using AutoSeq1.wpAny_loadPart' hl
    refine wpAny_stack_any fun st => wpAny_pure ?_
    split
    · rename_i c _ _ _ _ _
      cases (c == Value.type "enumerate")
      · wp_walk using AutoSeq1.wpAny_loadPart' hl, wpAny_pyIter_tuple hT
        exact ⟨_, rfl, h⟩
      · wp_walk using AutoSeq1.wpAny_loadPart' hl, wpAny_pyIter_tuple hT
        exact ⟨_, rfl, h⟩
    · wp_walk using AutoSeq1.wpAny_loadPart' hl, wpAny_pyIter_tuple hT
      exact ⟨_, rfl, h⟩
section
variable {prog : Program} {w : World} {A : Around} {E : Value → Shared → Prop} {s : Shared}
theorem call_tup {l : Addr} {items : Array Value} {Q : Value → Shared → Prop} (hL : s.heap.IsTuple l items)
    (h : ∀ h', IsEnum h' (s.heap.objs.size + 1) s.heap.objs.size 0 .none → h'.IsTupleIter s.heap.objs.size l 0 → (∀ b o, s.heap.get? b = some o → h'.get? b = some o) → Q (.ref (s.heap.objs.size + 1)) { s with heap := h' }) :
    wpAny (model prog w) A (call (.type "enumerate") [.ref l]) Q E s := by
  obtain ⟨⟨c, dct, dt, sl⟩, hl, hc, n, hd⟩ := hL
  obtain rfl : c = .type "tuple" := hc
  obtain rfl : dt = .seq items n := hd
  refine callType_new F.called_enumerate (by decide) (F.typeCall_enumerate_1 _) (F.newCall_enumerate_1 _) (fun obj => F.args_object_init_2 obj _) F.entry_enumerate_new (make_meets l items n dct sl) ⟨hl, ?_⟩
  have z1 : (s.heap.push { cls := .type "tuple_iterator", data := .fields #[.ref l, .int 0 0] }).objs.size = s.heap.objs.size + 1 := Heap.size_push ..
  show _ ∧ _
  rw [z1]
  have e1 : IsEnum ((s.heap.push { cls := .type "tuple_iterator", data := .fields #[.ref l, .int 0 0] }).push { cls := .type "enumerate", data := .fields #[.none, .bool false, .ref s.heap.objs.size, rawInt 0, .none, .none] }) (s.heap.objs.size + 1) s.heap.objs.size 0 .none := by
    have q := Heap.get?_push_size (s.heap.push { cls := .type "tuple_iterator", data := .fields #[.ref l, .int 0 0] }) (o := { cls := .type "enumerate", data := .fields #[.none, .bool false, .ref s.heap.objs.size, rawInt 0, .none, .none] }) rfl
    rw [z1] at q; exact q
  exact ⟨⟨_, e1, rfl⟩, h _ e1 ⟨_, Heap.get?_push_of_some _ (Heap.get?_push_size _ rfl), rfl, rfl⟩ fun b o x => Heap.get?_push_of_some _ (Heap.get?_push_of_some _ x)⟩
end
end EnumTup
end PySem
end
section
set_option Elab.async false
set_option linter.all false
set_option maxRecDepth 100000
set_option maxHeartbeats 4000000
/-! DsR: enumerate over either, isinstance, slices, parallel stores -/
namespace DS
open PySem PySem.Spec PyProof.Rows L2
/-- the tuple at a, its items in new pairs -/
def Itu (K : PySem.W.Frag) (a : Addr) : It :=
  ⟨fun i H => ∃ (xs : List V) (x : V), SqT K H a xs ∧ xs[i]? = some x, fun i H v H' => ∃ P x, v = .ref P ∧ H P = none ∧ H' = upd H P (.tup [.int (i : Nat), x]) ∧ ∀ xs, SqT K H a xs → xs[i]? = some x, fun i H => ∃ xs : List V, SqT K H a xs ∧ xs.length ≤ i⟩
theorem turn_enumT {P : Program} {w : World} {K : PySem.W.Frag} {elts : List Expr} {kk : Nat} {tpos : Pos} (a e it : Addr) :
    Turn P w K (.Tuple elts kk tpos) (Itu K a) [e, it] e (fun i h => (∃ old, IsEnum h e it ((i : Nat) : Int) old) ∧ h.IsTupleIter it a i ∧ e ≠ it) where
  mem := List.mem_cons_self
  obj := fun i h st b hb => by
    obtain ⟨⟨old, he⟩, ⟨o, ho, hc, hd⟩, _⟩ := st
    rcases List.mem_cons.mp hb with rfl | z
    · exact ⟨_, he, fun v q => nomatch q⟩
    · rw [List.mem_singleton.mp z]; exact ⟨o, ho, fun v q => by rw [hd] at q; cases q⟩
  keep := fun i h h' st k => by
    obtain ⟨⟨old, he⟩, ⟨o, ho, r⟩, hne⟩ := st
    exact ⟨⟨old, k e List.mem_cons_self _ he⟩, ⟨o, k it (List.mem_cons_of_mem _ List.mem_cons_self) o ho, r⟩, hne⟩
  item := by
    intro X hP hw hK hc i pins s σ H E I hf st hg
    subst hP hw hK
    obtain ⟨⟨old, he⟩, hit, hne⟩ := st
    obtain ⟨xs, x, hq, hx⟩ := hg
    obtain ⟨its, rv, p, hz⟩ := I.tuple hq
    obtain ⟨u, hu, ru⟩ := rv.get hx
    have isT : s.heap.IsTuple a its.toArray := p
    have ai : a ≠ it := fun z => by
      obtain ⟨o1, q1, q2, _⟩ := isT
      obtain ⟨o2, q3, q4, _⟩ := hit
      rw [z, q3] at q1; cases q1
      rw [q4] at q2; simp at q2
    have ea : e ≠ a := fun z => by
      obtain ⟨o1, q1, q2, _⟩ := isT
      rw [← z, he] at q1; cases q1
      simp at q2
    have D := Draws.tuple (prog := X.prog) (w := X.w) (A := X.A.in1) (I.ok.hd hc) it a ai its.toArray
    have lt : i < its.toArray.size := (Array.getElem?_eq_some_iff.mp (show its.toArray[i]? = some u by simpa using hu)).1
    have el : e < s.heap.objs.size := Heap.lt_size he
    have il : it < s.heap.objs.size := by obtain ⟨_, q, _⟩ := hit; exact Heap.lt_size q
    refine wpAny_pyNext_enum_itemD D he ⟨hit, isT⟩ lt hne (by simp [hne, ea]) fun y h' tk hy ho st' hT hsz hk => ?_
    have hy : its.toArray[i]? = some y := hy
    obtain rfl : u = y := by
      have z : its.toArray[i]? = some u := by simpa using hu
      rw [hy] at z; exact (Option.some.inj z).symm
    refine ⟨_, rfl, wpAny_letOwnedTupleGo_enum (s := { s with heap := h', toks := tk + 1 }) ho fun h2 he' sb => ?_⟩
    have hT2 : h2.get? s.heap.objs.size = some { cls := .type "tuple", data := .seq #[.int i tk, u] } := (sb.2 _ (Nat.ne_of_gt el)).trans hT
    have new : ObjOk X.prog X.w (upd H s.heap.objs.size (.tup [.int (i : Nat), x])) h2 s.heap.objs.size (.tup [.int (i : Nat), x]) :=
      ⟨Nat.le_of_ble_eq_true (by rw [sizeLine_eq]; rfl), [.int i tk, u], .cons ⟨_, rfl⟩ (.cons ru .nil), ⟨_, hT2, rfl, _, rfl⟩⟩
    have I1 : Inv X pins σ (upd H s.heap.objs.size (.tup [.int (i : Nat), x])) { s with heap := h2, toks := tk + 1 } :=
      I.turnedNew (ch := [e, it]) (fun b ob hb q => (sb.2 b (fun z => hb (by rw [z]; exact List.mem_cons_self))).trans (hk b ob (fun z => hb (by rw [z]; exact List.mem_cons_self)) (fun z => hb (by rw [z]; exact List.mem_cons_of_mem _ List.mem_cons_self)) q)) hf (Nat.le_refl _) new
    refine ⟨.ref s.heap.objs.size, _, I1, rfl, ⟨_, x, rfl, I.hok.fresh (Nat.le_refl _), rfl, fun ys hy => by rw [I.tuple_inj hy hq]; exact hx⟩, ⟨⟨u, ?_⟩, ?_, hne⟩, fun b hb => ?_⟩
    · have e1 : ((i + 1 : Nat) : Int) = (i : Int) + 1 := by omega
      rw [e1]; exact he'
    · obtain ⟨o, q, r⟩ := st'.1
      exact ⟨o, (sb.2 it (Ne.symm hne)).trans q, r⟩
    · have hb' : b < s.heap.objs.size := by
        rcases List.mem_cons.mp hb with z | z
        · rw [z]; exact el
        · rw [List.mem_singleton.mp z]; exact il
      rw [upd_ne (Nat.ne_of_lt hb')]
      exact (hf b hb).1
  done := by
    intro X hP hw hK hc i pins s σ H E I hf st hg
    subst hP hw hK
    obtain ⟨⟨old, he⟩, hit, hne⟩ := st
    obtain ⟨xs, hq, hx⟩ := hg
    obtain ⟨its, rv, p, hz⟩ := I.tuple hq
    obtain ⟨f0, f1, f2, f3, f4, f5⟩ := hf it (List.mem_cons_of_mem _ List.mem_cons_self)
    have isT : s.heap.IsTuple a its.toArray := p
    have ai : a ≠ it := fun z => by
      obtain ⟨o1, q1, q2, _⟩ := isT
      obtain ⟨o2, q3, q4, _⟩ := hit
      rw [z, q3] at q1; cases q1
      rw [q4] at q2; simp at q2
    have none : its.toArray[i]? = none := by
      have hl := rv.length
      simp; omega
    unfold pyNext
    have hT : s.TypeIs (.ref e) "enumerate" := ⟨_, he, rfl⟩
    refine wpAny_bind (wpAny_attempt (wpAny_callSpecial?_slot (name := Str.ofString "__next__") hT F.slot_enumerate_next (wpAny_call_entry F.slot_enumerate_next hT F.entry_enumerate_next ?_ (F.args_enumerate_next_1 _))))
    show wpAny _ _ (field (.ref e) 2 >>= _) _ _ _
    refine wpAny_bind (wpAny_field he rfl (x := .ref it) rfl (wpAny_bind (wpAny_nextOf_tuple_end (I.ok.hd hc) hit isT none fun h' x he' hx' => ?_)))
    obtain ⟨o, ho, hcl⟩ := hx'
    refine wpAny_bind (wpAny_isInstance (T := "StopIteration") (b := true) ⟨o, ho, hcl⟩ isSubtype_stop ?_)
    exact wpAny_pure ⟨rfl, I.turned (t' := s.toks) (fun b o hb q => he' b o hb q) f0 f1 f3 f4 f5⟩
  self := fun A i s Q E st h => let ⟨⟨_, he⟩, _⟩ := st; wpAny_pyIter_enum he h
def iEnumA (K : PySem.W.Frag) (ta : TA) : TI := fun σ H R => ta σ H fun vs H1 => ∃ a, vs = [.ref a] ∧ ((∃ xs, SqL K H1 a xs ∧ R (Ite K a) H1) ∨ (∃ xs, SqT K H1 a xs ∧ R (Itu K a) H1))
theorem pi_enumA {X : Cx} {e : Expr} {ta : TA} {p pos tpos : Pos} {elts : List Expr} {kk : Nat} (hg : Gl X "enumerate") (hm : X.mg "enumerate" = none) (ha : PA X [e] ta) (hs : starEach [e] X.env = [(false, eval e X.env)] := by rfl) :
    PI X (.Tuple elts kk tpos) (.Call (.Name "enumerate" p) [e] [] pos) (iEnumA X.K ta) := by
  refine ⟨fun pins s σ H R I h => Call_ (ld_blt I hg hm boot_enumerate (PyProof.Rows.callWith_type1 (thn (ha.run pos pins s σ H _ I h) fun us s1 ⟨vs, H1, I1, r1, a, ex, q⟩ => ?_) hs rfl))⟩
  subst ex
  cases r1 with
  | cons r rr =>
    cases rr
    cases r
    have fresh : ∀ b ∈ [s1.heap.objs.size + 1, s1.heap.objs.size], FpOk X pins H1 b := fun b hb => by
      have le : s1.heap.objs.size ≤ b := by
        rcases List.mem_cons.mp hb with z | z
        · rw [z]; exact Nat.le_succ _
        · rw [List.mem_singleton.mp z]; exact Nat.le_refl _
      exact I1.fpOk le (I1.hok.fresh le)
    rcases q with ⟨xs, hq, q⟩ | ⟨xs, hq, q⟩
    · obtain ⟨its, rv, p', hz⟩ := I1.list hq
      refine call_enumerate_list p'.isList fun h' he hit hsz hk => wpAny_pyIter_enum he ?_
      exact ⟨_, _, _, _, H1, rfl, I1.kept (t' := s1.toks) hk, turn_enum a (s1.heap.objs.size + 1) s1.heap.objs.size, ⟨⟨.none, he⟩, hit, Nat.succ_ne_self _⟩, fresh, q⟩
    · obtain ⟨its, rv, p', hz⟩ := I1.tuple hq
      refine EnumTup.call_tup (show s1.heap.IsTuple a its.toArray from p') fun h' he hit hk => wpAny_pyIter_enum he ?_
      exact ⟨_, _, _, _, H1, rfl, I1.kept (t' := s1.toks) hk, turn_enumT a (s1.heap.objs.size + 1) s1.heap.objs.size, ⟨⟨.none, he⟩, hit, Nat.succ_ne_self _⟩, fresh, q⟩
end DS
end
section
set_option Elab.async false
set_option linter.all false
set_option maxRecDepth 100000
set_option maxHeartbeats 4000000
/-! DsS: meanings for enumerate, isinstance, slices, lists of ranges, parallel stores, += on own lists -/
namespace DS
open PySem PySem.Spec PyProof.Rows L2
/-! enumerate -/
def enumD : Nat → List PyData → List PyData
  | _, [] => []
  | k, x :: r => .tuple [.int k, x] :: enumD (k + 1) r
theorem enumD_len : ∀ (xs : List PyData) (k : Nat), (enumD k xs).length = xs.length
  | [], _ => rfl
  | x :: r, k => by unfold enumD; rw [List.length_cons, enumD_len r, List.length_cons]
theorem enumD_get : ∀ (xs : List PyData) (k i : Nat) {d : PyData}, (enumD k xs)[i]? = some d → ∃ x, xs[i]? = some x ∧ d = .tuple [.int ((k + i : Nat)), x]
  | [], _, _, _, h => by simp [enumD] at h
  | x :: r, k, 0, d, h => by unfold enumD at h; simp at h; exact ⟨x, rfl, h.symm⟩
  | x :: r, k, i + 1, d, h => by
    unfold enumD at h
    obtain ⟨y, h1, h2⟩ := enumD_get r (k + 1) i (by simpa using h)
    have e : k + 1 + i = k + (i + 1) := by omega
    exact ⟨y, by simpa using h1, by rw [h2, e]⟩
def mEnum (ma : M RV) : M (List PyData) := bnd ma fun a => bnd (itemsD a) fun xs => ret (enumD 0 xs)
theorem pair_ext {K : PySem.W.Frag} {Hs Hs1 H : Hp} {p : Addr} {i : Nat} {x : V} {d : PyData} (s1 : Same Hs Hs1) (s2 : Same Hs1 H) (hp : H p = none) (h : Dp K Hs x d) : ∃ Hs2, Ext Hs1 H Hs2 (upd H p (.tup [.int (i : Nat), x])) ∧ Dp K Hs2 (.ref p) (.tuple [.int ((0 + i : Nat)), d]) := by
  refine ⟨_, .new hp (fun ps z => by cases z), ?_⟩
  have n : Hs1 p = none := none_of_same s2 hp
  rw [Nat.zero_add]
  exact .tup (SqT.of upd_same) (.cons (.int _) (.cons (dp_mono (s1.trans (same_upd n)) h) .nil))
theorem walkD_enumL {K : PySem.W.Frag} {Hs : Hp} {a : Addr} {vs : List V} {ds : List PyData} (s : SqL K Hs a vs) (al : DpAll K Hs vs ds) : WalkD K (Ite K a) (enumD 0 ds) Hs := by
  have hl := dpAll_len al
  refine ⟨fun i H hi sm => ?_, fun H sm => ⟨vs, sm.seq s, by rw [enumD_len, hl]; exact Nat.le_refl _⟩, fun i H x H' Hs1 d e s1 s2 y => ?_⟩
  · rw [enumD_len, ← hl] at hi
    exact ⟨vs, vs[i], sm.seq s, List.getElem?_eq_getElem hi⟩
  · obtain ⟨p, v, rfl, hp, rfl, q⟩ := y
    obtain ⟨u, h1, rfl⟩ := enumD_get ds 0 i e
    obtain ⟨w, h2, h3⟩ := dpAll_get al h1
    have h4 := q vs ((s1.trans s2).seq s)
    rw [h2] at h4; cases h4
    exact pair_ext s1 s2 hp h3
theorem walkD_enumT {K : PySem.W.Frag} {Hs : Hp} {a : Addr} {vs : List V} {ds : List PyData} (s : SqT K Hs a vs) (al : DpAll K Hs vs ds) : WalkD K (Itu K a) (enumD 0 ds) Hs := by
  have hl := dpAll_len al
  refine ⟨fun i H hi sm => ?_, fun H sm => ⟨vs, same_sqT sm s, by rw [enumD_len, hl]; exact Nat.le_refl _⟩, fun i H x H' Hs1 d e s1 s2 y => ?_⟩
  · rw [enumD_len, ← hl] at hi
    exact ⟨vs, vs[i], same_sqT sm s, List.getElem?_eq_getElem hi⟩
  · obtain ⟨p, v, rfl, hp, rfl, q⟩ := y
    obtain ⟨u, h1, rfl⟩ := enumD_get ds 0 i e
    obtain ⟨w, h2, h3⟩ := dpAll_get al h1
    have h4 := q vs (same_sqT (s1.trans s2) s)
    rw [h2] at h4; cases h4
    exact pair_ext s1 s2 hp h3
section
variable {T : Tbs} {g : Sg} {X : Cx} {W : WX} {e a b : Expr} {ma mb : M RV} {es : List Expr} {mr : M (List RV)} {st : Stmt} {tg iter : Expr}
theorem si_enum {p pos tpos : Pos} {elts : List Expr} {kk : Nat} (hg : Gl X "enumerate") (hm : X.mg "enumerate" = none) (ha : SimE T X W e ma) (hs : starEach [e] X.env = [(false, eval e X.env)] := by rfl) :
    SimI T X W (.Tuple elts kk tpos) (.Call (.Name "enumerate" p) [e] [] pos) (mEnum ma) :=
  pi_imp (pi_enumA hg hm (pa_cons ha pa_nil hs) hs) fun σ H R q => tI_bnd q fun a ρ1 v H1 Hs1 rp1 ra p => by
    unfold DS.bnd itemsD at p
    cases a with
    | slot _ => exact p.elim
    | dat x =>
      have ra : Dp X.K Hs1 v x := ra
      cases ra with
      | non => exact p.elim
      | bl _ => exact p.elim
      | int _ => exact p.elim
      | str _ => exact p.elim
      | @lst a vs ds s al => exact ⟨a, rfl, .inl ⟨vs, rp1.sub.seq s, p _ _ _ rp1 Grow.refl (walkD_enumL s al)⟩⟩
      | @tup a vs ds s al => exact ⟨a, rfl, .inr ⟨vs, same_sqT rp1.sub s, p _ _ _ rp1 Grow.refl (walkD_enumT s al)⟩⟩
/-! isinstance -/
theorem tyx_of {K : PySem.W.Frag} {Hs H : Hp} {v : V} {x : PyData} (s : Same Hs H) (h : BRep K Hs H v x) : TyX K H v (.type (kindOf x)) := by
  cases h.dp s with
  | non => exact .base .non
  | bl b => exact .base (.bl b)
  | int i => exact .base (.int i)
  | str z => exact .base (.str z)
  | lst q _ =>
    rcases q with (q | ⟨o, q⟩) | ⟨o, its, n, q, c, _⟩
    · exact .base (.lst q)
    · exact .base (.frz q)
    · exact .kList q c
  | tup q _ =>
    rcases q with (q | ⟨o, q⟩) | ⟨o, its, n, q, c, _⟩
    · exact .base (.tup q)
    · exact .fTuple q
    · exact .kTuple q c
/-- isinstance's answers for the kinds of data -/
def KitOk (K : PySem.W.Frag) (cs : List String) : Prop := ∀ x : PyData, PySem.W.kitAny K (.type (kindOf x)) (cs.map Value.type) = some (dIsi cs x)
def mIsi (cs : List String) (ma : M RV) : M RV := mOp1 (fun x => some (.bool (dIsi cs x))) ma
theorem sim_isi1 {c : String} {a2 : Expr} {p pos : Pos} (hk : KitOk X.K [c]) (hg : Gl X "isinstance") (hm : X.mg "isinstance" = none) (ha : SimE T X W e ma) (h2 : PE X a2 (tC (.ty c)))
    (h : PA X [e, a2] (tCons (tM X.K T X.mg W (kE X.K) ma) (tCons (tC (.ty c)) tNil)) → PE X (.Call (.Name "isinstance" p) [e, a2] [] pos) (tCB (rIsi X.K) (tCons (tM X.K T X.mg W (kE X.K) ma) (tCons (tC (.ty c)) tNil)))) (hs : starEach [e, a2] X.env = (false, eval e X.env) :: starEach [a2] X.env := by rfl) (hs2 : starEach [a2] X.env = (false, eval a2 X.env) :: starEach [] X.env := by rfl) :
    SimE T X W (.Call (.Name "isinstance" p) [e, a2] [] pos) (mIsi [c] ma) :=
  pe_imp (h (pa_cons ha (pa_cons h2 pa_nil hs2) hs)) fun σ H Q q => tM_bnd q fun r ρ1 v H1 Hs1 rp1 _ ra p => by
    obtain ⟨x, z, hx, hf, he⟩ := op1D_end rp1 ra p
    cases hf
    refine ⟨v, .ty c, _, _, dIsi [c] x, rfl, .ty c, tyx_of rp1.sub hx, ?_, he.here (.bl _)⟩
    have k := hk x
    unfold List.map PySem.W.kitAny at k
    cases e1 : PySem.W.kitOne X.K (.type (kindOf x)) (.type c) with
    | none => rw [e1] at k; cases k
    | some b =>
      rw [e1] at k
      cases b with
      | true => exact k
      | false => exact k
def clsVs : List String → List V := List.map V.ty
theorem clsVs_ok : ∀ cs : List String, Paired ClsV (clsVs cs) (cs.map Value.type)
  | [] => .nil
  | c :: r => .cons (.ty c) (clsVs_ok r)
theorem sim_isiT {cs : List String} {a2 : Expr} {p pos : Pos} {t2 : TE} (hk : KitOk X.K cs) (ha : SimE T X W e ma) (h2 : PE X a2 t2) (ht : ∀ σ H Q, (∀ q, H q = none → Q (.ref q) (upd H q (.tup (clsVs cs)))) → t2 σ H Q)
    (h : PA X [e, a2] (tCons (tM X.K T X.mg W (kE X.K) ma) (tCons t2 tNil)) → PE X (.Call (.Name "isinstance" p) [e, a2] [] pos) (tCB (rIsiT X.K) (tCons (tM X.K T X.mg W (kE X.K) ma) (tCons t2 tNil)))) (hs : starEach [e, a2] X.env = (false, eval e X.env) :: starEach [a2] X.env := by rfl) (hs2 : starEach [a2] X.env = (false, eval a2 X.env) :: starEach [] X.env := by rfl) :
    SimE T X W (.Call (.Name "isinstance" p) [e, a2] [] pos) (mIsi cs ma) :=
  pe_imp (h (pa_cons ha (pa_cons h2 pa_nil hs2) hs)) fun σ H Q q => tM_bnd q fun r ρ1 v H1 Hs1 rp1 _ ra p => by
    refine ht σ H1 _ fun c hc => ?_
    obtain ⟨r2, g2⟩ := (Ext.new (o := HO.tup (clsVs cs)) hc fun ps z => by cases z).rep rp1
    obtain ⟨x, z, hx, hf, he⟩ := op1D_end r2 (rv_grow ra g2) (Post.grow (r := op1D (fun x => some (.bool (dIsi cs x))) r ρ1) p g2)
    cases hf
    exact ⟨v, c, clsVs cs, _, _, dIsi cs x, rfl, upd_same, clsVs_ok cs, tyx_of r2.sub hx, hk x, he.here (.bl _)⟩
/-! slices -/
theorem cut_all {K : PySem.W.Frag} {H : Hp} : ∀ {vs : List V} {ds : List PyData} (a b : Nat), DpAll K H vs ds → DpAll K H ((vs.drop a).take b) ((ds.drop a).take b)
  | _, _, 0, 0, _ => by simp; exact .nil
  | _, _, 0, b + 1, .nil => by simp; exact .nil
  | _, _, 0, b + 1, .cons h t => by simp; exact .cons h (by simpa using cut_all 0 b t)
  | _, _, a + 1, b, .nil => by simp; exact .nil
  | _, _, a + 1, b, .cons h t => by simpa using cut_all a b t
/-- the bound of a slice: none, or an int -/
def optI (mo : Option (M RV)) : M (Option Int) := match mo with
  | none => ret none
  | some m => bnd m fun r => fun ρ => match r with
    | .dat (.int i) => .ok (some i) ρ
    | _ => .bad
def SimO1 (T : Tbs) (X : Cx) (W : WX) (e : Option Expr) (mo : Option (M RV)) : Prop := match e, mo with
  | none, none => True
  | some e, some m => SimE T X W e m
  | _, _ => False
def kP (K : PySem.W.Frag) : Kd (Option Int) (Option Int) := ⟨fun _ _ _ _ a b => a = b, fun _ _ _ _ => False⟩
theorem po_of {oe : Option Expr} {mo : Option (M RV)} (h : SimO1 T X W oe mo) : ∃ t : TO, PO X oe t ∧ ∀ σ H Q, tM X.K T X.mg W (kP X.K) (optI mo) σ H Q → t σ H Q := by
  cases oe with
  | none =>
    cases mo with
    | none => exact ⟨_, po_none, fun σ H Q ⟨ρ, Hs, rp, p⟩ => p none H Hs rp Grow.refl rfl fun _ z => z.elim⟩
    | some m => exact h.elim
  | some e =>
    cases mo with
    | none => exact h.elim
    | some m =>
      refine ⟨_, po_some h, fun σ H Q q => tM_bnd q fun r ρ1 v H1 Hs1 rp1 _ ra p => ?_⟩
      cases r with
      | slot _ => exact p.elim
      | dat x =>
        have ra : Dp X.K Hs1 v x := ra
        cases ra with
        | int i => exact ⟨i, rfl, p (some i) H1 Hs1 rp1 Grow.refl rfl fun _ z => z.elim⟩
        | _ => exact p.elim
def mSl (ma : M RV) (lo hi : Option (M RV)) : M RV := bnd ma fun r => bnd (optI lo) fun l => bnd (optI hi) fun u => op1D (fun x => dSl x l u) r
theorem sim_sl {lo hi : Option Expr} {ml mh : Option (M RV)} {p2 pos : Pos} (ha : SimE T X W e ma) (hl : SimO1 T X W lo ml) (hh : SimO1 T X W hi mh) : SimE T X W (.Subscript e (.Slice lo hi none p2) pos) (mSl ma ml mh) := by
  obtain ⟨t1, h1, w1⟩ := po_of hl
  obtain ⟨t2, h2, w2⟩ := po_of hh
  refine pe_imp (pe_slice ((sl_list.or sl_tupA).or sl_str) ha h1 h2) fun σ H Q q => tM_bnd q fun r ρ1 v H1 Hs1 rp1 _ ra p => w1 _ _ _ ⟨ρ1, Hs1, rp1, Post.bnd (r := optI ml ρ1) p fun l ρ2 l' H2 Hs2 rp2 g2 rl p2 => w2 _ _ _ ⟨ρ2, Hs2, rp2, Post.bnd (r := optI mh ρ2) p2 fun u ρ3 u' H3 Hs3 rp3 g3 ru p3 => ?_⟩⟩
  obtain rfl : l = l' := rl
  obtain rfl : u = u' := ru
  obtain ⟨x, z, hx, hf, he⟩ := op1D_end rp3 (rv_grow (rv_grow ra g2) g3) p3
  unfold dSl at hf
  split at hf
  · cases hf
    obtain ⟨q, us, rfl, k1, k2⟩ := hx.list rp3.sub
    have hl := dpAll_len k2
    refine .inl (.inl ⟨q, us, rfl, k1, fun p hp => he.lst rp3.sub hp ?_⟩)
    unfold cutD cutV
    rw [← hl]
    exact cut_all _ _ k2
  · rename_i ds
    cases hf
    obtain ⟨q, us, rfl, k1, k2, k3⟩ := hx.tup rp3.sub
    have hl := dpAll_len k2
    refine .inl (.inr ⟨q, us, rfl, k1, fun hw => he.here ?_, fun _ p hp => he.tup rp3.sub hp ?_⟩)
    · have : cutD ds l u = ds := by
        unfold cutD
        rw [← hl, hw.1, hw.2, List.drop_zero, Nat.sub_zero, hl, List.take_length]
      rw [this]; exact k3
    · unfold cutD cutV
      rw [← hl]
      exact cut_all _ _ k2
  · split at hf
    · rename_i hz
      cases hf
      rw [hx.str]
      exact .inr ⟨_, rfl, hz, he.here (.str _)⟩
    · cases hf
  · cases hf
end
end DS
end
section
set_option Elab.async false
set_option linter.all false
set_option maxRecDepth 100000
set_option maxHeartbeats 4000000
/-! DsT: parallel stores, += on own lists, lists and tuples of ranges -/
namespace DS
open PySem PySem.Spec PyProof.Rows L2
section
variable {T : Tbs} {g : Sg} {X : Cx} {W : WX} {e a b : Expr} {ma mb : M RV} {es : List Expr} {mr : M (List RV)} {st : Stmt}
def par2 (i j : Nat) (rs : List RV) : M Fl := fun ρ => match rs with
  | [.dat x, .dat y] => .ok .nx ((ρ.set i (.d x)).set j (.d y))
  | _ => .bad
def mPar (i j : Nat) (mr : M (List RV)) : M Fl := bnd mr fun rs => par2 i j rs
theorem ss_par {i j : Nat} (ha : SimA T X W es mr) (hi : i ∉ g.pr) (hj : j ∉ g.pr) (h : PA X es (tM X.K T X.mg W (kA X.K) mr) → PS X st (tPar i j (tM X.K T X.mg W (kA X.K) mr))) : SimS T g X W st (mPar i j mr) :=
  ps_imp (h ha) fun D σ H q => tS_bnd (k := kA X.K) q fun rs ρ1 vs H1 Hs1 rp1 _ ra p => by
    unfold par2 at p
    split at p
    · rename_i x y _
      have hl := aA_len ra
      match vs, hl with
      | [v, w], _ =>
        obtain ⟨r1, r2, _⟩ := (ra : RVRep X.K Hs1 σ (.dat x) v ∧ RVRep X.K Hs1 σ (.dat y) w ∧ True)
        exact ⟨v, w, rfl, p _ H1 Hs1 ((rp1.setD r1).setD r2) (Grow.setD.trans Grow.setD) ((Kp.set hi).trans (Kp.set hj))⟩
    · exact p.elim
def par3 (i j l : Nat) (rs : List RV) : M Fl := fun ρ => match rs with
  | [.dat x, .dat y, .dat z] => .ok .nx (((ρ.set i (.d x)).set j (.d y)).set l (.d z))
  | _ => .bad
def mPar3 (i j l : Nat) (mr : M (List RV)) : M Fl := bnd mr fun rs => par3 i j l rs
theorem ss_par3 {i j l : Nat} (ha : SimA T X W es mr) (hi : i ∉ g.pr) (hj : j ∉ g.pr) (hk : l ∉ g.pr) (h : PA X es (tM X.K T X.mg W (kA X.K) mr) → PS X st (tPar3 i j l (tM X.K T X.mg W (kA X.K) mr))) : SimS T g X W st (mPar3 i j l mr) :=
  ps_imp (h ha) fun D σ H q => tS_bnd (k := kA X.K) q fun rs ρ1 vs H1 Hs1 rp1 _ ra p => by
    unfold par3 at p
    split at p
    · rename_i x y z _
      have hl := aA_len ra
      match vs, hl with
      | [v, w, u], _ =>
        obtain ⟨r1, r2, r3, _⟩ := (ra : RVRep X.K Hs1 σ (.dat x) v ∧ RVRep X.K Hs1 σ (.dat y) w ∧ RVRep X.K Hs1 σ (.dat z) u ∧ True)
        exact ⟨v, w, u, rfl, p _ H1 Hs1 (((rp1.setD r1).setD r2).setD r3) ((Grow.setD.trans Grow.setD).trans Grow.setD) (((Kp.set hi).trans (Kp.set hj)).trans (Kp.set hk))⟩
    · exact p.elim
/-! x += y, both the def's own lists -/
def augL (i : Nat) (s : SV) : M Fl := fun ρ => match ρ[i]?, s with
  | some (.ol xs), .ol ys => if xs.length + ys.length ≤ sizeLine then .ok .nx (ρ.set i (.ol (xs ++ ys))) else .bad
  | _, _ => .bad
def mAugO (i : Nat) (mo : M SV) : M Fl := fun ρ => if isOL ρ i = true then (bnd mo fun s => augL i s) ρ else .bad
theorem ss_augO {i : Nat} {mo : M SV} (ha : SimO T X W e mo) (h : PE X e (tM X.K T X.mg W (kO X.K T) mo) → PS X st (tAug i (tM X.K T X.mg W (kO X.K T) mo) rExt2)) : SimS T g X W st (mAugO i mo) :=
  ps_imp (h ha) fun D σ H ⟨ρ, Hs, rp, p⟩ => by
    unfold mAugO at p
    by_cases hz : isOL ρ i = true
    · rw [if_pos hz] at p
      have old : ∃ l, at? σ i = some (.ref l) := by
        unfold isOL at hz
        cases e : ρ[i]? with
        | none => rw [e] at hz; cases hz
        | some s =>
          rw [e] at hz
          cases s with
          | ol xs => obtain ⟨l, us, f1, _⟩ := rp.at_ i _ e; exact ⟨l, f1⟩
          | un => cases hz
          | d _ => cases hz
          | od _ => cases hz
          | oo _ _ => cases hz
      obtain ⟨l, e1⟩ := old
      refine ⟨.ref l, at_some e1, ρ, Hs, rp, ?_⟩
      unfold DS.bnd at p
      cases em : mo ρ with
      | bad => rw [em] at p; exact p.elim
      | er x ρ1 => rw [em] at p; exact fun cls dd H1 Hs1 a b c => p cls dd σ H1 Hs1 a b Kp.refl c
      | ok s ρ1 =>
        rw [em] at p
        intro v H1 Hs1 rp1 gr ⟨q1, q2⟩ n
        have p : PostS X.K T X.mg g W D ρ σ Hs H (augL i s ρ1) := p
        unfold augL at p
        split at p
        · rename_i xs ys ei _
          by_cases hl : xs.length + ys.length ≤ sizeLine
          · rw [if_pos hl] at p
            obtain ⟨l', us, f1, f2, f3, f4⟩ := rp1.at_ i _ ei
            rw [e1] at f1; cases f1
            obtain ⟨q, ws, g1, g2, g3, g4⟩ := q1
            cases g1
            refine ⟨l, q, us, ws, rfl, rfl, f2, g2, by rw [dpAll_len f3, dpAll_len g3]; exact hl, ?_⟩
            have hs : SRep X.K T Hs1 (upd H1 l (.lst (us ++ ws))) (.ol (xs ++ ys)) (at? σ i) := ⟨l, _, e1, upd_same, dpAll_app f3 g3, f4⟩
            have ow' : ∀ a, OwnAt (upd H1 l (.lst (us ++ ws))) (.ol (xs ++ ys)) (at? σ i) a → OwnAt H1 (.ol xs) (at? σ i) a := fun a o => o
            have ow : OwnAt H1 (.ol xs) (at? σ i) l := e1
            have fin := p σ _ Hs1 (rp1.mut ei ow ow' hs) (gr.trans (Grow.mut rp1 ei ow ow' fun _ z => nomatch z)) Kp.refl
            show D.nx (σ.set i (some (.ref l))) _
            rw [set_at_self e1]
            exact fin
          · rw [if_neg hl] at p; exact p.elim
        · exact p.elim
    · rw [if_neg hz] at p; exact p.elim
theorem breps_H {K : PySem.W.Frag} {Hs H : Hp} (s : Same Hs H) : ∀ {vs : List V} {xs : List PyData}, bReps K Hs H vs xs → bReps K H H vs xs
  | [], [], _ => trivial
  | [], _ :: _, h => h.elim
  | _ :: _, [], h => h.elim
  | _ :: _, _ :: _, h => ⟨.inl (h.1.dp s), breps_H s h.2⟩
/-! list(range(..)), tuple(range(..)) -/
def rangeC (i c : Int) (n : Nat) : List PyData := (List.range n).map fun (k : Nat) => .int (i + k * c)
def rgN (i j c : Int) : Nat := (Builtin.Range.rangeSize i j c).toNat
/-- a range's start, step, many -/
def dRg : List PyData → Option (Int × Int × Nat)
  | [.int j] => if -(2 ^ 62) ≤ j ∧ j < 2 ^ 62 ∧ rgN 0 j 1 ≤ sizeLine then some (0, 1, rgN 0 j 1) else none
  | [.int i, .int j] => if -(2 ^ 62) ≤ i ∧ i < 2 ^ 62 ∧ -(2 ^ 62) ≤ j ∧ j < 2 ^ 62 ∧ rgN i j 1 ≤ sizeLine then some (i, 1, rgN i j 1) else none
  | [.int i, .int j, .int c] => if c ≠ 0 ∧ c.natAbs < 1073741824 ∧ Builtin.Range.small i j c = true ∧ rgN i j c ≤ sizeLine then some (i, c, rgN i j c) else none
  | _ => none
theorem size_nonneg (i j c : Int) : 0 ≤ Builtin.Range.rangeSize i j c := by
  unfold Builtin.Range.rangeSize
  split
  · split
    · have := Int.ediv_nonneg (a := j - i - 1) (b := c) (by omega) (by omega); omega
    · exact Int.le_refl _
  · rename_i h
    split
    · by_cases hc : c = 0
      · subst hc; simp
      · have := Int.ediv_nonneg (a := i - j - 1) (b := -c) (by omega) (by omega); omega
    · exact Int.le_refl _
theorem rgN_eq (i j c : Int) : Builtin.Range.rangeSize i j c = (rgN i j c : Nat) := by
  unfold rgN; rw [Int.toNat_of_nonneg (size_nonneg i j c)]
def rgVs (i c : Int) (n : Nat) : List V := (List.range n).map fun (k : Nat) => .int (i + k * c)
theorem rgVs_dp {K : PySem.W.Frag} {H : Hp} (i c : Int) : ∀ l : List Nat, DpAll K H (l.map fun (k : Nat) => V.int (i + k * c)) (l.map fun (k : Nat) => PyData.int (i + k * c))
  | [] => .nil
  | k :: l => .cons (.int _) (rgVs_dp i c l)
theorem rgVs_vals {i c : Int} {n : Nat} {acc : Array Value} (h : ItemsOf (fun k v => ∃ t, v = .int (i + k * c) t) acc n) : Vals (rgVs i c n) acc.toList := by
  have e : acc.toList.length = n := by rw [Array.length_toList]; exact h.1
  unfold rgVs
  rw [← e]
  refine vals_of_get acc.toList _ fun j u hj => ?_
  obtain ⟨t, rfl⟩ := h.2 j u (by rw [← hj, Array.getElem?_toList])
  exact ⟨t, rfl⟩
/-- range(..), made as an argument -/
def PRgA (X : Cx) (e : Expr) (ta : TA) : Prop := ∀ (pins : List (Addr × Obj)) (s : Shared) (σ : L2.St) (H : Hp) (Q : Int → Int → Nat → Hp → Prop), Inv X pins σ H s →
  ta σ H (fun vs H1 => ∃ ds i c n, bReps X.K H1 H1 vs ds ∧ dRg ds = some (i, c, n) ∧ Q i c n H1) →
    wpAny (model X.prog X.w) X.A (eval e X.env) (fun x s' => ∃ r i j c t u v n H', x = .ref r ∧ IsRange s'.heap r i j c t u v ∧ Builtin.Range.small i j c = true ∧ Builtin.Range.rangeSize i j c = (n : Nat) ∧ n ≤ 2 ^ 24 ∧ Inv X pins σ H' s' ∧ Q i c n H') X.xe s
theorem prgA {p pos : Pos} {e₀ : Expr} {es : List Expr} {ta : TA} (hg : Gl X "range") (hm : X.mg "range" = none) (ha : PA X (e₀ :: es) ta) (hs : starEach (e₀ :: es) X.env = (false, eval e₀ X.env) :: starEach es X.env := by rfl) (hpl : (backTo pos (starEach es X.env)).any (·.1) = false := by rfl) :
    PRgA X (.Call (.Name "range" p) (e₀ :: es) [] pos) ta := by
  intro pins s σ H Q I h
  refine Call_ (ld_blt I hg hm boot_range (PyProof.Rows.callWith_type1 (thn (ha.run pos pins s σ H _ I h) fun us s1 ⟨vs, H1, I1, r1, ds, i, c, n, hb, hd, q⟩ => ?_) hs hpl))
  unfold dRg at hd
  split at hd
  · rename_i j
    split at hd
    · rename_i ok
      cases hd
      obtain ⟨v, rfl, b1⟩ := hb.one
      obtain rfl := b1.int
      cases r1 with
      | cons p1 p2 =>
        cases p2
        obtain ⟨t, rfl⟩ := p1
        refine call_range_1 ⟨_, 0, j, 1, _, _, _, rgN 0 j 1, H1, rfl, IsRange.new _ _ _ _ _ _ _, small_one (by decide) (by decide) ok.1 ok.2.1, rgN_eq _ _ _, ?_, I1.kept fun b u e => Heap.get?_push_of_some _ e, q⟩
        have := ok.2.2
        rw [sizeLine_eq] at this; omega
    · cases hd
  · rename_i i j
    split at hd
    · rename_i ok
      cases hd
      obtain ⟨v, w, rfl, b1, b2⟩ := hb.two
      obtain rfl := b1.int
      obtain rfl := b2.int
      cases r1 with
      | cons p1 p2 =>
        cases p2 with
        | cons p2 p3 =>
          cases p3
          obtain ⟨t, rfl⟩ := p1
          obtain ⟨t', rfl⟩ := p2
          refine call_range_2 ⟨_, i, j, 1, _, _, _, rgN i j 1, H1, rfl, IsRange.new _ _ _ _ _ _ _, small_one ok.1 ok.2.1 ok.2.2.1 ok.2.2.2.1, rgN_eq _ _ _, ?_, I1.kept fun b u e => Heap.get?_push_of_some _ e, q⟩
          have := ok.2.2.2.2
          rw [sizeLine_eq] at this; omega
    · cases hd
  · rename_i i j c
    split at hd
    · rename_i ok
      cases hd
      match vs, hb with
      | [v, w, u], hb =>
        obtain ⟨b1, b2, b3, _⟩ := hb
        obtain rfl := b1.int
        obtain rfl := b2.int
        obtain rfl := b3.int
        cases r1 with
        | cons p1 p2 =>
          cases p2 with
          | cons p2 p3 =>
            cases p3 with
            | cons p3 p4 =>
              cases p4
              obtain ⟨t, rfl⟩ := p1
              obtain ⟨t', rfl⟩ := p2
              obtain ⟨t'', rfl⟩ := p3
              refine call_range_3 ok.1 ⟨_, i, j, c, _, _, _, rgN i j c, H1, rfl, IsRange.new _ _ _ _ _ _ _, ok.2.2.1, rgN_eq _ _ _, ?_, I1.kept (t' := s1.toks) fun b u e => Heap.get?_push_of_some _ e, q⟩ (.inl (PyProof.noPylong_small ok.2.1))
              have := ok.2.2.2
              rw [sizeLine_eq] at this; omega
    · cases hd
  · cases hd
def tRgTo (K : PySem.W.Frag) (mk : List V → HO) (ta : TA) : TE := fun σ H Q => ta σ H fun vs H1 => ∃ ds i c n, bReps K H1 H1 vs ds ∧ dRg ds = some (i, c, n) ∧ n ≤ sizeLine ∧ ∀ q, H1 q = none → Q (.ref q) (upd H1 q (mk (rgVs i c n)))
theorem ta_mono {ta : TA} (h : ∀ σ H Q Q', (∀ vs H1, Q vs H1 → Q' vs H1) → ta σ H Q → ta σ H Q') {σ : L2.St} {H : Hp} {Q Q' : List V → Hp → Prop} (q : ta σ H Q) (k : ∀ vs H1, Q vs H1 → Q' vs H1) : ta σ H Q' := h σ H Q Q' k q
theorem pe_lstRg {p pos : Pos} {ta : TA} (mono : ∀ σ H Q Q', (∀ vs H1, Q vs H1 → Q' vs H1) → ta σ H Q → ta σ H Q') (hc : X.calm = true) (hg : Gl X "list") (hm : X.mg "list" = none) (he : PRgA X e ta) (na : starEach [e] X.env = (false, eval e X.env) :: starEach [] X.env := by rfl) : PE X (.Call (.Name "list" p) [e] [] pos) (tRgTo X.K .lst ta) := by
  refine ⟨fun pins s σ H Q I h => Call_ (ld_blt I hg hm boot_list (PyProof.Rows.callWith_type1 (args_cons (thn (he pins s σ H (fun i c n H1 => n ≤ sizeLine ∧ ∀ q, H1 q = none → Q (.ref q) (upd H1 q (.lst (rgVs i c n)))) I (mono _ _ _ _ (fun vs H1 ⟨ds, i, c, n, a, b, d⟩ => ⟨ds, i, c, n, a, b, d⟩) h)) fun x s1 ⟨r, i, j, c, t, u, v, n, H1, ex, hr, sm, sz, le, I1, hz, q⟩ => args_nil ?_) na) na))⟩
  subst ex
  refine call_list_range (n := n) (I1.ok.hd hc) hr sm sz le fun h' tk acc c' hk e' hi => ?_
  exact ⟨.ref s1.heap.objs.size, upd H1 s1.heap.objs.size (.lst (rgVs i c n)), I1.laid hk (Nat.le_refl _) (show ObjOk X.prog X.w _ _ _ (.lst (rgVs i c n)) from ⟨by unfold rgVs; rw [List.length_map, List.length_range]; exact hz, acc.toList, c', rgVs_vals hi, by rw [Array.toArray_toList]; exact e'⟩), rfl, q _ (I1.hok.fresh (Nat.le_refl _))⟩
theorem pe_tupRgA {p pos : Pos} {ta : TA} (mono : ∀ σ H Q Q', (∀ vs H1, Q vs H1 → Q' vs H1) → ta σ H Q → ta σ H Q') (hc : X.calm = true) (hg : Gl X "tuple") (hm : X.mg "tuple" = none) (he : PRgA X e ta) (na : starEach [e] X.env = (false, eval e X.env) :: starEach [] X.env := by rfl) : PE X (.Call (.Name "tuple" p) [e] [] pos) (tRgTo X.K .tup ta) := by
  refine ⟨fun pins s σ H Q I h => Call_ (ld_blt I hg hm boot_tuple (PyProof.Rows.callWith_type1 (args_cons (thn (he pins s σ H (fun i c n H1 => n ≤ sizeLine ∧ ∀ q, H1 q = none → Q (.ref q) (upd H1 q (.tup (rgVs i c n)))) I (mono _ _ _ _ (fun vs H1 ⟨ds, i, c, n, a, b, d⟩ => ⟨ds, i, c, n, a, b, d⟩) h)) fun x s1 ⟨r, i, j, c, t, u, v, n, H1, ex, hr, sm, sz, le, I1, hz, q⟩ => args_nil ?_) na) na))⟩
  subst ex
  refine call_tuple_range (n := n) (I1.ok.hd hc) hr sm sz le fun h' tk acc hk hi => ?_
  have I2 : Inv X pins σ H1 { s1 with heap := h', toks := tk } := I1.kept hk
  exact ⟨.ref h'.objs.size, upd H1 h'.objs.size (.tup (rgVs i c n)), I2.laid (t' := tk) (fun c o e => Heap.get?_push_of_some _ e) (Nat.le_refl _) (show ObjOk X.prog X.w _ _ _ (.tup (rgVs i c n)) from ⟨by unfold rgVs; rw [List.length_map, List.length_range]; exact hz, acc.toList, rgVs_vals hi, by rw [Array.toArray_toList]; exact IsTup.new _ _⟩), rfl, q _ (I2.hok.fresh (Nat.le_refl _))⟩
theorem tM_mono {K : PySem.W.Frag} {mg : Str → Option Value} {α β : Type} {k : Kd α β} {m : M α} : ∀ (σ : L2.St) (H : Hp) (Q Q' : β → Hp → Prop), (∀ v H1, Q v H1 → Q' v H1) → tM K T mg W k m σ H Q → tM K T mg W k m σ H Q' :=
  fun σ H Q Q' h ⟨ρ, Hs, rp, p⟩ => ⟨ρ, Hs, rp, p.mono h⟩
def dToRg (mk : List PyData → PyData) (xs : List PyData) : Option PyData := match dRg xs with
  | some (i, c, n) => if n ≤ sizeLine then some (mk (rangeC i c n)) else none
  | none => none
def mToRg (mk : List PyData → PyData) (mr : M (List RV)) : M RV := mCB (dToRg mk) mr
theorem torg {K : PySem.W.Frag} {mg : Str → Option Value} {σ : L2.St} {Hs H : Hp} {ρ : Rho} {rs : List RV} {vs : List V} {Q : VK} {mk : List PyData → PyData} (rp : Rep K T Hs ρ σ H) (ra : aA K Hs σ rs vs) (p : Post K T mg W (kE K) ρ σ Hs H (opnD (dToRg mk) rs ρ) Q) :
    ∃ ds i c n, bReps K H H vs ds ∧ dRg ds = some (i, c, n) ∧ n ≤ sizeLine ∧ OpEnd K Hs H (mk (rangeC i c n)) Q := by
  obtain ⟨xs, z, hx, hf, he⟩ := opnD_end rp ra p
  unfold dToRg at hf
  split at hf
  · rename_i i c n hd
    split at hf
    · rename_i hn
      cases hf
      refine ⟨xs, i, c, n, ?_, hd, hn, he⟩
      exact breps_H rp.sub hx
    · cases hf
  · cases hf
theorem sim_lstRg (ha : SimA T X W es mr) (h : PA X es (tM X.K T X.mg W (kA X.K) mr) → PE X e (tRgTo X.K .lst (tM X.K T X.mg W (kA X.K) mr))) : SimE T X W e (mToRg .list mr) :=
  pe_imp (h ha) fun σ H Q q => tM_bnd q fun rs ρ1 vs H1 Hs1 rp1 _ ra p => by
    obtain ⟨ds, i, c, n, h1, h2, h3, he⟩ := torg rp1 ra p
    exact ⟨ds, i, c, n, h1, h2, h3, fun q hq => he.lst rp1.sub hq (rgVs_dp i c _)⟩
theorem sim_tupRg (ha : SimA T X W es mr) (h : PA X es (tM X.K T X.mg W (kA X.K) mr) → PE X e (tRgTo X.K .tup (tM X.K T X.mg W (kA X.K) mr))) : SimE T X W e (mToRg .tuple mr) :=
  pe_imp (h ha) fun σ H Q q => tM_bnd q fun rs ρ1 vs H1 Hs1 rp1 _ ra p => by
    obtain ⟨ds, i, c, n, h1, h2, h3, he⟩ := torg rp1 ra p
    exact ⟨ds, i, c, n, h1, h2, h3, fun q hq => he.tup rp1.sub hq (rgVs_dp i c _)⟩
def ownRg (rs : List RV) : M SV := fun ρ => match datas ρ rs with
  | some xs => match dRg xs with
    | some (i, c, n) => if n ≤ sizeLine then .ok (.ol (rangeC i c n)) ρ else .bad
    | none => .bad
  | none => .bad
def mToRgO (mr : M (List RV)) : M SV := bnd mr ownRg
theorem so_lstRg (ha : SimA T X W es mr) (h : PA X es (tM X.K T X.mg W (kA X.K) mr) → PE X e (tRgTo X.K .lst (tM X.K T X.mg W (kA X.K) mr))) : SimO T X W e (mToRgO mr) :=
  pe_imp (h ha) fun σ H Q q => tM_bnd q fun rs ρ1 vs H1 Hs1 rp1 _ ra p => by
    unfold ownRg at p
    cases e1 : datas ρ1 rs with
    | none => rw [e1] at p; exact p.elim
    | some xs =>
      rw [e1] at p
      dsimp only at p
      have hb := breps_of rp1 ra e1
      split at p
      · rename_i i c n hd
        split at p
        · rename_i hn
          refine ⟨xs, i, c, n, ?_, hd, hn, fun q hq => own_newL rp1 hq (rgVs_dp i c _) p⟩
          exact breps_H rp1.sub hb
        · exact p.elim
      · exact p.elim
end
end DS
end
section
set_option Elab.async false
set_option linter.all false
set_option maxRecDepth 100000
set_option maxHeartbeats 4000000
/-! DsU: helpers for what the generator prints -/
namespace DS
open PySem PySem.Spec PyProof.Rows L2
theorem bt_len : bootBuiltins "len" = some (.builtin "len") := by decide +kernel
theorem bt_abs : bootBuiltins "abs" = some (.builtin "abs") := by decide +kernel
theorem bt_repr : bootBuiltins "repr" = some (.builtin "repr") := by decide +kernel
theorem bt_isinstance : bootBuiltins "isinstance" = some (.builtin "isinstance") := by decide +kernel
theorem bt_max : bootBuiltins "max" = some (.builtin "max") := by decide +kernel
theorem bt_min : bootBuiltins "min" = some (.builtin "min") := by decide +kernel
theorem bt_sum : bootBuiltins "sum" = some (.builtin "sum") := by decide +kernel
theorem bt_any : bootBuiltins "any" = some (.builtin "any") := by decide +kernel
theorem bt_all : bootBuiltins "all" = some (.builtin "all") := by decide +kernel
theorem bt_tuple : bootBuiltins "tuple" = some (.type "tuple") := by decide +kernel
theorem bt_list : bootBuiltins "list" = some (.type "list") := by decide +kernel
theorem bt_int : bootBuiltins "int" = some (.type "int") := by decide +kernel
theorem bt_bool : bootBuiltins "bool" = some (.type "bool") := by decide +kernel
theorem bt_str : bootBuiltins "str" = some (.type "str") := by decide +kernel
theorem kit_int (K : PySem.W.Frag) : KitOk K ["int"] := fun x => by cases x <;> kernel_rfl
theorem kit_bool (K : PySem.W.Frag) : KitOk K ["bool"] := fun x => by cases x <;> kernel_rfl
theorem kit_str (K : PySem.W.Frag) : KitOk K ["str"] := fun x => by cases x <;> kernel_rfl
theorem kit_seq (K : PySem.W.Frag) : KitOk K ["list", "tuple"] := fun x => by cases x <;> kernel_rfl
def dAddI : PyData → PyData → Option PyData
  | .int a, .int b => some (.int (a + b))
  | _, _ => none
theorem o_addI {K : PySem.W.Frag} : Op2 K dAddI (ipI fun i j => i + j) := op2_I0 (g' := fun i j => .int (i + j)) (fun x y z h => by
  unfold dAddI at h
  split at h
  · cases h; exact ⟨_, _, rfl, rfl, rfl⟩
  · cases h) fun _ _ _ => .int _
theorem o_subI {K : PySem.W.Frag} : Op2 K dSub (ipI fun i j => i - j) := o_sub
section
variable {T : Tbs} {g : Sg} {X : Cx} {W : WX} {x : Str} {p : Pos}
theorem sim_gint {i : Int} (hg : Gl X x) (h : ∃ t, X.mg x = some (.int i t)) (hd : (x == ("__debug__" : Str)) = false := by decide) : SimE T X W (.Name x p) (mC (.int i)) := by
  obtain ⟨t, h⟩ := h
  exact sim_c (v := .int i) (pe_glob hg h ⟨t, rfl⟩ hd) fun _ => .int _
theorem sim_gstr {i : Str} (hg : Gl X x) (h : ∃ t, X.mg x = some (.str i t)) (hd : (x == ("__debug__" : Str)) = false := by decide) : SimE T X W (.Name x p) (mC (.str i)) := by
  obtain ⟨t, h⟩ := h
  exact sim_c (v := .str i) (pe_glob hg h ⟨t, rfl⟩ hd) fun _ => .str _
theorem sim_int {i : Int} {j : Nat} : SimE T X W (.Constant (.int i) j p) (mC (.int i)) := sim_c pe_int fun _ => .int _
theorem sim_str {i : Str} {j : Nat} : SimE T X W (.Constant (.str i) j p) (mC (.str i)) := sim_c pe_str fun _ => .str _
theorem sim_bl {i : Bool} {j : Nat} : SimE T X W (.Constant (.bool i) j p) (mC (.bool i)) := sim_c pe_bl fun _ => .bl _
theorem sim_non {j : Nat} : SimE T X W (.Constant .none j p) (mC .none) := sim_c pe_non fun _ => .non
theorem fun_kb {K : PySem.W.Frag} {x qual : Str} {st : Stmt} {f : Addr} {fd : FuncData} {ps ks : List Str} {np : Nat} {idx : List Nat} (F : Fun K x qual st f fd)
    (h : ∀ (kV doc pm : Value) (an : Option Addr) (cdv ct : Value) (us ws : List Value), us.length = np → ws.length = ks.length → bindArgs (PySem.W.fnOf x qual (defArgs st) (defBody st) (defScope st) .none kV doc pm an cdv ct) ⟨us, ks.zip ws⟩ = pure (ps.zip (pickL idx (us ++ ws)))) : KB K fd ps ks np idx := by
  obtain ⟨oc, od, kV, doc, pm, an, cdv, ct, osl, rfl, lk, hcd⟩ := F.ex
  exact fun s us ws _ h1 h2 => .of_eq (h kV doc pm an cdv ct us ws h1 h2)
theorem two_size : (2 : Nat) ≤ sizeLine := by rw [sizeLine_eq]; exact Nat.le_of_ble_eq_true rfl
end
/-- THE RULE for a def whose code object is known -/
theorem fn_defC {P : Program} {w : World} {K : PySem.W.Frag} {mg : Str → Option Value} {base : Heap} {T : Tbs} {x qual : Str} {st : Stmt} {f : Addr} {N ps : List Str} {gd : Bool} {k n : Nat} {g : Sg} {m : M Fl} {oc kV doc pm cdv ct : Value} {od an : Option Addr} {osl : Array (Option Value)}
    (lk : K.lookup f = some ⟨oc, od, .func (PySem.W.fnOf x qual (defArgs st) (defBody st) (defScope st) .none kV doc pm an cdv ct), osl⟩) (hcd : PySem.W.codeIn K cdv qual = true) (S : FnScope N ps (defScope st)) (hps : ps.length = g.np) (hN : N.length = n)
    (hbody : ∀ (A : Around) (outer : List Env) (s : Shared) (H : Hp) (E : XK), (gd = true → A.guards = some []) → Room k (A.deeper (envOfC qual (defScope st) s.heap.objs.size f cdv)) →
      SimB T g (cxOf (L2.CX P w) P w K mg base N qual (defScope st) f cdv A outer s H E) (fun cls d _ H => E cls d H) (defBody st) m) : FnS P w K mg base T gd (k + 1) f (PySem.W.fnOf x qual (defArgs st) (defBody st) (defScope st) .none kV doc pm an cdv ct) ps (bodyF g n m) := by
  refine ⟨fun svs h => ?_, fun A outer s H args us vs Q E hg hr e0 hb rv hsp => ?_⟩
  · unfold bodyF at h
    by_cases ha : okArgs g svs = true
    · rw [okArgs_len ha, hps]
    · rw [if_neg ha] at h; exact absurd rfl h
  · obtain ⟨svs, Hs, rp, p⟩ := hsp
    unfold bodyF at p
    by_cases ha : okArgs g svs = true
    · rw [if_pos ha] at p
      have hv : svs.length = vs.length := by have := rp.len; simpa using this
      have hlen : vs.length = ps.length := by rw [← hv, okArgs_len ha, hps]
      have hNP : ps.length ≤ N.length := by
        have := S.pre
        have h2 : (N.take ps.length).length = ps.length := by rw [this]
        rw [List.length_take] at h2; omega
      have hn : svs.length + (n - g.np) = N.length := by rw [okArgs_len ha, hN]; omega
      refine LamX.run_ofS (N := N) (ps := ps) (us := us) (vs := vs) lk hcd S hr e0 hb rv hlen fun hr' => ?_
      refine ⟨_, hbody A outer s H E hg hr', (svs ++ List.replicate (n - g.np) SV.un : Rho), Hs, rp.entry hn, ?_⟩
      exact body_fin ha hn rp p
    · rw [if_neg ha] at p; exact p.elim
/-- x(lambda: body), x a def that hears -/
theorem sim_heard {X : Cx} {T : Tbs} {W : WX} {mb : M RV} {l : List CSpec} {i : Nat} {x : Str} {Ng : List Str}
    {params : Arguments} {body : Expr} {scope : Scope} {p lpos pos : Pos} (ok : ChainOk X.K X.mg l) (hi : i < Ng.length) {er : Er → Option PyData} (her : ∀ e, findC l e = er e)
    (h : PE X (.Call (.Name x p) [.Lambda params body scope lpos] [] pos) (LamX.tLam T.tb (TTh X.K T i Ng.length l) (fun E => tM X.K T X.mg (fun cls d _ H => E cls d H) (kE X.K) mb))) :
    SimE T X W (.Call (.Name x p) [.Lambda params body scope lpos] [] pos) (mHeard (fun _ => some .none) er mb) := by
  have z : findC l = er := funext her
  rw [← z]
  exact pe_imp h fun σ H Q q => post_heard ok hi σ H Q q
end DS
namespace DS
open PySem PySem.Spec PyProof.Rows L2
theorem un65 {A : Around} {k : Nat} (hr : Room k A) : A.units + 65 < cLine := by have := hr.un; omega
def out2 (tag : Str) : PyData → Option PyData := fun x => (dRepr [x]).map fun r => .tuple [.str tag, r]
section
variable {X : Cx} {T : Tbs} {i : Nat} {a : Addr} {f : Str} {C : Addr} {cls : Value} {d : Option Addr} {oe : Obj} {pn : List (Addr × Obj)} {n : Str} {p p1 p2 p3 p4 p5 pos : Pos} {j x1 : Nat} {tag : Str}
theorem sx_eq {e : Expr} {m m' : PyData → Option PyData} (h : SimX T X i a f C cls d oe pn e m) (q : ∀ x, m x = m' x) : SimX T X i a f C cls d oe pn e m' := by
  have z : m = m' := funext q
  rw [← z]; exact h
/-- (tag, repr(n.f)) -/
theorem sx_told2 (tx : XfC X.K C) (hno : PySem.W.findIn X.K (.ref C) f = some none) (hz : Zc cls d oe) (hf : ∃ vs, oe.data = .fields vs) (hv : PE (X.suite a ((a, oe) :: pn)) (.Name n p) (tVar i)) (gl : Gl X "repr") (nr : X.mg "repr" = none) (hg : X.A.guards = some []) (hu : X.A.units + 64 < cLine)
    (hb : attributeBase (.Name n p) f X.env (eval (.Name n p) X.env) = eval (.Name n p) X.env := by rfl)
    (h1 : starEach [.Constant (.str tag) j p2, .Call (.Name "repr" p3) [.Attribute (.Name n p) f p1] [] p4] X.env = (false, eval (.Constant (.str tag) j p2) X.env) :: starEach [.Call (.Name "repr" p3) [.Attribute (.Name n p) f p1] [] p4] X.env := by rfl)
    (h2 : starEach [.Call (.Name "repr" p3) [.Attribute (.Name n p) f p1] [] p4] X.env = (false, eval (.Call (.Name "repr" p3) [.Attribute (.Name n p) f p1] [] p4) X.env) :: starEach [] X.env := by rfl)
    (h3 : starEach [.Attribute (.Name n p) f p1] X.env = (false, eval (.Attribute (.Name n p) f p1) X.env) :: starEach [] X.env := by rfl) :
    SimX T X i a f C cls d oe pn (.Tuple [.Constant (.str tag) j p2, .Call (.Name "repr" p3) [.Attribute (.Name n p) f p1] [] p4] x1 p5) (out2 tag) := by
  refine sx_eq (sx_tup (sxs_cons (sx_c (y := .str tag) pe_str fun _ => .str _) (sxs_cons (sx_op (ev := some) o_repr (sxs_cons (sx_field tx hno hz hf hv hb) sxs_nil h3) fun p => pe_callB (X := X.suite a ((a, oe) :: pn)) (call_repr (X := X.suite a ((a, oe) :: pn)) hg hu) gl nr bt_repr p (by decide) (by decide) h3 rfl) sxs_nil h2) h1)) fun x => ?_
  unfold out2
  simp only [Option.bind_some, Option.map_some]
  cases dRepr [x] with
  | none => rfl
  | some r => simp [two_size]
end
/-- an own error is what its clause names -/
theorem exm_own {K : PySem.W.Frag} {S C : Addr} {b : Bool} (h1 : PySem.W.subIn K (.ref S) (.type "BaseException") = some true) (h2 : PySem.W.isClsIn K S = true) (h3 : PySem.W.typeIn K (.ref S) = some (.type "type")) (h4 : PySem.W.subIn K (.ref C) (.ref S) = some b) : PySem.W.exmOne K (.ref C) (.ref S) = some b := by
  have e1 : (PySem.W.subIn K (.ref S) (.type "BaseException") == some true) = true := by rw [h1] <;> rfl
  have e2 : ((PySem.W.clsIn K S).isSome && PySem.W.typeIn K (.ref S) == some (.type "type")) = true := by
    have z : (PySem.W.clsIn K S).isSome = true := h2
    rw [z, h3] <;> rfl
  show (if (PySem.W.subIn K (.ref S) (.type "BaseException") == some true) = true then (if ((PySem.W.clsIn K S).isSome && PySem.W.typeIn K (.ref S) == some (.type "type")) = true then PySem.W.subIn K (.ref C) (.ref S) else none) else none) = some b
  rw [if_pos e1, if_pos e2]
  exact h4
theorem tcn {X : Cx} {T : Tbs} {W : WX} {F : FnSem} {nk : Nat} {idx : List Nat} {tk : TA} {e : Expr} (h : PE X e (tCallGK T X W F 0 nk idx tNil tk)) : PE X e (tCallGK T X W F 0 nk idx (tM X.K T X.mg W (kA X.K) mNil) tk) :=
  pe_imp h fun σ H Q ⟨ρ, Hs, rp, p⟩ => post_ok (k := kA X.K) (v := []) p rp trivial fun _ z => z.elim
end DS
end
section
set_option Elab.async false
set_option linter.all false
set_option maxRecDepth 100000
set_option maxHeartbeats 4000000
/-! DsV: the rules by the text's form -/
namespace DS
open PySem PySem.Spec PyProof.Rows L2
section
variable {T : Tbs} {g : Sg} {X : Cx} {W : WX} {e a b c e₀ : Expr} {ma mb mc : M RV} {es : List Expr} {mr mk : M (List RV)} {pos p p2 pos' : Pos} {r r' : R2} {f f' : PyData → PyData → Option PyData} {x : Str}
theorem v_bin {op : Operator} (ho : Op2 X.K f r) (hop : OpR X (binaryOp op) r) (ha : SimE T X W a ma) (hb : SimE T X W b mb) : SimE T X W (.BinOp a op b pos) (mOp2 f ma mb) := sim_op2 ho ha hb fun p q => pe_op hop p q
theorem v_cmp {op : CmpOp} (ho : Op2 X.K f r) (hop : OpR X (compareOp op) r) (ha : SimE T X W a ma) (hb : SimE T X W b mb) (hm : behindInMarks op b = false) : SimE T X W (.Compare a [op] [b] pos) (mOp2 f ma mb) := sim_op2 ho ha hb fun p q => pe_cmpR hop p q hm
theorem t_cmp {op : CmpOp} (ho : Op2 X.K f r) (hop : OpR X (compareOp op) r) (ha : SimE T X W a ma) (hb : SimE T X W b mb) (hm : behindInMarks op b = false) : SimT T X W (.Compare a [op] [b] pos) (mT (mOp2 f ma mb)) := st_cmp ho ha hb fun p q => pt_cmpR hop p q hm
theorem v_chain {op op' : CmpOp} (h1 : Bool2 X.K f r) (h2 : Op2 X.K f' r') (hop : OpR X (compareOp op) r) (hop' : OpR X (compareOp op') r') (ha : SimE T X W a ma) (hb : SimE T X W b mb) (hc : SimE T X W c mc) (hm : lastMarks [op, op'] [b, c] = false := by with_unfolding_all rfl) :
    SimE T X W (.Compare a [op, op'] [b, c] pos) (mChain f f' ma mb mc) := sim_chain h1 h2 ha hb hc fun p q s => pe_chain hop hop' p q s hm
theorem t_chain {op op' : CmpOp} (h1 : Bool2 X.K f r) (h2 : Op2 X.K f' r') (hop : OpR X (compareOp op) r) (hop' : OpR X (compareOp op') r') (ha : SimE T X W a ma) (hb : SimE T X W b mb) (hc : SimE T X W c mc) (hm : lastMarks [op, op'] [b, c] = false := by with_unfolding_all rfl) :
    SimT T X W (.Compare a [op, op'] [b, c] pos) (mT (mChain f f' ma mb mc)) := st_chain h1 h2 ha hb hc fun p q s => pt_chain hop hop' p q s hm
theorem v_neg (ha : SimE T X W a ma) : SimE T X W (.UnaryOp .USub a pos) (mOp1 dNeg ma) := sim_op1 o_neg ha fun p => pe_un un_neg p
theorem v_ix (ha : SimE T X W a ma) (hb : SimE T X W b mb) (hs : PlainIx b) : SimE T X W (.Subscript a b pos) (mOp2 dIx ma mb) := sim_op2 o_ix ha hb fun p q => pe_ix ix_seq p q hs
theorem v_b {fo : List PyData → Option PyData} {rr : List V → Hp → VK → Prop} {id : String} (ho : OpN X.K fo rr) (hc : CallR X (.builtin id) rr) (hg : Gl X x) (hm : X.mg x = none) (hv : bootBuiltins x = some (.builtin id)) (ha : SimA T X W (e₀ :: es) mr) (hn : x ≠ "__name__" := by decide) (hdb : (x == ("__debug__" : Str)) = false := by decide)
    (he : starEach (e₀ :: es) X.env = (false, eval e₀ X.env) :: starEach es X.env := by rfl) (hpl : (backTo pos (starEach es X.env)).any (·.1) = false := by rfl) : SimE T X W (.Call (.Name x p) (e₀ :: es) [] pos) (mCB fo mr) := sim_cb ho ha fun q => pe_callB hc hg hm hv q hn hdb he hpl
theorem v_ty {fo : List PyData → Option PyData} {rr : List V → Hp → VK → Prop} {id : String} (ho : OpN X.K fo rr) (hc : CallR X (.type id) rr) (hg : Gl X x) (hm : X.mg x = none) (hv : bootBuiltins x = some (.type id)) (ha : SimA T X W (e₀ :: es) mr) (hn : x ≠ "__name__" := by decide) (hdb : (x == ("__debug__" : Str)) = false := by decide)
    (he : starEach (e₀ :: es) X.env = (false, eval e₀ X.env) :: starEach es X.env := by rfl) (hpl : (backTo pos (starEach es X.env)).any (·.1) = false := by rfl) : SimE T X W (.Call (.Name x p) (e₀ :: es) [] pos) (mCB fo mr) := sim_cb ho ha fun q => pe_callTy hc hg hm hv q hn hdb he hpl
variable {gd : Bool} {k np : Nat} {fa : Addr} {fd : FuncData} {ps ks : List Str} {F : FnSem} {idx : List Nat} {kws : List Keyword}
theorem v_call (G : FnS X.prog X.w X.K X.mg X.base T gd k fa fd ps F) (hg : gd = true → X.A.guards = some []) (hr : Room k X.A) (tk : Takes X W) (gl : Gl X x) (hm : X.mg x = some (.ref fa)) (hk : PySem.W.keepIn X.K (.ref fa) = true) (hb : Binds X.K fd ps []) (ha : SimA T X W (e₀ :: es) mr)
    (hdb : (x == ("__debug__" : Str)) = false := by decide) (he : starEach (e₀ :: es) X.env = (false, eval e₀ X.env) :: starEach es X.env := by rfl) (hpl : (backTo pos (starEach es X.env)).any (·.1) = false := by rfl) : SimE T X W (.Call (.Name x p) (e₀ :: es) [] pos) (mCall F mr) := sim_call (pe_ds G hg hr tk gl hm hk hb ha hdb he hpl)
theorem o_call (G : FnS X.prog X.w X.K X.mg X.base T gd k fa fd ps F) (hg : gd = true → X.A.guards = some []) (hr : Room k X.A) (tk : Takes X W) (gl : Gl X x) (hm : X.mg x = some (.ref fa)) (hk : PySem.W.keepIn X.K (.ref fa) = true) (hb : Binds X.K fd ps []) (ha : SimA T X W (e₀ :: es) mr)
    (hdb : (x == ("__debug__" : Str)) = false := by decide) (he : starEach (e₀ :: es) X.env = (false, eval e₀ X.env) :: starEach es X.env := by rfl) (hpl : (backTo pos (starEach es X.env)).any (·.1) = false := by rfl) : SimO T X W (.Call (.Name x p) (e₀ :: es) [] pos) (mCallO F mr) := so_call (pe_ds G hg hr tk gl hm hk hb ha hdb he hpl)
theorem v_call0 (G : FnS X.prog X.w X.K X.mg X.base T gd k fa fd ps F) (hg : gd = true → X.A.guards = some []) (hr : Room k X.A) (tk : Takes X W) (gl : Gl X x) (hm : X.mg x = some (.ref fa)) (hk : PySem.W.keepIn X.K (.ref fa) = true) (hb : Binds X.K fd ps [])
    (hdb : (x == ("__debug__" : Str)) = false := by decide) : SimE T X W (.Call (.Name x p) [] [] pos) (mCall F mNil) := sim_call (pe_imp (pe_ds0 G hg hr tk gl hm hk hb hdb) fun σ H Q ⟨ρ, Hs, rp, p⟩ => post_ok (k := kA X.K) (v := []) p rp trivial fun _ z => z.elim)
theorem v_callK {nk : Nat} (G : FnS X.prog X.w X.K X.mg X.base T gd k fa fd ps F) (hg : gd = true → X.A.guards = some []) (hr : Room k X.A) (tk : Takes X W) (gl : Gl X x) (hm : X.mg x = some (.ref fa)) (hk : PySem.W.keepIn X.K (.ref fa) = true) (hb : KB X.K fd ps ks np idx) (hnk : ks.length = nk) (ha : SimA T X W (e₀ :: es) mr) (hw : SimK T X W kws mk)
    (hall : (backToKw pos (keywordEach kws X.env)).all (·.1.isSome) = true := by rfl) (hks : (backToKw pos (keywordEach kws X.env)).filterMap (·.1) = ks := by rfl)
    (hdb : (x == ("__debug__" : Str)) = false := by decide) (he : starEach (e₀ :: es) X.env = (false, eval e₀ X.env) :: starEach es X.env := by rfl)
    (hpl : ((backTo pos (starEach (e₀ :: es) X.env)).any (·.1) || (backToKw pos (keywordEach kws X.env)).any (·.1.isNone)) = false := by rfl) : SimE T X W (.Call (.Name x p) (e₀ :: es) kws pos) (mCallKE F np nk idx mr mk) := by
  subst hnk
  exact sim_callK (pe_dsK G hg hr tk gl hm hk hb ha hw hall hks hdb he hpl)
theorem v_callK0 {nk : Nat} (G : FnS X.prog X.w X.K X.mg X.base T gd k fa fd ps F) (hg : gd = true → X.A.guards = some []) (hr : Room k X.A) (tk : Takes X W) (gl : Gl X x) (hm : X.mg x = some (.ref fa)) (hk : PySem.W.keepIn X.K (.ref fa) = true) (hb : KB X.K fd ps ks 0 idx) (hnk : ks.length = nk) (hw : SimK T X W kws mk)
    (hall : (backToKw pos (keywordEach kws X.env)).all (·.1.isSome) = true := by rfl) (hks : (backToKw pos (keywordEach kws X.env)).filterMap (·.1) = ks := by rfl)
    (hdb : (x == ("__debug__" : Str)) = false := by decide) (hpl : ((backTo pos (starEach [] X.env)).any (·.1) || (backToKw pos (keywordEach kws X.env)).any (·.1.isNone)) = false := by rfl) :
    SimE T X W (.Call (.Name x p) [] kws pos) (mCallKE F 0 nk idx mNil mk) := by
  subst hnk
  exact sim_callK (mr := mNil) (tcn (pe_dsK0 G hg hr tk gl hm hk hb hw hall hks hdb hpl))
theorem v_isi {cn : String} {a2 : Expr} (hk : KitOk X.K [cn]) (hg : Gl X "isinstance") (hm : X.mg "isinstance" = none) (ha : SimE T X W e ma) (h2 : PE X a2 (tC (.ty cn))) (hs : starEach [e, a2] X.env = (false, eval e X.env) :: starEach [a2] X.env := by rfl) (hs2 : starEach [a2] X.env = (false, eval a2 X.env) :: starEach [] X.env := by rfl)
    (hpl : (backTo pos (starEach [a2] X.env)).any (·.1) = false := by rfl) : SimE T X W (.Call (.Name "isinstance" p) [e, a2] [] pos) (mIsi [cn] ma) := sim_isi1 hk hg hm ha h2 (fun q => pe_callB call_isi hg hm bt_isinstance q (by decide) (by decide) hs hpl) hs hs2
theorem v_isiS {z1 z2 : Expr} {x1 : Nat} {pt : Pos} (hg : Gl X "isinstance") (hm : X.mg "isinstance" = none) (ha : SimE T X W e ma) (h1 : PE X z1 (tC (.ty "list"))) (h2 : PE X z2 (tC (.ty "tuple"))) (hs : starEach [e, .Tuple [z1, z2] x1 pt] X.env = (false, eval e X.env) :: starEach [.Tuple [z1, z2] x1 pt] X.env := by rfl)
    (hs2 : starEach [.Tuple [z1, z2] x1 pt] X.env = (false, eval (.Tuple [z1, z2] x1 pt) X.env) :: starEach [] X.env := by rfl) (hs3 : starEach [z1, z2] X.env = (false, eval z1 X.env) :: starEach [z2] X.env := by rfl) (hs4 : starEach [z2] X.env = (false, eval z2 X.env) :: starEach [] X.env := by rfl)
    (hpl : (backTo pos (starEach [.Tuple [z1, z2] x1 pt] X.env)).any (·.1) = false := by rfl) : SimE T X W (.Call (.Name "isinstance" p) [e, .Tuple [z1, z2] x1 pt] [] pos) (mIsi ["list", "tuple"] ma) :=
  sim_isiT (kit_seq _) ha (pe_tup (pa_cons h1 (pa_cons h2 pa_nil hs4) hs3)) (fun _ _ _ h => ⟨two_size, h⟩) (fun q => pe_callB call_isiT hg hm bt_isinstance q (by decide) (by decide) hs hpl) hs hs2
/-! ranges made lists -/
theorem v_lstRg {p3 p4 : Pos} (hc : X.calm = true) (hg : Gl X "list") (hm : X.mg "list" = none) (hg2 : Gl X "range") (hm2 : X.mg "range" = none) (ha : SimA T X W (e₀ :: es) mr) (hs : starEach (e₀ :: es) X.env = (false, eval e₀ X.env) :: starEach es X.env := by rfl) (hpl : (backTo p4 (starEach es X.env)).any (·.1) = false := by rfl)
    (na : starEach [.Call (.Name "range" p3) (e₀ :: es) [] p4] X.env = (false, eval (.Call (.Name "range" p3) (e₀ :: es) [] p4) X.env) :: starEach [] X.env := by rfl) : SimE T X W (.Call (.Name "list" p) [.Call (.Name "range" p3) (e₀ :: es) [] p4] [] pos) (mToRg .list mr) := sim_lstRg ha fun q => pe_lstRg tM_mono hc hg hm (prgA hg2 hm2 q hs hpl) na
theorem v_tupRg {p3 p4 : Pos} (hc : X.calm = true) (hg : Gl X "tuple") (hm : X.mg "tuple" = none) (hg2 : Gl X "range") (hm2 : X.mg "range" = none) (ha : SimA T X W (e₀ :: es) mr) (hs : starEach (e₀ :: es) X.env = (false, eval e₀ X.env) :: starEach es X.env := by rfl) (hpl : (backTo p4 (starEach es X.env)).any (·.1) = false := by rfl)
    (na : starEach [.Call (.Name "range" p3) (e₀ :: es) [] p4] X.env = (false, eval (.Call (.Name "range" p3) (e₀ :: es) [] p4) X.env) :: starEach [] X.env := by rfl) : SimE T X W (.Call (.Name "tuple" p) [.Call (.Name "range" p3) (e₀ :: es) [] p4] [] pos) (mToRg .tuple mr) := sim_tupRg ha fun q => pe_tupRgA tM_mono hc hg hm (prgA hg2 hm2 q hs hpl) na
theorem o_lstRg {p3 p4 : Pos} (hc : X.calm = true) (hg : Gl X "list") (hm : X.mg "list" = none) (hg2 : Gl X "range") (hm2 : X.mg "range" = none) (ha : SimA T X W (e₀ :: es) mr) (hs : starEach (e₀ :: es) X.env = (false, eval e₀ X.env) :: starEach es X.env := by rfl) (hpl : (backTo p4 (starEach es X.env)).any (·.1) = false := by rfl)
    (na : starEach [.Call (.Name "range" p3) (e₀ :: es) [] p4] X.env = (false, eval (.Call (.Name "range" p3) (e₀ :: es) [] p4) X.env) :: starEach [] X.env := by rfl) : SimO T X W (.Call (.Name "list" p) [.Call (.Name "range" p3) (e₀ :: es) [] p4] [] pos) (mToRgO mr) := so_lstRg ha fun q => pe_lstRg tM_mono hc hg hm (prgA hg2 hm2 q hs hpl) na
theorem o_listS (hg : Gl X "list") (hm : X.mg "list" = none) (ha : SimA T X W [e] mr) (hs : starEach [e] X.env = (false, eval e X.env) :: starEach [] X.env := by rfl) : SimO T X W (.Call (.Name "list" p) [e] [] pos) (mListO mr) := so_list ha fun q => pe_callTy call_list_of hg hm bt_list q (by decide) (by decide) hs rfl
/-! comprehensions -/
variable {elt tg iter : Expr} {ifs : List Expr} {scope : Scope} {own : List (Str × Nat)} {mi : M (List PyData)} {gm : Gm} {mt : M Bool} {me : M RV}
theorem v_lc (hc : X.calm = true) (hN : X.N.Nodup) (ok : BlkOk X.N X.env.scope scope own) (hi : SimI T X W tg iter mi) (hg : ∀ (s : Shared) (H : Hp) (C : Addr) (cl : List (Str × Addr)) (fp : List Addr), SimG T ⟨0, []⟩ (own.map (·.2)) (X.blk s H scope (compEnvC scope cl C X.env) fp) tg gm)
    (ht : ∀ (s : Shared) (H : Hp) (C : Addr) (cl : List (Str × Addr)) (fp : List Addr), SimPT T (X.blk s H scope (compEnvC scope cl C X.env) fp) ifs mt) (he : ∀ (s : Shared) (H : Hp) (C : Addr) (cl : List (Str × Addr)) (fp : List Addr), SimE T (X.blk s H scope (compEnvC scope cl C X.env) fp) W0 elt me)
    (hs : ∀ x, foldedSetIterable iter X.env x = pure x := by intro _; rfl) : SimE T X W (.ListComp elt [⟨tg, iter, ifs, 0⟩] scope pos) (mLC mi gm mt me (own.map (·.2))) := pe_imp (pe_lc (g := tG X.K T ⟨0, []⟩ (own.map fun q : Str × Nat => q.2) gm) (tt := tM X.K T X.mg W0 kB mt) (te := tM X.K T X.mg W0 (kE X.K) me) hc hN hi ok hg ht he hs) rf_lc
theorem o_lc (hc : X.calm = true) (hN : X.N.Nodup) (ok : BlkOk X.N X.env.scope scope own) (hi : SimI T X W tg iter mi) (hg : ∀ (s : Shared) (H : Hp) (C : Addr) (cl : List (Str × Addr)) (fp : List Addr), SimG T ⟨0, []⟩ (own.map (·.2)) (X.blk s H scope (compEnvC scope cl C X.env) fp) tg gm)
    (ht : ∀ (s : Shared) (H : Hp) (C : Addr) (cl : List (Str × Addr)) (fp : List Addr), SimPT T (X.blk s H scope (compEnvC scope cl C X.env) fp) ifs mt) (he : ∀ (s : Shared) (H : Hp) (C : Addr) (cl : List (Str × Addr)) (fp : List Addr), SimE T (X.blk s H scope (compEnvC scope cl C X.env) fp) W0 elt me)
    (hs : ∀ x, foldedSetIterable iter X.env x = pure x := by intro _; rfl) : SimO T X W (.ListComp elt [⟨tg, iter, ifs, 0⟩] scope pos) (mLCO mi gm mt me (own.map (·.2))) := pe_imp (pe_lc (g := tG X.K T ⟨0, []⟩ (own.map fun q : Str × Nat => q.2) gm) (tt := tM X.K T X.mg W0 kB mt) (te := tM X.K T X.mg W0 (kE X.K) me) hc hN hi ok hg ht he hs) rfo_lc
/-! statements -/
theorem s_set {i : Nat} (hN : X.N.Nodup) (hi : X.N[i]? = some x) (hx : Loc X.env.scope x) (hp : i ∉ g.pr) (ha : SimE T X W e ma) (hs : swapsWith e (some (.Name x pos')) pos.line X.env = pure false := by rfl) (hf : X.fn x = true ∨ X.env.scope.names.lookup x = some .local := by first | exact .inl rfl | exact .inr rfl) : SimS T g X W (.Assign [.Name x pos'] e pos) (mSet i ma) := ss_set ha hp fun q => ps_set hN hi hx q hs hf
theorem s_setO {i : Nat} {mo : M SV} (hN : X.N.Nodup) (hi : X.N[i]? = some x) (hx : Loc X.env.scope x) (hp : i ∉ g.pr) (ha : SimO T X W e mo) (hs : swapsWith e (some (.Name x pos')) pos.line X.env = pure false := by rfl) (hf : X.fn x = true ∨ X.env.scope.names.lookup x = some .local := by first | exact .inl rfl | exact .inr rfl) : SimS T g X W (.Assign [.Name x pos'] e pos) (mSetO i mo) := ss_setO ha hp fun q => ps_set hN hi hx q hs hf
theorem s_asg {tg : Expr} {ts : List Nat} {gm : Gm} (hg : SimG T g ts X tg gm) (ha : SimE T X W e ma) (hs : swapsWithSole [tg] e pos.line X.env = pure false := by rfl) (hw : swappedStores [tg] e X.env = pure none := by rfl) (h1 : (assignEach [tg] X.env).map (·.2) = [assign tg X.env] := by rfl) : SimS T g X W (.Assign [tg] e pos) (mAsg gm ma) := ss_asg ha hg fun p q => ps_asg p q hs hw h1
theorem s_par {i j : Nat} {y : Str} {px py pt pt2 : Pos} {kt k2 : Nat} (hc : X.calm = true) (hN : X.N.Nodup) (hi : X.N[i]? = some x) (hj : X.N[j]? = some y) (hij : i ≠ j) (hx : X.env.scope.names.lookup x = some .local) (hy : X.env.scope.names.lookup y = some .local) (pi : i ∉ g.pr) (pj : j ∉ g.pr) (ha : SimA T X W [a, b] mr)
    (hw : swappedStores [.Tuple [.Name x px, .Name y py] kt pt] (.Tuple [a, b] k2 pt2) X.env = pure (some [x, y])) (hs : swapsWithSole [.Tuple [.Name x px, .Name y py] kt pt] (.Tuple [a, b] k2 pt2) pos.line X.env = pure false := by rfl) :
    SimS T g X W (.Assign [.Tuple [.Name x px, .Name y py] kt pt] (.Tuple [a, b] k2 pt2) pos) (mPar i j mr) := ss_par ha pi pj fun q => ps_par hc hN hi hj hij hx hy q hw hs
theorem s_aug {i : Nat} {op : Operator} {ti : TIp} (ho : Op2 X.K f ti) (hop : PIp X op ti) (hN : X.N.Nodup) (hi : X.N[i]? = some x) (hx : Loc X.env.scope x) (hp : i ∉ g.pr) (ha : SimE T X W e ma) (hf : X.fn x = true ∨ X.env.scope.names.lookup x = some .local := by first | exact .inl rfl | exact .inr rfl) : SimS T g X W (.AugAssign (.Name x pos') op e pos) (mAug f i ma) := ss_aug ho ha hp fun q => ps_aug hN hi hx q hop hf
theorem s_augO {i : Nat} {mo : M SV} (hN : X.N.Nodup) (hi : X.N[i]? = some x) (hx : Loc X.env.scope x) (ha : SimO T X W e mo) (hf : X.fn x = true ∨ X.env.scope.names.lookup x = some .local := by first | exact .inl rfl | exact .inr rfl) : SimS T g X W (.AugAssign (.Name x pos') .Add e pos) (mAugO i mo) := ss_augO ha fun q => ps_aug hN hi hx q iop_ext hf
theorem s_app {i : Nat} {p3 p4 : Pos} (hN : X.N[i]? = some x) (hv : Vis X.env.scope x) (ha : SimE T X W e ma) (hd : (x == ("__debug__" : Str)) = false := by decide) (hcd : (x == ("__classdict__" : Str)) = false := by decide)
    (hbase : attributeBase (.Name x p) "append" X.env (eval (.Name x p) X.env) = eval (.Name x p) X.env := by rfl) (hline : (p2.endLine == p3.line) = true := by rfl)
    (hfew : ((backTo p3 (starEach [e] X.env)).all (fun x => !x.1) && (backToKw p3 (keywordEach [] X.env)).all (fun x => x.1.isSome) && decide (([e] : List Expr).length + ([] : List Keyword).length + (if ([] : List Keyword).isEmpty then 0 else 1) < 30)) = true := by rfl)
    (hs : starEach [e] X.env = (false, eval e X.env) :: starEach [] X.env := by rfl) (hsw : swapsWith (.Call (.Attribute (.Name x p) "append" p2) [e] [] p3) none p4.line X.env = pure false := by rfl) :
    SimS T g X W (.Expr (.Call (.Attribute (.Name x p) "append" p2) [e] [] p3) p4) (mApp i ma) :=
  ss_app ha fun q => ps_expr (pe_bm PySem.F.plainAttrs_list PySem.F.slot_list_append PySem.F.type_list_append mt_append (pe_var (i := i) hN hv hd hcd) (pa_cons q pa_nil hs) hbase hfew hline hs rfl) hsw
theorem s_drop (ha : SimE T X W e ma) (hs : swapsWith e none pos.line X.env = pure false := by rfl) : SimS T g X W (.Expr e pos) (mDrop ma) := ss_drop ha fun q => ps_expr q hs
theorem s_setL {i : Nat} {p3 : Pos} (hN : X.N[i]? = some x) (hv : Vis X.env.scope x) (hb : SimE T X W b mb) (ha : SimE T X W e ma) (hd : (x == ("__debug__" : Str)) = false := by decide) (hcd : (x == ("__classdict__" : Str)) = false := by decide)
    (h0 : ∀ v, assign (.Subscript (.Name x p) b p3) X.env v = (do
      let ov ← holding [v] (eval (.Name x p) X.env)
      let iv ← holding [v, ov] (eval b X.env)
      standAt p3
      holding [v, ov, iv] (setItem ov iv v)
      release [v, ov, iv] []) := by intros; rfl)
    (hs : swapsWithSole [.Subscript (.Name x p) b p3] e pos.line X.env = pure false := by rfl) (hw : swappedStores [.Subscript (.Name x p) b p3] e X.env = pure none := by rfl) (h1 : (assignEach [.Subscript (.Name x p) b p3] X.env).map (·.2) = [assign (.Subscript (.Name x p) b p3) X.env] := by rfl) :
    SimS T g X W (.Assign [.Subscript (.Name x p) b p3] e pos) (mSetL i mb ma) := ss_setL ha hb fun p q => ps_asg p (pg_sub (pe_var (i := i) hN hv hd hcd) q set_list h0) hs hw h1
theorem v_range1 (hg : Gl X "range") (hm : X.mg "range" = none) (ha : SimA T X W [a] mr) (hs : starEach [a] X.env = [(false, eval a X.env)] := by rfl) : SimI T X W tg (.Call (.Name "range" p) [a] [] pos) (bnd mr rng1) := si_range1 ha fun q => pi_range1 hg hm q hs
theorem v_range2 (hg : Gl X "range") (hm : X.mg "range" = none) (ha : SimA T X W [a, b] mr) (hs : starEach [a, b] X.env = [(false, eval a X.env), (false, eval b X.env)] := by rfl) (hs2 : starEach [b] X.env = [(false, eval b X.env)] := by rfl) : SimI T X W tg (.Call (.Name "range" p) [a, b] [] pos) (bnd mr rng2) := si_range2 ha fun q => pi_range2 hg hm q hs hs2
end
def hdsOf : List Stmt → List ExceptHandler
  | .Try _ h _ _ _ :: _ => h
  | _ => []
end DS
end
section
set_option Elab.async false
set_option linter.all false
set_option maxRecDepth 100000
set_option maxHeartbeats 4000000
/-! DsW: sum of a list or of a tuple -/
namespace DS
open PySem PySem.Spec PyProof.Rows L2
def dSumA : List PyData → Option PyData
  | [.list ds] => (ints? ds).map fun ns => .int ns.sum
  | [.tuple ds] => (ints? ds).map fun ns => .int ns.sum
  | _ => none
def rSumA (K : PySem.W.Frag) : List V → Hp → VK → Prop := fun vs H Q => ∃ (a : Addr) (ns : List Int), vs = [V.ref a] ∧ (SqL K H a (ns.map V.int) ∨ SqT K H a (ns.map V.int)) ∧ Q (.int ns.sum) H
theorem sum_tup {prog : Program} {w : World} {A : Around} {E : Value → Shared → Prop} {s : Shared} {l : Addr} {its : List Value} {ns : List Int} {Q : Value → Shared → Prop} (hh : A.handled = none) (hl : s.heap.IsTuple l its.toArray) (hi : IntsAre its ns)
    (h : ∀ h' tk t', (∀ b o, s.heap.get? b = some o → h'.get? b = some o) → Q (.int ns.sum t') { s with heap := h', toks := tk }) : wpAny (model prog w) A (call (.builtin "sum") [.ref l]) Q E s := by
  obtain ⟨xs, e⟩ := hi.allInts.items
  have hn : numsOf (intItems xs).toList = ns := by rw [← e]; exact hi.numsOf
  rw [nums_intItems] at hn
  rw [e] at hl
  refine PySem.W.ktm_sumG hh hl fun h' tk t' hk => ?_
  have q := h h' tk t' hk
  rw [preSum_eq, List.take_of_length_le (by simp), hn]
  exact q
theorem cr_sumA {X : Cx} (hc : X.calm = true) : CallR X (.builtin "sum") (rSumA X.K) := by
  intro pins s σ H vs us Q I r h
  obtain ⟨a, ns, rfl, hs, q⟩ := h
  rcases hs with hs | hs
  · exact cr_sum hc pins s σ H _ us Q I r ⟨a, ns, rfl, hs, q⟩
  · obtain ⟨its, rv, hl, _⟩ := I.tuple hs
    rw [Vals.ref1 r]
    exact sum_tup (I.ok.hd hc) hl rv.ints fun h' tk t' hk => ⟨.int _, H, I.kept hk, ⟨_, rfl⟩, q⟩
theorem o_sumA {K : PySem.W.Frag} : OpN K dSumA (rSumA K) := by
  intro Hs H vs xs z Q s hv hz he
  unfold dSumA at hz
  split at hz
  · rename_i ds
    cases e : ints? ds with
    | none => rw [e] at hz; cases hz
    | some ns =>
      rw [e] at hz
      cases hz
      obtain ⟨v, rfl, h⟩ := hv.one
      obtain ⟨p, us, rfl, h1, h2⟩ := h.list s
      rw [ints_dp h2 e] at h1
      exact ⟨p, ns, rfl, .inl h1, he.here (.int _)⟩
  · rename_i ds
    cases e : ints? ds with
    | none => rw [e] at hz; cases hz
    | some ns =>
      rw [e] at hz
      cases hz
      obtain ⟨v, rfl, h⟩ := hv.one
      obtain ⟨p, us, rfl, h1, h2, _⟩ := h.tup s
      rw [ints_dp h2 e] at h1
      exact ⟨p, ns, rfl, .inr h1, he.here (.int _)⟩
  · cases hz
end DS
end
section
set_option Elab.async false
set_option linter.all false
set_option maxRecDepth 100000
set_option maxHeartbeats 4000000
/-! DsX: places within what a slot owns -/
namespace DS
open PySem PySem.Spec PyProof.Rows L2
def FS.get (f : Str) : FS → Option SV
  | .nil => none
  | .cons g s r => if g = f then some s else r.get f
def FS.put (f : Str) (x : SV) : FS → FS
  | .nil => .cons f x .nil
  | .cons g s r => if g = f then .cons g x r else .cons g s (r.put f x)
def FS.len : FS → Nat
  | .nil => 0
  | .cons _ _ r => r.len + 1
/-- what lies at a path of fields -/
def getP : SV → List Str → Option SV
  | s, [] => some s
  | .oo _ fs, f :: r => match fs.get f with
    | some t => getP t r
    | none => none
  | _, _ :: _ => none
def setP : SV → List Str → SV → SV
  | _, [], t => t
  | .oo c fs, f :: r, t => match fs.get f with
    | some s => .oo c (fs.put f (setP s r t))
    | none => .oo c fs
  | s, _ :: _, _ => s
def resP (H : Hp) : V → List Str → Option V
  | v, [] => some v
  | .ref p, f :: r => match H p with
    | some (.ins _ _ gs) => match gs.lookup f with
      | some w => resP H w r
      | none => none
    | _ => none
  | _, _ :: _ => none
section
variable {K : PySem.W.Frag} {T : Tbs} {Hs H Hs' H' Hs1 H1 Hs2 H2 : Hp} {ρ ρ' : Rho} {σ : L2.St}
theorem lookup_hit {f : Str} {w : V} {t : List (Str × V)} : List.lookup f ((f, w) :: t) = some w := by
  simp [List.lookup]
theorem lookup_miss {f g : Str} {w : V} {t : List (Str × V)} (h : ¬ g = f) : List.lookup f ((g, w) :: t) = List.lookup f t := by
  have : (f == g) = false := beq_eq_false_iff_ne.mpr fun z => h z.symm
  simp [List.lookup, this]
theorem frep_get {f : Str} {s : SV} : ∀ {fs : FS} {gs : List (Str × V)}, FRep K T Hs H fs gs → fs.get f = some s → ∃ w, gs.lookup f = some w ∧ SRep K T Hs H s (some w) ∧ ∀ a, OwnAt H s (some w) a → OwnF H fs gs a
  | .nil, _, _, e => by cases e
  | .cons _ _ _, [], r, _ => r.elim
  | .cons g s0 r, (k, w0) :: t, h, e => by
    obtain ⟨h1, h2, h3, h4⟩ := h
    have h1 : k = g := h1
    subst h1
    unfold FS.get at e
    by_cases hg : k = f
    · rw [if_pos hg] at e
      cases e
      subst hg
      exact ⟨w0, lookup_hit, h2, fun a o => .inl o⟩
    · rw [if_neg hg] at e
      obtain ⟨w, q1, q2, q3⟩ := frep_get h3 e
      exact ⟨w, by rw [lookup_miss hg]; exact q1, q2, fun a o => .inr (q3 a o)⟩
theorem frep_none {f : Str} : ∀ {fs : FS} {gs : List (Str × V)}, FRep K T Hs H fs gs → fs.get f = none → gs.lookup f = none
  | .nil, [], _, e => rfl
  | .nil, _ :: _, r, _ => r.elim
  | .cons _ _ _, [], r, _ => r.elim
  | .cons g s0 r, (k, w0) :: t, h, e => by
    obtain ⟨h1, h2, h3, h4⟩ := h
    have h1 : k = g := h1
    subst h1
    unfold FS.get at e
    by_cases hg : k = f
    · rw [if_pos hg] at e; cases e
    · rw [if_neg hg] at e
      rw [lookup_miss hg]; exact frep_none h3 e
theorem frep_len : ∀ {fs : FS} {gs : List (Str × V)}, FRep K T Hs H fs gs → gs.length = fs.len
  | .nil, [], _ => rfl
  | .nil, _ :: _, r => r.elim
  | .cons _ _ _, [], r => r.elim
  | .cons g s0 r, (k, w0) :: t, h => by
    unfold FS.len
    rw [List.length_cons, frep_len h.2.2.1]
/-- what a field owns is changed -/
theorem frep_upd {N : Addr → Prop} {f : Str} {s s' : SV} {w : V} (sh : Same Hs Hs') : ∀ {fs : FS} {gs : List (Str × V)}, (∀ a, N a → ¬ OwnF H fs gs a) → FRep K T Hs H fs gs → fs.get f = some s → gs.lookup f = some w →
    (∀ a, OwnF H fs gs a → ¬ OwnAt H s (some w) a → H' a = H a ∧ Hs' a = none) → SRep K T Hs' H' s' (some w) → (∀ a, OwnAt H' s' (some w) a → OwnAt H s (some w) a ∨ N a) →
    FRep K T Hs' H' (fs.put f s') gs ∧ ∀ a, OwnF H' (fs.put f s') gs a → OwnF H fs gs a ∨ N a
  | .nil, _, _, _, e, _, _, _, _ => by cases e
  | .cons _ _ _, [], _, r, _, _, _, _, _ => r.elim
  | .cons g s0 r, (k, w0) :: t, hN, h, e, l, fr, h', ow => by
    obtain ⟨h1, h2, h3, h4⟩ := h
    have h1 : k = g := h1
    subst h1
    unfold FS.get at e
    unfold FS.put
    by_cases hg : k = f
    · rw [if_pos hg] at e ⊢
      cases e
      subst hg
      rw [lookup_hit] at l
      cases l
      obtain ⟨b1, b2⟩ := FRep.mv (H' := H') sh h3 fun a o => fr a (.inr o) fun z => h4 a z o
      refine ⟨⟨rfl, h', b1, fun a o z => ?_⟩, fun a o => ?_⟩
      · have z' := (b2 a).mp z
        rcases ow a o with q | q
        · exact h4 a q z'
        · exact hN a q (.inr z')
      · rcases o with o | o
        · rcases ow a o with q | q
          · exact .inl (.inl q)
          · exact .inr q
        · exact .inl (.inr ((b2 a).mp o))
    · rw [if_neg hg] at e ⊢
      rw [lookup_miss hg] at l
      obtain ⟨w', q1, q2, q3⟩ := frep_get h3 e
      rw [l] at q1; cases q1
      obtain ⟨a1, a2⟩ := SRep.mv (H' := H') sh h2 fun a o => fr a (.inl o) fun z => h4 a o (q3 a z)
      obtain ⟨b1, b2⟩ := frep_upd sh (fun a n z => hN a n (.inr z)) h3 e l (fun a o n => fr a (.inr o) n) h' ow
      refine ⟨⟨rfl, a1, b1, fun a o z => ?_⟩, fun a o => ?_⟩
      · have o' := (a2 a).mp o
        rcases b2 a z with q | q
        · exact h4 a o' q
        · exact hN a q (.inl o')
      · rcases o with o | o
        · exact .inl (.inl ((a2 a).mp o))
        · exact (b2 a o).imp .inr id
/-- a field takes another value -/
theorem frep_store {f : Str} {s' : SV} {y : V} (sh : Same Hs Hs') : ∀ {fs : FS} {gs : List (Str × V)}, FRep K T Hs H fs gs →
    (∀ a, OwnF H fs gs a → H' a = H a ∧ Hs' a = none) → SRep K T Hs' H' s' (some y) → (∀ a, OwnAt H' s' (some y) a → ¬ OwnF H fs gs a) →
    FRep K T Hs' H' (fs.put f s') (putF f y gs) ∧ ∀ a, OwnF H' (fs.put f s') (putF f y gs) a → OwnF H fs gs a ∨ OwnAt H' s' (some y) a
  | .nil, [], _, _, h', _ => ⟨⟨rfl, h', trivial, fun _ _ z => z⟩, fun a o => o.elim .inr False.elim⟩
  | .nil, _ :: _, r, _, _, _ => r.elim
  | .cons _ _ _, [], r, _, _, _ => r.elim
  | .cons g s0 r, (k, w0) :: t, h, fr, h', no => by
    obtain ⟨h1, h2, h3, h4⟩ := h
    have h1 : k = g := h1
    subst h1
    unfold FS.put
    have hp : putF f y ((k, w0) :: t) = if k = f then (k, y) :: t else (k, w0) :: putF f y t := rfl
    rw [hp]
    by_cases hg : k = f
    · rw [if_pos hg, if_pos hg]
      obtain ⟨b1, b2⟩ := FRep.mv (H' := H') sh h3 fun a o => fr a (.inr o)
      refine ⟨⟨rfl, h', b1, fun a o z => no a o (.inr ((b2 a).mp z))⟩, fun a o => ?_⟩
      rcases o with o | o
      · exact .inr o
      · exact .inl (.inr ((b2 a).mp o))
    · rw [if_neg hg, if_neg hg]
      obtain ⟨a1, a2⟩ := SRep.mv (H' := H') sh h2 fun a o => fr a (.inl o)
      obtain ⟨b1, b2⟩ := frep_store sh h3 (fun a o => fr a (.inr o)) h' fun a o z => no a o (.inr z)
      refine ⟨⟨rfl, a1, b1, fun a o z => ?_⟩, fun a o => ?_⟩
      · have o' := (a2 a).mp o
        rcases b2 a z with q | q
        · exact h4 a o' q
        · exact no a q (.inl o')
      · rcases o with o | o
        · exact .inl (.inl ((a2 a).mp o))
        · exact (b2 a o).imp .inr id
theorem getP_rep : ∀ {P : List Str} {s t : SV} {v : V}, SRep K T Hs H s (some v) → getP s P = some t → ∃ w, resP H v P = some w ∧ SRep K T Hs H t (some w) ∧ ∀ a, OwnAt H t (some w) a → OwnAt H s (some v) a
  | [], s, t, v, h, e => by
    have e : some s = some t := by cases s <;> exact e
    cases e
    exact ⟨v, by cases v <;> rfl, h, fun _ o => o⟩
  | f :: r, s, t, v, h, e => by
    cases s with
    | un => cases e
    | d x => cases e
    | ol x => cases e
    | od x => cases e
    | oo c fs =>
      obtain ⟨p, C, dx, gs, ev, hp, hc, n, np, fr⟩ := h
      cases ev
      have e : (match fs.get f with
        | some t => getP t r
        | none => none) = some t := e
      cases e1 : fs.get f with
      | none => rw [e1] at e; cases e
      | some s1 =>
        rw [e1] at e
        obtain ⟨w1, l1, h1, o1⟩ := frep_get fr e1
        obtain ⟨w, q1, q2, q3⟩ := getP_rep h1 e
        refine ⟨w, ?_, q2, fun a o => ⟨p, C, dx, gs, rfl, hp, .inr (o1 a (q3 a o))⟩⟩
        show (match H p with
          | some (.ins _ _ gs) => match gs.lookup f with
            | some w => resP H w r
            | none => none
          | _ => none) = some w
        rw [hp]
        dsimp only
        rw [l1]
        exact q1
theorem setP_rep {N : Addr → Prop} (sh : Same Hs Hs') {t t' : SV} {w : V} : ∀ {P : List Str} {s : SV} {v : V}, (∀ a, N a → ¬ OwnAt H s (some v) a) → SRep K T Hs H s (some v) → getP s P = some t → resP H v P = some w →
    (∀ a, OwnAt H s (some v) a → ¬ OwnAt H t (some w) a → H' a = H a ∧ Hs' a = none) → SRep K T Hs' H' t' (some w) → (∀ a, OwnAt H' t' (some w) a → OwnAt H t (some w) a ∨ N a) →
    SRep K T Hs' H' (setP s P t') (some v) ∧ ∀ a, OwnAt H' (setP s P t') (some v) a → OwnAt H s (some v) a ∨ N a
  | [], s, v, _, h, e, rv, fr, h', ow => by
    have e : some s = some t := by cases s <;> exact e
    have rv : some v = some w := by cases v <;> exact rv
    cases e
    cases rv
    have : setP t [] t' = t' := by cases t <;> rfl
    rw [this]
    exact ⟨h', ow⟩
  | f :: r, s, v, hN, h, e, rv, fr, h', ow => by
    cases s with
    | un => cases e
    | d x => cases e
    | ol x => cases e
    | od x => cases e
    | oo c fs =>
      obtain ⟨p, C, dx, gs, ev, hp, hc, n, np, fre⟩ := h
      cases ev
      have e : (match fs.get f with
        | some t => getP t r
        | none => none) = some t := e
      have rv : (match H p with
          | some (.ins _ _ gs) => match gs.lookup f with
            | some w => resP H w r
            | none => none
          | _ => none) = some w := rv
      rw [hp] at rv
      dsimp only at rv
      cases e1 : fs.get f with
      | none => rw [e1] at e; cases e
      | some s1 =>
        rw [e1] at e
        obtain ⟨w1, l1, h1, o1⟩ := frep_get fre e1
        rw [l1] at rv
        dsimp only at rv
        obtain ⟨w2, k1, k2, k3⟩ := getP_rep h1 e
        rw [rv] at k1; cases k1
        have own1 : ∀ a, OwnF H fs gs a → OwnAt H (.oo c fs) (some (.ref p)) a := fun a o => ⟨p, C, dx, gs, rfl, hp, .inr o⟩
        obtain ⟨b1, b2⟩ := setP_rep sh (fun a n z => hN a n (own1 a (o1 a z))) h1 e rv (fun a o z => fr a (own1 a (o1 a o)) z) h' ow
        obtain ⟨c1, c2⟩ := frep_upd sh (fun a n z => hN a n (own1 a z)) fre e1 l1 (fun a o z => fr a (own1 a o) fun y => z (k3 a y)) b1 b2
        obtain ⟨p1, p2⟩ := fr p ⟨p, C, dx, gs, rfl, hp, .inl rfl⟩ fun y => np (o1 p (k3 p y))
        have es : setP (.oo c fs) (f :: r) t' = .oo c (fs.put f (setP s1 r t')) := by
          show (match fs.get f with
            | some s => SV.oo c (fs.put f (setP s r t'))
            | none => SV.oo c fs) = _
          rw [e1]
        rw [es]
        rw [hp] at p1
        refine ⟨⟨p, C, dx, gs, rfl, p1, hc, p2, fun z => ?_, c1⟩, fun a o => ?_⟩
        · rcases c2 p z with q | q
          · exact np q
          · exact hN p q ⟨p, C, dx, gs, rfl, hp, .inl rfl⟩
        · obtain ⟨p', C', dx', gs', e', h', o⟩ := o
          cases e'
          rw [p1] at h'; cases h'
          rcases o with rfl | o
          · exact .inl ⟨a, C, dx, gs, rfl, hp, .inl rfl⟩
          · exact (c2 a o).imp (own1 a) id
/-! what grows by new shared objects alone -/
inductive ExtS (Hs H : Hp) : Hp → Hp → Prop where
  | refl : ExtS Hs H Hs H
  | step {Hs1 H1 Hs2 H2 : Hp} (a : ExtS Hs H Hs1 H1) (b : Ext Hs1 H1 Hs2 H2) : ExtS Hs H Hs2 H2
theorem ExtS.trans (a : ExtS Hs H Hs1 H1) (b : ExtS Hs1 H1 Hs2 H2) : ExtS Hs H Hs2 H2 := by
  induction b with
  | refl => exact a
  | step _ e ih => exact .step ih e
theorem Ext.sm (e : Ext Hs H Hs' H') : Same H H' := by
  cases e with
  | same => exact Same.refl _
  | new h n => exact same_upd h
theorem ExtS.sm (e : ExtS Hs H Hs' H') : Same H H' := by
  induction e with
  | refl => exact Same.refl _
  | step _ b ih => exact ih.trans b.sm
theorem ExtS.rep (e : ExtS Hs H Hs' H') (r : Rep K T Hs ρ σ H) : Rep K T Hs' ρ σ H' ∧ Grow ρ σ Hs H ρ σ Hs' H' := by
  induction e with
  | refl => exact ⟨r, Grow.refl⟩
  | step _ b ih =>
    obtain ⟨r1, g1⟩ := ih
    obtain ⟨r2, g2⟩ := b.rep r1
    exact ⟨r2, g1.trans g2⟩
theorem resP_same (sm : Same H H') : ∀ {P : List Str} {v w : V}, resP H v P = some w → resP H' v P = some w
  | [], v, w, e => by cases v <;> exact e
  | f :: r, v, w, e => by
    cases v with
    | ref p =>
      have e : (match H p with
          | some (.ins _ _ gs) => match gs.lookup f with
            | some w => resP H w r
            | none => none
          | _ => none) = some w := e
      show (match H' p with
          | some (.ins _ _ gs) => match gs.lookup f with
            | some w => resP H' w r
            | none => none
          | _ => none) = some w
      cases hp : H p with
      | none => rw [hp] at e; cases e
      | some o =>
        rw [hp] at e
        rw [sm p o hp]
        cases o with
        | ins C dx gs =>
          dsimp only at e ⊢
          cases l : gs.lookup f with
          | none => rw [l] at e; cases e
          | some w1 =>
            rw [l] at e
            dsimp only at e ⊢
            exact resP_same sm e
        | _ => cases e
    | _ => cases e
end
/-- a value: data, or a place within what a slot owns -/
inductive PV where
  | dat (x : PyData)
  | pl (i : Nat) (P : List Str)
abbrev Pm := Rho → Option PV
def atP (ρ : Rho) (i : Nat) (P : List Str) : Option SV := match ρ[i]? with
  | some s => getP s P
  | none => none
def PVRep (K : PySem.W.Frag) (Hs H : Hp) (σ : L2.St) (r : PV) (v : V) : Prop := match r with
  | .dat x => Dp K Hs v x
  | .pl i P => ∃ u, at? σ i = some u ∧ resP H u P = some v
def PV.data (ρ : Rho) : PV → Option PyData
  | .dat x => some x
  | .pl i P => match atP ρ i P with
    | some (.ol xs) => some (.list xs)
    | _ => none
section
variable {K : PySem.W.Frag} {T : Tbs} {Hs H Hs' H' Hs1 H1 Hs2 H2 : Hp} {ρ ρ' : Rho} {σ : L2.St}
theorem pv_ext {r : PV} {v : V} (h : PVRep K Hs H σ r v) (e : ExtS Hs H Hs' H') (rp : Rep K T Hs ρ σ H) : PVRep K Hs' H' σ r v := by
  cases r with
  | dat x => exact dp_mono (e.rep rp).2.sh h
  | pl i P => obtain ⟨u, h1, h2⟩ := h; exact ⟨u, h1, resP_same e.sm h2⟩
/-- what lies at a place -/
theorem at_place (rp : Rep K T Hs ρ σ H) {i : Nat} {P : List Str} {v : V} {t : SV} (h : PVRep K Hs H σ (.pl i P) v) (e : atP ρ i P = some t) : ∃ s u, ρ[i]? = some s ∧ at? σ i = some u ∧ SRep K T Hs H s (some u) ∧ getP s P = some t ∧ resP H u P = some v ∧ SRep K T Hs H t (some v) ∧ ∀ a, OwnAt H t (some v) a → OwnAt H s (some u) a := by
  obtain ⟨u, h1, h2⟩ := h
  unfold atP at e
  cases e1 : ρ[i]? with
  | none => rw [e1] at e; cases e
  | some s =>
    rw [e1] at e
    have r := rp.at_ i s e1
    rw [h1] at r
    obtain ⟨w, q1, q2, q3⟩ := getP_rep r e
    rw [h2] at q1; cases q1
    exact ⟨s, u, rfl, h1, r, e, h2, q2, q3⟩
theorem brep_pv {r : PV} {v : V} {x : PyData} (rp : Rep K T Hs ρ σ H) (h : PVRep K Hs H σ r v) (e : r.data ρ = some x) : BRep K Hs H v x := by
  cases r with
  | dat y => cases e; exact .inl h
  | pl i P =>
    simp only [PV.data] at e
    split at e
    · rename_i xs hx
      cases e
      obtain ⟨s, u, _, _, _, _, _, r, _⟩ := at_place rp h hx
      obtain ⟨p, vs, q1, q2, q3, _⟩ := r
      cases q1
      exact .inr ⟨p, vs, xs, rfl, rfl, q2, q3⟩
    · cases e
/-- what lies at a place is written where it lies -/
theorem Rep.atW (rp : Rep K T Hs ρ σ H) {i : Nat} {P : List Str} {v : V} {t t' : SV} (h : PVRep K Hs H σ (.pl i P) v) (e : atP ρ i P = some t)
    (fr : ∀ a u, H a = some u → ¬ OwnAt H t (some v) a → H' a = some u) (h' : SRep K T Hs H' t' (some v)) {N : Addr → Prop} (hN : ∀ a, N a → ¬ Own H ρ σ a) (ow : ∀ a, OwnAt H' t' (some v) a → OwnAt H t (some v) a ∨ N a) :
    ∃ s, ρ[i]? = some s ∧ Rep K T Hs (ρ.set i (setP s P t')) σ H' ∧ ∀ {ρ0 : Rho} {Hs0 H0 : Hp}, Grow ρ0 σ Hs0 H0 ρ σ Hs H → (∀ a, N a → Fre H0 a) → (∀ a, Fre H' a → Fre H a) → Grow ρ0 σ Hs0 H0 (ρ.set i (setP s P t')) σ Hs H' := by
  obtain ⟨s, u, e1, e2, r1, e3, e4, r2, o2⟩ := at_place rp h e
  have frS : ∀ a w, H a = some w → ¬ OwnAt H s (at? σ i) a → H' a = some w := fun a w hw n => fr a w hw fun z => n (by rw [e2]; exact o2 a z)
  obtain ⟨k1, k2⟩ := setP_rep (N := N) (H' := H') (Same.refl Hs) (fun a n z => hN a n ⟨i, s, e1, by rw [e2]; exact z⟩) r1 e3 e4 (fun a o n => by
    obtain ⟨⟨w, hw, _⟩, hn⟩ := r1.owned o
    exact ⟨by rw [hw]; exact fr a w hw n, hn⟩) h' ow
  refine ⟨s, e1, rp.mutG e1 frS (by rw [e2]; exact k1) (by rw [e2]; exact fun a o => (k2 a o).imp id (hN a)), fun {ρ0 Hs0 H0} gr n0 dm => .mutN gr rp e1 frS dm (by rw [e2]; exact fun a o => (k2 a o).imp id (n0 a))⟩
end
end DS
end
section
set_option Elab.async false
set_option linter.all false
set_option maxRecDepth 100000
set_option maxHeartbeats 4000000
/-! DsY: expressions that change nothing; dicts of the def's own -/
namespace DS
open PySem PySem.Spec PyProof.Rows L2
/-! dicts as data -/
section
variable {α : Type}
def gKV (kvs : List (Key × α)) (k : Key) : Option α := (kvs.find? fun kv => decide (kv.1 = k)).map (·.2)
def pKV (kvs : List (Key × α)) (k : Key) (v : α) : List (Key × α) := if (kvs.any fun kv => decide (kv.1 = k)) = true then kvs.map (fun kv => if kv.1 = k then (kv.1, v) else kv) else kvs ++ [(k, v)]
def dKV (kvs : List (Key × α)) (k : Key) : List (Key × α) := kvs.filter fun kv => decide (kv.1 ≠ k)
end
def keyD : PyData → Option Key
  | .int i => some (.inl i)
  | .str x => some (.inr x)
  | _ => none
section
variable {K : PySem.W.Frag} {Hs H : Hp}
theorem keyD_rep {x : PyData} {k : Key} {v : V} (h : keyD x = some k) (r : BRep K Hs H v x) : v = kV k := by
  cases x with
  | int i => cases h; exact r.int
  | str i => cases h; exact r.str
  | _ => cases h
theorem kvRep_len : ∀ {hs : List (Key × V)} {kvs : List (Key × PyData)}, kvRep K Hs hs kvs → hs.length = kvs.length
  | [], [], _ => rfl
  | [], _ :: _, h => h.elim
  | _ :: _, [], h => h.elim
  | _ :: _, _ :: _, h => by rw [List.length_cons, List.length_cons, kvRep_len h.2.2]
theorem kvRep_get {k : Key} : ∀ {hs : List (Key × V)} {kvs : List (Key × PyData)}, kvRep K Hs hs kvs → (valV hs k = none ∧ gKV kvs k = none) ∨ ∃ v x, valV hs k = some v ∧ gKV kvs k = some x ∧ Dp K Hs v x
  | [], [], _ => .inl ⟨rfl, rfl⟩
  | [], _ :: _, h => h.elim
  | _ :: _, [], h => h.elim
  | p :: r, q :: t, ⟨a, b, c⟩ => by
    by_cases e : p.1 = k
    · refine .inr ⟨p.2, q.2, valV_pos e, ?_, b⟩
      simp [gKV, List.find?_cons, ← a, e]
    · have e2 : ¬ q.1 = k := by rw [← a]; exact e
      rcases kvRep_get (k := k) c with ⟨h1, h2⟩ | ⟨v, x, h1, h2, h3⟩
      · refine .inl ⟨by rw [valV_neg e]; exact h1, ?_⟩
        simpa [gKV, List.find?_cons, e2] using h2
      · refine .inr ⟨v, x, by rw [valV_neg e]; exact h1, ?_, h3⟩
        simpa [gKV, List.find?_cons, e2] using h2
theorem kvRep_any {k : Key} : ∀ {hs : List (Key × V)} {kvs : List (Key × PyData)}, kvRep K Hs hs kvs → (hs.any fun kv => decide (kv.1 = k)) = (kvs.any fun kv => decide (kv.1 = k))
  | [], [], _ => rfl
  | [], _ :: _, h => h.elim
  | _ :: _, [], h => h.elim
  | p :: r, q :: t, ⟨a, b, c⟩ => by rw [List.any_cons, List.any_cons, kvRep_any c, a]
theorem kvRep_map {k : Key} {v : V} {x : PyData} (d : Dp K Hs v x) : ∀ {hs : List (Key × V)} {kvs : List (Key × PyData)}, kvRep K Hs hs kvs → kvRep K Hs (hs.map fun kv => if kv.1 = k then (kv.1, v) else kv) (kvs.map fun kv => if kv.1 = k then (kv.1, x) else kv)
  | [], [], _ => trivial
  | [], _ :: _, h => h.elim
  | _ :: _, [], h => h.elim
  | p :: r, q :: t, ⟨a, b, c⟩ => by
    refine ⟨?_, ?_, kvRep_map d c⟩ <;> dsimp only
    · by_cases e : p.1 = k
      · rw [if_pos e, if_pos (by rw [← a]; exact e)]; exact a
      · rw [if_neg e, if_neg (by rw [← a]; exact e)]; exact a
    · by_cases e : p.1 = k
      · rw [if_pos e, if_pos (by rw [← a]; exact e)]; exact d
      · rw [if_neg e, if_neg (by rw [← a]; exact e)]; exact b
theorem kvRep_app {hs' : List (Key × V)} {kvs' : List (Key × PyData)} (g : kvRep K Hs hs' kvs') : ∀ {hs : List (Key × V)} {kvs : List (Key × PyData)}, kvRep K Hs hs kvs → kvRep K Hs (hs ++ hs') (kvs ++ kvs')
  | [], [], _ => g
  | [], _ :: _, h => h.elim
  | _ :: _, [], h => h.elim
  | p :: r, q :: t, ⟨a, b, c⟩ => ⟨a, b, kvRep_app g c⟩
theorem kvRep_put {k : Key} {v : V} {x : PyData} {hs : List (Key × V)} {kvs : List (Key × PyData)} (h : kvRep K Hs hs kvs) (d : Dp K Hs v x) : kvRep K Hs (putK hs k v) (pKV kvs k x) := by
  unfold putK pKV
  rw [kvRep_any h]
  by_cases e : (kvs.any fun kv => decide (kv.1 = k)) = true
  · rw [if_pos e, if_pos e]; exact kvRep_map d h
  · rw [if_neg e, if_neg e]; exact kvRep_app (show kvRep K Hs [(k, v)] [(k, x)] from ⟨rfl, d, trivial⟩) h
theorem kvRep_drop {k : Key} : ∀ {hs : List (Key × V)} {kvs : List (Key × PyData)}, kvRep K Hs hs kvs → kvRep K Hs (dropK hs k) (dKV kvs k)
  | [], [], _ => trivial
  | [], _ :: _, h => h.elim
  | _ :: _, [], h => h.elim
  | p :: r, q :: t, ⟨a, b, c⟩ => by
    have ih := kvRep_drop (k := k) c
    unfold dropK dKV at ih ⊢
    by_cases e : p.1 = k
    · rw [List.filter_cons_of_neg (by simp [e]), List.filter_cons_of_neg (by simp [← a, e])]; exact ih
    · rw [List.filter_cons_of_pos (by simp [e]), List.filter_cons_of_pos (by simp [← a, e])]; exact ⟨a, b, ih⟩
end
/-! expressions that change nothing -/
section
variable (K : PySem.W.Frag) (T : Tbs)
def tP (p : Pm) : TE := fun σ H Q => ∃ ρ Hs a, Rep K T Hs ρ σ H ∧ p ρ = some a ∧ ∀ v H' Hs', ExtS Hs H Hs' H' → PVRep K Hs' H' σ a v → Q v H'
def pvs (Hs H : Hp) (σ : L2.St) : List PV → List V → Prop
  | [], [] => True
  | r :: rs, v :: vs => PVRep K Hs H σ r v ∧ pvs Hs H σ rs vs
  | _, _ => False
abbrev Pms := Rho → Option (List PV)
def tPs (p : Pms) : TA := fun σ H Q => ∃ ρ Hs a, Rep K T Hs ρ σ H ∧ p ρ = some a ∧ ∀ vs H' Hs', ExtS Hs H Hs' H' → pvs K Hs' H' σ a vs → Q vs H'
end
def SimP (T : Tbs) (X : Cx) (e : Expr) (p : Pm) : Prop := PE X e (tP X.K T p)
def SimPs (T : Tbs) (X : Cx) (es : List Expr) (p : Pms) : Prop := PA X es (tPs X.K T p)
section
variable {T : Tbs} {X : Cx} {W : WX} {e a b o i : Expr} {es : List Expr} {p pa pb : Pm} {ps : Pms} {f : Str} {pos : Pos}
def pVar (i : Nat) : Pm := fun ρ => match ρ[i]? with
  | some (.d x) => some (.dat x)
  | some .un => none
  | some _ => some (.pl i [])
  | none => none
theorem sp_var {i : Nat} (h : PE X e (tVar i)) : SimP T X e (pVar i) := pe_imp h fun σ H Q ⟨ρ, Hs, a, rp, pe, k⟩ => by
  unfold pVar at pe
  cases e1 : ρ[i]? with
  | none => rw [e1] at pe; cases pe
  | some s =>
    rw [e1] at pe
    have r := rp.at_ i s e1
    have own : ∀ w, at? σ i = some w → Q w H → ∃ v, σ[i]? = some (some v) ∧ Q v H := fun w h q => ⟨w, at_some h, q⟩
    cases s with
    | un => cases pe
    | d x =>
      cases pe
      obtain ⟨y, q1, h1⟩ := r
      exact own y q1 (k y H Hs .refl h1)
    | ol xs =>
      cases pe
      obtain ⟨q, _, q1, _⟩ := r
      exact own _ q1 (k _ H Hs .refl ⟨_, q1, rfl⟩)
    | od xs =>
      cases pe
      obtain ⟨q, _, q1, _⟩ := r
      exact own _ q1 (k _ H Hs .refl ⟨_, q1, rfl⟩)
    | oo c fs =>
      cases pe
      obtain ⟨q, _, _, _, q1, _⟩ := r
      exact own _ q1 (k _ H Hs .refl ⟨_, q1, rfl⟩)
def pC (x : PyData) : Pm := fun _ => some (.dat x)
theorem sp_c {v : V} {x : PyData} (h : PE X e (tC v)) (r : ∀ H, Dp X.K H v x) : SimP T X e (pC x) := pe_imp h fun σ H Q ⟨ρ, Hs, a, rp, pe, k⟩ => by
  cases pe
  exact k v H Hs .refl (r Hs)
/-- what a field of an instance holds -/
def fldP (ρ : Rho) (i : Nat) (P : List Str) (f : Str) (cs : List Str) : Option PV := match atP ρ i P with
  | some (.oo c fs) => if c ∈ cs then match fs.get f with
    | some (.d x) => some (.dat x)
    | some .un => none
    | some _ => some (.pl i (P ++ [f]))
    | none => none
    else none
  | _ => none
def pFld (cs : List Str) (f : Str) (p : Pm) : Pm := fun ρ => match p ρ with
  | some (.pl i P) => fldP ρ i P f cs
  | _ => none
theorem resP_app {H : Hp} {p C dx : Addr} {gs : List (Str × V)} {f : Str} {w : V} (hp : H p = some (.ins C dx gs)) (l : gs.lookup f = some w) : ∀ {P : List Str} {u : V}, resP H u P = some (.ref p) → resP H u (P ++ [f]) = some w
  | [], u, e => by
    have e : some u = some (.ref p) := by cases u <;> exact e
    cases e
    show (match H p with
      | some (.ins _ _ gs) => match gs.lookup f with
        | some w => resP H w []
        | none => none
      | _ => none) = some w
    rw [hp]
    dsimp only
    rw [l]
    cases w <;> rfl
  | g :: r, u, e => by
    cases u with
    | ref q =>
      have e : (match H q with
        | some (.ins _ _ gs) => match gs.lookup g with
          | some w => resP H w r
          | none => none
        | _ => none) = some (.ref p) := e
      show (match H q with
        | some (.ins _ _ gs) => match gs.lookup g with
          | some w => resP H w (r ++ [f])
          | none => none
        | _ => none) = some w
      cases hq : H q with
      | none => rw [hq] at e; cases e
      | some o =>
        rw [hq] at e
        cases o with
        | ins C' dx' gs' =>
          dsimp only at e ⊢
          cases l' : gs'.lookup g with
          | none => rw [l'] at e; cases e
          | some w1 =>
            rw [l'] at e
            dsimp only at e ⊢
            exact resP_app hp l e
        | _ => cases e
    | _ => cases e
/-- the classes of these names have no attribute of this name -/
def ClsF (K : PySem.W.Frag) (T : Tbs) (cs : List Str) (f : Str) : Prop := ∀ c ∈ cs, ∀ C, T.cl c = some C → Cls K C ∧ NoAttr K C f
theorem sp_fld {cs : List Str} (he : SimP T X e p) (hc : ClsF X.K T cs f) (hb : attributeBase e f X.env (eval e X.env) = eval e X.env) : SimP T X (.Attribute e f pos) (pFld cs f p) :=
  pe_imp (pe_fld he hb) fun σ H Q ⟨ρ, Hs, a, rp, pe, k⟩ => by
    unfold pFld at pe
    cases e1 : p ρ with
    | none => rw [e1] at pe; cases pe
    | some r =>
      rw [e1] at pe
      cases r with
      | dat x => cases pe
      | pl i P =>
        refine ⟨ρ, Hs, .pl i P, rp, e1, fun v H1 Hs1 x1 pv => ?_⟩
        have rp1 := (x1.rep rp).1
        have pe : fldP ρ i P f cs = some a := pe
        unfold fldP at pe
        cases e2 : atP ρ i P with
        | none => rw [e2] at pe; cases pe
        | some t =>
          rw [e2] at pe
          cases t with
          | oo c fs =>
            dsimp only at pe
            obtain ⟨s, u, _, hu, _, _, hr, rt, _⟩ := at_place rp1 pv e2
            by_cases hcs : c ∈ cs
            · rw [if_pos hcs] at pe
              obtain ⟨q, C, dx, gs, ev, hq, cl, _, _, fr⟩ := rt
              cases ev
              obtain ⟨c1, c2⟩ := hc c hcs C cl
              cases e3 : fs.get f with
              | none => rw [e3] at pe; cases pe
              | some s1 =>
                rw [e3] at pe
                obtain ⟨w, l, r1, _⟩ := frep_get fr e3
                refine ⟨q, C, dx, gs, w, rfl, hq, c1, c2, l, ?_⟩
                cases s1 with
                | un => cases pe
                | d x =>
                  cases pe
                  obtain ⟨y, q1, h1⟩ := r1
                  cases q1
                  exact k _ H1 Hs1 x1 h1
                | ol xs => cases pe; exact k _ H1 Hs1 x1 ⟨u, hu, resP_app hq l hr⟩
                | od xs => cases pe; exact k _ H1 Hs1 x1 ⟨u, hu, resP_app hq l hr⟩
                | oo _ _ => cases pe; exact k _ H1 Hs1 x1 ⟨u, hu, resP_app hq l hr⟩
            · rw [if_neg hcs] at pe; cases pe
          | _ => cases pe
def dat2 (f : PyData → PyData → Option PyData) (ρ : Rho) (a b : PV) : Option PV := match a.data ρ, b.data ρ with
  | some x, some y => match f x y with
    | some z => some (.dat z)
    | none => none
  | _, _ => none
def pOp2 (f : PyData → PyData → Option PyData) (pa pb : Pm) : Pm := fun ρ => match pa ρ, pb ρ with
  | some a, some b => dat2 f ρ a b
  | _, _ => none
theorem sp_op2 {f : PyData → PyData → Option PyData} {r : R2} (ho : Op2 X.K f r) (ha : SimP T X a pa) (hb : SimP T X b pb)
    (h : PE X a (tP X.K T pa) → PE X b (tP X.K T pb) → PE X e (tOp r (tP X.K T pa) (tP X.K T pb))) : SimP T X e (pOp2 f pa pb) :=
  pe_imp (h ha hb) fun σ H Q ⟨ρ, Hs, z, rp, pe, k⟩ => by
    unfold pOp2 at pe
    cases e1 : pa ρ with
    | none => rw [e1] at pe; cases pe
    | some u1 =>
      cases e2 : pb ρ with
      | none => rw [e1, e2] at pe; cases pe
      | some u2 =>
        rw [e1, e2] at pe
        have pe : dat2 f ρ u1 u2 = some z := pe
        unfold dat2 at pe
        cases e3 : u1.data ρ with
        | none => rw [e3] at pe; cases pe
        | some x =>
          cases e4 : u2.data ρ with
          | none => rw [e3, e4] at pe; cases pe
          | some y =>
            rw [e3, e4] at pe
            dsimp only at pe
            cases e5 : f x y with
            | none => rw [e5] at pe; cases pe
            | some w =>
              rw [e5] at pe
              cases pe
              refine ⟨ρ, Hs, u1, rp, e1, fun v1 H1 Hs1 x1 r1 => ?_⟩
              have rp1 := (x1.rep rp).1
              refine ⟨ρ, Hs1, u2, rp1, e2, fun v2 H2 Hs2 x2 r2 => ?_⟩
              have rp2 := (x2.rep rp1).1
              exact ho Hs2 H2 v1 v2 x y w Q rp2.sub (brep_pv rp2 (pv_ext r1 x2 rp1) e3) (brep_pv rp2 r2 e4) e5 fun v3 H3 Hs3 x3 d => k v3 H3 Hs3 ((x1.trans x2).step x3) d
def dat1 (f : PyData → Option PyData) (ρ : Rho) (a : PV) : Option PV := match a.data ρ with
  | some x => match f x with
    | some z => some (.dat z)
    | none => none
  | none => none
def pOp1 (f : PyData → Option PyData) (pa : Pm) : Pm := fun ρ => match pa ρ with
  | some a => dat1 f ρ a
  | none => none
theorem sp_op1 {f : PyData → Option PyData} {r : V → Hp → VK → Prop} (ho : Op1 X.K f r) (ha : SimP T X a pa)
    (h : PE X a (tP X.K T pa) → PE X e (tUn r (tP X.K T pa))) : SimP T X e (pOp1 f pa) :=
  pe_imp (h ha) fun σ H Q ⟨ρ, Hs, z, rp, pe, k⟩ => by
    unfold pOp1 at pe
    cases e1 : pa ρ with
    | none => rw [e1] at pe; cases pe
    | some u1 =>
      rw [e1] at pe
      have pe : dat1 f ρ u1 = some z := pe
      unfold dat1 at pe
      cases e3 : u1.data ρ with
      | none => rw [e3] at pe; cases pe
      | some x =>
        rw [e3] at pe
        dsimp only at pe
        cases e5 : f x with
        | none => rw [e5] at pe; cases pe
        | some w =>
          rw [e5] at pe
          cases pe
          refine ⟨ρ, Hs, u1, rp, e1, fun v1 H1 Hs1 x1 r1 => ?_⟩
          have rp1 := (x1.rep rp).1
          exact ho Hs1 H1 v1 x w Q rp1.sub (brep_pv rp1 r1 e3) e5 fun v3 H3 Hs3 x3 d => k v3 H3 Hs3 (x1.step x3) d
/-! rows of them -/
def psNil : Pms := fun _ => some []
def psCons (pa : Pm) (ps : Pms) : Pms := fun ρ => match pa ρ, ps ρ with
  | some a, some r => some (a :: r)
  | _, _ => none
theorem pvs_ext {K : PySem.W.Frag} {σ : L2.St} {Hs H Hs' H' : Hp} {ρ : Rho} (e : ExtS Hs H Hs' H') (rp : Rep K T Hs ρ σ H) : ∀ {rs : List PV} {vs : List V}, pvs K Hs H σ rs vs → pvs K Hs' H' σ rs vs
  | [], [], _ => trivial
  | [], _ :: _, h => h.elim
  | _ :: _, [], h => h.elim
  | _ :: _, _ :: _, h => ⟨pv_ext h.1 e rp, pvs_ext e rp h.2⟩
theorem sps_nil : SimPs T X [] psNil := pa_imp pa_nil fun σ H Q ⟨ρ, Hs, a, rp, pe, k⟩ => by
  cases pe
  exact k [] H Hs .refl trivial
theorem sps_cons (ha : SimP T X a pa) (hr : SimPs T X es ps) (hs : starEach (a :: es) X.env = (false, eval a X.env) :: starEach es X.env := by rfl) : SimPs T X (a :: es) (psCons pa ps) :=
  pa_imp (pa_cons ha hr hs) fun σ H Q ⟨ρ, Hs, z, rp, pe, k⟩ => by
    unfold psCons at pe
    cases e1 : pa ρ with
    | none => rw [e1] at pe; cases pe
    | some u1 =>
      cases e2 : ps ρ with
      | none => rw [e1, e2] at pe; cases pe
      | some u2 =>
        rw [e1, e2] at pe
        cases pe
        refine ⟨ρ, Hs, u1, rp, e1, fun v1 H1 Hs1 x1 r1 => ?_⟩
        have rp1 := (x1.rep rp).1
        exact ⟨ρ, Hs1, u2, rp1, e2, fun vs H2 Hs2 x2 r2 => k (v1 :: vs) H2 Hs2 (x1.trans x2) ⟨pv_ext r1 x2 rp1, r2⟩⟩
def datasP (ρ : Rho) : List PV → Option (List PyData)
  | [] => some []
  | r :: rs => match r.data ρ, datasP ρ rs with
    | some x, some xs => some (x :: xs)
    | _, _ => none
theorem breps_pvs {K : PySem.W.Frag} {σ : L2.St} {Hs H : Hp} {ρ : Rho} (rp : Rep K T Hs ρ σ H) : ∀ {rs : List PV} {vs : List V} {xs : List PyData}, pvs K Hs H σ rs vs → datasP ρ rs = some xs → bReps K Hs H vs xs
  | [], [], xs, _, e => by cases e; trivial
  | [], _ :: _, _, h, _ => h.elim
  | _ :: _, [], _, h, _ => h.elim
  | r :: rs, v :: vs, xs, h, e => by
    unfold datasP at e
    cases e1 : r.data ρ with
    | none => rw [e1] at e; cases e
    | some x =>
      cases e2 : datasP ρ rs with
      | none => rw [e1, e2] at e; cases e
      | some ys =>
        rw [e1, e2] at e
        cases e
        exact ⟨brep_pv rp h.1 e1, breps_pvs rp h.2 e2⟩
def pCB (f : List PyData → Option PyData) (ps : Pms) : Pm := fun ρ => match ps ρ with
  | some rs => match datasP ρ rs with
    | some xs => match f xs with
      | some z => some (.dat z)
      | none => none
    | none => none
  | none => none
theorem sp_cb {f : List PyData → Option PyData} {r : List V → Hp → VK → Prop} (ho : OpN X.K f r) (ha : SimPs T X es ps) (h : PA X es (tPs X.K T ps) → PE X e (tCB r (tPs X.K T ps))) : SimP T X e (pCB f ps) :=
  pe_imp (h ha) fun σ H Q ⟨ρ, Hs, z, rp, pe, k⟩ => by
    unfold pCB at pe
    cases e1 : ps ρ with
    | none => rw [e1] at pe; cases pe
    | some rs =>
      rw [e1] at pe
      dsimp only at pe
      cases e2 : datasP ρ rs with
      | none => rw [e2] at pe; cases pe
      | some xs =>
        rw [e2] at pe
        dsimp only at pe
        cases e3 : f xs with
        | none => rw [e3] at pe; cases pe
        | some w =>
          rw [e3] at pe
          cases pe
          refine ⟨ρ, Hs, rs, rp, e1, fun vs H1 Hs1 x1 r1 => ?_⟩
          have rp1 := (x1.rep rp).1
          exact ho Hs1 H1 vs xs w Q rp1.sub (breps_pvs rp1 r1 e2) e3 fun v3 H3 Hs3 x3 d => k v3 H3 Hs3 (x1.step x3) d
/-- (a, b, ..) -/
def pTup (ps : Pms) : Pm := fun ρ => match ps ρ with
  | some rs => match datasP ρ rs with
    | some xs => if xs.length ≤ sizeLine ∧ rs.all (fun r => match r with | .dat _ => true | .pl _ _ => false) = true then some (.dat (.tuple xs)) else none
    | none => none
  | none => none
theorem pvs_dp {K : PySem.W.Frag} {σ : L2.St} {Hs H : Hp} {ρ : Rho} : ∀ {rs : List PV} {vs : List V} {xs : List PyData}, pvs K Hs H σ rs vs → datasP ρ rs = some xs → rs.all (fun r => match r with | .dat _ => true | .pl _ _ => false) = true → DpAll K Hs vs xs
  | [], [], xs, _, e, _ => by cases e; exact .nil
  | [], _ :: _, _, h, _, _ => h.elim
  | _ :: _, [], _, h, _, _ => h.elim
  | r :: rs, v :: vs, xs, h, e, al => by
    unfold datasP at e
    cases r with
    | pl i P => simp at al
    | dat x =>
      cases e2 : datasP ρ rs with
      | none => rw [e2] at e; cases e
      | some ys =>
        rw [e2] at e
        cases e
        exact .cons h.1 (pvs_dp h.2 e2 (by simpa using al))
theorem sp_tup {x1 : Nat} (h : SimPs T X es ps) : SimP T X (.Tuple es x1 pos) (pTup ps) :=
  pe_imp (pe_tup h) fun σ H Q ⟨ρ, Hs, z, rp, pe, k⟩ => by
    unfold pTup at pe
    cases e1 : ps ρ with
    | none => rw [e1] at pe; cases pe
    | some rs =>
      rw [e1] at pe
      dsimp only at pe
      cases e2 : datasP ρ rs with
      | none => rw [e2] at pe; cases pe
      | some xs =>
        rw [e2] at pe
        dsimp only at pe
        by_cases hz : xs.length ≤ sizeLine ∧ rs.all (fun r => match r with | .dat _ => true | .pl _ _ => false) = true
        · rw [if_pos hz] at pe
          cases pe
          refine ⟨ρ, Hs, rs, rp, e1, fun vs H1 Hs1 x1 r1 => ?_⟩
          have rp1 := (x1.rep rp).1
          have al := pvs_dp (ρ := ρ) r1 e2 hz.2
          refine ⟨by rw [dpAll_len al]; exact hz.1, fun l hl => ?_⟩
          exact k (.ref l) _ _ (x1.step (.new (o := .tup vs) hl fun _ z => nomatch z)) (.tup (SqT.of upd_same) (dpAll_mono (same_upd (none_of_same rp1.sub hl)) al))
        · rw [if_neg hz] at pe; cases pe
/-! what changes nothing, as what may -/
def mP (p : Pm) : M RV := fun ρ => match p ρ with
  | some (.dat x) => .ok (.dat x) ρ
  | some (.pl i []) => .ok (.slot i) ρ
  | _ => .bad
theorem rf_p : Rf T X W (mP p) (tP X.K T p) := fun σ H Q ⟨ρ, Hs, rp, h⟩ => by
  unfold mP at h
  cases e1 : p ρ with
  | none => rw [e1] at h; exact h.elim
  | some r =>
    rw [e1] at h
    refine ⟨ρ, Hs, r, rp, e1, fun v H1 Hs1 x1 r1 => ?_⟩
    obtain ⟨rp1, g1⟩ := x1.rep rp
    cases r with
    | dat x => exact h v H1 Hs1 rp1 g1 r1 fun _ z => z.elim
    | pl i P =>
      cases P with
      | nil =>
        obtain ⟨u, h1, h2⟩ := r1
        have h2 : some u = some v := by cases u <;> exact h2
        cases h2
        exact h v H1 Hs1 rp1 g1 h1 fun _ z => z.elim
      | cons _ _ => exact h.elim
theorem sim_p (h : SimP T X e p) : SimE T X W e (mP p) := pe_imp h rf_p
/-! dicts of the def's own -/
def dAt (ρ : Rho) : PV → Option (List (Key × PyData))
  | .pl i P => match atP ρ i P with
    | some (.od kvs) => some kvs
    | _ => none
  | .dat _ => none
theorem dAt_rep {K : PySem.W.Frag} {σ : L2.St} {Hs H : Hp} {ρ : Rho} {r : PV} {v : V} {kvs : List (Key × PyData)} (rp : Rep K T Hs ρ σ H) (h : PVRep K Hs H σ r v) (e : dAt ρ r = some kvs) : ∃ q hs, v = .ref q ∧ H q = some (.dK hs) ∧ kvRep K Hs hs kvs := by
  cases r with
  | dat x => cases e
  | pl i P =>
    unfold dAt at e
    dsimp only at e
    split at e
    · rename_i ks hx
      cases e
      obtain ⟨s, u, _, _, _, _, _, r, _⟩ := at_place rp h hx
      obtain ⟨p, vs, q1, q2, q3, _⟩ := r
      cases q1
      exact ⟨p, vs, rfl, q2, q3⟩
    · cases e
def keyOf (ρ : Rho) (r : PV) : Option Key := match r.data ρ with
  | some x => keyD x
  | none => none
theorem keyOf_rep {K : PySem.W.Frag} {σ : L2.St} {Hs H : Hp} {ρ : Rho} {r : PV} {v : V} {k : Key} (rp : Rep K T Hs ρ σ H) (h : PVRep K Hs H σ r v) (e : keyOf ρ r = some k) : v = kV k := by
  unfold keyOf at e
  cases e1 : r.data ρ with
  | none => rw [e1] at e; cases e
  | some x => rw [e1] at e; exact keyD_rep e (brep_pv rp h e1)
def inD (neg : Bool) (ρ : Rho) (a b : PV) : Option PV := match keyOf ρ a, dAt ρ b with
  | some k, some kvs => some (.dat (.bool (xor neg (gKV kvs k).isSome)))
  | _, _ => none
/-- k in d, k not in d -/
def pIn (neg : Bool) (pa pb : Pm) : Pm := fun ρ => match pa ρ, pb ρ with
  | some a, some b => inD neg ρ a b
  | _, _ => none
theorem rf_in {neg : Bool} {t : TE} (ht : t = (if neg = true then tDNotIn (tP X.K T pa) (tP X.K T pb) else tDIn (tP X.K T pa) (tP X.K T pb))) : ∀ σ H Q, tP X.K T (pIn neg pa pb) σ H Q → t σ H Q := by
  subst ht
  rintro σ H Q ⟨ρ, Hs, z, rp, pe, k⟩
  have key : ∃ u1 u2, pa ρ = some u1 ∧ pb ρ = some u2 ∧ inD neg ρ u1 u2 = some z := by
    unfold pIn at pe
    cases e1 : pa ρ with
    | none => rw [e1] at pe; cases pe
    | some u1 =>
      cases e2 : pb ρ with
      | none => rw [e1, e2] at pe; cases pe
      | some u2 => rw [e1, e2] at pe; exact ⟨u1, u2, rfl, rfl, pe⟩
  obtain ⟨u1, u2, e1, e2, pe⟩ := key
  unfold inD at pe
  cases e3 : keyOf ρ u1 with
  | none => rw [e3] at pe; cases pe
  | some y =>
    cases e4 : dAt ρ u2 with
    | none => rw [e3, e4] at pe; cases pe
    | some kvs =>
      rw [e3, e4] at pe
      cases pe
      have body : ∀ v1 H1 Hs1, ExtS Hs H Hs1 H1 → PVRep X.K Hs1 H1 σ u1 v1 → ∀ v2 H2 Hs2, ExtS Hs1 H1 Hs2 H2 → PVRep X.K Hs2 H2 σ u2 v2 → ∃ a o, v2 = .ref a ∧ DGet H2 a v1 o ∧ Q (.bl (xor neg o.isSome)) H2 := fun v1 H1 Hs1 x1 r1 v2 H2 Hs2 x2 r2 => by
        have rp1 := (x1.rep rp).1
        have rp2 := (x2.rep rp1).1
        obtain ⟨q, hs, rfl, hq, kr⟩ := dAt_rep rp2 r2 e4
        have ek := keyOf_rep rp1 r1 e3
        subst ek
        refine ⟨q, _, rfl, DGet.k hq, k _ H2 Hs2 (x1.trans x2) ?_⟩
        rcases kvRep_get (k := y) kr with ⟨h1, h2⟩ | ⟨v, x, h1, h2, _⟩
        · rw [h1, h2]; exact .bl _
        · rw [h1, h2]; exact .bl _
      cases neg with
      | false =>
        refine ⟨ρ, Hs, u1, rp, e1, fun v1 H1 Hs1 x1 r1 => ⟨ρ, Hs1, u2, (x1.rep rp).1, e2, fun v2 H2 Hs2 x2 r2 => ?_⟩⟩
        obtain ⟨a, o, h1, h2, h3⟩ := body v1 H1 Hs1 x1 r1 v2 H2 Hs2 x2 r2
        exact ⟨a, o, h1, h2, by simpa using h3⟩
      | true =>
        refine ⟨ρ, Hs, u1, rp, e1, fun v1 H1 Hs1 x1 r1 => ⟨ρ, Hs1, u2, (x1.rep rp).1, e2, fun v2 H2 Hs2 x2 r2 => ?_⟩⟩
        obtain ⟨a, o, h1, h2, h3⟩ := body v1 H1 Hs1 x1 r1 v2 H2 Hs2 x2 r2
        exact ⟨a, o, h1, h2, by simpa using h3⟩
theorem sp_in (hu : X.A.units + 1 < cLine) (ha : SimP T X a pa) (hb : SimP T X b pb) (hm : behindInMarks .In b = false) : SimP T X (.Compare a [.In] [b] pos) (pIn false pa pb) :=
  pe_imp (pe_cmp (pc_din hu ha hb) hm) (rf_in rfl)
theorem sp_notIn (hu : X.A.units + 1 < cLine) (ha : SimP T X a pa) (hb : SimP T X b pb) (hm : behindInMarks .NotIn b = false) : SimP T X (.Compare a [.NotIn] [b] pos) (pIn true pa pb) :=
  pe_imp (pe_cmp (pc_dnotin hu ha hb) hm) (rf_in rfl)
def getD (ρ : Rho) (a b : PV) : Option PV := match dAt ρ a, keyOf ρ b with
  | some kvs, some k => match gKV kvs k with
    | some x => some (.dat x)
    | none => none
  | _, _ => none
/-- d[k] -/
def pGet (pa pb : Pm) : Pm := fun ρ => match pa ρ, pb ρ with
  | some a, some b => getD ρ a b
  | _, _ => none
theorem sp_get (hu : X.A.units + 1 < cLine) (ha : SimP T X a pa) (hb : SimP T X b pb) (hs : NoSl b) : SimP T X (.Subscript a b pos) (pGet pa pb) :=
  pe_imp (pe_dget hu ha hb hs) fun σ H Q ⟨ρ, Hs, z, rp, pe, k⟩ => by
    unfold pGet at pe
    cases e1 : pa ρ with
    | none => rw [e1] at pe; cases pe
    | some u1 =>
      cases e2 : pb ρ with
      | none => rw [e1, e2] at pe; cases pe
      | some u2 =>
        rw [e1, e2] at pe
        have pe : getD ρ u1 u2 = some z := pe
        unfold getD at pe
        cases e3 : dAt ρ u1 with
        | none => rw [e3] at pe; cases pe
        | some kvs =>
          cases e4 : keyOf ρ u2 with
          | none => rw [e3, e4] at pe; cases pe
          | some y =>
            rw [e3, e4] at pe
            dsimp only at pe
            cases e5 : gKV kvs y with
            | none => rw [e5] at pe; cases pe
            | some x =>
              rw [e5] at pe
              cases pe
              refine ⟨ρ, Hs, u1, rp, e1, fun v1 H1 Hs1 x1 r1 => ?_⟩
              have rp1 := (x1.rep rp).1
              refine ⟨ρ, Hs1, u2, rp1, e2, fun v2 H2 Hs2 x2 r2 => ?_⟩
              have rp2 := (x2.rep rp1).1
              obtain ⟨q, hs, rfl, hq, kr⟩ := dAt_rep rp2 (pv_ext r1 x2 rp1) e3
              have ek := keyOf_rep rp2 r2 e4
              subst ek
              rcases kvRep_get (k := y) kr with ⟨h1, h2⟩ | ⟨v, x', h1, h2, h3⟩
              · rw [e5] at h2; cases h2
              · rw [e5] at h2; cases h2
                have g : DGet H2 q (kV y) (valV hs y) := DGet.k hq
                rw [h1] at g
                exact ⟨q, v, rfl, g, k v H2 Hs2 (x1.trans x2) h3⟩
end
end DS
end
section
set_option Elab.async false
set_option linter.all false
set_option maxRecDepth 100000
set_option maxHeartbeats 4000000
/-! DsZ: calls whose arguments change nothing; methods; new instances -/
namespace DS
open PySem PySem.Spec PyProof.Rows L2
def PV.rv : PV → RV
  | .dat x => .dat x
  | .pl i _ => .slot i
def PV.sv (ρ : Rho) : PV → Option SV
  | .dat x => some (.d x)
  | .pl i P => match atP ρ i P with
    | some (.ol xs) => some (.ol xs)
    | some (.od xs) => some (.od xs)
    | some (.oo c fs) => some (.oo c fs)
    | _ => none
def svsP (ρ : Rho) : List PV → Option (List SV)
  | [] => some []
  | r :: rs => match r.sv ρ, svsP ρ rs with
    | some s, some t => some (s :: t)
    | _, _ => none
def wbP : List PV → List SV → Rho → Rho
  | .pl i P :: r, s :: t, ρ => wbP r t (ρ.set i (setP (ρ.getD i .un) P s))
  | .dat _ :: r, _ :: t, ρ => wbP r t ρ
  | _, _, ρ => ρ
abbrev slotsP (rs : List PV) : List Nat := slotsOf (rs.map PV.rv)
def callP (F : FnSem) (rs : List PV) : M RO := fun ρ => match svsP ρ rs with
  | some svs => if (slotsP rs).Nodup then match F svs with
      | .ok ro svs' => .ok ro (wbP rs svs' ρ)
      | .er e svs' => .er e (wbP rs svs' ρ)
      | .bad => .bad
    else .bad
  | none => .bad
section
variable {K : PySem.W.Frag} {T : Tbs} {mg : Str → Option Value} {Hs H Hs' H' : Hp} {ρ ρ' svs svs' : Rho} {σ σ' : L2.St} {vs : List V} {rs : List PV}
theorem wbP_len : ∀ (rs : List PV) (t : List SV) (ρ : Rho), (wbP rs t ρ).length = ρ.length
  | [], t, ρ => by cases t <;> rfl
  | .pl i P :: r, [], ρ => rfl
  | .pl i P :: r, s :: t, ρ => by unfold wbP; rw [wbP_len r t]; simp
  | .dat _ :: r, [], ρ => rfl
  | .dat _ :: r, s :: t, ρ => by unfold wbP; exact wbP_len r t ρ
theorem wbP_out : ∀ (rs : List PV) (t : List SV) (ρ : Rho) {j : Nat}, j ∉ slotsP rs → (wbP rs t ρ)[j]? = ρ[j]?
  | [], t, ρ, j, h => by cases t <;> rfl
  | .pl i P :: r, [], ρ, j, h => rfl
  | .pl i P :: r, s :: t, ρ, j, h => by
    unfold wbP
    have h : j ∉ i :: slotsP r := h
    have h1 : i ≠ j := fun z => h (by rw [z]; exact .head _)
    rw [wbP_out r t _ (fun z => h (.tail _ z)), List.getElem?_set_ne h1]
  | .dat _ :: r, [], ρ, j, h => rfl
  | .dat _ :: r, s :: t, ρ, j, h => by unfold wbP; exact wbP_out r t ρ h
theorem wbP_in : ∀ (rs : List PV) (t : List SV) (ρ : Rho) {j : Nat} {u s0 : SV}, (slotsP rs).Nodup → j ∈ slotsP rs → rs.length = t.length → ρ[j]? = some s0 → (wbP rs t ρ)[j]? = some u → ∃ (k : Nat) (P : List Str) (s' : SV), rs[k]? = some (.pl j P) ∧ t[k]? = some s' ∧ u = setP s0 P s'
  | [], t, ρ, j, u, s0, nd, h, hl, e0, e => by cases h
  | .pl i P :: r, [], ρ, j, u, s0, nd, h, hl, e0, e => by simp at hl
  | .pl i P :: r, s :: t, ρ, j, u, s0, nd, h, hl, e0, e => by
    unfold wbP at e
    have nd' := List.nodup_cons.mp (show (i :: slotsP r).Nodup from nd)
    rcases List.mem_cons.mp (show j ∈ i :: slotsP r from h) with z | z
    · subst z
      rw [wbP_out r t _ nd'.1] at e
      have hj : j < ρ.length := (List.getElem?_eq_some_iff.mp e0).1
      rw [List.getElem?_set_self hj] at e
      cases e
      exact ⟨0, P, s, rfl, rfl, by rw [List.getD_eq_getElem?_getD, e0]; rfl⟩
    · have hij : i ≠ j := fun y => nd'.1 (by rw [y]; exact z)
      obtain ⟨k, P', s', h1, h2, h3⟩ := wbP_in r t _ nd'.2 z (by simpa using hl) (by rw [List.getElem?_set_ne hij]; exact e0) e
      exact ⟨k + 1, P', s', by simpa using h1, by simpa using h2, h3⟩
  | .dat _ :: r, [], ρ, j, u, s0, nd, h, hl, e0, e => by simp at hl
  | .dat _ :: r, s :: t, ρ, j, u, s0, nd, h, hl, e0, e => by
    unfold wbP at e
    obtain ⟨k, P', s', h1, h2, h3⟩ := wbP_in r t _ (show (slotsP r).Nodup from nd) h (by simpa using hl) e0 e
    exact ⟨k + 1, P', s', by simpa using h1, by simpa using h2, h3⟩
theorem pvs_get : ∀ {rs : List PV} {vs : List V} {k : Nat} {r : PV}, pvs K Hs H σ rs vs → rs[k]? = some r → ∃ v, vs[k]? = some v ∧ PVRep K Hs H σ r v
  | [], _, _, _, _, e => by simp at e
  | r :: rs, [], _, _, h, _ => h.elim
  | r :: rs, v :: vs, 0, _, h, e => by
    simp at e; subst e
    exact ⟨v, rfl, h.1⟩
  | r :: rs, v :: vs, k + 1, _, h, e => by
    obtain ⟨u, h1, h2⟩ := pvs_get (k := k) h.2 (by simpa using e)
    exact ⟨u, by simpa using h1, h2⟩
theorem pvs_len : ∀ {rs : List PV} {vs : List V}, pvs K Hs H σ rs vs → rs.length = vs.length
  | [], [], _ => rfl
  | [], _ :: _, h => h.elim
  | _ :: _, [], h => h.elim
  | _ :: rs, _ :: vs, h => by rw [List.length_cons, List.length_cons, pvs_len h.2]
theorem svsP_len : ∀ {rs : List PV} {svs : List SV}, svsP ρ rs = some svs → svs.length = rs.length
  | [], _, e => by cases e; rfl
  | r :: rs, svs, e => by
    unfold svsP at e
    cases e1 : r.sv ρ with
    | none => rw [e1] at e; cases e
    | some s =>
      cases e2 : svsP ρ rs with
      | none => rw [e1, e2] at e; cases e
      | some t =>
        rw [e1, e2] at e
        cases e
        rw [List.length_cons, svsP_len e2, List.length_cons]
theorem svsP_get : ∀ {rs : List PV} {svs : List SV} {k : Nat} {s : SV}, svsP ρ rs = some svs → svs[k]? = some s → ∃ r, rs[k]? = some r ∧ r.sv ρ = some s
  | [], _, _, _, e, h => by cases e; simp at h
  | r :: rs, svs, k, s, e, h => by
    unfold svsP at e
    cases e1 : r.sv ρ with
    | none => rw [e1] at e; cases e
    | some s' =>
      cases e2 : svsP ρ rs with
      | none => rw [e1, e2] at e; cases e
      | some t =>
        rw [e1, e2] at e
        cases e
        cases k with
        | zero => simp at h; subst h; exact ⟨r, rfl, e1⟩
        | succ k =>
          obtain ⟨r', h1, h2⟩ := svsP_get (k := k) e2 (by simpa using h)
          exact ⟨r', by simpa using h1, h2⟩
theorem sv_pl {j : Nat} {P : List Str} {s : SV} (h : PV.sv ρ (.pl j P) = some s) : atP ρ j P = some s := by
  unfold PV.sv at h
  dsimp only at h
  cases e : atP ρ j P with
  | none => rw [e] at h; cases h
  | some u => rw [e] at h; cases u <;> cases h <;> rfl
theorem slot_inj {p : Nat} : ∀ {l : List RV} {i j : Nat}, (slotsOf l).Nodup → l[i]? = some (.slot p) → l[j]? = some (.slot p) → i = j := by
  intro l
  induction l with
  | nil => intro i j _ e; simp at e
  | cons x l ih =>
    intro i j nd e1 e2
    cases x with
    | dat _ =>
      cases i with
      | zero => simp at e1
      | succ i =>
        cases j with
        | zero => simp at e2
        | succ j => rw [ih (i := i) (j := j) nd (by simpa using e1) (by simpa using e2)]
    | slot m =>
      have nd' := List.nodup_cons.mp (show (m :: slotsOf l).Nodup from nd)
      cases i with
      | zero =>
        simp at e1
        subst e1
        cases j with
        | zero => rfl
        | succ j => exact absurd (mem_slotsOf (k := j) (by simpa using e2)) nd'.1
      | succ i =>
        cases j with
        | zero =>
          simp at e2
          subst e2
          exact absurd (mem_slotsOf (k := i) (by simpa using e1)) nd'.1
        | succ j => rw [ih (i := i) (j := j) nd'.2 (by simpa using e1) (by simpa using e2)]
theorem rv_at {k j : Nat} {P : List Str} (h : rs[k]? = some (.pl j P)) : (rs.map PV.rv)[k]? = some (.slot j) := by
  rw [List.getElem?_map, h]; rfl
theorem Rep.argsP (r : Rep K T Hs ρ σ H) (ra : pvs K Hs H σ rs vs) (es : svsP ρ rs = some svs) (nd : (slotsP rs).Nodup) : Rep K T Hs svs (vs.map some) H := by
  have hl : svs.length = vs.length := by rw [svsP_len es, pvs_len ra]
  have back : ∀ {k : Nat} {s : SV} {a : Addr}, svs[k]? = some s → OwnAt H s (at? (vs.map some) k) a → ∃ j P S, rs[k]? = some (.pl j P) ∧ ρ[j]? = some S ∧ OwnAt H S (at? σ j) a := fun {k s a} e o => by
    obtain ⟨q, h1, h2⟩ := svsP_get es e
    obtain ⟨v, h3, h4⟩ := pvs_get ra h1
    rw [at_map, h3] at o
    cases q with
    | dat x => cases h2; exact False.elim o
    | pl j P =>
      obtain ⟨S, u, q1, q2, _, _, _, _, q3⟩ := at_place r h4 (sv_pl h2)
      exact ⟨j, P, S, h1, q1, by rw [q2]; exact q3 a o⟩
  refine ⟨r.sub, r.ntb, by simpa using hl, fun k s e => ?_, fun i j a s t e1 e2 o1 o2 => ?_, r.tab⟩
  · obtain ⟨q, h1, h2⟩ := svsP_get es e
    obtain ⟨v, h3, h4⟩ := pvs_get ra h1
    rw [at_map, h3]
    cases q with
    | dat x => cases h2; exact ⟨v, rfl, h4⟩
    | pl j P =>
      obtain ⟨S, u, _, _, _, _, _, q3, _⟩ := at_place r h4 (sv_pl h2)
      exact q3
  · obtain ⟨p, P, S, h1, h2, h3⟩ := back e1 o1
    obtain ⟨q, P', S', h4, h5, h6⟩ := back e2 o2
    have epq := r.dis p q a S S' h2 h5 h3 h6
    subst epq
    exact slot_inj nd (rv_at h1) (rv_at h4)
theorem argsP_own (r : Rep K T Hs ρ σ H) (ra : pvs K Hs H σ rs vs) (es : svsP ρ rs = some svs) {k : Nat} {a : Addr} (o : OwnI H svs (vs.map some) k a) : ∃ j P t v, rs[k]? = some (.pl j P) ∧ vs[k]? = some v ∧ atP ρ j P = some t ∧ OwnAt H t (some v) a ∧ OwnI H ρ σ j a := by
  obtain ⟨s, e, o⟩ := o
  obtain ⟨q, h1, h2⟩ := svsP_get es e
  obtain ⟨v, h3, h4⟩ := pvs_get ra h1
  rw [at_map, h3] at o
  cases q with
  | dat x => cases h2; exact False.elim o
  | pl j P =>
    obtain ⟨S, u, q1, q2, _, _, _, _, q3⟩ := at_place r h4 (sv_pl h2)
    exact ⟨j, P, s, v, h1, h3, sv_pl h2, o, S, q1, by rw [q2]; exact q3 a o⟩
/-- behind a call -/
theorem Rep.afterP (r : Rep K T Hs ρ σ H) (ra : pvs K Hs H σ rs vs) (es : svsP ρ rs = some svs) (nd : (slotsP rs).Nodup) (rc : Rep K T Hs' svs' (vs.map some) H') (gc : Grow svs (vs.map some) Hs H svs' (vs.map some) Hs' H') :
    Rep K T Hs' (wbP rs svs' ρ) σ H' ∧ Grow ρ σ Hs H (wbP rs svs' ρ) σ Hs' H' ∧ ∀ j a, OwnI H' (wbP rs svs' ρ) σ j a → (∃ k, OwnI H' svs' (vs.map some) k a) ∨ OwnI H ρ σ j a := by
  have hlr : rs.length = svs'.length := by
    have h1 := rc.len
    have h2 := pvs_len ra
    rw [List.length_map] at h1; omega
  have noc : ∀ {a : Addr}, ¬ Own H ρ σ a → ¬ Own H svs (vs.map some) a := fun {a} no ⟨k, o⟩ => by
    obtain ⟨j, _, _, _, _, _, _, _, oj⟩ := argsP_own r ra es o
    exact no ⟨j, oj⟩
  -- what no argument owns stands
  have stay : ∀ {a : Addr}, Own H ρ σ a → ¬ Own H svs (vs.map some) a → H' a = H a ∧ Hs' a = none := fun {a} ow nos => by
    obtain ⟨⟨u, hu, nt⟩, hn⟩ := r.owned ow
    refine ⟨by rw [hu]; exact gc.fr a u hu nt nos, ?_⟩
    cases q : Hs' a with
    | none => rfl
    | some z =>
      rcases gc.nw a (by rw [q]; simp) with z | z | z
      · exact absurd hn z
      · obtain ⟨ps, z⟩ := z _ hu; exact absurd z (nt ps)
      · exact absurd z nos
  have out : ∀ {j : Nat} {s : SV} {a : Addr}, j ∉ slotsP rs → ρ[j]? = some s → OwnAt H s (at? σ j) a → H' a = H a ∧ Hs' a = none := fun {j s a} hj e o =>
    stay ⟨j, s, e, o⟩ fun ⟨k, ok⟩ => by
      obtain ⟨i, P, _, _, hi, _, _, _, si, ei, oi⟩ := argsP_own r ra es ok
      have : j = i := r.dis j i a s si e ei o oi
      subst this
      exact hj (mem_slotsOf (rv_at hi))
  have outI : ∀ {j : Nat} {s : SV}, j ∉ slotsP rs → ρ[j]? = some s → ∀ a, OwnAt H' s (at? σ j) a ↔ OwnAt H s (at? σ j) a := fun {j s} hj e a => (r.at_ j s e).own_iff (fun b o => (out hj e o).1) a
  -- an argument's slot
  have inn : ∀ {j : Nat} {u : SV}, j ∈ slotsP rs → (wbP rs svs' ρ)[j]? = some u → SRep K T Hs' H' u (at? σ j) ∧ ∀ a, OwnAt H' u (at? σ j) a → (OwnI H ρ σ j a ∨ Fre H a) ∧ ((∃ k P, rs[k]? = some (.pl j P) ∧ OwnI H' svs' (vs.map some) k a) ∨ OwnI H ρ σ j a) := fun {j u} hj e => by
    have hlj : j < ρ.length := by
      have := (List.getElem?_eq_some_iff.mp e).1
      rw [wbP_len] at this; exact this
    obtain ⟨k, P, s', h1, h2, rfl⟩ := wbP_in rs svs' ρ nd hj hlr (List.getElem?_eq_getElem hlj) e
    obtain ⟨v, h3, h4⟩ := pvs_get ra h1
    have hk : k < svs.length := by rw [svsP_len es]; exact (List.getElem?_eq_some_iff.mp h1).1
    obtain ⟨q, h5, h6⟩ := svsP_get es (List.getElem?_eq_getElem hk)
    rw [h1] at h5; cases h5
    have ea := sv_pl h6
    obtain ⟨S, w, q1, q2, q3, q4, q5, q6, q7⟩ := at_place r h4 ea
    rw [List.getElem?_eq_getElem hlj] at q1; cases q1
    have rn : SRep K T Hs' H' s' (some v) := by
      have := rc.at_ k s' h2
      rw [at_map, h3] at this; exact this
    have own' : ∀ a, OwnAt H' s' (some v) a → OwnAt H svs[k] (some v) a ∨ Fre H a := fun a o => by
      rcases gc.ow k a ⟨s', h2, by rw [at_map, h3]; exact o⟩ with ⟨s0, y1, y2⟩ | z
      · rw [List.getElem?_eq_getElem hk] at y1; cases y1
        rw [at_map, h3] at y2
        exact .inl y2
      · exact .inr z
    obtain ⟨k1, k2⟩ := setP_rep (N := Fre H) (Hs := Hs) (H := H) (Hs' := Hs') (H' := H') gc.sh (fun a n z => r.fre_no n ⟨j, _, List.getElem?_eq_getElem hlj, by rw [q2]; exact z⟩) q3 q4 q5 (fun a o n => stay ⟨j, _, List.getElem?_eq_getElem hlj, by rw [q2]; exact o⟩ fun ⟨m, om⟩ => by
      obtain ⟨i, P', t', v', y1, y2, y3, y4, oi⟩ := argsP_own r ra es om
      obtain ⟨si, ei, oi⟩ := oi
      have : j = i := r.dis j i a _ si (List.getElem?_eq_getElem hlj) ei (by rw [q2]; exact o) oi
      subst this
      have : k = m := slot_inj nd (rv_at h1) (rv_at y1)
      subst this
      rw [h1] at y1; cases y1
      rw [h3] at y2; cases y2
      rw [ea] at y3; cases y3
      exact n y4) rn own'
    refine ⟨by rw [q2]; exact k1, fun a o => ?_⟩
    rw [q2] at o
    have o1 := k2 a o
    refine ⟨o1.imp (fun z => ⟨_, List.getElem?_eq_getElem hlj, by rw [q2]; exact z⟩) id, ?_⟩
    rcases o1 with z | z
    · exact .inr ⟨_, List.getElem?_eq_getElem hlj, by rw [q2]; exact z⟩
    · by_cases hm : OwnAt H' s' (some v) a
      · exact .inl ⟨k, P, h1, s', h2, by rw [at_map, h3]; exact hm⟩
      · exfalso
        -- new, and not of the part that the callee had: it can't be of the rest
        have rest : ∀ {P : List Str} {s t t' : SV} {u w : V}, SRep K T Hs H s (some u) → getP s P = some t → resP H u P = some w → (∀ a, OwnAt H s (some u) a → ¬ OwnAt H t (some w) a → H' a = H a) → ∀ b, OwnAt H' (setP s P t') (some u) b → OwnAt H' t' (some w) b ∨ OwnAt H s (some u) b := by
          intro P
          induction P with
          | nil =>
            intro s t t' u w rs g rv _ b o
            have g : some s = some t := by cases s <;> exact g
            cases g
            have rv : some u = some w := by cases u <;> exact rv
            cases rv
            have e0 : ∀ s : SV, setP s [] t' = t' := fun s => by cases s <;> rfl
            rw [e0] at o
            exact .inl o
          | cons f P ih =>
            intro s t t' u w rs g rv fr b o
            cases s with
            | un => cases g
            | d x => cases g
            | ol x => cases g
            | od x => cases g
            | oo c fs =>
              obtain ⟨p, C, dx, gs, ev, hp, hc, n, np, fre⟩ := rs
              cases ev
              have g : (match fs.get f with
                | some t => getP t P
                | none => none) = some t := g
              have rv : (match H p with
                  | some (.ins _ _ gs) => match gs.lookup f with
                    | some w => resP H w P
                    | none => none
                  | _ => none) = some w := rv
              rw [hp] at rv
              dsimp only at rv
              cases e1 : fs.get f with
              | none => rw [e1] at g; cases g
              | some s1 =>
                rw [e1] at g
                obtain ⟨w1, l1, h1, o1⟩ := frep_get fre e1
                rw [l1] at rv
                dsimp only at rv
                obtain ⟨w2, k1, k2, k3⟩ := getP_rep h1 g
                rw [rv] at k1; cases k1
                have own1 : ∀ a, OwnF H fs gs a → OwnAt H (.oo c fs) (some (.ref p)) a := fun a o => ⟨p, C, dx, gs, rfl, hp, .inr o⟩
                have p1 := fr p ⟨p, C, dx, gs, rfl, hp, .inl rfl⟩ fun y => np (o1 p (k3 p y))
                have es : setP (.oo c fs) (f :: P) t' = .oo c (fs.put f (setP s1 P t')) := by
                  show (match fs.get f with
                    | some s => SV.oo c (fs.put f (setP s P t'))
                    | none => SV.oo c fs) = _
                  rw [e1]
                rw [es] at o
                rw [hp] at p1
                obtain ⟨p', C', dx', gs', e', h', o⟩ := o
                cases e'
                rw [p1] at h'; cases h'
                rcases o with rfl | o
                · exact .inr ⟨b, C, dx, gs, rfl, hp, .inl rfl⟩
                · -- among the fields
                  have fld : ∀ {fs : FS} {gs : List (Str × V)} {x : SV}, FRep K T Hs H fs gs → fs.get f = some s1 → gs.lookup f = some w1 → (∀ a, OwnF H fs gs a → ¬ OwnAt H s1 (some w1) a → H' a = H a) → OwnF H' (fs.put f x) gs b → OwnAt H' x (some w1) b ∨ OwnF H fs gs b := by
                    intro fs
                    exact fs.rec (motive_1 := fun _ => True) (motive_2 := fun fs => ∀ {gs : List (Str × V)} {x : SV}, FRep K T Hs H fs gs → fs.get f = some s1 → gs.lookup f = some w1 → (∀ a, OwnF H fs gs a → ¬ OwnAt H s1 (some w1) a → H' a = H a) → OwnF H' (fs.put f x) gs b → OwnAt H' x (some w1) b ∨ OwnF H fs gs b)
                      trivial (fun _ => trivial) (fun _ => trivial) (fun _ => trivial) (fun _ _ _ => trivial)
                      (fun {gs x} _ g => by cases g)
                      (fun k0 s0 r _ ihr {gs x} fr0 g l frx o => by
                        cases gs with
                        | nil => exact fr0.elim
                        | cons g0 t0 =>
                          obtain ⟨k', w0⟩ := g0
                          obtain ⟨z1, z2, z3, z4⟩ := fr0
                          have z1 : k' = k0 := z1
                          subst z1
                          unfold FS.get at g
                          unfold FS.put at o
                          by_cases hg : k' = f
                          · rw [if_pos hg] at g o
                            cases g
                            subst hg
                            rw [lookup_hit] at l
                            cases l
                            obtain ⟨_, b2⟩ := FRep.mv (H' := H') (Same.refl Hs) z3 fun a o => ⟨frx a (.inr o) fun z => z4 a z o, (FRep.ownedK z3 o).2⟩
                            rcases o with o | o
                            · exact .inl o
                            · exact .inr (.inr ((b2 b).mp o))
                          · rw [if_neg hg] at g o
                            rw [lookup_miss hg] at l
                            obtain ⟨w', y1, y2, y3⟩ := frep_get z3 g
                            rw [l] at y1; cases y1
                            rcases o with o | o
                            · obtain ⟨_, a2⟩ := SRep.mv (H' := H') (Same.refl Hs) z2 fun a o => ⟨frx a (.inl o) fun z => z4 a o (y3 a z), (SRep.ownedK z2 o).2⟩
                              exact .inr (.inl ((a2 b).mp o))
                            · exact (ihr z3 g l (fun a o n => frx a (.inr o) n) o).imp id .inr)
                  rcases fld fre e1 l1 (fun a oa n => fr a (own1 a oa) fun y => n (k3 a y)) o with q | q
                  · exact (ih h1 g rv (fun a oa n => fr a (own1 a (o1 a oa)) n) b q).imp id fun y => own1 b (o1 b y)
                  · exact .inr (own1 b q)
        rcases rest q3 q4 q5 (fun a o n => (stay ⟨j, _, List.getElem?_eq_getElem hlj, by rw [q2]; exact o⟩ fun ⟨m, om⟩ => by
          obtain ⟨i, P', t', v', y1, y2, y3, y4, oi⟩ := argsP_own r ra es om
          obtain ⟨si, ei, oi⟩ := oi
          have : j = i := r.dis j i a _ si (List.getElem?_eq_getElem hlj) ei (by rw [q2]; exact o) oi
          subst this
          have : k = m := slot_inj nd (rv_at h1) (rv_at y1)
          subst this
          rw [h1] at y1; cases y1
          rw [h3] at y2; cases y2
          rw [ea] at y3; cases y3
          exact n y4).1) a o with y | y
        · exact hm y
        · obtain ⟨⟨c, hc, nt⟩, _⟩ := q3.owned y
          obtain ⟨ps, z⟩ := z _ hc; exact nt ps z
  have ownw : ∀ {j : Nat} {s : SV} {a : Addr}, (wbP rs svs' ρ)[j]? = some s → OwnAt H' s (at? σ j) a → OwnI H ρ σ j a ∨ Fre H a := fun {j s a} e o => by
    by_cases hj : j ∈ slotsP rs
    · exact ((inn hj e).2 a o).1
    · rw [wbP_out rs svs' ρ hj] at e
      exact .inl ⟨s, e, (outI hj e a).mp o⟩
  refine ⟨⟨rc.sub, rc.ntb, by rw [wbP_len]; exact r.len, fun j s e => ?_, fun i j a s t e1 e2 o1 o2 => ?_, rc.tab⟩, ⟨fun a o e nt no => gc.fr a o e nt (noc no), gc.dm, gc.sh, fun a e => ?_, fun j a ⟨s, e, o⟩ => ownw e o⟩, fun j a ⟨s, e, o⟩ => ?_⟩
  · by_cases hj : j ∈ slotsP rs
    · exact (inn hj e).1
    · rw [wbP_out rs svs' ρ hj] at e
      exact (r.at_ j s e).move gc.sh fun a o => out hj e o
  · have old : ∀ {i j : Nat} {a : Addr}, OwnI H ρ σ i a → OwnI H ρ σ j a → i = j := fun {i j a} ⟨s, e, o⟩ ⟨t, f, q⟩ => r.dis i j a s t e f o q
    have nf : ∀ {i : Nat} {a : Addr}, OwnI H ρ σ i a → Fre H a → False := fun {i a} ow z => by
      obtain ⟨⟨u, hu, nt⟩, _⟩ := r.owned ⟨i, ow⟩
      obtain ⟨ps, z⟩ := z _ hu; exact nt ps z
    rcases ownw e1 o1 with z1 | z1
    · rcases ownw e2 o2 with z2 | z2
      · exact old z1 z2
      · exact (nf z1 z2).elim
    · rcases ownw e2 o2 with z2 | z2
      · exact (nf z2 z1).elim
      · -- both new: both are arguments' slots
        have arg : ∀ {j : Nat} {u : SV}, (wbP rs svs' ρ)[j]? = some u → OwnAt H' u (at? σ j) a → ∃ k P, rs[k]? = some (.pl j P) ∧ OwnI H' svs' (vs.map some) k a := fun {j u} e o => by
          by_cases hj : j ∈ slotsP rs
          · rcases ((inn hj e).2 a o).2 with y | y
            · exact y
            · exact (nf y z1).elim
          · rw [wbP_out rs svs' ρ hj] at e
            exact (nf ⟨u, e, (outI hj e a).mp o⟩ z1).elim
        obtain ⟨k, P, h1, s', q1, q2⟩ := arg e1 o1
        obtain ⟨m, P', h2, t', p1, p2⟩ := arg e2 o2
        have := rc.dis k m a s' t' q1 p1 q2 p2
        subst this
        rw [h1] at h2; cases h2; rfl
  · rcases gc.nw a e with z | z | ⟨k, z⟩
    · exact .inl z
    · exact .inr (.inl z)
    · obtain ⟨j, _, _, _, _, _, _, _, oj⟩ := argsP_own r ra es z
      exact .inr (.inr ⟨j, oj⟩)
  · by_cases hj : j ∈ slotsP rs
    · exact ((inn hj e).2 a o).2.imp (fun ⟨k, P, _, q⟩ => ⟨k, q⟩) id
    · rw [wbP_out rs svs' ρ hj] at e
      exact .inr ⟨s, e, (outI hj e a).mp o⟩
end
end DS
end
section
set_option Elab.async false
set_option linter.all false
set_option maxRecDepth 100000
set_option maxHeartbeats 4000000
/-! DsZa: rules for calls over places, methods, new instances, fields -/
namespace DS
open PySem PySem.Spec PyProof.Rows L2
section
variable {T : Tbs} {X : Cx} {W : WX} {F : FnSem} {K : PySem.W.Frag} {mg : Str → Option Value} {σ : L2.St} {Hs H : Hp} {ρ : Rho} {α : Type} {kd : Kd α V} {h : RO → M α}
/-- what is not reached needs no rule -/
theorem ss_bad {g : Sg} {st : Stmt} : SimS T g X W st bad := ⟨fun pins s σ H D I ⟨ρ, Hs, rp, p⟩ => False.elim p⟩
theorem sb_bad {g : Sg} {st : List Stmt} : SimB T g X W st bad := ⟨fun pins s σ H D I ⟨ρ, Hs, rp, p⟩ => False.elim p⟩
theorem sim_bad {e : Expr} : SimE T X W e bad := ⟨fun pins s σ H Q I ⟨ρ, Hs, rp, p⟩ => False.elim p⟩
theorem so_bad {e : Expr} : SimO T X W e bad := ⟨fun pins s σ H Q I ⟨ρ, Hs, rp, p⟩ => False.elim p⟩
theorem st_bad {e : Expr} : SimT T X W e bad := ⟨fun pins s σ H Q I ⟨ρ, Hs, rp, p⟩ => False.elim p⟩
def pBad : Pm := fun _ => none
theorem sp_bad {e : Expr} : SimP T X e pBad := ⟨fun pins s σ H Q I ⟨ρ, Hs, a, rp, p, _⟩ => by cases p⟩
theorem callP_end {rs : List PV} {vs : List V} {Q : V → Hp → Prop} (rp : Rep K T Hs ρ σ H) (ra : pvs K Hs H σ rs vs) (p : Post K T mg W kd ρ σ Hs H ((bnd (callP F rs) h) ρ) Q)
    (hk : ∀ ro ρ' Hs' H' v, Rep K T Hs' ρ' σ H' → Grow ρ σ Hs H ρ' σ Hs' H' → (∀ a, RONew H' ro v a → Fre H a) → (∀ s, ro = .new s → SRep K T Hs' H' s (some v) ∧ ∀ a, OwnAt H' s (some v) a → ¬ Own H' ρ' σ a) → (∀ x, ro = .dat x → Dp K Hs' v x) → Post K T mg W kd ρ σ Hs H (h ro ρ') Q → Q v H') :
    spG K T mg F vs H Q (WE W σ) := by
  unfold DS.bnd callP at p
  cases es : svsP ρ rs with
  | none => rw [es] at p; exact p.elim
  | some svs =>
    rw [es] at p
    dsimp only at p
    by_cases nd : (slotsP rs).Nodup
    · rw [if_pos nd] at p
      refine ⟨svs, Hs, rp.argsP ra es nd, ?_⟩
      cases ef : F svs with
      | bad => rw [ef] at p; exact p.elim
      | er e svs' =>
        rw [ef] at p
        intro cls dd H' Hs' rc gc er
        obtain ⟨r2, g2, g3⟩ := rp.afterP ra es nd rc gc
        exact p cls dd H' Hs' r2 g2 er
      | ok ro svs' =>
        rw [ef] at p
        intro v H' Hs' rc gc rr nw
        obtain ⟨r2, g2, g3⟩ := rp.afterP ra es nd rc gc
        refine hk ro _ Hs' H' v r2 g2 nw (fun s e => ?_) (fun x e => ?_) p
        · subst e
          refine ⟨rr.1, fun a oa ow => ?_⟩
          obtain ⟨j, oj⟩ := ow
          rcases g3 j a oj with ow | ow
          · exact rr.2 a oa ow
          · obtain ⟨⟨u, hu, nt⟩, _⟩ := rp.owned ⟨j, ow⟩
            obtain ⟨ps, z⟩ := nw a oa _ hu
            exact nt ps z
        · subst e; exact rr
    · rw [if_neg nd] at p; exact p.elim
/-- what the caller makes of what is handed back -/
def EndR (K : PySem.W.Frag) (T : Tbs) (mg : Str → Option Value) (W : WX) {α : Type} (kd : Kd α V) (h : RO → M α) : Prop := ∀ (σ : L2.St) (Hs H : Hp) (ρ ρ' : Rho) (Hs' H' : Hp) (v : V) (ro : RO) (Q : VK), Rep K T Hs' ρ' σ H' → Grow ρ σ Hs H ρ' σ Hs' H' → (∀ a, RONew H' ro v a → Fre H a) → (∀ s, ro = .new s → SRep K T Hs' H' s (some v) ∧ ∀ a, OwnAt H' s (some v) a → ¬ Own H' ρ' σ a) → (∀ x, ro = .dat x → Dp K Hs' v x) → Post K T mg W kd ρ σ Hs H (h ro ρ') Q → Q v H'
theorem endR_D : EndR K T mg W (kE K) roD := fun σ Hs H ρ ρ' Hs' H' v ro Q r g nw hn hd p => by
  cases ro with
  | dat x => exact p v H' Hs' r g (hd x rfl) fun _ z => z.elim
  | new s =>
    cases s with
    | un => exact p.elim
    | d x => exact p.elim
    | od x => exact p.elim
    | oo c fs => exact p.elim
    | ol xs =>
      obtain ⟨⟨q, us, e1, e2, e3, e4⟩, no⟩ := hn _ rfl
      cases e1
      have no' : ¬ Own H' ρ' σ q := no q rfl
      have n0 : Fre H q := nw q rfl
      refine p _ H' _ (r.share e2 e4 no') (g.share n0 e4) ?_ fun _ z => z.elim
      exact Dp.lst (SqL.of upd_same) (dpAll_mono (same_upd e4) e3)
theorem endR_O : EndR K T mg W (kO K T) roO := fun σ Hs H ρ ρ' Hs' H' v ro Q r g nw hn hd p => by
  cases ro with
  | dat x => exact p.elim
  | new s => exact p v H' Hs' r g (hn s rfl) nw
def mCallPG {α : Type} (h : RO → M α) (F : FnSem) (ps : Pms) : M α := fun ρ => match ps ρ with
  | some rs => (bnd (callP F rs) h) ρ
  | none => .bad
theorem tcallP {ps : Pms} {Q : VK} (he : EndR X.K T X.mg W kd h) (q : tM X.K T X.mg W kd (mCallPG h F ps) σ H Q) : tCallG T X W F (tPs X.K T ps) σ H Q := by
  obtain ⟨ρ, Hs, rp, p⟩ := q
  unfold mCallPG at p
  cases e1 : ps ρ with
  | none => rw [e1] at p; exact p.elim
  | some rs =>
    rw [e1] at p
    refine ⟨ρ, Hs, rs, rp, e1, fun vs H1 Hs1 x1 r1 => ?_⟩
    obtain ⟨rp1, g1⟩ := x1.rep rp
    exact callP_end rp1 r1 (Post.grow (r := (bnd (callP F rs) h) ρ) p g1) fun ro ρ' Hs' H' v a b c d e f => he σ Hs1 H1 ρ ρ' Hs' H' v ro Q a b c d e f
def mCallP (F : FnSem) (ps : Pms) : M RV := mCallPG roD F ps
def mCallPO (F : FnSem) (ps : Pms) : M SV := mCallPG roO F ps
theorem sim_callP {ps : Pms} {e : Expr} (h : PE X e (tCallG T X W F (tPs X.K T ps))) : SimE T X W e (mCallP F ps) := pe_imp h fun σ H Q q => tcallP (kd := kE X.K) (h := roD) endR_D q
theorem so_callP {ps : Pms} {e : Expr} (h : PE X e (tCallG T X W F (tPs X.K T ps))) : SimO T X W e (mCallPO F ps) := pe_imp h fun σ H Q q => tcallP (kd := kO X.K T) (h := roO) endR_O q
end
/-! methods -/
/-- what stands behind a method's name in a class -/
structure MethOk (P : Program) (w : World) (K : PySem.W.Frag) (mg : Str → Option Value) (base : Heap) (T : Tbs) (gd : Bool) (k : Nat) (m c : Str) (F : FnSem) (ps : List Str) : Prop where
  ex : ∃ (C f : Addr) (fd : FuncData), T.cl c = some C ∧ Cls K C ∧ Meth K C m f ∧ FnS P w K mg base T gd k f fd ps F ∧ Binds K fd ps []
section
variable {T : Tbs} {X : Cx} {W : WX} {m : Str} {o e : Expr} {es : List Expr} {apos pos : Pos} {gd : Bool} {k : Nat} {ps : List Str} {disp : List (Str × FnSem)} {po : Pm} {pa : Pms} {mr : M (List RV)} {to : TE} {t : TA}
/-- o.m(..): the class tells the def -/
def tMethD (T : Tbs) (X : Cx) (W : WX) (m : Str) (disp : List (Str × FnSem)) (to : TE) (t : TA) : TE := fun σ H Q => to σ H fun x H1 => ∃ a C dx fs c F, x = .ref a ∧ H1 a = some (.ins C dx fs) ∧ (c, F) ∈ disp ∧ T.cl c = some C ∧ fs.lookup m = none ∧
  t σ H1 fun vs H2 => spG X.K T X.mg F (.ref a :: vs) H2 Q (WE W σ)
theorem pe_methD {pl : Sem Bool} (he : PE X o to) (hd : ∀ c F, (c, F) ∈ disp → MethOk X.prog X.w X.K X.mg X.base T gd k m c F ps) (hg : gd = true → X.A.guards = some []) (hr : Room k X.A) (tk : Takes X W) (ha : PA X (e :: es) t)
    (hst : starEach (e :: es) X.env = (false, eval e X.env) :: starEach es X.env := by rfl) (hpl : (backTo pos (starEach es X.env)).any (·.1) = false := by rfl)
    (ht : eval (.Call (.Attribute o m apos) (e :: es) [] pos) X.env = (do
      let ov ← eval o X.env
      standAt apos.atName
      let (f, first) ← holding [ov] (getMethod ov m pl)
      callWith pos f first (backTo pos (starEach (e :: es) X.env)) (backToKw pos (keywordEach [] X.env))) := by rfl) :
    PE X (.Call (.Attribute o m apos) (e :: es) [] pos) (tMethD T X W m disp to t) := by
  refine ⟨fun pins s σ H Q I h => ?_⟩
  refine PySem.W.methodCall_KW (pl := pl) (thn (he.run pins s σ H _ I h) fun u s1 ⟨x, H1, I1, rx, a, C, dx, fs, c, F, ex, ea, mem, cl, l, q⟩ => ?_) ht
  subst ex
  obtain rfl : u = Value.ref a := rx
  obtain ⟨C', f, fd, cl', c1, hm, G, hb⟩ := (hd c F mem).ex
  rw [cl] at cl'; cases cl'
  refine getmeth_ok I1 ea c1 hm l ?_
  refine PySem.W.callWith_K (first := [.ref a]) (h₀ := X.base) I.ok.mod.kin hm.kp (thn (ha.run pos pins s1 σ H1 _ I1 q) fun us s2 ⟨vs, H2, I2, r, q2⟩ => ⟨I2.kIn, ?_⟩) hst hpl
  refine run_ds (args := ⟨.ref a :: us, []⟩) (us := .ref a :: us) (vs := .ref a :: vs) G hg hr tk I2 (fun hl => ?_) (.cons rfl r) q2
  have b := hb s2 (.ref a :: us) I2.kIn (by rw [List.append_nil]; exact hl)
  rw [List.append_nil] at b
  exact b
theorem pe_methD0 {pl : Sem Bool} (he : PE X o to) (hd : ∀ c F, (c, F) ∈ disp → MethOk X.prog X.w X.K X.mg X.base T gd k m c F ps) (hg : gd = true → X.A.guards = some []) (hr : Room k X.A) (tk : Takes X W)
    (ht : eval (.Call (.Attribute o m apos) [] [] pos) X.env = (do
      let ov ← eval o X.env
      standAt apos.atName
      let (f, first) ← holding [ov] (getMethod ov m pl)
      callWith pos f first (backTo pos (starEach [] X.env)) (backToKw pos (keywordEach [] X.env))) := by rfl) :
    PE X (.Call (.Attribute o m apos) [] [] pos) (tMethD T X W m disp to tNil) := by
  refine ⟨fun pins s σ H Q I h => ?_⟩
  refine PySem.W.methodCall_KW (pl := pl) (thn (he.run pins s σ H _ I h) fun u s1 ⟨x, H1, I1, rx, a, C, dx, fs, c, F, ex, ea, mem, cl, l, q⟩ => ?_) ht
  subst ex
  obtain rfl : u = Value.ref a := rx
  obtain ⟨C', f, fd, cl', c1, hm, G, hb⟩ := (hd c F mem).ex
  rw [cl] at cl'; cases cl'
  refine getmeth_ok I1 ea c1 hm l ?_
  refine PySem.W.callWith_K0 (first := [.ref a]) I1.kIn hm.kp ?_
  exact run_ds (args := ⟨[.ref a], []⟩) (us := [.ref a]) (vs := [.ref a]) G hg hr tk I1 (fun hl => hb s1 [.ref a] I1.kIn hl) (.cons rfl .nil) q
/-- the receiver and the arguments change nothing -/
def methP {α : Type} (h : RO → M α) (m : Str) (disp : List (Str × FnSem)) (r : PV) (rs : List PV) : M α := fun ρ => match r with
  | .pl i P => match atP ρ i P with
    | some (.oo c fs) => match disp.lookup c, fs.get m with
      | some F, none => (bnd (callP F (.pl i P :: rs)) h) ρ
      | _, _ => .bad
    | _ => .bad
  | .dat _ => .bad
def mMethPG {α : Type} (h : RO → M α) (m : Str) (disp : List (Str × FnSem)) (po : Pm) (pa : Pms) : M α := fun ρ => match po ρ, pa ρ with
  | some r, some rs => methP h m disp r rs ρ
  | _, _ => .bad
theorem mem_of_lookup {α : Type} {c : Str} {F : α} : ∀ {l : List (Str × α)}, l.lookup c = some F → (c, F) ∈ l
  | [], e => by cases e
  | (k, G) :: r, e => by
    unfold List.lookup at e
    cases hb : (c == k) with
    | true =>
      rw [hb] at e
      cases e
      rw [beq_iff_eq.mp hb]; exact .head _
    | false =>
      rw [hb] at e
      exact .tail _ (mem_of_lookup e)
theorem tmethP {α : Type} {kd : Kd α V} {h : RO → M α} {σ : L2.St} {H : Hp} {Q : VK} (hc : ∀ c F, (c, F) ∈ disp → (T.cl c).isSome = true) (he : EndR X.K T X.mg W kd h) (q : tM X.K T X.mg W kd (mMethPG h m disp po pa) σ H Q) : tMethD T X W m disp (tP X.K T po) (tPs X.K T pa) σ H Q := by
  obtain ⟨ρ, Hs, rp, p⟩ := q
  unfold mMethPG at p
  cases e1 : po ρ with
  | none => rw [e1] at p; exact p.elim
  | some r =>
    cases e2 : pa ρ with
    | none => rw [e1, e2] at p; exact p.elim
    | some rs =>
      rw [e1, e2] at p
      have p : Post X.K T X.mg W kd ρ σ Hs H (methP h m disp r rs ρ) Q := p
      unfold methP at p
      cases r with
      | dat x => exact p.elim
      | pl i P =>
        dsimp only at p
        cases e3 : atP ρ i P with
        | none => rw [e3] at p; exact p.elim
        | some t =>
          rw [e3] at p
          cases t with
          | oo c fs =>
            dsimp only at p
            cases e4 : disp.lookup c with
            | none => rw [e4] at p; exact p.elim
            | some F =>
              cases e5 : fs.get m with
              | some _ => rw [e4, e5] at p; exact p.elim
              | none =>
                rw [e4, e5] at p
                dsimp only at p
                refine ⟨ρ, Hs, .pl i P, rp, e1, fun v H1 Hs1 x1 r1 => ?_⟩
                obtain ⟨rp1, g1⟩ := x1.rep rp
                obtain ⟨s, u, _, _, _, _, _, rt, _⟩ := at_place rp1 r1 e3
                obtain ⟨b, C, dx, gs, ev, hb, cl, _, _, fr⟩ := rt
                cases ev
                refine ⟨b, C, dx, gs, c, F, rfl, hb, mem_of_lookup e4, cl, frep_none fr e5, ρ, Hs1, rs, rp1, e2, fun vs H2 Hs2 x2 r2 => ?_⟩
                obtain ⟨rp2, g2⟩ := x2.rep rp1
                exact callP_end (rs := .pl i P :: rs) (vs := .ref b :: vs) rp2 ⟨pv_ext r1 x2 rp1, r2⟩ (Post.grow (r := (bnd (callP F (.pl i P :: rs)) h) ρ) p (g1.trans g2)) fun ro ρ' Hs' H' v a b c d e f => he σ Hs2 H2 ρ ρ' Hs' H' v ro Q a b c d e f
          | _ => exact p.elim
def mMethP (m : Str) (disp : List (Str × FnSem)) (po : Pm) (pa : Pms) : M RV := mMethPG roD m disp po pa
def mMethPO (m : Str) (disp : List (Str × FnSem)) (po : Pm) (pa : Pms) : M SV := mMethPG roO m disp po pa
end
end DS
end
section
set_option Elab.async false
set_option linter.all false
set_option maxRecDepth 100000
set_option maxHeartbeats 4000000
/-! DsZb: new instances; stores to fields -/
namespace DS
open PySem PySem.Spec PyProof.Rows L2
section
variable {K : PySem.W.Frag} {T : Tbs} {mg : Str → Option Value} {Hs H Hs' H' : Hp} {ρ ρ' svs svs' : Rho} {σ σ' : L2.St} {vs : List V} {s s' : SV} {v : V}
/-- one slot more ahead -/
theorem Rep.consOwn (r : Rep K T Hs ρ σ H) (rs : SRep K T Hs H s (some v)) (no : ∀ a, OwnAt H s (some v) a → ¬ Own H ρ σ a) : Rep K T Hs (s :: ρ) (some v :: σ) H := by
  refine ⟨r.sub, r.ntb, by simpa using r.len, fun i t e => ?_, fun i j a t u e1 e2 o1 o2 => ?_, r.tab⟩
  · cases i with
    | zero => simp at e; subst e; exact rs
    | succ i => exact r.at_ i t (by simpa using e)
  · cases i with
    | zero =>
      cases j with
      | zero => rfl
      | succ j =>
        simp at e1; subst e1
        exact absurd ⟨j, u, by simpa using e2, o2⟩ (no a o1)
    | succ i =>
      cases j with
      | zero =>
        simp at e2; subst e2
        exact absurd ⟨i, t, by simpa using e1, o1⟩ (no a o2)
      | succ j => rw [r.dis i j a t u (by simpa using e1) (by simpa using e2) o1 o2]
theorem Rep.tail (r : Rep K T Hs (s :: ρ) (some v :: σ) H) : Rep K T Hs ρ σ H ∧ SRep K T Hs H s (some v) ∧ ∀ a, OwnAt H s (some v) a → ¬ Own H ρ σ a := by
  refine ⟨⟨r.sub, r.ntb, by simpa using r.len, fun i t e => r.at_ (i + 1) t (by simpa using e), fun i j a t u e1 e2 o1 o2 => ?_, r.tab⟩, r.at_ 0 s rfl, fun a o ⟨i, t, e, q⟩ => ?_⟩
  · have := r.dis (i + 1) (j + 1) a t u (by simpa using e1) (by simpa using e2) o1 o2
    omega
  · have := r.dis 0 (i + 1) a s t rfl (by simpa using e) o q
    omega
/-- what a new instance's __init__ leaves -/
theorem init_end {x dx C : Addr} {c : Str} (r : Rep K T Hs svs (vs.map some) H) (hx : H x = none) (hd : H dx = none) (ne : dx ≠ x) (cl : T.cl c = some C) :
    Rep K T Hs (.oo c .nil :: svs) ((V.ref x :: vs).map some) (upd (upd H dx (.own x)) x (.ins C dx [])) ∧
    ∀ {Hs' H' : Hp} {s' : SV} {svs' : Rho}, Rep K T Hs' (s' :: svs') ((V.ref x :: vs).map some) H' → Grow (.oo c .nil :: svs) ((V.ref x :: vs).map some) Hs (upd (upd H dx (.own x)) x (.ins C dx [])) (s' :: svs') ((V.ref x :: vs).map some) Hs' H' →
      Rep K T Hs' svs' (vs.map some) H' ∧ Grow svs (vs.map some) Hs H svs' (vs.map some) Hs' H' ∧ SRep K T Hs' H' s' (some (.ref x)) ∧ (∀ a, OwnAt H' s' (some (.ref x)) a → ¬ Own H' svs' (vs.map some) a) ∧ ∀ a, OwnAt H' s' (some (.ref x)) a → Fre H a := by
  have hx1 : upd H dx (.own x) x = none := by rw [upd_ne (Ne.symm ne)]; exact hx
  have r1 := r.beside (o := .own x) hd
  have g1 := Grow.beside r (o := .own x) hd
  have r2 := r1.beside (o := .ins C dx []) hx1
  have g2 := g1.trans (Grow.beside r1 (o := .ins C dx []) hx1)
  have hxs : Hs x = none := none_of_same r.sub hx
  have sx : SRep K T Hs (upd (upd H dx (.own x)) x (.ins C dx [])) (.oo c .nil) (some (.ref x)) := ⟨x, C, dx, [], rfl, upd_same, cl, hxs, fun z => z, trivial⟩
  have ox : ∀ a, OwnAt (upd (upd H dx (.own x)) x (.ins C dx [])) (.oo c .nil) (some (.ref x)) a → a = x := fun a ⟨p, C', dx', gs, e, _, o⟩ => by
    cases e
    rcases o with o | o
    · exact o
    · exact False.elim o
  have nx : ∀ a, Own (upd (upd H dx (.own x)) x (.ins C dx [])) svs (vs.map some) a → Own H svs (vs.map some) a := fun a ⟨i, o⟩ => ⟨i, (r.own_upd hd i a).mp ((r1.own_upd hx1 i a).mp o)⟩
  have nox : ∀ a, OwnAt (upd (upd H dx (.own x)) x (.ins C dx [])) (.oo c .nil) (some (.ref x)) a → ¬ Own (upd (upd H dx (.own x)) x (.ins C dx [])) svs (vs.map some) a := fun a o ow => by
    rw [ox a o] at ow
    obtain ⟨⟨u, hu, _⟩, _⟩ := r.owned (nx x ow)
    rw [hx] at hu; cases hu
  refine ⟨r2.consOwn sx nox, fun {Hs' H' s' svs'} rc gc => ?_⟩
  obtain ⟨t1, t2, t3⟩ := rc.tail
  have own0 : ∀ a, Own (upd (upd H dx (.own x)) x (.ins C dx [])) (.oo c .nil :: svs) ((V.ref x :: vs).map some) a → a = x ∨ Own H svs (vs.map some) a := fun a ⟨i, t, e, o⟩ => by
    cases i with
    | zero => simp at e; subst e; exact .inl (ox a o)
    | succ i => exact .inr (nx a ⟨i, t, by simpa using e, o⟩)
  have dm2 : ∀ a, Fre (upd (upd H dx (.own x)) x (.ins C dx [])) a → Fre H a := g2.dm
  refine ⟨t1, ⟨fun a o e nt no => ?_, fun a q => dm2 a (gc.dm a q), gc.sh, fun a e => ?_, fun i a o => ?_⟩, t2, t3, fun a o => ?_⟩
  · refine gc.fr a o (g2.fr a o e nt no) nt fun z => ?_
    rcases own0 a z with y | y
    · rw [y, hx] at e; cases e
    · exact no y
  · rcases gc.nw a e with z | z | z
    · exact .inl z
    · exact .inr (.inl (dm2 a z))
    · rcases own0 a z with y | y
      · rw [y]; exact .inr (.inl (fre_none hx))
      · exact .inr (.inr y)
  · obtain ⟨t, e, q⟩ := o
    rcases gc.ow (i + 1) a ⟨t, by simpa using e, q⟩ with ⟨t0, e0, q0⟩ | z
    · exact .inl ((r.own_upd hd i a).mp ((r1.own_upd hx1 i a).mp ⟨t0, by simpa using e0, q0⟩))
    · exact .inr (dm2 a z)
  · rcases gc.ow 0 a ⟨s', rfl, o⟩ with ⟨t0, e0, q0⟩ | z
    · simp at e0; subst e0
      rw [ox a q0]; exact fre_none hx
    · exact dm2 a z
end
/-- how the arguments of C(..) come to __init__ (ds: the defaults) -/
def MkB (K : PySem.W.Frag) (fd : FuncData) (ps ks : List Str) (np : Nat) (idx : List Nat) (ds : List Value) : Prop := ∀ (s : Shared) (self : Value) (us ws : List Value), K.In s.heap → us.length = np → ws.length = ks.length → BindsTo s fd ⟨self :: us, ks.zip ws⟩ (ps.zip (self :: pickL idx (us ++ ws ++ ds)))
/-- a class that is made: its __init__ and what that does -/
structure MakeOk (P : Program) (w : World) (K : PySem.W.Frag) (mg : Str → Option Value) (base : Heap) (T : Tbs) (k : Nat) (c : Str) (C : Addr) (F : FnSem) (ps ks : List Str) (np : Nat) (idx : List Nat) (dxs : List PyData) : Prop where
  cl : T.cl c = some C
  ex : ∃ (f : Addr) (fd : FuncData) (ds : List Value) (dvs : List V), Mk K C f ∧ FnS P w K mg base T false k f fd ps F ∧ MkB K fd ps ks np idx ds ∧ Vals dvs ds ∧ ∀ Hs, DpAll K Hs dvs dxs
def makeD (c : Str) (F : FnSem) (rs : List RV) : M SV := fun ρ => match svsOf ρ rs with
  | some svs => if (slotsOf rs).Nodup then match F (.oo c .nil :: svs) with
      | .ok (.dat .none) (s :: svs') => .ok s (wb rs svs' ρ)
      | .er e (_ :: svs') => .er e (wb rs svs' ρ)
      | _ => .bad
    else .bad
  | none => .bad
def mMake (c : Str) (F : FnSem) (np nk : Nat) (idx : List Nat) (dxs : List PyData) (mr mk : M (List RV)) : M SV := bnd mr fun rs => bnd mk fun zs => if rs.length = np ∧ zs.length = nk then makeD c F (pickL idx (rs ++ zs ++ dxs.map .dat)) else bad
section
variable {T : Tbs} {X : Cx} {W : WX} {c x : Str} {C : Addr} {F : FnSem} {k np : Nat} {ps ks : List Str} {idx : List Nat} {dxs : List PyData} {p pos : Pos} {e : Expr} {es : List Expr} {kws : List Keyword} {t tk : TA} {mr mk : M (List RV)}
/-- what a call of a class asks -/
def tMk (X : Cx) (T : Tbs) (W : WX) (C : Addr) (F : FnSem) (vs : List V) : L2.St → Hp → VK → Prop := fun σ H Q => ∀ x dx, H x = none → H dx = none → dx ≠ x → spG X.K T X.mg F (.ref x :: vs) (upd (upd H dx (.own x)) x (.ins C dx [])) (fun v H2 => v = .non ∧ Q (.ref x) H2) (WE W σ)
theorem run_makeD {f : Addr} {fd : FuncData} {pins : List (Addr × Obj)} {σ : L2.St} {H : Hp} {s : Shared} {Q : VK} {us us' : List Value} {kv : List (Str × Value)} {vs : List V} (M : Mk X.K C f) (G : FnS X.prog X.w X.K X.mg X.base T false k f fd ps F) (hr : Room (k + 1) X.A) (tk : Takes X W)
    (I : Inv X pins σ H s) (hb : ∀ (s : Shared) (self : Value), X.K.In s.heap → BindsTo s fd ⟨self :: us, kv⟩ (ps.zip (self :: us'))) (r : Vals vs us') (h : tMk X T W C F vs σ H Q) :
    wpAny (model X.prog X.w) X.A (call (.ref C) us kv) (EP X pins σ Q) X.xe s := by
  have hq := h (s.heap.objs.size + 1) s.heap.objs.size (I.hok.fresh (Nat.le_succ _)) (I.hok.fresh (Nat.le_refl _)) (Nat.ne_of_lt (Nat.lt_succ_self _))
  have I2 := Inv.made (C := C) I
  have r1 : Vals (V.ref (s.heap.objs.size + 1) :: vs) (Value.ref (s.heap.objs.size + 1) :: us') := .cons rfl r
  refine wpAny_call (make_map (f := f) I.kIn M.makes M.init (beq_iff_eq.mp M.fn) (codeAny_mono (G.run _ X.stack _ _ ⟨Value.ref (s.heap.objs.size + 1) :: us, kv⟩ (Value.ref (s.heap.objs.size + 1) :: us') _ _ (WE W σ) (fun z => nomatch z) (hr.make C us kv)
    (I2.env0.make C us kv) (hb _ _ I2.kIn) r1 hq) fun r s' hq' => ?_))
  cases r with
  | error e => exact passAt tk σ pins _ _ e s' I2 hq'
  | ok fl =>
    cases fl with
    | ret u =>
      obtain ⟨v, H', I3, rv, ev, q3⟩ := I2.after hq'
      subst ev
      exact ⟨rv, ⟨V.ref (s.heap.objs.size + 1), H', I3, rfl, q3⟩⟩
    | next => exact False.elim hq'
    | brk => exact False.elim hq'
    | cont => exact False.elim hq'
def tMakeD (X : Cx) (T : Tbs) (W : WX) (C : Addr) (F : FnSem) (np nk : Nat) (idx : List Nat) (dxs : List PyData) (t tk : TA) : TE := fun σ H Q => t σ H fun vs H1 => tk σ H1 fun zs H2 => vs.length = np ∧ zs.length = nk ∧
  ∀ dvs, (∀ Hs, DpAll X.K Hs dvs dxs) → tMk X T W C F (pickL idx (vs ++ zs ++ dvs)) σ H2 Q
theorem pe_makeD (M : MakeOk X.prog X.w X.K X.mg X.base T k c C F ps ks np idx dxs) (hr : Room (k + 1) X.A) (tk' : Takes X W) (hg : Gl X x) (hm : X.mg x = some (.ref C))
    (ha : PA X (e :: es) t) (hkw : PK X kws tk) (hall : (backToKw pos (keywordEach kws X.env)).all (·.1.isSome) = true := by rfl) (hks : (backToKw pos (keywordEach kws X.env)).filterMap (·.1) = ks := by rfl)
    (hdb : (x == ("__debug__" : Str)) = false := by decide) (he : starEach (e :: es) X.env = (false, eval e X.env) :: starEach es X.env := by rfl)
    (hpl : ((backTo pos (starEach (e :: es) X.env)).any (·.1) || (backToKw pos (keywordEach kws X.env)).any (·.1.isNone)) = false := by rfl) :
    PE X (.Call (.Name x p) (e :: es) kws pos) (tMakeD X T W C F np ks.length idx dxs t tk) := by
  refine ⟨fun pins s σ H Q I h => ?_⟩
  obtain ⟨f, fd, ds, dvs, M1, G, mb, vd, dd⟩ := M.ex
  refine wpAny_Call_Name_kw (ld_glob I hg hm ?_ hdb)
  refine PySem.W.callWith_KW (h₀ := X.base) I.ok.mod.kin M1.kp hall (thn (ha.run pos pins s σ H _ I h) fun us s1 ⟨vs, H1, I1, r, q⟩ => ?_) hpl he
  refine thn (hkw.run pos pins s1 σ H1 _ I1 q) fun ws s2 ⟨zs, H2, I2, rz, n1, n2, q2⟩ => ⟨I2.kIn, ?_⟩
  rw [hks]
  exact run_makeD (us' := pickL idx (us ++ ws ++ ds)) (vs := pickL idx (vs ++ zs ++ dvs)) M1 G hr tk' I2 (fun s self X => mb s self us ws X (by rw [← r.length]; exact n1) (by rw [← rz.length]; exact n2)) (pick_vals ((r.append rz).append vd) idx) (q2 dvs dd)
theorem pe_makeD0 (M : MakeOk X.prog X.w X.K X.mg X.base T k c C F ps ks 0 idx dxs) (hr : Room (k + 1) X.A) (tk' : Takes X W) (hg : Gl X x) (hm : X.mg x = some (.ref C))
    (hkw : PK X kws tk) (hall : (backToKw pos (keywordEach kws X.env)).all (·.1.isSome) = true := by rfl) (hks : (backToKw pos (keywordEach kws X.env)).filterMap (·.1) = ks := by rfl)
    (hdb : (x == ("__debug__" : Str)) = false := by decide)
    (hpl : ((backTo pos (starEach [] X.env)).any (·.1) || (backToKw pos (keywordEach kws X.env)).any (·.1.isNone)) = false := by rfl) :
    PE X (.Call (.Name x p) [] kws pos) (tMakeD X T W C F 0 ks.length idx dxs tNil tk) := by
  refine ⟨fun pins s σ H Q I h => ?_⟩
  obtain ⟨f, fd, ds, dvs, M1, G, mb, vd, dd⟩ := M.ex
  refine wpAny_Call_Name_kw (ld_glob I hg hm ?_ hdb)
  refine PySem.W.callWith_KW0 (h₀ := X.base) I.ok.mod.kin M1.kp hall (thn (hkw.run pos pins s σ H _ I h) fun ws s2 ⟨zs, H2, I2, rz, n1, n2, q2⟩ => ⟨I2.kIn, ?_⟩) hpl
  rw [hks]
  exact run_makeD (us' := pickL idx ([] ++ ws ++ ds)) (vs := pickL idx ([] ++ zs ++ dvs)) M1 G hr tk' I2 (fun s self X => mb s self [] ws X rfl (by rw [← rz.length]; exact n2)) (pick_vals (vs := [] ++ zs ++ dvs) (rz.append vd) idx) (q2 dvs dd)
theorem aA_dats {K : PySem.W.Frag} {Hs : Hp} {σ : L2.St} : ∀ {dvs : List V} {dxs : List PyData}, DpAll K Hs dvs dxs → aA K Hs σ (dxs.map .dat) dvs
  | _, _, .nil => trivial
  | _, _, .cons a b => ⟨a, aA_dats b⟩
theorem makeD_end {σ : L2.St} {Hs H : Hp} {ρ : Rho} {rs : List RV} {vs : List V} {Q : VK} (cl : T.cl c = some C) (rp : Rep X.K T Hs ρ σ H) (ra : aA X.K Hs σ rs vs) (p : Post X.K T X.mg W (kO X.K T) ρ σ Hs H (makeD c F rs ρ) Q) : tMk X T W C F vs σ H Q := by
  intro x dx hx hd ne
  unfold makeD at p
  cases es : svsOf ρ rs with
  | none => rw [es] at p; exact p.elim
  | some svs =>
    rw [es] at p
    dsimp only at p
    by_cases nd : (slotsOf rs).Nodup
    · rw [if_pos nd] at p
      have ra2 := rp.args ra es nd
      obtain ⟨ri, fin⟩ := init_end (x := x) (dx := dx) (C := C) (c := c) ra2 hx hd ne cl
      refine ⟨.oo c .nil :: svs, Hs, ri, ?_⟩
      cases ef : F (.oo c .nil :: svs) with
      | bad => rw [ef] at p; exact p.elim
      | er er svs' =>
        rw [ef] at p
        cases svs' with
        | nil => exact p.elim
        | cons s' svs' =>
          intro cls dd H' Hs' rc gc ee
          obtain ⟨a1, a2, a3, a4, a5⟩ := fin rc gc
          obtain ⟨r2, g2, g3⟩ := rp.after ra es nd a1 a2
          exact p cls dd H' Hs' r2 g2 ee
      | ok ro svs' =>
        rw [ef] at p
        cases ro with
        | new s => exact p.elim
        | dat d =>
          cases d with
          | none =>
            cases svs' with
            | nil => exact p.elim
            | cons s' svs' =>
              intro v H' Hs' rc gc rr nw
              obtain ⟨a1, a2, a3, a4, a5⟩ := fin rc gc
              obtain ⟨r2, g2, g3⟩ := rp.after ra es nd a1 a2
              have rr : Dp X.K Hs' v .none := rr
              cases rr
              refine ⟨rfl, p (.ref x) H' Hs' r2 g2 ⟨a3, fun a oa ⟨j, oj⟩ => ?_⟩ fun a oa => a5 a oa⟩
              rcases g3 j a oj with ow | ow
              · exact a4 a oa ow
              · exact rp.fre_no (a5 a oa) ⟨j, ow⟩
          | _ => exact p.elim
    · rw [if_neg nd] at p; exact p.elim
theorem so_make (cl : T.cl c = some C) (h : PE X e (tMakeD X T W C F np ks.length idx dxs (tM X.K T X.mg W (kA X.K) mr) (tM X.K T X.mg W (kA X.K) mk))) : SimO T X W e (mMake c F np ks.length idx dxs mr mk) :=
  pe_imp h fun σ H Q q => tM_bnd q fun rs ρ1 vs H1 Hs1 rp1 _ ra p => ⟨ρ1, Hs1, rp1, Post.bnd (r := mk ρ1) p fun zs ρ2 us H2 Hs2 rp2 g2 rz p2 => by
    have p2 : Post X.K T X.mg W (kO X.K T) ρ2 σ Hs2 H2 ((if rs.length = np ∧ zs.length = ks.length then makeD c F (pickL idx (rs ++ zs ++ dxs.map .dat)) else bad) ρ2) Q := p2
    by_cases hn : rs.length = np ∧ zs.length = ks.length
    · rw [if_pos hn] at p2
      exact ⟨by rw [← aA_len ra]; exact hn.1, by rw [← aA_len rz]; exact hn.2, fun dvs dd => makeD_end cl rp2 (pick_aA (aA_app (aA_app (aA_grow ra g2) rz) (aA_dats (dd Hs2))) idx) p2⟩
    · rw [if_neg hn] at p2; exact p2.elim⟩
/-! f(a new object) -/
def callN (F : FnSem) (s : SV) : M RO := fun ρ => match F [s] with
  | .ok ro _ => .ok ro ρ
  | .er e _ => .er e ρ
  | .bad => .bad
/-- a call whose only argument is a new object, dropped behind it -/
def mCallN (F : FnSem) (mo : M SV) : M RV := bnd mo fun s => bnd (callN F s) fun ro ρ => match ro with
  | .dat x => .ok (.dat x) ρ
  | .new _ => .bad
theorem sim_callN {mo : M SV} {a : Expr} (ha : SimO T X W a mo) (h : PA X [a] (tCons (tM X.K T X.mg W (kO X.K T) mo) tNil) → PE X e (tCallG T X W F (tCons (tM X.K T X.mg W (kO X.K T) mo) tNil)))
    (hs : starEach [a] X.env = (false, eval a X.env) :: starEach [] X.env := by rfl) : SimE T X W e (mCallN F mo) :=
  pe_imp (h (pa_cons ha pa_nil hs)) fun σ H Q ⟨ρ, Hs, rp, p⟩ => by
    refine ⟨ρ, Hs, rp, ?_⟩
    unfold mCallN DS.bnd at p
    cases e1 : mo ρ with
    | bad => rw [e1] at p; exact p
    | er e ρ1 => rw [e1] at p; exact p
    | ok s ρ1 =>
      rw [e1] at p
      intro v H1 Hs1 rp1 g1 ⟨q1, q2⟩ n1
      have p : Post X.K T X.mg W (kE X.K) ρ σ Hs H ((callN F s ρ1).bnd fun ro ρ => match ro with
        | .dat x => .ok (.dat x) ρ
        | .new _ => .bad) Q := p
      have rl : Rep X.K T Hs1 [s] ([v].map some) H1 := rp1.bare.consOwn q1 fun a _ z => no_own0 z
      refine ⟨[s], Hs1, rl, ?_⟩
      have back : ∀ {Hs' H' : Hp} {l' : Rho}, Rep X.K T Hs' l' ([v].map some) H' → Grow [s] ([v].map some) Hs1 H1 l' ([v].map some) Hs' H' → Rep X.K T Hs' ρ1 σ H' ∧ Grow ρ σ Hs H ρ1 σ Hs' H' := fun {Hs' H' l'} rc gc => by
        have own1 : ∀ a, Own H1 [s] ([v].map some) a → OwnAt H1 s (some v) a := fun a ⟨i, t, e, o⟩ => by
          cases i with
          | zero => simp at e; subst e; exact o
          | succ i => simp at e
        have stay : ∀ a, Own H1 ρ1 σ a → H' a = H1 a ∧ Hs' a = none := fun a ow => by
          obtain ⟨⟨u, hu, nt⟩, hn⟩ := rp1.owned ow
          have no : ¬ Own H1 [s] ([v].map some) a := fun z => q2 a (own1 a z) ow
          refine ⟨by rw [hu]; exact gc.fr a u hu nt no, ?_⟩
          cases q : Hs' a with
          | none => rfl
          | some z =>
            rcases gc.nw a (by rw [q]; simp) with z | z | z
            · exact absurd hn z
            · obtain ⟨ps, z⟩ := z _ hu; exact absurd z (nt ps)
            · exact absurd z no
        refine ⟨rp1.move rc.sub rc.ntb gc.sh stay rc.tab, fun a o e nt no => ?_, fun a q => g1.dm a (gc.dm a q), g1.sh.trans gc.sh, fun a e => ?_, fun i a o => ?_⟩
        · refine gc.fr a o (g1.fr a o e nt no) nt fun z => ?_
          obtain ⟨ps, y⟩ := n1 a (own1 a z) _ e
          exact nt ps y
        · rcases gc.nw a e with z | z | z
          · exact g1.nw a z
          · exact .inr (.inl (g1.dm a z))
          · exact .inr (.inl (n1 a (own1 a z)))
        · exact g1.ow i a ((rp1.own_iff (fun b ow => (stay b ow).1) i a).mp o)
      unfold callN at p
      cases ef : F [s] with
      | bad => rw [ef] at p; exact p.elim
      | er e svs' =>
        rw [ef] at p
        intro cls dd H' Hs' rc gc er
        obtain ⟨r2, g2⟩ := back rc gc
        exact p cls dd H' Hs' r2 g2 er
      | ok ro svs' =>
        rw [ef] at p
        intro v' H' Hs' rc gc rr nw
        obtain ⟨r2, g2⟩ := back rc gc
        cases ro with
        | new _ => exact p.elim
        | dat x => exact p v' H' Hs' r2 g2 rr fun _ z => z.elim
end
end DS
end
section
set_option Elab.async false
set_option linter.all false
set_option maxRecDepth 100000
set_option maxHeartbeats 4000000
/-! DsZc: stores to fields, dicts written -/
namespace DS
open PySem PySem.Spec PyProof.Rows L2
def setF (cs : List Str) (f : Str) (r : PV) (t : SV) : M Fl := fun ρ => match r with
  | .pl i P => match ρ[i]?, atP ρ i P with
    | some s, some (.oo c fs) => if c ∈ cs ∧ fs.len < 1000 then .ok .nx (ρ.set i (setP s P (.oo c (fs.put f t)))) else .bad
    | _, _ => .bad
  | .dat _ => .bad
def setFP (cs : List Str) (f : Str) (po : Pm) (t : SV) : M Fl := fun ρ => match po ρ with
  | some r => setF cs f r t ρ
  | none => .bad
def keepF (cs : List Str) (f : Str) (po : Pm) (r : RV) : M Fl := match r with
  | .dat x => setFP cs f po (.d x)
  | .slot _ => bad
def mSetF (cs : List Str) (f : Str) (po : Pm) (ma : M RV) : M Fl := bnd ma (keepF cs f po)
def mSetFO (cs : List Str) (f : Str) (po : Pm) (mo : M SV) : M Fl := bnd mo fun s => setFP cs f po s
section
variable {T : Tbs} {g : Sg} {X : Cx} {W : WX} {K : PySem.W.Frag} {mg : Str → Option Value} {cs : List Str} {f : Str} {po pk : Pm} {ma : M RV} {mo : M SV} {e o i : Expr} {pos pos' : Pos}
/-- a field of the instance at a place takes a value -/
theorem setF_end {D : Ends} {ρ ρ1 : Rho} {σ : L2.St} {Hs H Hs1 H1 Hs2 H2 : Hp} {r : PV} {t : SV} {x y : V} (hc : ClsF K T cs f) (gr : Grow ρ σ Hs H ρ1 σ Hs1 H1) (rp : Rep K T Hs1 ρ1 σ H1)
    (ht : SRep K T Hs1 H1 t (some y)) (no : ∀ a, OwnAt H1 t (some y) a → ¬ Own H1 ρ1 σ a) (nf : ∀ a, OwnAt H1 t (some y) a → Fre H a) (x2 : ExtS Hs1 H1 Hs2 H2) (r2 : PVRep K Hs2 H2 σ r x) (p : PostS K T mg g W D ρ σ Hs H (setF cs f r t ρ1)) :
    ∃ a C dx gs, x = .ref a ∧ H2 a = some (.ins C dx gs) ∧ Cls K C ∧ NoAttr K C f ∧ gs.length < 1000 ∧ D.nx σ (upd H2 a (.ins C dx (putF f y gs))) := by
  unfold setF at p
  cases r with
  | dat _ => exact p.elim
  | pl i P =>
    dsimp only at p
    obtain ⟨rp2, g2⟩ := x2.rep rp
    cases es : ρ1[i]? with
    | none => rw [es] at p; exact p.elim
    | some s0 =>
      cases e2 : atP ρ1 i P with
      | none => rw [es, e2] at p; exact p.elim
      | some t0 =>
        rw [es, e2] at p
        cases t0 with
        | oo c fs =>
          dsimp only at p
          by_cases hcs : c ∈ cs ∧ fs.len < 1000
          · rw [if_pos hcs] at p
            obtain ⟨s, u, es', _, _, _, _, rt, ot⟩ := at_place rp2 r2 e2
            rw [es] at es'; cases es'
            obtain ⟨q, C, dx, gs, ev, hq, cl, nq, np, fr⟩ := rt
            cases ev
            obtain ⟨c1, c2⟩ := hc c hcs.1 C cl
            refine ⟨q, C, dx, gs, rfl, hq, c1, c2, by rw [frep_len fr]; exact hcs.2, ?_⟩
            have ownq : ∀ a, OwnF H2 fs gs a → OwnAt H2 (.oo c fs) (some (.ref q)) a := fun a o => ⟨q, C, dx, gs, rfl, hq, .inr o⟩
            have qown : OwnAt H2 (.oo c fs) (some (.ref q)) q := ⟨q, C, dx, gs, rfl, hq, .inl rfl⟩
            have own2 : ∀ a, OwnAt H2 (.oo c fs) (some (.ref q)) a → Own H2 ρ1 σ a := fun a o => by
              obtain ⟨s1, u1, y1, y2, _, _, _, _, y3⟩ := at_place rp2 r2 e2
              exact ⟨i, s1, y1, by rw [y2]; exact y3 a o⟩
            -- the value, behind the place's evaluation
            have st2 : ∀ a, OwnAt H1 t (some y) a → H2 a = H1 a ∧ Hs2 a = none := fun a o => by
              obtain ⟨⟨w, hw, nt⟩, hn⟩ := ht.owned o
              refine ⟨by rw [hw]; exact x2.sm a w hw, ?_⟩
              cases z : Hs2 a with
              | none => rfl
              | some _ =>
                rcases g2.nw a (by rw [z]; simp) with q | q | q
                · exact absurd hn q
                · obtain ⟨ps, q⟩ := q _ hw; exact absurd q (nt ps)
                · exact absurd q (no a o)
            obtain ⟨t2, o2⟩ := SRep.mv (H' := H2) g2.sh ht st2
            have no2 : ∀ a, OwnAt H2 t (some y) a → ¬ Own H2 ρ1 σ a := fun a o ow => by
              have o1 := (o2 a).mp o
              rcases g2.own ow with z | z
              · exact no a o1 z
              · obtain ⟨⟨w, hw, nt⟩, _⟩ := ht.owned o1
                obtain ⟨ps, z⟩ := z _ hw; exact nt ps z
            have nq2 : ∀ a, OwnAt H2 t (some y) a → a ≠ q := fun a o z => no2 a o (by rw [z]; exact own2 q qown)
            obtain ⟨t3, o3⟩ := SRep.mv (H' := upd H2 q (.ins C dx (putF f y gs))) (Same.refl Hs2) t2 fun a o => ⟨upd_ne (nq2 a o), (t2.owned o).2⟩
            obtain ⟨f1, f2⟩ := frep_store (H' := upd H2 q (.ins C dx (putF f y gs))) (Same.refl Hs2) fr (fun a o => ⟨upd_ne (fun z => np (by rw [← z]; exact o)), (FRep.ownedK fr o).2⟩) t3 fun a o z => no2 a ((o3 a).mp o) (own2 a (ownq a z))
            have npq : ¬ OwnF (upd H2 q (.ins C dx (putF f y gs))) (fs.put f t) (putF f y gs) q := fun z => by
              rcases f2 q z with k | k
              · exact np k
              · exact nq2 q ((o3 q).mp k) rfl
            obtain ⟨s3, e3, rn, gn⟩ := rp2.atW (t' := .oo c (fs.put f t)) r2 e2 (fun a u h n => by
                rw [upd_ne (fun z => n (by rw [z]; exact qown))]; exact h)
              ⟨q, C, dx, putF f y gs, rfl, upd_same, cl, nq, npq, f1⟩ (N := OwnAt (upd H2 q (.ins C dx (putF f y gs))) t (some y)) (fun a z => no2 a ((o3 a).mp z)) fun a ⟨p', C', dx', gs', e', h', o'⟩ => by
                cases e'
                rw [upd_same] at h'; cases h'
                rcases o' with rfl | o'
                · exact .inl qown
                · exact (f2 a o').imp (ownq a) id
            rw [es] at e3; cases e3
            exact p σ _ Hs2 rn (gn (gr.trans g2) (fun a z => nf a ((o2 a).mp ((o3 a).mp z))) fun a z => by
              by_cases hb : a = q
              · rw [hb] at z
                obtain ⟨ps, z⟩ := z _ upd_same; cases z
              · exact fun w hw => z w (by rw [upd_ne hb]; exact hw)) Kp.refl
          · rw [if_neg hcs] at p; exact p.elim
        | _ => exact p.elim
theorem setFP_end {D : Ends} {ρ ρ1 : Rho} {σ : L2.St} {Hs H Hs1 H1 : Hp} {t : SV} {y : V} (hc : ClsF K T cs f) (gr : Grow ρ σ Hs H ρ1 σ Hs1 H1) (rp : Rep K T Hs1 ρ1 σ H1)
    (ht : SRep K T Hs1 H1 t (some y)) (no : ∀ a, OwnAt H1 t (some y) a → ¬ Own H1 ρ1 σ a) (nf : ∀ a, OwnAt H1 t (some y) a → Fre H a) (p : PostS K T mg g W D ρ σ Hs H (setFP cs f po t ρ1)) :
    tP K T po σ H1 fun x H2 => ∃ a C dx gs, x = .ref a ∧ H2 a = some (.ins C dx gs) ∧ Cls K C ∧ NoAttr K C f ∧ gs.length < 1000 ∧ D.nx σ (upd H2 a (.ins C dx (putF f y gs))) := by
  unfold setFP at p
  cases e1 : po ρ1 with
  | none => rw [e1] at p; exact p.elim
  | some r =>
    rw [e1] at p
    exact ⟨ρ1, Hs1, r, rp, e1, fun x H2 Hs2 x2 r2 => setF_end hc gr rp ht no nf x2 r2 p⟩
theorem ss_setF (ha : SimE T X W e ma) (ho : SimP T X o po) (hc : ClsF X.K T cs f) (hs : swapsWith e (some (.Attribute o f pos')) pos.line X.env = pure false) : SimS T g X W (.Assign [.Attribute o f pos'] e pos) (mSetF cs f po ma) :=
  ps_imp (ps_fld ho ha hs) fun D σ H ⟨ρ, Hs, rp, p⟩ => ⟨ρ, Hs, rp, by
    unfold mSetF DS.bnd at p
    cases e1 : ma ρ with
    | bad => rw [e1] at p; exact p
    | er e ρ1 => rw [e1] at p; exact fun cls dd H1 Hs1 a b c => p cls dd σ H1 Hs1 a b Kp.refl c
    | ok r ρ1 =>
      rw [e1] at p
      intro v H1 Hs1 rp1 gr q _
      cases r with
      | slot _ => exact p.elim
      | dat x =>
        have p : PostS X.K T X.mg g W D ρ σ Hs H (setFP cs f po (.d x) ρ1) := p
        exact setFP_end (t := .d x) hc gr rp1 (show SRep X.K T Hs1 H1 (.d x) (some v) from ⟨v, rfl, q⟩) (fun _ z => False.elim z) (fun _ z => False.elim z) p⟩
theorem ss_setFO (ha : SimO T X W e mo) (ho : SimP T X o po) (hc : ClsF X.K T cs f) (hs : swapsWith e (some (.Attribute o f pos')) pos.line X.env = pure false) : SimS T g X W (.Assign [.Attribute o f pos'] e pos) (mSetFO cs f po mo) :=
  ps_imp (ps_fld ho ha hs) fun D σ H ⟨ρ, Hs, rp, p⟩ => ⟨ρ, Hs, rp, by
    unfold mSetFO DS.bnd at p
    cases e1 : mo ρ with
    | bad => rw [e1] at p; exact p
    | er e ρ1 => rw [e1] at p; exact fun cls dd H1 Hs1 a b c => p cls dd σ H1 Hs1 a b Kp.refl c
    | ok s ρ1 =>
      rw [e1] at p
      intro v H1 Hs1 rp1 gr ⟨q1, q2⟩ n
      have p : PostS X.K T X.mg g W D ρ σ Hs H (setFP cs f po s ρ1) := p
      exact setFP_end hc gr rp1 q1 q2 n p⟩
/-! dicts -/
theorem so_dict0 : SimO T X W (.Dict [] [] pos) (ret (.od [])) := pe_imp pe_dnewK fun σ H Q ⟨ρ, Hs, rp, p⟩ => fun q hq =>
  own_new (s := .od []) rp hq ⟨q, [], rfl, upd_same, trivial, none_of_same rp.sub hq⟩ (fun a => ownAt_d) p
def putD (r k : PV) (x : PyData) : M Fl := fun ρ => match r with
  | .pl i P => match ρ[i]?, atP ρ i P, keyOf ρ k with
    | some s, some (.od kvs), some y => if kvs.length < sizeLine then .ok .nx (ρ.set i (setP s P (.od (pKV kvs y x)))) else .bad
    | _, _, _ => .bad
  | .dat _ => .bad
def putDP (po pk : Pm) (r : RV) : M Fl := fun ρ => match r, po ρ, pk ρ with
  | .dat x, some d, some k => putD d k x ρ
  | _, _, _ => .bad
/-- d[k] = e -/
def mPut (po pk : Pm) (ma : M RV) : M Fl := bnd ma (putDP po pk)
/-- the dict at a place is written -/
theorem dict_at {ρ : Rho} {σ : L2.St} {Hs H : Hp} {j : Nat} {P : List Str} {x : V} {kvs kvs' : List (Key × PyData)} {hs' : List (Key × V)} (rp : Rep K T Hs ρ σ H) (r : PVRep K Hs H σ (.pl j P) x) (e : atP ρ j P = some (.od kvs)) (kr : ∀ q hs, x = .ref q → H q = some (.dK hs) → kvRep K Hs hs kvs → kvRep K Hs hs' kvs') :
    ∃ q s, x = .ref q ∧ ρ[j]? = some s ∧ Rep K T Hs (ρ.set j (setP s P (.od kvs'))) σ (upd H q (.dK hs')) ∧ Grow ρ σ Hs H (ρ.set j (setP s P (.od kvs'))) σ Hs (upd H q (.dK hs')) := by
  obtain ⟨s, u, es, _, _, _, _, rt, ot⟩ := at_place rp r e
  obtain ⟨q, hs, ev, hq, kr0, nq⟩ := rt
  cases ev
  obtain ⟨s3, e3, rn, gn⟩ := rp.atW (t' := .od kvs') r e (H' := upd H q (.dK hs')) (fun a w h n => by
      rw [upd_ne (fun z => n (by rw [z]; exact rfl))]; exact h) ⟨q, hs', rfl, upd_same, kr q hs rfl hq kr0, nq⟩ (N := fun _ => False) (fun _ z => z.elim) fun a o => .inl o
  rw [es] at e3; cases e3
  exact ⟨q, s, rfl, es, rn, gn Grow.refl (fun _ z => z.elim) fun a z => by
    by_cases hb : a = q
    · rw [hb] at z
      obtain ⟨ps, z⟩ := z _ upd_same; cases z
    · exact fun w hw => z w (by rw [upd_ne hb]; exact hw)⟩
theorem ss_put (hu : X.A.units + 1 < cLine) (ha : SimE T X W e ma) (ho : SimP T X o po) (hk : SimP T X i pk) (hs : swapsWith e (some (.Subscript o i pos')) pos.line X.env = pure false) : SimS T g X W (.Assign [.Subscript o i pos'] e pos) (mPut po pk ma) :=
  ps_imp (ps_dput hu ho hk ha hs) fun D σ H q => tS_bnd q fun r ρ1 v H1 Hs1 rp1 _ ra p => by
    unfold putDP at p
    cases r with
    | slot _ => exact p.elim
    | dat x =>
      cases e1 : po ρ1 with
      | none => rw [e1] at p; exact p.elim
      | some d =>
        cases e2 : pk ρ1 with
        | none => rw [e1, e2] at p; exact p.elim
        | some k =>
          rw [e1, e2] at p
          have p : PostS X.K T X.mg g W D ρ1 σ Hs1 H1 (putD d k x ρ1) := p
          refine ⟨ρ1, Hs1, d, rp1, e1, fun v2 H2 Hs2 x2 r2 => ?_⟩
          obtain ⟨rp2, g2⟩ := x2.rep rp1
          refine ⟨ρ1, Hs2, k, rp2, e2, fun v3 H3 Hs3 x3 r3 => ?_⟩
          obtain ⟨rp3, g3⟩ := x3.rep rp2
          have r2' := pv_ext r2 x3 rp2
          unfold putD at p
          cases d with
          | dat _ => exact p.elim
          | pl j P =>
            dsimp only at p
            cases es : ρ1[j]? with
            | none => rw [es] at p; exact p.elim
            | some s0 =>
              cases ed : atP ρ1 j P with
              | none => rw [es, ed] at p; exact p.elim
              | some t0 =>
                cases t0 with
                | od kvs =>
                  cases ek : keyOf ρ1 k with
                  | none => rw [es, ed, ek] at p; exact p.elim
                  | some y =>
                    rw [es, ed, ek] at p
                    dsimp only at p
                    by_cases hz : kvs.length < sizeLine
                    · rw [if_pos hz] at p
                      have ey := keyOf_rep rp3 r3 ek
                      subst ey
                      obtain ⟨q, hs0, ev, hq, kr⟩ := dAt_rep rp3 r2' (show dAt ρ1 (.pl j P) = some kvs by unfold dAt; dsimp only; rw [ed])
                      subst ev
                      have dx : Dp X.K Hs3 v x := dp_mono (g2.trans g3).sh ra
                      obtain ⟨q', s, ev, es', rn, gn⟩ := dict_at (hs' := putK hs0 y v) (kvs' := pKV kvs y x) rp3 r2' ed (fun q1 hs1 e1 h1 k1 => by
                        cases e1
                        rw [hq] at h1; cases h1
                        exact kvRep_put k1 dx)
                      cases ev
                      rw [es] at es'; cases es'
                      exact ⟨q, _, rfl, DPut.k hq (by rw [kvRep_len kr]; exact hz), p σ _ Hs3 rn ((g2.trans g3).trans gn) Kp.refl⟩
                    · rw [if_neg hz] at p; exact p.elim
                | _ => rw [es, ed] at p; exact p.elim
def popD (r k : PV) : M RV := fun ρ => match r with
  | .pl i P => match ρ[i]?, atP ρ i P, keyOf ρ k with
    | some s, some (.od kvs), some y => match gKV kvs y with
      | some x => .ok (.dat x) (ρ.set i (setP s P (.od (dKV kvs y))))
      | none => .bad
    | _, _, _ => .bad
  | .dat _ => .bad
/-- d.pop(k) -/
def mPop (po pk : Pm) : M RV := fun ρ => match po ρ, pk ρ with
  | some d, some k => popD d k ρ
  | _, _ => .bad
theorem sim_pop {apos cpos : Pos} (ho : SimP T X o po) (hk : SimP T X i pk) (m : M1 X o "pop" apos i cpos) : SimE T X W (.Call (.Attribute o "pop" apos) [i] [] cpos) (mPop po pk) :=
  pe_imp (pe_dpop1 ho hk m) fun σ H Q ⟨ρ, Hs, rp, p⟩ => by
    unfold mPop at p
    cases e1 : po ρ with
    | none => rw [e1] at p; exact p.elim
    | some d =>
      cases e2 : pk ρ with
      | none => rw [e1, e2] at p; exact p.elim
      | some k =>
        rw [e1, e2] at p
        have p : Post X.K T X.mg W (kE X.K) ρ σ Hs H (popD d k ρ) Q := p
        unfold popD at p
        cases d with
        | dat _ => exact p.elim
        | pl j P =>
          dsimp only at p
          cases es : ρ[j]? with
          | none => rw [es] at p; exact p.elim
          | some s0 =>
            cases ed : atP ρ j P with
            | none => rw [es, ed] at p; exact p.elim
            | some t0 =>
              cases t0 with
              | od kvs =>
                cases ek : keyOf ρ k with
                | none => rw [es, ed, ek] at p; exact p.elim
                | some y =>
                  rw [es, ed, ek] at p
                  dsimp only at p
                  cases eg : gKV kvs y with
                  | none => rw [eg] at p; exact p.elim
                  | some x =>
                    rw [eg] at p
                    dsimp only at p
                    refine ⟨ρ, Hs, .pl j P, rp, e1, fun v2 H2 Hs2 x2 r2 => ?_⟩
                    obtain ⟨rp2, g2⟩ := x2.rep rp
                    obtain ⟨q, hs0, ev, hq, kr⟩ := dAt_rep rp2 r2 (show dAt ρ (.pl j P) = some kvs by unfold dAt; dsimp only; rw [ed])
                    subst ev
                    refine ⟨q, rfl, .inl ⟨hs0, .inl hq⟩, ρ, Hs2, k, rp2, e2, fun v3 H3 Hs3 x3 r3 => ?_⟩
                    obtain ⟨rp3, g3⟩ := x3.rep rp2
                    have r2' := pv_ext r2 x3 rp2
                    have hq3 := x3.sm q _ hq
                    have ey := keyOf_rep rp3 r3 ek
                    subst ey
                    obtain ⟨q', hs1, ev, hq', kr3⟩ := dAt_rep rp3 r2' (show dAt ρ (.pl j P) = some kvs by unfold dAt; dsimp only; rw [ed])
                    cases ev
                    rw [hq3] at hq'; cases hq'
                    obtain ⟨q', s, ev, es', rn, gn⟩ := dict_at (hs' := dropK hs0 y) (kvs' := dKV kvs y) rp3 r2' ed (fun q1 hs1 e1 h1 k1 => by
                      cases e1
                      rw [hq3] at h1; cases h1
                      exact kvRep_drop k1)
                    cases ev
                    rw [es] at es'; cases es'
                    rcases kvRep_get (k := y) kr3 with ⟨h1, h2⟩ | ⟨v, x', h1, h2, h3⟩
                    · rw [eg] at h2; cases h2
                    · rw [eg] at h2; cases h2
                      exact ⟨hs0, y, v, hq3, rfl, h1, p v _ Hs3 rn ((g2.trans g3).trans gn) h3 fun _ z => z.elim⟩
              | _ => rw [es, ed] at p; exact p.elim
end
end DS
end
section
set_option Elab.async false
set_option linter.all false
set_option maxRecDepth 100000
set_option maxHeartbeats 4000000
/-! DsZd: methods as defs, defaults, comprehensions stored to a name -/
namespace DS
open PySem PySem.Spec PyProof.Rows L2
/-- a def of the text, its defaults' tuple at dV -/
structure FunX (K : PySem.W.Frag) (x qual : Str) (st : Stmt) (dV : Value) (f : Addr) (fd : FuncData) : Prop where
  ex : ∃ (oc : Value) (od : Option Addr) (kV doc pm : Value) (an : Option Addr) (cdv ct : Value) (osl : Array (Option Value)),
    fd = PySem.W.fnOf x qual (defArgs st) (defBody st) (defScope st) dV kV doc pm an cdv ct ∧ K.lookup f = some ⟨oc, od, .func fd, osl⟩ ∧ PySem.W.codeIn K cdv qual = true
  kp : PySem.W.keepIn K (.ref f) = true
theorem funX_mk {K : PySem.W.Frag} {x qual : Str} {st : Stmt} {dV : Value} {f : Addr} {oc : Value} {od an : Option Addr} {osl : Array (Option Value)} {kV doc pm cdv ct : Value} (l : K.lookup f = some ⟨oc, od, .func (PySem.W.fnOf x qual (defArgs st) (defBody st) (defScope st) dV kV doc pm an cdv ct), osl⟩)
    (c : PySem.W.codeIn K cdv qual = true) (k : PySem.W.keepIn K (.ref f) = true) : FunX K x qual st dV f (PySem.W.fnOf x qual (defArgs st) (defBody st) (defScope st) dV kV doc pm an cdv ct) := ⟨⟨oc, od, kV, doc, pm, an, cdv, ct, osl, rfl, l, c⟩, k⟩
section
variable {P : Program} {w : World} {K : PySem.W.Frag} {mg : Str → Option Value} {base : Heap} {T : Tbs} {x qual : Str} {st : Stmt} {dV : Value} {f : Addr} {fd : FuncData} {ps ks : List Str} {np : Nat} {idx : List Nat} {ds : List Value}
theorem fn_defX {N ps : List Str} {gd : Bool} {k n : Nat} {g : Sg} {m : M Fl} (F : FunX K x qual st dV f fd) (S : FnScope N ps (defScope st)) (hps : ps.length = g.np) (hN : N.length = n)
    (hbody : ∀ (cdv : Value) (A : Around) (outer : List Env) (s : Shared) (H : Hp) (E : XK), (gd = true → A.guards = some []) → Room k (A.deeper (envOfC qual (defScope st) s.heap.objs.size f cdv)) →
      SimB T g (cxOf (L2.CX P w) P w K mg base N qual (defScope st) f cdv A outer s H E) (fun cls d _ H => E cls d H) (defBody st) m) : FnS P w K mg base T gd (k + 1) f fd ps (bodyF g n m) := by
  refine ⟨fun svs h => ?_, fun A outer s H args us vs Q E hg hr e0 hb rv hsp => ?_⟩
  · unfold bodyF at h
    by_cases ha : okArgs g svs = true
    · rw [okArgs_len ha, hps]
    · rw [if_neg ha] at h; exact absurd rfl h
  · obtain ⟨oc, od, kV, doc, pm, an, cdv, ct, osl, rfl, lk, hcd⟩ := F.ex
    obtain ⟨svs, Hs, rp, p⟩ := hsp
    unfold bodyF at p
    by_cases ha : okArgs g svs = true
    · rw [if_pos ha] at p
      have hv : svs.length = vs.length := by have := rp.len; simpa using this
      have hlen : vs.length = ps.length := by rw [← hv, okArgs_len ha, hps]
      have hNP : ps.length ≤ N.length := by
        have := S.pre
        have h2 : (N.take ps.length).length = ps.length := by rw [this]
        rw [List.length_take] at h2; omega
      have hn : svs.length + (n - g.np) = N.length := by rw [okArgs_len ha, hN]; omega
      refine LamX.run_ofS (N := N) (ps := ps) (us := us) (vs := vs) lk hcd S hr e0 hb rv hlen fun hr' => ?_
      refine ⟨_, hbody cdv A outer s H E hg hr', (svs ++ List.replicate (n - g.np) SV.un : Rho), Hs, rp.entry hn, ?_⟩
      exact body_fin ha hn rp p
    · rw [if_neg ha] at p; exact p.elim
theorem FunX.binds (F : FunX K x qual st dV f fd)
    (h : ∀ (kV doc pm : Value) (an : Option Addr) (cdv ct : Value) (us : List Value), us.length = ps.length → bindArgs (PySem.W.fnOf x qual (defArgs st) (defBody st) (defScope st) dV kV doc pm an cdv ct) ⟨us, []⟩ = pure (ps.zip us)) : Binds K fd ps [] := by
  obtain ⟨oc, od, kV, doc, pm, an, cdv, ct, osl, rfl, lk, hcd⟩ := F.ex
  exact .all (h kV doc pm an cdv ct)
theorem FunX.kb (F : FunX K x qual st dV f fd)
    (h : ∀ (kV doc pm : Value) (an : Option Addr) (cdv ct : Value) (us ws : List Value), us.length = np → ws.length = ks.length → bindArgs (PySem.W.fnOf x qual (defArgs st) (defBody st) (defScope st) dV kV doc pm an cdv ct) ⟨us, ks.zip ws⟩ = pure (ps.zip (pickL idx (us ++ ws)))) : KB K fd ps ks np idx := by
  obtain ⟨oc, od, kV, doc, pm, an, cdv, ct, osl, rfl, lk, hcd⟩ := F.ex
  exact fun s us ws X h1 h2 => .of_eq (h kV doc pm an cdv ct us ws h1 h2)
theorem FunX.mkb (F : FunX K x qual st dV f fd)
    (h : ∀ (kV doc pm : Value) (an : Option Addr) (cdv ct : Value) (self : Value) (us ws : List Value), us.length = np → ws.length = ks.length → bindArgs (PySem.W.fnOf x qual (defArgs st) (defBody st) (defScope st) dV kV doc pm an cdv ct) ⟨self :: us, ks.zip ws⟩ = pure (ps.zip (self :: pickL idx (us ++ ws)))) : MkB K fd ps ks np idx [] := by
  obtain ⟨oc, od, kV, doc, pm, an, cdv, ct, osl, rfl, lk, hcd⟩ := F.ex
  exact fun s self us ws X h1 h2 => .of_eq (by rw [List.append_nil]; exact h kV doc pm an cdv ct self us ws h1 h2)
theorem FunX.mkbD {Td : Addr} {oT : Obj} {its : Array Value} {m : Nat} (F : FunX K x qual st (.ref Td) f fd) (lT : K.lookup Td = some oT) (dT : oT.data = .seq its m)
    (h : ∀ (kV doc pm : Value) (an : Option Addr) (cdv ct : Value) (self : Value) (us ws : List Value), us.length = np → ws.length = ks.length → ∃ k, bindArgs (PySem.W.fnOf x qual (defArgs st) (defBody st) (defScope st) (.ref Td) kV doc pm an cdv ct) ⟨self :: us, ks.zip ws⟩ = seqItems? (.ref Td) >>= k ∧ k (some its) = pure (ps.zip (self :: pickL idx (us ++ ws ++ ds)))) : MkB K fd ps ks np idx ds := by
  obtain ⟨oc, od, kV, doc, pm, an, cdv, ct, osl, rfl, lk, hcd⟩ := F.ex
  refine fun s self us ws X h1 h2 => ?_
  obtain ⟨k, e1, e2⟩ := h kV doc pm an cdv ct self us ws h1 h2
  refine BindsTo.of_looks fun M => ?_
  rw [e1]
  exact looks_items X lT dT (.of_pure e2)
/-- the empty tuple as a written thing -/
theorem emp_dp {a : Addr} {o : Obj} {n : Nat} (l : K.lookup a = some o) (c : o.cls = .type "tuple") (d : o.data = .seq #[] n) (Hs : Hp) : DpAll K Hs [.ref a] [.tuple []] :=
  .cons (.tup (.inr ⟨o, #[], n, l, c, d, Nat.zero_le _, .nil⟩) .nil) .nil
end
section
variable {T : Tbs} {g : Sg} {X : Cx} {W : WX} {tg iter elt : Expr} {ifs : List Expr} {scope : Scope} {own : List (Str × Nat)} {gm : Gm} {mi : M (List PyData)} {mt : M Bool} {me : M RV} {y : Str} {py pos spos : Pos}
theorem s_setLC {i : Nat} (hp : i ∉ g.pr) (hc : X.calm = true) (hN : X.N.Nodup) (hy : X.N[i]? = some y) (hyl : X.env.scope.names.lookup y = some .local) (hsw : swapsWith (.ListComp elt [⟨tg, iter, ifs, 0⟩] scope pos) (some (.Name y py)) spos.line X.env = pure true)
    (ok : BlkOk X.N X.env.scope scope own) (hi : SimI T X W tg iter mi) (hg : ∀ (s : Shared) (H : Hp) (C : Addr) (cl : List (Str × Addr)) (fp : List Addr), SimG T ⟨0, []⟩ (own.map (·.2)) (X.blk s H scope (compEnvC scope cl C X.env) fp) tg gm)
    (ht : ∀ (s : Shared) (H : Hp) (C : Addr) (cl : List (Str × Addr)) (fp : List Addr), SimPT T (X.blk s H scope (compEnvC scope cl C X.env) fp) ifs mt) (he : ∀ (s : Shared) (H : Hp) (C : Addr) (cl : List (Str × Addr)) (fp : List Addr), SimE T (X.blk s H scope (compEnvC scope cl C X.env) fp) W0 elt me)
    (hs : ∀ x, foldedSetIterable iter X.env x = pure x := by intro _; rfl) : SimS T g X W (.Assign [.Name y py] (.ListComp elt [⟨tg, iter, ifs, 0⟩] scope pos) spos) (mSet i (mLC mi gm mt me (own.map (·.2)))) :=
  ps_imp (ps_setLc (g := tG X.K T ⟨0, []⟩ (own.map fun q : Str × Nat => q.2) gm) (tt := tM X.K T X.mg W0 kB mt) (te := tM X.K T X.mg W0 (kE X.K) me) hc hN hy hyl hsw hi ok hg ht he hs)
    fun D σ H q => rf_lc σ H _ (tS_bnd q fun a ρ1 v H1 Hs1 rp1 _ ra p => keepD_end rp1 ra hp p)
theorem s_setLCO {i : Nat} (hp : i ∉ g.pr) (hc : X.calm = true) (hN : X.N.Nodup) (hy : X.N[i]? = some y) (hyl : X.env.scope.names.lookup y = some .local) (hsw : swapsWith (.ListComp elt [⟨tg, iter, ifs, 0⟩] scope pos) (some (.Name y py)) spos.line X.env = pure true)
    (ok : BlkOk X.N X.env.scope scope own) (hi : SimI T X W tg iter mi) (hg : ∀ (s : Shared) (H : Hp) (C : Addr) (cl : List (Str × Addr)) (fp : List Addr), SimG T ⟨0, []⟩ (own.map (·.2)) (X.blk s H scope (compEnvC scope cl C X.env) fp) tg gm)
    (ht : ∀ (s : Shared) (H : Hp) (C : Addr) (cl : List (Str × Addr)) (fp : List Addr), SimPT T (X.blk s H scope (compEnvC scope cl C X.env) fp) ifs mt) (he : ∀ (s : Shared) (H : Hp) (C : Addr) (cl : List (Str × Addr)) (fp : List Addr), SimE T (X.blk s H scope (compEnvC scope cl C X.env) fp) W0 elt me)
    (hs : ∀ x, foldedSetIterable iter X.env x = pure x := by intro _; rfl) : SimS T g X W (.Assign [.Name y py] (.ListComp elt [⟨tg, iter, ifs, 0⟩] scope pos) spos) (mSetO i (mLCO mi gm mt me (own.map (·.2)))) :=
  ps_imp (ps_setLc (g := tG X.K T ⟨0, []⟩ (own.map fun q : Str × Nat => q.2) gm) (tt := tM X.K T X.mg W0 kB mt) (te := tM X.K T X.mg W0 (kE X.K) me) hc hN hy hyl hsw hi ok hg ht he hs)
    fun D σ H ⟨ρ, Hs, rp, p⟩ => rfo_lc σ H _ ⟨ρ, Hs, rp, by
      unfold mSetO DS.bnd at p
      cases e1 : mLCO mi gm mt me (own.map (·.2)) ρ with
      | bad => rw [e1] at p; exact p
      | er e ρ1 => rw [e1] at p; exact fun cls dd H1 Hs1 a b c => p cls dd σ H1 Hs1 a b Kp.refl c
      | ok s ρ1 =>
        rw [e1] at p
        intro v H1 Hs1 rp1 gr ⟨q1, q2⟩ n
        exact p _ H1 Hs1 (rp1.set q1 q2) (grow_setO gr n) (Kp.set hp)⟩
end
end DS
end
section
set_option Elab.async false
set_option linter.all false
set_option maxRecDepth 100000
set_option maxHeartbeats 4000000
/-! DsZe: the rules by the text's form -/
namespace DS
open PySem PySem.Spec PyProof.Rows L2
section
variable {T : Tbs} {X : Cx} {W : WX} {c x m : Str} {C : Addr} {F : FnSem} {k np : Nat} {ps ks : List Str} {idx : List Nat} {dxs : List PyData} {p pos apos : Pos} {o e a : Expr} {es : List Expr} {kws : List Keyword} {mr mk : M (List RV)} {mo : M SV} {fa : Addr} {fd : FuncData} {gd : Bool} {disp : List (Str × FnSem)} {po : Pm} {pa : Pms}
theorem o_make {nk : Nat} (M : MakeOk X.prog X.w X.K X.mg X.base T k c C F ps ks np idx dxs) (hr : Room (k + 1) X.A) (tk' : Takes X W) (hg : Gl X x) (hm : X.mg x = some (.ref C)) (hnk : ks.length = nk) (ha : SimA T X W (e :: es) mr) (hkw : SimK T X W kws mk)
    (hall : (backToKw pos (keywordEach kws X.env)).all (·.1.isSome) = true := by rfl) (hks : (backToKw pos (keywordEach kws X.env)).filterMap (·.1) = ks := by rfl)
    (hdb : (x == ("__debug__" : Str)) = false := by decide) (he : starEach (e :: es) X.env = (false, eval e X.env) :: starEach es X.env := by rfl)
    (hpl : ((backTo pos (starEach (e :: es) X.env)).any (·.1) || (backToKw pos (keywordEach kws X.env)).any (·.1.isNone)) = false := by rfl) : SimO T X W (.Call (.Name x p) (e :: es) kws pos) (mMake c F np nk idx dxs mr mk) :=
  hnk ▸ so_make M.cl (pe_makeD M hr tk' hg hm ha hkw hall hks hdb he hpl)
theorem o_make0 {nk : Nat} (M : MakeOk X.prog X.w X.K X.mg X.base T k c C F ps ks 0 idx dxs) (hr : Room (k + 1) X.A) (tk' : Takes X W) (hg : Gl X x) (hm : X.mg x = some (.ref C)) (hnk : ks.length = nk) (hkw : SimK T X W kws mk)
    (hall : (backToKw pos (keywordEach kws X.env)).all (·.1.isSome) = true := by rfl) (hks : (backToKw pos (keywordEach kws X.env)).filterMap (·.1) = ks := by rfl)
    (hdb : (x == ("__debug__" : Str)) = false := by decide)
    (hpl : ((backTo pos (starEach [] X.env)).any (·.1) || (backToKw pos (keywordEach kws X.env)).any (·.1.isNone)) = false := by rfl) : SimO T X W (.Call (.Name x p) [] kws pos) (mMake c F 0 nk idx dxs mNil mk) :=
  hnk ▸ so_make M.cl (pe_imp (pe_makeD0 M hr tk' hg hm hkw hall hks hdb hpl) fun σ H Q ⟨ρ, Hs, rp, q⟩ => post_ok (k := kA X.K) (v := []) q rp trivial fun _ z => z.elim)
theorem v_callN (G : FnS X.prog X.w X.K X.mg X.base T gd k fa fd ps F) (hg : gd = true → X.A.guards = some []) (hr : Room k X.A) (tk : Takes X W) (gl : Gl X x) (hm : X.mg x = some (.ref fa)) (hk : PySem.W.keepIn X.K (.ref fa) = true) (hb : Binds X.K fd ps []) (ha : SimO T X W a mo) (hdb : (x == ("__debug__" : Str)) = false := by decide)
    (he : starEach [a] X.env = (false, eval a X.env) :: starEach [] X.env := by rfl) (hpl : (backTo pos (starEach [] X.env)).any (·.1) = false := by rfl) : SimE T X W (.Call (.Name x p) [a] [] pos) (mCallN F mo) :=
  sim_callN ha (fun q => pe_ds G hg hr tk gl hm hk hb q hdb he hpl) he
/-! calls whose arguments change nothing -/
theorem v_callP (G : FnS X.prog X.w X.K X.mg X.base T gd k fa fd ps F) (hg : gd = true → X.A.guards = some []) (hr : Room k X.A) (tk : Takes X W) (gl : Gl X x) (hm : X.mg x = some (.ref fa)) (hk : PySem.W.keepIn X.K (.ref fa) = true) (hb : Binds X.K fd ps []) (ha : SimPs T X (e :: es) pa) (hdb : (x == ("__debug__" : Str)) = false := by decide)
    (he : starEach (e :: es) X.env = (false, eval e X.env) :: starEach es X.env := by rfl) (hpl : (backTo pos (starEach es X.env)).any (·.1) = false := by rfl) : SimE T X W (.Call (.Name x p) (e :: es) [] pos) (mCallP F pa) :=
  sim_callP (pe_ds G hg hr tk gl hm hk hb ha hdb he hpl)
theorem o_callP (G : FnS X.prog X.w X.K X.mg X.base T gd k fa fd ps F) (hg : gd = true → X.A.guards = some []) (hr : Room k X.A) (tk : Takes X W) (gl : Gl X x) (hm : X.mg x = some (.ref fa)) (hk : PySem.W.keepIn X.K (.ref fa) = true) (hb : Binds X.K fd ps []) (ha : SimPs T X (e :: es) pa) (hdb : (x == ("__debug__" : Str)) = false := by decide)
    (he : starEach (e :: es) X.env = (false, eval e X.env) :: starEach es X.env := by rfl) (hpl : (backTo pos (starEach es X.env)).any (·.1) = false := by rfl) : SimO T X W (.Call (.Name x p) (e :: es) [] pos) (mCallPO F pa) :=
  so_callP (pe_ds G hg hr tk gl hm hk hb ha hdb he hpl)
/-! methods -/
theorem tmeth_mono {to : TE} {t t' : TA} (h : ∀ σ H Q, t' σ H Q → t σ H Q) {σ : L2.St} {H : Hp} {Q : VK} (q : tMethD T X W m disp to t' σ H Q) (hm : ∀ σ H Q Q', (∀ v H, Q v H → Q' v H) → to σ H Q → to σ H Q') : tMethD T X W m disp to t σ H Q :=
  hm σ H _ _ (fun v H1 ⟨a, C, dx, fs, c, F, h1, h2, h3, h4, h5, q⟩ => ⟨a, C, dx, fs, c, F, h1, h2, h3, h4, h5, h _ _ _ q⟩) q
theorem tP_mono {p : Pm} : ∀ σ H (Q Q' : VK), (∀ v H, Q v H → Q' v H) → tP X.K T p σ H Q → tP X.K T p σ H Q' := fun σ H Q Q' h ⟨ρ, Hs, a, rp, e, k⟩ => ⟨ρ, Hs, a, rp, e, fun v H' Hs' x r => h v H' (k v H' Hs' x r)⟩
theorem tPs_nil : ∀ σ H (Q : List V → Hp → Prop), tPs X.K T psNil σ H Q → tNil σ H Q := fun σ H Q ⟨ρ, Hs, a, rp, e, k⟩ => by
  cases e
  exact k [] H Hs .refl trivial
theorem v_meth {pl : Sem Bool} (hd : ∀ c F, (c, F) ∈ disp → MethOk X.prog X.w X.K X.mg X.base T gd k m c F ps) (hg : gd = true → X.A.guards = some []) (hr : Room k X.A) (tk : Takes X W) (ho : SimP T X o po) (ha : SimPs T X (e :: es) pa)
    (hst : starEach (e :: es) X.env = (false, eval e X.env) :: starEach es X.env := by rfl) (hpl : (backTo pos (starEach es X.env)).any (·.1) = false := by rfl)
    (ht : eval (.Call (.Attribute o m apos) (e :: es) [] pos) X.env = (do
      let ov ← eval o X.env
      standAt apos.atName
      let (f, first) ← holding [ov] (getMethod ov m pl)
      callWith pos f first (backTo pos (starEach (e :: es) X.env)) (backToKw pos (keywordEach [] X.env))) := by rfl) : SimE T X W (.Call (.Attribute o m apos) (e :: es) [] pos) (mMethP m disp po pa) :=
  pe_imp (pe_methD ho hd hg hr tk ha hst hpl ht) fun σ H Q q => tmethP (kd := kE X.K) (h := roD) (fun c F h => by obtain ⟨C, _, _, e, _⟩ := (hd c F h).ex; rw [e]; rfl) endR_D q
theorem v_meth0 {pl : Sem Bool} (hd : ∀ c F, (c, F) ∈ disp → MethOk X.prog X.w X.K X.mg X.base T gd k m c F ps) (hg : gd = true → X.A.guards = some []) (hr : Room k X.A) (tk : Takes X W) (ho : SimP T X o po)
    (ht : eval (.Call (.Attribute o m apos) [] [] pos) X.env = (do
      let ov ← eval o X.env
      standAt apos.atName
      let (f, first) ← holding [ov] (getMethod ov m pl)
      callWith pos f first (backTo pos (starEach [] X.env)) (backToKw pos (keywordEach [] X.env))) := by rfl) : SimE T X W (.Call (.Attribute o m apos) [] [] pos) (mMethP m disp po psNil) :=
  pe_imp (pe_methD0 ho hd hg hr tk ht) fun σ H Q q => tmeth_mono tPs_nil (tmethP (kd := kE X.K) (h := roD) (fun c F h => by obtain ⟨C, _, _, e, _⟩ := (hd c F h).ex; rw [e]; rfl) endR_D q) tP_mono
end
end DS
end
section
set_option Elab.async false
set_option linter.all false
set_option maxRecDepth 100000
set_option maxHeartbeats 4000000
/-! DsZf: sorted and min of pairs of ints; range with a step in a for; own values side by side; a clause that tells a word alone -/
namespace DS
open PySem PySem.Spec PyProof.Rows L2
def pD (p : Int × Int) : PyData := .tuple [.int p.1, .int p.2]
def pair? : PyData → Option (Int × Int)
  | .tuple [.int i, .int j] => some (i, j)
  | _ => none
def pairs? : List PyData → Option (List (Int × Int))
  | [] => some []
  | d :: ds => match pair? d, pairs? ds with
    | some p, some ps => some (p :: ps)
    | _, _ => none
theorem pair_of {d : PyData} {p : Int × Int} (h : pair? d = some p) : d = pD p := by
  unfold pair? at h
  split at h
  · cases h; rfl
  · cases h
theorem pairs_of : ∀ {ds : List PyData} {ps : List (Int × Int)}, pairs? ds = some ps → ds = ps.map pD
  | [], _, h => by cases h; rfl
  | d :: ds, _, h => by
    unfold pairs? at h
    split at h
    · rename_i p ps e1 e2
      cases h
      rw [List.map_cons, ← pairs_of e2, ← pair_of e1]
    · cases h
theorem pairs_map : ∀ ps : List (Int × Int), pairs? (ps.map pD) = some ps
  | [] => rfl
  | p :: ps => by
    rw [List.map_cons]
    unfold pairs?
    rw [pairs_map ps]
    rfl
def sortP (ps : List (Int × Int)) : List (Int × Int) := ps.mergeSort (PySem.W.dataLe false pD)
def dSortP : List PyData → Option PyData
  | [.list ds] => match pairs? ds with
    | some ps => if ps.length ≤ sizeLine then some (.list ((sortP ps).map pD)) else none
    | none => none
  | _ => none
def rSortP (K : PySem.W.Frag) : List V → Hp → VK → Prop := fun vs H Q => ∃ (a : Addr) (xs : List V) (ps : List (Int × Int)) (R : V → Int × Int → Prop), vs = [V.ref a] ∧ SqL K H a xs ∧ ps.length ≤ sizeLine ∧ PySem.W.EachIs R xs ps ∧ (∀ x b, R x b → Dp K H x (pD b)) ∧
  ∀ ys p, PySem.W.EachIs R ys (sortP ps) → H p = none → Q (.ref p) (upd H p (.lst ys))
theorem each_up {R : V → β → Prop} : ∀ {xs : List V} {us : List Value} {bs : List β}, Vals xs us → PySem.W.EachIs R xs bs → PySem.W.EachIs (fun u b => ∃ x, RelV x u ∧ R x b) us bs
  | _, _, _, r, .nil => by cases r; exact .nil
  | _, _, _, r, .cons h t => by
    cases r with
    | cons r1 r2 => exact .cons ⟨_, r1, h⟩ (each_up r2 t)
theorem each_dn {R : V → β → Prop} : ∀ {us : List Value} {bs : List β}, PySem.W.EachIs (fun u b => ∃ x, RelV x u ∧ R x b) us bs → ∃ xs, Vals xs us ∧ PySem.W.EachIs R xs bs
  | _, _, .nil => ⟨[], .nil, .nil⟩
  | _, _, .cons ⟨x, r, h⟩ t => by
    obtain ⟨xs, a, b⟩ := each_dn t
    exact ⟨x :: xs, .cons r a, .cons h b⟩
theorem each_dp {K : PySem.W.Frag} {Hs : Hp} (f : β → PyData) : ∀ {xs : List V} {bs : List β}, DpAll K Hs xs (bs.map f) → PySem.W.EachIs (fun x b => Dp K Hs x (f b)) xs bs
  | _, [], .nil => .nil
  | _, _ :: _, .cons a r => .cons a (each_dp f r)
theorem dp_each {K : PySem.W.Frag} {Hs : Hp} (f : β → PyData) : ∀ {xs : List V} {bs : List β}, PySem.W.EachIs (fun x b => Dp K Hs x (f b)) xs bs → DpAll K Hs xs (bs.map f)
  | _, _, .nil => .nil
  | _, _, .cons a r => .cons a (dp_each f r)
theorem pD_alike (b b' : Int × Int) : PySem.W.alike (pD b) (pD b') = true := by simp [pD, PySem.W.alike, PySem.W.alikeAll]
theorem pD_depth (b : Int × Int) : (pD b).depth = 1 := by simp [pD, PyData.depth, PyData.depthAll]
theorem sortP_len (ps : List (Int × Int)) : (sortP ps).length = ps.length := by unfold sortP; exact List.length_mergeSort _
theorem cr_sortP {X : Cx} (hu : X.A.units + 64 < cLine) : CallR X (.builtin "sorted") (rSortP X.K) := by
  intro pins s σ H vs us Q I r h
  obtain ⟨a, xs, ps, R, rfl, hs, hL, he, hR, q⟩ := h
  obtain ⟨its, rv, hl, hz⟩ := I.list hs
  rw [Vals.ref1 r]
  refine PySem.W.sorted_data (enc := pD) hl.isList (each_up rv he) ((each_up rv he).mono fun u b ⟨x, r1, r2⟩ => (hR x b r2).reads I _ _ _ r1) (PySem.W.AllAlike.of pD_alike) (PySem.W.Sortable.tuples fun b => ⟨_, _, rfl⟩) hL (fun b _ => by rw [pD_depth]; omega) fun out ho eo => ?_
  obtain ⟨ys, r1, r2⟩ := each_dn eo
  obtain ⟨c, hc⟩ := sortedAll_at s.heap its out.toArray
  exact ⟨.ref _, upd H (s.heap.objs.size + 1) (.lst ys), I.laid (t' := s.toks) (fun _ _ => sortedAll_old) (Nat.le_succ _) ⟨by rw [r2.length, List.length_mergeSort]; exact hL, out, c, r1, hc⟩, rfl, q ys _ r2 (I.hok.fresh (Nat.le_succ _))⟩
theorem o_sortP {K : PySem.W.Frag} : OpN K dSortP (rSortP K) := by
  intro Hs H vs xs z Q s hv hz he
  unfold dSortP at hz
  split at hz
  · rename_i ds
    split at hz
    · rename_i ps e
      split at hz
      · rename_i hl
        cases hz
        obtain rfl := pairs_of e
        obtain ⟨v, rfl, h⟩ := hv.one
        obtain ⟨p, us, rfl, h1, h2⟩ := h.list s
        exact ⟨p, us, ps, fun x b => Dp K Hs x (pD b), rfl, h1, hl, each_dp pD h2, fun x b d => dp_mono s d, fun ys q e hq => he.lst s hq (dp_each pD e)⟩
      · cases hz
    · cases hz
  · cases hz
/-! min -/
def minP (p : Int × Int) (ps : List (Int × Int)) : Int × Int := ps.foldl (fun a y => if PySem.W.dataLt (pD y) (pD a) then y else a) p
def dMinP : List PyData → Option PyData
  | [.list ds] => match pairs? ds with
    | some (p :: ps) => some (pD (minP p ps))
    | _ => none
  | _ => none
theorem minP_fold : ∀ (ps : List (Int × Int)) (p : Int × Int), (ps.map pD).foldl (fun a y => if PySem.W.dataLt y a then y else a) (pD p) = pD (minP p ps)
  | [], _ => rfl
  | y :: ps, p => by
    unfold minP
    rw [List.map_cons, List.foldl_cons, List.foldl_cons]
    by_cases h : PySem.W.dataLt (pD y) (pD p) = true
    · rw [if_pos h, if_pos h]; exact minP_fold ps y
    · rw [if_neg h, if_neg h]; exact minP_fold ps p
def rMinP (K : PySem.W.Frag) : List V → Hp → VK → Prop := fun vs H Q => ∃ (a : Addr) (xs : List V) (p : Int × Int) (ps : List (Int × Int)), vs = [V.ref a] ∧ SqL K H a xs ∧ DpAll K H xs ((p :: ps).map pD) ∧
  ∀ (i : Nat) x, xs[i]? = some x → ((p :: ps).map pD).getD i .none = pD (minP p ps) → Q x H
theorem readsAll_of {h : Heap} {xs : List V} {us : List Value} {ds : List PyData} {K : PySem.W.Frag} {H : Hp} (f : ∀ (d : PyData) (v : V) (u : Value), Dp K H v d → RelV v u → ∃ as, Reads h u d as) : Vals xs us → DpAll K H xs ds → ∃ as, ReadsAll h us ds as := by
  intro r d
  induction r generalizing ds with
  | nil => cases d; exact ⟨_, .nil⟩
  | cons r1 r2 ih =>
    cases d with
    | cons d1 d2 =>
      obtain ⟨as, a⟩ := f _ _ _ d1 r1
      obtain ⟨bs, b⟩ := ih d2
      exact ⟨_, .cons a b⟩
theorem depth_map : ∀ ps : List (Int × Int), PyData.depthAll (ps.map pD) ≤ 1
  | [] => by simp [PyData.depthAll]
  | p :: ps => by
    have := depth_map ps
    rw [List.map_cons]
    simp only [PyData.depthAll, pD_depth]
    omega
theorem cr_minP {X : Cx} (hc : X.calm = true) (hu : X.A.units + 64 < cLine) : CallR X (.builtin "min") (rMinP X.K) := by
  intro pins s σ H vs us Q I r h
  obtain ⟨a, xs, p, ps, rfl, hs, hd, q⟩ := h
  obtain ⟨its, rv, hl, hz⟩ := I.list hs
  rw [Vals.ref1 r]
  obtain ⟨as, hr⟩ := readsAll_of (fun d v u => Dp.reads I d v u) rv hd
  have hn : its.toArray.size = ps.length + 1 := by
    have := PySem.W.readsAll_len (vs := its.toArray) (by simpa using hr)
    simpa using this
  have hr2 : ReadsAll s.heap its.toArray.toList (pD p :: ps.map pD) as := by simpa using hr
  have ha : PySem.W.AlikeAll (pD p :: ps.map pD) := by
    have m : ∀ x ∈ pD p :: ps.map pD, ∃ b, x = pD b := by
      intro x hx
      rcases List.mem_cons.mp hx with rfl | hx
      · exact ⟨p, rfl⟩
      · obtain ⟨b, _, rfl⟩ := List.mem_map.mp hx; exact ⟨b, rfl⟩
    refine ⟨fun x hx y hy => ?_, fun x hx => ?_⟩
    · obtain ⟨b, rfl⟩ := m x hx
      obtain ⟨c, rfl⟩ := m y hy
      exact pD_alike b c
    · obtain ⟨b, rfl⟩ := m x hx
      exact fun z => nomatch z
  have hdp := depth_map (p :: ps)
  rw [List.map_cons] at hdp
  refine PySem.call_min_walkH (PySem.W.iter_listW (A := X.A.in1) (I.ok.hd hc) hl.isList fun s₂ e W st hfp hw hk => ?_)
  refine ⟨_, _, _, _, _, _, _, s.heap, _, rfl, W, st, hfp, by omega, hw, hk, PySem.W.cmpIn_lt (A := X.A.in1) hr2 ha (by show X.A.units + 1 + _ < _; omega), fun v s' hP m => ?_⟩
  obtain ⟨h', tk, rfl, hk'⟩ := PySem.W.moved_old e rfl m
  have e1 : its.toArray.size - 1 = (ps.map pD).length := by rw [List.length_map]; omega
  have e2 := (PySem.W.argBest_fold PySem.W.dataLt PyData.none (pD p) (ps.map pD) (ps.map pD).length (Nat.le_refl _)).2
  rw [List.take_length] at e2
  rw [e1] at hP
  rw [minP_fold] at e2
  have hP := hP
  simp only [List.getElem?_toArray] at hP
  rcases vals_at _ rv with ⟨_, z⟩ | ⟨x, u, hx, hu', rx⟩
  · rw [z] at hP; cases hP
  · rw [hP] at hu'; cases hu'
    exact ⟨x, H, I.kept hk', rx, q _ x hx e2⟩
theorem dpAll_getD {K : PySem.W.Frag} {Hs : Hp} : ∀ {us : List V} {ds : List PyData} {i : Nat} {x : V}, DpAll K Hs us ds → us[i]? = some x → Dp K Hs x (ds.getD i .none)
  | _, _, _, _, .nil, e => nomatch e
  | _, _, 0, _, .cons a _, e => by cases e; exact a
  | _, _, i + 1, _, .cons _ r, e => dpAll_getD (i := i) r e
theorem o_minP {K : PySem.W.Frag} : OpN K dMinP (rMinP K) := by
  intro Hs H vs xs z Q s hv hz he
  unfold dMinP at hz
  split at hz
  · rename_i ds
    split at hz
    · rename_i p ps e
      cases hz
      obtain rfl := pairs_of e
      obtain ⟨v, rfl, h⟩ := hv.one
      obtain ⟨a, us, rfl, h1, h2⟩ := h.list s
      refine ⟨a, us, p, ps, rfl, h1, dpAll_mono s h2, fun i x hx hm => he.here ?_⟩
      rw [← hm]
      exact dpAll_getD h2 hx
    · cases hz
  · cases hz
end DS
end
section
set_option Elab.async false
set_option linter.all false
set_option maxRecDepth 100000
set_option maxHeartbeats 4000000
/-! DsZg: range with a step in a for; own values side by side -/
namespace DS
open PySem PySem.Spec PyProof.Rows L2
section
variable {X : Cx} {T : Tbs} {W : WX} {e iter tg : Expr} {es : List Expr} {p pos : Pos}
def int3 : List RV → Option (Int × Int × Int)
  | [.dat (.int i), .dat (.int j), .dat (.int c)] => some (i, j, c)
  | _ => none
theorem int3_some {r : List RV} {i j c : Int} (h : int3 r = some (i, j, c)) : r = [.dat (.int i), .dat (.int j), .dat (.int c)] := by
  unfold int3 at h
  split at h
  · cases h; rfl
  · cases h
def rng3 (r : List RV) : M (List PyData) := fun ρ => match int3 r with
  | some (i, j, c) => if c ≠ 0 ∧ c.natAbs < 1073741824 ∧ Builtin.Range.small i j c = true then .ok (rangeC i c (rgN i j c)) ρ else .bad
  | none => .bad
theorem walkD_rangeC {K : PySem.W.Frag} {Hs : Hp} {lo c : Int} {n : Nat} : WalkD K (Itc lo c n) (rangeC lo c n) Hs := by
  have hl : (rangeC lo c n).length = n := by simp [rangeC]
  refine ⟨fun i H h _ => by rw [hl] at h; exact h, fun H _ => by rw [hl]; exact Nat.le_refl _, fun i H x H' Hs1 d e s1 s2 y => ?_⟩
  obtain ⟨rfl, rfl⟩ := y
  unfold rangeC at e
  rw [List.getElem?_map] at e
  cases e2 : (List.range n)[i]? with
  | none => rw [e2] at e; cases e
  | some k =>
    rw [e2] at e
    cases e
    have : k = i := by
      have := List.getElem?_eq_some_iff.mp e2
      obtain ⟨h1, h2⟩ := this
      simpa using h2.symm
    subst this
    exact ⟨Hs1, .same, .int _⟩
theorem si_range3 {mr : M (List RV)} (ha : SimA T X W es mr) (h : PA X es (tM X.K T X.mg W (kA X.K) mr) → PI X tg iter (iRng3 (tM X.K T X.mg W (kA X.K) mr))) : SimI T X W tg iter (bnd mr rng3) :=
  pi_imp (h ha) fun σ H R q => tI_bnd q fun rs ρ1 vs H1 Hs1 rp1 ra p => by
    unfold rng3 at p
    cases ej : int3 rs with
    | none => rw [ej] at p; exact p.elim
    | some ij =>
      obtain ⟨i, j, c⟩ := ij
      rw [ej] at p
      dsimp only at p
      by_cases hj : c ≠ 0 ∧ c.natAbs < 1073741824 ∧ Builtin.Range.small i j c = true
      · rw [if_pos hj] at p
        cases int3_some ej
        have ra : aA X.K Hs1 σ [.dat (.int i), .dat (.int j), .dat (.int c)] vs := ra
        match vs, aA_len ra with
        | [v, u, w], _ =>
          have r1 : Dp X.K Hs1 v (.int i) := ra.1
          have r2 : Dp X.K Hs1 u (.int j) := ra.2.1
          have r3 : Dp X.K Hs1 w (.int c) := ra.2.2.1
          cases r1
          cases r2
          cases r3
          exact ⟨i, j, c, rgN i j c, rfl, ⟨hj.1, hj.2.1, hj.2.2, rgN_eq i j c⟩, p _ _ _ rp1 Grow.refl walkD_rangeC⟩
      · rw [if_neg hj] at p; exact p.elim
theorem v_range3 {a b c : Expr} {mr : M (List RV)} (hg : Gl X "range") (hm : X.mg "range" = none) (ha : SimA T X W [a, b, c] mr) (hs : starEach [a, b, c] X.env = (false, eval a X.env) :: starEach [b, c] X.env := by rfl) (hpl : (backTo pos (starEach [b, c] X.env)).any (·.1) = false := by rfl) : SimI T X W tg (.Call (.Name "range" p) [a, b, c] [] pos) (bnd mr rng3) := si_range3 ha fun q => pi_range3 hg hm q hs hpl
/-! ### own values side by side -/
def sReps (K : PySem.W.Frag) (T : Tbs) (Hs H : Hp) : List SV → List V → Prop
  | [], [] => True
  | s :: ss, v :: vs => SRep K T Hs H s (some v) ∧ sReps K T Hs H ss vs
  | _, _ => False
def ownsL (H : Hp) : List SV → List V → Addr → Prop
  | s :: ss, v :: vs, a => OwnAt H s (some v) a ∨ ownsL H ss vs a
  | _, _, _ => False
def sepL (H : Hp) : List SV → List V → Prop
  | s :: ss, v :: vs => (∀ a, OwnAt H s (some v) a → ¬ ownsL H ss vs a) ∧ sepL H ss vs
  | _, _ => True
def kOs (K : PySem.W.Frag) (T : Tbs) : Kd (List SV) (List V) := ⟨fun Hs H ρ σ ss vs => sReps K T Hs H ss vs ∧ sepL H ss vs ∧ ∀ a, ownsL H ss vs a → ¬ Own H ρ σ a, fun H ss vs a => ownsL H ss vs a⟩
def SimOs (T : Tbs) (X : Cx) (W : WX) (es : List Expr) (m : M (List SV)) : Prop := PA X es (tM X.K T X.mg W (kOs X.K T) m)
def mNilO : M (List SV) := ret []
def mConsO (ma : M SV) (mr : M (List SV)) : M (List SV) := bnd ma fun a => bnd mr fun rs => ret (a :: rs)
theorem sos_nil : SimOs T X W [] mNilO := pa_imp pa_nil fun σ H Q ⟨ρ, Hs, rp, p⟩ => post_ok (k := kOs X.K T) (v := []) p rp ⟨trivial, trivial, fun _ z => z.elim⟩ fun _ z => z.elim
/-- what stands beside outlives a run -/
theorem beside {K : PySem.W.Frag} {ρ1 ρ2 : Rho} {σ : L2.St} {Hs1 H1 Hs2 H2 : Hp} {s : SV} {v : V} (q1 : SRep K T Hs1 H1 s (some v)) (q2 : ∀ a, OwnAt H1 s (some v) a → ¬ Own H1 ρ1 σ a) (g : Grow ρ1 σ Hs1 H1 ρ2 σ Hs2 H2) :
    SRep K T Hs2 H2 s (some v) ∧ (∀ a, OwnAt H2 s (some v) a ↔ OwnAt H1 s (some v) a) ∧ ∀ a, OwnAt H1 s (some v) a → ¬ Fre H1 a := by
  have nf : ∀ a, OwnAt H1 s (some v) a → ¬ Fre H1 a := fun a o f => by
    obtain ⟨⟨u, e, n⟩, _⟩ := q1.owned o
    obtain ⟨ps, z⟩ := f u e
    exact n ps z
  have k : ∀ a, OwnAt H1 s (some v) a → H2 a = H1 a ∧ Hs2 a = none := fun a o => by
    obtain ⟨⟨u, e, n⟩, m⟩ := q1.owned o
    refine ⟨by rw [e]; exact g.fr a u e n (q2 a o), ?_⟩
    cases h : Hs2 a with
    | none => rfl
    | some w =>
      rcases g.nw a (by rw [h]; exact fun z => nomatch z) with z | z | z
      · exact absurd m z
      · exact absurd z (nf a o)
      · exact absurd z (q2 a o)
  obtain ⟨a, b⟩ := SRep.mv g.sh q1 k
  exact ⟨a, b, nf⟩
theorem sos_cons {a : Expr} {ma : M SV} {mr : M (List SV)} (ha : SimO T X W a ma) (hr : SimOs T X W es mr) (hs : starEach (a :: es) X.env = (false, eval a X.env) :: starEach es X.env := by rfl) : SimOs T X W (a :: es) (mConsO ma mr) :=
  pa_imp (pa_cons ha hr hs) fun σ H Q ⟨ρ, Hs, rp, p⟩ => ⟨ρ, Hs, rp, by
    unfold mConsO DS.bnd at p
    cases e1 : ma ρ with
    | bad => rw [e1] at p; exact p.elim
    | er x ρ1 => rw [e1] at p; exact p
    | ok s ρ1 =>
      rw [e1] at p
      intro v H1 Hs1 rp1 g1 ⟨q1, q2⟩ n1
      refine ⟨ρ1, Hs1, rp1, ?_⟩
      have p : Post X.K T X.mg W (kOs X.K T) ρ σ Hs H ((mr ρ1).bnd fun rs => ret (s :: rs)) Q := p
      cases e2 : mr ρ1 with
      | bad => rw [e2] at p; exact p.elim
      | er x ρ2 => rw [e2] at p; exact fun cls dd H2 Hs2 a b c => p cls dd H2 Hs2 a (g1.trans b) c
      | ok ss ρ2 =>
        rw [e2] at p
        intro vs H2 Hs2 rp2 g2 ⟨r1, r2, r3⟩ n2
        obtain ⟨b1, b2, b3⟩ := beside q1 q2 g2
        refine p (v :: vs) H2 Hs2 rp2 (g1.trans g2) ⟨⟨b1, r1⟩, ⟨fun a o z => b3 a ((b2 a).mp o) (n2 a z), r2⟩, fun a o z => ?_⟩ fun a o => ?_
        · rcases o with o | o
          · rcases g2.own z with z | z
            · exact q2 a ((b2 a).mp o) z
            · exact b3 a ((b2 a).mp o) z
          · exact r3 a o z
        · rcases o with o | o
          · exact n1 a ((b2 a).mp o)
          · exact g1.dm a (n2 a o)⟩
/-- data in an own place -/
def datS : RV → M SV
  | .dat x => ret (.d x)
  | .slot _ => fun _ => .bad
def mDat (ma : M RV) : M SV := bnd ma datS
theorem so_dat {ma : M RV} (ha : SimE T X W e ma) : SimO T X W e (mDat ma) :=
  pe_imp ha fun σ H Q ⟨ρ, Hs, rp, p⟩ => ⟨ρ, Hs, rp, by
    unfold mDat DS.bnd at p
    cases e1 : ma ρ with
    | bad => rw [e1] at p; exact p.elim
    | er x ρ1 => rw [e1] at p; exact p
    | ok r ρ1 =>
      rw [e1] at p
      intro v H1 Hs1 rp1 g1 ra _
      cases r with
      | slot i => exact p.elim
      | dat x => exact p v H1 Hs1 rp1 g1 ⟨⟨v, rfl, ra⟩, fun _ o => o.elim⟩ fun _ o => o.elim⟩
theorem own_after {ρ : Rho} {σ : L2.St} {H : Hp} {i : Nat} {s : SV} {v : Option V} {a : Addr} (h1 : ¬ OwnAt H s v a) (h2 : ¬ Own H ρ σ a) : ¬ Own H (ρ.set i s) (σ.set i v) a := fun ⟨j, o⟩ => (own_set o).elim (fun z => h1 z.2) fun z => h2 ⟨j, z⟩
theorem grow_setO2 {ρ : Rho} {σ σ1 : L2.St} {Hs H Hs1 H1 : Hp} {ρ1 : Rho} {i : Nat} {s : SV} {v : V} (gr : Grow ρ σ Hs H ρ1 σ1 Hs1 H1) (n : ∀ a, OwnAt H1 s (some v) a → Fre H a) : Grow ρ σ Hs H (ρ1.set i s) (σ1.set i (some v)) Hs1 H1 where
  fr := gr.fr
  dm := gr.dm
  sh := gr.sh
  nw := gr.nw
  ow := fun j a o => (own_set o).elim (fun ⟨_, z⟩ => .inr (n a z)) (gr.ow j a)
def par2O (i j : Nat) (ss : List SV) : M Fl := fun ρ => match ss with
  | [s, t] => .ok .nx ((ρ.set i s).set j t)
  | _ => .bad
def mParO (i j : Nat) (ms : M (List SV)) : M Fl := bnd ms fun ss => par2O i j ss
theorem ss_parO {g : Sg} {st : Stmt} {i j : Nat} {ms : M (List SV)} (ha : SimOs T X W es ms) (hi : i ∉ g.pr) (hj : j ∉ g.pr) (h : PA X es (tM X.K T X.mg W (kOs X.K T) ms) → PS X st (tPar i j (tM X.K T X.mg W (kOs X.K T) ms))) : SimS T g X W st (mParO i j ms) :=
  ps_imp (h ha) fun D σ H ⟨ρ, Hs, rp, p⟩ => ⟨ρ, Hs, rp, by
    unfold mParO DS.bnd at p
    cases e1 : ms ρ with
    | bad => rw [e1] at p; exact p
    | er e ρ1 => rw [e1] at p; exact fun cls dd H1 Hs1 a b c => p cls dd σ H1 Hs1 a b Kp.refl c
    | ok ss ρ1 =>
      rw [e1] at p
      intro vs H1 Hs1 rp1 gr ⟨q1, q2, q3⟩ n
      replace p : PostS X.K T X.mg g W D ρ σ Hs H (par2O i j ss ρ1) := p
      unfold par2O at p
      split at p
      · rename_i s t
        match vs, q1 with
        | [v, w], ⟨s1, s2, _⟩ =>
          have o1 : ∀ a, OwnAt H1 s (some v) a → ¬ Own H1 ρ1 σ a := fun a o => q3 a (.inl o)
          have o2 : ∀ a, OwnAt H1 t (some w) a → ¬ Own H1 (ρ1.set i s) (σ.set i (some v)) a := fun a o => own_after (fun z => q2.1 a z (.inl o)) (q3 a (.inr (.inl o)))
          exact ⟨v, w, rfl, p _ H1 Hs1 ((rp1.set s1 o1).set s2 o2) (grow_setO2 (grow_setO2 gr fun a o => n a (.inl o)) fun a o => n a (.inr (.inl o))) ((Kp.set hi).trans (Kp.set hj))⟩
      · exact p.elim⟩
def par3O (i j l : Nat) (ss : List SV) : M Fl := fun ρ => match ss with
  | [s, t, u] => .ok .nx (((ρ.set i s).set j t).set l u)
  | _ => .bad
def mPar3O (i j l : Nat) (ms : M (List SV)) : M Fl := bnd ms fun ss => par3O i j l ss
theorem ss_par3O {g : Sg} {st : Stmt} {i j l : Nat} {ms : M (List SV)} (ha : SimOs T X W es ms) (hi : i ∉ g.pr) (hj : j ∉ g.pr) (hk : l ∉ g.pr) (h : PA X es (tM X.K T X.mg W (kOs X.K T) ms) → PS X st (tPar3 i j l (tM X.K T X.mg W (kOs X.K T) ms))) : SimS T g X W st (mPar3O i j l ms) :=
  ps_imp (h ha) fun D σ H ⟨ρ, Hs, rp, p⟩ => ⟨ρ, Hs, rp, by
    unfold mPar3O DS.bnd at p
    cases e1 : ms ρ with
    | bad => rw [e1] at p; exact p
    | er e ρ1 => rw [e1] at p; exact fun cls dd H1 Hs1 a b c => p cls dd σ H1 Hs1 a b Kp.refl c
    | ok ss ρ1 =>
      rw [e1] at p
      intro vs H1 Hs1 rp1 gr ⟨q1, q2, q3⟩ n
      replace p : PostS X.K T X.mg g W D ρ σ Hs H (par3O i j l ss ρ1) := p
      unfold par3O at p
      split at p
      · rename_i s t u
        match vs, q1 with
        | [v, w, x], ⟨s1, s2, s3, _⟩ =>
          have o1 : ∀ a, OwnAt H1 s (some v) a → ¬ Own H1 ρ1 σ a := fun a o => q3 a (.inl o)
          have o2 : ∀ a, OwnAt H1 t (some w) a → ¬ Own H1 (ρ1.set i s) (σ.set i (some v)) a := fun a o => own_after (fun z => q2.1 a z (.inl o)) (q3 a (.inr (.inl o)))
          have o3 : ∀ a, OwnAt H1 u (some x) a → ¬ Own H1 ((ρ1.set i s).set j t) ((σ.set i (some v)).set j (some w)) a := fun a o => own_after (fun z => q2.2.1 a z (.inl o)) (own_after (fun z => q2.1 a z (.inr (.inl o))) (q3 a (.inr (.inr (.inl o)))))
          exact ⟨v, w, x, rfl, p _ H1 Hs1 (((rp1.set s1 o1).set s2 o2).set s3 o3) (grow_setO2 (grow_setO2 (grow_setO2 gr fun a o => n a (.inl o)) fun a o => n a (.inr (.inl o))) fun a o => n a (.inr (.inr (.inl o)))) (((Kp.set hi).trans (Kp.set hj)).trans (Kp.set hk))⟩
      · exact p.elim⟩
end
section
variable {X : Cx} {T : Tbs} {W : WX} {g : Sg} {a b : Expr} {x : Str} {pos : Pos}
theorem s_parO {i j : Nat} {y : Str} {px py pt pt2 : Pos} {kt k2 : Nat} {ms : M (List SV)} (hc : X.calm = true) (hN : X.N.Nodup) (hi : X.N[i]? = some x) (hj : X.N[j]? = some y) (hij : i ≠ j) (hx : X.env.scope.names.lookup x = some .local) (hy : X.env.scope.names.lookup y = some .local) (pi : i ∉ g.pr) (pj : j ∉ g.pr) (ha : SimOs T X W [a, b] ms)
    (hw : swappedStores [.Tuple [.Name x px, .Name y py] kt pt] (.Tuple [a, b] k2 pt2) X.env = pure (some [x, y])) (hs : swapsWithSole [.Tuple [.Name x px, .Name y py] kt pt] (.Tuple [a, b] k2 pt2) pos.line X.env = pure false := by rfl) :
    SimS T g X W (.Assign [.Tuple [.Name x px, .Name y py] kt pt] (.Tuple [a, b] k2 pt2) pos) (mParO i j ms) := ss_parO ha pi pj fun q => ps_par hc hN hi hj hij hx hy q hw hs
end
/-! own values put into a tuple and taken out of it -/
section
variable {X : Cx} {T : Tbs} {W : WX} {g : Sg} {a : Expr} {es ts : List Expr} {pos : Pos}
def setsO : List Nat → List SV → Rho → Option Rho
  | [], [], ρ => some ρ
  | i :: is, s :: ss, ρ => setsO is ss (ρ.set i s)
  | _, _, _ => none
def tGO (K : PySem.W.Frag) (T : Tbs) (g : Sg) (is : List Nat) : TGs := fun vs σ H Q => ∃ ρ Hs ss ρ', Rep K T Hs ρ σ H ∧ sReps K T Hs H ss vs ∧ sepL H ss vs ∧ (∀ a, ownsL H ss vs a → ¬ Own H ρ σ a) ∧ setsO is ss ρ = some ρ' ∧
  ∀ σ', Rep K T Hs ρ' σ' H → (∀ j a, OwnI H ρ' σ' j a → OwnI H ρ σ j a ∨ ownsL H ss vs a) → Kp g.pr σ σ' → Q σ' H
def SimGsO (T : Tbs) (g : Sg) (is : List Nat) (X : Cx) (es : List Expr) : Prop := PGs X es (tGO X.K T g is)
theorem sgo_nil : SimGsO T g [] X [] := pgs_imp pgs_nil fun v σ H Q ⟨ρ, Hs, ss, ρ', rp, q1, q2, q3, e, k⟩ => by
  match ss, v, q1 with
  | [], [], _ =>
    cases e
    exact ⟨rfl, k σ rp (fun _ _ o => .inl o) Kp.refl⟩
theorem sgo_cons {i : Nat} {is : List Nat} (h1 : PG X a (gName i)) (hi : i ∉ g.pr) (h2 : SimGsO T g is X es) (hs : (assignEach (a :: es) X.env).map (·.2) = assign a X.env :: (assignEach es X.env).map (·.2) := by rfl) : SimGsO T g (i :: is) X (a :: es) :=
  pgs_imp (pgs_cons h1 h2 hs) fun vs σ H Q ⟨ρ, Hs, ss, ρ', rp, q1, q2, q3, e, k⟩ => by
    match ss, vs, q1 with
    | s :: ss, v :: vs, ⟨s1, q1⟩ =>
      refine ⟨v, vs, rfl, ρ.set i s, Hs, ss, ρ', rp.set s1 fun a o => q3 a (.inl o), q1, q2.2, fun a o => own_after (fun z => q2.1 a z o) (q3 a (.inr o)), e, fun σ' rp' ow kp => k σ' rp' (fun j a o => ?_) ((Kp.set hi).trans kp)⟩
      rcases ow j a o with o | o
      · rcases own_set o with ⟨_, z⟩ | z
        · exact .inr (.inl z)
        · exact .inl z
      · exact .inr (.inr o)
    | [], [], _ => cases e
theorem sReps_len {K : PySem.W.Frag} {Hs H : Hp} : ∀ {ss : List SV} {vs : List V}, sReps K T Hs H ss vs → vs.length = ss.length
  | [], [], _ => rfl
  | _ :: _, _ :: _, ⟨_, h⟩ => congrArg Nat.succ (sReps_len h)
theorem sReps_up {K : PySem.W.Frag} {Hs H : Hp} {p : Addr} {o : HO} (hp : H p = none) : ∀ {ss : List SV} {vs : List V}, sReps K T Hs H ss vs → sReps K T Hs (upd H p o) ss vs ∧ ∀ a, ownsL (upd H p o) ss vs a ↔ ownsL H ss vs a
  | [], [], _ => ⟨trivial, fun _ => Iff.rfl⟩
  | s :: ss, v :: vs, ⟨h, r⟩ => by
    obtain ⟨b1, b2⟩ := SRep.mv (H' := upd H p o) (Same.refl Hs) h fun a ow => by
      obtain ⟨⟨u, h1, _⟩, h2⟩ := h.owned ow
      exact ⟨by rw [upd_ne (ne_of_none h1 hp)], h2⟩
    obtain ⟨c1, c2⟩ := sReps_up hp (o := o) r
    exact ⟨⟨b1, c1⟩, fun a => or_congr (b2 a) (c2 a)⟩
theorem sepL_up {K : PySem.W.Frag} {Hs H : Hp} {p : Addr} {o : HO} (hp : H p = none) : ∀ {ss : List SV} {vs : List V}, sReps K T Hs H ss vs → sepL H ss vs → sepL (upd H p o) ss vs
  | [], [], _, _ => trivial
  | s :: ss, v :: vs, ⟨h, r⟩, ⟨q, z⟩ => by
    obtain ⟨b1, b2⟩ := SRep.mv (H' := upd H p o) (Same.refl Hs) h fun a ow => by
      obtain ⟨⟨u, h1, _⟩, h2⟩ := h.owned ow
      exact ⟨by rw [upd_ne (ne_of_none h1 hp)], h2⟩
    exact ⟨fun a x y => q a ((b2 a).mp x) (((sReps_up hp (o := o) r).2 a).mp y), sepL_up hp r z⟩
theorem setsO_len : ∀ {is : List Nat} {ss : List SV} {ρ ρ' : Rho}, setsO is ss ρ = some ρ' → is.length = ss.length
  | [], [], _, _, _ => rfl
  | _ :: _, _ :: _, _, _, h => congrArg Nat.succ (setsO_len (show setsO _ _ _ = _ from h))
  | [], _ :: _, _, _, h => nomatch h
  | _ :: _, [], _, _, h => nomatch h
theorem ownsL_at {K : PySem.W.Frag} {Hs H : Hp} {a : Addr} : ∀ {ss : List SV} {vs : List V}, sReps K T Hs H ss vs → ownsL H ss vs a → ∃ s v, SRep K T Hs H s (some v) ∧ OwnAt H s (some v) a
  | [], [], _, o => o.elim
  | s :: _, v :: _, ⟨h, r⟩, o => o.elim (fun z => ⟨s, v, h, z⟩) (ownsL_at r)
def asgO (is : List Nat) (ss : List SV) : M Fl := fun ρ => if ss.length ≤ 30 then (match setsO is ss ρ with
  | some ρ' => .ok .nx ρ'
  | none => .bad) else .bad
def mAsgO (is : List Nat) (ms : M (List SV)) : M Fl := bnd ms fun ss => asgO is ss
theorem s_asgO {n k k2 : Nat} {is : List Nat} {ms : M (List SV)} {pt pt2 : Pos} (hc : X.calm = true) (ha : SimOs T X W es ms) (hg : SimGsO T g is X ts) (hn : (assignEach ts X.env).length = n := by rfl) (hl : is.length = n := by rfl) (hst : (assignEach ts X.env).findIdx? (·.1) = none := by rfl)
    (hs : swapsWithSole [.Tuple ts k pt] (.Tuple es k2 pt2) pos.line X.env = pure false := by rfl) (hw : swappedStores [.Tuple ts k pt] (.Tuple es k2 pt2) X.env = pure none := by rfl) (h1 : (assignEach [.Tuple ts k pt] X.env).map (·.2) = [assign (.Tuple ts k pt) X.env] := by rfl) :
    SimS T g X W (.Assign [.Tuple ts k pt] (.Tuple es k2 pt2) pos) (mAsgO is ms) :=
  ps_imp (ps_asg (pe_tup ha) (pg_tup hc hg hn hst) hs hw h1) fun D σ H ⟨ρ, Hs, rp, p⟩ => ⟨ρ, Hs, rp, by
    unfold mAsgO DS.bnd at p
    cases e1 : ms ρ with
    | bad => rw [e1] at p; exact p
    | er e ρ1 => rw [e1] at p; exact fun cls dd H1 Hs1 a b c => p cls dd σ H1 Hs1 a b Kp.refl c
    | ok ss ρ1 =>
      rw [e1] at p
      intro vs H1 Hs1 rp1 gr ⟨q1, q2, q3⟩ nn
      replace p : PostS X.K T X.mg g W D ρ σ Hs H (asgO is ss ρ1) := p
      unfold asgO at p
      split at p
      · rename_i h30
        split at p
        · rename_i ρ' e2
          have hlen := sReps_len q1
          have il : is.length = ss.length := setsO_len e2
          refine ⟨by rw [hlen, sizeLine_eq]; omega, fun l hl' => ⟨l, vs, rfl, SqT.of upd_same, by rw [hlen, ← il]; exact hl, ρ1, Hs1, ss, ρ', rp1.beside hl', (sReps_up hl' q1).1, sepL_up hl' q1 q2, fun a o z => ?_, e2, fun σ' rp' ow kp => p σ' _ Hs1 rp' ?_ kp⟩⟩
          · have z' := (Grow.beside rp1 (o := HO.tup vs) hl').own z
            have o' := ((sReps_up (o := HO.tup vs) hl' q1).2 a).mp o
            rcases z' with z' | z'
            · exact q3 a o' z'
            · obtain ⟨s, v, sr, oa⟩ := ownsL_at q1 o'
              obtain ⟨⟨u, h1, h3⟩, _⟩ := sr.owned oa
              obtain ⟨ps, h4⟩ := z' u h1
              exact h3 ps h4
          · have g2 : Grow ρ σ Hs H ρ1 σ Hs1 (upd H1 l (HO.tup vs)) := gr.trans (Grow.beside rp1 hl')
            exact ⟨g2.fr, g2.dm, g2.sh, g2.nw, fun j a o => by
              rcases ow j a o with o | o
              · exact g2.ow j a o
              · exact .inr (nn a (((sReps_up (o := HO.tup vs) hl' q1).2 a).mp o))⟩
        · exact p.elim
      · exact p.elim⟩
end
section
variable {X : Cx} {T : Tbs} {W : WX} {a b : Expr} {pos : Pos} {pa pb : Pm}
theorem t_in (hu : X.A.units + 1 < cLine) (ha : SimP T X a pa) (hb : SimP T X b pb) (hm : behindInMarks .In b = false) : SimT T X W (.Compare a [.In] [b] pos) (mT (mP (pIn false pa pb))) :=
  pt_imp (pt_cmp (pc_din hu ha hb) hm) fun σ H Q q => rf_in (neg := false) rfl σ H _ (rf_p σ H _ (tM_bnd q fun a ρ1 v H1 Hs1 rp1 _ ra p => asB_end rp1 ra p))
theorem t_notIn (hu : X.A.units + 1 < cLine) (ha : SimP T X a pa) (hb : SimP T X b pb) (hm : behindInMarks .NotIn b = false) : SimT T X W (.Compare a [.NotIn] [b] pos) (mT (mP (pIn true pa pb))) :=
  pt_imp (pt_cmp (pc_dnotin hu ha hb) hm) fun σ H Q q => rf_in (neg := true) rfl σ H _ (rf_p σ H _ (tM_bnd q fun a ρ1 v H1 Hs1 rp1 _ ra p => asB_end rp1 ra p))
end
theorem bt_sorted : bootBuiltins "sorted" = some (.builtin "sorted") := by decide +kernel
theorem un1 {A : Around} {k : Nat} (hr : Room k A) : A.units + 1 < cLine := by have := hr.un; omega
end DS
end
section
set_option pp.maxSteps 400
set_option Elab.async false
set_option linter.all false
set_option maxRecDepth 100000
set_option maxHeartbeats 8000000
namespace Zk32
open PySem PySem.Spec PyProof.Rows L2 DS
/-- the clauses of _law_refused -/
def er__law_refused (e : Er) : Option PyData := if e.cls = "BadPicture" then (if e.fld = "at" then (fun _ => some (.str "picture")) e.val else none) else if e.cls = "Refused" then (if e.fld = "value" then out2 "refused" e.val else none) else none
def g__law_box : Sg := ⟨2, []⟩
def m__law_box : FnSem := bodyF g__law_box 4 ((mSeq (mSet 2 (mOp2 dAdd (mOp2 dMul (mC (.int 9413)) (mVar 1)) (mC (.int 5101))))
  (mSeq (mIte (mT (mOp2 dLt (mVar 1) (mCB dLen (mCons (mVar 0) mNil)))) (mSet 2 (mCB dAbs (mCons (mCB dInt (mCons (mOp2 dIx (mVar 0) (mVar 1)) mNil)) mNil))) (mIte (mT (mOp2 dGt (mCB dLen (mCons (mVar 0) mNil)) (mC (.int 0)))) (mSet 2 (mOp2 dAdd (mVar 2) (mOp2 dMul (mOp2 dMod (mCB dInt (mCons (mCB dAbs (mCons (mCB dInt (mCons (mOp2 dIx (mVar 0) (mOp2 dMod (mCB dInt (mCons (mVar 1) mNil)) (mCB dLen (mCons (mVar 0) mNil)))) mNil)) mNil)) mNil)) (mC (.int 2147483587))) (mC (.int 25057))))) mNx))
  (mSeq (mSet 3 (mIf (mT (mOp2 dGe (mVar 2) (mOp2 dPow (mC (.int 10)) (mC (.int 18))))) (mVar 2) (mC (.int 0))))
  (mRetO (mLstO (mCons (mVar 3) (mCons (mOp2 dAdd (mOp2 dMod (mCB dInt (mCons (mOp2 dAdd (mOp2 dMul (mOp2 dMod (mCB dInt (mCons (mVar 2) mNil)) (mC (.int 2147483587))) (mC (.int 69069))) (mOp2 dMul (mC (.int 5101)) (mVar 1))) mNil)) (mC (.int 2147483587))) (mC (.int 1))) mNil))))))))
def g_is_sequence : Sg := ⟨1, []⟩
def m_is_sequence : FnSem := bodyF g_is_sequence 1 ((mRet (g := g_is_sequence) (mIsi ["list", "tuple"] (mVar 0))))
def g_is_integer : Sg := ⟨1, []⟩
def m_is_integer : FnSem := bodyF g_is_integer 1 ((mRet (g := g_is_integer) (mAndV (mIsi ["int"] (mVar 0)) (mNotV (mIsi ["bool"] (mVar 0))))))
def g_is_positive : Sg := ⟨1, []⟩
def m_is_positive : FnSem := bodyF g_is_positive 1 ((mRet (g := g_is_positive) (mAndV (mCall m_is_integer (mCons (mVar 0) mNil)) (mOp2 dGe (mVar 0) (mC (.int 1))))))
def g_is_next : Sg := ⟨2, []⟩
def m_is_next : FnSem := bodyF g_is_next 2 ((mSeq (mIte (mOr (mNot (mT (mCall m_is_positive (mCons (mVar 1) mNil)))) (mT (mOp2 dGt (mVar 1) (mC (.int 64))))) (mRet (g := g_is_next) (mC (.bool false))) mNx)
  (mRet (g := g_is_next) (mOrV (mOp2 dEq (mCB dLen (mCons (mVar 0) mNil)) (mC (.int 0))) (mAndV (mOp2 dGt (mVar 1) (mOp2 dIx (mVar 0) (mOp1 dNeg (mC (.int 1))))) (mOp2 dEq (mOp2 dMod (mVar 1) (mOp2 dIx (mVar 0) (mOp1 dNeg (mC (.int 1))))) (mC (.int 0))))))))
def g_check_sizes : Sg := ⟨1, []⟩
def lb_check_sizes_1 : M Fl := (mIte (mNot (mT (mCall m_is_next (mCons (mSl (mVar 0) none (some (mVar 1))) (mCons (mVar 2) mNil))))) (mRaise "BadSizes" "at" (mVar 1)) mNx)
def m_check_sizes : FnSem := bodyF g_check_sizes 3 ((mSeq (mIte (mOr (mNot (mT (mCall m_is_sequence (mCons (mVar 0) mNil)))) (mNot (mT (mChain dLe dLe (mC (.int 1)) (mCB dLen (mCons (mVar 0) mNil)) (mC (.int 5)))))) (mRaise "BadSizes" "at" (mOp1 dNeg (mC (.int 1)))) mNx)
  (mSeq (mFor (mEnum (mVar 0)) (gT 2 (gA (gN 1) (gA (gN 2) gA0))) lb_check_sizes_1)
  (mRet (g := g_check_sizes) (mCB dTuple (mCons (mVar 0) mNil))))))
def g_is_number : Sg := ⟨1, []⟩
def m_is_number : FnSem := bodyF g_is_number 1 ((mRet (g := g_is_number) (mAndV (mCall m_is_integer (mCons (mVar 0) mNil)) (mOp2 dGe (mVar 0) (mC (.int 0))))))
def g_check_pages : Sg := ⟨1, []⟩
def lb_check_pages_1 : M Fl := (mIte (mOr (mNot (mT (mCall m_is_number (mCons (mVar 2) mNil)))) (mAnd (mT (mOp2 dGt (mVar 1) (mC (.int 0)))) (mT (mOp2 dLe (mVar 2) (mOp2 dIx (mVar 0) (mOp2 dSub (mVar 1) (mC (.int 1)))))))) (mRaise "BadPages" "at" (mVar 1)) mNx)
def m_check_pages : FnSem := bodyF g_check_pages 3 ((mSeq (mIte (mOr (mNot (mT (mCall m_is_sequence (mCons (mVar 0) mNil)))) (mT (mOp2 dGt (mCB dLen (mCons (mVar 0) mNil)) (mC (.int 64))))) (mRaise "BadPages" "at" (mOp1 dNeg (mC (.int 1)))) mNx)
  (mSeq (mFor (mEnum (mVar 0)) (gT 2 (gA (gN 1) (gA (gN 2) gA0))) lb_check_pages_1)
  (mRet (g := g_check_pages) (mCB dTuple (mCons (mVar 0) mNil))))))
def g_arena : Sg := ⟨2, []⟩
def lb_arena_1 : M Fl := (mAugO 4 (mToRgO (mCons (mOp2 dMul (mVar 5) (mOp2 dIx (mVar 6) (mOp1 dNeg (mC (.int 1))))) (mCons (mOp2 dMul (mOp2 dAdd (mVar 5) (mC (.int 1))) (mOp2 dIx (mVar 6) (mOp1 dNeg (mC (.int 1))))) (mCons (mVar 3) mNil)))))
def m_arena : FnSem := bodyF g_arena 8 ((mSeq (mPar 6 7 (mCons (mCall m_check_sizes (mCons (mVar 0) mNil)) (mCons (mCall m_check_pages (mCons (mVar 1) mNil)) mNil)))
  (mSeq (mSet 2 (mOp2 dSub (mCB dLen (mCons (mVar 6) mNil)) (mC (.int 1))))
  (mSeq (mIte (mT (mOp2 dEq (mCB dLen (mCons (mVar 7) mNil)) (mC (.int 1)))) (mAug dSub 2 (mC (.int 1))) mNx)
  (mSeq (mIte (mOr (mT (mOp2 dLt (mVar 2) (mC (.int 1)))) (mT (mOp2 dEq (mCB dLen (mCons (mVar 7) mNil)) (mC (.int 0))))) (mRaise "Refused" "value" (mVar 0)) mNx)
  (mSeq (mSet 3 (mOp2 dIx (mVar 6) (mVar 2)))
  (mSeq (mSetO 4 (mLstO mNil))
  (mSeq (mFor (mIt (mVar 7)) (gN 5) lb_arena_1)
  (mRet (g := g_arena) (mTup (mCons (mOp2 dIx (mVar 6) (mOp2 dSub (mVar 2) (mC (.int 1)))) (mCons (mVar 3) (mCons (mCB dTuple (mCons (mVar 4) mNil)) mNil)))))))))))))
def g__law_take : Sg := ⟨2, [0]⟩
def m__law_take : FnSem := bodyF g__law_take 4 ((mSeq (mIte (mT (mOp2 dGt (mOp2 dIx (mVar 0) (mC (.int 0))) (mC (.int 0)))) (mSeq (mSet 3 (mOp2 dMod (mCB dInt (mCons (mOp2 dIx (mVar 0) (mC (.int 0))) mNil)) (mVar 1)))
  (mSeq (mSetL 0 (mC (.int 0)) (mOp2 dDiv (mOp2 dIx (mVar 0) (mC (.int 0))) (mVar 1)))
  (mRet (g := g__law_take) (mVar 3)))) mNx)
  (mSeq (mSet 2 (mOp2 dMod (mCB dInt (mCons (mOp2 dAdd (mOp2 dMul (mOp2 dIx (mVar 0) (mC (.int 1))) (mC (.int 40692))) (mC (.int 97))) mNil)) (mC (.int 2147483399))))
  (mSeq (mSetL 0 (mC (.int 1)) (mOp2 dAdd (mOp2 dMod (mCB dInt (mCons (mOp2 dAdd (mOp2 dMul (mVar 2) (mC (.int 40014))) (mC (.int 11))) mNil)) (mC (.int 2147483587))) (mC (.int 1))))
  (mRet (g := g__law_take) (mOp2 dMod (mCB dInt (mCons (mOp2 dDiv (mOp2 dAdd (mOp2 dMul (mVar 2) (mC (.int 2147483629))) (mOp2 dIx (mVar 0) (mC (.int 1)))) (mC (.int 8209))) mNil)) (mVar 1)))))))
def g__law_pick : Sg := ⟨2, [0]⟩
def m__law_pick : FnSem := bodyF g__law_pick 2 ((mRet (g := g__law_pick) (mOp2 dIx (mVar 1) (mCall m__law_take (mCons (mVar 0) (mCons (mCB dLen (mCons (mVar 1) mNil)) mNil))))))
def g__law_sizes : Sg := ⟨3, [0]⟩
def lb__law_sizes_1 : M Fl := (mSeq (mSet 6 (mOp2 dMul (mOp2 dIx (mVar 4) (mVar 5)) (mCall m__law_pick (mCons (mVar 0) (mCons (mLst (mCons (mC (.int 2)) (mCons (mC (.int 2)) (mCons (mC (.int 3)) (mCons (mC (.int 2)) (mCons (mC (.int 4)) mNil)))))) mNil)))))
  (mSeq (mIte (mOr (mT (mOp2 dGt (mVar 6) (mOp2 dMul (mVar 1) (mOp2 dIx (mVar 4) (mC (.int 0)))))) (mT (mOp2 dGt (mVar 6) (mC (.int 64))))) mBrk mNx)
  (mApp 4 (mVar 6))))
def m__law_sizes : FnSem := bodyF g__law_sizes 8 ((mSeq (mSet 3 (mOp2 dAdd (mVar 2) (mCall m__law_take (mCons (mVar 0) (mCons (mOp2 dSub (mC (.int 5)) (mVar 2)) mNil)))))
  (mSeq (mSetO 4 (mLstO (mCons (mCall m__law_pick (mCons (mVar 0) (mCons (mLst (mCons (mC (.int 1)) (mCons (mC (.int 1)) (mCons (mC (.int 1)) (mCons (mC (.int 2)) (mCons (mC (.int 3)) mNil)))))) mNil))) mNil)))
  (mSeq (mFor (bnd (mCons (mOp2 dSub (mVar 3) (mC (.int 1))) mNil) rng1) (gN 5) lb__law_sizes_1)
  (mSeq (mIte (mT (mOp2 dLt (mCB dLen (mCons (mVar 4) mNil)) (mVar 2))) (mSet 4 (mSl (mLC (mIt (mTup (mCons (mC (.int 1)) (mCons (mC (.int 2)) (mCons (mC (.int 4)) (mCons (mC (.int 8)) mNil)))))) (gN 7) mYes (mOp2 dMul (mOp2 dIx (mVar 4) (mC (.int 0))) (mVar 7)) [7]) none (some (mVar 2)))) mNx)
  (mRet (g := g__law_sizes) (mCB dTuple (mCons (mVar 4) mNil))))))))
def g__law_pages : Sg := ⟨2, [0]⟩
def lb__law_pages_1 : M Fl := (mApp 2 (mOp2 dAdd (mOp2 dAdd (mOp2 dIx (mVar 2) (mVar 3)) (mC (.int 1))) (mCall m__law_take (mCons (mVar 0) (mCons (mC (.int 2)) mNil)))))
def m__law_pages : FnSem := bodyF g__law_pages 4 ((mSeq (mSetO 2 (mLstO (mCons (mCall m__law_take (mCons (mVar 0) (mCons (mC (.int 3)) mNil))) mNil)))
  (mSeq (mFor (bnd (mCons (mOp2 dSub (mVar 1) (mC (.int 1))) mNil) rng1) (gN 3) lb__law_pages_1)
  (mRet (g := g__law_pages) (mCB dTuple (mCons (mVar 2) mNil))))))
def g_foe_many : Sg := ⟨2, []⟩
def m_foe_many : FnSem := bodyF g_foe_many 5 ((mSeq (mAsg (gT 3 (gA (gN 2) (gA (gN 3) (gA (gN 4) gA0)))) (mCall m_arena (mCons (mVar 0) (mCons (mVar 1) mNil))))
  (mRet (g := g_foe_many) (mOp2 dAdd (mOp2 dAdd (mOp2 dMul (mCB dLen (mCons (mVar 4) mNil)) (mOp2 dDiv (mVar 3) (mVar 2))) (mOp2 dDiv (mVar 3) (mVar 2))) (mC (.int 1))))))
def g_cells_of : Sg := ⟨2, []⟩
def m_cells_of : FnSem := bodyF g_cells_of 2 ((mRet (g := g_cells_of) (mToRg .list (mCons (mVar 1) (mCons (mOp2 dAdd (mVar 1) (mVar 0)) mNil)))))
def g_hold : Sg := ⟨2, [0]⟩
def lb_hold_1 : M Fl := (mPut (pVar 0) (pVar 3) (mOp2 dIx (mVar 1) (mC (.int 0))))
def m_hold : FnSem := bodyF g_hold 4 ((mSeq (mSet 2 (mCall m_cells_of (mCons (mOp2 dIx (mVar 1) (mC (.int 1))) (mCons (mOp2 dIx (mVar 1) (mC (.int 2))) mNil))))
  (mSeq (mIte (mT (mCB dAny (mCons (mLC (mIt (mVar 2)) (gN 3) mYes (mP (pIn false (pVar 3) (pVar 0))) [3]) mNil))) (mRet (g := g_hold) (mC (.bool false))) mNx)
  (mSeq (mFor (mIt (mVar 2)) (gN 3) lb_hold_1)
  (mRet (g := g_hold) (mC (.bool true)))))))
def g_in_pages : Sg := ⟨3, []⟩
def m_in_pages : FnSem := bodyF g_in_pages 3 ((mRet (g := g_in_pages) (mOp2 dIn (mOp2 dDiv (mVar 2) (mOp2 dIx (mVar 0) (mOp1 dNeg (mC (.int 1))))) (mVar 1))))
def g_is_block : Sg := ⟨3, []⟩
def m_is_block : FnSem := bodyF g_is_block 6 ((mSeq (mIte (mOr (mNot (mT (mCall m_is_sequence (mCons (mVar 2) mNil)))) (mT (mOp2 dNe (mCB dLen (mCons (mVar 2) mNil)) (mC (.int 3))))) (mRet (g := g_is_block) (mC (.bool false))) mNx)
  (mSeq (mAsg (gT 3 (gA (gN 3) (gA (gN 4) (gA (gN 5) gA0)))) (mVar 2))
  (mSeq (mIte (mOr (mNot (mT (mCall m_is_number (mCons (mVar 3) mNil)))) (mOr (mNot (mT (mCall m_is_integer (mCons (mVar 4) mNil)))) (mT (mOp2 dNotIn (mVar 4) (mVar 0))))) (mRet (g := g_is_block) (mC (.bool false))) mNx)
  (mRet (g := g_is_block) (mAndV (mCall m_is_number (mCons (mVar 5) mNil)) (mAndV (mOp2 dEq (mOp2 dMod (mVar 5) (mVar 4)) (mC (.int 0))) (mCall m_in_pages (mCons (mVar 0) (mCons (mVar 1) (mCons (mVar 5) mNil)))))))))))
def g_check_picture : Sg := ⟨3, []⟩
def lb_check_picture_1 : M Fl := (mSeq (mIte (mOr (mNot (mT (mCall m_is_block (mCons (mVar 4) (mCons (mVar 5) (mCons (mVar 7) mNil)))))) (mAnd (mT (mOp2 dGt (mVar 6) (mC (.int 0)))) (mT (mOp2 dLe (mOp2 dIx (mVar 7) (mC (.int 0))) (mOp2 dIx (mOp2 dIx (mVar 2) (mOp2 dSub (mVar 6) (mC (.int 1)))) (mC (.int 0))))))) (mRaise "BadPicture" "at" (mVar 6)) mNx)
  (mIte (mNot (mT (mCall m_hold (mCons (mVar 3) (mCons (mVar 7) mNil))))) (mRaise "BadPicture" "at" (mVar 6)) mNx))
def m_check_picture : FnSem := bodyF g_check_picture 8 ((mSeq (mPar 4 5 (mCons (mCall m_check_sizes (mCons (mVar 0) mNil)) (mCons (mCall m_check_pages (mCons (mVar 1) mNil)) mNil)))
  (mSeq (mIte (mNot (mT (mCall m_is_sequence (mCons (mVar 2) mNil)))) (mRaise "BadPicture" "at" (mOp1 dNeg (mC (.int 1)))) mNx)
  (mSeq (mSetO 3 (ret (.od [])))
  (mSeq (mFor (mEnum (mVar 2)) (gT 2 (gA (gN 6) (gA (gN 7) gA0))) lb_check_picture_1)
  (mRet (g := g_check_picture) (mCB dTuple (mCons (mLC (mIt (mVar 2)) (gN 7) mYes (mCB dTuple (mCons (mVar 7) mNil)) [7]) mNil))))))))
def g_least_in : Sg := ⟨3, []⟩
def m_least_in : FnSem := bodyF g_least_in 7 ((mSeq (mSet 3 (mLC (mIt (mVar 0)) (gT 3 (gA (gN 4) (gA (gN 5) (gA (gN 6) gA0)))) (mT (mChain dLe dLt (mVar 1) (mVar 6) (mOp2 dAdd (mVar 1) (mVar 2)))) (mTup (mCons (mVar 6) (mCons (mVar 4) mNil))) [4, 5, 6]))
  (mRet (g := g_least_in) (mIf (mT (mOp2 dGt (mCB dLen (mCons (mVar 3) mNil)) (mC (.int 0)))) (mOp2 dIx (mCB dMinP (mCons (mVar 3) mNil)) (mC (.int 1))) (mC .none)))))
def g_foe_request : Sg := ⟨4, []⟩
def m_foe_request : FnSem := bodyF g_foe_request 12 ((mSeq (mAsg (gT 3 (gA (gN 7) (gA (gN 8) (gA (gN 9) gA0)))) (mCall m_arena (mCons (mVar 0) (mCons (mVar 1) mNil))))
  (mSeq (mIte (mOr (mNot (mT (mCall m_is_number (mCons (mVar 2) mNil)))) (mT (mOp2 dGe (mVar 2) (mCall m_foe_many (mCons (mVar 0) (mCons (mVar 1) mNil)))))) (mRaise "Refused" "value" (mVar 2)) mNx)
  (mSeq (mSet 4 (mCall m_check_picture (mCons (mVar 0) (mCons (mVar 1) (mCons (mVar 3) mNil)))))
  (mSeq (mSet 5 (mOp2 dDiv (mVar 8) (mVar 7)))
  (mSeq (mSet 6 (mOp2 dMul (mCB dLen (mCons (mVar 9) mNil)) (mVar 5)))
  (mSeq (mIte (mT (mOp2 dLt (mVar 2) (mVar 6))) (mRet (g := g_foe_request) (mTup (mCons (mC (.str "take")) (mCons (mVar 7) mNil)))) mNx)
  (mSeq (mIte (mT (mOp2 dLt (mVar 2) (mOp2 dAdd (mVar 6) (mVar 5)))) (mSeq (mSet 10 (mIf (mT (mOp2 dEq (mVar 2) (mVar 6))) (mOp2 dIx (mVar 9) (mC (.int 0))) (mOp2 dIx (mVar 9) (mC (.int 1)))))
  (mSeq (mSet 11 (mCall m_least_in (mCons (mVar 4) (mCons (mVar 10) (mCons (mVar 8) mNil)))))
  (mSeq (mIte (mT (mOp2 dIs (mVar 11) (mC .none))) (mRaise "Refused" "value" (mVar 3)) mNx)
  (mRet (g := g_foe_request) (mTup (mCons (mC (.str "give")) (mCons (mVar 11) mNil))))))) mNx)
  (mRet (g := g_foe_request) (mTup (mCons (mC (.str "take")) (mCons (mVar 8) mNil))))))))))))
def g__law_cells : Sg := ⟨1, []⟩
def lb__law_cells_1 : M Fl := (mPut (pVar 1) (pVar 5) (mVar 2))
def lb__law_cells_2 : M Fl := (mFor (bnd (mCons (mVar 4) (mCons (mOp2 dAdd (mVar 4) (mVar 3)) mNil)) rng2) (gN 5) lb__law_cells_1)
def m__law_cells : FnSem := bodyF g__law_cells 6 ((mSeq (mSetO 1 (ret (.od [])))
  (mSeq (mFor (mIt (mVar 0)) (gT 3 (gA (gN 2) (gA (gN 3) (gA (gN 4) gA0)))) lb__law_cells_2)
  (mRet (g := g__law_cells) (mVar 1)))))
def g__law_free : Sg := ⟨4, []⟩
def lb__law_free_1 : M Fl := (mIte (mT (mOp2 dEq (mLC (bnd (mCons (mVar 7) (mCons (mOp2 dAdd (mVar 7) (mVar 3)) mNil)) rng2) (gN 8) (mT (mP (pIn false (pVar 8) (pVar 5)))) (mVar 8) [8]) (mLst mNil))) (mApp 6 (mVar 7)) mNx)
def lb__law_free_2 : M Fl := (mFor (bnd (mCons (mOp2 dMul (mVar 4) (mOp2 dIx (mVar 0) (mOp1 dNeg (mC (.int 1))))) (mCons (mOp2 dMul (mOp2 dAdd (mVar 4) (mC (.int 1))) (mOp2 dIx (mVar 0) (mOp1 dNeg (mC (.int 1))))) (mCons (mVar 3) mNil))) rng3) (gN 7) lb__law_free_1)
def m__law_free : FnSem := bodyF g__law_free 9 ((mSeq (mAsgO [5, 6] (mConsO (mCallO m__law_cells (mCons (mVar 2) mNil)) (mConsO (mLstO mNil) mNilO)))
  (mSeq (mFor (mIt (mVar 1)) (gN 4) lb__law_free_2)
  (mRet (g := g__law_free) (mVar 6)))))
def g__law_due : Sg := ⟨5, []⟩
def m__law_due : FnSem := bodyF g__law_due 11 ((mSeq (mSet 5 (mOp2 dDiv (mVar 1) (mVar 0)))
  (mSeq (mIte (mT (mOp2 dLt (mVar 3) (mOp2 dMul (mCB dLen (mCons (mVar 2) mNil)) (mVar 5)))) (mRet (g := g__law_due) (mTup (mCons (mC (.str "take")) (mCons (mVar 0) mNil)))) mNx)
  (mSeq (mIte (mT (mOp2 dEq (mVar 3) (mOp2 dAdd (mOp2 dMul (mCB dLen (mCons (mVar 2) mNil)) (mVar 5)) (mVar 5)))) (mRet (g := g__law_due) (mTup (mCons (mC (.str "take")) (mCons (mVar 1) mNil)))) mNx)
  (mSeq (mSet 6 (mIf (mT (mOp2 dEq (mVar 3) (mOp2 dMul (mCB dLen (mCons (mVar 2) mNil)) (mVar 5)))) (mOp2 dIx (mVar 2) (mC (.int 0))) (mOp2 dIx (mVar 2) (mC (.int 1)))))
  (mSeq (mSet 7 (mCB dSortP (mCons (mLC (mIt (mVar 4)) (gT 3 (gA (gN 8) (gA (gN 9) (gA (gN 10) gA0)))) (mT (mOp2 dGe (mVar 10) (mVar 6))) (mTup (mCons (mVar 10) (mCons (mVar 8) mNil))) [8, 9, 10]) mNil)))
  (mRet (g := g__law_due) (mTup (mCons (mC (.str "give")) (mCons (mOp2 dIx (mOp2 dIx (mVar 7) (mC (.int 0))) (mC (.int 1))) mNil))))))))))
def g_law : Sg := ⟨1, []⟩
def lb_law_1 : M Fl := (mSeq (mSet 13 (mCall m_foe_request (mCons (mVar 6) (mCons (mVar 7) (mCons (mVar 3) (mCons (mCB dTuple (mCons (mVar 12) mNil)) mNil))))))
  (mSeq (mIte (mT (mOp2 dEq (mOp2 dMod (mVar 3) (mC (.int 3))) (mC (.int 0)))) (mSet 13 (mCallKE m_foe_request 0 4 [3, 2, 1, 0] mNil (mCons (mLC (mIt (mVar 12)) (gN 14) mYes (mCB dList (mCons (mVar 14) mNil)) [14]) (mCons (mVar 3) (mCons (mCB dList (mCons (mVar 7) mNil)) (mCons (mCB dList (mCons (mVar 6) mNil)) mNil)))))) mNx)
  (mSeq (mIte (mT (mOp2 dNe (mCB dRepr (mCons (mVar 13) mNil)) (mCB dRepr (mCons (mCall m__law_due (mCons (mVar 8) (mCons (mVar 9) (mCons (mVar 10) (mCons (mVar 3) (mCons (mVar 12) mNil)))))) mNil)))) (mRet (g := g_law) (mC (.bool false))) mNx)
  (mIte (mT (mOp2 dEq (mOp2 dIx (mVar 13) (mC (.int 0))) (mC (.str "give")))) (mSet 12 (mLC (mIt (mVar 12)) (gN 14) (mT (mOp2 dNe (mOp2 dIx (mVar 14) (mC (.int 0))) (mOp2 dIx (mVar 13) (mC (.int 1))))) (mVar 14) [14])) (mIte (mT (mOp2 dLt (mVar 3) (mOp2 dSub (mVar 11) (mC (.int 1))))) (mSet 12 (mOp2 dAdd (mVar 12) (mLst (mCons (mTup (mCons (mVar 3) (mCons (mVar 8) (mCons (mCall m__law_pick (mCons (mVar 2) (mCons (mCall m__law_free (mCons (mVar 6) (mCons (mVar 7) (mCons (mVar 12) (mCons (mVar 8) mNil))))) mNil))) mNil)))) mNil)))) mNx)))))
def lb_law_2 : M Fl := (mSeq (mSetO 2 (mCallO m__law_box (mCons (mVar 0) (mCons (mVar 1) mNil))))
  (mSeq (mAsg (gT 2 (gA (gN 6) (gA (gN 7) gA0))) (mTup (mCons (mCall m__law_sizes (mCons (mVar 2) (mCons (mC (.int 8)) (mCons (mC (.int 2)) mNil)))) (mCons (mCall m__law_pages (mCons (mVar 2) (mCons (mOp2 dAdd (mC (.int 2)) (mCall m__law_take (mCons (mVar 2) (mCons (mC (.int 2)) mNil)))) mNil))) mNil))))
  (mSeq (mIte (mAnd (mT (mOp2 dGt (mCB dLen (mCons (mVar 6) mNil)) (mC (.int 2)))) (mT (mOp2 dEq (mCall m__law_take (mCons (mVar 2) (mCons (mC (.int 3)) mNil))) (mC (.int 0))))) (mSet 7 (mSl (mVar 7) none (some (mC (.int 1))))) mNx)
  (mSeq (mAsg (gT 3 (gA (gN 8) (gA (gN 9) (gA (gN 10) gA0)))) (mCall m_arena (mCons (mVar 6) (mCons (mVar 7) mNil))))
  (mSeq (mPar 11 12 (mCons (mCall m_foe_many (mCons (mVar 6) (mCons (mVar 7) mNil))) (mCons (mLst mNil) mNil)))
  (mSeq (mFor (bnd (mCons (mVar 11) mNil) rng1) (gN 3) lb_law_1)
  (mSeq (mSet 4 (mOp2 dSub (mOp2 dMul (mCB dLen (mCons (mVar 7) mNil)) (mOp2 dIx (mVar 6) (mOp1 dNeg (mC (.int 1))))) (mCB dSumA (mCons (mLC (mIt (mVar 12)) (gT 3 (gA (gN 15) (gA (gN 16) (gA (gN 17) gA0)))) mYes (mVar 16) [15, 16, 17]) mNil))))
  (mSeq (mIte (mOr (mT (mOp2 dNe (mVar 4) (mVar 9))) (mT (mOp2 dNe (mCall m__law_free (mCons (mVar 6) (mCons (mVar 7) (mCons (mVar 12) (mCons (mVar 9) mNil))))) (mLst mNil)))) (mRet (g := g_law) (mC (.bool false))) mNx)
  (mSeq (mSet 5 (mCall m__law_pick (mCons (mVar 2) (mCons (mLst (mCons (mVar 11) (mCons (mOp2 dSub (mC (.int 0)) (mC (.int 1))) (mCons (mC .none) (mCons (mC (.bool true)) (mCons (mC (.str "0")) (mCons (mTup (mCons (mC (.int 0)) mNil)) mNil))))))) mNil))))
  (mSeq (mIte (mT (mOp2 dNe (mHeard (fun _ => some .none) er__law_refused (mCall m_foe_request (mCons (mVar 6) (mCons (mVar 7) (mCons (mVar 5) (mCons (mC .none) mNil)))))) (mTup (mCons (mC (.str "refused")) (mCons (mCB dRepr (mCons (mVar 5) mNil)) mNil))))) (mRet (g := g_law) (mC (.bool false))) mNx)
  (mSeq (mIte (mT (mOp2 dNe (mHeard (fun _ => some .none) er__law_refused (mCall m_foe_request (mCons (mVar 6) (mCons (mVar 7) (mCons (mC (.int 0)) (mCons (mCall m__law_pick (mCons (mVar 2) (mCons (mLst (mCons (mC .none) (mCons (mTup (mCons (mTup (mCons (mC (.int 0)) (mCons (mC (.int 0)) (mCons (mC (.int 0)) mNil)))) mNil)) (mCons (mTup (mCons (mTup (mCons (mC (.int 0)) (mCons (mVar 8) mNil))) mNil)) mNil)))) mNil))) mNil)))))) (mC (.str "picture")))) (mRet (g := g_law) (mC (.bool false))) mNx)
  (mSeq (mSet 3 (mOp2 dAdd (mOp2 dMul (mCB dLen (mCons (mVar 10) mNil)) (mOp2 dDiv (mVar 9) (mVar 8))) (mCall m__law_take (mCons (mVar 2) (mCons (mC (.int 2)) mNil)))))
  (mIte (mT (mOp2 dNe (mHeard (fun _ => some .none) er__law_refused (mCall m_foe_request (mCons (mVar 6) (mCons (mVar 7) (mCons (mVar 3) (mCons (mTup mNil) mNil)))))) (mTup (mCons (mC (.str "refused")) (mCons (mC (.str "()")) mNil))))) (mRet (g := g_law) (mC (.bool false))) mNx)))))))))))))
def m_law : FnSem := bodyF g_law 18 ((mSeq (mFor (bnd (mCons (mC (.int 2)) mNil) rng1) (gN 1) lb_law_2)
  (mRet (g := g_law) (mC (.bool true)))))
end Zk32
end
section
set_option pp.maxSteps 1500
set_option Elab.async false
set_option linter.all false
set_option maxRecDepth 100000
set_option maxHeartbeats 4000000
namespace Zk32
open PySem PySem.Spec PyProof.Rows L2 DS
theorem ite_ap {α β : Type} {c : Prop} [Decidable c] (f g : α → β) (x : α) : (if c then f else g) x = if c then f x else g x := by split <;> rfl
theorem rr1 : List.range 1 = [0] := rfl
theorem rr2 : List.range 2 = [0, 1] := rfl
theorem rr3 : List.range 3 = [0, 1, 2] := rfl
theorem rr4 : List.range 4 = [0, 1, 2, 3] := rfl
theorem lg8209 : Nat.log2 8209 < 9000 := by decide +kernel
theorem is_sequence_eq (x : PyData) : m_is_sequence [.d x] = .ok (.dat (.bool (dIsi ["list", "tuple"] x))) [.d x] := by
  simp [m_is_sequence, g_is_sequence, DS.bodyF, DS.okArgs, DS.finR, DS.mSeq, DS.sq, DS.bnd, DS.ret, DS.bad, DS.mSet, DS.mSetO, DS.keepD, DS.mVar, DS.mC, DS.mOp2, DS.mOp1, DS.mCB, DS.opD, DS.op1D, DS.opnD, DS.RV.data, DS.datas, DS.mNil, DS.mCons, DS.dAdd, DS.dSub, DS.dMul, DS.dDiv, DS.dMod, DS.dPow, DS.dNeg, DS.dLt, DS.dLe, DS.dGt, DS.dGe, DS.dLen, DS.dTuple, DS.dList, DS.dAbs, DS.dInt, DS.dMax2, DS.dMin2, DS.asB, DS.mT, DS.mNot, DS.mAnd, DS.mOr, DS.datB, DS.mAndV, DS.mOrV, DS.mNotV, DS.mIf, DS.dats, DS.dspD, DS.mTup, DS.mLst, DS.ownL, DS.mLstO, DS.mChain, DS.mNx, DS.mBrk, DS.mCt, DS.mAug, DS.aug2, DS.dAddI, DS.mRet, DS.mRetO, DS.mRetN, DS.mIte, DS.mApp, DS.app2, DS.isOL, DS.mSetL, DS.setL2, DS.gN, DS.gA0, DS.gA, DS.gT, DS.bindD, DS.mAsg, DS.itemsD, DS.mIt, DS.mEnum, DS.mFor, DS.svsOf, DS.slotsOf, DS.RV.sv, DS.callD, DS.roD, DS.roO, DS.mCall, DS.mCallO, DS.mIsi, DS.dIsi, DS.kindOf, DS.notOwn, DS.mRaise, DS.mSl, DS.optI, DS.dSl, DS.mPar, DS.par2, DS.R.bnd_ok, DS.R.bnd_er, DS.R.bnd_bad, DS.wb, DS.mYes, DS.isNon, DS.dIs, DS.dIsNot, ite_ap, rr1, rr2, rr3, rr4, lg8209]
def isInt : PyData → Bool
  | .int _ => true
  | _ => false
theorem is_integer_eq (x : PyData) : m_is_integer [.d x] = .ok (.dat (.bool (isInt x))) [.d x] := by
  cases x <;> simp [m_is_integer, g_is_integer, isInt, DS.bodyF, DS.okArgs, DS.finR, DS.mSeq, DS.sq, DS.bnd, DS.ret, DS.bad, DS.mSet, DS.mSetO, DS.keepD, DS.mVar, DS.mC, DS.mOp2, DS.mOp1, DS.mCB, DS.opD, DS.op1D, DS.opnD, DS.RV.data, DS.datas, DS.mNil, DS.mCons, DS.dAdd, DS.dSub, DS.dMul, DS.dDiv, DS.dMod, DS.dPow, DS.dNeg, DS.dLt, DS.dLe, DS.dGt, DS.dGe, DS.dLen, DS.dTuple, DS.dList, DS.dAbs, DS.dInt, DS.dMax2, DS.dMin2, DS.asB, DS.mT, DS.mNot, DS.mAnd, DS.mOr, DS.datB, DS.mAndV, DS.mOrV, DS.mNotV, DS.mIf, DS.dats, DS.dspD, DS.mTup, DS.mLst, DS.ownL, DS.mLstO, DS.mChain, DS.mNx, DS.mBrk, DS.mCt, DS.mAug, DS.aug2, DS.dAddI, DS.mRet, DS.mRetO, DS.mRetN, DS.mIte, DS.mApp, DS.app2, DS.isOL, DS.mSetL, DS.setL2, DS.gN, DS.gA0, DS.gA, DS.gT, DS.bindD, DS.mAsg, DS.itemsD, DS.mIt, DS.mEnum, DS.mFor, DS.svsOf, DS.slotsOf, DS.RV.sv, DS.callD, DS.roD, DS.roO, DS.mCall, DS.mCallO, DS.mIsi, DS.dIsi, DS.kindOf, DS.notOwn, DS.mRaise, DS.mSl, DS.optI, DS.dSl, DS.mPar, DS.par2, DS.R.bnd_ok, DS.R.bnd_er, DS.R.bnd_bad, DS.wb, DS.mYes, DS.isNon, DS.dIs, DS.dIsNot, ite_ap, rr1, rr2, rr3, rr4, lg8209]
def isPos : PyData → Bool
  | .int i => decide (1 ≤ i)
  | _ => false
theorem is_positive_eq (x : PyData) : m_is_positive [.d x] = .ok (.dat (.bool (isPos x))) [.d x] := by
  cases x <;> simp [m_is_positive, g_is_positive, is_integer_eq, isInt, isPos, DS.bodyF, DS.okArgs, DS.finR, DS.mSeq, DS.sq, DS.bnd, DS.ret, DS.bad, DS.mSet, DS.mSetO, DS.keepD, DS.mVar, DS.mC, DS.mOp2, DS.mOp1, DS.mCB, DS.opD, DS.op1D, DS.opnD, DS.RV.data, DS.datas, DS.mNil, DS.mCons, DS.dAdd, DS.dSub, DS.dMul, DS.dDiv, DS.dMod, DS.dPow, DS.dNeg, DS.dLt, DS.dLe, DS.dGt, DS.dGe, DS.dLen, DS.dTuple, DS.dList, DS.dAbs, DS.dInt, DS.dMax2, DS.dMin2, DS.asB, DS.mT, DS.mNot, DS.mAnd, DS.mOr, DS.datB, DS.mAndV, DS.mOrV, DS.mNotV, DS.mIf, DS.dats, DS.dspD, DS.mTup, DS.mLst, DS.ownL, DS.mLstO, DS.mChain, DS.mNx, DS.mBrk, DS.mCt, DS.mAug, DS.aug2, DS.dAddI, DS.mRet, DS.mRetO, DS.mRetN, DS.mIte, DS.mApp, DS.app2, DS.isOL, DS.mSetL, DS.setL2, DS.gN, DS.gA0, DS.gA, DS.gT, DS.bindD, DS.mAsg, DS.itemsD, DS.mIt, DS.mEnum, DS.mFor, DS.svsOf, DS.slotsOf, DS.RV.sv, DS.callD, DS.roD, DS.roO, DS.mCall, DS.mCallO, DS.mIsi, DS.dIsi, DS.kindOf, DS.notOwn, DS.mRaise, DS.mSl, DS.optI, DS.dSl, DS.mPar, DS.par2, DS.R.bnd_ok, DS.R.bnd_er, DS.R.bnd_bad, DS.wb, DS.mYes, DS.isNon, DS.dIs, DS.dIsNot, ite_ap, rr1, rr2, rr3, rr4, lg8209]
def isNum : PyData → Bool
  | .int i => decide (0 ≤ i)
  | _ => false
theorem is_number_eq (x : PyData) : m_is_number [.d x] = .ok (.dat (.bool (isNum x))) [.d x] := by
  cases x <;> simp [m_is_number, g_is_number, is_integer_eq, isInt, isNum, DS.bodyF, DS.okArgs, DS.finR, DS.mSeq, DS.sq, DS.bnd, DS.ret, DS.bad, DS.mSet, DS.mSetO, DS.keepD, DS.mVar, DS.mC, DS.mOp2, DS.mOp1, DS.mCB, DS.opD, DS.op1D, DS.opnD, DS.RV.data, DS.datas, DS.mNil, DS.mCons, DS.dAdd, DS.dSub, DS.dMul, DS.dDiv, DS.dMod, DS.dPow, DS.dNeg, DS.dLt, DS.dLe, DS.dGt, DS.dGe, DS.dLen, DS.dTuple, DS.dList, DS.dAbs, DS.dInt, DS.dMax2, DS.dMin2, DS.asB, DS.mT, DS.mNot, DS.mAnd, DS.mOr, DS.datB, DS.mAndV, DS.mOrV, DS.mNotV, DS.mIf, DS.dats, DS.dspD, DS.mTup, DS.mLst, DS.ownL, DS.mLstO, DS.mChain, DS.mNx, DS.mBrk, DS.mCt, DS.mAug, DS.aug2, DS.dAddI, DS.mRet, DS.mRetO, DS.mRetN, DS.mIte, DS.mApp, DS.app2, DS.isOL, DS.mSetL, DS.setL2, DS.gN, DS.gA0, DS.gA, DS.gT, DS.bindD, DS.mAsg, DS.itemsD, DS.mIt, DS.mEnum, DS.mFor, DS.svsOf, DS.slotsOf, DS.RV.sv, DS.callD, DS.roD, DS.roO, DS.mCall, DS.mCallO, DS.mIsi, DS.dIsi, DS.kindOf, DS.notOwn, DS.mRaise, DS.mSl, DS.optI, DS.dSl, DS.mPar, DS.par2, DS.R.bnd_ok, DS.R.bnd_er, DS.R.bnd_bad, DS.wb, DS.mYes, DS.isNon, DS.dIs, DS.dIsNot, ite_ap, rr1, rr2, rr3, rr4, lg8209]
theorem mulOk_s {a b : Int} (ha : a.natAbs < 2 ^ 1000) (hb : b.natAbs < 2 ^ 1000) : mulOk a b = true := by
  have f : ∀ n : Nat, n < 2 ^ 1000 → n.log2 ≤ 1000 := fun n h => by
    by_cases z : n = 0
    · subst z; exact Nat.le_of_ble_eq_true rfl
    · exact Nat.le_of_lt ((Nat.log2_lt z).mpr h)
  have h1 := f _ ha
  have h2 := f _ hb
  unfold mulOk
  exact decide_eq_true (by omega)
theorem big {a : Int} (h1 : -(10 ^ 60) ≤ a) (h2 : a ≤ 10 ^ 60) : a.natAbs < 2 ^ 1000 := by
  have : (10 : Nat) ^ 60 < 2 ^ 1000 := by decide +kernel
  have e : (10 : Int) ^ 60 = ((10 ^ 60 : Nat) : Int) := by norm_cast
  omega
theorem log_s {n : Int} (h1 : 0 < n) (h2 : n ≤ 10 ^ 60) : n.natAbs.log2 < 9000 := by
  have := big (a := n) (by omega) h2
  have z : n.natAbs ≠ 0 := by omega
  exact Nat.lt_of_lt_of_le ((Nat.log2_lt z).mpr this) (by decide)
theorem ix0 (a b : PyData) : atI [a, b] 0 = some a := rfl
theorem ix1 (a b : PyData) : atI [a, b] 1 = some b := rfl
theorem take_eq (g st n : Int) (hs : 0 ≤ st ∧ st ≤ 2147483587) (hn : 0 < n) (hn2 : n ≤ 10 ^ 60) (hg : 0 ≤ g) : ∃ (d g' st' : Int), m__law_take [.ol [.int g, .int st], .d (.int n)] = .ok (.dat (.int d)) [.ol [.int g', .int st'], .d (.int n)] ∧ 0 ≤ d ∧ d < n ∧ 0 ≤ g' ∧ 0 ≤ st' ∧ st' ≤ 2147483587 := by
  have hl := log_s hn hn2
  by_cases h : 0 < g
  · refine ⟨g % n, g / n, st, ?_, Int.emod_nonneg _ (by omega), Int.emod_lt_of_pos _ hn, Int.ediv_nonneg hg (by omega), hs.1, hs.2⟩
    simp [m__law_take, g__law_take, dIx, h, hn, hl, ix0, ix1, ixN, DS.bodyF, DS.okArgs, DS.finR, DS.mSeq, DS.sq, DS.bnd, DS.ret, DS.bad, DS.mSet, DS.mSetO, DS.keepD, DS.mVar, DS.mC, DS.mOp2, DS.mOp1, DS.mCB, DS.opD, DS.op1D, DS.opnD, DS.RV.data, DS.datas, DS.mNil, DS.mCons, DS.dAdd, DS.dSub, DS.dMul, DS.dDiv, DS.dMod, DS.dPow, DS.dNeg, DS.dLt, DS.dLe, DS.dGt, DS.dGe, DS.dLen, DS.dTuple, DS.dList, DS.dAbs, DS.dInt, DS.dMax2, DS.dMin2, DS.asB, DS.mT, DS.mNot, DS.mAnd, DS.mOr, DS.datB, DS.mAndV, DS.mOrV, DS.mNotV, DS.mIf, DS.dats, DS.dspD, DS.mTup, DS.mLst, DS.ownL, DS.mLstO, DS.mChain, DS.mNx, DS.mBrk, DS.mCt, DS.mAug, DS.aug2, DS.dAddI, DS.mRet, DS.mRetO, DS.mRetN, DS.mIte, DS.mApp, DS.app2, DS.isOL, DS.mSetL, DS.setL2, DS.gN, DS.gA0, DS.gA, DS.gT, DS.bindD, DS.mAsg, DS.itemsD, DS.mIt, DS.mEnum, DS.mFor, DS.svsOf, DS.slotsOf, DS.RV.sv, DS.callD, DS.roD, DS.roO, DS.mCall, DS.mCallO, DS.mIsi, DS.dIsi, DS.kindOf, DS.notOwn, DS.mRaise, DS.mSl, DS.optI, DS.dSl, DS.mPar, DS.par2, DS.R.bnd_ok, DS.R.bnd_er, DS.R.bnd_bad, DS.wb, DS.mYes, DS.isNon, DS.dIs, DS.dIsNot, ite_ap, rr1, rr2, rr3, rr4, lg8209]
  · have q1 := Int.emod_nonneg (st * 40692 + 97) (b := 2147483399) (by decide)
    have q2 := Int.emod_lt_of_pos (st * 40692 + 97) (b := 2147483399) (by decide)
    have q3 := Int.emod_nonneg ((st * 40692 + 97) % 2147483399 * 40014 + 11) (b := 2147483587) (by decide)
    have q4 := Int.emod_lt_of_pos ((st * 40692 + 97) % 2147483399 * 40014 + 11) (b := 2147483587) (by decide)
    refine ⟨(((st * 40692 + 97) % 2147483399 * 2147483629 + (((st * 40692 + 97) % 2147483399 * 40014 + 11) % 2147483587 + 1)) / 8209) % n, g, ((st * 40692 + 97) % 2147483399 * 40014 + 11) % 2147483587 + 1, ?_, Int.emod_nonneg _ (by omega), Int.emod_lt_of_pos _ hn, hg, by omega, by omega⟩
    have m1 : mulOk st 40692 = true := mulOk_s (big (by omega) (by omega)) (big (by omega) (by omega))
    have m2 : mulOk ((st * 40692 + 97) % 2147483399) 40014 = true := mulOk_s (big (by omega) (by omega)) (big (by omega) (by omega))
    have m3 : mulOk ((st * 40692 + 97) % 2147483399) 2147483629 = true := mulOk_s (big (by omega) (by omega)) (big (by omega) (by omega))
    simp [m__law_take, g__law_take, dIx, h, hn, hl, ix0, ix1, ixN, m1, m2, m3, DS.bodyF, DS.okArgs, DS.finR, DS.mSeq, DS.sq, DS.bnd, DS.ret, DS.bad, DS.mSet, DS.mSetO, DS.keepD, DS.mVar, DS.mC, DS.mOp2, DS.mOp1, DS.mCB, DS.opD, DS.op1D, DS.opnD, DS.RV.data, DS.datas, DS.mNil, DS.mCons, DS.dAdd, DS.dSub, DS.dMul, DS.dDiv, DS.dMod, DS.dPow, DS.dNeg, DS.dLt, DS.dLe, DS.dGt, DS.dGe, DS.dLen, DS.dTuple, DS.dList, DS.dAbs, DS.dInt, DS.dMax2, DS.dMin2, DS.asB, DS.mT, DS.mNot, DS.mAnd, DS.mOr, DS.datB, DS.mAndV, DS.mOrV, DS.mNotV, DS.mIf, DS.dats, DS.dspD, DS.mTup, DS.mLst, DS.ownL, DS.mLstO, DS.mChain, DS.mNx, DS.mBrk, DS.mCt, DS.mAug, DS.aug2, DS.dAddI, DS.mRet, DS.mRetO, DS.mRetN, DS.mIte, DS.mApp, DS.app2, DS.isOL, DS.mSetL, DS.setL2, DS.gN, DS.gA0, DS.gA, DS.gT, DS.bindD, DS.mAsg, DS.itemsD, DS.mIt, DS.mEnum, DS.mFor, DS.svsOf, DS.slotsOf, DS.RV.sv, DS.callD, DS.roD, DS.roO, DS.mCall, DS.mCallO, DS.mIsi, DS.dIsi, DS.kindOf, DS.notOwn, DS.mRaise, DS.mSl, DS.optI, DS.dSl, DS.mPar, DS.par2, DS.R.bnd_ok, DS.R.bnd_er, DS.R.bnd_bad, DS.wb, DS.mYes, DS.isNon, DS.dIs, DS.dIsNot, ite_ap, rr1, rr2, rr3, rr4, lg8209]
end Zk32
end
section
set_option pp.maxSteps 1500
set_option Elab.async false
set_option linter.all false
set_option maxRecDepth 100000
set_option maxHeartbeats 4000000
namespace Zk32
open PySem PySem.Spec PyProof.Rows L2 DS
def Bx (b : SV) : Prop := ∃ g st : Int, b = .ol [.int g, .int st] ∧ 0 ≤ g ∧ 0 ≤ st ∧ st ≤ 2147483587
theorem take_bx {b : SV} (h : Bx b) {n : Int} (hn : 0 < n) (hn2 : n ≤ 10 ^ 60) : ∃ (d : Int) (b' : SV), m__law_take [b, .d (.int n)] = .ok (.dat (.int d)) [b', .d (.int n)] ∧ 0 ≤ d ∧ d < n ∧ Bx b' := by
  obtain ⟨g, st, rfl, h1, h2, h3⟩ := h
  obtain ⟨d, g', st', e, q1, q2, q3, q4, q5⟩ := take_eq g st n ⟨h2, h3⟩ hn hn2 h1
  exact ⟨d, _, e, q1, q2, g', st', rfl, q3, q4, q5⟩
theorem pick_bx {b : SV} (h : Bx b) {xs : List PyData} (hx : xs ≠ []) (hz : xs.length ≤ 1000) : ∃ (x : PyData) (b' : SV), m__law_pick [b, .d (.list xs)] = .ok (.dat x) [b', .d (.list xs)] ∧ x ∈ xs ∧ Bx b' := by
  have hpos : 0 < (xs.length : Int) := by
    cases xs with
    | nil => exact absurd rfl hx
    | cons a r => simp only [List.length_cons]; omega
  obtain ⟨d, b', e, h1, h2, h3⟩ := take_bx h hpos (by omega)
  obtain ⟨g, st, rfl, _⟩ := h
  obtain ⟨g', st', rfl, q⟩ := h3
  have hd : d.toNat < xs.length := by omega
  refine ⟨xs[d.toNat], _, ?_, List.getElem_mem _, g', st', rfl, q⟩
  have ha : atI xs d = some xs[d.toNat] := by
    unfold atI ixN
    rw [if_pos h1, if_pos (by omega)]
    simp [hd]
  simp [m__law_pick, g__law_pick, e, dIx, ha, DS.bodyF, DS.okArgs, DS.finR, DS.mSeq, DS.sq, DS.bnd, DS.ret, DS.bad, DS.mSet, DS.mSetO, DS.keepD, DS.mVar, DS.mC, DS.mOp2, DS.mOp1, DS.mCB, DS.opD, DS.op1D, DS.opnD, DS.RV.data, DS.datas, DS.mNil, DS.mCons, DS.dAdd, DS.dSub, DS.dMul, DS.dDiv, DS.dMod, DS.dPow, DS.dNeg, DS.dLt, DS.dLe, DS.dGt, DS.dGe, DS.dLen, DS.dTuple, DS.dList, DS.dAbs, DS.dInt, DS.dMax2, DS.dMin2, DS.asB, DS.mT, DS.mNot, DS.mAnd, DS.mOr, DS.datB, DS.mAndV, DS.mOrV, DS.mNotV, DS.mIf, DS.dats, DS.dspD, DS.mTup, DS.mLst, DS.ownL, DS.mLstO, DS.mChain, DS.mNx, DS.mBrk, DS.mCt, DS.mAug, DS.aug2, DS.dAddI, DS.mRet, DS.mRetO, DS.mRetN, DS.mIte, DS.mApp, DS.app2, DS.isOL, DS.mSetL, DS.setL2, DS.gN, DS.gA0, DS.gA, DS.gT, DS.bindD, DS.mAsg, DS.itemsD, DS.mIt, DS.mEnum, DS.mFor, DS.svsOf, DS.slotsOf, DS.RV.sv, DS.callD, DS.roD, DS.roO, DS.mCall, DS.mCallO, DS.mIsi, DS.dIsi, DS.kindOf, DS.notOwn, DS.mRaise, DS.mSl, DS.optI, DS.dSl, DS.mPar, DS.par2, DS.R.bnd_ok, DS.R.bnd_er, DS.R.bnd_bad, DS.wb, DS.mYes, DS.isNon, DS.dIs, DS.dIsNot, ite_ap, rr1, rr2, rr3, rr4, lg8209]
/-- a for loop that ends by itself or by break -/
theorem forL_inv {gm : Gm} {mb : M Fl} {E : Rho → Prop} : ∀ {items : List PyData} {ρ : Rho} (I : List PyData → Rho → Prop),
    (∀ x r ρ, I (x :: r) ρ → ∃ ρ1 ρ2, gm x ρ = some ρ1 ∧ ((mb ρ1 = .ok .nx ρ2 ∧ I r ρ2) ∨ (mb ρ1 = .ok .brk ρ2 ∧ E ρ2))) → (∀ ρ, I [] ρ → E ρ) → I items ρ → ∃ ρ', forL gm mb items ρ = .ok .nx ρ' ∧ E ρ'
  | [], ρ, I, _, hE, h => ⟨ρ, rfl, hE ρ h⟩
  | x :: r, ρ, I, hs, hE, h => by
    obtain ⟨ρ1, ρ2, h1, h2⟩ := hs x r ρ h
    unfold forL
    rw [h1]
    dsimp only
    rcases h2 with ⟨h2, h3⟩ | ⟨h2, h3⟩
    · rw [h2]
      exact forL_inv I hs hE h3
    · rw [h2]
      exact ⟨ρ2, rfl, h3⟩
theorem cut_take {xs : List PyData} {i : Nat} (h : i ≤ xs.length) : DS.cutD xs none (some (i : Int)) = xs.take i := by
  unfold DS.cutD
  have e0 : HT.sIx xs.length 0 none = 0 := rfl
  have e1 : HT.sIx xs.length xs.length (some (i : Int)) = i := by
    unfold HT.sIx
    dsimp only
    rw [if_neg (by omega)]
    simp; omega
  rw [e0, e1, List.drop_zero, Nat.sub_zero]
/-- the last int of a list, or 0 -/
def lastI (ys : List Int) : Int := ys.getLast?.getD 0
def nextB (ys : List Int) (z : Int) : Bool := decide (1 ≤ z ∧ z ≤ 64) && (ys.isEmpty || (decide (lastI ys < z) && decide (z % lastI ys = 0)))
def dl (ys : List Int) : List PyData := ys.map .int
theorem atI_last {xs : List PyData} (h : xs ≠ []) : atI xs (-1) = xs.getLast? := by
  have hp : 0 < xs.length := List.length_pos_iff.mpr h
  unfold atI ixN
  rw [if_neg (by decide), if_pos (by omega)]
  have e : ((-1 : Int) + (xs.length : Int)).toNat = xs.length - 1 := by omega
  simp only [Option.bind_some, e]
  rw [List.getLast?_eq_getElem?]
theorem dl_len (ys : List Int) : (dl ys).length = ys.length := by simp [dl]
theorem dl_last {ys : List Int} (h : ys ≠ []) : (dl ys).getLast? = some (.int (lastI ys)) := by
  unfold dl lastI
  rw [List.getLast?_map]
  cases e : ys.getLast? with
  | none => exact absurd (List.getLast?_eq_none_iff.mp e) h
  | some a => rfl
/-- a list or a tuple -/
def Seq (mk : List PyData → PyData) : Prop := mk = .list ∨ mk = .tuple
theorem is_next_eq {mk : List PyData → PyData} (hm : Seq mk) (ys : List Int) (hp : ys ≠ [] → 0 < lastI ys) (z : Int) : m_is_next [.d (mk (dl ys)), .d (.int z)] = .ok (.dat (.bool (nextB ys z))) [.d (mk (dl ys)), .d (.int z)] := by
  by_cases hz : 1 ≤ z ∧ z ≤ 64
  · have h64 : ¬ 64 < z := by omega
    by_cases hy : ys = []
    · subst hy
      rcases hm with rfl | rfl <;> simp [m_is_next, g_is_next, is_positive_eq, isPos, nextB, dl, hz, h64, dEq, dEqB, DS.bodyF, DS.okArgs, DS.finR, DS.mSeq, DS.sq, DS.bnd, DS.ret, DS.bad, DS.mSet, DS.mSetO, DS.keepD, DS.mVar, DS.mC, DS.mOp2, DS.mOp1, DS.mCB, DS.opD, DS.op1D, DS.opnD, DS.RV.data, DS.datas, DS.mNil, DS.mCons, DS.dAdd, DS.dSub, DS.dMul, DS.dDiv, DS.dMod, DS.dPow, DS.dNeg, DS.dLt, DS.dLe, DS.dGt, DS.dGe, DS.dLen, DS.dTuple, DS.dList, DS.dAbs, DS.dInt, DS.dMax2, DS.dMin2, DS.asB, DS.mT, DS.mNot, DS.mAnd, DS.mOr, DS.datB, DS.mAndV, DS.mOrV, DS.mNotV, DS.mIf, DS.dats, DS.dspD, DS.mTup, DS.mLst, DS.ownL, DS.mLstO, DS.mChain, DS.mNx, DS.mBrk, DS.mCt, DS.mAug, DS.aug2, DS.dAddI, DS.mRet, DS.mRetO, DS.mRetN, DS.mIte, DS.mApp, DS.app2, DS.isOL, DS.mSetL, DS.setL2, DS.gN, DS.gA0, DS.gA, DS.gT, DS.bindD, DS.mAsg, DS.itemsD, DS.mIt, DS.mEnum, DS.mFor, DS.svsOf, DS.slotsOf, DS.RV.sv, DS.callD, DS.roD, DS.roO, DS.mCall, DS.mCallO, DS.mIsi, DS.dIsi, DS.kindOf, DS.notOwn, DS.mRaise, DS.mSl, DS.optI, DS.dSl, DS.mPar, DS.par2, DS.R.bnd_ok, DS.R.bnd_er, DS.R.bnd_bad, DS.wb, DS.mYes, DS.isNon, DS.dIs, DS.dIsNot, ite_ap, rr1, rr2, rr3, rr4, lg8209]
    · have hl := dl_last hy
      have ha := atI_last (xs := dl ys) (by intro q; exact hy (by simpa [dl] using q))
      rw [hl] at ha
      have h0 := hp hy
      have hne : (ys.length : Int) ≠ 0 := by
        have := List.length_pos_iff.mpr hy
        omega
      by_cases c1 : lastI ys < z <;> by_cases c2 : z % lastI ys = 0 <;> rcases hm with rfl | rfl <;>
        simp [m_is_next, g_is_next, is_positive_eq, isPos, nextB, hz, h64, dEq, dEqB, dIx, ha, h0, dl_len, hy, hne, c1, c2, DS.bodyF, DS.okArgs, DS.finR, DS.mSeq, DS.sq, DS.bnd, DS.ret, DS.bad, DS.mSet, DS.mSetO, DS.keepD, DS.mVar, DS.mC, DS.mOp2, DS.mOp1, DS.mCB, DS.opD, DS.op1D, DS.opnD, DS.RV.data, DS.datas, DS.mNil, DS.mCons, DS.dAdd, DS.dSub, DS.dMul, DS.dDiv, DS.dMod, DS.dPow, DS.dNeg, DS.dLt, DS.dLe, DS.dGt, DS.dGe, DS.dLen, DS.dTuple, DS.dList, DS.dAbs, DS.dInt, DS.dMax2, DS.dMin2, DS.asB, DS.mT, DS.mNot, DS.mAnd, DS.mOr, DS.datB, DS.mAndV, DS.mOrV, DS.mNotV, DS.mIf, DS.dats, DS.dspD, DS.mTup, DS.mLst, DS.ownL, DS.mLstO, DS.mChain, DS.mNx, DS.mBrk, DS.mCt, DS.mAug, DS.aug2, DS.dAddI, DS.mRet, DS.mRetO, DS.mRetN, DS.mIte, DS.mApp, DS.app2, DS.isOL, DS.mSetL, DS.setL2, DS.gN, DS.gA0, DS.gA, DS.gT, DS.bindD, DS.mAsg, DS.itemsD, DS.mIt, DS.mEnum, DS.mFor, DS.svsOf, DS.slotsOf, DS.RV.sv, DS.callD, DS.roD, DS.roO, DS.mCall, DS.mCallO, DS.mIsi, DS.dIsi, DS.kindOf, DS.notOwn, DS.mRaise, DS.mSl, DS.optI, DS.dSl, DS.mPar, DS.par2, DS.R.bnd_ok, DS.R.bnd_er, DS.R.bnd_bad, DS.wb, DS.mYes, DS.isNon, DS.dIs, DS.dIsNot, ite_ap, rr1, rr2, rr3, rr4, lg8209]
  · have hc : ¬ 1 ≤ z ∨ 64 < z := by omega
    rcases hc with hc | hc
    · rcases hm with rfl | rfl <;> simp [m_is_next, g_is_next, is_positive_eq, isPos, nextB, hz, hc, DS.bodyF, DS.okArgs, DS.finR, DS.mSeq, DS.sq, DS.bnd, DS.ret, DS.bad, DS.mSet, DS.mSetO, DS.keepD, DS.mVar, DS.mC, DS.mOp2, DS.mOp1, DS.mCB, DS.opD, DS.op1D, DS.opnD, DS.RV.data, DS.datas, DS.mNil, DS.mCons, DS.dAdd, DS.dSub, DS.dMul, DS.dDiv, DS.dMod, DS.dPow, DS.dNeg, DS.dLt, DS.dLe, DS.dGt, DS.dGe, DS.dLen, DS.dTuple, DS.dList, DS.dAbs, DS.dInt, DS.dMax2, DS.dMin2, DS.asB, DS.mT, DS.mNot, DS.mAnd, DS.mOr, DS.datB, DS.mAndV, DS.mOrV, DS.mNotV, DS.mIf, DS.dats, DS.dspD, DS.mTup, DS.mLst, DS.ownL, DS.mLstO, DS.mChain, DS.mNx, DS.mBrk, DS.mCt, DS.mAug, DS.aug2, DS.dAddI, DS.mRet, DS.mRetO, DS.mRetN, DS.mIte, DS.mApp, DS.app2, DS.isOL, DS.mSetL, DS.setL2, DS.gN, DS.gA0, DS.gA, DS.gT, DS.bindD, DS.mAsg, DS.itemsD, DS.mIt, DS.mEnum, DS.mFor, DS.svsOf, DS.slotsOf, DS.RV.sv, DS.callD, DS.roD, DS.roO, DS.mCall, DS.mCallO, DS.mIsi, DS.dIsi, DS.kindOf, DS.notOwn, DS.mRaise, DS.mSl, DS.optI, DS.dSl, DS.mPar, DS.par2, DS.R.bnd_ok, DS.R.bnd_er, DS.R.bnd_bad, DS.wb, DS.mYes, DS.isNon, DS.dIs, DS.dIsNot, ite_ap, rr1, rr2, rr3, rr4, lg8209]
    · have hn : ¬ z ≤ 64 := by omega
      by_cases h1 : 1 ≤ z <;> rcases hm with rfl | rfl <;> simp [m_is_next, g_is_next, is_positive_eq, isPos, nextB, hz, hc, h1, hn, DS.bodyF, DS.okArgs, DS.finR, DS.mSeq, DS.sq, DS.bnd, DS.ret, DS.bad, DS.mSet, DS.mSetO, DS.keepD, DS.mVar, DS.mC, DS.mOp2, DS.mOp1, DS.mCB, DS.opD, DS.op1D, DS.opnD, DS.RV.data, DS.datas, DS.mNil, DS.mCons, DS.dAdd, DS.dSub, DS.dMul, DS.dDiv, DS.dMod, DS.dPow, DS.dNeg, DS.dLt, DS.dLe, DS.dGt, DS.dGe, DS.dLen, DS.dTuple, DS.dList, DS.dAbs, DS.dInt, DS.dMax2, DS.dMin2, DS.asB, DS.mT, DS.mNot, DS.mAnd, DS.mOr, DS.datB, DS.mAndV, DS.mOrV, DS.mNotV, DS.mIf, DS.dats, DS.dspD, DS.mTup, DS.mLst, DS.ownL, DS.mLstO, DS.mChain, DS.mNx, DS.mBrk, DS.mCt, DS.mAug, DS.aug2, DS.dAddI, DS.mRet, DS.mRetO, DS.mRetN, DS.mIte, DS.mApp, DS.app2, DS.isOL, DS.mSetL, DS.setL2, DS.gN, DS.gA0, DS.gA, DS.gT, DS.bindD, DS.mAsg, DS.itemsD, DS.mIt, DS.mEnum, DS.mFor, DS.svsOf, DS.slotsOf, DS.RV.sv, DS.callD, DS.roD, DS.roO, DS.mCall, DS.mCallO, DS.mIsi, DS.dIsi, DS.kindOf, DS.notOwn, DS.mRaise, DS.mSl, DS.optI, DS.dSl, DS.mPar, DS.par2, DS.R.bnd_ok, DS.R.bnd_er, DS.R.bnd_bad, DS.wb, DS.mYes, DS.isNon, DS.dIs, DS.dIsNot, ite_ap, rr1, rr2, rr3, rr4, lg8209]
end Zk32
end
section
set_option pp.maxSteps 1500
set_option Elab.async false
set_option linter.all false
set_option maxRecDepth 100000
set_option maxHeartbeats 4000000
namespace Zk32
open PySem PySem.Spec PyProof.Rows L2 DS
/-- a chain of sizes -/
def SzOk (ys : List Int) : Prop := 1 ≤ ys.length ∧ ys.length ≤ 5 ∧ ∀ i (h : i < ys.length), nextB (ys.take i) ys[i] = true
theorem enumD_nil (k : Nat) : enumD k [] = [] := rfl
theorem enumD_cons (k : Nat) (x : PyData) (r : List PyData) : enumD k (x :: r) = .tuple [.int k, x] :: enumD (k + 1) r := rfl
theorem dl_drop {ys : List Int} {i : Nat} (h : i < ys.length) : (dl ys).drop i = .int ys[i] :: (dl ys).drop (i + 1) := by
  unfold dl
  rw [← List.map_drop, ← List.map_drop, List.drop_eq_getElem_cons h]
  rfl
theorem dl_take (ys : List Int) (i : Nat) : (dl ys).take i = dl (ys.take i) := by unfold dl; rw [List.map_take]
theorem SzOk.pos {ys : List Int} (h : SzOk ys) {i : Nat} (hi : i < ys.length) : 1 ≤ ys[i] ∧ ys[i] ≤ 64 := by
  have := h.2.2 i hi
  unfold nextB at this
  simp at this
  exact this.1
theorem lastI_take {ys : List Int} {i : Nat} (hi : i < ys.length) : lastI (ys.take (i + 1)) = ys[i] := by
  unfold lastI
  rw [List.take_succ_eq_append_getElem hi, List.getLast?_concat]
  rfl
theorem SzOk.last {ys : List Int} (h : SzOk ys) (i : Nat) (hi : i ≤ ys.length) (hne : ys.take i ≠ []) : 0 < lastI (ys.take i) := by
  cases i with
  | zero => simp at hne
  | succ i =>
    have hi' : i < ys.length := by omega
    rw [lastI_take hi']
    have := h.pos hi'
    omega
theorem check_sizes_eq {mk : List PyData → PyData} (hm : Seq mk) {ys : List Int} (h : SzOk ys) : m_check_sizes [.d (mk (dl ys))] = .ok (.dat (.tuple (dl ys))) [.d (mk (dl ys))] := by
  have loop : ∀ a b, ∃ ρ', forL (gT 2 (gA (gN 1) (gA (gN 2) gA0))) lb_check_sizes_1 (enumD 0 (dl ys)) [.d (mk (dl ys)), a, b] = .ok .nx ρ' ∧ ∃ a b, ρ' = [.d (mk (dl ys)), a, b] := by
    intro a b
    refine forL_inv (E := fun ρ' => ∃ a b, ρ' = [.d (mk (dl ys)), a, b]) (fun r ρ => ∃ i a b, i ≤ ys.length ∧ r = enumD i ((dl ys).drop i) ∧ ρ = [.d (mk (dl ys)), a, b]) ?_ ?_ ⟨0, a, b, Nat.zero_le _, by rw [List.drop_zero], rfl⟩
    · rintro x r ρ ⟨i, a, b, hi, hr, rfl⟩
      by_cases hlt : i < ys.length
      · rw [dl_drop hlt, enumD_cons] at hr
        cases hr
        have hn := is_next_eq hm (ys.take i) (h.last i hi) ys[i]
        have hc := cut_take (xs := dl ys) (i := i) (by rw [dl_len]; exact hi)
        rw [dl_take] at hc
        rw [h.2.2 i hlt] at hn
        refine ⟨[.d (mk (dl ys)), .d (.int i), .d (.int ys[i])], [.d (mk (dl ys)), .d (.int i), .d (.int ys[i])], by simp [DS.bodyF, DS.okArgs, DS.finR, DS.mSeq, DS.sq, DS.bnd, DS.ret, DS.bad, DS.mSet, DS.mSetO, DS.keepD, DS.mVar, DS.mC, DS.mOp2, DS.mOp1, DS.mCB, DS.opD, DS.op1D, DS.opnD, DS.RV.data, DS.datas, DS.mNil, DS.mCons, DS.dAdd, DS.dSub, DS.dMul, DS.dDiv, DS.dMod, DS.dPow, DS.dNeg, DS.dLt, DS.dLe, DS.dGt, DS.dGe, DS.dLen, DS.dTuple, DS.dList, DS.dAbs, DS.dInt, DS.dMax2, DS.dMin2, DS.asB, DS.mT, DS.mNot, DS.mAnd, DS.mOr, DS.datB, DS.mAndV, DS.mOrV, DS.mNotV, DS.mIf, DS.dats, DS.dspD, DS.mTup, DS.mLst, DS.ownL, DS.mLstO, DS.mChain, DS.mNx, DS.mBrk, DS.mCt, DS.mAug, DS.aug2, DS.dAddI, DS.mRet, DS.mRetO, DS.mRetN, DS.mIte, DS.mApp, DS.app2, DS.isOL, DS.mSetL, DS.setL2, DS.gN, DS.gA0, DS.gA, DS.gT, DS.bindD, DS.mAsg, DS.itemsD, DS.mIt, DS.mEnum, DS.mFor, DS.svsOf, DS.slotsOf, DS.RV.sv, DS.callD, DS.roD, DS.roO, DS.mCall, DS.mCallO, DS.mIsi, DS.dIsi, DS.kindOf, DS.notOwn, DS.mRaise, DS.mSl, DS.optI, DS.dSl, DS.mPar, DS.par2, DS.R.bnd_ok, DS.R.bnd_er, DS.R.bnd_bad, DS.wb, DS.mYes, DS.isNon, DS.dIs, DS.dIsNot, ite_ap, rr1, rr2, rr3, rr4, lg8209], .inl ⟨?_, i + 1, _, _, hlt, rfl, rfl⟩⟩
        rcases hm with rfl | rfl <;> simp [lb_check_sizes_1, hc, hn, DS.bodyF, DS.okArgs, DS.finR, DS.mSeq, DS.sq, DS.bnd, DS.ret, DS.bad, DS.mSet, DS.mSetO, DS.keepD, DS.mVar, DS.mC, DS.mOp2, DS.mOp1, DS.mCB, DS.opD, DS.op1D, DS.opnD, DS.RV.data, DS.datas, DS.mNil, DS.mCons, DS.dAdd, DS.dSub, DS.dMul, DS.dDiv, DS.dMod, DS.dPow, DS.dNeg, DS.dLt, DS.dLe, DS.dGt, DS.dGe, DS.dLen, DS.dTuple, DS.dList, DS.dAbs, DS.dInt, DS.dMax2, DS.dMin2, DS.asB, DS.mT, DS.mNot, DS.mAnd, DS.mOr, DS.datB, DS.mAndV, DS.mOrV, DS.mNotV, DS.mIf, DS.dats, DS.dspD, DS.mTup, DS.mLst, DS.ownL, DS.mLstO, DS.mChain, DS.mNx, DS.mBrk, DS.mCt, DS.mAug, DS.aug2, DS.dAddI, DS.mRet, DS.mRetO, DS.mRetN, DS.mIte, DS.mApp, DS.app2, DS.isOL, DS.mSetL, DS.setL2, DS.gN, DS.gA0, DS.gA, DS.gT, DS.bindD, DS.mAsg, DS.itemsD, DS.mIt, DS.mEnum, DS.mFor, DS.svsOf, DS.slotsOf, DS.RV.sv, DS.callD, DS.roD, DS.roO, DS.mCall, DS.mCallO, DS.mIsi, DS.dIsi, DS.kindOf, DS.notOwn, DS.mRaise, DS.mSl, DS.optI, DS.dSl, DS.mPar, DS.par2, DS.R.bnd_ok, DS.R.bnd_er, DS.R.bnd_bad, DS.wb, DS.mYes, DS.isNon, DS.dIs, DS.dIsNot, ite_ap, rr1, rr2, rr3, rr4, lg8209]
      · rw [List.drop_eq_nil_of_le (by rw [dl_len]; omega), enumD_nil] at hr
        cases hr
    · rintro ρ ⟨i, a, b, hi, hr, rfl⟩
      exact ⟨a, b, rfl⟩
  obtain ⟨ρ', e, a, b, rfl⟩ := loop .un .un
  have h1 := h.1
  have h2 := h.2.1
  have l1 : (1 : Int) ≤ (ys.length : Int) := by omega
  have l2 : (ys.length : Int) ≤ 5 := by omega
  unfold m_check_sizes bodyF
  rcases hm with rfl | rfl
  · simp [g_check_sizes, is_sequence_eq, dl_len, l1, l2, DS.bodyF, DS.okArgs, DS.finR, DS.mSeq, DS.sq, DS.bnd, DS.ret, DS.bad, DS.mSet, DS.mSetO, DS.keepD, DS.mVar, DS.mC, DS.mOp2, DS.mOp1, DS.mCB, DS.opD, DS.op1D, DS.opnD, DS.RV.data, DS.datas, DS.mNil, DS.mCons, DS.dAdd, DS.dSub, DS.dMul, DS.dDiv, DS.dMod, DS.dPow, DS.dNeg, DS.dLt, DS.dLe, DS.dGt, DS.dGe, DS.dLen, DS.dTuple, DS.dList, DS.dAbs, DS.dInt, DS.dMax2, DS.dMin2, DS.asB, DS.mT, DS.mNot, DS.mAnd, DS.mOr, DS.datB, DS.mAndV, DS.mOrV, DS.mNotV, DS.mIf, DS.dats, DS.dspD, DS.mTup, DS.mLst, DS.ownL, DS.mLstO, DS.mChain, DS.mNx, DS.mBrk, DS.mCt, DS.mAug, DS.aug2, DS.dAddI, DS.mRet, DS.mRetO, DS.mRetN, DS.mIte, DS.mApp, DS.app2, DS.isOL, DS.mSetL, DS.setL2, DS.gN, DS.gA0, DS.gA, DS.gT, DS.bindD, DS.mAsg, DS.itemsD, DS.mIt, DS.mEnum, DS.mFor, DS.svsOf, DS.slotsOf, DS.RV.sv, DS.callD, DS.roD, DS.roO, DS.mCall, DS.mCallO, DS.mIsi, DS.dIsi, DS.kindOf, DS.notOwn, DS.mRaise, DS.mSl, DS.optI, DS.dSl, DS.mPar, DS.par2, DS.R.bnd_ok, DS.R.bnd_er, DS.R.bnd_bad, DS.wb, DS.mYes, DS.isNon, DS.dIs, DS.dIsNot, ite_ap, rr1, rr2, rr3, rr4, lg8209] at e ⊢
    rw [e]
    simp [DS.bodyF, DS.okArgs, DS.finR, DS.mSeq, DS.sq, DS.bnd, DS.ret, DS.bad, DS.mSet, DS.mSetO, DS.keepD, DS.mVar, DS.mC, DS.mOp2, DS.mOp1, DS.mCB, DS.opD, DS.op1D, DS.opnD, DS.RV.data, DS.datas, DS.mNil, DS.mCons, DS.dAdd, DS.dSub, DS.dMul, DS.dDiv, DS.dMod, DS.dPow, DS.dNeg, DS.dLt, DS.dLe, DS.dGt, DS.dGe, DS.dLen, DS.dTuple, DS.dList, DS.dAbs, DS.dInt, DS.dMax2, DS.dMin2, DS.asB, DS.mT, DS.mNot, DS.mAnd, DS.mOr, DS.datB, DS.mAndV, DS.mOrV, DS.mNotV, DS.mIf, DS.dats, DS.dspD, DS.mTup, DS.mLst, DS.ownL, DS.mLstO, DS.mChain, DS.mNx, DS.mBrk, DS.mCt, DS.mAug, DS.aug2, DS.dAddI, DS.mRet, DS.mRetO, DS.mRetN, DS.mIte, DS.mApp, DS.app2, DS.isOL, DS.mSetL, DS.setL2, DS.gN, DS.gA0, DS.gA, DS.gT, DS.bindD, DS.mAsg, DS.itemsD, DS.mIt, DS.mEnum, DS.mFor, DS.svsOf, DS.slotsOf, DS.RV.sv, DS.callD, DS.roD, DS.roO, DS.mCall, DS.mCallO, DS.mIsi, DS.dIsi, DS.kindOf, DS.notOwn, DS.mRaise, DS.mSl, DS.optI, DS.dSl, DS.mPar, DS.par2, DS.R.bnd_ok, DS.R.bnd_er, DS.R.bnd_bad, DS.wb, DS.mYes, DS.isNon, DS.dIs, DS.dIsNot, ite_ap, rr1, rr2, rr3, rr4, lg8209]
  · simp [g_check_sizes, is_sequence_eq, dl_len, l1, l2, DS.bodyF, DS.okArgs, DS.finR, DS.mSeq, DS.sq, DS.bnd, DS.ret, DS.bad, DS.mSet, DS.mSetO, DS.keepD, DS.mVar, DS.mC, DS.mOp2, DS.mOp1, DS.mCB, DS.opD, DS.op1D, DS.opnD, DS.RV.data, DS.datas, DS.mNil, DS.mCons, DS.dAdd, DS.dSub, DS.dMul, DS.dDiv, DS.dMod, DS.dPow, DS.dNeg, DS.dLt, DS.dLe, DS.dGt, DS.dGe, DS.dLen, DS.dTuple, DS.dList, DS.dAbs, DS.dInt, DS.dMax2, DS.dMin2, DS.asB, DS.mT, DS.mNot, DS.mAnd, DS.mOr, DS.datB, DS.mAndV, DS.mOrV, DS.mNotV, DS.mIf, DS.dats, DS.dspD, DS.mTup, DS.mLst, DS.ownL, DS.mLstO, DS.mChain, DS.mNx, DS.mBrk, DS.mCt, DS.mAug, DS.aug2, DS.dAddI, DS.mRet, DS.mRetO, DS.mRetN, DS.mIte, DS.mApp, DS.app2, DS.isOL, DS.mSetL, DS.setL2, DS.gN, DS.gA0, DS.gA, DS.gT, DS.bindD, DS.mAsg, DS.itemsD, DS.mIt, DS.mEnum, DS.mFor, DS.svsOf, DS.slotsOf, DS.RV.sv, DS.callD, DS.roD, DS.roO, DS.mCall, DS.mCallO, DS.mIsi, DS.dIsi, DS.kindOf, DS.notOwn, DS.mRaise, DS.mSl, DS.optI, DS.dSl, DS.mPar, DS.par2, DS.R.bnd_ok, DS.R.bnd_er, DS.R.bnd_bad, DS.wb, DS.mYes, DS.isNon, DS.dIs, DS.dIsNot, ite_ap, rr1, rr2, rr3, rr4, lg8209] at e ⊢
    rw [e]
    simp [DS.bodyF, DS.okArgs, DS.finR, DS.mSeq, DS.sq, DS.bnd, DS.ret, DS.bad, DS.mSet, DS.mSetO, DS.keepD, DS.mVar, DS.mC, DS.mOp2, DS.mOp1, DS.mCB, DS.opD, DS.op1D, DS.opnD, DS.RV.data, DS.datas, DS.mNil, DS.mCons, DS.dAdd, DS.dSub, DS.dMul, DS.dDiv, DS.dMod, DS.dPow, DS.dNeg, DS.dLt, DS.dLe, DS.dGt, DS.dGe, DS.dLen, DS.dTuple, DS.dList, DS.dAbs, DS.dInt, DS.dMax2, DS.dMin2, DS.asB, DS.mT, DS.mNot, DS.mAnd, DS.mOr, DS.datB, DS.mAndV, DS.mOrV, DS.mNotV, DS.mIf, DS.dats, DS.dspD, DS.mTup, DS.mLst, DS.ownL, DS.mLstO, DS.mChain, DS.mNx, DS.mBrk, DS.mCt, DS.mAug, DS.aug2, DS.dAddI, DS.mRet, DS.mRetO, DS.mRetN, DS.mIte, DS.mApp, DS.app2, DS.isOL, DS.mSetL, DS.setL2, DS.gN, DS.gA0, DS.gA, DS.gT, DS.bindD, DS.mAsg, DS.itemsD, DS.mIt, DS.mEnum, DS.mFor, DS.svsOf, DS.slotsOf, DS.RV.sv, DS.callD, DS.roD, DS.roO, DS.mCall, DS.mCallO, DS.mIsi, DS.dIsi, DS.kindOf, DS.notOwn, DS.mRaise, DS.mSl, DS.optI, DS.dSl, DS.mPar, DS.par2, DS.R.bnd_ok, DS.R.bnd_er, DS.R.bnd_bad, DS.wb, DS.mYes, DS.isNon, DS.dIs, DS.dIsNot, ite_ap, rr1, rr2, rr3, rr4, lg8209]
/-- rising numbers -/
def PgOk (ys : List Int) : Prop := ys.length ≤ 64 ∧ (∀ i (h : i < ys.length), 0 ≤ ys[i]) ∧ ∀ i (h : i + 1 < ys.length), ys[i] < ys[i + 1]
theorem dl_at {ys : List Int} {i : Nat} (h : i < ys.length) : atI (dl ys) (i : Int) = some (.int ys[i]) := by
  unfold atI ixN
  rw [if_pos (by omega), if_pos (by rw [dl_len]; omega)]
  simp [dl, h]
theorem check_pages_eq {mk : List PyData → PyData} (hm : Seq mk) {ys : List Int} (h : PgOk ys) : m_check_pages [.d (mk (dl ys))] = .ok (.dat (.tuple (dl ys))) [.d (mk (dl ys))] := by
  have loop : ∀ a b, ∃ ρ', forL (gT 2 (gA (gN 1) (gA (gN 2) gA0))) lb_check_pages_1 (enumD 0 (dl ys)) [.d (mk (dl ys)), a, b] = .ok .nx ρ' ∧ ∃ a b, ρ' = [.d (mk (dl ys)), a, b] := by
    intro a b
    refine forL_inv (E := fun ρ' => ∃ a b, ρ' = [.d (mk (dl ys)), a, b]) (fun r ρ => ∃ i a b, i ≤ ys.length ∧ r = enumD i ((dl ys).drop i) ∧ ρ = [.d (mk (dl ys)), a, b]) ?_ ?_ ⟨0, a, b, Nat.zero_le _, by rw [List.drop_zero], rfl⟩
    · rintro x r ρ ⟨i, a, b, hi, hr, rfl⟩
      by_cases hlt : i < ys.length
      · rw [dl_drop hlt, enumD_cons] at hr
        cases hr
        have hn := h.2.1 i hlt
        refine ⟨[.d (mk (dl ys)), .d (.int i), .d (.int ys[i])], [.d (mk (dl ys)), .d (.int i), .d (.int ys[i])], by simp [DS.bodyF, DS.okArgs, DS.finR, DS.mSeq, DS.sq, DS.bnd, DS.ret, DS.bad, DS.mSet, DS.mSetO, DS.keepD, DS.mVar, DS.mC, DS.mOp2, DS.mOp1, DS.mCB, DS.opD, DS.op1D, DS.opnD, DS.RV.data, DS.datas, DS.mNil, DS.mCons, DS.dAdd, DS.dSub, DS.dMul, DS.dDiv, DS.dMod, DS.dPow, DS.dNeg, DS.dLt, DS.dLe, DS.dGt, DS.dGe, DS.dLen, DS.dTuple, DS.dList, DS.dAbs, DS.dInt, DS.dMax2, DS.dMin2, DS.asB, DS.mT, DS.mNot, DS.mAnd, DS.mOr, DS.datB, DS.mAndV, DS.mOrV, DS.mNotV, DS.mIf, DS.dats, DS.dspD, DS.mTup, DS.mLst, DS.ownL, DS.mLstO, DS.mChain, DS.mNx, DS.mBrk, DS.mCt, DS.mAug, DS.aug2, DS.dAddI, DS.mRet, DS.mRetO, DS.mRetN, DS.mIte, DS.mApp, DS.app2, DS.isOL, DS.mSetL, DS.setL2, DS.gN, DS.gA0, DS.gA, DS.gT, DS.bindD, DS.mAsg, DS.itemsD, DS.mIt, DS.mEnum, DS.mFor, DS.svsOf, DS.slotsOf, DS.RV.sv, DS.callD, DS.roD, DS.roO, DS.mCall, DS.mCallO, DS.mIsi, DS.dIsi, DS.kindOf, DS.notOwn, DS.mRaise, DS.mSl, DS.optI, DS.dSl, DS.mPar, DS.par2, DS.R.bnd_ok, DS.R.bnd_er, DS.R.bnd_bad, DS.wb, DS.mYes, DS.isNon, DS.dIs, DS.dIsNot, ite_ap, rr1, rr2, rr3, rr4, lg8209], .inl ⟨?_, i + 1, _, _, hlt, rfl, rfl⟩⟩
        cases i with
        | zero => simp [lb_check_pages_1, is_number_eq, isNum, hn, DS.bodyF, DS.okArgs, DS.finR, DS.mSeq, DS.sq, DS.bnd, DS.ret, DS.bad, DS.mSet, DS.mSetO, DS.keepD, DS.mVar, DS.mC, DS.mOp2, DS.mOp1, DS.mCB, DS.opD, DS.op1D, DS.opnD, DS.RV.data, DS.datas, DS.mNil, DS.mCons, DS.dAdd, DS.dSub, DS.dMul, DS.dDiv, DS.dMod, DS.dPow, DS.dNeg, DS.dLt, DS.dLe, DS.dGt, DS.dGe, DS.dLen, DS.dTuple, DS.dList, DS.dAbs, DS.dInt, DS.dMax2, DS.dMin2, DS.asB, DS.mT, DS.mNot, DS.mAnd, DS.mOr, DS.datB, DS.mAndV, DS.mOrV, DS.mNotV, DS.mIf, DS.dats, DS.dspD, DS.mTup, DS.mLst, DS.ownL, DS.mLstO, DS.mChain, DS.mNx, DS.mBrk, DS.mCt, DS.mAug, DS.aug2, DS.dAddI, DS.mRet, DS.mRetO, DS.mRetN, DS.mIte, DS.mApp, DS.app2, DS.isOL, DS.mSetL, DS.setL2, DS.gN, DS.gA0, DS.gA, DS.gT, DS.bindD, DS.mAsg, DS.itemsD, DS.mIt, DS.mEnum, DS.mFor, DS.svsOf, DS.slotsOf, DS.RV.sv, DS.callD, DS.roD, DS.roO, DS.mCall, DS.mCallO, DS.mIsi, DS.dIsi, DS.kindOf, DS.notOwn, DS.mRaise, DS.mSl, DS.optI, DS.dSl, DS.mPar, DS.par2, DS.R.bnd_ok, DS.R.bnd_er, DS.R.bnd_bad, DS.wb, DS.mYes, DS.isNon, DS.dIs, DS.dIsNot, ite_ap, rr1, rr2, rr3, rr4, lg8209]
        | succ j =>
          have hj := dl_at (ys := ys) (i := j) (by omega)
          have hlt2 := h.2.2 j hlt
          have e1 : (((j + 1 : Nat) : Int)) - 1 = (j : Int) := by omega
          have p1 : (0 : Int) < (((j + 1 : Nat) : Int)) := by omega
          have p2 : ¬ ys[j + 1] ≤ ys[j] := by omega
          rcases hm with rfl | rfl <;> simp [lb_check_pages_1, is_number_eq, isNum, hn, dIx, e1, hj, p1, p2, -Int.natCast_add, DS.bodyF, DS.okArgs, DS.finR, DS.mSeq, DS.sq, DS.bnd, DS.ret, DS.bad, DS.mSet, DS.mSetO, DS.keepD, DS.mVar, DS.mC, DS.mOp2, DS.mOp1, DS.mCB, DS.opD, DS.op1D, DS.opnD, DS.RV.data, DS.datas, DS.mNil, DS.mCons, DS.dAdd, DS.dSub, DS.dMul, DS.dDiv, DS.dMod, DS.dPow, DS.dNeg, DS.dLt, DS.dLe, DS.dGt, DS.dGe, DS.dLen, DS.dTuple, DS.dList, DS.dAbs, DS.dInt, DS.dMax2, DS.dMin2, DS.asB, DS.mT, DS.mNot, DS.mAnd, DS.mOr, DS.datB, DS.mAndV, DS.mOrV, DS.mNotV, DS.mIf, DS.dats, DS.dspD, DS.mTup, DS.mLst, DS.ownL, DS.mLstO, DS.mChain, DS.mNx, DS.mBrk, DS.mCt, DS.mAug, DS.aug2, DS.dAddI, DS.mRet, DS.mRetO, DS.mRetN, DS.mIte, DS.mApp, DS.app2, DS.isOL, DS.mSetL, DS.setL2, DS.gN, DS.gA0, DS.gA, DS.gT, DS.bindD, DS.mAsg, DS.itemsD, DS.mIt, DS.mEnum, DS.mFor, DS.svsOf, DS.slotsOf, DS.RV.sv, DS.callD, DS.roD, DS.roO, DS.mCall, DS.mCallO, DS.mIsi, DS.dIsi, DS.kindOf, DS.notOwn, DS.mRaise, DS.mSl, DS.optI, DS.dSl, DS.mPar, DS.par2, DS.R.bnd_ok, DS.R.bnd_er, DS.R.bnd_bad, DS.wb, DS.mYes, DS.isNon, DS.dIs, DS.dIsNot, ite_ap, rr1, rr2, rr3, rr4, lg8209]
      · rw [List.drop_eq_nil_of_le (by rw [dl_len]; omega), enumD_nil] at hr
        cases hr
    · rintro ρ ⟨i, a, b, hi, hr, rfl⟩
      exact ⟨a, b, rfl⟩
  obtain ⟨ρ', e, a, b, rfl⟩ := loop .un .un
  have h1 := h.1
  have l2 : ¬ (64 : Int) < (ys.length : Int) := by omega
  unfold m_check_pages bodyF
  rcases hm with rfl | rfl
  · simp [g_check_pages, is_sequence_eq, dl_len, l2, DS.bodyF, DS.okArgs, DS.finR, DS.mSeq, DS.sq, DS.bnd, DS.ret, DS.bad, DS.mSet, DS.mSetO, DS.keepD, DS.mVar, DS.mC, DS.mOp2, DS.mOp1, DS.mCB, DS.opD, DS.op1D, DS.opnD, DS.RV.data, DS.datas, DS.mNil, DS.mCons, DS.dAdd, DS.dSub, DS.dMul, DS.dDiv, DS.dMod, DS.dPow, DS.dNeg, DS.dLt, DS.dLe, DS.dGt, DS.dGe, DS.dLen, DS.dTuple, DS.dList, DS.dAbs, DS.dInt, DS.dMax2, DS.dMin2, DS.asB, DS.mT, DS.mNot, DS.mAnd, DS.mOr, DS.datB, DS.mAndV, DS.mOrV, DS.mNotV, DS.mIf, DS.dats, DS.dspD, DS.mTup, DS.mLst, DS.ownL, DS.mLstO, DS.mChain, DS.mNx, DS.mBrk, DS.mCt, DS.mAug, DS.aug2, DS.dAddI, DS.mRet, DS.mRetO, DS.mRetN, DS.mIte, DS.mApp, DS.app2, DS.isOL, DS.mSetL, DS.setL2, DS.gN, DS.gA0, DS.gA, DS.gT, DS.bindD, DS.mAsg, DS.itemsD, DS.mIt, DS.mEnum, DS.mFor, DS.svsOf, DS.slotsOf, DS.RV.sv, DS.callD, DS.roD, DS.roO, DS.mCall, DS.mCallO, DS.mIsi, DS.dIsi, DS.kindOf, DS.notOwn, DS.mRaise, DS.mSl, DS.optI, DS.dSl, DS.mPar, DS.par2, DS.R.bnd_ok, DS.R.bnd_er, DS.R.bnd_bad, DS.wb, DS.mYes, DS.isNon, DS.dIs, DS.dIsNot, ite_ap, rr1, rr2, rr3, rr4, lg8209] at e ⊢
    rw [e]
    simp [DS.bodyF, DS.okArgs, DS.finR, DS.mSeq, DS.sq, DS.bnd, DS.ret, DS.bad, DS.mSet, DS.mSetO, DS.keepD, DS.mVar, DS.mC, DS.mOp2, DS.mOp1, DS.mCB, DS.opD, DS.op1D, DS.opnD, DS.RV.data, DS.datas, DS.mNil, DS.mCons, DS.dAdd, DS.dSub, DS.dMul, DS.dDiv, DS.dMod, DS.dPow, DS.dNeg, DS.dLt, DS.dLe, DS.dGt, DS.dGe, DS.dLen, DS.dTuple, DS.dList, DS.dAbs, DS.dInt, DS.dMax2, DS.dMin2, DS.asB, DS.mT, DS.mNot, DS.mAnd, DS.mOr, DS.datB, DS.mAndV, DS.mOrV, DS.mNotV, DS.mIf, DS.dats, DS.dspD, DS.mTup, DS.mLst, DS.ownL, DS.mLstO, DS.mChain, DS.mNx, DS.mBrk, DS.mCt, DS.mAug, DS.aug2, DS.dAddI, DS.mRet, DS.mRetO, DS.mRetN, DS.mIte, DS.mApp, DS.app2, DS.isOL, DS.mSetL, DS.setL2, DS.gN, DS.gA0, DS.gA, DS.gT, DS.bindD, DS.mAsg, DS.itemsD, DS.mIt, DS.mEnum, DS.mFor, DS.svsOf, DS.slotsOf, DS.RV.sv, DS.callD, DS.roD, DS.roO, DS.mCall, DS.mCallO, DS.mIsi, DS.dIsi, DS.kindOf, DS.notOwn, DS.mRaise, DS.mSl, DS.optI, DS.dSl, DS.mPar, DS.par2, DS.R.bnd_ok, DS.R.bnd_er, DS.R.bnd_bad, DS.wb, DS.mYes, DS.isNon, DS.dIs, DS.dIsNot, ite_ap, rr1, rr2, rr3, rr4, lg8209]
  · simp [g_check_pages, is_sequence_eq, dl_len, l2, DS.bodyF, DS.okArgs, DS.finR, DS.mSeq, DS.sq, DS.bnd, DS.ret, DS.bad, DS.mSet, DS.mSetO, DS.keepD, DS.mVar, DS.mC, DS.mOp2, DS.mOp1, DS.mCB, DS.opD, DS.op1D, DS.opnD, DS.RV.data, DS.datas, DS.mNil, DS.mCons, DS.dAdd, DS.dSub, DS.dMul, DS.dDiv, DS.dMod, DS.dPow, DS.dNeg, DS.dLt, DS.dLe, DS.dGt, DS.dGe, DS.dLen, DS.dTuple, DS.dList, DS.dAbs, DS.dInt, DS.dMax2, DS.dMin2, DS.asB, DS.mT, DS.mNot, DS.mAnd, DS.mOr, DS.datB, DS.mAndV, DS.mOrV, DS.mNotV, DS.mIf, DS.dats, DS.dspD, DS.mTup, DS.mLst, DS.ownL, DS.mLstO, DS.mChain, DS.mNx, DS.mBrk, DS.mCt, DS.mAug, DS.aug2, DS.dAddI, DS.mRet, DS.mRetO, DS.mRetN, DS.mIte, DS.mApp, DS.app2, DS.isOL, DS.mSetL, DS.setL2, DS.gN, DS.gA0, DS.gA, DS.gT, DS.bindD, DS.mAsg, DS.itemsD, DS.mIt, DS.mEnum, DS.mFor, DS.svsOf, DS.slotsOf, DS.RV.sv, DS.callD, DS.roD, DS.roO, DS.mCall, DS.mCallO, DS.mIsi, DS.dIsi, DS.kindOf, DS.notOwn, DS.mRaise, DS.mSl, DS.optI, DS.dSl, DS.mPar, DS.par2, DS.R.bnd_ok, DS.R.bnd_er, DS.R.bnd_bad, DS.wb, DS.mYes, DS.isNon, DS.dIs, DS.dIsNot, ite_ap, rr1, rr2, rr3, rr4, lg8209] at e ⊢
    rw [e]
    simp [DS.bodyF, DS.okArgs, DS.finR, DS.mSeq, DS.sq, DS.bnd, DS.ret, DS.bad, DS.mSet, DS.mSetO, DS.keepD, DS.mVar, DS.mC, DS.mOp2, DS.mOp1, DS.mCB, DS.opD, DS.op1D, DS.opnD, DS.RV.data, DS.datas, DS.mNil, DS.mCons, DS.dAdd, DS.dSub, DS.dMul, DS.dDiv, DS.dMod, DS.dPow, DS.dNeg, DS.dLt, DS.dLe, DS.dGt, DS.dGe, DS.dLen, DS.dTuple, DS.dList, DS.dAbs, DS.dInt, DS.dMax2, DS.dMin2, DS.asB, DS.mT, DS.mNot, DS.mAnd, DS.mOr, DS.datB, DS.mAndV, DS.mOrV, DS.mNotV, DS.mIf, DS.dats, DS.dspD, DS.mTup, DS.mLst, DS.ownL, DS.mLstO, DS.mChain, DS.mNx, DS.mBrk, DS.mCt, DS.mAug, DS.aug2, DS.dAddI, DS.mRet, DS.mRetO, DS.mRetN, DS.mIte, DS.mApp, DS.app2, DS.isOL, DS.mSetL, DS.setL2, DS.gN, DS.gA0, DS.gA, DS.gT, DS.bindD, DS.mAsg, DS.itemsD, DS.mIt, DS.mEnum, DS.mFor, DS.svsOf, DS.slotsOf, DS.RV.sv, DS.callD, DS.roD, DS.roO, DS.mCall, DS.mCallO, DS.mIsi, DS.dIsi, DS.kindOf, DS.notOwn, DS.mRaise, DS.mSl, DS.optI, DS.dSl, DS.mPar, DS.par2, DS.R.bnd_ok, DS.R.bnd_er, DS.R.bnd_bad, DS.wb, DS.mYes, DS.isNon, DS.dIs, DS.dIsNot, ite_ap, rr1, rr2, rr3, rr4, lg8209]
end Zk32
end
section
set_option pp.maxSteps 1500
set_option Elab.async false
set_option linter.all false
set_option maxRecDepth 100000
set_option maxHeartbeats 4000000
namespace Zk32
open PySem PySem.Spec PyProof.Rows L2 DS
theorem sl2 {n : Nat} (h : n ≤ 1000) : n ≤ sizeLine := Nat.le_trans h (by decide)
theorem sl3 {n : Nat} (h : n ≤ 1000) : n < sizeLine := Nat.lt_of_le_of_lt h (by decide)
theorem dl_atz {ys : List Int} {k : Int} (h0 : 0 ≤ k) (h : k < ys.length) : ∃ z, atI (dl ys) k = some (.int z) := by
  have e : k = ((k.toNat : Nat) : Int) := by omega
  have l : k.toNat < ys.length := by omega
  exact ⟨_, by rw [e]; exact dl_at l⟩
theorem bx_of (c k : Int) (hc : 0 ≤ c) (h0 : 0 ≤ k) : Bx (.ol [.int (if 1000000000000000000 ≤ c then c else 0), .int ((c % 2147483587 * 69069 + 5101 * k) % 2147483587 + 1)]) := by
  have q3 := Int.emod_nonneg (c % 2147483587 * 69069 + 5101 * k) (b := 2147483587) (by decide)
  have q4 := Int.emod_lt_of_pos (c % 2147483587 * 69069 + 5101 * k) (b := 2147483587) (by decide)
  refine ⟨_, _, rfl, ?_, by omega, by omega⟩
  split <;> omega
theorem mod_small (c : Int) : mulOk (c % 2147483587) 69069 = true ∧ mulOk (c % 2147483587) 25057 = true := by
  have q3 := Int.emod_nonneg c (b := 2147483587) (by decide)
  have q4 := Int.emod_lt_of_pos c (b := 2147483587) (by decide)
  exact ⟨mulOk_s (big (by omega) (by omega)) (big (by omega) (by omega)), mulOk_s (big (by omega) (by omega)) (big (by omega) (by omega))⟩
theorem box_eq (ns : List Int) (k : Int) (h0 : 0 ≤ k) (h7 : k ≤ 7) : ∃ b, Bx b ∧ m__law_box [.d (.list (dl ns)), .d (.int k)] = .ok (.new b) [.d (.list (dl ns)), .d (.int k)] := by
  have m1 : mulOk 9413 k = true := mulOk_s (big (by omega) (by omega)) (big (by omega) (by omega))
  have m2 : mulOk 5101 k = true := mulOk_s (big (by omega) (by omega)) (big (by omega) (by omega))
  have p1 : (10 : Int).natAbs < 2 ^ 64 := by decide
  have p2 : (18 : Int) ≤ 1000000 := by decide
  by_cases hk : k < ns.length
  · obtain ⟨z, hz⟩ := dl_atz h0 hk
    have e : ∃ c, (if z < 0 then -z else z) = c ∧ 0 ≤ c := ⟨_, rfl, by split <;> omega⟩
    obtain ⟨c, e, h⟩ := e
    refine ⟨_, bx_of c k h h0, ?_⟩
    by_cases hc : 1000000000000000000 ≤ c
    · simp [sl2, e, m__law_box, g__law_box, dIx, dl_len, hk, hz, m1, m2, mod_small, hc, p1, p2, DS.bodyF, DS.okArgs, DS.finR, DS.mSeq, DS.sq, DS.bnd, DS.ret, DS.bad, DS.mSet, DS.mSetO, DS.keepD, DS.mVar, DS.mC, DS.mOp2, DS.mOp1, DS.mCB, DS.opD, DS.op1D, DS.opnD, DS.RV.data, DS.datas, DS.mNil, DS.mCons, DS.dAdd, DS.dSub, DS.dMul, DS.dDiv, DS.dMod, DS.dPow, DS.dNeg, DS.dLt, DS.dLe, DS.dGt, DS.dGe, DS.dLen, DS.dTuple, DS.dList, DS.dAbs, DS.dInt, DS.dMax2, DS.dMin2, DS.asB, DS.mT, DS.mNot, DS.mAnd, DS.mOr, DS.datB, DS.mAndV, DS.mOrV, DS.mNotV, DS.mIf, DS.dats, DS.dspD, DS.mTup, DS.mLst, DS.ownL, DS.mLstO, DS.mChain, DS.mNx, DS.mBrk, DS.mCt, DS.mAug, DS.aug2, DS.dAddI, DS.mRet, DS.mRetO, DS.mRetN, DS.mIte, DS.mApp, DS.app2, DS.isOL, DS.mSetL, DS.setL2, DS.gN, DS.gA0, DS.gA, DS.gT, DS.bindD, DS.mAsg, DS.itemsD, DS.mIt, DS.mEnum, DS.mFor, DS.svsOf, DS.slotsOf, DS.RV.sv, DS.callD, DS.roD, DS.roO, DS.mCall, DS.mCallO, DS.mIsi, DS.dIsi, DS.kindOf, DS.notOwn, DS.mRaise, DS.mSl, DS.optI, DS.dSl, DS.mPar, DS.par2, DS.R.bnd_ok, DS.R.bnd_er, DS.R.bnd_bad, DS.wb, DS.mYes, DS.isNon, DS.dIs, DS.dIsNot, ite_ap, rr1, rr2, rr3, rr4, lg8209]
    · simp [sl2, e, m__law_box, g__law_box, dIx, dl_len, hk, hz, m1, m2, mod_small, hc, p1, p2, DS.bodyF, DS.okArgs, DS.finR, DS.mSeq, DS.sq, DS.bnd, DS.ret, DS.bad, DS.mSet, DS.mSetO, DS.keepD, DS.mVar, DS.mC, DS.mOp2, DS.mOp1, DS.mCB, DS.opD, DS.op1D, DS.opnD, DS.RV.data, DS.datas, DS.mNil, DS.mCons, DS.dAdd, DS.dSub, DS.dMul, DS.dDiv, DS.dMod, DS.dPow, DS.dNeg, DS.dLt, DS.dLe, DS.dGt, DS.dGe, DS.dLen, DS.dTuple, DS.dList, DS.dAbs, DS.dInt, DS.dMax2, DS.dMin2, DS.asB, DS.mT, DS.mNot, DS.mAnd, DS.mOr, DS.datB, DS.mAndV, DS.mOrV, DS.mNotV, DS.mIf, DS.dats, DS.dspD, DS.mTup, DS.mLst, DS.ownL, DS.mLstO, DS.mChain, DS.mNx, DS.mBrk, DS.mCt, DS.mAug, DS.aug2, DS.dAddI, DS.mRet, DS.mRetO, DS.mRetN, DS.mIte, DS.mApp, DS.app2, DS.isOL, DS.mSetL, DS.setL2, DS.gN, DS.gA0, DS.gA, DS.gT, DS.bindD, DS.mAsg, DS.itemsD, DS.mIt, DS.mEnum, DS.mFor, DS.svsOf, DS.slotsOf, DS.RV.sv, DS.callD, DS.roD, DS.roO, DS.mCall, DS.mCallO, DS.mIsi, DS.dIsi, DS.kindOf, DS.notOwn, DS.mRaise, DS.mSl, DS.optI, DS.dSl, DS.mPar, DS.par2, DS.R.bnd_ok, DS.R.bnd_er, DS.R.bnd_bad, DS.wb, DS.mYes, DS.isNon, DS.dIs, DS.dIsNot, ite_ap, rr1, rr2, rr3, rr4, lg8209]
  · by_cases hp : 0 < (ns.length : Int)
    · obtain ⟨z, hz⟩ := dl_atz (ys := ns) (k := k % (ns.length : Int)) (Int.emod_nonneg _ (by omega)) (Int.emod_lt_of_pos _ hp)
      have e : ∃ c, (if z < 0 then -z else z) = c ∧ 0 ≤ c := ⟨_, rfl, by split <;> omega⟩
      obtain ⟨c, e, h⟩ := e
      have np : 0 < ns.length := by omega
      have q := Int.emod_nonneg c (b := 2147483587) (by decide)
      refine ⟨_, bx_of (9413 * k + 5101 + c % 2147483587 * 25057) k (by omega) h0, ?_⟩
      by_cases hc : 1000000000000000000 ≤ (9413 * k + 5101 + c % 2147483587 * 25057)
      · simp [sl2, e, np, m__law_box, g__law_box, dIx, dl_len, hk, hp, hz, m1, m2, mod_small, hc, p1, p2, DS.bodyF, DS.okArgs, DS.finR, DS.mSeq, DS.sq, DS.bnd, DS.ret, DS.bad, DS.mSet, DS.mSetO, DS.keepD, DS.mVar, DS.mC, DS.mOp2, DS.mOp1, DS.mCB, DS.opD, DS.op1D, DS.opnD, DS.RV.data, DS.datas, DS.mNil, DS.mCons, DS.dAdd, DS.dSub, DS.dMul, DS.dDiv, DS.dMod, DS.dPow, DS.dNeg, DS.dLt, DS.dLe, DS.dGt, DS.dGe, DS.dLen, DS.dTuple, DS.dList, DS.dAbs, DS.dInt, DS.dMax2, DS.dMin2, DS.asB, DS.mT, DS.mNot, DS.mAnd, DS.mOr, DS.datB, DS.mAndV, DS.mOrV, DS.mNotV, DS.mIf, DS.dats, DS.dspD, DS.mTup, DS.mLst, DS.ownL, DS.mLstO, DS.mChain, DS.mNx, DS.mBrk, DS.mCt, DS.mAug, DS.aug2, DS.dAddI, DS.mRet, DS.mRetO, DS.mRetN, DS.mIte, DS.mApp, DS.app2, DS.isOL, DS.mSetL, DS.setL2, DS.gN, DS.gA0, DS.gA, DS.gT, DS.bindD, DS.mAsg, DS.itemsD, DS.mIt, DS.mEnum, DS.mFor, DS.svsOf, DS.slotsOf, DS.RV.sv, DS.callD, DS.roD, DS.roO, DS.mCall, DS.mCallO, DS.mIsi, DS.dIsi, DS.kindOf, DS.notOwn, DS.mRaise, DS.mSl, DS.optI, DS.dSl, DS.mPar, DS.par2, DS.R.bnd_ok, DS.R.bnd_er, DS.R.bnd_bad, DS.wb, DS.mYes, DS.isNon, DS.dIs, DS.dIsNot, ite_ap, rr1, rr2, rr3, rr4, lg8209]
      · simp [sl2, e, np, m__law_box, g__law_box, dIx, dl_len, hk, hp, hz, m1, m2, mod_small, hc, p1, p2, DS.bodyF, DS.okArgs, DS.finR, DS.mSeq, DS.sq, DS.bnd, DS.ret, DS.bad, DS.mSet, DS.mSetO, DS.keepD, DS.mVar, DS.mC, DS.mOp2, DS.mOp1, DS.mCB, DS.opD, DS.op1D, DS.opnD, DS.RV.data, DS.datas, DS.mNil, DS.mCons, DS.dAdd, DS.dSub, DS.dMul, DS.dDiv, DS.dMod, DS.dPow, DS.dNeg, DS.dLt, DS.dLe, DS.dGt, DS.dGe, DS.dLen, DS.dTuple, DS.dList, DS.dAbs, DS.dInt, DS.dMax2, DS.dMin2, DS.asB, DS.mT, DS.mNot, DS.mAnd, DS.mOr, DS.datB, DS.mAndV, DS.mOrV, DS.mNotV, DS.mIf, DS.dats, DS.dspD, DS.mTup, DS.mLst, DS.ownL, DS.mLstO, DS.mChain, DS.mNx, DS.mBrk, DS.mCt, DS.mAug, DS.aug2, DS.dAddI, DS.mRet, DS.mRetO, DS.mRetN, DS.mIte, DS.mApp, DS.app2, DS.isOL, DS.mSetL, DS.setL2, DS.gN, DS.gA0, DS.gA, DS.gT, DS.bindD, DS.mAsg, DS.itemsD, DS.mIt, DS.mEnum, DS.mFor, DS.svsOf, DS.slotsOf, DS.RV.sv, DS.callD, DS.roD, DS.roO, DS.mCall, DS.mCallO, DS.mIsi, DS.dIsi, DS.kindOf, DS.notOwn, DS.mRaise, DS.mSl, DS.optI, DS.dSl, DS.mPar, DS.par2, DS.R.bnd_ok, DS.R.bnd_er, DS.R.bnd_bad, DS.wb, DS.mYes, DS.isNon, DS.dIs, DS.dIsNot, ite_ap, rr1, rr2, rr3, rr4, lg8209]
    · have np : ¬ 0 < ns.length := by omega
      refine ⟨_, bx_of (9413 * k + 5101) k (by omega) h0, ?_⟩
      by_cases hc : 1000000000000000000 ≤ (9413 * k + 5101)
      · simp [sl2, np, m__law_box, g__law_box, dIx, dl_len, hk, hp, m1, m2, mod_small, hc, p1, p2, DS.bodyF, DS.okArgs, DS.finR, DS.mSeq, DS.sq, DS.bnd, DS.ret, DS.bad, DS.mSet, DS.mSetO, DS.keepD, DS.mVar, DS.mC, DS.mOp2, DS.mOp1, DS.mCB, DS.opD, DS.op1D, DS.opnD, DS.RV.data, DS.datas, DS.mNil, DS.mCons, DS.dAdd, DS.dSub, DS.dMul, DS.dDiv, DS.dMod, DS.dPow, DS.dNeg, DS.dLt, DS.dLe, DS.dGt, DS.dGe, DS.dLen, DS.dTuple, DS.dList, DS.dAbs, DS.dInt, DS.dMax2, DS.dMin2, DS.asB, DS.mT, DS.mNot, DS.mAnd, DS.mOr, DS.datB, DS.mAndV, DS.mOrV, DS.mNotV, DS.mIf, DS.dats, DS.dspD, DS.mTup, DS.mLst, DS.ownL, DS.mLstO, DS.mChain, DS.mNx, DS.mBrk, DS.mCt, DS.mAug, DS.aug2, DS.dAddI, DS.mRet, DS.mRetO, DS.mRetN, DS.mIte, DS.mApp, DS.app2, DS.isOL, DS.mSetL, DS.setL2, DS.gN, DS.gA0, DS.gA, DS.gT, DS.bindD, DS.mAsg, DS.itemsD, DS.mIt, DS.mEnum, DS.mFor, DS.svsOf, DS.slotsOf, DS.RV.sv, DS.callD, DS.roD, DS.roO, DS.mCall, DS.mCallO, DS.mIsi, DS.dIsi, DS.kindOf, DS.notOwn, DS.mRaise, DS.mSl, DS.optI, DS.dSl, DS.mPar, DS.par2, DS.R.bnd_ok, DS.R.bnd_er, DS.R.bnd_bad, DS.wb, DS.mYes, DS.isNon, DS.dIs, DS.dIsNot, ite_ap, rr1, rr2, rr3, rr4, lg8209]
      · simp [sl2, np, m__law_box, g__law_box, dIx, dl_len, hk, hp, m1, m2, mod_small, hc, p1, p2, DS.bodyF, DS.okArgs, DS.finR, DS.mSeq, DS.sq, DS.bnd, DS.ret, DS.bad, DS.mSet, DS.mSetO, DS.keepD, DS.mVar, DS.mC, DS.mOp2, DS.mOp1, DS.mCB, DS.opD, DS.op1D, DS.opnD, DS.RV.data, DS.datas, DS.mNil, DS.mCons, DS.dAdd, DS.dSub, DS.dMul, DS.dDiv, DS.dMod, DS.dPow, DS.dNeg, DS.dLt, DS.dLe, DS.dGt, DS.dGe, DS.dLen, DS.dTuple, DS.dList, DS.dAbs, DS.dInt, DS.dMax2, DS.dMin2, DS.asB, DS.mT, DS.mNot, DS.mAnd, DS.mOr, DS.datB, DS.mAndV, DS.mOrV, DS.mNotV, DS.mIf, DS.dats, DS.dspD, DS.mTup, DS.mLst, DS.ownL, DS.mLstO, DS.mChain, DS.mNx, DS.mBrk, DS.mCt, DS.mAug, DS.aug2, DS.dAddI, DS.mRet, DS.mRetO, DS.mRetN, DS.mIte, DS.mApp, DS.app2, DS.isOL, DS.mSetL, DS.setL2, DS.gN, DS.gA0, DS.gA, DS.gT, DS.bindD, DS.mAsg, DS.itemsD, DS.mIt, DS.mEnum, DS.mFor, DS.svsOf, DS.slotsOf, DS.RV.sv, DS.callD, DS.roD, DS.roO, DS.mCall, DS.mCallO, DS.mIsi, DS.dIsi, DS.kindOf, DS.notOwn, DS.mRaise, DS.mSl, DS.optI, DS.dSl, DS.mPar, DS.par2, DS.R.bnd_ok, DS.R.bnd_er, DS.R.bnd_bad, DS.wb, DS.mYes, DS.isNon, DS.dIs, DS.dIsNot, ite_ap, rr1, rr2, rr3, rr4, lg8209]
end Zk32
end
section
set_option pp.maxSteps 1500
set_option Elab.async false
set_option linter.all false
set_option maxRecDepth 100000
set_option maxHeartbeats 4000000
namespace Zk32
open PySem PySem.Spec PyProof.Rows L2 DS
theorem rangeD_at {n i : Nat} {j : Int} (hj : j.toNat = n) (h : i < n) : (rangeD 0 j).drop i = .int i :: (rangeD 0 j).drop (i + 1) := by
  have e : (rangeD 0 j).length = n := by simp [rangeD, hj]
  rw [List.drop_eq_getElem_cons (by rw [e]; exact h)]
  simp [rangeD]
theorem rangeD_end {n : Nat} {j : Int} (hj : j.toNat = n) : (rangeD 0 j).drop n = [] := List.drop_eq_nil_of_le (by simp [rangeD, hj])
theorem dl_snoc (ys : List Int) (z : Int) : dl ys ++ [.int z] = dl (ys ++ [z]) := by simp [dl]
theorem SzOk.snoc {ys : List Int} (h : SzOk ys) (hl : ys.length < 5) {z : Int} (hz : nextB ys z = true) : SzOk (ys ++ [z]) := by
  refine ⟨by simp, by simp; omega, fun i hi => ?_⟩
  by_cases h' : i < ys.length
  · have := h.2.2 i h'
    rw [List.take_append_of_le_length (by omega), List.getElem_append_left h']
    exact this
  · have e : i = ys.length := by simp at hi; omega
    subst e
    simpa using hz
theorem last_at {ys : List Int} {i : Nat} (h : ys.length = i + 1) : dl ys ≠ [] ∧ atI (dl ys) (i : Int) = some (.int (lastI ys)) := by
  have hne : ys ≠ [] := by intro z; subst z; simp at h
  refine ⟨by intro q; exact hne (by simpa [dl] using q), ?_⟩
  have hi : i < ys.length := by omega
  have e : lastI ys = ys[i] := by
    unfold lastI
    have q : ys.length - 1 = i := by omega
    rw [List.getLast?_eq_getElem?, q, List.getElem?_eq_getElem hi]
    rfl
  rw [dl_at hi, e]
theorem SzOk.lastp {ys : List Int} (h : SzOk ys) : 1 ≤ lastI ys ∧ lastI ys ≤ 64 := by
  have hp := h.1
  have := lastI_take (ys := ys) (i := ys.length - 1) (by omega)
  have q := h.pos (i := ys.length - 1) (by omega)
  have e : ys.take (ys.length - 1 + 1) = ys := by rw [Nat.sub_add_cancel hp]; exact List.take_length
  rw [e] at this
  rw [this]; exact q
theorem SzOk.one {z : Int} (h1 : 1 ≤ z) (h2 : z ≤ 64) : SzOk [z] := ⟨by simp, by simp, fun i hi => by
  have e : i = 0 := by simp at hi; omega
  subst e
  simp [nextB, h1, h2]⟩
theorem next_mul {ys : List Int} (h : SzOk ys) {p : Int} (hp : 2 ≤ p) (hs : ¬ 64 < lastI ys * p) : nextB ys (lastI ys * p) = true := by
  have q := h.lastp
  have a : lastI ys * 2 ≤ lastI ys * p := Int.mul_le_mul_of_nonneg_left hp (by omega)
  have m : lastI ys * p % lastI ys = 0 := Int.mul_emod_right _ _
  have hne : ys.isEmpty = false := by
    cases ys with
    | nil => exact absurd h.1 (by simp)
    | cons => rfl
  unfold nextB
  rw [m, hne]
  simp
  omega
theorem bodyS_eq {g st : Int} {b3 : SV} {p : Int} {ys : List Int} {i n : Nat} {c : SV} {f : Int} (e3 : m__law_pick [.ol [.int g, .int st], .d (.list [.int 2, .int 2, .int 3, .int 2, .int 4])] = .ok (.dat (.int p)) [b3, .d (.list [.int 2, .int 2, .int 3, .int 2, .int 4])])
    (la : atI (dl ys) (i : Int) = some (.int (lastI ys))) (l0 : atI (dl ys) 0 = some (.int f)) (m1 : mulOk (lastI ys) p = true) (m2 : mulOk 8 f = true) (ln : ys.length < sizeLine) :
    lb__law_sizes_1 [.ol [.int g, .int st], .d (.int 8), .d (.int 2), .d (.int (2 + n)), .ol (dl ys), .d (.int i), c, .un] = if 8 * f < lastI ys * p ∨ 64 < lastI ys * p then .ok .brk [b3, .d (.int 8), .d (.int 2), .d (.int (2 + n)), .ol (dl ys), .d (.int i), .d (.int (lastI ys * p)), .un] else .ok .nx [b3, .d (.int 8), .d (.int 2), .d (.int (2 + n)), .ol (dl (ys ++ [lastI ys * p])), .d (.int i), .d (.int (lastI ys * p)), .un] := by
  unfold lb__law_sizes_1
  by_cases c1 : 8 * f < lastI ys * p
  · simp [dIx, la, l0, e3, m1, m2, c1, sl2, DS.bodyF, DS.okArgs, DS.finR, DS.mSeq, DS.sq, DS.bnd, DS.ret, DS.bad, DS.mSet, DS.mSetO, DS.keepD, DS.mVar, DS.mC, DS.mOp2, DS.mOp1, DS.mCB, DS.opD, DS.op1D, DS.opnD, DS.RV.data, DS.datas, DS.mNil, DS.mCons, DS.dAdd, DS.dSub, DS.dMul, DS.dDiv, DS.dMod, DS.dPow, DS.dNeg, DS.dLt, DS.dLe, DS.dGt, DS.dGe, DS.dLen, DS.dTuple, DS.dList, DS.dAbs, DS.dInt, DS.dMax2, DS.dMin2, DS.asB, DS.mT, DS.mNot, DS.mAnd, DS.mOr, DS.datB, DS.mAndV, DS.mOrV, DS.mNotV, DS.mIf, DS.dats, DS.dspD, DS.mTup, DS.mLst, DS.ownL, DS.mLstO, DS.mChain, DS.mNx, DS.mBrk, DS.mCt, DS.mAug, DS.aug2, DS.dAddI, DS.mRet, DS.mRetO, DS.mRetN, DS.mIte, DS.mApp, DS.app2, DS.isOL, DS.mSetL, DS.setL2, DS.gN, DS.gA0, DS.gA, DS.gT, DS.bindD, DS.mAsg, DS.itemsD, DS.mIt, DS.mEnum, DS.mFor, DS.svsOf, DS.slotsOf, DS.RV.sv, DS.callD, DS.roD, DS.roO, DS.mCall, DS.mCallO, DS.mIsi, DS.dIsi, DS.kindOf, DS.notOwn, DS.mRaise, DS.mSl, DS.optI, DS.dSl, DS.mPar, DS.par2, DS.R.bnd_ok, DS.R.bnd_er, DS.R.bnd_bad, DS.wb, DS.mYes, DS.isNon, DS.dIs, DS.dIsNot, ite_ap, rr1, rr2, rr3, rr4, lg8209]
  · by_cases c2 : 64 < lastI ys * p
    · simp [dIx, la, l0, e3, m1, m2, c1, c2, sl2, DS.bodyF, DS.okArgs, DS.finR, DS.mSeq, DS.sq, DS.bnd, DS.ret, DS.bad, DS.mSet, DS.mSetO, DS.keepD, DS.mVar, DS.mC, DS.mOp2, DS.mOp1, DS.mCB, DS.opD, DS.op1D, DS.opnD, DS.RV.data, DS.datas, DS.mNil, DS.mCons, DS.dAdd, DS.dSub, DS.dMul, DS.dDiv, DS.dMod, DS.dPow, DS.dNeg, DS.dLt, DS.dLe, DS.dGt, DS.dGe, DS.dLen, DS.dTuple, DS.dList, DS.dAbs, DS.dInt, DS.dMax2, DS.dMin2, DS.asB, DS.mT, DS.mNot, DS.mAnd, DS.mOr, DS.datB, DS.mAndV, DS.mOrV, DS.mNotV, DS.mIf, DS.dats, DS.dspD, DS.mTup, DS.mLst, DS.ownL, DS.mLstO, DS.mChain, DS.mNx, DS.mBrk, DS.mCt, DS.mAug, DS.aug2, DS.dAddI, DS.mRet, DS.mRetO, DS.mRetN, DS.mIte, DS.mApp, DS.app2, DS.isOL, DS.mSetL, DS.setL2, DS.gN, DS.gA0, DS.gA, DS.gT, DS.bindD, DS.mAsg, DS.itemsD, DS.mIt, DS.mEnum, DS.mFor, DS.svsOf, DS.slotsOf, DS.RV.sv, DS.callD, DS.roD, DS.roO, DS.mCall, DS.mCallO, DS.mIsi, DS.dIsi, DS.kindOf, DS.notOwn, DS.mRaise, DS.mSl, DS.optI, DS.dSl, DS.mPar, DS.par2, DS.R.bnd_ok, DS.R.bnd_er, DS.R.bnd_bad, DS.wb, DS.mYes, DS.isNon, DS.dIs, DS.dIsNot, ite_ap, rr1, rr2, rr3, rr4, lg8209]
    · simp [dIx, la, l0, e3, m1, m2, c1, c2, dl_len, ln, dl_snoc, sl2, DS.bodyF, DS.okArgs, DS.finR, DS.mSeq, DS.sq, DS.bnd, DS.ret, DS.bad, DS.mSet, DS.mSetO, DS.keepD, DS.mVar, DS.mC, DS.mOp2, DS.mOp1, DS.mCB, DS.opD, DS.op1D, DS.opnD, DS.RV.data, DS.datas, DS.mNil, DS.mCons, DS.dAdd, DS.dSub, DS.dMul, DS.dDiv, DS.dMod, DS.dPow, DS.dNeg, DS.dLt, DS.dLe, DS.dGt, DS.dGe, DS.dLen, DS.dTuple, DS.dList, DS.dAbs, DS.dInt, DS.dMax2, DS.dMin2, DS.asB, DS.mT, DS.mNot, DS.mAnd, DS.mOr, DS.datB, DS.mAndV, DS.mOrV, DS.mNotV, DS.mIf, DS.dats, DS.dspD, DS.mTup, DS.mLst, DS.ownL, DS.mLstO, DS.mChain, DS.mNx, DS.mBrk, DS.mCt, DS.mAug, DS.aug2, DS.dAddI, DS.mRet, DS.mRetO, DS.mRetN, DS.mIte, DS.mApp, DS.app2, DS.isOL, DS.mSetL, DS.setL2, DS.gN, DS.gA0, DS.gA, DS.gT, DS.bindD, DS.mAsg, DS.itemsD, DS.mIt, DS.mEnum, DS.mFor, DS.svsOf, DS.slotsOf, DS.RV.sv, DS.callD, DS.roD, DS.roO, DS.mCall, DS.mCallO, DS.mIsi, DS.dIsi, DS.kindOf, DS.notOwn, DS.mRaise, DS.mSl, DS.optI, DS.dSl, DS.mPar, DS.par2, DS.R.bnd_ok, DS.R.bnd_er, DS.R.bnd_bad, DS.wb, DS.mYes, DS.isNon, DS.dIs, DS.dIsNot, ite_ap, rr1, rr2, rr3, rr4, lg8209]
theorem loopS {z : Int} {b2 : SV} (h2 : Bx b2) (z1 : 1 ≤ z) (z3 : z ≤ 3) {n : Nat} (n4 : n < 3) : ∃ b' ys a c, Bx b' ∧ SzOk ys ∧ 2 ≤ ys.length ∧ forL (gN 5) lb__law_sizes_1 (rangeD 0 ((n + 1 : Nat) : Int)) [b2, .d (.int 8), .d (.int 2), .d (.int (2 + n)), .ol (dl [z]), .un, .un, .un] = .ok .nx [b', .d (.int 8), .d (.int 2), .d (.int (2 + n)), .ol (dl ys), a, c, .un] := by
  have loop : ∃ ρ', forL (gN 5) lb__law_sizes_1 (rangeD 0 ((n + 1 : Nat) : Int)) [b2, .d (.int 8), .d (.int 2), .d (.int (2 + n)), .ol (dl [z]), .un, .un, .un] = .ok .nx ρ' ∧ ∃ b' ys a c, Bx b' ∧ SzOk ys ∧ 2 ≤ ys.length ∧ ρ' = [b', .d (.int 8), .d (.int 2), .d (.int (2 + n)), .ol (dl ys), a, c, .un] := by
    refine forL_inv (E := fun ρ' => ∃ b' ys a c, Bx b' ∧ SzOk ys ∧ 2 ≤ ys.length ∧ ρ' = [b', .d (.int 8), .d (.int 2), .d (.int (2 + n)), .ol (dl ys), a, c, .un]) (fun r ρ => ∃ i b' ys a c, Bx b' ∧ SzOk ys ∧ i ≤ n + 1 ∧ ys.length = i + 1 ∧ (i = 0 → ys = [z]) ∧ r = (rangeD 0 ((n + 1 : Nat) : Int)).drop i ∧ ρ = [b', .d (.int 8), .d (.int 2), .d (.int (2 + n)), .ol (dl ys), a, c, .un]) ?_ ?_ ⟨0, b2, [z], .un, .un, h2, .one z1 (by omega), Nat.zero_le _, rfl, fun _ => rfl, by rw [List.drop_zero], rfl⟩
    · rintro x r ρ ⟨i, b', ys, a, c, hb, hs, hi, hl, h0, hr, rfl⟩
      by_cases hlt : i < n + 1
      · rw [rangeD_at (by omega) hlt] at hr
        cases hr
        obtain ⟨y, b3, e3, ym, h3⟩ := pick_bx hb (xs := [.int 2, .int 2, .int 3, .int 2, .int 4]) (by simp) (by simp)
        have hy : ∃ p : Int, y = .int p ∧ 2 ≤ p ∧ p ≤ 4 := by
          simp at ym
          rcases ym with rfl | rfl | rfl | rfl <;> exact ⟨_, rfl, by decide, by decide⟩
        obtain ⟨p, rfl, p2, p4⟩ := hy
        obtain ⟨_, la⟩ := last_at hl
        have lp := hs.lastp
        have l0 : ∃ f, atI (dl ys) 0 = some (.int f) ∧ 1 ≤ f ∧ f ≤ 64 := ⟨_, dl_at (i := 0) (by omega), hs.pos (by omega)⟩
        obtain ⟨f, l0, f1, f64⟩ := l0
        have m1 : mulOk (lastI ys) p = true := mulOk_s (big (by omega) (by omega)) (big (by omega) (by omega))
        have m2 : mulOk 8 f = true := mulOk_s (big (by omega) (by omega)) (big (by omega) (by omega))
        have ln : ys.length < sizeLine := sl3 (by omega)
        obtain ⟨g, st, rfl, _⟩ := hb
        have e := bodyS_eq (n := n) (c := c) e3 la l0 m1 m2 ln
        by_cases c1 : 8 * f < lastI ys * p ∨ 64 < lastI ys * p
        · rw [if_pos c1] at e
          have l2 : 2 ≤ ys.length := by
            rcases Nat.eq_zero_or_pos i with e0 | e0
            · exfalso
              have ez := h0 e0
              subst ez
              have el : lastI [z] = z := rfl
              rw [el] at c1
              have ef : f = z := by
                have := l0
                simp [dl, atI, ixN] at this
                exact this.symm
              subst ef
              have w := Int.mul_le_mul_of_nonneg_left p4 (show 0 ≤ f by omega)
              omega
            · omega
          exact ⟨_, _, rfl, .inr ⟨e, b3, ys, _, _, h3, hs, l2, rfl⟩⟩
        · rw [if_neg c1] at e
          exact ⟨_, _, rfl, .inl ⟨e, i + 1, b3, ys ++ [lastI ys * p], _, _, h3, hs.snoc (by omega) (next_mul hs p2 (by omega)), hlt, by simp [hl], (fun z => absurd z (Nat.succ_ne_zero i)), rfl, rfl⟩⟩
      · rw [show i = n + 1 by omega, rangeD_end (by omega)] at hr
        cases hr
    · rintro ρ ⟨i, b', ys, a, c, hb, hs, hi, hl, h0, hr, rfl⟩
      refine ⟨b', ys, a, c, hb, hs, ?_, rfl⟩
      rcases Nat.lt_or_ge i (n + 1) with h | h
      · rw [rangeD_at (by omega) h] at hr; cases hr
      · omega
  obtain ⟨ρ', e4, b', ys, a, c, hb, hs, l2, rfl⟩ := loop
  exact ⟨b', ys, a, c, hb, hs, l2, e4⟩
theorem bnd_ok2 {α β : Type} (a : α) (ρ : Rho) (f : α → M β) : (R.ok a ρ).bnd f = f a ρ := by
  by_cases h : ρ = ρ
  · rfl
  · rfl
theorem q62 : (2 : Int) ^ 62 = 4611686018427387904 := by decide +kernel
theorem rng1_n {n : Nat} (h : n ≤ 1000) (ρ : Rho) : rng1 [.dat (.int n)] ρ = .ok (rangeD 0 n) ρ := by
  unfold rng1
  dsimp only [int1]
  rw [q62]
  split
  · rfl
  · omega
theorem t60 {n : Int} (h : n ≤ 1000) : n ≤ 10 ^ 60 := by omega
end Zk32
end
section
set_option pp.maxSteps 1500
set_option Elab.async false
set_option linter.all false
set_option maxRecDepth 100000
set_option maxHeartbeats 4000000
namespace Zk32
open PySem PySem.Spec PyProof.Rows L2 DS
theorem sizes_eq {b : SV} (h : Bx b) : ∃ ys b', SzOk ys ∧ 2 ≤ ys.length ∧ Bx b' ∧ m__law_sizes [b, .d (.int 8), .d (.int 2)] = .ok (.dat (.tuple (dl ys))) [b', .d (.int 8), .d (.int 2)] := by
  obtain ⟨d, b1, e1, d0, d1, h1⟩ := take_bx h (n := 3) (by omega) (t60 (by omega))
  obtain ⟨x, b2, e2, xm, h2⟩ := pick_bx h1 (xs := [.int 1, .int 1, .int 1, .int 2, .int 3]) (by simp) (by simp)
  have hx : ∃ z : Int, x = .int z ∧ 1 ≤ z ∧ z ≤ 3 := by
    simp at xm
    rcases xm with rfl | rfl | rfl <;> exact ⟨_, rfl, by decide, by decide⟩
  obtain ⟨z, rfl, z1, z3⟩ := hx
  have hn : ∃ n : Nat, d = n ∧ n < 3 := ⟨d.toNat, by omega, by omega⟩
  obtain ⟨n, rfl, n4⟩ := hn
  obtain ⟨b', ys, a, c, hb, hs, l2, e4⟩ := loopS h2 z1 z3 n4
  refine ⟨ys, b', hs, l2, hb, ?_⟩
  have zl : ¬ (ys.length : Int) < 2 := by omega
  obtain ⟨g, st, rfl, _⟩ := h
  obtain ⟨g1, st1, rfl, _⟩ := h1
  obtain ⟨g2, st2, rfl, _⟩ := h2
  obtain ⟨N, hN⟩ : ∃ N : Nat, N = n + 1 := ⟨_, rfl⟩
  rw [← hN] at e4
  have ea : (2 : Int) + n - 1 = (N : Int) := by omega
  have r1 := rng1_n (n := N) (by omega)
  unfold m__law_sizes bodyF
  simp [g__law_sizes, e1, e2, dl_len, zl, sl2, ea, r1, dl, DS.bodyF, DS.okArgs, DS.finR, DS.mSeq, DS.sq, DS.bnd, DS.ret, DS.bad, DS.mSet, DS.mSetO, DS.keepD, DS.mVar, DS.mC, DS.mOp2, DS.mOp1, DS.mCB, DS.opD, DS.op1D, DS.opnD, DS.RV.data, DS.datas, DS.mNil, DS.mCons, DS.dAdd, DS.dSub, DS.dMul, DS.dDiv, DS.dMod, DS.dPow, DS.dNeg, DS.dLt, DS.dLe, DS.dGt, DS.dGe, DS.dLen, DS.dTuple, DS.dList, DS.dAbs, DS.dInt, DS.dMax2, DS.dMin2, DS.asB, DS.mT, DS.mNot, DS.mAnd, DS.mOr, DS.datB, DS.mAndV, DS.mOrV, DS.mNotV, DS.mIf, DS.dats, DS.dspD, DS.mTup, DS.mLst, DS.ownL, DS.mLstO, DS.mChain, DS.mNx, DS.mBrk, DS.mCt, DS.mAug, DS.aug2, DS.dAddI, DS.mRet, DS.mRetO, DS.mRetN, DS.mIte, DS.mApp, DS.app2, DS.isOL, DS.mSetL, DS.setL2, DS.gN, DS.gA0, DS.gA, DS.gT, DS.bindD, DS.mAsg, DS.itemsD, DS.mIt, DS.mEnum, DS.mFor, DS.svsOf, DS.slotsOf, DS.RV.sv, DS.callD, DS.roD, DS.roO, DS.mCall, DS.mCallO, DS.mIsi, DS.dIsi, DS.kindOf, DS.notOwn, DS.mRaise, DS.mSl, DS.optI, DS.dSl, DS.mPar, DS.par2, bnd_ok2, -DS.R.bnd_ok, DS.R.bnd_er, DS.R.bnd_bad, DS.wb, DS.mYes, DS.isNon, DS.dIs, DS.dIsNot, ite_ap, rr1, rr2, rr3, rr4, lg8209] at e4 ⊢
  rw [e4]
  simp [zl, dl_len, dl, DS.bodyF, DS.okArgs, DS.finR, DS.mSeq, DS.sq, DS.bnd, DS.ret, DS.bad, DS.mSet, DS.mSetO, DS.keepD, DS.mVar, DS.mC, DS.mOp2, DS.mOp1, DS.mCB, DS.opD, DS.op1D, DS.opnD, DS.RV.data, DS.datas, DS.mNil, DS.mCons, DS.dAdd, DS.dSub, DS.dMul, DS.dDiv, DS.dMod, DS.dPow, DS.dNeg, DS.dLt, DS.dLe, DS.dGt, DS.dGe, DS.dLen, DS.dTuple, DS.dList, DS.dAbs, DS.dInt, DS.dMax2, DS.dMin2, DS.asB, DS.mT, DS.mNot, DS.mAnd, DS.mOr, DS.datB, DS.mAndV, DS.mOrV, DS.mNotV, DS.mIf, DS.dats, DS.dspD, DS.mTup, DS.mLst, DS.ownL, DS.mLstO, DS.mChain, DS.mNx, DS.mBrk, DS.mCt, DS.mAug, DS.aug2, DS.dAddI, DS.mRet, DS.mRetO, DS.mRetN, DS.mIte, DS.mApp, DS.app2, DS.isOL, DS.mSetL, DS.setL2, DS.gN, DS.gA0, DS.gA, DS.gT, DS.bindD, DS.mAsg, DS.itemsD, DS.mIt, DS.mEnum, DS.mFor, DS.svsOf, DS.slotsOf, DS.RV.sv, DS.callD, DS.roD, DS.roO, DS.mCall, DS.mCallO, DS.mIsi, DS.dIsi, DS.kindOf, DS.notOwn, DS.mRaise, DS.mSl, DS.optI, DS.dSl, DS.mPar, DS.par2, DS.R.bnd_ok, DS.R.bnd_er, DS.R.bnd_bad, DS.wb, DS.mYes, DS.isNon, DS.dIs, DS.dIsNot, ite_ap, rr1, rr2, rr3, rr4, lg8209]
end Zk32
end
section
set_option pp.maxSteps 1500
set_option Elab.async false
set_option linter.all false
set_option maxRecDepth 100000
set_option maxHeartbeats 4000000
namespace Zk32
open PySem PySem.Spec PyProof.Rows L2 DS
/-- pages as the law builds them -/
def PgB (ys : List Int) : Prop := PgOk ys ∧ 1 ≤ ys.length ∧ ys.length ≤ 7 ∧ ∀ y ∈ ys, 0 ≤ y ∧ y ≤ 100
theorem PgOk.snoc {ys : List Int} (h : PgOk ys) (hl : ys.length < 64) {z : Int} (h0 : 0 ≤ z) (hz : lastI ys < z) : PgOk (ys ++ [z]) := by
  refine ⟨by simp; omega, fun i hi => ?_, fun i hi => ?_⟩
  · by_cases h' : i < ys.length
    · rw [List.getElem_append_left h']; exact h.2.1 i h'
    · have e : i = ys.length := by simp at hi; omega
      subst e
      simpa using h0
  · by_cases h' : i + 1 < ys.length
    · rw [List.getElem_append_left h', List.getElem_append_left (by omega)]; exact h.2.2 i h'
    · have e : i + 1 = ys.length := by simp at hi; omega
      have e2 : (ys ++ [z])[i + 1] = z := by simp [e]
      have e3 : (ys ++ [z])[i]'(by omega) = lastI ys := by
        rw [List.getElem_append_left (by omega)]
        unfold lastI
        have q : ys.length - 1 = i := by omega
        rw [List.getLast?_eq_getElem?, q, List.getElem?_eq_getElem (by omega)]
        rfl
      rw [e2, e3]; exact hz
theorem lastI_snoc (ys : List Int) (z : Int) : lastI (ys ++ [z]) = z := by unfold lastI; rw [List.getLast?_concat]; rfl
theorem pages_eq {b : SV} (h : Bx b) {k : Int} (k1 : 1 ≤ k) (k7 : k ≤ 7) : ∃ ys b', PgB ys ∧ (ys.length : Int) = k ∧ Bx b' ∧ m__law_pages [b, .d (.int k)] = .ok (.dat (.tuple (dl ys))) [b', .d (.int k)] := by
  obtain ⟨z, b2, e2, z0, z3, h2⟩ := take_bx h (n := 3) (by omega) (t60 (by omega))
  have hn : ∃ n : Nat, k = 1 + n ∧ n < 7 := ⟨(k - 1).toNat, by omega, by omega⟩
  obtain ⟨n, rfl, n4⟩ := hn
  have loop : ∃ ρ', forL (gN 3) lb__law_pages_1 (rangeD 0 n) [b2, .d (.int (1 + n)), .ol (dl [z]), .un] = .ok .nx ρ' ∧ ∃ b' ys a, Bx b' ∧ PgB ys ∧ ys.length = n + 1 ∧ ρ' = [b', .d (.int (1 + n)), .ol (dl ys), a] := by
    refine forL_inv (E := fun ρ' => ∃ b' ys a, Bx b' ∧ PgB ys ∧ ys.length = n + 1 ∧ ρ' = [b', .d (.int (1 + n)), .ol (dl ys), a]) (fun r ρ => ∃ i b' ys a, Bx b' ∧ PgOk ys ∧ i ≤ n ∧ ys.length = i + 1 ∧ 0 ≤ lastI ys ∧ lastI ys ≤ 3 * i + 3 ∧ (∀ y ∈ ys, 0 ≤ y ∧ y ≤ 100) ∧ r = (rangeD 0 (n : Int)).drop i ∧ ρ = [b', .d (.int (1 + n)), .ol (dl ys), a]) ?_ ?_ ⟨0, b2, [z], .un, h2, ⟨by simp, fun i hi => ?_, fun i hi => ?_⟩, Nat.zero_le _, rfl, ?_, ?_, ?_, by rw [List.drop_zero], rfl⟩
    · rintro x r ρ ⟨i, b', ys, a, hb, hs, hi, hl, hp0, hp, hy, hr, rfl⟩
      by_cases hlt : i < n
      · rw [rangeD_at (by omega) hlt] at hr
        cases hr
        obtain ⟨p, b3, e3, p0, p2, h3⟩ := take_bx hb (n := 2) (by omega) (t60 (by omega))
        obtain ⟨_, la⟩ := last_at hl
        have ln : ys.length < sizeLine := sl3 (by omega)
        obtain ⟨g, st, rfl, _⟩ := hb
        refine ⟨_, _, rfl, .inl ⟨?_, i + 1, b3, ys ++ [lastI ys + 1 + p], .d (.int i), h3, hs.snoc (by omega) (by omega) (by omega), hlt, by simp [hl], by rw [lastI_snoc]; omega, by rw [lastI_snoc]; omega, fun y hm => ?_, rfl, rfl⟩⟩
        · simp [lb__law_pages_1, dIx, la, e3, dl_len, ln, dl_snoc, sl2, DS.bodyF, DS.okArgs, DS.finR, DS.mSeq, DS.sq, DS.bnd, DS.ret, DS.bad, DS.mSet, DS.mSetO, DS.keepD, DS.mVar, DS.mC, DS.mOp2, DS.mOp1, DS.mCB, DS.opD, DS.op1D, DS.opnD, DS.RV.data, DS.datas, DS.mNil, DS.mCons, DS.dAdd, DS.dSub, DS.dMul, DS.dDiv, DS.dMod, DS.dPow, DS.dNeg, DS.dLt, DS.dLe, DS.dGt, DS.dGe, DS.dLen, DS.dTuple, DS.dList, DS.dAbs, DS.dInt, DS.dMax2, DS.dMin2, DS.asB, DS.mT, DS.mNot, DS.mAnd, DS.mOr, DS.datB, DS.mAndV, DS.mOrV, DS.mNotV, DS.mIf, DS.dats, DS.dspD, DS.mTup, DS.mLst, DS.ownL, DS.mLstO, DS.mChain, DS.mNx, DS.mBrk, DS.mCt, DS.mAug, DS.aug2, DS.dAddI, DS.mRet, DS.mRetO, DS.mRetN, DS.mIte, DS.mApp, DS.app2, DS.isOL, DS.mSetL, DS.setL2, DS.gN, DS.gA0, DS.gA, DS.gT, DS.bindD, DS.mAsg, DS.itemsD, DS.mIt, DS.mEnum, DS.mFor, DS.svsOf, DS.slotsOf, DS.RV.sv, DS.callD, DS.roD, DS.roO, DS.mCall, DS.mCallO, DS.mIsi, DS.dIsi, DS.kindOf, DS.notOwn, DS.mRaise, DS.mSl, DS.optI, DS.dSl, DS.mPar, DS.par2, DS.R.bnd_ok, DS.R.bnd_er, DS.R.bnd_bad, DS.wb, DS.mYes, DS.isNon, DS.dIs, DS.dIsNot, ite_ap, rr1, rr2, rr3, rr4, lg8209]
        · rw [List.mem_append] at hm
          rcases hm with hm | hm
          · exact hy y hm
          · have : y = lastI ys + 1 + p := by simpa using hm
            omega
      · rw [show i = n by omega, rangeD_end (by omega)] at hr
        cases hr
    · rintro ρ ⟨i, b', ys, a, hb, hs, hi, hl, hp0, hp, hy, hr, rfl⟩
      refine ⟨b', ys, a, hb, ⟨hs, by omega, by omega, hy⟩, ?_, rfl⟩
      rcases Nat.lt_or_ge i n with h | h
      · rw [rangeD_at (by omega) h] at hr; cases hr
      · omega
    · have e : i = 0 := by simp at hi; omega
      subst e; exact z0
    · exfalso; simp at hi
    · exact z0
    · unfold lastI; simp; omega
    · intro y hm
      have : y = z := by simpa using hm
      omega
  obtain ⟨ρ', e4, b', ys, a, hb, hs, hl, rfl⟩ := loop
  refine ⟨ys, b', hs, by omega, hb, ?_⟩
  obtain ⟨g, st, rfl, _⟩ := h
  obtain ⟨g2, st2, rfl, _⟩ := h2
  have ea : (1 : Int) + n - 1 = n := by omega
  have r1 := rng1_n (n := n) (by omega)
  unfold m__law_pages bodyF
  simp [g__law_pages, e2, dl_len, sl2, ea, r1, dl, DS.bodyF, DS.okArgs, DS.finR, DS.mSeq, DS.sq, DS.bnd, DS.ret, DS.bad, DS.mSet, DS.mSetO, DS.keepD, DS.mVar, DS.mC, DS.mOp2, DS.mOp1, DS.mCB, DS.opD, DS.op1D, DS.opnD, DS.RV.data, DS.datas, DS.mNil, DS.mCons, DS.dAdd, DS.dSub, DS.dMul, DS.dDiv, DS.dMod, DS.dPow, DS.dNeg, DS.dLt, DS.dLe, DS.dGt, DS.dGe, DS.dLen, DS.dTuple, DS.dList, DS.dAbs, DS.dInt, DS.dMax2, DS.dMin2, DS.asB, DS.mT, DS.mNot, DS.mAnd, DS.mOr, DS.datB, DS.mAndV, DS.mOrV, DS.mNotV, DS.mIf, DS.dats, DS.dspD, DS.mTup, DS.mLst, DS.ownL, DS.mLstO, DS.mChain, DS.mNx, DS.mBrk, DS.mCt, DS.mAug, DS.aug2, DS.dAddI, DS.mRet, DS.mRetO, DS.mRetN, DS.mIte, DS.mApp, DS.app2, DS.isOL, DS.mSetL, DS.setL2, DS.gN, DS.gA0, DS.gA, DS.gT, DS.bindD, DS.mAsg, DS.itemsD, DS.mIt, DS.mEnum, DS.mFor, DS.svsOf, DS.slotsOf, DS.RV.sv, DS.callD, DS.roD, DS.roO, DS.mCall, DS.mCallO, DS.mIsi, DS.dIsi, DS.kindOf, DS.notOwn, DS.mRaise, DS.mSl, DS.optI, DS.dSl, DS.mPar, DS.par2, bnd_ok2, -DS.R.bnd_ok, DS.R.bnd_er, DS.R.bnd_bad, DS.wb, DS.mYes, DS.isNon, DS.dIs, DS.dIsNot, ite_ap, rr1, rr2, rr3, rr4, lg8209] at e4 ⊢
  rw [e4]
  simp [dl_len, dl, DS.bodyF, DS.okArgs, DS.finR, DS.mSeq, DS.sq, DS.bnd, DS.ret, DS.bad, DS.mSet, DS.mSetO, DS.keepD, DS.mVar, DS.mC, DS.mOp2, DS.mOp1, DS.mCB, DS.opD, DS.op1D, DS.opnD, DS.RV.data, DS.datas, DS.mNil, DS.mCons, DS.dAdd, DS.dSub, DS.dMul, DS.dDiv, DS.dMod, DS.dPow, DS.dNeg, DS.dLt, DS.dLe, DS.dGt, DS.dGe, DS.dLen, DS.dTuple, DS.dList, DS.dAbs, DS.dInt, DS.dMax2, DS.dMin2, DS.asB, DS.mT, DS.mNot, DS.mAnd, DS.mOr, DS.datB, DS.mAndV, DS.mOrV, DS.mNotV, DS.mIf, DS.dats, DS.dspD, DS.mTup, DS.mLst, DS.ownL, DS.mLstO, DS.mChain, DS.mNx, DS.mBrk, DS.mCt, DS.mAug, DS.aug2, DS.dAddI, DS.mRet, DS.mRetO, DS.mRetN, DS.mIte, DS.mApp, DS.app2, DS.isOL, DS.mSetL, DS.setL2, DS.gN, DS.gA0, DS.gA, DS.gT, DS.bindD, DS.mAsg, DS.itemsD, DS.mIt, DS.mEnum, DS.mFor, DS.svsOf, DS.slotsOf, DS.RV.sv, DS.callD, DS.roD, DS.roO, DS.mCall, DS.mCallO, DS.mIsi, DS.dIsi, DS.kindOf, DS.notOwn, DS.mRaise, DS.mSl, DS.optI, DS.dSl, DS.mPar, DS.par2, DS.R.bnd_ok, DS.R.bnd_er, DS.R.bnd_bad, DS.wb, DS.mYes, DS.isNon, DS.dIs, DS.dIsNot, ite_ap, rr1, rr2, rr3, rr4, lg8209]
end Zk32
end
section
set_option pp.maxSteps 1500
set_option Elab.async false
set_option linter.all false
set_option maxRecDepth 100000
set_option maxHeartbeats 4000000
namespace Zk32
open PySem PySem.Spec PyProof.Rows L2 DS
theorem cut_drop (ys : List Int) : DS.cutD (dl ys) none (some (-1)) = dl ys.dropLast := by
  unfold DS.cutD
  have e0 : HT.sIx (dl ys).length 0 none = 0 := rfl
  have e1 : HT.sIx (dl ys).length (dl ys).length (some (-1)) = ys.length - 1 := by
    rw [dl_len]
    unfold HT.sIx
    dsimp only
    rw [if_pos (by decide)]
    omega
  rw [e0, e1, List.drop_zero, Nat.sub_zero, dl_take, List.dropLast_eq_take]
theorem at_l1 {ys : List Int} (h : 1 ≤ ys.length) : atI (dl ys) (-1) = some (.int (lastI ys)) := by
  have hy : ys ≠ [] := by intro z; subst z; simp at h
  rw [atI_last (by intro q; exact hy (by simpa [dl] using q)), dl_last hy]
theorem at_l2 {ys : List Int} (h : 2 ≤ ys.length) : atI (dl ys) (-2) = some (.int (lastI ys.dropLast)) := by
  unfold atI ixN
  rw [if_neg (by decide), dl_len, if_pos (by omega)]
  have e : ((-2 : Int) + (ys.length : Int)).toNat = ys.length - 2 := by omega
  simp only [Option.bind_some, e]
  unfold lastI dl
  rw [List.getLast?_eq_getElem?, List.getElem?_map, List.length_dropLast, List.getElem?_dropLast]
  rw [if_pos (by omega), show ys.length - 1 - 1 = ys.length - 2 by omega, List.getElem?_eq_getElem (by omega)]
  rfl
theorem SzOk.init {ys : List Int} (h : SzOk ys) (hl : 2 ≤ ys.length) : SzOk ys.dropLast := by
  refine ⟨by simp; omega, by simp; have := h.2.1; omega, fun i hi => ?_⟩
  have hi' : i < ys.length := by simp at hi; omega
  have := h.2.2 i hi'
  have e : ys.dropLast.take i = ys.take i := by rw [List.dropLast_eq_take, List.take_take, Nat.min_eq_left (by simp at hi; omega)]
  rw [List.getElem_dropLast, e]
  exact this
/-- what is told of an arena -/
def arS (ys : List Int) (n : Nat) : List Int := if n = 1 ∧ 2 ≤ ys.length then ys.dropLast else ys
def arM (ys : List Int) (n : Nat) : Int := if n = 1 ∧ 2 ≤ ys.length then lastI ys / lastI ys.dropLast else n
theorem arS_ok {ys : List Int} (h : SzOk ys) (n : Nat) : SzOk (arS ys n) := by
  unfold arS
  split
  · rename_i q; exact h.init q.2
  · exact h
theorem lasts {ys : List Int} (h : SzOk ys) (hl : 2 ≤ ys.length) : lastI ys.dropLast < lastI ys ∧ lastI ys % lastI ys.dropLast = 0 := by
  have q := h.2.2 (ys.length - 1) (by omega)
  have e1 : ys.take (ys.length - 1) = ys.dropLast := List.dropLast_eq_take.symm
  have e2 : ys[ys.length - 1]'(by omega) = lastI ys := by
    unfold lastI
    rw [List.getLast?_eq_getElem?, List.getElem?_eq_getElem (by omega)]
    rfl
  rw [e1, e2] at q
  have hne : ys.dropLast.isEmpty = false := by
    cases e : ys.dropLast with
    | nil => have := congrArg List.length e; simp at this; omega
    | cons => rfl
  unfold nextB at q
  rw [hne] at q
  simp at q
  exact q.2
theorem arM_pos {ys : List Int} (h : SzOk ys) {n : Nat} (hn : 1 ≤ n) (h7 : n ≤ 7) : 1 ≤ arM ys n ∧ arM ys n ≤ 64 := by
  unfold arM
  split
  · rename_i q
    have a := (h.init q.2).lastp
    have b := h.lastp
    have c := lasts h q.2
    have := Int.ediv_le_self (lastI ys.dropLast) (a := lastI ys) (by omega)
    exact ⟨Int.le_ediv_of_mul_le (by omega) (by omega), by omega⟩
  · omega
end Zk32
end
section
set_option pp.maxSteps 1500
set_option Elab.async false
set_option linter.all false
set_option maxRecDepth 100000
set_option maxHeartbeats 4000000
namespace Zk32
open PySem PySem.Spec PyProof.Rows L2 DS
theorem rgS_eq (a w c : Int) (hc : 0 < c) (hw : 0 < w) (hd : w % c = 0) : Builtin.Range.rangeSize a (a + w) c = w / c := by
  unfold Builtin.Range.rangeSize
  rw [if_pos hc, if_pos (by omega)]
  have e := Int.mul_ediv_add_emod w c
  rw [hd] at e
  have e2 : a + w - a - 1 = c * (w / c - 1) + (c - 1) := by rw [Int.mul_sub]; omega
  have z : (c - 1) / c = 0 := Int.ediv_eq_zero_of_lt (by omega) (by omega)
  rw [e2, Int.mul_add_ediv_left _ _ (by omega), z]
  omega
theorem ownRg_eq {a w c : Int} (hc : 0 < c) (hc2 : c ≤ 64) (hw : 0 < w) (hw2 : w ≤ 64) (hd : w % c = 0) (ha : 0 ≤ a) (ha2 : a ≤ 100000) (ρ : Rho) : ownRg [.dat (.int a), .dat (.int (a + w)), .dat (.int c)] ρ = .ok (.ol (rangeC a c (w / c).toNat)) ρ := by
  have rs := rgS_eq a w c hc hw hd
  have e : rgN a (a + w) c = (w / c).toNat := by unfold rgN; rw [rs]
  have q := Int.ediv_le_self c (a := w) (by omega)
  have q0 : 0 ≤ w / c := Int.ediv_nonneg (by omega) (by omega)
  have s : Builtin.Range.small a (a + w) c = true := by
    unfold Builtin.Range.small
    rw [rs]
    simp [Builtin.Range.rangeFitsLong, hc]
    omega
  have z : (w / c).toNat ≤ sizeLine := sl2 (by omega)
  unfold ownRg
  have e1 : datas ρ [.dat (.int a), .dat (.int (a + w)), .dat (.int c)] = some [.int a, .int (a + w), .int c] := rfl
  have e2 : dRg [.int a, .int (a + w), .int c] = some (a, c, (w / c).toNat) := by
    simp only [dRg, e]
    rw [if_pos ⟨by omega, by omega, s, z⟩]
  rw [e1]
  dsimp only
  rw [e2]
  dsimp only
  rw [if_pos z]
end Zk32
end
section
set_option pp.maxSteps 1500
set_option Elab.async false
set_option linter.all false
set_option maxRecDepth 100000
set_option maxHeartbeats 4000000
namespace Zk32
open PySem PySem.Spec PyProof.Rows L2 DS
theorem rp_of {d : PyData} (h1 : d.showable = true) (h2 : d.depth ≤ 32) (h3 : d.leavesShort 13 = true) (h4 : d.bulk ≤ 2 ^ 20) : dRepr [d] = some (.str d.shown) := by
  show (if d.showable = true ∧ d.depth ≤ 32 ∧ d.shown.length ≤ sizeLine then some (PyData.str d.shown) else none) = _
  rw [if_pos ⟨h1, h2, PyData.shown_fits_bulk (B := 13) (by decide) (by decide) h3 h4⟩]
/-- a small int -/
def Sm (i : Int) : Prop := -100000 ≤ i ∧ i ≤ 100000
theorem Sm.log {i : Int} (h : Sm i) : i.natAbs.log2 < 1920 := by
  have z := h.1
  have y := h.2
  by_cases e : i.natAbs = 0
  · rw [e]; decide
  · have q : i.natAbs < 2 ^ 20 := by omega
    exact Nat.lt_trans ((Nat.log2_lt e).mpr q) (by decide)
theorem Sm.short {i : Int} (h : Sm i) : (PyData.shown (.int i)).length ≤ 13 := PyData.shown_int_le (by have := h.1; have := h.2; omega)
theorem rp_int {i : Int} (h : Sm i) : ∃ s, dRepr [.int i] = some (.str s) := ⟨_, rp_of (by simp [PyData.showable, h.log]) (by simp [PyData.depth]) (by simp [PyData.leavesShort, h.short]) (by simp [PyData.bulk])⟩
theorem rp_none : ∃ s, dRepr [.none] = some (.str s) := ⟨_, rp_of (by simp [PyData.showable]) (by simp [PyData.depth]) (by simp [PyData.leavesShort]) (by simp [PyData.bulk])⟩
theorem ints_short : ∀ ys : List Int, (∀ y ∈ ys, Sm y) → PyData.showableAll (dl ys) = true ∧ PyData.depthAll (dl ys) = 0 ∧ PyData.leavesShortAll 13 (dl ys) = true ∧ PyData.bulkAll (dl ys) = ys.length
  | [], _ => by simp [dl, PyData.showableAll, PyData.depthAll, PyData.leavesShortAll, PyData.bulkAll]
  | y :: r, h => by
    have hy := h y (.head _)
    obtain ⟨a, b, c, d⟩ := ints_short r fun z hz => h z (.tail _ hz)
    unfold dl at a b c d ⊢
    simp only [List.map_cons, PyData.showableAll, PyData.depthAll, PyData.leavesShortAll, PyData.bulkAll, PyData.showable, PyData.depth, PyData.leavesShort, PyData.bulk, a, b, c, d, hy.log, hy.short]
    simp
    omega
theorem rp_ints {ys : List Int} (h : ∀ y ∈ ys, Sm y) (hl : ys.length ≤ 100) : ∃ s, dRepr [.tuple (dl ys)] = some (.str s) := by
  obtain ⟨a, b, c, d⟩ := ints_short ys h
  exact ⟨_, rp_of (by simp [PyData.showable, a]) (by simp [PyData.depth, b]) (by simp [PyData.leavesShort, c]) (by simp [PyData.bulk, d]; omega)⟩
end Zk32
end
section
set_option pp.maxSteps 1500
set_option Elab.async false
set_option linter.all false
set_option maxRecDepth 100000
set_option maxHeartbeats 4000000
namespace Zk32
open PySem PySem.Spec PyProof.Rows L2 DS
theorem sum_sm : ∀ ys : List Int, (∀ y ∈ ys, 1 ≤ y ∧ y ≤ 64) → 0 ≤ ys.sum ∧ ys.sum ≤ 64 * ys.length
  | [], _ => by simp
  | y :: r, h => by
    have hy := h y (.head _)
    have := sum_sm r fun z hz => h z (.tail _ hz)
    simp only [List.sum_cons, List.length_cons]
    omega
theorem SzOk.mem {ys : List Int} (h : SzOk ys) : ∀ y ∈ ys, 1 ≤ y ∧ y ≤ 64 := fun y hy => by
  obtain ⟨i, hi, rfl⟩ := List.getElem_of_mem hy
  exact h.pos hi
theorem sm_mul {a b : Int} (ha : a.natAbs ≤ 64) (hb : b.natAbs ≤ 200) : Sm (a * b) := by
  have e := Int.natAbs_mul a b
  have q : a.natAbs * b.natAbs ≤ 64 * 200 := Nat.mul_le_mul ha hb
  unfold Sm
  omega
theorem seq_nx {a b : M Fl} {ρ ρ' : Rho} (h : a ρ = .ok .nx ρ') : mSeq a b ρ = b ρ' := by
  show (a ρ).bnd (fun f => sq f b) = _
  rw [h]
  rfl
theorem ne_same {t s : Str} (ht : PyData.strOk t = true) (hs : PyData.strOk s = true) : dNe (.tuple [.str t, .str s]) (.tuple [.str t, .str s]) = some (.bool false) := by
  simp [dNe, dEqB, SeqAt.shaped, PyData.canLay0, PyData.canLayAll0, PyData.depth, PyData.depthAll, PyData.eqv, PyData.eqvAll, ht, hs]
theorem ite_no {mt : M Bool} {X : M Fl} {ρ : Rho} (h : mt ρ = .ok false ρ) : mIte mt X mNx ρ = .ok .nx ρ := by
  show (mt ρ).bnd (fun b => if b = true then X else mNx) = _
  rw [h]
  rfl
theorem t_no {m : M RV} {ρ : Rho} (h : m ρ = .ok (.dat (.bool false)) ρ) : mT m ρ = .ok false ρ := by
  show (m ρ).bnd asB = _
  rw [h]
  rfl
theorem or_no {a b : M Bool} {ρ : Rho} (h1 : a ρ = .ok false ρ) (h2 : b ρ = .ok false ρ) : mOr a b ρ = .ok false ρ := by
  simp [DS.mOr, DS.bnd, h1, h2]
theorem heard_no {okv : Option PyData → Option PyData} {erv : Er → Option PyData} {c r : M RV} {X : M Fl} {ρ : Rho} {e : Er} {t s : Str} (h : c ρ = .er e ρ) (he : erv e = some (.tuple [.str t, .str s])) (hr : r ρ = .ok (.dat (.tuple [.str t, .str s])) ρ) (ht : PyData.strOk t = true) (hs : PyData.strOk s = true) : mIte (mT (mOp2 dNe (mHeard okv erv c) r)) X mNx ρ = .ok .nx ρ := by
  refine ite_no (t_no ?_)
  have q : mHeard okv erv c ρ = .ok (.dat (.tuple [.str t, .str s])) ρ := by
    unfold mHeard
    rw [h]
    dsimp only
    rw [he]
  have n := ne_same ht hs
  simp [q, hr, n, DS.bodyF, DS.okArgs, DS.finR, DS.mSeq, DS.sq, DS.bnd, DS.ret, DS.bad, DS.mSet, DS.mSetO, DS.keepD, DS.mVar, DS.mC, DS.mOp2, DS.mOp1, DS.mCB, DS.opD, DS.op1D, DS.opnD, DS.RV.data, DS.datas, DS.mNil, DS.mCons, DS.dAdd, DS.dSub, DS.dMul, DS.dDiv, DS.dMod, DS.dPow, DS.dNeg, DS.dLt, DS.dLe, DS.dGt, DS.dGe, DS.dLen, DS.dTuple, DS.dList, DS.dAbs, DS.dInt, DS.dMax2, DS.dMin2, DS.asB, DS.mT, DS.mNot, DS.mAnd, DS.mOr, DS.datB, DS.mAndV, DS.mOrV, DS.mNotV, DS.mIf, DS.dats, DS.dspD, DS.mTup, DS.mLst, DS.ownL, DS.mLstO, DS.mChain, DS.mNx, DS.mBrk, DS.mCt, DS.mAug, DS.aug2, DS.dAddI, DS.mRet, DS.mRetO, DS.mRetN, DS.mIte, DS.mApp, DS.app2, DS.isOL, DS.mSetL, DS.setL2, DS.gN, DS.gA0, DS.gA, DS.gT, DS.bindD, DS.mAsg, DS.itemsD, DS.mIt, DS.mEnum, DS.mFor, DS.svsOf, DS.slotsOf, DS.RV.sv, DS.callD, DS.roD, DS.roO, DS.mCall, DS.mCallO, DS.mIsi, DS.dIsi, DS.kindOf, DS.notOwn, DS.mRaise, DS.mSl, DS.optI, DS.dSl, DS.mPar, DS.par2, DS.R.bnd_ok, DS.R.bnd_er, DS.R.bnd_bad, DS.wb, DS.mYes, DS.isNon, DS.dIs, DS.dIsNot, ite_ap, rr1, rr2, rr3, rr4, lg8209]
theorem repr_no {a b : M RV} {ρ : Rho} {x : PyData} {s : Str} (h1 : a ρ = .ok (.dat x) ρ) (h2 : b ρ = .ok (.dat x) ρ) (hs : dRepr [x] = some (.str s)) : mT (mOp2 dNe (mCB dRepr (mCons a mNil)) (mCB dRepr (mCons b mNil))) ρ = .ok false ρ := by
  refine t_no ?_
  simp [h1, h2, hs, dNe, dEqB, DS.bodyF, DS.okArgs, DS.finR, DS.mSeq, DS.sq, DS.bnd, DS.ret, DS.bad, DS.mSet, DS.mSetO, DS.keepD, DS.mVar, DS.mC, DS.mOp2, DS.mOp1, DS.mCB, DS.opD, DS.op1D, DS.opnD, DS.RV.data, DS.datas, DS.mNil, DS.mCons, DS.dAdd, DS.dSub, DS.dMul, DS.dDiv, DS.dMod, DS.dPow, DS.dNeg, DS.dLt, DS.dLe, DS.dGt, DS.dGe, DS.dLen, DS.dTuple, DS.dList, DS.dAbs, DS.dInt, DS.dMax2, DS.dMin2, DS.asB, DS.mT, DS.mNot, DS.mAnd, DS.mOr, DS.datB, DS.mAndV, DS.mOrV, DS.mNotV, DS.mIf, DS.dats, DS.dspD, DS.mTup, DS.mLst, DS.ownL, DS.mLstO, DS.mChain, DS.mNx, DS.mBrk, DS.mCt, DS.mAug, DS.aug2, DS.dAddI, DS.mRet, DS.mRetO, DS.mRetN, DS.mIte, DS.mApp, DS.app2, DS.isOL, DS.mSetL, DS.setL2, DS.gN, DS.gA0, DS.gA, DS.gT, DS.bindD, DS.mAsg, DS.itemsD, DS.mIt, DS.mEnum, DS.mFor, DS.svsOf, DS.slotsOf, DS.RV.sv, DS.callD, DS.roD, DS.roO, DS.mCall, DS.mCallO, DS.mIsi, DS.dIsi, DS.kindOf, DS.notOwn, DS.mRaise, DS.mSl, DS.optI, DS.dSl, DS.mPar, DS.par2, DS.R.bnd_ok, DS.R.bnd_er, DS.R.bnd_bad, DS.wb, DS.mYes, DS.isNon, DS.dIs, DS.dIsNot, ite_ap, rr1, rr2, rr3, rr4, lg8209]
end Zk32
end
section
set_option pp.maxSteps 1500
set_option Elab.async false
set_option linter.all false
set_option maxRecDepth 100000
set_option maxHeartbeats 4000000
namespace Zk32
open PySem PySem.Spec PyProof.Rows L2 DS
/-! what is shown of ints, of rows of them, is a text; comprehensions -/
theorem strOk_of {s : Str} (h : ∀ k, 0x110000 ≤ k → k ∉ s.cps.toList) : PyData.strOk s = true := by
  unfold PyData.strOk
  rw [Array.all_eq_true']
  intro c hc
  rcases Nat.lt_or_ge c 0x110000 with q | q
  · exact decide_eq_true q
  · exact absurd (Array.mem_def.mp hc) (h c q)
theorem free_int {k : Nat} (hk : 0x110000 ≤ k) (i : Int) : k ∉ (PyData.int i).shown.cps.toList := shown_int_free' ⟨by omega, .inr (by omega)⟩ i
theorem free_list {k : Nat} (hk : 0x110000 ≤ k) {xs : List PyData} (h : ∀ x ∈ xs, k ∉ x.shown.cps.toList) : k ∉ (PyData.list xs).shown.cps.toList := by
  rw [PyData.shown_list]
  intro q
  rw [mem_cps_append, mem_cps_append, mem_join] at q
  rcases q with (q | ⟨t, ht, q⟩ | ⟨_, q⟩) | q
  · rw [signs_lbrack] at q; simp at q; omega
  · exact shownAll_free h t ht q
  · rw [signs_sep] at q; simp at q; omega
  · rw [signs_rbrack] at q; simp at q; omega
theorem free_tuple {k : Nat} (hk : 0x110000 ≤ k) {xs : List PyData} (h : ∀ x ∈ xs, k ∉ x.shown.cps.toList) : k ∉ (PyData.tuple xs).shown.cps.toList := by
  rw [PyData.shown_tuple]
  intro q
  have e1 : ((",)" : String) : Str).cps.toList = [44, 41] := by decide
  have e2 : ((")" : String) : Str).cps.toList = [41] := by decide
  rw [mem_cps_append, mem_cps_append, mem_join] at q
  rcases q with (q | ⟨t, ht, q⟩ | ⟨_, q⟩) | q
  · rw [signs_lparen] at q; simp at q; omega
  · exact shownAll_free h t ht q
  · rw [signs_sep] at q; simp at q; omega
  · split at q
    · rw [e1] at q; simp at q; omega
    · rw [e2] at q; simp at q; omega
theorem free_dl {k : Nat} (hk : 0x110000 ≤ k) (ys : List Int) : ∀ x ∈ dl ys, k ∉ x.shown.cps.toList := fun x hx => by
  obtain ⟨i, _, rfl⟩ := List.mem_map.mp hx
  exact free_int hk i
/-- rows of small ints show themselves -/
theorem rp_seq {mk : List PyData → PyData} (hm : Seq mk) {ys : List Int} (h : ∀ y ∈ ys, Sm y) (hl : ys.length ≤ 1000) : ∃ s, dRepr [mk (dl ys)] = some (.str s) ∧ PyData.strOk s = true := by
  obtain ⟨a, b, c, d⟩ := ints_short ys h
  rcases hm with rfl | rfl
  · exact ⟨_, rp_of (by simp [PyData.showable, a]) (by simp [PyData.depth, b]) (by simp [PyData.leavesShort, c]) (by simp [PyData.bulk, d]; omega), strOk_of fun k hk => free_list hk (free_dl hk ys)⟩
  · exact ⟨_, rp_of (by simp [PyData.showable, a]) (by simp [PyData.depth, b]) (by simp [PyData.leavesShort, c]) (by simp [PyData.bulk, d]; omega), strOk_of fun k hk => free_tuple hk (free_dl hk ys)⟩
theorem rp_intS {i : Int} (h : Sm i) : ∃ s, dRepr [.int i] = some (.str s) ∧ PyData.strOk s = true :=
  ⟨_, rp_of (by simp [PyData.showable, h.log]) (by simp [PyData.depth]) (by simp [PyData.leavesShort, h.short]) (by simp [PyData.bulk]), strOk_of fun k hk => free_int hk i⟩
/-- a comprehension whose parts only read -/
theorem lcL_g {gm : Gm} {mt : M Bool} {me : M RV} {vs : List Nat} {ρ0 : Rho} {t : PyData → Bool} {f : PyData → PyData} : ∀ (items : List PyData) (acc : List PyData), (∀ x ∈ items, ∃ ρ1, gm x ρ0 = some ρ1 ∧ mt ρ1 = .ok (t x) ρ1 ∧ (t x = true → me ρ1 = .ok (.dat (f x)) ρ1) ∧ wipeR ρ1 vs = ρ0) → acc.length + items.length ≤ 1000 → lcL gm mt me vs items acc ρ0 = .ok (acc ++ (items.filter t).map f) ρ0
  | [], acc, _, _ => by
    show ret acc ρ0 = _
    simp [DS.ret]
  | x :: r, acc, h, hl => by
    obtain ⟨ρ1, h1, h2, h3, h4⟩ := h x (.head _)
    have hl' : acc.length + (r.length + 1) ≤ 1000 := hl
    unfold lcL
    rw [h1]
    dsimp only
    rw [h2]
    cases e : t x with
    | true =>
      dsimp only
      rw [h3 e]
      dsimp only
      rw [if_pos (sl3 (by omega)), h4, lcL_g r (acc ++ [f x]) (fun y hy => h y (.tail _ hy)) (by simp; omega), List.filter_cons_of_pos e]
      simp
    | false =>
      dsimp only
      rw [h4, lcL_g r acc (fun y hy => h y (.tail _ hy)) (by omega), List.filter_cons_of_neg (by simp [e])]
theorem mLC_g {mi : M (List PyData)} {gm : Gm} {mt : M Bool} {me : M RV} {vs : List Nat} {ρ ρw : Rho} {items : List PyData} (t : PyData → Bool) (f : PyData → PyData) (hi : mi ρ = .ok items ρ) (hv : vs.all (notOwn ρ) = true) (hw : wipeR ρ vs = ρw) (hb : backR ρ ρw vs = ρ) (hl : items.length ≤ 1000)
    (h : ∀ x ∈ items, ∃ ρ1, gm x ρw = some ρ1 ∧ mt ρ1 = .ok (t x) ρ1 ∧ (t x = true → me ρ1 = .ok (.dat (f x)) ρ1) ∧ wipeR ρ1 vs = ρw) : mLC mi gm mt me vs ρ = .ok (.dat (.list ((items.filter t).map f))) ρ := by
  have lc := lcL_g (gm := gm) (mt := mt) (me := me) (vs := vs) (ρ0 := ρw) (t := t) (f := f) items [] h (by simpa using hl)
  rw [List.nil_append] at lc
  unfold mLC mLCc
  simp only [DS.bnd, hi, R.bnd_ok, hv, hw, if_true, lc, hb]
  rfl
/-! rows of ints are equal by their items -/
theorem lay_dl : ∀ ys : List Int, PyData.canLayAll0 (dl ys) = true ∧ PyData.depthAll (dl ys) = 0
  | [] => by simp [dl, PyData.canLayAll0, PyData.depthAll]
  | y :: r => by
    obtain ⟨a, b⟩ := lay_dl r
    unfold dl at a b ⊢
    simp [PyData.canLayAll0, PyData.depthAll, PyData.canLay0, PyData.depth, a, b]
theorem eqv_dl : ∀ a b : List Int, PyData.eqvAll (dl a) (dl b) = decide (a = b)
  | [], [] => by simp [dl, PyData.eqvAll]
  | [], y :: r => by simp [dl, PyData.eqvAll]
  | x :: s, [] => by simp [dl, PyData.eqvAll]
  | x :: s, y :: r => by
    have := eqv_dl s r
    unfold dl at this ⊢
    simp only [List.map_cons, PyData.eqvAll, PyData.eqv, this]
    by_cases h : x = y
    · subst h; simp
    · simp [h]
theorem shaped_dl {mk : List PyData → PyData} (hm : Seq mk) (ys : List Int) : SeqAt.shaped (mk (dl ys)) = true := by
  obtain ⟨a, b⟩ := lay_dl ys
  rcases hm with rfl | rfl <;> simp [SeqAt.shaped, PyData.canLay0, PyData.depth, a, b]
theorem eq_dl {mk : List PyData → PyData} (hm : Seq mk) (a b : List Int) : dEqB (mk (dl a)) (mk (dl b)) = some (decide (a = b)) := by
  have h1 := shaped_dl hm a
  have h2 := shaped_dl hm b
  rcases hm with rfl | rfl
  · unfold dEqB
    simp only [h1, h2, and_self, if_true, PyData.eqv, eqv_dl]
  · unfold dEqB
    simp only [h1, h2, and_self, if_true, PyData.eqv, eqv_dl]
end Zk32
end
section
set_option pp.maxSteps 1500
set_option Elab.async false
set_option linter.all false
set_option maxRecDepth 100000
set_option maxHeartbeats 4000000
namespace Zk32
open PySem PySem.Spec PyProof.Rows L2 DS
theorem rangeC_len (a c : Int) (n : Nat) : (rangeC a c n).length = n := by simp [rangeC]
def plcs (ys ps : List Int) (c : Int) : List PyData := ps.flatMap fun p => rangeC (p * lastI ys) c (lastI ys / c).toNat
theorem plcs_len (ys : List Int) (c : Int) : ∀ ps : List Int, (plcs ys ps c).length = ps.length * (lastI ys / c).toNat
  | [] => by simp [plcs]
  | p :: r => by
    have := plcs_len ys c r
    unfold plcs at this ⊢
    rw [List.flatMap_cons, List.length_append, this, rangeC_len, List.length_cons, Nat.add_mul, Nat.one_mul, Nat.add_comm]
theorem plcs_snoc (ys ps : List Int) (c p : Int) : plcs ys (ps ++ [p]) c = plcs ys ps c ++ rangeC (p * lastI ys) c (lastI ys / c).toNat := by
  unfold plcs
  rw [List.flatMap_append]
  simp
theorem lbA_eq {ys : List Int} (hs : SzOk ys) {c p : Int} (hc : 0 < c) (hc2 : c ≤ 64) (hd : lastI ys % c = 0) (p0 : 0 ≤ p) (p1 : p ≤ 100) {xs : List PyData} (hx : xs.length ≤ 900) (a b g s : SV) :
    lb_arena_1 [a, b, g, .d (.int c), .ol xs, .d (.int p), .d (.tuple (dl ys)), s] = .ok .nx [a, b, g, .d (.int c), .ol (xs ++ rangeC (p * lastI ys) c (lastI ys / c).toNat), .d (.int p), .d (.tuple (dl ys)), s] := by
  have lp := hs.lastp
  have l1 := at_l1 hs.1
  have q := Int.ediv_le_self c (a := lastI ys) (by omega)
  have w1 : 0 ≤ p * lastI ys := Int.mul_nonneg p0 (by omega)
  have w2 : p * lastI ys ≤ 100 * 64 := Int.mul_le_mul p1 lp.2 (by omega) (by omega)
  have e1 : (p + 1) * lastI ys = p * lastI ys + lastI ys := by rw [Int.add_mul]; omega
  have m1 : mulOk p (lastI ys) = true := mulOk_s (big (by omega) (by omega)) (big (by omega) (by omega))
  have m2 : mulOk (p + 1) (lastI ys) = true := mulOk_s (big (by omega) (by omega)) (big (by omega) (by omega))
  have og := ownRg_eq (a := p * lastI ys) (w := lastI ys) (c := c) hc hc2 (by omega) (by omega) hd w1 (by omega)
  have z : xs.length + (lastI ys / c).toNat ≤ sizeLine := sl2 (by omega)
  unfold lb_arena_1
  simp [mAugO, mToRgO, augL, dIx, l1, m1, m2, e1, og, rangeC_len, z, DS.bodyF, DS.okArgs, DS.finR, DS.mSeq, DS.sq, DS.bnd, DS.ret, DS.bad, DS.mSet, DS.mSetO, DS.keepD, DS.mVar, DS.mC, DS.mOp2, DS.mOp1, DS.mCB, DS.opD, DS.op1D, DS.opnD, DS.RV.data, DS.datas, DS.mNil, DS.mCons, DS.dAdd, DS.dSub, DS.dMul, DS.dDiv, DS.dMod, DS.dPow, DS.dNeg, DS.dLt, DS.dLe, DS.dGt, DS.dGe, DS.dLen, DS.dTuple, DS.dList, DS.dAbs, DS.dInt, DS.dMax2, DS.dMin2, DS.asB, DS.mT, DS.mNot, DS.mAnd, DS.mOr, DS.datB, DS.mAndV, DS.mOrV, DS.mNotV, DS.mIf, DS.dats, DS.dspD, DS.mTup, DS.mLst, DS.ownL, DS.mLstO, DS.mChain, DS.mNx, DS.mBrk, DS.mCt, DS.mAug, DS.aug2, DS.dAddI, DS.mRet, DS.mRetO, DS.mRetN, DS.mIte, DS.mApp, DS.app2, DS.isOL, DS.mSetL, DS.setL2, DS.gN, DS.gA0, DS.gA, DS.gT, DS.bindD, DS.mAsg, DS.itemsD, DS.mIt, DS.mEnum, DS.mFor, DS.svsOf, DS.slotsOf, DS.RV.sv, DS.callD, DS.roD, DS.roO, DS.mCall, DS.mCallO, DS.mIsi, DS.dIsi, DS.kindOf, DS.notOwn, DS.mRaise, DS.mSl, DS.optI, DS.dSl, DS.mPar, DS.par2, bnd_ok2, -DS.R.bnd_ok, DS.R.bnd_er, DS.R.bnd_bad, DS.wb, DS.mYes, DS.isNon, DS.dIs, DS.dIsNot, ite_ap, rr1, rr2, rr3, rr4, lg8209]
theorem loopA {ys ps : List Int} (hs : SzOk ys) (hp : PgB ps) {c : Int} (hc : 0 < c) (hc2 : c ≤ 64) (hd : lastI ys % c = 0) (a b g s v : SV) : ∃ y, forL (gN 5) lb_arena_1 (dl ps) [a, b, g, .d (.int c), .ol [], v, .d (.tuple (dl ys)), s] = .ok .nx [a, b, g, .d (.int c), .ol (plcs ys ps c), y, .d (.tuple (dl ys)), s] := by
  have lp := hs.lastp
  have q := Int.ediv_le_self c (a := lastI ys) (by omega)
  obtain ⟨po, pa, pb, pc⟩ := hp
  have loop : ∃ ρ', forL (gN 5) lb_arena_1 (dl ps) [a, b, g, .d (.int c), .ol [], v, .d (.tuple (dl ys)), s] = .ok .nx ρ' ∧ ∃ y, ρ' = [a, b, g, .d (.int c), .ol (plcs ys ps c), y, .d (.tuple (dl ys)), s] := by
    refine forL_inv (E := fun ρ' => ∃ y, ρ' = [a, b, g, .d (.int c), .ol (plcs ys ps c), y, .d (.tuple (dl ys)), s]) (fun r ρ => ∃ i y, i ≤ ps.length ∧ r = (dl ps).drop i ∧ ρ = [a, b, g, .d (.int c), .ol (plcs ys (ps.take i) c), y, .d (.tuple (dl ys)), s]) ?_ ?_ ⟨0, v, Nat.zero_le _, by rw [List.drop_zero], rfl⟩
    · rintro x r ρ ⟨i, y, hi, hr, rfl⟩
      by_cases hlt : i < ps.length
      · rw [dl_drop hlt] at hr
        cases hr
        obtain ⟨p0, p1⟩ := pc ps[i] (List.getElem_mem _)
        have hb : (plcs ys (ps.take i) c).length ≤ 7 * 64 := by rw [plcs_len, List.length_take]; exact Nat.mul_le_mul (by omega) (by omega)
        refine ⟨_, _, rfl, .inl ⟨lbA_eq hs hc hc2 hd p0 p1 (by omega) a b g s, i + 1, .d (.int ps[i]), hlt, rfl, ?_⟩⟩
        rw [List.take_succ_eq_append_getElem hlt, plcs_snoc]
      · rw [List.drop_eq_nil_of_le (by rw [dl_len]; omega)] at hr
        cases hr
    · rintro ρ ⟨i, y, hi, hr, rfl⟩
      have : ps.length ≤ i := by
        rcases Nat.lt_or_ge i ps.length with h | h
        · rw [dl_drop h] at hr; cases hr
        · exact h
      exact ⟨y, by rw [List.take_of_length_le this]⟩
  obtain ⟨ρ', e, y, rfl⟩ := loop
  exact ⟨y, e⟩
theorem at_i {ys : List Int} {g : Int} {i : Nat} (hg : g = i) (h : i < ys.length) : atI (dl ys) g = some (.int ys[i]) := by
  subst hg; exact dl_at h
theorem lastI_at {ys : List Int} {i : Nat} (h : ys.length = i + 1) : lastI ys = ys[i] := by
  unfold lastI
  have q : ys.length - 1 = i := by omega
  rw [List.getLast?_eq_getElem?, q, List.getElem?_eq_getElem (by omega)]
  rfl
theorem lastI_at2 {ys : List Int} {i : Nat} (h : ys.length = i + 2) : lastI ys.dropLast = ys[i] := by
  rw [lastI_at (ys := ys.dropLast) (i := i) (by simp; omega), List.getElem_dropLast]
theorem lastI_at3 {ys : List Int} {i : Nat} (h : ys.length = i + 3) : lastI ys.dropLast.dropLast = ys[i] := by
  rw [lastI_at2 (ys := ys.dropLast) (i := i) (by simp; omega), List.getElem_dropLast]
theorem arena_eq {mk mk' : List PyData → PyData} (hm : Seq mk) (hm' : Seq mk') {ys ps : List Int} (hs : SzOk ys) (hp : PgB ps) (h2 : 2 ≤ (arS ys ps.length).length) : m_arena [.d (mk (dl ys)), .d (mk' (dl ps))] = .ok (.dat (.tuple [.int (lastI (arS ys ps.length).dropLast), .int (lastI (arS ys ps.length)), .tuple (plcs ys ps (lastI (arS ys ps.length)))])) [.d (mk (dl ys)), .d (mk' (dl ps))] := by
  have c1 := check_sizes_eq hm hs
  have c2 := check_pages_eq hm' hp.1
  have n0 : ps ≠ [] := by intro z; subst z; exact absurd hp.2.1 (by simp)
  have lp := hs.lastp
  by_cases h : ps.length = 1 ∧ 2 ≤ ys.length
  · have hl3 : 3 ≤ ys.length := by
      unfold arS at h2; rw [if_pos h] at h2; simp at h2; omega
    have a := (hs.init h.2).lastp
    have ls := lasts hs h.2
    obtain ⟨y, e⟩ := loopA hs hp (c := lastI ys.dropLast) (by omega) (by omega) ls.2 (.d (mk (dl ys))) (.d (mk' (dl ps))) (.d (.int (ys.length - 1 - 1))) (.d (.tuple (dl ps))) .un
    have i1 : atI (dl ys) ((ys.length : Int) - 1 - 1) = some (.int (lastI ys.dropLast)) := by
      rw [at_i (i := ys.length - 2) (by omega) (by omega), lastI_at2 (i := ys.length - 2) (by omega)]
    have i2 : atI (dl ys) ((ys.length : Int) - 1 - 1 - 1) = some (.int (lastI ys.dropLast.dropLast)) := by
      rw [at_i (i := ys.length - 3) (by omega) (by omega), lastI_at3 (i := ys.length - 3) (by omega)]
    have n1 : (ps.length : Int) = 1 := by omega
    have g1 : ¬ ((ys.length : Int) - 1 - 1 < 1) := by omega
    unfold arS
    rw [if_pos h]
    revert i1 i2 g1 e
    generalize hg : (ys.length : Int) - 1 - 1 = g
    intro i1 i2 g1 e
    unfold m_arena bodyF
    simp [g_arena, c1, c2, dl_len, dEq, dEqB, n0, n1, hg, g1, dIx, i1, i2, e, sl2, DS.bodyF, DS.okArgs, DS.finR, DS.mSeq, DS.sq, DS.bnd, DS.ret, DS.bad, DS.mSet, DS.mSetO, DS.keepD, DS.mVar, DS.mC, DS.mOp2, DS.mOp1, DS.mCB, DS.opD, DS.op1D, DS.opnD, DS.RV.data, DS.datas, DS.mNil, DS.mCons, DS.dAdd, DS.dSub, DS.dMul, DS.dDiv, DS.dMod, DS.dPow, DS.dNeg, DS.dLt, DS.dLe, DS.dGt, DS.dGe, DS.dLen, DS.dTuple, DS.dList, DS.dAbs, DS.dInt, DS.dMax2, DS.dMin2, DS.asB, DS.mT, DS.mNot, DS.mAnd, DS.mOr, DS.datB, DS.mAndV, DS.mOrV, DS.mNotV, DS.mIf, DS.dats, DS.dspD, DS.mTup, DS.mLst, DS.ownL, DS.mLstO, DS.mChain, DS.mNx, DS.mBrk, DS.mCt, DS.mAug, DS.aug2, DS.dAddI, DS.mRet, DS.mRetO, DS.mRetN, DS.mIte, DS.mApp, DS.app2, DS.isOL, DS.mSetL, DS.setL2, DS.gN, DS.gA0, DS.gA, DS.gT, DS.bindD, DS.mAsg, DS.itemsD, DS.mIt, DS.mEnum, DS.mFor, DS.svsOf, DS.slotsOf, DS.RV.sv, DS.callD, DS.roD, DS.roO, DS.mCall, DS.mCallO, DS.mIsi, DS.dIsi, DS.kindOf, DS.notOwn, DS.mRaise, DS.mSl, DS.optI, DS.dSl, DS.mPar, DS.par2, DS.R.bnd_ok, DS.R.bnd_er, DS.R.bnd_bad, DS.wb, DS.mYes, DS.isNon, DS.dIs, DS.dIsNot, ite_ap, rr1, rr2, rr3, rr4, lg8209]
  · have hl2 : 2 ≤ ys.length := by
      unfold arS at h2; rw [if_neg h] at h2; exact h2
    have n1 : ¬ (ps.length : Int) = 1 := by omega
    obtain ⟨y, e⟩ := loopA hs hp (c := lastI ys) (by omega) (by omega) (Int.emod_self) (.d (mk (dl ys))) (.d (mk' (dl ps))) (.d (.int (ys.length - 1))) (.d (.tuple (dl ps))) .un
    have i1 : atI (dl ys) ((ys.length : Int) - 1) = some (.int (lastI ys)) := by
      rw [at_i (i := ys.length - 1) (by omega) (by omega), lastI_at (i := ys.length - 1) (by omega)]
    have i2 : atI (dl ys) ((ys.length : Int) - 1 - 1) = some (.int (lastI ys.dropLast)) := by
      rw [at_i (i := ys.length - 2) (by omega) (by omega), lastI_at2 (i := ys.length - 2) (by omega)]
    have g1 : ¬ ((ys.length : Int) - 1 < 1) := by omega
    unfold arS
    rw [if_neg h]
    revert i1 i2 g1 e
    generalize hg : (ys.length : Int) - 1 = g
    intro i1 i2 g1 e
    unfold m_arena bodyF
    simp [g_arena, c1, c2, dl_len, dEq, dEqB, n0, n1, hg, g1, dIx, i1, i2, e, sl2, DS.bodyF, DS.okArgs, DS.finR, DS.mSeq, DS.sq, DS.bnd, DS.ret, DS.bad, DS.mSet, DS.mSetO, DS.keepD, DS.mVar, DS.mC, DS.mOp2, DS.mOp1, DS.mCB, DS.opD, DS.op1D, DS.opnD, DS.RV.data, DS.datas, DS.mNil, DS.mCons, DS.dAdd, DS.dSub, DS.dMul, DS.dDiv, DS.dMod, DS.dPow, DS.dNeg, DS.dLt, DS.dLe, DS.dGt, DS.dGe, DS.dLen, DS.dTuple, DS.dList, DS.dAbs, DS.dInt, DS.dMax2, DS.dMin2, DS.asB, DS.mT, DS.mNot, DS.mAnd, DS.mOr, DS.datB, DS.mAndV, DS.mOrV, DS.mNotV, DS.mIf, DS.dats, DS.dspD, DS.mTup, DS.mLst, DS.ownL, DS.mLstO, DS.mChain, DS.mNx, DS.mBrk, DS.mCt, DS.mAug, DS.aug2, DS.dAddI, DS.mRet, DS.mRetO, DS.mRetN, DS.mIte, DS.mApp, DS.app2, DS.isOL, DS.mSetL, DS.setL2, DS.gN, DS.gA0, DS.gA, DS.gT, DS.bindD, DS.mAsg, DS.itemsD, DS.mIt, DS.mEnum, DS.mFor, DS.svsOf, DS.slotsOf, DS.RV.sv, DS.callD, DS.roD, DS.roO, DS.mCall, DS.mCallO, DS.mIsi, DS.dIsi, DS.kindOf, DS.notOwn, DS.mRaise, DS.mSl, DS.optI, DS.dSl, DS.mPar, DS.par2, DS.R.bnd_ok, DS.R.bnd_er, DS.R.bnd_bad, DS.wb, DS.mYes, DS.isNon, DS.dIs, DS.dIsNot, ite_ap, rr1, rr2, rr3, rr4, lg8209]
theorem empty_pages {mk : List PyData → PyData} (hm : Seq mk) : m_check_pages [.d (mk [])] = .ok (.dat (.tuple [])) [.d (mk [])] := by
  rcases hm with rfl | rfl <;> simp [m_check_pages, g_check_pages, is_sequence_eq, enumD, forL, DS.bodyF, DS.okArgs, DS.finR, DS.mSeq, DS.sq, DS.bnd, DS.ret, DS.bad, DS.mSet, DS.mSetO, DS.keepD, DS.mVar, DS.mC, DS.mOp2, DS.mOp1, DS.mCB, DS.opD, DS.op1D, DS.opnD, DS.RV.data, DS.datas, DS.mNil, DS.mCons, DS.dAdd, DS.dSub, DS.dMul, DS.dDiv, DS.dMod, DS.dPow, DS.dNeg, DS.dLt, DS.dLe, DS.dGt, DS.dGe, DS.dLen, DS.dTuple, DS.dList, DS.dAbs, DS.dInt, DS.dMax2, DS.dMin2, DS.asB, DS.mT, DS.mNot, DS.mAnd, DS.mOr, DS.datB, DS.mAndV, DS.mOrV, DS.mNotV, DS.mIf, DS.dats, DS.dspD, DS.mTup, DS.mLst, DS.ownL, DS.mLstO, DS.mChain, DS.mNx, DS.mBrk, DS.mCt, DS.mAug, DS.aug2, DS.dAddI, DS.mRet, DS.mRetO, DS.mRetN, DS.mIte, DS.mApp, DS.app2, DS.isOL, DS.mSetL, DS.setL2, DS.gN, DS.gA0, DS.gA, DS.gT, DS.bindD, DS.mAsg, DS.itemsD, DS.mIt, DS.mEnum, DS.mFor, DS.svsOf, DS.slotsOf, DS.RV.sv, DS.callD, DS.roD, DS.roO, DS.mCall, DS.mCallO, DS.mIsi, DS.dIsi, DS.kindOf, DS.notOwn, DS.mRaise, DS.mSl, DS.optI, DS.dSl, DS.mPar, DS.par2, DS.R.bnd_ok, DS.R.bnd_er, DS.R.bnd_bad, DS.wb, DS.mYes, DS.isNon, DS.dIs, DS.dIsNot, ite_ap, rr1, rr2, rr3, rr4, lg8209]
/-- no foe: the sizes are told -/
theorem arena_no {mk : List PyData → PyData} (hm : Seq mk) {ys ps : List Int} (hs : SzOk ys) (hp : ps = [] ∨ PgB ps ∧ (arS ys ps.length).length < 2) : m_arena [.d (mk (dl ys)), .d (.tuple (dl ps))] = .er ⟨"Refused", "value", mk (dl ys)⟩ [.d (mk (dl ys)), .d (.tuple (dl ps))] := by
  have c1 := check_sizes_eq hm hs
  rcases hp with rfl | ⟨hp, h2⟩
  · have c2 := empty_pages (mk := .tuple) (.inr rfl)
    show m_arena [.d (mk (dl ys)), .d (.tuple [])] = .er ⟨"Refused", "value", mk (dl ys)⟩ [.d (mk (dl ys)), .d (.tuple [])]
    unfold m_arena bodyF
    by_cases g : (ys.length : Int) - 1 < 1 <;>
      simp [g_arena, c1, c2, dl_len, dEq, dEqB, g, sl2, DS.bodyF, DS.okArgs, DS.finR, DS.mSeq, DS.sq, DS.bnd, DS.ret, DS.bad, DS.mSet, DS.mSetO, DS.keepD, DS.mVar, DS.mC, DS.mOp2, DS.mOp1, DS.mCB, DS.opD, DS.op1D, DS.opnD, DS.RV.data, DS.datas, DS.mNil, DS.mCons, DS.dAdd, DS.dSub, DS.dMul, DS.dDiv, DS.dMod, DS.dPow, DS.dNeg, DS.dLt, DS.dLe, DS.dGt, DS.dGe, DS.dLen, DS.dTuple, DS.dList, DS.dAbs, DS.dInt, DS.dMax2, DS.dMin2, DS.asB, DS.mT, DS.mNot, DS.mAnd, DS.mOr, DS.datB, DS.mAndV, DS.mOrV, DS.mNotV, DS.mIf, DS.dats, DS.dspD, DS.mTup, DS.mLst, DS.ownL, DS.mLstO, DS.mChain, DS.mNx, DS.mBrk, DS.mCt, DS.mAug, DS.aug2, DS.dAddI, DS.mRet, DS.mRetO, DS.mRetN, DS.mIte, DS.mApp, DS.app2, DS.isOL, DS.mSetL, DS.setL2, DS.gN, DS.gA0, DS.gA, DS.gT, DS.bindD, DS.mAsg, DS.itemsD, DS.mIt, DS.mEnum, DS.mFor, DS.svsOf, DS.slotsOf, DS.RV.sv, DS.callD, DS.roD, DS.roO, DS.mCall, DS.mCallO, DS.mIsi, DS.dIsi, DS.kindOf, DS.notOwn, DS.mRaise, DS.mSl, DS.optI, DS.dSl, DS.mPar, DS.par2, DS.R.bnd_ok, DS.R.bnd_er, DS.R.bnd_bad, DS.wb, DS.mYes, DS.isNon, DS.dIs, DS.dIsNot, ite_ap, rr1, rr2, rr3, rr4, lg8209]
  · have c2 := check_pages_eq (mk := .tuple) (.inr rfl) hp.1
    have n0 : ps ≠ [] := by intro z; subst z; exact absurd hp.2.1 (by simp)
    have h1 := hs.1
    unfold arS at h2
    unfold m_arena bodyF
    by_cases n1 : (ps.length : Int) = 1
    · have g : (ys.length : Int) - 1 - 1 < 1 := by
        by_cases z : 2 ≤ ys.length
        · rw [if_pos ⟨by omega, z⟩] at h2; simp at h2; omega
        · omega
      simp [g_arena, c1, c2, dl_len, dEq, dEqB, n0, n1, g, sl2, DS.bodyF, DS.okArgs, DS.finR, DS.mSeq, DS.sq, DS.bnd, DS.ret, DS.bad, DS.mSet, DS.mSetO, DS.keepD, DS.mVar, DS.mC, DS.mOp2, DS.mOp1, DS.mCB, DS.opD, DS.op1D, DS.opnD, DS.RV.data, DS.datas, DS.mNil, DS.mCons, DS.dAdd, DS.dSub, DS.dMul, DS.dDiv, DS.dMod, DS.dPow, DS.dNeg, DS.dLt, DS.dLe, DS.dGt, DS.dGe, DS.dLen, DS.dTuple, DS.dList, DS.dAbs, DS.dInt, DS.dMax2, DS.dMin2, DS.asB, DS.mT, DS.mNot, DS.mAnd, DS.mOr, DS.datB, DS.mAndV, DS.mOrV, DS.mNotV, DS.mIf, DS.dats, DS.dspD, DS.mTup, DS.mLst, DS.ownL, DS.mLstO, DS.mChain, DS.mNx, DS.mBrk, DS.mCt, DS.mAug, DS.aug2, DS.dAddI, DS.mRet, DS.mRetO, DS.mRetN, DS.mIte, DS.mApp, DS.app2, DS.isOL, DS.mSetL, DS.setL2, DS.gN, DS.gA0, DS.gA, DS.gT, DS.bindD, DS.mAsg, DS.itemsD, DS.mIt, DS.mEnum, DS.mFor, DS.svsOf, DS.slotsOf, DS.RV.sv, DS.callD, DS.roD, DS.roO, DS.mCall, DS.mCallO, DS.mIsi, DS.dIsi, DS.kindOf, DS.notOwn, DS.mRaise, DS.mSl, DS.optI, DS.dSl, DS.mPar, DS.par2, DS.R.bnd_ok, DS.R.bnd_er, DS.R.bnd_bad, DS.wb, DS.mYes, DS.isNon, DS.dIs, DS.dIsNot, ite_ap, rr1, rr2, rr3, rr4, lg8209]
    · have g : (ys.length : Int) - 1 < 1 := by
        rw [if_neg (by omega)] at h2; omega
      simp [g_arena, c1, c2, dl_len, dEq, dEqB, n0, n1, g, sl2, DS.bodyF, DS.okArgs, DS.finR, DS.mSeq, DS.sq, DS.bnd, DS.ret, DS.bad, DS.mSet, DS.mSetO, DS.keepD, DS.mVar, DS.mC, DS.mOp2, DS.mOp1, DS.mCB, DS.opD, DS.op1D, DS.opnD, DS.RV.data, DS.datas, DS.mNil, DS.mCons, DS.dAdd, DS.dSub, DS.dMul, DS.dDiv, DS.dMod, DS.dPow, DS.dNeg, DS.dLt, DS.dLe, DS.dGt, DS.dGe, DS.dLen, DS.dTuple, DS.dList, DS.dAbs, DS.dInt, DS.dMax2, DS.dMin2, DS.asB, DS.mT, DS.mNot, DS.mAnd, DS.mOr, DS.datB, DS.mAndV, DS.mOrV, DS.mNotV, DS.mIf, DS.dats, DS.dspD, DS.mTup, DS.mLst, DS.ownL, DS.mLstO, DS.mChain, DS.mNx, DS.mBrk, DS.mCt, DS.mAug, DS.aug2, DS.dAddI, DS.mRet, DS.mRetO, DS.mRetN, DS.mIte, DS.mApp, DS.app2, DS.isOL, DS.mSetL, DS.setL2, DS.gN, DS.gA0, DS.gA, DS.gT, DS.bindD, DS.mAsg, DS.itemsD, DS.mIt, DS.mEnum, DS.mFor, DS.svsOf, DS.slotsOf, DS.RV.sv, DS.callD, DS.roD, DS.roO, DS.mCall, DS.mCallO, DS.mIsi, DS.dIsi, DS.kindOf, DS.notOwn, DS.mRaise, DS.mSl, DS.optI, DS.dSl, DS.mPar, DS.par2, DS.R.bnd_ok, DS.R.bnd_er, DS.R.bnd_bad, DS.wb, DS.mYes, DS.isNon, DS.dIs, DS.dIsNot, ite_ap, rr1, rr2, rr3, rr4, lg8209]
end Zk32
end
section
set_option pp.maxSteps 1500
set_option Elab.async false
set_option linter.all false
set_option maxRecDepth 100000
set_option maxHeartbeats 4000000
namespace Zk32
open PySem PySem.Spec PyProof.Rows L2 DS
def plI (ys ps : List Int) (c : Int) : List Int := ps.flatMap fun p => (List.range (lastI ys / c).toNat).map fun (k : Nat) => p * lastI ys + k * c
theorem plcs_dl (ys ps : List Int) (c : Int) : plcs ys ps c = dl (plI ys ps c) := by
  unfold plcs plI dl rangeC
  rw [List.map_flatMap]
  congr 1
  funext p
  rw [List.map_map]
  rfl
theorem plI_len (ys ps : List Int) (c : Int) : (plI ys ps c).length = ps.length * (lastI ys / c).toNat := by
  have := plcs_len ys c ps
  rw [plcs_dl, dl_len] at this
  exact this
theorem plI_sm {ys ps : List Int} (hs : SzOk ys) (hp : PgB ps) {c : Int} (hc : 0 < c) (hc2 : c ≤ 64) : ∀ z ∈ plI ys ps c, Sm z := fun z hz => by
  unfold plI at hz
  rw [List.mem_flatMap] at hz
  obtain ⟨p, hm, hz⟩ := hz
  rw [List.mem_map] at hz
  obtain ⟨k, hk, rfl⟩ := hz
  rw [List.mem_range] at hk
  obtain ⟨p0, p1⟩ := hp.2.2.2 p hm
  have lp := hs.lastp
  have q := Int.ediv_le_self c (a := lastI ys) (by omega)
  have w1 : 0 ≤ p * lastI ys := Int.mul_nonneg p0 (by omega)
  have w2 : p * lastI ys ≤ 100 * 64 := Int.mul_le_mul p1 lp.2 (by omega) (by omega)
  have w3 : (0 : Int) ≤ k * c := Int.mul_nonneg (by omega) (by omega)
  have w4 : (k : Int) * c ≤ 64 * 64 := Int.mul_le_mul (by omega) hc2 (by omega) (by omega)
  unfold Sm
  omega
/-- how many requests -/
def fmI (ys ps : List Int) : Int := ((plcs ys ps (lastI (arS ys ps.length))).length : Int) * (lastI (arS ys ps.length) / lastI (arS ys ps.length).dropLast) + lastI (arS ys ps.length) / lastI (arS ys ps.length).dropLast + 1
theorem fm_facts {ys ps : List Int} (hs : SzOk ys) (hp : PgB ps) (h2 : 2 ≤ (arS ys ps.length).length) : 0 < lastI (arS ys ps.length).dropLast ∧ (lastI (arS ys ps.length).dropLast).natAbs.log2 < 9000 ∧ mulOk ((plcs ys ps (lastI (arS ys ps.length))).length : Int) (lastI (arS ys ps.length) / lastI (arS ys ps.length).dropLast) = true ∧ Sm (fmI ys ps) := by
  have qs := arS_ok hs ps.length
  have a := (qs.init h2).lastp
  have b := qs.lastp
  have lp := hs.lastp
  have q := Int.ediv_le_self (lastI (arS ys ps.length)) (a := lastI ys) (by omega)
  have l2 : ps.length * (lastI ys / lastI (arS ys ps.length)).toNat ≤ 7 * 64 := Nat.mul_le_mul hp.2.2.1 (by omega)
  have u0 : 0 ≤ lastI (arS ys ps.length) / lastI (arS ys ps.length).dropLast := Int.ediv_nonneg (by omega) (by omega)
  have u1 := Int.ediv_le_self (lastI (arS ys ps.length).dropLast) (a := lastI (arS ys ps.length)) (by omega)
  have e := plcs_len ys (lastI (arS ys ps.length)) ps
  refine ⟨by omega, log_s (by omega) (by omega), mulOk_s (big (by omega) (by omega)) (big (by omega) (by omega)), ?_⟩
  unfold fmI
  have w0 : 0 ≤ ((plcs ys ps (lastI (arS ys ps.length))).length : Int) * (lastI (arS ys ps.length) / lastI (arS ys ps.length).dropLast) := Int.mul_nonneg (by omega) u0
  have w1 : ((plcs ys ps (lastI (arS ys ps.length))).length : Int) * (lastI (arS ys ps.length) / lastI (arS ys ps.length).dropLast) ≤ 448 * 64 := Int.mul_le_mul (by omega) (by omega) u0 (by omega)
  unfold Sm
  omega
theorem foe_eq {mk mk' : List PyData → PyData} (hm : Seq mk) (hm' : Seq mk') {ys ps : List Int} (hs : SzOk ys) (hp : PgB ps) (h2 : 2 ≤ (arS ys ps.length).length) : m_foe_many [.d (mk (dl ys)), .d (mk' (dl ps))] = .ok (.dat (.int (fmI ys ps))) [.d (mk (dl ys)), .d (mk' (dl ps))] := by
  have e := arena_eq hm hm' hs hp h2
  obtain ⟨p0, lg, mo, _⟩ := fm_facts hs hp h2
  unfold fmI
  revert e p0 lg mo
  generalize arS ys ps.length = q
  generalize plcs ys ps (lastI q) = xs
  intro e p0 lg mo
  simp [m_foe_many, g_foe_many, e, p0, lg, mo, DS.bodyF, DS.okArgs, DS.finR, DS.mSeq, DS.sq, DS.bnd, DS.ret, DS.bad, DS.mSet, DS.mSetO, DS.keepD, DS.mVar, DS.mC, DS.mOp2, DS.mOp1, DS.mCB, DS.opD, DS.op1D, DS.opnD, DS.RV.data, DS.datas, DS.mNil, DS.mCons, DS.dAdd, DS.dSub, DS.dMul, DS.dDiv, DS.dMod, DS.dPow, DS.dNeg, DS.dLt, DS.dLe, DS.dGt, DS.dGe, DS.dLen, DS.dTuple, DS.dList, DS.dAbs, DS.dInt, DS.dMax2, DS.dMin2, DS.asB, DS.mT, DS.mNot, DS.mAnd, DS.mOr, DS.datB, DS.mAndV, DS.mOrV, DS.mNotV, DS.mIf, DS.dats, DS.dspD, DS.mTup, DS.mLst, DS.ownL, DS.mLstO, DS.mChain, DS.mNx, DS.mBrk, DS.mCt, DS.mAug, DS.aug2, DS.dAddI, DS.mRet, DS.mRetO, DS.mRetN, DS.mIte, DS.mApp, DS.app2, DS.isOL, DS.mSetL, DS.setL2, DS.gN, DS.gA0, DS.gA, DS.gT, DS.bindD, DS.mAsg, DS.itemsD, DS.mIt, DS.mEnum, DS.mFor, DS.svsOf, DS.slotsOf, DS.RV.sv, DS.callD, DS.roD, DS.roO, DS.mCall, DS.mCallO, DS.mIsi, DS.dIsi, DS.kindOf, DS.notOwn, DS.mRaise, DS.mSl, DS.optI, DS.dSl, DS.mPar, DS.par2, DS.R.bnd_ok, DS.R.bnd_er, DS.R.bnd_bad, DS.wb, DS.mYes, DS.isNon, DS.dIs, DS.dIsNot, ite_ap, rr1, rr2, rr3, rr4, lg8209]
end Zk32
end
section
set_option pp.maxSteps 1500
set_option Elab.async false
set_option linter.all false
set_option maxRecDepth 100000
set_option maxHeartbeats 4000000
namespace Zk32
open PySem PySem.Spec PyProof.Rows L2 DS
theorem dToRg1 {a w : Int} (hw : 0 ≤ w) (hw2 : w ≤ 64) (ha : 0 ≤ a) (ha2 : a ≤ 100000) : dToRg .list [.int a, .int (a + w)] = some (.list (rangeC a 1 w.toNat)) := by
  have rs : Builtin.Range.rangeSize a (a + w) 1 = w := by
    unfold Builtin.Range.rangeSize
    simp
    split <;> omega
  have e : rgN a (a + w) 1 = w.toNat := by unfold rgN; rw [rs]
  have z : w.toNat ≤ sizeLine := sl2 (by omega)
  have e2 : dRg [.int a, .int (a + w)] = some (a, 1, w.toNat) := by
    simp only [dRg, e]
    rw [q62, if_pos ⟨by omega, by omega, by omega, by omega, z⟩]
  unfold dToRg
  rw [e2]
  dsimp only
  rw [if_pos z]
/-! the dict of the cells that are held -/
def cKV (c : Int) (b : Int × Int) : List (Key × PyData) := (List.range c.toNat).map fun (k : Nat) => (.inl (b.2 + k), .int b.1)
def aKV (c : Int) (bs : List (Int × Int)) : List (Key × PyData) := bs.flatMap (cKV c)
def inK (kvs : List (Key × PyData)) (x : Int) : Bool := (gKV kvs (.inl x)).isSome
theorem inK_iff (kvs : List (Key × PyData)) (x : Int) : inK kvs x = true ↔ ∃ y, (.inl x, y) ∈ kvs := by
  unfold inK gKV
  rw [Option.isSome_map, List.find?_isSome]
  constructor
  · rintro ⟨⟨k, y⟩, hm, e⟩
    have e : k = .inl x := of_decide_eq_true e
    exact ⟨y, by rw [← e]; exact hm⟩
  · rintro ⟨y, hm⟩
    exact ⟨_, hm, decide_eq_true rfl⟩
theorem cKV_iff (c : Int) (b : Int × Int) (x : Int) : (∃ y, (.inl x, y) ∈ cKV c b) ↔ b.2 ≤ x ∧ x < b.2 + c := by
  unfold cKV
  constructor
  · rintro ⟨y, h⟩
    rw [List.mem_map] at h
    obtain ⟨k, hk, e⟩ := h
    rw [List.mem_range] at hk
    have : b.2 + (k : Int) = x := Sum.inl.inj (Prod.mk.inj e).1
    omega
  · rintro ⟨h1, h2⟩
    refine ⟨.int b.1, List.mem_map.mpr ⟨(x - b.2).toNat, List.mem_range.mpr (by omega), ?_⟩⟩
    have : b.2 + ((x - b.2).toNat : Int) = x := by omega
    rw [this]
theorem aKV_in (c : Int) (bs : List (Int × Int)) (x : Int) : inK (aKV c bs) x = true ↔ ∃ b ∈ bs, b.2 ≤ x ∧ x < b.2 + c := by
  rw [inK_iff]
  unfold aKV
  constructor
  · rintro ⟨y, h⟩
    rw [List.mem_flatMap] at h
    obtain ⟨b, hb, h⟩ := h
    exact ⟨b, hb, (cKV_iff c b x).mp ⟨y, h⟩⟩
  · rintro ⟨b, hb, h⟩
    obtain ⟨y, hy⟩ := (cKV_iff c b x).mpr h
    exact ⟨y, List.mem_flatMap.mpr ⟨b, hb, hy⟩⟩
theorem aKV_snoc (c : Int) (bs : List (Int × Int)) (b : Int × Int) : aKV c (bs ++ [b]) = aKV c bs ++ cKV c b := by
  unfold aKV
  rw [List.flatMap_append]
  simp
theorem pKV_new {kvs : List (Key × PyData)} {x : Int} (h : inK kvs x = false) (y : PyData) : pKV kvs (.inl x) y = kvs ++ [(.inl x, y)] := by
  unfold pKV
  rw [if_neg]
  intro z
  rw [List.any_eq_true] at z
  obtain ⟨kv, hm, e⟩ := z
  have e : kv.1 = .inl x := of_decide_eq_true e
  have : inK kvs x = true := (inK_iff kvs x).mpr ⟨kv.2, by rw [← e]; exact hm⟩
  rw [h] at this
  cases this
/-- a free span's cells, put one by one -/
def cKVn (n : Nat) (b : Int × Int) : List (Key × PyData) := (List.range n).map fun (k : Nat) => (.inl (b.2 + k), .int b.1)
theorem cKVn_succ (n : Nat) (b : Int × Int) : cKVn (n + 1) b = cKVn n b ++ [(.inl (b.2 + n), .int b.1)] := by
  unfold cKVn
  rw [List.range_succ, List.map_append]
  rfl
theorem inK_app (a b : List (Key × PyData)) (x : Int) : inK (a ++ b) x = (inK a x || inK b x) := by
  have h1 := inK_iff (a ++ b) x
  have h2 := inK_iff a x
  have h3 := inK_iff b x
  cases e1 : inK a x <;> cases e2 : inK b x <;> rw [e1] at h2 <;> rw [e2] at h3
  · cases e : inK (a ++ b) x with
    | false => rfl
    | true =>
      obtain ⟨y, hy⟩ := h1.mp e
      rcases List.mem_append.mp hy with z | z
      · exact absurd (h2.mpr ⟨y, z⟩) (by decide)
      · exact absurd (h3.mpr ⟨y, z⟩) (by decide)
  · obtain ⟨y, hy⟩ := h3.mp rfl
    rw [h1.mpr ⟨y, List.mem_append_right _ hy⟩]
    rfl
  · obtain ⟨y, hy⟩ := h2.mp rfl
    rw [h1.mpr ⟨y, List.mem_append_left _ hy⟩]
    rfl
  · obtain ⟨y, hy⟩ := h2.mp rfl
    rw [h1.mpr ⟨y, List.mem_append_left _ hy⟩]
    rfl
theorem inK_new {kvs : List (Key × PyData)} {c : Int} {b : Int × Int} (hf : ∀ x, b.2 ≤ x → x < b.2 + c → inK kvs x = false) {n : Nat} (hn : (n : Int) < c) : inK (kvs ++ cKVn n b) (b.2 + n) = false := by
  rw [inK_app, hf _ (by omega) (by omega)]
  cases e : inK (cKVn n b) (b.2 + n) with
  | false => rfl
  | true =>
    obtain ⟨y, hy⟩ := (inK_iff _ _).mp e
    unfold cKVn at hy
    rw [List.mem_map] at hy
    obtain ⟨k, hk, e⟩ := hy
    rw [List.mem_range] at hk
    have : b.2 + (k : Int) = b.2 + n := Sum.inl.inj (Prod.mk.inj e).1
    omega
/-- the two ways a block is written -/
def blk (mk : List PyData → PyData) (c : Int) (b : Int × Int) : PyData := mk [.int b.1, .int c, .int b.2]
theorem cells_of_eq (c p : Int) (hc : 0 < c) (hc2 : c ≤ 64) (h0 : 0 ≤ p) (h1 : p ≤ 100000) : m_cells_of [.d (.int c), .d (.int p)] = .ok (.dat (.list (rangeC p 1 c.toNat))) [.d (.int c), .d (.int p)] := by
  have og := dToRg1 (a := p) (w := c) (by omega) (by omega) (by omega) (by omega)
  simp [m_cells_of, g_cells_of, mToRg, og, DS.bodyF, DS.okArgs, DS.finR, DS.mSeq, DS.sq, DS.bnd, DS.ret, DS.bad, DS.mSet, DS.mSetO, DS.keepD, DS.mVar, DS.mC, DS.mOp2, DS.mOp1, DS.mCB, DS.opD, DS.op1D, DS.opnD, DS.RV.data, DS.datas, DS.mNil, DS.mCons, DS.dAdd, DS.dSub, DS.dMul, DS.dDiv, DS.dMod, DS.dPow, DS.dNeg, DS.dLt, DS.dLe, DS.dGt, DS.dGe, DS.dLen, DS.dTuple, DS.dList, DS.dAbs, DS.dInt, DS.dMax2, DS.dMin2, DS.asB, DS.mT, DS.mNot, DS.mAnd, DS.mOr, DS.datB, DS.mAndV, DS.mOrV, DS.mNotV, DS.mIf, DS.dats, DS.dspD, DS.mTup, DS.mLst, DS.ownL, DS.mLstO, DS.mChain, DS.mNx, DS.mBrk, DS.mCt, DS.mAug, DS.aug2, DS.dAddI, DS.mRet, DS.mRetO, DS.mRetN, DS.mIte, DS.mApp, DS.app2, DS.isOL, DS.mSetL, DS.setL2, DS.gN, DS.gA0, DS.gA, DS.gT, DS.bindD, DS.mAsg, DS.itemsD, DS.mIt, DS.mEnum, DS.mFor, DS.svsOf, DS.slotsOf, DS.RV.sv, DS.callD, DS.roD, DS.roO, DS.mCall, DS.mCallO, DS.mIsi, DS.dIsi, DS.kindOf, DS.notOwn, DS.mRaise, DS.mSl, DS.optI, DS.dSl, DS.mPar, DS.par2, DS.R.bnd_ok, DS.R.bnd_er, DS.R.bnd_bad, DS.wb, DS.mYes, DS.isNon, DS.dIs, DS.dIsNot, ite_ap, rr1, rr2, rr3, rr4, lg8209]
theorem rangeC_drop {a : Int} {n i : Nat} (h : i < n) : (rangeC a 1 n).drop i = .int (a + i) :: (rangeC a 1 n).drop (i + 1) := by
  have hl : i < (rangeC a 1 n).length := by simp [rangeC]; exact h
  rw [List.drop_eq_getElem_cons hl]
  simp [rangeC]
theorem loopH {mk : List PyData → PyData} (hm : Seq mk) {kvs : List (Key × PyData)} (hk : kvs.length ≤ 900) {c : Int} {b : Int × Int} (hc : 0 < c) (hc2 : c ≤ 64) (hf : ∀ x, b.2 ≤ x → x < b.2 + c → inK kvs x = false) (cs v : SV) : ∃ y, forL (gN 3) lb_hold_1 (rangeC b.2 1 c.toNat) [.od kvs, .d (blk mk c b), cs, v] = .ok .nx [.od (kvs ++ cKV c b), .d (blk mk c b), cs, y] := by
  have loop : ∃ ρ', forL (gN 3) lb_hold_1 (rangeC b.2 1 c.toNat) [.od kvs, .d (blk mk c b), cs, v] = .ok .nx ρ' ∧ ∃ y, ρ' = [.od (kvs ++ cKV c b), .d (blk mk c b), cs, y] := by
    refine forL_inv (E := fun ρ' => ∃ y, ρ' = [.od (kvs ++ cKV c b), .d (blk mk c b), cs, y]) (fun r ρ => ∃ i y, i ≤ c.toNat ∧ r = (rangeC b.2 1 c.toNat).drop i ∧ ρ = [.od (kvs ++ cKVn i b), .d (blk mk c b), cs, y]) ?_ ?_ ⟨0, v, Nat.zero_le _, by rw [List.drop_zero], by simp [cKVn]⟩
    · rintro x r ρ ⟨i, y, hi, hr, rfl⟩
      by_cases hlt : i < c.toNat
      · rw [rangeC_drop hlt] at hr
        cases hr
        have nw := pKV_new (inK_new hf (n := i) (by omega)) (.int b.1)
        have i0 : ∀ a b c : PyData, atI [a, b, c] 0 = some a := fun _ _ _ => rfl
        refine ⟨_, _, rfl, .inl ⟨?_, i + 1, .d (.int (b.2 + i)), hlt, rfl, rfl⟩⟩
        rw [cKVn_succ, ← List.append_assoc, ← nw]
        have ln : kvs.length + (cKVn i b).length < sizeLine := sl3 (by rw [cKVn, List.length_map, List.length_range]; omega)
        rcases hm with rfl | rfl <;> simp [lb_hold_1, blk, dIx, i0, ln, DS.bodyF, DS.okArgs, DS.finR, DS.mSeq, DS.sq, DS.bnd, DS.ret, DS.bad, DS.mSet, DS.mSetO, DS.keepD, DS.mVar, DS.mC, DS.mOp2, DS.mOp1, DS.mCB, DS.opD, DS.op1D, DS.opnD, DS.RV.data, DS.datas, DS.mNil, DS.mCons, DS.dAdd, DS.dSub, DS.dMul, DS.dDiv, DS.dMod, DS.dPow, DS.dNeg, DS.dLt, DS.dLe, DS.dGt, DS.dGe, DS.dLen, DS.dTuple, DS.dList, DS.dAbs, DS.dInt, DS.dMax2, DS.dMin2, DS.asB, DS.mT, DS.mNot, DS.mAnd, DS.mOr, DS.datB, DS.mAndV, DS.mOrV, DS.mNotV, DS.mIf, DS.dats, DS.dspD, DS.mTup, DS.mLst, DS.ownL, DS.mLstO, DS.mChain, DS.mNx, DS.mBrk, DS.mCt, DS.mAug, DS.aug2, DS.dAddI, DS.mRet, DS.mRetO, DS.mRetN, DS.mIte, DS.mApp, DS.app2, DS.isOL, DS.mSetL, DS.setL2, DS.gN, DS.gA0, DS.gA, DS.gT, DS.bindD, DS.mAsg, DS.itemsD, DS.mIt, DS.mEnum, DS.mFor, DS.svsOf, DS.slotsOf, DS.RV.sv, DS.callD, DS.roD, DS.roO, DS.mCall, DS.mCallO, DS.mIsi, DS.dIsi, DS.kindOf, DS.notOwn, DS.mRaise, DS.mSl, DS.optI, DS.dSl, DS.mPar, DS.par2, DS.R.bnd_ok, DS.R.bnd_er, DS.R.bnd_bad, DS.wb, DS.mYes, DS.isNon, DS.dIs, DS.dIsNot, ite_ap, rr1, rr2, rr3, rr4, lg8209, DS.mP, DS.pVar, DS.pC, DS.pFld, DS.fldP, DS.atP, DS.getP, DS.setP, DS.FS.get, DS.FS.put, DS.FS.len, DS.mSetF, DS.mSetFO, DS.keepF, DS.setFP, DS.setF, DS.mMake, DS.makeD, DS.mCallN, DS.callN, DS.pickL, DS.pIn, DS.inD, DS.keyOf, DS.keyD, DS.dAt, DS.PV.data, DS.mPut, DS.putDP, DS.putD, DS.mConsO, DS.mNilO, DS.mDat, DS.datS, DS.mAsgO, DS.asgO, DS.setsO, DS.mParO, DS.par2O]
      · rw [List.drop_eq_nil_of_le (by simp [rangeC]; omega)] at hr
        cases hr
    · rintro ρ ⟨i, y, hi, hr, rfl⟩
      have : c.toNat ≤ i := by
        rcases Nat.lt_or_ge i c.toNat with h | h
        · rw [rangeC_drop h] at hr; cases hr
        · exact h
      have e : i = c.toNat := by omega
      subst e
      exact ⟨y, rfl⟩
  obtain ⟨ρ', e, y, rfl⟩ := loop
  exact ⟨y, e⟩
theorem noneIn {mk : List PyData → PyData} {kvs : List (Key × PyData)} {c : Int} {b : Int × Int} (hc2 : c ≤ 64) (hf : ∀ x, b.2 ≤ x → x < b.2 + c → inK kvs x = false) :
    mLC (mIt (mVar 2)) (gN 3) mYes (mP (pIn false (pVar 3) (pVar 0))) [3] [.od kvs, .d (blk mk c b), .d (.list (rangeC b.2 1 c.toNat)), .un] = .ok (.dat (.list ((rangeC b.2 1 c.toNat).map fun _ => .bool false))) [.od kvs, .d (blk mk c b), .d (.list (rangeC b.2 1 c.toNat)), .un] := by
  have h := mLC_g (mi := mIt (mVar 2)) (gm := gN 3) (mt := mYes) (me := mP (pIn false (pVar 3) (pVar 0))) (vs := [3]) (ρ := [.od kvs, .d (blk mk c b), .d (.list (rangeC b.2 1 c.toNat)), .un]) (ρw := [.od kvs, .d (blk mk c b), .d (.list (rangeC b.2 1 c.toNat)), .un]) (items := rangeC b.2 1 c.toNat) (fun _ => true) (fun _ => .bool false) (by simp [DS.bodyF, DS.okArgs, DS.finR, DS.mSeq, DS.sq, DS.bnd, DS.ret, DS.bad, DS.mSet, DS.mSetO, DS.keepD, DS.mVar, DS.mC, DS.mOp2, DS.mOp1, DS.mCB, DS.opD, DS.op1D, DS.opnD, DS.RV.data, DS.datas, DS.mNil, DS.mCons, DS.dAdd, DS.dSub, DS.dMul, DS.dDiv, DS.dMod, DS.dPow, DS.dNeg, DS.dLt, DS.dLe, DS.dGt, DS.dGe, DS.dLen, DS.dTuple, DS.dList, DS.dAbs, DS.dInt, DS.dMax2, DS.dMin2, DS.asB, DS.mT, DS.mNot, DS.mAnd, DS.mOr, DS.datB, DS.mAndV, DS.mOrV, DS.mNotV, DS.mIf, DS.dats, DS.dspD, DS.mTup, DS.mLst, DS.ownL, DS.mLstO, DS.mChain, DS.mNx, DS.mBrk, DS.mCt, DS.mAug, DS.aug2, DS.dAddI, DS.mRet, DS.mRetO, DS.mRetN, DS.mIte, DS.mApp, DS.app2, DS.isOL, DS.mSetL, DS.setL2, DS.gN, DS.gA0, DS.gA, DS.gT, DS.bindD, DS.mAsg, DS.itemsD, DS.mIt, DS.mEnum, DS.mFor, DS.svsOf, DS.slotsOf, DS.RV.sv, DS.callD, DS.roD, DS.roO, DS.mCall, DS.mCallO, DS.mIsi, DS.dIsi, DS.kindOf, DS.notOwn, DS.mRaise, DS.mSl, DS.optI, DS.dSl, DS.mPar, DS.par2, DS.R.bnd_ok, DS.R.bnd_er, DS.R.bnd_bad, DS.wb, DS.mYes, DS.isNon, DS.dIs, DS.dIsNot, ite_ap, rr1, rr2, rr3, rr4, lg8209]) rfl rfl rfl (by simp [rangeC]; omega) (fun x hx => by
    unfold rangeC at hx
    rw [List.mem_map] at hx
    obtain ⟨k, hk, rfl⟩ := hx
    rw [List.mem_range] at hk
    have nf := hf (b.2 + k * 1) (by omega) (by omega)
    refine ⟨[.od kvs, .d (blk mk c b), .d (.list (rangeC b.2 1 c.toNat)), .d (.int (b.2 + k * 1))], rfl, rfl, fun _ => ?_, rfl⟩
    unfold inK at nf
    simp only [Int.mul_one] at nf ⊢
    simp [DS.bodyF, DS.okArgs, DS.finR, DS.mSeq, DS.sq, DS.bnd, DS.ret, DS.bad, DS.mSet, DS.mSetO, DS.keepD, DS.mVar, DS.mC, DS.mOp2, DS.mOp1, DS.mCB, DS.opD, DS.op1D, DS.opnD, DS.RV.data, DS.datas, DS.mNil, DS.mCons, DS.dAdd, DS.dSub, DS.dMul, DS.dDiv, DS.dMod, DS.dPow, DS.dNeg, DS.dLt, DS.dLe, DS.dGt, DS.dGe, DS.dLen, DS.dTuple, DS.dList, DS.dAbs, DS.dInt, DS.dMax2, DS.dMin2, DS.asB, DS.mT, DS.mNot, DS.mAnd, DS.mOr, DS.datB, DS.mAndV, DS.mOrV, DS.mNotV, DS.mIf, DS.dats, DS.dspD, DS.mTup, DS.mLst, DS.ownL, DS.mLstO, DS.mChain, DS.mNx, DS.mBrk, DS.mCt, DS.mAug, DS.aug2, DS.dAddI, DS.mRet, DS.mRetO, DS.mRetN, DS.mIte, DS.mApp, DS.app2, DS.isOL, DS.mSetL, DS.setL2, DS.gN, DS.gA0, DS.gA, DS.gT, DS.bindD, DS.mAsg, DS.itemsD, DS.mIt, DS.mEnum, DS.mFor, DS.svsOf, DS.slotsOf, DS.RV.sv, DS.callD, DS.roD, DS.roO, DS.mCall, DS.mCallO, DS.mIsi, DS.dIsi, DS.kindOf, DS.notOwn, DS.mRaise, DS.mSl, DS.optI, DS.dSl, DS.mPar, DS.par2, DS.R.bnd_ok, DS.R.bnd_er, DS.R.bnd_bad, DS.wb, DS.mYes, DS.isNon, DS.dIs, DS.dIsNot, ite_ap, rr1, rr2, rr3, rr4, lg8209, DS.mP, DS.pVar, DS.pC, DS.pFld, DS.fldP, DS.atP, DS.getP, DS.setP, DS.FS.get, DS.FS.put, DS.FS.len, DS.mSetF, DS.mSetFO, DS.keepF, DS.setFP, DS.setF, DS.mMake, DS.makeD, DS.mCallN, DS.callN, DS.pickL, DS.pIn, DS.inD, DS.keyOf, DS.keyD, DS.dAt, DS.PV.data, DS.mPut, DS.putDP, DS.putD, DS.mConsO, DS.mNilO, DS.mDat, DS.datS, DS.mAsgO, DS.asgO, DS.setsO, DS.mParO, DS.par2O, nf])
  rw [h, List.filter_eq_self.mpr fun _ _ => rfl]
theorem bools_false {α : Type} : ∀ xs : List α, bools? (xs.map fun _ => PyData.bool false) = some (xs.map fun _ => false)
  | [] => rfl
  | x :: xs => by
    rw [List.map_cons, List.map_cons]
    unfold bools?
    rw [bools_false xs]
    rfl
theorem hold_eq {mk : List PyData → PyData} (hm : Seq mk) {kvs : List (Key × PyData)} (hk : kvs.length ≤ 900) {c : Int} {b : Int × Int} (hc : 0 < c) (hc2 : c ≤ 64) (h0 : 0 ≤ b.2) (h1 : b.2 ≤ 100000) (hf : ∀ x, b.2 ≤ x → x < b.2 + c → inK kvs x = false) :
    m_hold [.od kvs, .d (blk mk c b)] = .ok (.dat (.bool true)) [.od (kvs ++ cKV c b), .d (blk mk c b)] := by
  have e1 := cells_of_eq c b.2 hc hc2 h0 h1
  have e2 := noneIn (mk := mk) hc2 hf
  obtain ⟨y, e3⟩ := loopH hm hk hc hc2 hf (.d (.list (rangeC b.2 1 c.toNat))) .un
  have e4 : dAny [.list ((rangeC b.2 1 c.toNat).map fun _ => .bool false)] = some (.bool false) := by
    have q := bools_false (rangeC b.2 1 c.toNat)
    show (bools? ((rangeC b.2 1 c.toNat).map fun _ => PyData.bool false)).map (fun bs => PyData.bool (bs.any id)) = _
    rw [q]
    simp
  have i1 : ∀ a b c : PyData, atI [a, b, c] 1 = some b := fun _ _ _ => rfl
  have i2 : ∀ a b c : PyData, atI [a, b, c] 2 = some c := fun _ _ _ => rfl
  unfold m_hold bodyF
  generalize mLC (mIt (mVar 2)) (gN 3) mYes (mP (pIn false (pVar 3) (pVar 0))) [3] = lcm at e2 ⊢
  generalize lb_hold_1 = lb at e3 ⊢
  have hb : dIx (blk mk c b) (.int 1) = some (.int c) ∧ dIx (blk mk c b) (.int 2) = some (.int b.2) := by
    rcases hm with rfl | rfl <;> exact ⟨rfl, rfl⟩
  generalize blk mk c b = B at hb e2 e3 ⊢
  obtain ⟨b1, b2⟩ := hb
  simp [g_hold, b1, b2, e1, e2, e3, e4, DS.bodyF, DS.okArgs, DS.finR, DS.mSeq, DS.sq, DS.bnd, DS.ret, DS.bad, DS.mSet, DS.mSetO, DS.keepD, DS.mVar, DS.mC, DS.mOp2, DS.mOp1, DS.mCB, DS.opD, DS.op1D, DS.opnD, DS.RV.data, DS.datas, DS.mNil, DS.mCons, DS.dAdd, DS.dSub, DS.dMul, DS.dDiv, DS.dMod, DS.dPow, DS.dNeg, DS.dLt, DS.dLe, DS.dGt, DS.dGe, DS.dLen, DS.dTuple, DS.dList, DS.dAbs, DS.dInt, DS.dMax2, DS.dMin2, DS.asB, DS.mT, DS.mNot, DS.mAnd, DS.mOr, DS.datB, DS.mAndV, DS.mOrV, DS.mNotV, DS.mIf, DS.dats, DS.dspD, DS.mTup, DS.mLst, DS.ownL, DS.mLstO, DS.mChain, DS.mNx, DS.mBrk, DS.mCt, DS.mAug, DS.aug2, DS.dAddI, DS.mRet, DS.mRetO, DS.mRetN, DS.mIte, DS.mApp, DS.app2, DS.isOL, DS.mSetL, DS.setL2, DS.gN, DS.gA0, DS.gA, DS.gT, DS.bindD, DS.mAsg, DS.itemsD, DS.mIt, DS.mEnum, DS.mFor, DS.svsOf, DS.slotsOf, DS.RV.sv, DS.callD, DS.roD, DS.roO, DS.mCall, DS.mCallO, DS.mIsi, DS.dIsi, DS.kindOf, DS.notOwn, DS.mRaise, DS.mSl, DS.optI, DS.dSl, DS.mPar, DS.par2, DS.R.bnd_ok, DS.R.bnd_er, DS.R.bnd_bad, DS.wb, DS.mYes, DS.isNon, DS.dIs, DS.dIsNot, ite_ap, rr1, rr2, rr3, rr4, lg8209]
end Zk32
end
section
set_option pp.maxSteps 1500
set_option Elab.async false
set_option linter.all false
set_option maxRecDepth 100000
set_option maxHeartbeats 4000000
namespace Zk32
open PySem PySem.Spec PyProof.Rows L2 DS
theorem plI_mem {ys ps : List Int} {c z : Int} : z ∈ plI ys ps c ↔ ∃ p ∈ ps, ∃ k : Nat, k < (lastI ys / c).toNat ∧ z = p * lastI ys + k * c := by
  unfold plI
  rw [List.mem_flatMap]
  constructor
  · rintro ⟨p, hp, h⟩
    rw [List.mem_map] at h
    obtain ⟨k, hk, rfl⟩ := h
    exact ⟨p, hp, k, List.mem_range.mp hk, rfl⟩
  · rintro ⟨p, hp, k, hk, rfl⟩
    exact ⟨p, hp, List.mem_map.mpr ⟨k, List.mem_range.mpr hk, rfl⟩⟩
/-- a place's cells, page, and rest -/
theorem plI_facts {ys ps : List Int} (hs : SzOk ys) (hp : PgB ps) {c z : Int} (hc : 0 < c) (hc2 : c ≤ 64) (hd : lastI ys % c = 0) (h : z ∈ plI ys ps c) : 0 ≤ z ∧ z ≤ 100000 ∧ z % c = 0 ∧ z / lastI ys ∈ ps := by
  have sm := plI_sm hs hp hc hc2 z h
  obtain ⟨p, hm, k, hk, rfl⟩ := plI_mem.mp h
  have lp := hs.lastp
  obtain ⟨p0, p1⟩ := hp.2.2.2 p hm
  have w1 : 0 ≤ p * lastI ys := Int.mul_nonneg p0 (by omega)
  have w3 : (0 : Int) ≤ k * c := Int.mul_nonneg (by omega) (by omega)
  have dv : c ∣ lastI ys := Int.dvd_of_emod_eq_zero hd
  have q0 : lastI ys / c * c = lastI ys := Int.ediv_mul_cancel dv
  have w4 : (k : Int) * c < lastI ys := by
    have h1 : (k : Int) + 1 ≤ lastI ys / c := by omega
    have h2 : ((k : Int) + 1) * c ≤ lastI ys / c * c := Int.mul_le_mul_of_nonneg_right h1 (by omega)
    rw [Int.add_mul, q0] at h2
    omega
  refine ⟨by omega, sm.2, ?_, ?_⟩
  · have : c ∣ p * lastI ys + k * c := Int.dvd_add (Int.dvd_trans dv (Int.dvd_mul_left _ _)) (Int.dvd_mul_left _ _)
    exact Int.emod_eq_zero_of_dvd this
  · have e : (p * lastI ys + k * c) / lastI ys = p := by
      rw [Int.add_comm, Int.add_mul_ediv_right _ _ (by omega), Int.ediv_eq_zero_of_lt w3 w4]
      omega
    rw [e]
    exact hm
structure Pic (ys ps : List Int) (c : Int) (bs : List (Int × Int)) : Prop where
  len : bs.length ≤ 500
  hd : ∀ b ∈ bs, 0 ≤ b.1 ∧ b.1 ≤ 1000
  asc : bs.Pairwise (fun a b => a.1 < b.1)
  un : ∀ b ∈ bs, b.2 ∈ plI ys ps c
  ne : bs.Pairwise (fun a b => a.2 ≠ b.2)
theorem apart {c x y z : Int} (hc : 0 < c) (hx : x % c = 0) (hy : y % c = 0) (n : x ≠ y) (h1 : x ≤ z) (h2 : z < x + c) : ¬ (y ≤ z ∧ z < y + c) := by
  rintro ⟨h3, h4⟩
  have e1 := Int.mul_ediv_add_emod x c
  have e2 := Int.mul_ediv_add_emod y c
  rw [hx] at e1
  rw [hy] at e2
  generalize x / c = a at e1
  generalize y / c = b at e2
  rcases Int.lt_trichotomy a b with q | q | q
  · have := Int.mul_le_mul_of_nonneg_left (show a + 1 ≤ b by omega) (show 0 ≤ c by omega)
    rw [Int.mul_add] at this
    omega
  · subst q; omega
  · have := Int.mul_le_mul_of_nonneg_left (show b + 1 ≤ a by omega) (show 0 ≤ c by omega)
    rw [Int.mul_add] at this
    omega
theorem any_dl (c : Int) : ∀ ys : List Int, (dl ys).any (fun z => PyData.eqv z (.int c)) = decide (c ∈ ys)
  | [] => by simp [dl]
  | y :: ys => by
    have := any_dl c ys
    unfold dl at this ⊢
    rw [List.map_cons, List.any_cons, this]
    by_cases h : y = c
    · subst h; simp [PyData.eqv]
    · by_cases h2 : c ∈ ys
      · simp [h2]
      · have h3 : ¬ c = y := fun z => h z.symm
        simp [PyData.eqv, h, h2, h3]
theorem dInB_mem (ys : List Int) (c : Int) : dInB (.int c) (.tuple (dl ys)) = some (decide (c ∈ ys)) := by
  have a := shaped_dl (mk := .tuple) (.inr rfl) ys
  show (if SeqAt.shaped (.int c) = true ∧ SeqAt.shaped (.tuple (dl ys)) = true then some ((dl ys).any fun z => PyData.eqv z (.int c)) else none) = _
  rw [if_pos ⟨by simp [SeqAt.shaped, PyData.canLay0, PyData.depth], a⟩, any_dl]
theorem dIn_mem {ys : List Int} {c : Int} (h : c ∈ ys) : dIn (.int c) (.tuple (dl ys)) = some (.bool true) := by
  simp [dIn, dInB_mem, h]
theorem in_pages_eq {ys ps : List Int} (hs : SzOk ys) (hp : PgB ps) {z : Int} (h0 : 0 ≤ z) (h1 : z ≤ 100000) (h : z / lastI ys ∈ ps) : m_in_pages [.d (.tuple (dl ys)), .d (.tuple (dl ps)), .d (.int z)] = .ok (.dat (.bool true)) [.d (.tuple (dl ys)), .d (.tuple (dl ps)), .d (.int z)] := by
  have l1 := at_l1 hs.1
  have lp := hs.lastp
  have e := dIn_mem h
  have lg : (lastI ys).natAbs.log2 < 9000 := log_s (by omega) (by omega)
  have p2 : 0 < lastI ys := by omega
  simp [m_in_pages, g_in_pages, dIx, l1, e, lg, p2, DS.bodyF, DS.okArgs, DS.finR, DS.mSeq, DS.sq, DS.bnd, DS.ret, DS.bad, DS.mSet, DS.mSetO, DS.keepD, DS.mVar, DS.mC, DS.mOp2, DS.mOp1, DS.mCB, DS.opD, DS.op1D, DS.opnD, DS.RV.data, DS.datas, DS.mNil, DS.mCons, DS.dAdd, DS.dSub, DS.dMul, DS.dDiv, DS.dMod, DS.dPow, DS.dNeg, DS.dLt, DS.dLe, DS.dGt, DS.dGe, DS.dLen, DS.dTuple, DS.dList, DS.dAbs, DS.dInt, DS.dMax2, DS.dMin2, DS.asB, DS.mT, DS.mNot, DS.mAnd, DS.mOr, DS.datB, DS.mAndV, DS.mOrV, DS.mNotV, DS.mIf, DS.dats, DS.dspD, DS.mTup, DS.mLst, DS.ownL, DS.mLstO, DS.mChain, DS.mNx, DS.mBrk, DS.mCt, DS.mAug, DS.aug2, DS.dAddI, DS.mRet, DS.mRetO, DS.mRetN, DS.mIte, DS.mApp, DS.app2, DS.isOL, DS.mSetL, DS.setL2, DS.gN, DS.gA0, DS.gA, DS.gT, DS.bindD, DS.mAsg, DS.itemsD, DS.mIt, DS.mEnum, DS.mFor, DS.svsOf, DS.slotsOf, DS.RV.sv, DS.callD, DS.roD, DS.roO, DS.mCall, DS.mCallO, DS.mIsi, DS.dIsi, DS.kindOf, DS.notOwn, DS.mRaise, DS.mSl, DS.optI, DS.dSl, DS.mPar, DS.par2, DS.R.bnd_ok, DS.R.bnd_er, DS.R.bnd_bad, DS.wb, DS.mYes, DS.isNon, DS.dIs, DS.dIsNot, ite_ap, rr1, rr2, rr3, rr4, lg8209]
theorem is_block_eq {mk : List PyData → PyData} (hm : Seq mk) {ys ps : List Int} (hs : SzOk ys) (hp : PgB ps) {c : Int} (hc : 0 < c) (hc2 : c ≤ 64) (hd : lastI ys % c = 0) (hy : c ∈ ys) {b : Int × Int} (h0 : 0 ≤ b.1) (hu : b.2 ∈ plI ys ps c) :
    m_is_block [.d (.tuple (dl ys)), .d (.tuple (dl ps)), .d (blk mk c b)] = .ok (.dat (.bool true)) [.d (.tuple (dl ys)), .d (.tuple (dl ps)), .d (blk mk c b)] := by
  obtain ⟨p0, p1, p2, p3⟩ := plI_facts hs hp hc hc2 hd hu
  have e1 := in_pages_eq hs hp p0 p1 p3
  have e3 : dNotIn (.int c) (.tuple (dl ys)) = some (.bool false) := by
    simp [dNotIn, dInB_mem, hy]
  have lg : c.natAbs.log2 < 9000 := log_s (by omega) (by omega)
  unfold m_is_block bodyF
  rcases hm with rfl | rfl <;> simp [g_is_block, blk, is_sequence_eq, is_number_eq, is_integer_eq, isNum, isInt, e1, e3, h0, p0, p2, lg, hc, dNe, dEq, dEqB, sl2, DS.bodyF, DS.okArgs, DS.finR, DS.mSeq, DS.sq, DS.bnd, DS.ret, DS.bad, DS.mSet, DS.mSetO, DS.keepD, DS.mVar, DS.mC, DS.mOp2, DS.mOp1, DS.mCB, DS.opD, DS.op1D, DS.opnD, DS.RV.data, DS.datas, DS.mNil, DS.mCons, DS.dAdd, DS.dSub, DS.dMul, DS.dDiv, DS.dMod, DS.dPow, DS.dNeg, DS.dLt, DS.dLe, DS.dGt, DS.dGe, DS.dLen, DS.dTuple, DS.dList, DS.dAbs, DS.dInt, DS.dMax2, DS.dMin2, DS.asB, DS.mT, DS.mNot, DS.mAnd, DS.mOr, DS.datB, DS.mAndV, DS.mOrV, DS.mNotV, DS.mIf, DS.dats, DS.dspD, DS.mTup, DS.mLst, DS.ownL, DS.mLstO, DS.mChain, DS.mNx, DS.mBrk, DS.mCt, DS.mAug, DS.aug2, DS.dAddI, DS.mRet, DS.mRetO, DS.mRetN, DS.mIte, DS.mApp, DS.app2, DS.isOL, DS.mSetL, DS.setL2, DS.gN, DS.gA0, DS.gA, DS.gT, DS.bindD, DS.mAsg, DS.itemsD, DS.mIt, DS.mEnum, DS.mFor, DS.svsOf, DS.slotsOf, DS.RV.sv, DS.callD, DS.roD, DS.roO, DS.mCall, DS.mCallO, DS.mIsi, DS.dIsi, DS.kindOf, DS.notOwn, DS.mRaise, DS.mSl, DS.optI, DS.dSl, DS.mPar, DS.par2, DS.R.bnd_ok, DS.R.bnd_er, DS.R.bnd_bad, DS.wb, DS.mYes, DS.isNon, DS.dIs, DS.dIsNot, ite_ap, rr1, rr2, rr3, rr4, lg8209]
end Zk32
end
section
set_option pp.maxSteps 1500
set_option Elab.async false
set_option linter.all false
set_option maxRecDepth 100000
set_option maxHeartbeats 4000000
namespace Zk32
open PySem PySem.Spec PyProof.Rows L2 DS
theorem atI_at {xs : List PyData} {i : Nat} (h : i < xs.length) : atI xs (i : Int) = some xs[i] := by
  simp [atI, ixN, h]
theorem pic_free {ys ps : List Int} (hs : SzOk ys) (hp : PgB ps) {c : Int} (hc : 0 < c) (hc2 : c ≤ 64) (hd : lastI ys % c = 0) {bs : List (Int × Int)} (h : Pic ys ps c bs) {i : Nat} (hi : i < bs.length) : ∀ x, bs[i].2 ≤ x → x < bs[i].2 + c → inK (aKV c (bs.take i)) x = false := by
  intro x h1 h2
  cases e : inK (aKV c (bs.take i)) x with
  | false => rfl
  | true =>
    obtain ⟨b, hb, q⟩ := (aKV_in c _ x).mp e
    obtain ⟨j, hj, rfl⟩ := List.getElem_of_mem hb
    rw [List.length_take] at hj
    rw [List.getElem_take] at q hb
    have n := (List.pairwise_iff_getElem.mp h.ne) j i (by omega) hi (by omega)
    have u1 := (plI_facts hs hp hc hc2 hd (h.un _ (List.getElem_mem hi))).2.2.1
    have u2 := (plI_facts hs hp hc hc2 hd (h.un _ (List.getElem_mem (show j < bs.length by omega)))).2.2.1
    exact absurd q (apart hc u1 u2 (fun z => n z.symm) h1 h2)
theorem aKV_len (c : Int) : ∀ bs : List (Int × Int), (aKV c bs).length = bs.length * c.toNat
  | [] => by simp [aKV]
  | b :: r => by
    have := aKV_len c r
    unfold aKV at this ⊢
    rw [List.flatMap_cons, List.length_append, this, List.length_cons, Nat.add_mul, Nat.one_mul, Nat.add_comm]
    congr 1
    simp [cKV]
theorem lbCP {m1 m2 m3 m4 : List PyData → PyData} (h3 : Seq m3) (h4 : Seq m4) {ys ps : List Int} (hs : SzOk ys) (hp : PgB ps) {c : Int} (hc : 0 < c) (hc2 : c ≤ 64) (hd : lastI ys % c = 0) (hy : c ∈ ys) {bs : List (Int × Int)} (h : Pic ys ps c bs) (hl : bs.length * c.toNat ≤ 800) {i : Nat} (hi : i < bs.length) (s1 s2 : SV) :
    lb_check_picture_1 [s1, s2, .d (m3 (bs.map (blk m4 c))), .od (aKV c (bs.take i)), .d (.tuple (dl ys)), .d (.tuple (dl ps)), .d (.int i), .d (blk m4 c bs[i])] = .ok .nx [s1, s2, .d (m3 (bs.map (blk m4 c))), .od (aKV c (bs.take (i + 1))), .d (.tuple (dl ys)), .d (.tuple (dl ps)), .d (.int i), .d (blk m4 c bs[i])] := by
  have hm := h.un _ (List.getElem_mem hi)
  obtain ⟨p0, p1, _, _⟩ := plI_facts hs hp hc hc2 hd hm
  have e1 := is_block_eq h4 hs hp hc hc2 hd hy (h.hd _ (List.getElem_mem hi)).1 hm
  have kl : (aKV c (bs.take i)).length ≤ 900 := by
    rw [aKV_len, List.length_take]
    have := Nat.mul_le_mul_right c.toNat (show min i bs.length ≤ bs.length by omega)
    omega
  have e2 := hold_eq h4 kl hc hc2 p0 p1 (pic_free hs hp hc hc2 hd h hi)
  rw [← aKV_snoc, ← List.take_succ_eq_append_getElem hi] at e2
  have b0 : dIx (blk m4 c bs[i]) (.int 0) = some (.int bs[i].1) := by rcases h4 with rfl | rfl <;> rfl
  by_cases z : i = 0
  · subst z
    generalize blk m4 c bs[0] = B at e1 e2 b0 ⊢
    generalize aKV c (bs.take 0) = k0 at e2 ⊢
    generalize aKV c (bs.take (0 + 1)) = k1 at e2 ⊢
    simp [lb_check_picture_1, e1, e2, DS.bodyF, DS.okArgs, DS.finR, DS.mSeq, DS.sq, DS.bnd, DS.ret, DS.bad, DS.mSet, DS.mSetO, DS.keepD, DS.mVar, DS.mC, DS.mOp2, DS.mOp1, DS.mCB, DS.opD, DS.op1D, DS.opnD, DS.RV.data, DS.datas, DS.mNil, DS.mCons, DS.dAdd, DS.dSub, DS.dMul, DS.dDiv, DS.dMod, DS.dPow, DS.dNeg, DS.dLt, DS.dLe, DS.dGt, DS.dGe, DS.dLen, DS.dTuple, DS.dList, DS.dAbs, DS.dInt, DS.dMax2, DS.dMin2, DS.asB, DS.mT, DS.mNot, DS.mAnd, DS.mOr, DS.datB, DS.mAndV, DS.mOrV, DS.mNotV, DS.mIf, DS.dats, DS.dspD, DS.mTup, DS.mLst, DS.ownL, DS.mLstO, DS.mChain, DS.mNx, DS.mBrk, DS.mCt, DS.mAug, DS.aug2, DS.dAddI, DS.mRet, DS.mRetO, DS.mRetN, DS.mIte, DS.mApp, DS.app2, DS.isOL, DS.mSetL, DS.setL2, DS.gN, DS.gA0, DS.gA, DS.gT, DS.bindD, DS.mAsg, DS.itemsD, DS.mIt, DS.mEnum, DS.mFor, DS.svsOf, DS.slotsOf, DS.RV.sv, DS.callD, DS.roD, DS.roO, DS.mCall, DS.mCallO, DS.mIsi, DS.dIsi, DS.kindOf, DS.notOwn, DS.mRaise, DS.mSl, DS.optI, DS.dSl, DS.mPar, DS.par2, DS.R.bnd_ok, DS.R.bnd_er, DS.R.bnd_bad, DS.wb, DS.mYes, DS.isNon, DS.dIs, DS.dIsNot, ite_ap, rr1, rr2, rr3, rr4, lg8209]
  · obtain ⟨j, rfl⟩ : ∃ j, i = j + 1 := ⟨i - 1, by omega⟩
    have ln : j < (bs.map (blk m4 c)).length := by rw [List.length_map]; omega
    have v1 : dIx (m3 (bs.map (blk m4 c))) (.int (j : Int)) = some (blk m4 c bs[j]) := by
      have q := atI_at ln
      rw [List.getElem_map] at q
      rcases h3 with rfl | rfl <;> exact q
    have v0 : dIx (blk m4 c bs[j]) (.int 0) = some (.int bs[j].1) := by rcases h4 with rfl | rfl <;> rfl
    have lt := (List.pairwise_iff_getElem.mp h.asc) j (j + 1) (by omega) hi (by omega)
    have g0 : (0 : Int) < (j : Int) + 1 := by omega
    have nle : ¬ bs[j + 1].1 ≤ bs[j].1 := by omega
    generalize blk m4 c bs[j + 1] = B at e1 e2 b0 ⊢
    generalize blk m4 c bs[j] = B' at v1 v0
    generalize m3 (bs.map (blk m4 c)) = V at v1 ⊢
    generalize aKV c (bs.take (j + 1)) = k0 at e2 ⊢
    generalize aKV c (bs.take (j + 1 + 1)) = k1 at e2 ⊢
    simp [lb_check_picture_1, e1, e2, b0, v1, v0, g0, nle, DS.bodyF, DS.okArgs, DS.finR, DS.mSeq, DS.sq, DS.bnd, DS.ret, DS.bad, DS.mSet, DS.mSetO, DS.keepD, DS.mVar, DS.mC, DS.mOp2, DS.mOp1, DS.mCB, DS.opD, DS.op1D, DS.opnD, DS.RV.data, DS.datas, DS.mNil, DS.mCons, DS.dAdd, DS.dSub, DS.dMul, DS.dDiv, DS.dMod, DS.dPow, DS.dNeg, DS.dLt, DS.dLe, DS.dGt, DS.dGe, DS.dLen, DS.dTuple, DS.dList, DS.dAbs, DS.dInt, DS.dMax2, DS.dMin2, DS.asB, DS.mT, DS.mNot, DS.mAnd, DS.mOr, DS.datB, DS.mAndV, DS.mOrV, DS.mNotV, DS.mIf, DS.dats, DS.dspD, DS.mTup, DS.mLst, DS.ownL, DS.mLstO, DS.mChain, DS.mNx, DS.mBrk, DS.mCt, DS.mAug, DS.aug2, DS.dAddI, DS.mRet, DS.mRetO, DS.mRetN, DS.mIte, DS.mApp, DS.app2, DS.isOL, DS.mSetL, DS.setL2, DS.gN, DS.gA0, DS.gA, DS.gT, DS.bindD, DS.mAsg, DS.itemsD, DS.mIt, DS.mEnum, DS.mFor, DS.svsOf, DS.slotsOf, DS.RV.sv, DS.callD, DS.roD, DS.roO, DS.mCall, DS.mCallO, DS.mIsi, DS.dIsi, DS.kindOf, DS.notOwn, DS.mRaise, DS.mSl, DS.optI, DS.dSl, DS.mPar, DS.par2, DS.R.bnd_ok, DS.R.bnd_er, DS.R.bnd_bad, DS.wb, DS.mYes, DS.isNon, DS.dIs, DS.dIsNot, ite_ap, rr1, rr2, rr3, rr4, lg8209]
theorem check_picture_eq {m1 m2 m3 m4 : List PyData → PyData} (h1 : Seq m1) (h2 : Seq m2) (h3 : Seq m3) (h4 : Seq m4) {ys ps : List Int} (hs : SzOk ys) (hp : PgB ps) {c : Int} (hc : 0 < c) (hc2 : c ≤ 64) (hd : lastI ys % c = 0) (hy : c ∈ ys) {bs : List (Int × Int)} (h : Pic ys ps c bs) (hl : bs.length * c.toNat ≤ 800) :
    m_check_picture [.d (m1 (dl ys)), .d (m2 (dl ps)), .d (m3 (bs.map (blk m4 c)))] = .ok (.dat (.tuple (bs.map (blk .tuple c)))) [.d (m1 (dl ys)), .d (m2 (dl ps)), .d (m3 (bs.map (blk m4 c)))] := by
  have c1 := check_sizes_eq h1 hs
  have c2 := check_pages_eq h2 hp.1
  have loop : ∃ ρ', forL (gT 2 (gA (gN 6) (gA (gN 7) gA0))) lb_check_picture_1 (enumD 0 (bs.map (blk m4 c))) [.d (m1 (dl ys)), .d (m2 (dl ps)), .d (m3 (bs.map (blk m4 c))), .od [], .d (.tuple (dl ys)), .d (.tuple (dl ps)), .un, .un] = .ok .nx ρ' ∧ ∃ x y kv, ρ' = [.d (m1 (dl ys)), .d (m2 (dl ps)), .d (m3 (bs.map (blk m4 c))), .od kv, .d (.tuple (dl ys)), .d (.tuple (dl ps)), x, y] ∧ ∃ d, y = .un ∨ y = .d d := by
    refine forL_inv (E := fun ρ' => ∃ x y kv, ρ' = [.d (m1 (dl ys)), .d (m2 (dl ps)), .d (m3 (bs.map (blk m4 c))), .od kv, .d (.tuple (dl ys)), .d (.tuple (dl ps)), x, y] ∧ ∃ d, y = .un ∨ y = .d d) (fun r ρ => ∃ i x y, i ≤ bs.length ∧ r = enumD i ((bs.map (blk m4 c)).drop i) ∧ ρ = [.d (m1 (dl ys)), .d (m2 (dl ps)), .d (m3 (bs.map (blk m4 c))), .od (aKV c (bs.take i)), .d (.tuple (dl ys)), .d (.tuple (dl ps)), x, y] ∧ ∃ d, y = .un ∨ y = .d d) ?_ ?_ ⟨0, .un, .un, Nat.zero_le _, by rw [List.drop_zero], by simp [aKV], .none, .inl rfl⟩
    · rintro x r ρ ⟨i, x', y', hi, hr, rfl, _⟩
      by_cases hlt : i < bs.length
      · rw [List.drop_eq_getElem_cons (by rw [List.length_map]; exact hlt), List.getElem_map, enumD_cons] at hr
        cases hr
        exact ⟨_, _, rfl, .inl ⟨lbCP (m1 := m1) (m2 := m2) h3 h4 hs hp hc hc2 hd hy h hl hlt _ _, i + 1, _, _, hlt, rfl, rfl, _, .inr rfl⟩⟩
      · rw [List.drop_eq_nil_of_le (by rw [List.length_map]; omega), enumD_nil] at hr
        cases hr
    · rintro ρ ⟨i, x', y', hi, hr, rfl, d, hy'⟩
      exact ⟨x', y', _, rfl, d, hy'⟩
  obtain ⟨ρ', e, x, y, kv, rfl, d, hyd⟩ := loop
  have hb : ∀ b, dTuple [blk m4 c b] = some (blk .tuple c b) := fun b => by rcases h4 with rfl | rfl <;> rfl
  have lc : mLC (mIt (mVar 2)) (gN 7) mYes (mCB dTuple (mCons (mVar 7) mNil)) [7] [.d (m1 (dl ys)), .d (m2 (dl ps)), .d (m3 (bs.map (blk m4 c))), .od kv, .d (.tuple (dl ys)), .d (.tuple (dl ps)), x, y] = .ok (.dat (.list (bs.map (blk .tuple c)))) [.d (m1 (dl ys)), .d (m2 (dl ps)), .d (m3 (bs.map (blk m4 c))), .od kv, .d (.tuple (dl ys)), .d (.tuple (dl ps)), x, y] := by
    have g := mLC_g (mi := mIt (mVar 2)) (gm := gN 7) (mt := mYes) (me := mCB dTuple (mCons (mVar 7) mNil)) (vs := [7]) (ρ := [.d (m1 (dl ys)), .d (m2 (dl ps)), .d (m3 (bs.map (blk m4 c))), .od kv, .d (.tuple (dl ys)), .d (.tuple (dl ps)), x, y]) (ρw := [.d (m1 (dl ys)), .d (m2 (dl ps)), .d (m3 (bs.map (blk m4 c))), .od kv, .d (.tuple (dl ys)), .d (.tuple (dl ps)), x, .un]) (items := bs.map (blk m4 c)) (fun _ => true) (fun z => (dTuple [z]).getD .none) (by rcases h3 with rfl | rfl <;> simp [DS.bodyF, DS.okArgs, DS.finR, DS.mSeq, DS.sq, DS.bnd, DS.ret, DS.bad, DS.mSet, DS.mSetO, DS.keepD, DS.mVar, DS.mC, DS.mOp2, DS.mOp1, DS.mCB, DS.opD, DS.op1D, DS.opnD, DS.RV.data, DS.datas, DS.mNil, DS.mCons, DS.dAdd, DS.dSub, DS.dMul, DS.dDiv, DS.dMod, DS.dPow, DS.dNeg, DS.dLt, DS.dLe, DS.dGt, DS.dGe, DS.dLen, DS.dTuple, DS.dList, DS.dAbs, DS.dInt, DS.dMax2, DS.dMin2, DS.asB, DS.mT, DS.mNot, DS.mAnd, DS.mOr, DS.datB, DS.mAndV, DS.mOrV, DS.mNotV, DS.mIf, DS.dats, DS.dspD, DS.mTup, DS.mLst, DS.ownL, DS.mLstO, DS.mChain, DS.mNx, DS.mBrk, DS.mCt, DS.mAug, DS.aug2, DS.dAddI, DS.mRet, DS.mRetO, DS.mRetN, DS.mIte, DS.mApp, DS.app2, DS.isOL, DS.mSetL, DS.setL2, DS.gN, DS.gA0, DS.gA, DS.gT, DS.bindD, DS.mAsg, DS.itemsD, DS.mIt, DS.mEnum, DS.mFor, DS.svsOf, DS.slotsOf, DS.RV.sv, DS.callD, DS.roD, DS.roO, DS.mCall, DS.mCallO, DS.mIsi, DS.dIsi, DS.kindOf, DS.notOwn, DS.mRaise, DS.mSl, DS.optI, DS.dSl, DS.mPar, DS.par2, DS.R.bnd_ok, DS.R.bnd_er, DS.R.bnd_bad, DS.wb, DS.mYes, DS.isNon, DS.dIs, DS.dIsNot, ite_ap, rr1, rr2, rr3, rr4, lg8209]) (by rcases hyd with rfl | rfl <;> rfl) rfl (by rcases hyd with rfl | rfl <;> rfl) (by rw [List.length_map]; have := h.len; omega) (fun z hz => by
      rw [List.mem_map] at hz
      obtain ⟨b, _, rfl⟩ := hz
      refine ⟨[.d (m1 (dl ys)), .d (m2 (dl ps)), .d (m3 (bs.map (blk m4 c))), .od kv, .d (.tuple (dl ys)), .d (.tuple (dl ps)), x, .d (blk m4 c b)], rfl, rfl, fun _ => ?_, rfl⟩
      have q := hb b
      rw [q]
      generalize blk m4 c b = B at q ⊢
      simp [DS.bodyF, DS.okArgs, DS.finR, DS.mSeq, DS.sq, DS.bnd, DS.ret, DS.bad, DS.mSet, DS.mSetO, DS.keepD, DS.mVar, DS.mC, DS.mOp2, DS.mOp1, DS.mCB, DS.opD, DS.op1D, DS.opnD, DS.RV.data, DS.datas, DS.mNil, DS.mCons, DS.dAdd, DS.dSub, DS.dMul, DS.dDiv, DS.dMod, DS.dPow, DS.dNeg, DS.dLt, DS.dLe, DS.dGt, DS.dGe, DS.dLen, DS.dTuple, DS.dList, DS.dAbs, DS.dInt, DS.dMax2, DS.dMin2, DS.asB, DS.mT, DS.mNot, DS.mAnd, DS.mOr, DS.datB, DS.mAndV, DS.mOrV, DS.mNotV, DS.mIf, DS.dats, DS.dspD, DS.mTup, DS.mLst, DS.ownL, DS.mLstO, DS.mChain, DS.mNx, DS.mBrk, DS.mCt, DS.mAug, DS.aug2, DS.dAddI, DS.mRet, DS.mRetO, DS.mRetN, DS.mIte, DS.mApp, DS.app2, DS.isOL, DS.mSetL, DS.setL2, DS.gN, DS.gA0, DS.gA, DS.gT, DS.bindD, DS.mAsg, DS.itemsD, DS.mIt, DS.mEnum, DS.mFor, DS.svsOf, DS.slotsOf, DS.RV.sv, DS.callD, DS.roD, DS.roO, DS.mCall, DS.mCallO, DS.mIsi, DS.dIsi, DS.kindOf, DS.notOwn, DS.mRaise, DS.mSl, DS.optI, DS.dSl, DS.mPar, DS.par2, DS.R.bnd_ok, DS.R.bnd_er, DS.R.bnd_bad, DS.wb, DS.mYes, DS.isNon, DS.dIs, DS.dIsNot, ite_ap, rr1, rr2, rr3, rr4, lg8209] at q ⊢
      simp [q])
    rw [g, List.filter_eq_self.mpr fun _ _ => rfl, List.map_map]
    congr 3
    apply List.map_congr_left
    intro b _
    show (dTuple [blk m4 c b]).getD .none = _
    rw [hb]
    rfl
  have sq : m_is_sequence [.d (m3 (bs.map (blk m4 c)))] = .ok (.dat (.bool true)) [.d (m3 (bs.map (blk m4 c)))] := by
    rcases h3 with rfl | rfl <;> simp [is_sequence_eq, DS.bodyF, DS.okArgs, DS.finR, DS.mSeq, DS.sq, DS.bnd, DS.ret, DS.bad, DS.mSet, DS.mSetO, DS.keepD, DS.mVar, DS.mC, DS.mOp2, DS.mOp1, DS.mCB, DS.opD, DS.op1D, DS.opnD, DS.RV.data, DS.datas, DS.mNil, DS.mCons, DS.dAdd, DS.dSub, DS.dMul, DS.dDiv, DS.dMod, DS.dPow, DS.dNeg, DS.dLt, DS.dLe, DS.dGt, DS.dGe, DS.dLen, DS.dTuple, DS.dList, DS.dAbs, DS.dInt, DS.dMax2, DS.dMin2, DS.asB, DS.mT, DS.mNot, DS.mAnd, DS.mOr, DS.datB, DS.mAndV, DS.mOrV, DS.mNotV, DS.mIf, DS.dats, DS.dspD, DS.mTup, DS.mLst, DS.ownL, DS.mLstO, DS.mChain, DS.mNx, DS.mBrk, DS.mCt, DS.mAug, DS.aug2, DS.dAddI, DS.mRet, DS.mRetO, DS.mRetN, DS.mIte, DS.mApp, DS.app2, DS.isOL, DS.mSetL, DS.setL2, DS.gN, DS.gA0, DS.gA, DS.gT, DS.bindD, DS.mAsg, DS.itemsD, DS.mIt, DS.mEnum, DS.mFor, DS.svsOf, DS.slotsOf, DS.RV.sv, DS.callD, DS.roD, DS.roO, DS.mCall, DS.mCallO, DS.mIsi, DS.dIsi, DS.kindOf, DS.notOwn, DS.mRaise, DS.mSl, DS.optI, DS.dSl, DS.mPar, DS.par2, DS.R.bnd_ok, DS.R.bnd_er, DS.R.bnd_bad, DS.wb, DS.mYes, DS.isNon, DS.dIs, DS.dIsNot, ite_ap, rr1, rr2, rr3, rr4, lg8209]
  have en : mEnum (mVar 2) [.d (m1 (dl ys)), .d (m2 (dl ps)), .d (m3 (bs.map (blk m4 c))), .od [], .d (.tuple (dl ys)), .d (.tuple (dl ps)), .un, .un] = .ok (enumD 0 (bs.map (blk m4 c))) [.d (m1 (dl ys)), .d (m2 (dl ps)), .d (m3 (bs.map (blk m4 c))), .od [], .d (.tuple (dl ys)), .d (.tuple (dl ps)), .un, .un] := by
    rcases h3 with rfl | rfl <;> simp [DS.bodyF, DS.okArgs, DS.finR, DS.mSeq, DS.sq, DS.bnd, DS.ret, DS.bad, DS.mSet, DS.mSetO, DS.keepD, DS.mVar, DS.mC, DS.mOp2, DS.mOp1, DS.mCB, DS.opD, DS.op1D, DS.opnD, DS.RV.data, DS.datas, DS.mNil, DS.mCons, DS.dAdd, DS.dSub, DS.dMul, DS.dDiv, DS.dMod, DS.dPow, DS.dNeg, DS.dLt, DS.dLe, DS.dGt, DS.dGe, DS.dLen, DS.dTuple, DS.dList, DS.dAbs, DS.dInt, DS.dMax2, DS.dMin2, DS.asB, DS.mT, DS.mNot, DS.mAnd, DS.mOr, DS.datB, DS.mAndV, DS.mOrV, DS.mNotV, DS.mIf, DS.dats, DS.dspD, DS.mTup, DS.mLst, DS.ownL, DS.mLstO, DS.mChain, DS.mNx, DS.mBrk, DS.mCt, DS.mAug, DS.aug2, DS.dAddI, DS.mRet, DS.mRetO, DS.mRetN, DS.mIte, DS.mApp, DS.app2, DS.isOL, DS.mSetL, DS.setL2, DS.gN, DS.gA0, DS.gA, DS.gT, DS.bindD, DS.mAsg, DS.itemsD, DS.mIt, DS.mEnum, DS.mFor, DS.svsOf, DS.slotsOf, DS.RV.sv, DS.callD, DS.roD, DS.roO, DS.mCall, DS.mCallO, DS.mIsi, DS.dIsi, DS.kindOf, DS.notOwn, DS.mRaise, DS.mSl, DS.optI, DS.dSl, DS.mPar, DS.par2, DS.R.bnd_ok, DS.R.bnd_er, DS.R.bnd_bad, DS.wb, DS.mYes, DS.isNon, DS.dIs, DS.dIsNot, ite_ap, rr1, rr2, rr3, rr4, lg8209]
  unfold m_check_picture bodyF
  generalize mLC (mIt (mVar 2)) (gN 7) mYes (mCB dTuple (mCons (mVar 7) mNil)) [7] = lcm at lc ⊢
  generalize lb_check_picture_1 = lb at e ⊢
  have l5 := h.len
  generalize hB : bs.map (blk .tuple c) = O at lc ⊢
  have lo : O.length ≤ 1000 := by rw [← hB, List.length_map]; omega
  generalize m3 (bs.map (blk m4 c)) = V at lc sq en e ⊢
  generalize enumD 0 (bs.map (blk m4 c)) = ens at en e
  generalize mEnum (mVar 2) = men at en ⊢
  simp [g_check_picture, c1, c2, sq, en, e, lc, sl2 lo, DS.bodyF, DS.okArgs, DS.finR, DS.mSeq, DS.sq, DS.bnd, DS.ret, DS.bad, DS.mSet, DS.mSetO, DS.keepD, DS.mVar, DS.mC, DS.mOp2, DS.mOp1, DS.mCB, DS.opD, DS.op1D, DS.opnD, DS.RV.data, DS.datas, DS.mNil, DS.mCons, DS.dAdd, DS.dSub, DS.dMul, DS.dDiv, DS.dMod, DS.dPow, DS.dNeg, DS.dLt, DS.dLe, DS.dGt, DS.dGe, DS.dLen, DS.dTuple, DS.dList, DS.dAbs, DS.dInt, DS.dMax2, DS.dMin2, DS.asB, DS.mT, DS.mNot, DS.mAnd, DS.mOr, DS.datB, DS.mAndV, DS.mOrV, DS.mNotV, DS.mIf, DS.dats, DS.dspD, DS.mTup, DS.mLst, DS.ownL, DS.mLstO, DS.mChain, DS.mNx, DS.mBrk, DS.mCt, DS.mAug, DS.aug2, DS.dAddI, DS.mRet, DS.mRetO, DS.mRetN, DS.mIte, DS.mApp, DS.app2, DS.isOL, DS.mSetL, DS.setL2, DS.gN, DS.gA0, DS.gA, DS.gT, DS.bindD, DS.mAsg, DS.itemsD, DS.mIt, DS.mEnum, DS.mFor, DS.svsOf, DS.slotsOf, DS.RV.sv, DS.callD, DS.roD, DS.roO, DS.mCall, DS.mCallO, DS.mIsi, DS.dIsi, DS.kindOf, DS.notOwn, DS.mRaise, DS.mSl, DS.optI, DS.dSl, DS.mPar, DS.par2, DS.R.bnd_ok, DS.R.bnd_er, DS.R.bnd_bad, DS.wb, DS.mYes, DS.isNon, DS.dIs, DS.dIsNot, ite_ap, rr1, rr2, rr3, rr4, lg8209]
end Zk32
end
section
set_option pp.maxSteps 1500
set_option Elab.async false
set_option linter.all false
set_option maxRecDepth 100000
set_option maxHeartbeats 4000000
namespace Zk32
open PySem PySem.Spec PyProof.Rows L2 DS
def rI (p : Int) (n : Nat) : List Int := (List.range n).map fun (k : Nat) => p + k
theorem rangeC_dl (p : Int) (n : Nat) : rangeC p 1 n = dl (rI p n) := by
  unfold rangeC rI dl
  rw [List.map_map]
  apply List.map_congr_left
  intro k _
  simp
theorem rangeD_dl (p : Int) (w : Int) : rangeD p (p + w) = dl (rI p w.toNat) := by
  unfold rangeD rI dl
  rw [List.map_map, show p + w - p = w by omega]
  rfl
theorem rI_len (p : Int) (n : Nat) : (rI p n).length = n := by simp [rI]
theorem rI_mem {p : Int} {n : Nat} {x : Int} : x ∈ rI p n ↔ p ≤ x ∧ x < p + n := by
  unfold rI
  rw [List.mem_map]
  constructor
  · rintro ⟨k, hk, rfl⟩
    rw [List.mem_range] at hk
    omega
  · rintro ⟨h1, h2⟩
    exact ⟨(x - p).toNat, List.mem_range.mpr (by omega), by omega⟩
theorem rng2_eq {p w : Int} (hp : 0 ≤ p) (hp2 : p ≤ 100000) (hw : 0 ≤ w) (hw2 : w ≤ 64) (ρ : Rho) : rng2 [.dat (.int p), .dat (.int (p + w))] ρ = .ok (dl (rI p w.toNat)) ρ := by
  unfold rng2
  dsimp only [int2]
  rw [q62, if_pos (by omega), rangeD_dl]
theorem loopLC1 {c : Int} {b : Int × Int} {kvs : List (Key × PyData)} (hk : kvs.length ≤ 900) (hc : 0 < c) (hc2 : c ≤ 64) (hf : ∀ x, b.2 ≤ x → x < b.2 + c → inK kvs x = false) (s0 v : SV) : ∃ y, forL (gN 5) lb__law_cells_1 (dl (rI b.2 c.toNat)) [s0, .od kvs, .d (.int b.1), .d (.int c), .d (.int b.2), v] = .ok .nx [s0, .od (kvs ++ cKV c b), .d (.int b.1), .d (.int c), .d (.int b.2), y] := by
  rw [← rangeC_dl]
  have loop : ∃ ρ', forL (gN 5) lb__law_cells_1 (rangeC b.2 1 c.toNat) [s0, .od kvs, .d (.int b.1), .d (.int c), .d (.int b.2), v] = .ok .nx ρ' ∧ ∃ y, ρ' = [s0, .od (kvs ++ cKV c b), .d (.int b.1), .d (.int c), .d (.int b.2), y] := by
    refine forL_inv (E := fun ρ' => ∃ y, ρ' = [s0, .od (kvs ++ cKV c b), .d (.int b.1), .d (.int c), .d (.int b.2), y]) (fun r ρ => ∃ i y, i ≤ c.toNat ∧ r = (rangeC b.2 1 c.toNat).drop i ∧ ρ = [s0, .od (kvs ++ cKVn i b), .d (.int b.1), .d (.int c), .d (.int b.2), y]) ?_ ?_ ⟨0, v, Nat.zero_le _, by rw [List.drop_zero], by simp [cKVn]⟩
    · rintro x r ρ ⟨i, y, hi, hr, rfl⟩
      by_cases hlt : i < c.toNat
      · rw [rangeC_drop hlt] at hr
        cases hr
        have nw := pKV_new (inK_new hf (n := i) (by omega)) (.int b.1)
        have ln : kvs.length + (cKVn i b).length < sizeLine := sl3 (by rw [cKVn, List.length_map, List.length_range]; omega)
        refine ⟨_, _, rfl, .inl ⟨?_, i + 1, .d (.int (b.2 + i)), hlt, rfl, rfl⟩⟩
        rw [cKVn_succ, ← List.append_assoc, ← nw]
        simp [lb__law_cells_1, ln, DS.bodyF, DS.okArgs, DS.finR, DS.mSeq, DS.sq, DS.bnd, DS.ret, DS.bad, DS.mSet, DS.mSetO, DS.keepD, DS.mVar, DS.mC, DS.mOp2, DS.mOp1, DS.mCB, DS.opD, DS.op1D, DS.opnD, DS.RV.data, DS.datas, DS.mNil, DS.mCons, DS.dAdd, DS.dSub, DS.dMul, DS.dDiv, DS.dMod, DS.dPow, DS.dNeg, DS.dLt, DS.dLe, DS.dGt, DS.dGe, DS.dLen, DS.dTuple, DS.dList, DS.dAbs, DS.dInt, DS.dMax2, DS.dMin2, DS.asB, DS.mT, DS.mNot, DS.mAnd, DS.mOr, DS.datB, DS.mAndV, DS.mOrV, DS.mNotV, DS.mIf, DS.dats, DS.dspD, DS.mTup, DS.mLst, DS.ownL, DS.mLstO, DS.mChain, DS.mNx, DS.mBrk, DS.mCt, DS.mAug, DS.aug2, DS.dAddI, DS.mRet, DS.mRetO, DS.mRetN, DS.mIte, DS.mApp, DS.app2, DS.isOL, DS.mSetL, DS.setL2, DS.gN, DS.gA0, DS.gA, DS.gT, DS.bindD, DS.mAsg, DS.itemsD, DS.mIt, DS.mEnum, DS.mFor, DS.svsOf, DS.slotsOf, DS.RV.sv, DS.callD, DS.roD, DS.roO, DS.mCall, DS.mCallO, DS.mIsi, DS.dIsi, DS.kindOf, DS.notOwn, DS.mRaise, DS.mSl, DS.optI, DS.dSl, DS.mPar, DS.par2, DS.R.bnd_ok, DS.R.bnd_er, DS.R.bnd_bad, DS.wb, DS.mYes, DS.isNon, DS.dIs, DS.dIsNot, ite_ap, rr1, rr2, rr3, rr4, lg8209, DS.mP, DS.pVar, DS.pC, DS.pFld, DS.fldP, DS.atP, DS.getP, DS.setP, DS.FS.get, DS.FS.put, DS.FS.len, DS.mSetF, DS.mSetFO, DS.keepF, DS.setFP, DS.setF, DS.mMake, DS.makeD, DS.mCallN, DS.callN, DS.pickL, DS.pIn, DS.inD, DS.keyOf, DS.keyD, DS.dAt, DS.PV.data, DS.mPut, DS.putDP, DS.putD, DS.mConsO, DS.mNilO, DS.mDat, DS.datS, DS.mAsgO, DS.asgO, DS.setsO, DS.mParO, DS.par2O]
      · rw [List.drop_eq_nil_of_le (by simp [rangeC]; omega)] at hr
        cases hr
    · rintro ρ ⟨i, y, hi, hr, rfl⟩
      have : c.toNat ≤ i := by
        rcases Nat.lt_or_ge i c.toNat with h | h
        · rw [rangeC_drop h] at hr; cases hr
        · exact h
      have e : i = c.toNat := by omega
      subst e
      exact ⟨y, rfl⟩
  obtain ⟨ρ', e, y, rfl⟩ := loop
  exact ⟨y, e⟩
theorem law_cells_eq {ys ps : List Int} (hs : SzOk ys) (hp : PgB ps) {c : Int} (hc : 0 < c) (hc2 : c ≤ 64) (hd : lastI ys % c = 0) {bs : List (Int × Int)} (h : Pic ys ps c bs) (hl : bs.length * c.toNat ≤ 800) :
    m__law_cells [.d (.list (bs.map (blk .tuple c)))] = .ok (.new (.od (aKV c bs))) [.d (.list (bs.map (blk .tuple c)))] := by
  have loop : ∃ ρ', forL (gT 3 (gA (gN 2) (gA (gN 3) (gA (gN 4) gA0)))) lb__law_cells_2 (bs.map (blk .tuple c)) [.d (.list (bs.map (blk .tuple c))), .od [], .un, .un, .un, .un] = .ok .nx ρ' ∧ ∃ x y z w, ρ' = [.d (.list (bs.map (blk .tuple c))), .od (aKV c bs), x, y, z, w] := by
    refine forL_inv (E := fun ρ' => ∃ x y z w, ρ' = [.d (.list (bs.map (blk .tuple c))), .od (aKV c bs), x, y, z, w]) (fun r ρ => ∃ i x y z w, i ≤ bs.length ∧ r = (bs.map (blk .tuple c)).drop i ∧ ρ = [.d (.list (bs.map (blk .tuple c))), .od (aKV c (bs.take i)), x, y, z, w]) ?_ ?_ ⟨0, .un, .un, .un, .un, Nat.zero_le _, by rw [List.drop_zero], by simp [aKV]⟩
    · rintro x r ρ ⟨i, x', y', z', w', hi, hr, rfl⟩
      by_cases hlt : i < bs.length
      · rw [List.drop_eq_getElem_cons (by rw [List.length_map]; exact hlt), List.getElem_map] at hr
        cases hr
        have hm := h.un _ (List.getElem_mem hlt)
        obtain ⟨p0, p1, _, _⟩ := plI_facts hs hp hc hc2 hd hm
        have kl : (aKV c (bs.take i)).length ≤ 900 := by
          rw [aKV_len, List.length_take]
          have := Nat.mul_le_mul_right c.toNat (show min i bs.length ≤ bs.length by omega)
          omega
        obtain ⟨y, e⟩ := loopLC1 kl hc hc2 (pic_free hs hp hc hc2 hd h hlt) (.d (.list (bs.map (blk .tuple c)))) w'
        rw [← aKV_snoc, ← List.take_succ_eq_append_getElem hlt] at e
        have r2 := rng2_eq p0 p1 (w := c) (by omega) hc2
        refine ⟨[.d (.list (bs.map (blk .tuple c))), .od (aKV c (bs.take i)), .d (.int bs[i].1), .d (.int c), .d (.int bs[i].2), w'], _, by simp [blk, DS.bodyF, DS.okArgs, DS.finR, DS.mSeq, DS.sq, DS.bnd, DS.ret, DS.bad, DS.mSet, DS.mSetO, DS.keepD, DS.mVar, DS.mC, DS.mOp2, DS.mOp1, DS.mCB, DS.opD, DS.op1D, DS.opnD, DS.RV.data, DS.datas, DS.mNil, DS.mCons, DS.dAdd, DS.dSub, DS.dMul, DS.dDiv, DS.dMod, DS.dPow, DS.dNeg, DS.dLt, DS.dLe, DS.dGt, DS.dGe, DS.dLen, DS.dTuple, DS.dList, DS.dAbs, DS.dInt, DS.dMax2, DS.dMin2, DS.asB, DS.mT, DS.mNot, DS.mAnd, DS.mOr, DS.datB, DS.mAndV, DS.mOrV, DS.mNotV, DS.mIf, DS.dats, DS.dspD, DS.mTup, DS.mLst, DS.ownL, DS.mLstO, DS.mChain, DS.mNx, DS.mBrk, DS.mCt, DS.mAug, DS.aug2, DS.dAddI, DS.mRet, DS.mRetO, DS.mRetN, DS.mIte, DS.mApp, DS.app2, DS.isOL, DS.mSetL, DS.setL2, DS.gN, DS.gA0, DS.gA, DS.gT, DS.bindD, DS.mAsg, DS.itemsD, DS.mIt, DS.mEnum, DS.mFor, DS.svsOf, DS.slotsOf, DS.RV.sv, DS.callD, DS.roD, DS.roO, DS.mCall, DS.mCallO, DS.mIsi, DS.dIsi, DS.kindOf, DS.notOwn, DS.mRaise, DS.mSl, DS.optI, DS.dSl, DS.mPar, DS.par2, DS.R.bnd_ok, DS.R.bnd_er, DS.R.bnd_bad, DS.wb, DS.mYes, DS.isNon, DS.dIs, DS.dIsNot, ite_ap, rr1, rr2, rr3, rr4, lg8209], .inl ⟨?_, i + 1, .d (.int bs[i].1), .d (.int c), .d (.int bs[i].2), y, hlt, rfl, rfl⟩⟩
        generalize aKV c (bs.take i) = k0 at e ⊢
        generalize aKV c (bs.take (i + 1)) = k1 at e ⊢
        unfold lb__law_cells_2
        generalize lb__law_cells_1 = lb at e ⊢
        simp [r2, e, DS.bodyF, DS.okArgs, DS.finR, DS.mSeq, DS.sq, DS.bnd, DS.ret, DS.bad, DS.mSet, DS.mSetO, DS.keepD, DS.mVar, DS.mC, DS.mOp2, DS.mOp1, DS.mCB, DS.opD, DS.op1D, DS.opnD, DS.RV.data, DS.datas, DS.mNil, DS.mCons, DS.dAdd, DS.dSub, DS.dMul, DS.dDiv, DS.dMod, DS.dPow, DS.dNeg, DS.dLt, DS.dLe, DS.dGt, DS.dGe, DS.dLen, DS.dTuple, DS.dList, DS.dAbs, DS.dInt, DS.dMax2, DS.dMin2, DS.asB, DS.mT, DS.mNot, DS.mAnd, DS.mOr, DS.datB, DS.mAndV, DS.mOrV, DS.mNotV, DS.mIf, DS.dats, DS.dspD, DS.mTup, DS.mLst, DS.ownL, DS.mLstO, DS.mChain, DS.mNx, DS.mBrk, DS.mCt, DS.mAug, DS.aug2, DS.dAddI, DS.mRet, DS.mRetO, DS.mRetN, DS.mIte, DS.mApp, DS.app2, DS.isOL, DS.mSetL, DS.setL2, DS.gN, DS.gA0, DS.gA, DS.gT, DS.bindD, DS.mAsg, DS.itemsD, DS.mIt, DS.mEnum, DS.mFor, DS.svsOf, DS.slotsOf, DS.RV.sv, DS.callD, DS.roD, DS.roO, DS.mCall, DS.mCallO, DS.mIsi, DS.dIsi, DS.kindOf, DS.notOwn, DS.mRaise, DS.mSl, DS.optI, DS.dSl, DS.mPar, DS.par2, DS.R.bnd_ok, DS.R.bnd_er, DS.R.bnd_bad, DS.wb, DS.mYes, DS.isNon, DS.dIs, DS.dIsNot, ite_ap, rr1, rr2, rr3, rr4, lg8209]
      · rw [List.drop_eq_nil_of_le (by rw [List.length_map]; omega)] at hr
        cases hr
    · rintro ρ ⟨i, x', y', z', w', hi, hr, rfl⟩
      have : bs.length ≤ i := by
        rcases Nat.lt_or_ge i bs.length with q | q
        · rw [List.drop_eq_getElem_cons (by rw [List.length_map]; exact q)] at hr; cases hr
        · exact q
      rw [List.take_of_length_le this]
      exact ⟨x', y', z', w', rfl⟩
  obtain ⟨ρ', e, x, y, z, w, rfl⟩ := loop
  unfold m__law_cells bodyF
  generalize lb__law_cells_2 = lb at e ⊢
  have l5 := h.len
  have lo : (bs.map (blk .tuple c)).length ≤ 1000 := by rw [List.length_map]; omega
  generalize bs.map (blk .tuple c) = O at e lo ⊢
  simp [g__law_cells, e, DS.bodyF, DS.okArgs, DS.finR, DS.mSeq, DS.sq, DS.bnd, DS.ret, DS.bad, DS.mSet, DS.mSetO, DS.keepD, DS.mVar, DS.mC, DS.mOp2, DS.mOp1, DS.mCB, DS.opD, DS.op1D, DS.opnD, DS.RV.data, DS.datas, DS.mNil, DS.mCons, DS.dAdd, DS.dSub, DS.dMul, DS.dDiv, DS.dMod, DS.dPow, DS.dNeg, DS.dLt, DS.dLe, DS.dGt, DS.dGe, DS.dLen, DS.dTuple, DS.dList, DS.dAbs, DS.dInt, DS.dMax2, DS.dMin2, DS.asB, DS.mT, DS.mNot, DS.mAnd, DS.mOr, DS.datB, DS.mAndV, DS.mOrV, DS.mNotV, DS.mIf, DS.dats, DS.dspD, DS.mTup, DS.mLst, DS.ownL, DS.mLstO, DS.mChain, DS.mNx, DS.mBrk, DS.mCt, DS.mAug, DS.aug2, DS.dAddI, DS.mRet, DS.mRetO, DS.mRetN, DS.mIte, DS.mApp, DS.app2, DS.isOL, DS.mSetL, DS.setL2, DS.gN, DS.gA0, DS.gA, DS.gT, DS.bindD, DS.mAsg, DS.itemsD, DS.mIt, DS.mEnum, DS.mFor, DS.svsOf, DS.slotsOf, DS.RV.sv, DS.callD, DS.roD, DS.roO, DS.mCall, DS.mCallO, DS.mIsi, DS.dIsi, DS.kindOf, DS.notOwn, DS.mRaise, DS.mSl, DS.optI, DS.dSl, DS.mPar, DS.par2, DS.R.bnd_ok, DS.R.bnd_er, DS.R.bnd_bad, DS.wb, DS.mYes, DS.isNon, DS.dIs, DS.dIsNot, ite_ap, rr1, rr2, rr3, rr4, lg8209, DS.mP, DS.pVar, DS.pC, DS.pFld, DS.fldP, DS.atP, DS.getP, DS.setP, DS.FS.get, DS.FS.put, DS.FS.len, DS.mSetF, DS.mSetFO, DS.keepF, DS.setFP, DS.setF, DS.mMake, DS.makeD, DS.mCallN, DS.callN, DS.pickL, DS.pIn, DS.inD, DS.keyOf, DS.keyD, DS.dAt, DS.PV.data, DS.mPut, DS.putDP, DS.putD, DS.mConsO, DS.mNilO, DS.mDat, DS.datS, DS.mAsgO, DS.asgO, DS.setsO, DS.mParO, DS.par2O]
/-- whether a unit's cells are free -/
def fr (kv : List (Key × PyData)) (z u : Int) : Bool := decide ((rI u z.toNat).filter (inK kv) = [])
theorem lcF {kv : List (Key × PyData)} {z u : Int} (hz : 0 ≤ z) (hz2 : z ≤ 64) (h0 : 0 ≤ u) (h1 : u ≤ 100000) (s0 s1 s2 s4 s6 : SV) :
    (mLC (bnd (mCons (mVar 7) (mCons (mOp2 dAdd (mVar 7) (mVar 3)) mNil)) rng2) (gN 8) (mT (mP (pIn false (pVar 8) (pVar 5)))) (mVar 8) [8]) [s0, s1, s2, .d (.int z), s4, .od kv, s6, .d (.int u), .un] = .ok (.dat (.list (dl ((rI u z.toNat).filter (inK kv))))) [s0, s1, s2, .d (.int z), s4, .od kv, s6, .d (.int u), .un] := by
  have r2 := rng2_eq h0 h1 hz hz2
  have h := mLC_g (mi := (bnd (mCons (mVar 7) (mCons (mOp2 dAdd (mVar 7) (mVar 3)) mNil)) rng2)) (gm := gN 8) (mt := mT (mP (pIn false (pVar 8) (pVar 5)))) (me := mVar 8) (vs := [8]) (ρ := [s0, s1, s2, .d (.int z), s4, .od kv, s6, .d (.int u), .un]) (ρw := [s0, s1, s2, .d (.int z), s4, .od kv, s6, .d (.int u), .un]) (items := dl (rI u z.toNat)) (fun x => match x with | .int x => inK kv x | _ => false) id (by simp [r2, DS.bodyF, DS.okArgs, DS.finR, DS.mSeq, DS.sq, DS.bnd, DS.ret, DS.bad, DS.mSet, DS.mSetO, DS.keepD, DS.mVar, DS.mC, DS.mOp2, DS.mOp1, DS.mCB, DS.opD, DS.op1D, DS.opnD, DS.RV.data, DS.datas, DS.mNil, DS.mCons, DS.dAdd, DS.dSub, DS.dMul, DS.dDiv, DS.dMod, DS.dPow, DS.dNeg, DS.dLt, DS.dLe, DS.dGt, DS.dGe, DS.dLen, DS.dTuple, DS.dList, DS.dAbs, DS.dInt, DS.dMax2, DS.dMin2, DS.asB, DS.mT, DS.mNot, DS.mAnd, DS.mOr, DS.datB, DS.mAndV, DS.mOrV, DS.mNotV, DS.mIf, DS.dats, DS.dspD, DS.mTup, DS.mLst, DS.ownL, DS.mLstO, DS.mChain, DS.mNx, DS.mBrk, DS.mCt, DS.mAug, DS.aug2, DS.dAddI, DS.mRet, DS.mRetO, DS.mRetN, DS.mIte, DS.mApp, DS.app2, DS.isOL, DS.mSetL, DS.setL2, DS.gN, DS.gA0, DS.gA, DS.gT, DS.bindD, DS.mAsg, DS.itemsD, DS.mIt, DS.mEnum, DS.mFor, DS.svsOf, DS.slotsOf, DS.RV.sv, DS.callD, DS.roD, DS.roO, DS.mCall, DS.mCallO, DS.mIsi, DS.dIsi, DS.kindOf, DS.notOwn, DS.mRaise, DS.mSl, DS.optI, DS.dSl, DS.mPar, DS.par2, DS.R.bnd_ok, DS.R.bnd_er, DS.R.bnd_bad, DS.wb, DS.mYes, DS.isNon, DS.dIs, DS.dIsNot, ite_ap, rr1, rr2, rr3, rr4, lg8209]) rfl rfl rfl (by rw [dl_len, rI_len]; omega) (fun x hx => by
    obtain ⟨x, _, rfl⟩ := List.mem_map.mp hx
    refine ⟨[s0, s1, s2, .d (.int z), s4, .od kv, s6, .d (.int u), .d (.int x)], rfl, ?_, fun _ => ?_, rfl⟩
    · unfold inK
      simp [DS.bodyF, DS.okArgs, DS.finR, DS.mSeq, DS.sq, DS.bnd, DS.ret, DS.bad, DS.mSet, DS.mSetO, DS.keepD, DS.mVar, DS.mC, DS.mOp2, DS.mOp1, DS.mCB, DS.opD, DS.op1D, DS.opnD, DS.RV.data, DS.datas, DS.mNil, DS.mCons, DS.dAdd, DS.dSub, DS.dMul, DS.dDiv, DS.dMod, DS.dPow, DS.dNeg, DS.dLt, DS.dLe, DS.dGt, DS.dGe, DS.dLen, DS.dTuple, DS.dList, DS.dAbs, DS.dInt, DS.dMax2, DS.dMin2, DS.asB, DS.mT, DS.mNot, DS.mAnd, DS.mOr, DS.datB, DS.mAndV, DS.mOrV, DS.mNotV, DS.mIf, DS.dats, DS.dspD, DS.mTup, DS.mLst, DS.ownL, DS.mLstO, DS.mChain, DS.mNx, DS.mBrk, DS.mCt, DS.mAug, DS.aug2, DS.dAddI, DS.mRet, DS.mRetO, DS.mRetN, DS.mIte, DS.mApp, DS.app2, DS.isOL, DS.mSetL, DS.setL2, DS.gN, DS.gA0, DS.gA, DS.gT, DS.bindD, DS.mAsg, DS.itemsD, DS.mIt, DS.mEnum, DS.mFor, DS.svsOf, DS.slotsOf, DS.RV.sv, DS.callD, DS.roD, DS.roO, DS.mCall, DS.mCallO, DS.mIsi, DS.dIsi, DS.kindOf, DS.notOwn, DS.mRaise, DS.mSl, DS.optI, DS.dSl, DS.mPar, DS.par2, DS.R.bnd_ok, DS.R.bnd_er, DS.R.bnd_bad, DS.wb, DS.mYes, DS.isNon, DS.dIs, DS.dIsNot, ite_ap, rr1, rr2, rr3, rr4, lg8209, DS.mP, DS.pVar, DS.pC, DS.pFld, DS.fldP, DS.atP, DS.getP, DS.setP, DS.FS.get, DS.FS.put, DS.FS.len, DS.mSetF, DS.mSetFO, DS.keepF, DS.setFP, DS.setF, DS.mMake, DS.makeD, DS.mCallN, DS.callN, DS.pickL, DS.pIn, DS.inD, DS.keyOf, DS.keyD, DS.dAt, DS.PV.data, DS.mPut, DS.putDP, DS.putD, DS.mConsO, DS.mNilO, DS.mDat, DS.datS, DS.mAsgO, DS.asgO, DS.setsO, DS.mParO, DS.par2O]
    · simp [DS.bodyF, DS.okArgs, DS.finR, DS.mSeq, DS.sq, DS.bnd, DS.ret, DS.bad, DS.mSet, DS.mSetO, DS.keepD, DS.mVar, DS.mC, DS.mOp2, DS.mOp1, DS.mCB, DS.opD, DS.op1D, DS.opnD, DS.RV.data, DS.datas, DS.mNil, DS.mCons, DS.dAdd, DS.dSub, DS.dMul, DS.dDiv, DS.dMod, DS.dPow, DS.dNeg, DS.dLt, DS.dLe, DS.dGt, DS.dGe, DS.dLen, DS.dTuple, DS.dList, DS.dAbs, DS.dInt, DS.dMax2, DS.dMin2, DS.asB, DS.mT, DS.mNot, DS.mAnd, DS.mOr, DS.datB, DS.mAndV, DS.mOrV, DS.mNotV, DS.mIf, DS.dats, DS.dspD, DS.mTup, DS.mLst, DS.ownL, DS.mLstO, DS.mChain, DS.mNx, DS.mBrk, DS.mCt, DS.mAug, DS.aug2, DS.dAddI, DS.mRet, DS.mRetO, DS.mRetN, DS.mIte, DS.mApp, DS.app2, DS.isOL, DS.mSetL, DS.setL2, DS.gN, DS.gA0, DS.gA, DS.gT, DS.bindD, DS.mAsg, DS.itemsD, DS.mIt, DS.mEnum, DS.mFor, DS.svsOf, DS.slotsOf, DS.RV.sv, DS.callD, DS.roD, DS.roO, DS.mCall, DS.mCallO, DS.mIsi, DS.dIsi, DS.kindOf, DS.notOwn, DS.mRaise, DS.mSl, DS.optI, DS.dSl, DS.mPar, DS.par2, DS.R.bnd_ok, DS.R.bnd_er, DS.R.bnd_bad, DS.wb, DS.mYes, DS.isNon, DS.dIs, DS.dIsNot, ite_ap, rr1, rr2, rr3, rr4, lg8209])
  rw [h, List.map_id]
  congr 3
  unfold dl
  rw [List.filter_map]
  rfl
theorem lbF1 {kv : List (Key × PyData)} {z u : Int} (hz : 0 ≤ z) (hz2 : z ≤ 64) (h0 : 0 ≤ u) (h1 : u ≤ 100000) {fs : List Int} (hl : fs.length ≤ 900) (s0 s1 s2 s4 : SV) :
    lb__law_free_1 [s0, s1, s2, .d (.int z), s4, .od kv, .ol (dl fs), .d (.int u), .un] = .ok .nx [s0, s1, s2, .d (.int z), s4, .od kv, .ol (dl (fs ++ if fr kv z u = true then [u] else [])), .d (.int u), .un] := by
  have lc := lcF (kv := kv) hz hz2 h0 h1 s0 s1 s2 s4 (.ol (dl fs))
  have eq := eq_dl (mk := .list) (.inl rfl) ((rI u z.toNat).filter (inK kv)) []
  rw [show dl [] = [] from rfl] at eq
  have ln : fs.length < sizeLine := sl3 (by omega)
  unfold lb__law_free_1 fr
  generalize (mLC (bnd (mCons (mVar 7) (mCons (mOp2 dAdd (mVar 7) (mVar 3)) mNil)) rng2) (gN 8) (mT (mP (pIn false (pVar 8) (pVar 5)))) (mVar 8) [8]) = lcm at lc ⊢
  by_cases q : (rI u z.toNat).filter (inK kv) = []
  · rw [q] at eq lc
    simp [lc, dEq, eq, q, dl_len, ln, dl_snoc, sl2, DS.bodyF, DS.okArgs, DS.finR, DS.mSeq, DS.sq, DS.bnd, DS.ret, DS.bad, DS.mSet, DS.mSetO, DS.keepD, DS.mVar, DS.mC, DS.mOp2, DS.mOp1, DS.mCB, DS.opD, DS.op1D, DS.opnD, DS.RV.data, DS.datas, DS.mNil, DS.mCons, DS.dAdd, DS.dSub, DS.dMul, DS.dDiv, DS.dMod, DS.dPow, DS.dNeg, DS.dLt, DS.dLe, DS.dGt, DS.dGe, DS.dLen, DS.dTuple, DS.dList, DS.dAbs, DS.dInt, DS.dMax2, DS.dMin2, DS.asB, DS.mT, DS.mNot, DS.mAnd, DS.mOr, DS.datB, DS.mAndV, DS.mOrV, DS.mNotV, DS.mIf, DS.dats, DS.dspD, DS.mTup, DS.mLst, DS.ownL, DS.mLstO, DS.mChain, DS.mNx, DS.mBrk, DS.mCt, DS.mAug, DS.aug2, DS.dAddI, DS.mRet, DS.mRetO, DS.mRetN, DS.mIte, DS.mApp, DS.app2, DS.isOL, DS.mSetL, DS.setL2, DS.gN, DS.gA0, DS.gA, DS.gT, DS.bindD, DS.mAsg, DS.itemsD, DS.mIt, DS.mEnum, DS.mFor, DS.svsOf, DS.slotsOf, DS.RV.sv, DS.callD, DS.roD, DS.roO, DS.mCall, DS.mCallO, DS.mIsi, DS.dIsi, DS.kindOf, DS.notOwn, DS.mRaise, DS.mSl, DS.optI, DS.dSl, DS.mPar, DS.par2, DS.R.bnd_ok, DS.R.bnd_er, DS.R.bnd_bad, DS.wb, DS.mYes, DS.isNon, DS.dIs, DS.dIsNot, ite_ap, rr1, rr2, rr3, rr4, lg8209]
  · simp [lc, dEq, eq, q, dl_len, ln, dl_snoc, sl2, DS.bodyF, DS.okArgs, DS.finR, DS.mSeq, DS.sq, DS.bnd, DS.ret, DS.bad, DS.mSet, DS.mSetO, DS.keepD, DS.mVar, DS.mC, DS.mOp2, DS.mOp1, DS.mCB, DS.opD, DS.op1D, DS.opnD, DS.RV.data, DS.datas, DS.mNil, DS.mCons, DS.dAdd, DS.dSub, DS.dMul, DS.dDiv, DS.dMod, DS.dPow, DS.dNeg, DS.dLt, DS.dLe, DS.dGt, DS.dGe, DS.dLen, DS.dTuple, DS.dList, DS.dAbs, DS.dInt, DS.dMax2, DS.dMin2, DS.asB, DS.mT, DS.mNot, DS.mAnd, DS.mOr, DS.datB, DS.mAndV, DS.mOrV, DS.mNotV, DS.mIf, DS.dats, DS.dspD, DS.mTup, DS.mLst, DS.ownL, DS.mLstO, DS.mChain, DS.mNx, DS.mBrk, DS.mCt, DS.mAug, DS.aug2, DS.dAddI, DS.mRet, DS.mRetO, DS.mRetN, DS.mIte, DS.mApp, DS.app2, DS.isOL, DS.mSetL, DS.setL2, DS.gN, DS.gA0, DS.gA, DS.gT, DS.bindD, DS.mAsg, DS.itemsD, DS.mIt, DS.mEnum, DS.mFor, DS.svsOf, DS.slotsOf, DS.RV.sv, DS.callD, DS.roD, DS.roO, DS.mCall, DS.mCallO, DS.mIsi, DS.dIsi, DS.kindOf, DS.notOwn, DS.mRaise, DS.mSl, DS.optI, DS.dSl, DS.mPar, DS.par2, DS.R.bnd_ok, DS.R.bnd_er, DS.R.bnd_bad, DS.wb, DS.mYes, DS.isNon, DS.dIs, DS.dIsNot, ite_ap, rr1, rr2, rr3, rr4, lg8209]
theorem loopF1 {kv : List (Key × PyData)} {z : Int} (hz : 0 ≤ z) (hz2 : z ≤ 64) (s0 s1 s2 s4 : SV) : ∀ (us fs : List Int) (v : SV), (∀ u ∈ us, 0 ≤ u ∧ u ≤ 100000) → fs.length + us.length ≤ 900 → ∃ y, forL (gN 7) lb__law_free_1 (dl us) [s0, s1, s2, .d (.int z), s4, .od kv, .ol (dl fs), v, .un] = .ok .nx [s0, s1, s2, .d (.int z), s4, .od kv, .ol (dl (fs ++ us.filter (fr kv z))), y, .un]
  | [], fs, v, _, _ => ⟨v, by rw [List.filter_nil, List.append_nil]; rfl⟩
  | u :: us, fs, v, hu, hl => by
    obtain ⟨u0, u1⟩ := hu u (.head _)
    have e := lbF1 (kv := kv) hz hz2 u0 u1 (fs := fs) (by omega) s0 s1 s2 s4
    have hl' : (fs ++ if fr kv z u = true then [u] else []).length + us.length ≤ 900 := by
      rw [List.length_append]
      rw [List.length_cons] at hl
      split <;> simp <;> omega
    obtain ⟨y, e2⟩ := loopF1 hz hz2 s0 s1 s2 s4 us (fs ++ if fr kv z u = true then [u] else []) (.d (.int u)) (fun w hw => hu w (.tail _ hw)) hl'
    refine ⟨y, ?_⟩
    rw [show dl (u :: us) = .int u :: dl us from rfl]
    unfold forL
    show (match lb__law_free_1 [s0, s1, s2, .d (.int z), s4, .od kv, .ol (dl fs), .d (.int u), .un] with
      | .ok .nx ρ2 => forL (gN 7) lb__law_free_1 (dl us) ρ2
      | .ok .ct ρ2 => forL (gN 7) lb__law_free_1 (dl us) ρ2
      | .ok .brk ρ2 => .ok .nx ρ2
      | .ok (.ret ro) ρ2 => .ok (.ret ro) ρ2
      | .er e ρ2 => .er e ρ2
      | .bad => .bad) = _
    rw [e]
    dsimp only
    rw [e2, List.append_assoc]
    congr 3
    by_cases q : fr kv z u = true
    · rw [if_pos q, List.filter_cons_of_pos q]; rfl
    · rw [if_neg q, List.filter_cons_of_neg q]; rfl
end Zk32
end
section
set_option pp.maxSteps 1500
set_option Elab.async false
set_option linter.all false
set_option maxRecDepth 100000
set_option maxHeartbeats 4000000
namespace Zk32
open PySem PySem.Spec PyProof.Rows L2 DS
theorem rng3_eq {a w c : Int} (hc : 0 < c) (hc2 : c ≤ 64) (hw : 0 < w) (hw2 : w ≤ 64) (hd : w % c = 0) (ha : 0 ≤ a) (ha2 : a ≤ 100000) (ρ : Rho) : rng3 [.dat (.int a), .dat (.int (a + w)), .dat (.int c)] ρ = .ok (rangeC a c (w / c).toNat) ρ := by
  have rs := rgS_eq a w c hc hw hd
  have e : rgN a (a + w) c = (w / c).toNat := by unfold rgN; rw [rs]
  have q := Int.ediv_le_self c (a := w) (by omega)
  have q0 : 0 ≤ w / c := Int.ediv_nonneg (by omega) (by omega)
  have s : Builtin.Range.small a (a + w) c = true := by
    unfold Builtin.Range.small
    rw [rs]
    simp [Builtin.Range.rangeFitsLong, hc]
    omega
  unfold rng3
  dsimp only [int3]
  rw [if_pos ⟨by omega, by omega, s⟩, e]
/-- the units of one page -/
def pgI (w z p : Int) : List Int := (List.range (w / z).toNat).map fun (k : Nat) => p * w + k * z
theorem pgI_dl (w z p : Int) : rangeC (p * w) z (w / z).toNat = dl (pgI w z p) := by
  unfold rangeC pgI dl
  rw [List.map_map]
  rfl
theorem lbF2 {kv : List (Key × PyData)} {ys : List Int} (hs : SzOk ys) {z p : Int} (hz : 0 < z) (hz2 : z ≤ 64) (hd : lastI ys % z = 0) (p0 : 0 ≤ p) (p1 : p ≤ 100) {fs : List Int} (hl : fs.length ≤ 800) (s1 s2 v : SV) :
    ∃ y, lb__law_free_2 [.d (.tuple (dl ys)), s1, s2, .d (.int z), .d (.int p), .od kv, .ol (dl fs), v, .un] = .ok .nx [.d (.tuple (dl ys)), s1, s2, .d (.int z), .d (.int p), .od kv, .ol (dl (fs ++ (pgI (lastI ys) z p).filter (fr kv z))), y, .un] := by
  have lp := hs.lastp
  have l1 := at_l1 hs.1
  have q := Int.ediv_le_self z (a := lastI ys) (by omega)
  have w1 : 0 ≤ p * lastI ys := Int.mul_nonneg p0 (by omega)
  have w2 : p * lastI ys ≤ 100 * 64 := Int.mul_le_mul p1 lp.2 (by omega) (by omega)
  have e1 : (p + 1) * lastI ys = p * lastI ys + lastI ys := by rw [Int.add_mul]; omega
  have m1 : mulOk p (lastI ys) = true := mulOk_s (big (by omega) (by omega)) (big (by omega) (by omega))
  have m2 : mulOk (p + 1) (lastI ys) = true := mulOk_s (big (by omega) (by omega)) (big (by omega) (by omega))
  have r3 := rng3_eq (a := p * lastI ys) (w := lastI ys) (c := z) hz hz2 (by omega) (by omega) hd w1 (by omega)
  rw [pgI_dl] at r3
  have hu : ∀ u ∈ pgI (lastI ys) z p, 0 ≤ u ∧ u ≤ 100000 := fun u hu => by
    unfold pgI at hu
    rw [List.mem_map] at hu
    obtain ⟨k, hk, rfl⟩ := hu
    rw [List.mem_range] at hk
    have w3 : (0 : Int) ≤ k * z := Int.mul_nonneg (by omega) (by omega)
    have w4 : (k : Int) * z ≤ 64 * 64 := Int.mul_le_mul (by omega) hz2 (by omega) (by omega)
    omega
  obtain ⟨y, e⟩ := loopF1 (kv := kv) (z := z) (by omega) hz2 (.d (.tuple (dl ys))) s1 s2 (.d (.int p)) (pgI (lastI ys) z p) fs v hu (by unfold pgI; rw [List.length_map, List.length_range]; omega)
  refine ⟨y, ?_⟩
  unfold lb__law_free_2
  generalize lb__law_free_1 = lb at e ⊢
  generalize pgI (lastI ys) z p = us at r3 e ⊢
  simp [dIx, l1, m1, m2, e1, DS.bodyF, DS.okArgs, DS.finR, DS.mSeq, DS.sq, DS.bnd, DS.ret, DS.bad, DS.mSet, DS.mSetO, DS.keepD, DS.mVar, DS.mC, DS.mOp2, DS.mOp1, DS.mCB, DS.opD, DS.op1D, DS.opnD, DS.RV.data, DS.datas, DS.mNil, DS.mCons, DS.dAdd, DS.dSub, DS.dMul, DS.dDiv, DS.dMod, DS.dPow, DS.dNeg, DS.dLt, DS.dLe, DS.dGt, DS.dGe, DS.dLen, DS.dTuple, DS.dList, DS.dAbs, DS.dInt, DS.dMax2, DS.dMin2, DS.asB, DS.mT, DS.mNot, DS.mAnd, DS.mOr, DS.datB, DS.mAndV, DS.mOrV, DS.mNotV, DS.mIf, DS.dats, DS.dspD, DS.mTup, DS.mLst, DS.ownL, DS.mLstO, DS.mChain, DS.mNx, DS.mBrk, DS.mCt, DS.mAug, DS.aug2, DS.dAddI, DS.mRet, DS.mRetO, DS.mRetN, DS.mIte, DS.mApp, DS.app2, DS.isOL, DS.mSetL, DS.setL2, DS.gN, DS.gA0, DS.gA, DS.gT, DS.bindD, DS.mAsg, DS.itemsD, DS.mIt, DS.mEnum, DS.mFor, DS.svsOf, DS.slotsOf, DS.RV.sv, DS.callD, DS.roD, DS.roO, DS.mCall, DS.mCallO, DS.mIsi, DS.dIsi, DS.kindOf, DS.notOwn, DS.mRaise, DS.mSl, DS.optI, DS.dSl, DS.mPar, DS.par2, DS.R.bnd_ok, DS.R.bnd_er, DS.R.bnd_bad, DS.wb, DS.mYes, DS.isNon, DS.dIs, DS.dIsNot, ite_ap, rr1, rr2, rr3, rr4, lg8209]
  simp [r3, e, DS.bodyF, DS.okArgs, DS.finR, DS.mSeq, DS.sq, DS.bnd, DS.ret, DS.bad, DS.mSet, DS.mSetO, DS.keepD, DS.mVar, DS.mC, DS.mOp2, DS.mOp1, DS.mCB, DS.opD, DS.op1D, DS.opnD, DS.RV.data, DS.datas, DS.mNil, DS.mCons, DS.dAdd, DS.dSub, DS.dMul, DS.dDiv, DS.dMod, DS.dPow, DS.dNeg, DS.dLt, DS.dLe, DS.dGt, DS.dGe, DS.dLen, DS.dTuple, DS.dList, DS.dAbs, DS.dInt, DS.dMax2, DS.dMin2, DS.asB, DS.mT, DS.mNot, DS.mAnd, DS.mOr, DS.datB, DS.mAndV, DS.mOrV, DS.mNotV, DS.mIf, DS.dats, DS.dspD, DS.mTup, DS.mLst, DS.ownL, DS.mLstO, DS.mChain, DS.mNx, DS.mBrk, DS.mCt, DS.mAug, DS.aug2, DS.dAddI, DS.mRet, DS.mRetO, DS.mRetN, DS.mIte, DS.mApp, DS.app2, DS.isOL, DS.mSetL, DS.setL2, DS.gN, DS.gA0, DS.gA, DS.gT, DS.bindD, DS.mAsg, DS.itemsD, DS.mIt, DS.mEnum, DS.mFor, DS.svsOf, DS.slotsOf, DS.RV.sv, DS.callD, DS.roD, DS.roO, DS.mCall, DS.mCallO, DS.mIsi, DS.dIsi, DS.kindOf, DS.notOwn, DS.mRaise, DS.mSl, DS.optI, DS.dSl, DS.mPar, DS.par2, DS.R.bnd_ok, DS.R.bnd_er, DS.R.bnd_bad, DS.wb, DS.mYes, DS.isNon, DS.dIs, DS.dIsNot, ite_ap, rr1, rr2, rr3, rr4, lg8209]
theorem loopF2 {kv : List (Key × PyData)} {ys : List Int} (hs : SzOk ys) {z : Int} (hz : 0 < z) (hz2 : z ≤ 64) (hd : lastI ys % z = 0) (s1 s2 : SV) : ∀ (qs fs : List Int) (v4 v : SV), (∀ p ∈ qs, 0 ≤ p ∧ p ≤ 100) → fs.length + qs.length * 64 ≤ 800 → ∃ x y, forL (gN 4) lb__law_free_2 (dl qs) [.d (.tuple (dl ys)), s1, s2, .d (.int z), v4, .od kv, .ol (dl fs), v, .un] = .ok .nx [.d (.tuple (dl ys)), s1, s2, .d (.int z), x, .od kv, .ol (dl (fs ++ (plI ys qs z).filter (fr kv z))), y, .un]
  | [], fs, v4, v, _, _ => ⟨v4, v, by simp [plI]; rfl⟩
  | p :: qs, fs, v4, v, hq, hl => by
    have lp := hs.lastp
    have q := Int.ediv_le_self z (a := lastI ys) (by omega)
    obtain ⟨p0, p1⟩ := hq p (.head _)
    rw [List.length_cons] at hl
    obtain ⟨y, e⟩ := lbF2 (kv := kv) hs hz hz2 hd p0 p1 (fs := fs) (by omega) s1 s2 v
    have fl : ((pgI (lastI ys) z p).filter (fr kv z)).length ≤ 64 := by
      refine Nat.le_trans (List.length_filter_le _ _) ?_
      unfold pgI
      rw [List.length_map, List.length_range]
      omega
    obtain ⟨x', y', e2⟩ := loopF2 hs hz hz2 hd s1 s2 qs (fs ++ (pgI (lastI ys) z p).filter (fr kv z)) (.d (.int p)) y (fun w hw => hq w (.tail _ hw)) (by rw [List.length_append]; omega)
    refine ⟨x', y', ?_⟩
    rw [show dl (p :: qs) = .int p :: dl qs from rfl]
    unfold forL
    show (match lb__law_free_2 [.d (.tuple (dl ys)), s1, s2, .d (.int z), .d (.int p), .od kv, .ol (dl fs), v, .un] with
      | .ok .nx ρ2 => forL (gN 4) lb__law_free_2 (dl qs) ρ2
      | .ok .ct ρ2 => forL (gN 4) lb__law_free_2 (dl qs) ρ2
      | .ok .brk ρ2 => .ok .nx ρ2
      | .ok (.ret ro) ρ2 => .ok (.ret ro) ρ2
      | .er e ρ2 => .er e ρ2
      | .bad => .bad) = _
    rw [e]
    dsimp only
    have ep : (plI ys (p :: qs) z).filter (fr kv z) = (pgI (lastI ys) z p).filter (fr kv z) ++ (plI ys qs z).filter (fr kv z) := by
      rw [← List.filter_append]
      rfl
    rw [e2, List.append_assoc, ep]
theorem law_free_eq {ys ps : List Int} (hs : SzOk ys) (hp : PgB ps) {c : Int} (hc : 0 < c) (hc2 : c ≤ 64) (hd : lastI ys % c = 0) {bs : List (Int × Int)} (h : Pic ys ps c bs) (hl : bs.length * c.toNat ≤ 800) {z : Int} (hz : 0 < z) (hz2 : z ≤ 64) (hdz : lastI ys % z = 0) :
    m__law_free [.d (.tuple (dl ys)), .d (.tuple (dl ps)), .d (.list (bs.map (blk .tuple c))), .d (.int z)] = .ok (.new (.ol (dl ((plI ys ps z).filter (fr (aKV c bs) z))))) [.d (.tuple (dl ys)), .d (.tuple (dl ps)), .d (.list (bs.map (blk .tuple c))), .d (.int z)] := by
  have e1 := law_cells_eq hs hp hc hc2 hd h hl
  have l7 := hp.2.2.1
  have q := Int.ediv_le_self z (a := lastI ys) (by have := hs.lastp; omega)
  obtain ⟨x, y, e2⟩ := loopF2 (kv := aKV c bs) hs hz hz2 hdz (.d (.tuple (dl ps))) (.d (.list (bs.map (blk .tuple c)))) ps [] .un .un hp.2.2.2 (by simp; omega)
  rw [show dl [] = [] from rfl, List.nil_append] at e2
  unfold m__law_free bodyF
  generalize lb__law_free_2 = lb at e2 ⊢
  have l5 := h.len
  have lo : (bs.map (blk .tuple c)).length ≤ 1000 := by rw [List.length_map]; omega
  generalize bs.map (blk .tuple c) = O at e1 e2 lo ⊢
  simp [g__law_free, e1, e2, dl_len, sl2, DS.bodyF, DS.okArgs, DS.finR, DS.mSeq, DS.sq, DS.bnd, DS.ret, DS.bad, DS.mSet, DS.mSetO, DS.keepD, DS.mVar, DS.mC, DS.mOp2, DS.mOp1, DS.mCB, DS.opD, DS.op1D, DS.opnD, DS.RV.data, DS.datas, DS.mNil, DS.mCons, DS.dAdd, DS.dSub, DS.dMul, DS.dDiv, DS.dMod, DS.dPow, DS.dNeg, DS.dLt, DS.dLe, DS.dGt, DS.dGe, DS.dLen, DS.dTuple, DS.dList, DS.dAbs, DS.dInt, DS.dMax2, DS.dMin2, DS.asB, DS.mT, DS.mNot, DS.mAnd, DS.mOr, DS.datB, DS.mAndV, DS.mOrV, DS.mNotV, DS.mIf, DS.dats, DS.dspD, DS.mTup, DS.mLst, DS.ownL, DS.mLstO, DS.mChain, DS.mNx, DS.mBrk, DS.mCt, DS.mAug, DS.aug2, DS.dAddI, DS.mRet, DS.mRetO, DS.mRetN, DS.mIte, DS.mApp, DS.app2, DS.isOL, DS.mSetL, DS.setL2, DS.gN, DS.gA0, DS.gA, DS.gT, DS.bindD, DS.mAsg, DS.itemsD, DS.mIt, DS.mEnum, DS.mFor, DS.svsOf, DS.slotsOf, DS.RV.sv, DS.callD, DS.roD, DS.roO, DS.mCall, DS.mCallO, DS.mIsi, DS.dIsi, DS.kindOf, DS.notOwn, DS.mRaise, DS.mSl, DS.optI, DS.dSl, DS.mPar, DS.par2, DS.R.bnd_ok, DS.R.bnd_er, DS.R.bnd_bad, DS.wb, DS.mYes, DS.isNon, DS.dIs, DS.dIsNot, ite_ap, rr1, rr2, rr3, rr4, lg8209, DS.mP, DS.pVar, DS.pC, DS.pFld, DS.fldP, DS.atP, DS.getP, DS.setP, DS.FS.get, DS.FS.put, DS.FS.len, DS.mSetF, DS.mSetFO, DS.keepF, DS.setFP, DS.setF, DS.mMake, DS.makeD, DS.mCallN, DS.callN, DS.pickL, DS.pIn, DS.inD, DS.keyOf, DS.keyD, DS.dAt, DS.PV.data, DS.mPut, DS.putDP, DS.putD, DS.mConsO, DS.mNilO, DS.mDat, DS.datS, DS.mAsgO, DS.asgO, DS.setsO, DS.mParO, DS.par2O]
end Zk32
end
section
set_option pp.maxSteps 1500
set_option Elab.async false
set_option linter.all false
set_option maxRecDepth 100000
set_option maxHeartbeats 4000000
namespace Zk32
open PySem PySem.Spec PyProof.Rows L2 DS
def sw (b : Int × Int) : Int × Int := (b.2, b.1)
theorem lt_pD (x y : Int × Int) : PySem.W.dataLt (pD x) (pD y) = decide (x.1 < y.1 ∨ (x.1 = y.1 ∧ x.2 < y.2)) := PySem.W.dataLt_ii x.1 x.2 y.1 y.2
theorem minP_least {w : Int × Int} : ∀ (ps : List (Int × Int)) (a : Int × Int), (a = w ∨ w.1 < a.1) → (∀ x ∈ ps, x = w ∨ w.1 < x.1) → (a = w ∨ w ∈ ps) → minP a ps = w
  | [], a, _, _, h => by
    rcases h with h | h
    · exact h
    · cases h
  | y :: ps, a, ha, hx, h => by
    have e : minP a (y :: ps) = minP (if PySem.W.dataLt (pD y) (pD a) then y else a) ps := rfl
    rw [e, lt_pD]
    have hy := hx y (.head _)
    have hx' : ∀ x ∈ ps, x = w ∨ w.1 < x.1 := fun x hm => hx x (.tail _ hm)
    by_cases c : y.1 < a.1 ∨ (y.1 = a.1 ∧ y.2 < a.2)
    · rw [if_pos (decide_eq_true c)]
      refine minP_least ps y hy hx' ?_
      rcases h with h | h
      · subst h
        rcases hy with z | z
        · exact .inl z
        · omega
      · rcases List.mem_cons.mp h with z | z
        · exact .inl z.symm
        · exact .inr z
    · rw [if_neg (by rw [decide_eq_true_eq]; exact c)]
      refine minP_least ps a ha hx' ?_
      rcases h with h | h
      · exact .inl h
      · rcases List.mem_cons.mp h with z | z
        · subst z
          rcases ha with z | z
          · exact .inl z
          · omega
        · exact .inr z
theorem le_pD (x y : Int × Int) : PySem.W.dataLe false pD x y = decide (x.1 < y.1 ∨ (x.1 = y.1 ∧ x.2 ≤ y.2)) := congrFun (congrFun (PySem.W.dataLe_ii (fun b : Int × Int => b.1) fun b => b.2) x) y
theorem sortP_least {w : Int × Int} {l : List (Int × Int)} (hw : w ∈ l) (hx : ∀ x ∈ l, x = w ∨ w.1 < x.1) : ∃ r, sortP l = w :: r := by
  have pm : (sortP l).Perm l := List.mergeSort_perm _ _
  have so : (sortP l).Pairwise (fun a b => PySem.W.dataLe false pD a b = true) := by
    refine List.pairwise_mergeSort (fun a b c h1 h2 => ?_) (fun a b => ?_) l
    · rw [le_pD] at h1 h2 ⊢
      rw [decide_eq_true_eq] at h1 h2 ⊢
      omega
    · rw [le_pD, le_pD]
      simp only [Bool.or_eq_true, decide_eq_true_eq]
      omega
  cases e : sortP l with
  | nil =>
    have := pm.mem_iff.mpr hw
    rw [e] at this
    cases this
  | cons m r =>
    have hm : m ∈ l := pm.mem_iff.mp (by rw [e]; exact .head _)
    rcases hx m hm with z | z
    · exact ⟨r, by rw [z]⟩
    · have hw' : w ∈ sortP l := pm.mem_iff.mpr hw
      rw [e] at hw' so
      rcases List.mem_cons.mp hw' with z' | z'
      · exact ⟨r, by rw [z']⟩
      · have := (List.pairwise_cons.mp so).1 w z'
        rw [le_pD, decide_eq_true_eq] at this
        omega
/-- what a comprehension over a picture picks -/
def tB (t : Int → Bool) : PyData → Bool
  | .tuple [_, _, .int a] => t a
  | _ => false
def fB : PyData → PyData
  | .tuple [h, _, a] => .tuple [a, h]
  | _ => .none
theorem picks (t : Int → Bool) (c : Int) (bs : List (Int × Int)) : ((bs.map (blk .tuple c)).filter (tB t)).map fB = ((bs.filter fun b => t b.2).map sw).map pD := by
  rw [List.filter_map, List.map_map, List.map_map]
  rfl
theorem least_lc {c p G : Int} {bs : List (Int × Int)} (hl : bs.length ≤ 900) : (mLC (mIt (mVar 0)) (gT 3 (gA (gN 4) (gA (gN 5) (gA (gN 6) gA0)))) (mT (mChain dLe dLt (mVar 1) (mVar 6) (mOp2 dAdd (mVar 1) (mVar 2)))) (mTup (mCons (mVar 6) (mCons (mVar 4) mNil))) [4, 5, 6]) [.d (.tuple (bs.map (blk .tuple c))), .d (.int p), .d (.int G), .un, .un, .un, .un] = .ok (.dat (.list (((bs.filter fun b => decide (p ≤ b.2) && decide (b.2 < p + G)).map sw).map pD))) [.d (.tuple (bs.map (blk .tuple c))), .d (.int p), .d (.int G), .un, .un, .un, .un] := by
  rw [← picks (fun a => decide (p ≤ a) && decide (a < p + G)) c bs]
  refine mLC_g (ρw := [.d (.tuple (bs.map (blk .tuple c))), .d (.int p), .d (.int G), .un, .un, .un, .un]) (items := bs.map (blk .tuple c)) (tB fun a => decide (p ≤ a) && decide (a < p + G)) fB (by simp [DS.bodyF, DS.okArgs, DS.finR, DS.mSeq, DS.sq, DS.bnd, DS.ret, DS.bad, DS.mSet, DS.mSetO, DS.keepD, DS.mVar, DS.mC, DS.mOp2, DS.mOp1, DS.mCB, DS.opD, DS.op1D, DS.opnD, DS.RV.data, DS.datas, DS.mNil, DS.mCons, DS.dAdd, DS.dSub, DS.dMul, DS.dDiv, DS.dMod, DS.dPow, DS.dNeg, DS.dLt, DS.dLe, DS.dGt, DS.dGe, DS.dLen, DS.dTuple, DS.dList, DS.dAbs, DS.dInt, DS.dMax2, DS.dMin2, DS.asB, DS.mT, DS.mNot, DS.mAnd, DS.mOr, DS.datB, DS.mAndV, DS.mOrV, DS.mNotV, DS.mIf, DS.dats, DS.dspD, DS.mTup, DS.mLst, DS.ownL, DS.mLstO, DS.mChain, DS.mNx, DS.mBrk, DS.mCt, DS.mAug, DS.aug2, DS.dAddI, DS.mRet, DS.mRetO, DS.mRetN, DS.mIte, DS.mApp, DS.app2, DS.isOL, DS.mSetL, DS.setL2, DS.gN, DS.gA0, DS.gA, DS.gT, DS.bindD, DS.mAsg, DS.itemsD, DS.mIt, DS.mEnum, DS.mFor, DS.svsOf, DS.slotsOf, DS.RV.sv, DS.callD, DS.roD, DS.roO, DS.mCall, DS.mCallO, DS.mIsi, DS.dIsi, DS.kindOf, DS.notOwn, DS.mRaise, DS.mSl, DS.optI, DS.dSl, DS.mPar, DS.par2, DS.R.bnd_ok, DS.R.bnd_er, DS.R.bnd_bad, DS.wb, DS.mYes, DS.isNon, DS.dIs, DS.dIsNot, ite_ap, rr1, rr2, rr3, rr4, lg8209]) rfl rfl rfl (by rw [List.length_map]; omega) (fun z hz => ?_)
  obtain ⟨b, _, rfl⟩ := List.mem_map.mp hz
  refine ⟨[.d (.tuple (bs.map (blk .tuple c))), .d (.int p), .d (.int G), .un, .d (.int b.1), .d (.int c), .d (.int b.2)], by simp [blk, DS.bodyF, DS.okArgs, DS.finR, DS.mSeq, DS.sq, DS.bnd, DS.ret, DS.bad, DS.mSet, DS.mSetO, DS.keepD, DS.mVar, DS.mC, DS.mOp2, DS.mOp1, DS.mCB, DS.opD, DS.op1D, DS.opnD, DS.RV.data, DS.datas, DS.mNil, DS.mCons, DS.dAdd, DS.dSub, DS.dMul, DS.dDiv, DS.dMod, DS.dPow, DS.dNeg, DS.dLt, DS.dLe, DS.dGt, DS.dGe, DS.dLen, DS.dTuple, DS.dList, DS.dAbs, DS.dInt, DS.dMax2, DS.dMin2, DS.asB, DS.mT, DS.mNot, DS.mAnd, DS.mOr, DS.datB, DS.mAndV, DS.mOrV, DS.mNotV, DS.mIf, DS.dats, DS.dspD, DS.mTup, DS.mLst, DS.ownL, DS.mLstO, DS.mChain, DS.mNx, DS.mBrk, DS.mCt, DS.mAug, DS.aug2, DS.dAddI, DS.mRet, DS.mRetO, DS.mRetN, DS.mIte, DS.mApp, DS.app2, DS.isOL, DS.mSetL, DS.setL2, DS.gN, DS.gA0, DS.gA, DS.gT, DS.bindD, DS.mAsg, DS.itemsD, DS.mIt, DS.mEnum, DS.mFor, DS.svsOf, DS.slotsOf, DS.RV.sv, DS.callD, DS.roD, DS.roO, DS.mCall, DS.mCallO, DS.mIsi, DS.dIsi, DS.kindOf, DS.notOwn, DS.mRaise, DS.mSl, DS.optI, DS.dSl, DS.mPar, DS.par2, DS.R.bnd_ok, DS.R.bnd_er, DS.R.bnd_bad, DS.wb, DS.mYes, DS.isNon, DS.dIs, DS.dIsNot, ite_ap, rr1, rr2, rr3, rr4, lg8209], ?_, fun _ => ?_, rfl⟩
  · by_cases c1 : p ≤ b.2 <;> by_cases c2 : b.2 < p + G <;> simp [tB, blk, c1, c2, DS.bodyF, DS.okArgs, DS.finR, DS.mSeq, DS.sq, DS.bnd, DS.ret, DS.bad, DS.mSet, DS.mSetO, DS.keepD, DS.mVar, DS.mC, DS.mOp2, DS.mOp1, DS.mCB, DS.opD, DS.op1D, DS.opnD, DS.RV.data, DS.datas, DS.mNil, DS.mCons, DS.dAdd, DS.dSub, DS.dMul, DS.dDiv, DS.dMod, DS.dPow, DS.dNeg, DS.dLt, DS.dLe, DS.dGt, DS.dGe, DS.dLen, DS.dTuple, DS.dList, DS.dAbs, DS.dInt, DS.dMax2, DS.dMin2, DS.asB, DS.mT, DS.mNot, DS.mAnd, DS.mOr, DS.datB, DS.mAndV, DS.mOrV, DS.mNotV, DS.mIf, DS.dats, DS.dspD, DS.mTup, DS.mLst, DS.ownL, DS.mLstO, DS.mChain, DS.mNx, DS.mBrk, DS.mCt, DS.mAug, DS.aug2, DS.dAddI, DS.mRet, DS.mRetO, DS.mRetN, DS.mIte, DS.mApp, DS.app2, DS.isOL, DS.mSetL, DS.setL2, DS.gN, DS.gA0, DS.gA, DS.gT, DS.bindD, DS.mAsg, DS.itemsD, DS.mIt, DS.mEnum, DS.mFor, DS.svsOf, DS.slotsOf, DS.RV.sv, DS.callD, DS.roD, DS.roO, DS.mCall, DS.mCallO, DS.mIsi, DS.dIsi, DS.kindOf, DS.notOwn, DS.mRaise, DS.mSl, DS.optI, DS.dSl, DS.mPar, DS.par2, DS.R.bnd_ok, DS.R.bnd_er, DS.R.bnd_bad, DS.wb, DS.mYes, DS.isNon, DS.dIs, DS.dIsNot, ite_ap, rr1, rr2, rr3, rr4, lg8209]
  · simp [fB, blk, sl2, DS.bodyF, DS.okArgs, DS.finR, DS.mSeq, DS.sq, DS.bnd, DS.ret, DS.bad, DS.mSet, DS.mSetO, DS.keepD, DS.mVar, DS.mC, DS.mOp2, DS.mOp1, DS.mCB, DS.opD, DS.op1D, DS.opnD, DS.RV.data, DS.datas, DS.mNil, DS.mCons, DS.dAdd, DS.dSub, DS.dMul, DS.dDiv, DS.dMod, DS.dPow, DS.dNeg, DS.dLt, DS.dLe, DS.dGt, DS.dGe, DS.dLen, DS.dTuple, DS.dList, DS.dAbs, DS.dInt, DS.dMax2, DS.dMin2, DS.asB, DS.mT, DS.mNot, DS.mAnd, DS.mOr, DS.datB, DS.mAndV, DS.mOrV, DS.mNotV, DS.mIf, DS.dats, DS.dspD, DS.mTup, DS.mLst, DS.ownL, DS.mLstO, DS.mChain, DS.mNx, DS.mBrk, DS.mCt, DS.mAug, DS.aug2, DS.dAddI, DS.mRet, DS.mRetO, DS.mRetN, DS.mIte, DS.mApp, DS.app2, DS.isOL, DS.mSetL, DS.setL2, DS.gN, DS.gA0, DS.gA, DS.gT, DS.bindD, DS.mAsg, DS.itemsD, DS.mIt, DS.mEnum, DS.mFor, DS.svsOf, DS.slotsOf, DS.RV.sv, DS.callD, DS.roD, DS.roO, DS.mCall, DS.mCallO, DS.mIsi, DS.dIsi, DS.kindOf, DS.notOwn, DS.mRaise, DS.mSl, DS.optI, DS.dSl, DS.mPar, DS.par2, DS.R.bnd_ok, DS.R.bnd_er, DS.R.bnd_bad, DS.wb, DS.mYes, DS.isNon, DS.dIs, DS.dIsNot, ite_ap, rr1, rr2, rr3, rr4, lg8209]
theorem least_in_eq {c p G : Int} {bs : List (Int × Int)} (hl : bs.length ≤ 900) {w : Int × Int} (hw : w ∈ bs) (h1 : p ≤ w.2) (h2 : w.2 < p + G) (hx : ∀ b ∈ bs, p ≤ b.2 → b = w ∨ w.2 < b.2) :
    m_least_in [.d (.tuple (bs.map (blk .tuple c))), .d (.int p), .d (.int G)] = .ok (.dat (.int w.1)) [.d (.tuple (bs.map (blk .tuple c))), .d (.int p), .d (.int G)] := by
  have lc := least_lc (c := c) (p := p) (G := G) hl
  have hm : sw w ∈ (bs.filter fun b => decide (p ≤ b.2) && decide (b.2 < p + G)).map sw := List.mem_map.mpr ⟨w, List.mem_filter.mpr ⟨hw, by simp [h1, h2]⟩, rfl⟩
  have ha : ∀ x ∈ (bs.filter fun b => decide (p ≤ b.2) && decide (b.2 < p + G)).map sw, x = sw w ∨ (sw w).1 < x.1 := fun x hm => by
    obtain ⟨b, hb, rfl⟩ := List.mem_map.mp hm
    obtain ⟨hb, q⟩ := List.mem_filter.mp hb
    simp at q
    rcases hx b hb q.1 with z | z
    · exact .inl (by rw [z])
    · exact .inr z
  have len : ((bs.filter fun b => decide (p ≤ b.2) && decide (b.2 < p + G)).map sw).length ≤ 900 := by
    rw [List.length_map]
    exact Nat.le_trans (List.length_filter_le _ _) hl
  generalize (bs.filter fun b => decide (p ≤ b.2) && decide (b.2 < p + G)).map sw = l at lc hm ha len
  cases l with
  | nil => cases hm
  | cons a r =>
    have mn : dMinP [.list ((a :: r).map pD)] = some (pD (sw w)) := by
      have pm := pairs_map (a :: r)
      show (match pairs? ((a :: r).map pD) with | some (p :: ps) => some (pD (minP p ps)) | _ => none) = _
      rw [pm]
      dsimp only
      rw [minP_least r a (ha a (.head _)) (fun x h => ha x (.tail _ h)) ((List.mem_cons.mp hm).imp Eq.symm id)]
    have i1 : dIx (pD (sw w)) (.int 1) = some (.int w.1) := rfl
    have ln : (((a :: r).map pD).length : Int) = (r.length : Int) + 1 := by simp
    have l2 : ((a :: r).map pD).length ≤ 1000 := by rw [List.length_map]; omega
    have g0 : (0 : Int) < (r.length : Int) + 1 := by omega
    unfold m_least_in bodyF
    generalize (mLC (mIt (mVar 0)) (gT 3 (gA (gN 4) (gA (gN 5) (gA (gN 6) gA0)))) (mT (mChain dLe dLt (mVar 1) (mVar 6) (mOp2 dAdd (mVar 1) (mVar 2)))) (mTup (mCons (mVar 6) (mCons (mVar 4) mNil))) [4, 5, 6]) = lcm at lc ⊢
    generalize bs.map (blk .tuple c) = O at lc ⊢
    generalize (a :: r).map pD = S at lc mn ln l2 ⊢
    simp [g_least_in, lc, mn, i1, ln, g0, sl2 l2, DS.bodyF, DS.okArgs, DS.finR, DS.mSeq, DS.sq, DS.bnd, DS.ret, DS.bad, DS.mSet, DS.mSetO, DS.keepD, DS.mVar, DS.mC, DS.mOp2, DS.mOp1, DS.mCB, DS.opD, DS.op1D, DS.opnD, DS.RV.data, DS.datas, DS.mNil, DS.mCons, DS.dAdd, DS.dSub, DS.dMul, DS.dDiv, DS.dMod, DS.dPow, DS.dNeg, DS.dLt, DS.dLe, DS.dGt, DS.dGe, DS.dLen, DS.dTuple, DS.dList, DS.dAbs, DS.dInt, DS.dMax2, DS.dMin2, DS.asB, DS.mT, DS.mNot, DS.mAnd, DS.mOr, DS.datB, DS.mAndV, DS.mOrV, DS.mNotV, DS.mIf, DS.dats, DS.dspD, DS.mTup, DS.mLst, DS.ownL, DS.mLstO, DS.mChain, DS.mNx, DS.mBrk, DS.mCt, DS.mAug, DS.aug2, DS.dAddI, DS.mRet, DS.mRetO, DS.mRetN, DS.mIte, DS.mApp, DS.app2, DS.isOL, DS.mSetL, DS.setL2, DS.gN, DS.gA0, DS.gA, DS.gT, DS.bindD, DS.mAsg, DS.itemsD, DS.mIt, DS.mEnum, DS.mFor, DS.svsOf, DS.slotsOf, DS.RV.sv, DS.callD, DS.roD, DS.roO, DS.mCall, DS.mCallO, DS.mIsi, DS.dIsi, DS.kindOf, DS.notOwn, DS.mRaise, DS.mSl, DS.optI, DS.dSl, DS.mPar, DS.par2, DS.R.bnd_ok, DS.R.bnd_er, DS.R.bnd_bad, DS.wb, DS.mYes, DS.isNon, DS.dIs, DS.dIsNot, ite_ap, rr1, rr2, rr3, rr4, lg8209]
theorem least_in_none (p G : Int) : m_least_in [.d (.tuple []), .d (.int p), .d (.int G)] = .ok (.dat .none) [.d (.tuple []), .d (.int p), .d (.int G)] := by
  have lc := least_lc (c := 1) (p := p) (G := G) (bs := []) (by simp)
  simp only [List.map_nil, List.filter_nil] at lc
  unfold m_least_in bodyF
  generalize (mLC (mIt (mVar 0)) (gT 3 (gA (gN 4) (gA (gN 5) (gA (gN 6) gA0)))) (mT (mChain dLe dLt (mVar 1) (mVar 6) (mOp2 dAdd (mVar 1) (mVar 2)))) (mTup (mCons (mVar 6) (mCons (mVar 4) mNil))) [4, 5, 6]) = lcm at lc ⊢
  simp [g_least_in, lc, DS.bodyF, DS.okArgs, DS.finR, DS.mSeq, DS.sq, DS.bnd, DS.ret, DS.bad, DS.mSet, DS.mSetO, DS.keepD, DS.mVar, DS.mC, DS.mOp2, DS.mOp1, DS.mCB, DS.opD, DS.op1D, DS.opnD, DS.RV.data, DS.datas, DS.mNil, DS.mCons, DS.dAdd, DS.dSub, DS.dMul, DS.dDiv, DS.dMod, DS.dPow, DS.dNeg, DS.dLt, DS.dLe, DS.dGt, DS.dGe, DS.dLen, DS.dTuple, DS.dList, DS.dAbs, DS.dInt, DS.dMax2, DS.dMin2, DS.asB, DS.mT, DS.mNot, DS.mAnd, DS.mOr, DS.datB, DS.mAndV, DS.mOrV, DS.mNotV, DS.mIf, DS.dats, DS.dspD, DS.mTup, DS.mLst, DS.ownL, DS.mLstO, DS.mChain, DS.mNx, DS.mBrk, DS.mCt, DS.mAug, DS.aug2, DS.dAddI, DS.mRet, DS.mRetO, DS.mRetN, DS.mIte, DS.mApp, DS.app2, DS.isOL, DS.mSetL, DS.setL2, DS.gN, DS.gA0, DS.gA, DS.gT, DS.bindD, DS.mAsg, DS.itemsD, DS.mIt, DS.mEnum, DS.mFor, DS.svsOf, DS.slotsOf, DS.RV.sv, DS.callD, DS.roD, DS.roO, DS.mCall, DS.mCallO, DS.mIsi, DS.dIsi, DS.kindOf, DS.notOwn, DS.mRaise, DS.mSl, DS.optI, DS.dSl, DS.mPar, DS.par2, DS.R.bnd_ok, DS.R.bnd_er, DS.R.bnd_bad, DS.wb, DS.mYes, DS.isNon, DS.dIs, DS.dIsNot, ite_ap, rr1, rr2, rr3, rr4, lg8209]
end Zk32
end
section
set_option pp.maxSteps 1500
set_option Elab.async false
set_option linter.all false
set_option maxRecDepth 100000
set_option maxHeartbeats 4000000
namespace Zk32
open PySem PySem.Spec PyProof.Rows L2 DS
structure Ar (ys ps : List Int) (c G : Int) (R : Nat) : Prop where
  hs : SzOk ys
  hp : PgB ps
  hc : 0 < c
  hc2 : c ≤ 64
  hcy : c ∈ ys
  hd : lastI ys % c = 0
  hG2 : G ≤ 64
  hdG : lastI ys % G = 0
  GR : G = R * c
  R2 : 2 ≤ R
  P2 : 2 ≤ (plI ys ps G).length
  UL : (plI ys ps c).length = (plI ys ps G).length * R
  ar : ∀ {mk mk' : List PyData → PyData}, Seq mk → Seq mk' → m_arena [.d (mk (dl ys)), .d (mk' (dl ps))] = .ok (.dat (.tuple [.int c, .int G, .tuple (dl (plI ys ps G))])) [.d (mk (dl ys)), .d (mk' (dl ps))]
  fm : ∀ {mk mk' : List PyData → PyData}, Seq mk → Seq mk' → m_foe_many [.d (mk (dl ys)), .d (mk' (dl ps))] = .ok (.dat (.int ((plI ys ps G).length * R + R + 1))) [.d (mk (dl ys)), .d (mk' (dl ps))]
theorem lastI_mem {ys : List Int} (h : 1 ≤ ys.length) : lastI ys ∈ ys := by
  rw [lastI_at (i := ys.length - 1) (by omega)]
  exact List.getElem_mem _
theorem ar_of {ys ps : List Int} (hs : SzOk ys) (hp : PgB ps) (h2 : 2 ≤ (arS ys ps.length).length) : Ar ys ps (lastI (arS ys ps.length).dropLast) (lastI (arS ys ps.length)) (lastI (arS ys ps.length) / lastI (arS ys ps.length).dropLast).toNat := by
  have qs := arS_ok hs ps.length
  have ls := lasts qs h2
  have a := (qs.init h2).lastp
  have b := qs.lastp
  have lp := hs.lastp
  have cm : lastI (arS ys ps.length).dropLast ∈ ys := by
    have m1 : lastI (arS ys ps.length).dropLast ∈ arS ys ps.length := (List.dropLast_sublist _).subset (lastI_mem (by simp; omega))
    unfold arS at m1 ⊢
    split at m1
    · rename_i z; rw [if_pos z]; exact (List.dropLast_sublist _).subset m1
    · rename_i z; rw [if_neg z]; exact m1
  have hdG : lastI ys % lastI (arS ys ps.length) = 0 ∧ 2 ≤ ps.length * (lastI ys / lastI (arS ys ps.length)).toNat := by
    by_cases z : ps.length = 1 ∧ 2 ≤ ys.length
    · have e : arS ys ps.length = ys.dropLast := by unfold arS; rw [if_pos z]
      rw [e] at b ⊢
      have l2 := lasts hs z.2
      refine ⟨l2.2, ?_⟩
      have q := Int.ediv_mul_cancel (Int.dvd_of_emod_eq_zero l2.2)
      have : 2 ≤ lastI ys / lastI ys.dropLast := by
        rcases Int.lt_or_le (lastI ys / lastI ys.dropLast) 2 with h | h
        · exfalso
          have w := Int.mul_le_mul_of_nonneg_right (show lastI ys / lastI ys.dropLast ≤ 1 by omega) (show 0 ≤ lastI ys.dropLast by omega)
          rw [q] at w
          omega
        · exact h
      rw [z.1]
      omega
    · have e : arS ys ps.length = ys := by unfold arS; rw [if_neg z]
      rw [e] at h2 ⊢
      refine ⟨Int.emod_self, ?_⟩
      rw [Int.ediv_self (by omega)]
      have := hp.2.1
      show 2 ≤ ps.length * 1
      omega
  have far := fun {mk mk'} (h : Seq mk) (h' : Seq mk') => arena_eq (mk := mk) (mk' := mk') h h' hs hp h2
  have ffm := fun {mk mk'} (h : Seq mk) (h' : Seq mk') => foe_eq (mk := mk) (mk' := mk') h h' hs hp h2
  unfold fmI at ffm
  simp only [plcs_dl, dl_len] at far ffm
  revert cm hdG far ffm ls a b
  generalize lastI (arS ys ps.length).dropLast = c
  generalize lastI (arS ys ps.length) = G
  intro ls a b cm hdG far ffm
  have q := Int.ediv_mul_cancel (Int.dvd_of_emod_eq_zero ls.2)
  have r2 : 2 ≤ G / c := by
    rcases Int.lt_or_le (G / c) 2 with h | h
    · exfalso
      have w := Int.mul_le_mul_of_nonneg_right (show G / c ≤ 1 by omega) (show 0 ≤ c by omega)
      rw [q] at w
      omega
    · exact h
  have rn : ((G / c).toNat : Int) = G / c := Int.toNat_of_nonneg (by omega)
  have q2 := Int.ediv_mul_cancel (Int.dvd_of_emod_eq_zero hdG.1)
  have dc : lastI ys = lastI ys / G * (G / c) * c := by rw [Int.mul_assoc, q, q2]
  have dv : lastI ys % c = 0 := by rw [dc]; exact Int.mul_emod_left _ _
  refine ⟨hs, hp, by omega, by omega, cm, dv, by omega, hdG.1, by rw [rn]; exact q.symm, by omega, by rw [plI_len]; exact hdG.2, ?_, far, fun h h' => by rw [rn]; exact ffm h h'⟩
  rw [plI_len, plI_len, Nat.mul_assoc]
  congr 1
  have e : lastI ys / c = lastI ys / G * (G / c) := by
    have : lastI ys / c = (lastI ys / G * (G / c)) * c / c := by rw [← dc]
    rw [this, Int.mul_ediv_cancel _ (by omega)]
  have g0 : 0 ≤ lastI ys / G := Int.ediv_nonneg (by omega) (by omega)
  rw [e, Int.toNat_mul g0 (by omega)]
theorem Ar.G0 {ys ps : List Int} {c G : Int} {R : Nat} (A : Ar ys ps c G R) : 0 < G := by
  have := A.GR
  have := A.hc
  have := Int.mul_le_mul_of_nonneg_right (show (2 : Int) ≤ R by have := A.R2; omega) (show 0 ≤ c by omega)
  omega
theorem Ar.div {ys ps : List Int} {c G : Int} {R : Nat} (A : Ar ys ps c G R) : G / c = R := by
  rw [A.GR, Int.mul_ediv_cancel _ (by have := A.hc; omega)]
theorem Ar.R64 {ys ps : List Int} {c G : Int} {R : Nat} (A : Ar ys ps c G R) : R ≤ 64 := by
  have h1 := A.GR
  have h2 := A.hG2
  have h3 := A.hc
  have := Int.mul_le_mul_of_nonneg_left (show 1 ≤ c by omega) (show (0 : Int) ≤ R by omega)
  omega
theorem Ar.N448 {ys ps : List Int} {c G : Int} {R : Nat} (A : Ar ys ps c G R) : (plI ys ps G).length ≤ 448 := by
  rw [plI_len]
  have q := Int.ediv_le_self G (a := lastI ys) (by have := A.hs.lastp; omega)
  have lp := A.hs.lastp
  exact Nat.mul_le_mul A.hp.2.2.1 (show (lastI ys / G).toNat ≤ 64 by omega)
theorem Ar.mo {ys ps : List Int} {c G : Int} {R : Nat} (A : Ar ys ps c G R) : mulOk ((plI ys ps G).length : Int) (R : Int) = true :=
  mulOk_s (big (by omega) (by have := A.N448; omega)) (big (by omega) (by have := A.R64; omega))
theorem Ar.lg {ys ps : List Int} {c G : Int} {R : Nat} (A : Ar ys ps c G R) : c.natAbs.log2 < 9000 := log_s A.hc (by have := A.hc2; omega)
end Zk32
end
section
set_option pp.maxSteps 1500
set_option Elab.async false
set_option linter.all false
set_option maxRecDepth 100000
set_option maxHeartbeats 4000000
namespace Zk32
open PySem PySem.Spec PyProof.Rows L2 DS
theorem blkM_len {m4 : List PyData → PyData} {c : Int} {bs : List (Int × Int)} (h : bs.length ≤ 500) : (bs.map (blk m4 c)).length ≤ 1000 := by rw [List.length_map]; omega
/-- the foe's request while it fills -/
theorem req_take {m1 m2 m3 m4 : List PyData → PyData} (h1 : Seq m1) (h2 : Seq m2) (h3 : Seq m3) (h4 : Seq m4) {ys ps : List Int} {c G : Int} {R : Nat} (A : Ar ys ps c G R) {bs : List (Int × Int)} (h : Pic ys ps c bs) (hl : bs.length * c.toNat ≤ 800) {t : Nat} (ht : t < (plI ys ps G).length * R) :
    m_foe_request [.d (m1 (dl ys)), .d (m2 (dl ps)), .d (.int t), .d (m3 (bs.map (blk m4 c)))] = .ok (.dat (.tuple [.str "take", .int c])) [.d (m1 (dl ys)), .d (m2 (dl ps)), .d (.int t), .d (m3 (bs.map (blk m4 c)))] := by
  have e1 := A.ar h1 h2
  have e2 := A.fm h1 h2
  have e3 := check_picture_eq h1 h2 h3 h4 A.hs A.hp A.hc A.hc2 A.hd A.hcy h hl
  have dv := A.div
  have lg := A.lg
  have mo := A.mo
  have hc := A.hc
  have nb := A.N448
  have t1 : ¬ ((plI ys ps G).length : Int) * R + R + 1 ≤ t := by
    have : ((((plI ys ps G).length * R : Nat)) : Int) = (plI ys ps G).length * R := by simp
    omega
  have t2 : (t : Int) < ((plI ys ps G).length : Int) * R := by
    have : ((((plI ys ps G).length * R : Nat)) : Int) = (plI ys ps G).length * R := by simp
    omega
  have t0 : (0 : Int) ≤ t := by omega
  generalize plI ys ps G = P at e1 e2 mo nb t1 t2
  generalize m3 (bs.map (blk m4 c)) = V at e3 ⊢
  generalize bs.map (blk .tuple c) = O at e3
  generalize m1 (dl ys) = Y at e1 e2 e3 ⊢
  generalize m2 (dl ps) = Z at e1 e2 e3 ⊢
  unfold m_foe_request bodyF
  simp [g_foe_request, e1, e2, e3, is_number_eq, isNum, t1, t2, t0, lg, hc, dv, mo, dl_len, sl2, nb, DS.bodyF, DS.okArgs, DS.finR, DS.mSeq, DS.sq, DS.bnd, DS.ret, DS.bad, DS.mSet, DS.mSetO, DS.keepD, DS.mVar, DS.mC, DS.mOp2, DS.mOp1, DS.mCB, DS.opD, DS.op1D, DS.opnD, DS.RV.data, DS.datas, DS.mNil, DS.mCons, DS.dAdd, DS.dSub, DS.dMul, DS.dDiv, DS.dMod, DS.dPow, DS.dNeg, DS.dLt, DS.dLe, DS.dGt, DS.dGe, DS.dLen, DS.dTuple, DS.dList, DS.dAbs, DS.dInt, DS.dMax2, DS.dMin2, DS.asB, DS.mT, DS.mNot, DS.mAnd, DS.mOr, DS.datB, DS.mAndV, DS.mOrV, DS.mNotV, DS.mIf, DS.dats, DS.dspD, DS.mTup, DS.mLst, DS.ownL, DS.mLstO, DS.mChain, DS.mNx, DS.mBrk, DS.mCt, DS.mAug, DS.aug2, DS.dAddI, DS.mRet, DS.mRetO, DS.mRetN, DS.mIte, DS.mApp, DS.app2, DS.isOL, DS.mSetL, DS.setL2, DS.gN, DS.gA0, DS.gA, DS.gT, DS.bindD, DS.mAsg, DS.itemsD, DS.mIt, DS.mEnum, DS.mFor, DS.svsOf, DS.slotsOf, DS.RV.sv, DS.callD, DS.roD, DS.roO, DS.mCall, DS.mCallO, DS.mIsi, DS.dIsi, DS.kindOf, DS.notOwn, DS.mRaise, DS.mSl, DS.optI, DS.dSl, DS.mPar, DS.par2, DS.R.bnd_ok, DS.R.bnd_er, DS.R.bnd_bad, DS.wb, DS.mYes, DS.isNon, DS.dIs, DS.dIsNot, ite_ap, rr1, rr2, rr3, rr4, lg8209]
theorem req_last {m1 m2 m3 m4 : List PyData → PyData} (h1 : Seq m1) (h2 : Seq m2) (h3 : Seq m3) (h4 : Seq m4) {ys ps : List Int} {c G : Int} {R : Nat} (A : Ar ys ps c G R) {bs : List (Int × Int)} (h : Pic ys ps c bs) (hl : bs.length * c.toNat ≤ 800) {t : Nat} (ht : t = (plI ys ps G).length * R + R) :
    m_foe_request [.d (m1 (dl ys)), .d (m2 (dl ps)), .d (.int t), .d (m3 (bs.map (blk m4 c)))] = .ok (.dat (.tuple [.str "take", .int G])) [.d (m1 (dl ys)), .d (m2 (dl ps)), .d (.int t), .d (m3 (bs.map (blk m4 c)))] := by
  have e1 := A.ar h1 h2
  have e2 := A.fm h1 h2
  have e3 := check_picture_eq h1 h2 h3 h4 A.hs A.hp A.hc A.hc2 A.hd A.hcy h hl
  have dv := A.div
  have lg := A.lg
  have mo := A.mo
  have hc := A.hc
  have nb := A.N448
  have q : ((((plI ys ps G).length * R : Nat)) : Int) = (plI ys ps G).length * R := by simp
  have t1 : ¬ ((plI ys ps G).length : Int) * R + R + 1 ≤ t := by omega
  have t2 : ¬ (t : Int) < ((plI ys ps G).length : Int) * R := by omega
  have t3 : ¬ (t : Int) < ((plI ys ps G).length : Int) * R + R := by omega
  have t0 : (0 : Int) ≤ t := by omega
  clear q
  generalize plI ys ps G = P at e1 e2 mo nb t1 t2 t3
  generalize m3 (bs.map (blk m4 c)) = V at e3 ⊢
  generalize bs.map (blk .tuple c) = O at e3
  generalize m1 (dl ys) = Y at e1 e2 e3 ⊢
  generalize m2 (dl ps) = Z at e1 e2 e3 ⊢
  unfold m_foe_request bodyF
  simp [g_foe_request, e1, e2, e3, is_number_eq, isNum, t1, t2, t3, t0, lg, hc, dv, mo, dl_len, sl2, nb, DS.bodyF, DS.okArgs, DS.finR, DS.mSeq, DS.sq, DS.bnd, DS.ret, DS.bad, DS.mSet, DS.mSetO, DS.keepD, DS.mVar, DS.mC, DS.mOp2, DS.mOp1, DS.mCB, DS.opD, DS.op1D, DS.opnD, DS.RV.data, DS.datas, DS.mNil, DS.mCons, DS.dAdd, DS.dSub, DS.dMul, DS.dDiv, DS.dMod, DS.dPow, DS.dNeg, DS.dLt, DS.dLe, DS.dGt, DS.dGe, DS.dLen, DS.dTuple, DS.dList, DS.dAbs, DS.dInt, DS.dMax2, DS.dMin2, DS.asB, DS.mT, DS.mNot, DS.mAnd, DS.mOr, DS.datB, DS.mAndV, DS.mOrV, DS.mNotV, DS.mIf, DS.dats, DS.dspD, DS.mTup, DS.mLst, DS.ownL, DS.mLstO, DS.mChain, DS.mNx, DS.mBrk, DS.mCt, DS.mAug, DS.aug2, DS.dAddI, DS.mRet, DS.mRetO, DS.mRetN, DS.mIte, DS.mApp, DS.app2, DS.isOL, DS.mSetL, DS.setL2, DS.gN, DS.gA0, DS.gA, DS.gT, DS.bindD, DS.mAsg, DS.itemsD, DS.mIt, DS.mEnum, DS.mFor, DS.svsOf, DS.slotsOf, DS.RV.sv, DS.callD, DS.roD, DS.roO, DS.mCall, DS.mCallO, DS.mIsi, DS.dIsi, DS.kindOf, DS.notOwn, DS.mRaise, DS.mSl, DS.optI, DS.dSl, DS.mPar, DS.par2, DS.R.bnd_ok, DS.R.bnd_er, DS.R.bnd_bad, DS.wb, DS.mYes, DS.isNon, DS.dIs, DS.dIsNot, ite_ap, rr1, rr2, rr3, rr4, lg8209]
def ith (P : List Int) (i : Nat) : Int := P[i]?.getD 0
/-- which great unit is given back from -/
def pk (P : List Int) (s : Nat) : Int := if s = 0 then ith P 0 else ith P 1
theorem at_01 {P : List Int} (h : 2 ≤ P.length) : atI (dl P) 0 = some (.int (ith P 0)) ∧ atI (dl P) 1 = some (.int (ith P 1)) := by
  have a := dl_at (ys := P) (i := 0) (by omega)
  have b := dl_at (ys := P) (i := 1) (by omega)
  unfold ith
  rw [List.getElem?_eq_getElem (by omega), List.getElem?_eq_getElem (by omega)]
  exact ⟨a, b⟩
theorem req_give {m1 m2 m3 m4 : List PyData → PyData} (h1 : Seq m1) (h2 : Seq m2) (h3 : Seq m3) (h4 : Seq m4) {ys ps : List Int} {c G : Int} {R : Nat} (A : Ar ys ps c G R) {bs : List (Int × Int)} (h : Pic ys ps c bs) (hl : bs.length * c.toNat ≤ 800) {s : Nat} (hs : s < R)
    {w : Int × Int} (hw : w ∈ bs) (w1 : pk (plI ys ps G) s ≤ w.2) (w2 : w.2 < pk (plI ys ps G) s + G) (hx : ∀ b ∈ bs, pk (plI ys ps G) s ≤ b.2 → b = w ∨ w.2 < b.2) {t : Nat} (ht : t = (plI ys ps G).length * R + s) :
    m_foe_request [.d (m1 (dl ys)), .d (m2 (dl ps)), .d (.int t), .d (m3 (bs.map (blk m4 c)))] = .ok (.dat (.tuple [.str "give", .int w.1])) [.d (m1 (dl ys)), .d (m2 (dl ps)), .d (.int t), .d (m3 (bs.map (blk m4 c)))] := by
  have e1 := A.ar h1 h2
  have e2 := A.fm h1 h2
  have e3 := check_picture_eq h1 h2 h3 h4 A.hs A.hp A.hc A.hc2 A.hd A.hcy h hl
  have e4 := least_in_eq (c := c) (p := pk (plI ys ps G) s) (G := G) (by have := h.len; omega) hw w1 w2 hx
  obtain ⟨i0, i1⟩ := at_01 A.P2
  have dv := A.div
  have lg := A.lg
  have mo := A.mo
  have hc := A.hc
  have nb := A.N448
  have q : ((((plI ys ps G).length * R : Nat)) : Int) = (plI ys ps G).length * R := by simp
  have t1 : ¬ ((plI ys ps G).length : Int) * R + R + 1 ≤ t := by omega
  have t2 : ¬ (t : Int) < ((plI ys ps G).length : Int) * R := by omega
  have t3 : (t : Int) < ((plI ys ps G).length : Int) * R + R := by omega
  have t0 : (0 : Int) ≤ t := by omega
  have t4 : decide ((t : Int) = ((plI ys ps G).length : Int) * R) = decide (s = 0) := by
    by_cases z : s = 0
    · rw [decide_eq_true z, decide_eq_true (by omega)]
    · rw [decide_eq_false z, decide_eq_false (by omega)]
  clear q w1 w2 hx ht
  generalize plI ys ps G = P at e1 e2 e4 mo nb t1 t2 t3 t4 i0 i1
  generalize m3 (bs.map (blk m4 c)) = V at e3 ⊢
  generalize bs.map (blk .tuple c) = O at e3 e4
  generalize m1 (dl ys) = Y at e1 e2 e3 ⊢
  generalize m2 (dl ps) = Z at e1 e2 e3 ⊢
  unfold m_foe_request bodyF
  by_cases z : s = 0
  · rw [decide_eq_true z, decide_eq_true_eq] at t4
    have t5 := iff_true_intro t4
    clear t4
    have ez : pk P s = ith P 0 := by unfold pk; rw [if_pos z]
    rw [ez] at e4
    simp [g_foe_request, e1, e2, e3, e4, is_number_eq, isNum, t1, t2, t3, t0, lg, hc, dv, mo, dl_len, sl2, nb, dIx, i0, i1, dEq, dEqB, t5, DS.bodyF, DS.okArgs, DS.finR, DS.mSeq, DS.sq, DS.bnd, DS.ret, DS.bad, DS.mSet, DS.mSetO, DS.keepD, DS.mVar, DS.mC, DS.mOp2, DS.mOp1, DS.mCB, DS.opD, DS.op1D, DS.opnD, DS.RV.data, DS.datas, DS.mNil, DS.mCons, DS.dAdd, DS.dSub, DS.dMul, DS.dDiv, DS.dMod, DS.dPow, DS.dNeg, DS.dLt, DS.dLe, DS.dGt, DS.dGe, DS.dLen, DS.dTuple, DS.dList, DS.dAbs, DS.dInt, DS.dMax2, DS.dMin2, DS.asB, DS.mT, DS.mNot, DS.mAnd, DS.mOr, DS.datB, DS.mAndV, DS.mOrV, DS.mNotV, DS.mIf, DS.dats, DS.dspD, DS.mTup, DS.mLst, DS.ownL, DS.mLstO, DS.mChain, DS.mNx, DS.mBrk, DS.mCt, DS.mAug, DS.aug2, DS.dAddI, DS.mRet, DS.mRetO, DS.mRetN, DS.mIte, DS.mApp, DS.app2, DS.isOL, DS.mSetL, DS.setL2, DS.gN, DS.gA0, DS.gA, DS.gT, DS.bindD, DS.mAsg, DS.itemsD, DS.mIt, DS.mEnum, DS.mFor, DS.svsOf, DS.slotsOf, DS.RV.sv, DS.callD, DS.roD, DS.roO, DS.mCall, DS.mCallO, DS.mIsi, DS.dIsi, DS.kindOf, DS.notOwn, DS.mRaise, DS.mSl, DS.optI, DS.dSl, DS.mPar, DS.par2, DS.R.bnd_ok, DS.R.bnd_er, DS.R.bnd_bad, DS.wb, DS.mYes, DS.isNon, DS.dIs, DS.dIsNot, ite_ap, rr1, rr2, rr3, rr4, lg8209]
  · rw [decide_eq_false z, decide_eq_false_iff_not] at t4
    have ez : pk P s = ith P 1 := by unfold pk; rw [if_neg z]
    rw [ez] at e4
    simp [g_foe_request, e1, e2, e3, e4, is_number_eq, isNum, t1, t2, t3, t0, lg, hc, dv, mo, dl_len, sl2, nb, dIx, i0, i1, dEq, dEqB, t4, DS.bodyF, DS.okArgs, DS.finR, DS.mSeq, DS.sq, DS.bnd, DS.ret, DS.bad, DS.mSet, DS.mSetO, DS.keepD, DS.mVar, DS.mC, DS.mOp2, DS.mOp1, DS.mCB, DS.opD, DS.op1D, DS.opnD, DS.RV.data, DS.datas, DS.mNil, DS.mCons, DS.dAdd, DS.dSub, DS.dMul, DS.dDiv, DS.dMod, DS.dPow, DS.dNeg, DS.dLt, DS.dLe, DS.dGt, DS.dGe, DS.dLen, DS.dTuple, DS.dList, DS.dAbs, DS.dInt, DS.dMax2, DS.dMin2, DS.asB, DS.mT, DS.mNot, DS.mAnd, DS.mOr, DS.datB, DS.mAndV, DS.mOrV, DS.mNotV, DS.mIf, DS.dats, DS.dspD, DS.mTup, DS.mLst, DS.ownL, DS.mLstO, DS.mChain, DS.mNx, DS.mBrk, DS.mCt, DS.mAug, DS.aug2, DS.dAddI, DS.mRet, DS.mRetO, DS.mRetN, DS.mIte, DS.mApp, DS.app2, DS.isOL, DS.mSetL, DS.setL2, DS.gN, DS.gA0, DS.gA, DS.gT, DS.bindD, DS.mAsg, DS.itemsD, DS.mIt, DS.mEnum, DS.mFor, DS.svsOf, DS.slotsOf, DS.RV.sv, DS.callD, DS.roD, DS.roO, DS.mCall, DS.mCallO, DS.mIsi, DS.dIsi, DS.kindOf, DS.notOwn, DS.mRaise, DS.mSl, DS.optI, DS.dSl, DS.mPar, DS.par2, DS.R.bnd_ok, DS.R.bnd_er, DS.R.bnd_bad, DS.wb, DS.mYes, DS.isNon, DS.dIs, DS.dIsNot, ite_ap, rr1, rr2, rr3, rr4, lg8209]
theorem req_none {m1 m2 : List PyData → PyData} (h1 : Seq m1) (h2 : Seq m2) {ys ps : List Int} {c G : Int} {R : Nat} (A : Ar ys ps c G R) {t : Nat} (ht : t = (plI ys ps G).length * R ∨ t = (plI ys ps G).length * R + 1) :
    m_foe_request [.d (m1 (dl ys)), .d (m2 (dl ps)), .d (.int t), .d (.tuple [])] = .er ⟨"Refused", "value", .tuple []⟩ [.d (m1 (dl ys)), .d (m2 (dl ps)), .d (.int t), .d (.tuple [])] := by
  have e1 := A.ar h1 h2
  have e2 := A.fm h1 h2
  have e3 := check_picture_eq h1 h2 (m3 := .tuple) (m4 := .tuple) (.inr rfl) (.inr rfl) A.hs A.hp A.hc A.hc2 A.hd A.hcy (bs := []) ⟨by simp, by simp, .nil, by simp, .nil⟩ (by simp)
  simp only [List.map_nil] at e3
  have e4 := fun p => least_in_none p G
  obtain ⟨i0, i1⟩ := at_01 A.P2
  have dv := A.div
  have lg := A.lg
  have mo := A.mo
  have hc := A.hc
  have nb := A.N448
  have r2 := A.R2
  have q : ((((plI ys ps G).length * R : Nat)) : Int) = (plI ys ps G).length * R := by simp
  have t1 : ¬ ((plI ys ps G).length : Int) * R + R + 1 ≤ t := by omega
  have t2 : ¬ (t : Int) < ((plI ys ps G).length : Int) * R := by omega
  have t3 : (t : Int) < ((plI ys ps G).length : Int) * R + R := by omega
  have t0 : (0 : Int) ≤ t := by omega
  clear q ht
  generalize plI ys ps G = P at e1 e2 mo nb t1 t2 t3 i0 i1
  generalize m1 (dl ys) = Y at e1 e2 e3 ⊢
  generalize m2 (dl ps) = Z at e1 e2 e3 ⊢
  unfold m_foe_request bodyF
  by_cases z : (t : Int) = (P.length : Int) * R
  · have t5 := iff_true_intro z
    clear z
    simp [g_foe_request, e1, e2, e3, e4, is_number_eq, isNum, t1, t2, t3, t0, lg, hc, dv, mo, dl_len, sl2, nb, dIx, i0, i1, dEq, dEqB, t5, dIs, DS.bodyF, DS.okArgs, DS.finR, DS.mSeq, DS.sq, DS.bnd, DS.ret, DS.bad, DS.mSet, DS.mSetO, DS.keepD, DS.mVar, DS.mC, DS.mOp2, DS.mOp1, DS.mCB, DS.opD, DS.op1D, DS.opnD, DS.RV.data, DS.datas, DS.mNil, DS.mCons, DS.dAdd, DS.dSub, DS.dMul, DS.dDiv, DS.dMod, DS.dPow, DS.dNeg, DS.dLt, DS.dLe, DS.dGt, DS.dGe, DS.dLen, DS.dTuple, DS.dList, DS.dAbs, DS.dInt, DS.dMax2, DS.dMin2, DS.asB, DS.mT, DS.mNot, DS.mAnd, DS.mOr, DS.datB, DS.mAndV, DS.mOrV, DS.mNotV, DS.mIf, DS.dats, DS.dspD, DS.mTup, DS.mLst, DS.ownL, DS.mLstO, DS.mChain, DS.mNx, DS.mBrk, DS.mCt, DS.mAug, DS.aug2, DS.dAddI, DS.mRet, DS.mRetO, DS.mRetN, DS.mIte, DS.mApp, DS.app2, DS.isOL, DS.mSetL, DS.setL2, DS.gN, DS.gA0, DS.gA, DS.gT, DS.bindD, DS.mAsg, DS.itemsD, DS.mIt, DS.mEnum, DS.mFor, DS.svsOf, DS.slotsOf, DS.RV.sv, DS.callD, DS.roD, DS.roO, DS.mCall, DS.mCallO, DS.mIsi, DS.dIsi, DS.kindOf, DS.notOwn, DS.mRaise, DS.mSl, DS.optI, DS.dSl, DS.mPar, DS.par2, DS.R.bnd_ok, DS.R.bnd_er, DS.R.bnd_bad, DS.wb, DS.mYes, DS.isNon, DS.dIs, DS.dIsNot, ite_ap, rr1, rr2, rr3, rr4, lg8209]
  · simp [g_foe_request, e1, e2, e3, e4, is_number_eq, isNum, t1, t2, t3, t0, lg, hc, dv, mo, dl_len, sl2, nb, dIx, i0, i1, dEq, dEqB, z, dIs, DS.bodyF, DS.okArgs, DS.finR, DS.mSeq, DS.sq, DS.bnd, DS.ret, DS.bad, DS.mSet, DS.mSetO, DS.keepD, DS.mVar, DS.mC, DS.mOp2, DS.mOp1, DS.mCB, DS.opD, DS.op1D, DS.opnD, DS.RV.data, DS.datas, DS.mNil, DS.mCons, DS.dAdd, DS.dSub, DS.dMul, DS.dDiv, DS.dMod, DS.dPow, DS.dNeg, DS.dLt, DS.dLe, DS.dGt, DS.dGe, DS.dLen, DS.dTuple, DS.dList, DS.dAbs, DS.dInt, DS.dMax2, DS.dMin2, DS.asB, DS.mT, DS.mNot, DS.mAnd, DS.mOr, DS.datB, DS.mAndV, DS.mOrV, DS.mNotV, DS.mIf, DS.dats, DS.dspD, DS.mTup, DS.mLst, DS.ownL, DS.mLstO, DS.mChain, DS.mNx, DS.mBrk, DS.mCt, DS.mAug, DS.aug2, DS.dAddI, DS.mRet, DS.mRetO, DS.mRetN, DS.mIte, DS.mApp, DS.app2, DS.isOL, DS.mSetL, DS.setL2, DS.gN, DS.gA0, DS.gA, DS.gT, DS.bindD, DS.mAsg, DS.itemsD, DS.mIt, DS.mEnum, DS.mFor, DS.svsOf, DS.slotsOf, DS.RV.sv, DS.callD, DS.roD, DS.roO, DS.mCall, DS.mCallO, DS.mIsi, DS.dIsi, DS.kindOf, DS.notOwn, DS.mRaise, DS.mSl, DS.optI, DS.dSl, DS.mPar, DS.par2, DS.R.bnd_ok, DS.R.bnd_er, DS.R.bnd_bad, DS.wb, DS.mYes, DS.isNon, DS.dIs, DS.dIsNot, ite_ap, rr1, rr2, rr3, rr4, lg8209]
/-- turns that are none -/
theorem req_badT {m1 m2 : List PyData → PyData} (h1 : Seq m1) (h2 : Seq m2) {ys ps : List Int} {c G : Int} {R : Nat} (A : Ar ys ps c G R) {x : PyData} (hx : isNum x = false ∨ x = .int ((plI ys ps G).length * R + R + 1)) (v : PyData) :
    m_foe_request [.d (m1 (dl ys)), .d (m2 (dl ps)), .d x, .d v] = .er ⟨"Refused", "value", x⟩ [.d (m1 (dl ys)), .d (m2 (dl ps)), .d x, .d v] := by
  have e1 := A.ar h1 h2
  have e2 := A.fm h1 h2
  have q : ((((plI ys ps G).length * R : Nat)) : Int) = (plI ys ps G).length * R := by simp
  have t0 : (0 : Int) ≤ ((plI ys ps G).length : Int) * R + R + 1 := by omega
  clear q
  generalize plI ys ps G = P at e1 e2 hx t0
  generalize m1 (dl ys) = Y at e1 e2 ⊢
  generalize m2 (dl ps) = Z at e1 e2 ⊢
  unfold m_foe_request bodyF
  rcases hx with hx | rfl
  · simp [g_foe_request, e1, is_number_eq, hx, DS.bodyF, DS.okArgs, DS.finR, DS.mSeq, DS.sq, DS.bnd, DS.ret, DS.bad, DS.mSet, DS.mSetO, DS.keepD, DS.mVar, DS.mC, DS.mOp2, DS.mOp1, DS.mCB, DS.opD, DS.op1D, DS.opnD, DS.RV.data, DS.datas, DS.mNil, DS.mCons, DS.dAdd, DS.dSub, DS.dMul, DS.dDiv, DS.dMod, DS.dPow, DS.dNeg, DS.dLt, DS.dLe, DS.dGt, DS.dGe, DS.dLen, DS.dTuple, DS.dList, DS.dAbs, DS.dInt, DS.dMax2, DS.dMin2, DS.asB, DS.mT, DS.mNot, DS.mAnd, DS.mOr, DS.datB, DS.mAndV, DS.mOrV, DS.mNotV, DS.mIf, DS.dats, DS.dspD, DS.mTup, DS.mLst, DS.ownL, DS.mLstO, DS.mChain, DS.mNx, DS.mBrk, DS.mCt, DS.mAug, DS.aug2, DS.dAddI, DS.mRet, DS.mRetO, DS.mRetN, DS.mIte, DS.mApp, DS.app2, DS.isOL, DS.mSetL, DS.setL2, DS.gN, DS.gA0, DS.gA, DS.gT, DS.bindD, DS.mAsg, DS.itemsD, DS.mIt, DS.mEnum, DS.mFor, DS.svsOf, DS.slotsOf, DS.RV.sv, DS.callD, DS.roD, DS.roO, DS.mCall, DS.mCallO, DS.mIsi, DS.dIsi, DS.kindOf, DS.notOwn, DS.mRaise, DS.mSl, DS.optI, DS.dSl, DS.mPar, DS.par2, DS.R.bnd_ok, DS.R.bnd_er, DS.R.bnd_bad, DS.wb, DS.mYes, DS.isNon, DS.dIs, DS.dIsNot, ite_ap, rr1, rr2, rr3, rr4, lg8209]
  · simp [g_foe_request, e1, e2, is_number_eq, isNum, t0, DS.bodyF, DS.okArgs, DS.finR, DS.mSeq, DS.sq, DS.bnd, DS.ret, DS.bad, DS.mSet, DS.mSetO, DS.keepD, DS.mVar, DS.mC, DS.mOp2, DS.mOp1, DS.mCB, DS.opD, DS.op1D, DS.opnD, DS.RV.data, DS.datas, DS.mNil, DS.mCons, DS.dAdd, DS.dSub, DS.dMul, DS.dDiv, DS.dMod, DS.dPow, DS.dNeg, DS.dLt, DS.dLe, DS.dGt, DS.dGe, DS.dLen, DS.dTuple, DS.dList, DS.dAbs, DS.dInt, DS.dMax2, DS.dMin2, DS.asB, DS.mT, DS.mNot, DS.mAnd, DS.mOr, DS.datB, DS.mAndV, DS.mOrV, DS.mNotV, DS.mIf, DS.dats, DS.dspD, DS.mTup, DS.mLst, DS.ownL, DS.mLstO, DS.mChain, DS.mNx, DS.mBrk, DS.mCt, DS.mAug, DS.aug2, DS.dAddI, DS.mRet, DS.mRetO, DS.mRetN, DS.mIte, DS.mApp, DS.app2, DS.isOL, DS.mSetL, DS.setL2, DS.gN, DS.gA0, DS.gA, DS.gT, DS.bindD, DS.mAsg, DS.itemsD, DS.mIt, DS.mEnum, DS.mFor, DS.svsOf, DS.slotsOf, DS.RV.sv, DS.callD, DS.roD, DS.roO, DS.mCall, DS.mCallO, DS.mIsi, DS.dIsi, DS.kindOf, DS.notOwn, DS.mRaise, DS.mSl, DS.optI, DS.dSl, DS.mPar, DS.par2, DS.R.bnd_ok, DS.R.bnd_er, DS.R.bnd_bad, DS.wb, DS.mYes, DS.isNon, DS.dIs, DS.dIsNot, ite_ap, rr1, rr2, rr3, rr4, lg8209]
/-- pictures that are none -/
theorem req_badP {m1 m2 : List PyData → PyData} (h1 : Seq m1) (h2 : Seq m2) {ys ps : List Int} {c G : Int} {R : Nat} (A : Ar ys ps c G R) {v : PyData} {a : Int} (hv : m_check_picture [.d (m1 (dl ys)), .d (m2 (dl ps)), .d v] = .er ⟨"BadPicture", "at", .int a⟩ [.d (m1 (dl ys)), .d (m2 (dl ps)), .d v]) :
    m_foe_request [.d (m1 (dl ys)), .d (m2 (dl ps)), .d (.int 0), .d v] = .er ⟨"BadPicture", "at", .int a⟩ [.d (m1 (dl ys)), .d (m2 (dl ps)), .d (.int 0), .d v] := by
  have e1 := A.ar h1 h2
  have e2 := A.fm h1 h2
  have q : ((((plI ys ps G).length * R : Nat)) : Int) = (plI ys ps G).length * R := by simp
  have t1 : ¬ ((plI ys ps G).length : Int) * R + R + 1 ≤ 0 := by omega
  clear q
  generalize plI ys ps G = P at e1 e2 t1
  generalize m1 (dl ys) = Y at e1 e2 hv ⊢
  generalize m2 (dl ps) = Z at e1 e2 hv ⊢
  unfold m_foe_request bodyF
  simp [g_foe_request, e1, e2, hv, is_number_eq, isNum, t1, DS.bodyF, DS.okArgs, DS.finR, DS.mSeq, DS.sq, DS.bnd, DS.ret, DS.bad, DS.mSet, DS.mSetO, DS.keepD, DS.mVar, DS.mC, DS.mOp2, DS.mOp1, DS.mCB, DS.opD, DS.op1D, DS.opnD, DS.RV.data, DS.datas, DS.mNil, DS.mCons, DS.dAdd, DS.dSub, DS.dMul, DS.dDiv, DS.dMod, DS.dPow, DS.dNeg, DS.dLt, DS.dLe, DS.dGt, DS.dGe, DS.dLen, DS.dTuple, DS.dList, DS.dAbs, DS.dInt, DS.dMax2, DS.dMin2, DS.asB, DS.mT, DS.mNot, DS.mAnd, DS.mOr, DS.datB, DS.mAndV, DS.mOrV, DS.mNotV, DS.mIf, DS.dats, DS.dspD, DS.mTup, DS.mLst, DS.ownL, DS.mLstO, DS.mChain, DS.mNx, DS.mBrk, DS.mCt, DS.mAug, DS.aug2, DS.dAddI, DS.mRet, DS.mRetO, DS.mRetN, DS.mIte, DS.mApp, DS.app2, DS.isOL, DS.mSetL, DS.setL2, DS.gN, DS.gA0, DS.gA, DS.gT, DS.bindD, DS.mAsg, DS.itemsD, DS.mIt, DS.mEnum, DS.mFor, DS.svsOf, DS.slotsOf, DS.RV.sv, DS.callD, DS.roD, DS.roO, DS.mCall, DS.mCallO, DS.mIsi, DS.dIsi, DS.kindOf, DS.notOwn, DS.mRaise, DS.mSl, DS.optI, DS.dSl, DS.mPar, DS.par2, DS.R.bnd_ok, DS.R.bnd_er, DS.R.bnd_bad, DS.wb, DS.mYes, DS.isNon, DS.dIs, DS.dIsNot, ite_ap, rr1, rr2, rr3, rr4, lg8209]
end Zk32
end
section
set_option pp.maxSteps 1500
set_option Elab.async false
set_option linter.all false
set_option maxRecDepth 100000
set_option maxHeartbeats 4000000
namespace Zk32
open PySem PySem.Spec PyProof.Rows L2 DS
theorem rr5 : List.range 5 = [0, 1, 2, 3, 4] := rfl
theorem due_lc {c p : Int} {bs : List (Int × Int)} (hl : bs.length ≤ 900) (s0 s1 s2 s3 s5 : SV) : (mLC (mIt (mVar 4)) (gT 3 (gA (gN 8) (gA (gN 9) (gA (gN 10) gA0)))) (mT (mOp2 dGe (mVar 10) (mVar 6))) (mTup (mCons (mVar 10) (mCons (mVar 8) mNil))) [8, 9, 10]) [s0, s1, s2, s3, .d (.list (bs.map (blk .tuple c))), s5, .d (.int p), .un, .un, .un, .un] = .ok (.dat (.list (((bs.filter fun b => decide (p ≤ b.2)).map sw).map pD))) [s0, s1, s2, s3, .d (.list (bs.map (blk .tuple c))), s5, .d (.int p), .un, .un, .un, .un] := by
  rw [← picks (fun a => decide (p ≤ a)) c bs]
  refine mLC_g (ρw := [s0, s1, s2, s3, .d (.list (bs.map (blk .tuple c))), s5, .d (.int p), .un, .un, .un, .un]) (items := bs.map (blk .tuple c)) (tB fun a => decide (p ≤ a)) fB (by simp [DS.bodyF, DS.okArgs, DS.finR, DS.mSeq, DS.sq, DS.bnd, DS.ret, DS.bad, DS.mSet, DS.mSetO, DS.keepD, DS.mVar, DS.mC, DS.mOp2, DS.mOp1, DS.mCB, DS.opD, DS.op1D, DS.opnD, DS.RV.data, DS.datas, DS.mNil, DS.mCons, DS.dAdd, DS.dSub, DS.dMul, DS.dDiv, DS.dMod, DS.dPow, DS.dNeg, DS.dLt, DS.dLe, DS.dGt, DS.dGe, DS.dLen, DS.dTuple, DS.dList, DS.dAbs, DS.dInt, DS.dMax2, DS.dMin2, DS.asB, DS.mT, DS.mNot, DS.mAnd, DS.mOr, DS.datB, DS.mAndV, DS.mOrV, DS.mNotV, DS.mIf, DS.dats, DS.dspD, DS.mTup, DS.mLst, DS.ownL, DS.mLstO, DS.mChain, DS.mNx, DS.mBrk, DS.mCt, DS.mAug, DS.aug2, DS.dAddI, DS.mRet, DS.mRetO, DS.mRetN, DS.mIte, DS.mApp, DS.app2, DS.isOL, DS.mSetL, DS.setL2, DS.gN, DS.gA0, DS.gA, DS.gT, DS.bindD, DS.mAsg, DS.itemsD, DS.mIt, DS.mEnum, DS.mFor, DS.svsOf, DS.slotsOf, DS.RV.sv, DS.callD, DS.roD, DS.roO, DS.mCall, DS.mCallO, DS.mIsi, DS.dIsi, DS.kindOf, DS.notOwn, DS.mRaise, DS.mSl, DS.optI, DS.dSl, DS.mPar, DS.par2, DS.R.bnd_ok, DS.R.bnd_er, DS.R.bnd_bad, DS.wb, DS.mYes, DS.isNon, DS.dIs, DS.dIsNot, ite_ap, rr1, rr2, rr3, rr4, lg8209]) rfl rfl rfl (by rw [List.length_map]; omega) (fun z hz => ?_)
  obtain ⟨b, _, rfl⟩ := List.mem_map.mp hz
  refine ⟨[s0, s1, s2, s3, .d (.list (bs.map (blk .tuple c))), s5, .d (.int p), .un, .d (.int b.1), .d (.int c), .d (.int b.2)], by simp [blk, DS.bodyF, DS.okArgs, DS.finR, DS.mSeq, DS.sq, DS.bnd, DS.ret, DS.bad, DS.mSet, DS.mSetO, DS.keepD, DS.mVar, DS.mC, DS.mOp2, DS.mOp1, DS.mCB, DS.opD, DS.op1D, DS.opnD, DS.RV.data, DS.datas, DS.mNil, DS.mCons, DS.dAdd, DS.dSub, DS.dMul, DS.dDiv, DS.dMod, DS.dPow, DS.dNeg, DS.dLt, DS.dLe, DS.dGt, DS.dGe, DS.dLen, DS.dTuple, DS.dList, DS.dAbs, DS.dInt, DS.dMax2, DS.dMin2, DS.asB, DS.mT, DS.mNot, DS.mAnd, DS.mOr, DS.datB, DS.mAndV, DS.mOrV, DS.mNotV, DS.mIf, DS.dats, DS.dspD, DS.mTup, DS.mLst, DS.ownL, DS.mLstO, DS.mChain, DS.mNx, DS.mBrk, DS.mCt, DS.mAug, DS.aug2, DS.dAddI, DS.mRet, DS.mRetO, DS.mRetN, DS.mIte, DS.mApp, DS.app2, DS.isOL, DS.mSetL, DS.setL2, DS.gN, DS.gA0, DS.gA, DS.gT, DS.bindD, DS.mAsg, DS.itemsD, DS.mIt, DS.mEnum, DS.mFor, DS.svsOf, DS.slotsOf, DS.RV.sv, DS.callD, DS.roD, DS.roO, DS.mCall, DS.mCallO, DS.mIsi, DS.dIsi, DS.kindOf, DS.notOwn, DS.mRaise, DS.mSl, DS.optI, DS.dSl, DS.mPar, DS.par2, DS.R.bnd_ok, DS.R.bnd_er, DS.R.bnd_bad, DS.wb, DS.mYes, DS.isNon, DS.dIs, DS.dIsNot, ite_ap, rr1, rr2, rr3, rr4, lg8209], ?_, fun _ => ?_, rfl⟩
  · by_cases c1 : p ≤ b.2 <;> simp [tB, blk, c1, DS.bodyF, DS.okArgs, DS.finR, DS.mSeq, DS.sq, DS.bnd, DS.ret, DS.bad, DS.mSet, DS.mSetO, DS.keepD, DS.mVar, DS.mC, DS.mOp2, DS.mOp1, DS.mCB, DS.opD, DS.op1D, DS.opnD, DS.RV.data, DS.datas, DS.mNil, DS.mCons, DS.dAdd, DS.dSub, DS.dMul, DS.dDiv, DS.dMod, DS.dPow, DS.dNeg, DS.dLt, DS.dLe, DS.dGt, DS.dGe, DS.dLen, DS.dTuple, DS.dList, DS.dAbs, DS.dInt, DS.dMax2, DS.dMin2, DS.asB, DS.mT, DS.mNot, DS.mAnd, DS.mOr, DS.datB, DS.mAndV, DS.mOrV, DS.mNotV, DS.mIf, DS.dats, DS.dspD, DS.mTup, DS.mLst, DS.ownL, DS.mLstO, DS.mChain, DS.mNx, DS.mBrk, DS.mCt, DS.mAug, DS.aug2, DS.dAddI, DS.mRet, DS.mRetO, DS.mRetN, DS.mIte, DS.mApp, DS.app2, DS.isOL, DS.mSetL, DS.setL2, DS.gN, DS.gA0, DS.gA, DS.gT, DS.bindD, DS.mAsg, DS.itemsD, DS.mIt, DS.mEnum, DS.mFor, DS.svsOf, DS.slotsOf, DS.RV.sv, DS.callD, DS.roD, DS.roO, DS.mCall, DS.mCallO, DS.mIsi, DS.dIsi, DS.kindOf, DS.notOwn, DS.mRaise, DS.mSl, DS.optI, DS.dSl, DS.mPar, DS.par2, DS.R.bnd_ok, DS.R.bnd_er, DS.R.bnd_bad, DS.wb, DS.mYes, DS.isNon, DS.dIs, DS.dIsNot, ite_ap, rr1, rr2, rr3, rr4, lg8209]
  · simp [fB, blk, sl2, DS.bodyF, DS.okArgs, DS.finR, DS.mSeq, DS.sq, DS.bnd, DS.ret, DS.bad, DS.mSet, DS.mSetO, DS.keepD, DS.mVar, DS.mC, DS.mOp2, DS.mOp1, DS.mCB, DS.opD, DS.op1D, DS.opnD, DS.RV.data, DS.datas, DS.mNil, DS.mCons, DS.dAdd, DS.dSub, DS.dMul, DS.dDiv, DS.dMod, DS.dPow, DS.dNeg, DS.dLt, DS.dLe, DS.dGt, DS.dGe, DS.dLen, DS.dTuple, DS.dList, DS.dAbs, DS.dInt, DS.dMax2, DS.dMin2, DS.asB, DS.mT, DS.mNot, DS.mAnd, DS.mOr, DS.datB, DS.mAndV, DS.mOrV, DS.mNotV, DS.mIf, DS.dats, DS.dspD, DS.mTup, DS.mLst, DS.ownL, DS.mLstO, DS.mChain, DS.mNx, DS.mBrk, DS.mCt, DS.mAug, DS.aug2, DS.dAddI, DS.mRet, DS.mRetO, DS.mRetN, DS.mIte, DS.mApp, DS.app2, DS.isOL, DS.mSetL, DS.setL2, DS.gN, DS.gA0, DS.gA, DS.gT, DS.bindD, DS.mAsg, DS.itemsD, DS.mIt, DS.mEnum, DS.mFor, DS.svsOf, DS.slotsOf, DS.RV.sv, DS.callD, DS.roD, DS.roO, DS.mCall, DS.mCallO, DS.mIsi, DS.dIsi, DS.kindOf, DS.notOwn, DS.mRaise, DS.mSl, DS.optI, DS.dSl, DS.mPar, DS.par2, DS.R.bnd_ok, DS.R.bnd_er, DS.R.bnd_bad, DS.wb, DS.mYes, DS.isNon, DS.dIs, DS.dIsNot, ite_ap, rr1, rr2, rr3, rr4, lg8209]
theorem due_take {ys ps : List Int} {c G : Int} {R : Nat} (A : Ar ys ps c G R) {t : Nat} (ht : t < (plI ys ps G).length * R) (v : PyData) :
    m__law_due [.d (.int c), .d (.int G), .d (.tuple (dl (plI ys ps G))), .d (.int t), .d v] = .ok (.dat (.tuple [.str "take", .int c])) [.d (.int c), .d (.int G), .d (.tuple (dl (plI ys ps G))), .d (.int t), .d v] := by
  have dv := A.div
  have lg := A.lg
  have mo := A.mo
  have hc := A.hc
  have t2 : (t : Int) < ((plI ys ps G).length : Int) * R := by
    have : ((((plI ys ps G).length * R : Nat)) : Int) = (plI ys ps G).length * R := by simp
    omega
  have nb := A.N448
  generalize plI ys ps G = P at mo t2 nb ⊢
  unfold m__law_due bodyF
  simp [g__law_due, rr5, t2, lg, hc, dv, mo, dl_len, sl2, nb, DS.bodyF, DS.okArgs, DS.finR, DS.mSeq, DS.sq, DS.bnd, DS.ret, DS.bad, DS.mSet, DS.mSetO, DS.keepD, DS.mVar, DS.mC, DS.mOp2, DS.mOp1, DS.mCB, DS.opD, DS.op1D, DS.opnD, DS.RV.data, DS.datas, DS.mNil, DS.mCons, DS.dAdd, DS.dSub, DS.dMul, DS.dDiv, DS.dMod, DS.dPow, DS.dNeg, DS.dLt, DS.dLe, DS.dGt, DS.dGe, DS.dLen, DS.dTuple, DS.dList, DS.dAbs, DS.dInt, DS.dMax2, DS.dMin2, DS.asB, DS.mT, DS.mNot, DS.mAnd, DS.mOr, DS.datB, DS.mAndV, DS.mOrV, DS.mNotV, DS.mIf, DS.dats, DS.dspD, DS.mTup, DS.mLst, DS.ownL, DS.mLstO, DS.mChain, DS.mNx, DS.mBrk, DS.mCt, DS.mAug, DS.aug2, DS.dAddI, DS.mRet, DS.mRetO, DS.mRetN, DS.mIte, DS.mApp, DS.app2, DS.isOL, DS.mSetL, DS.setL2, DS.gN, DS.gA0, DS.gA, DS.gT, DS.bindD, DS.mAsg, DS.itemsD, DS.mIt, DS.mEnum, DS.mFor, DS.svsOf, DS.slotsOf, DS.RV.sv, DS.callD, DS.roD, DS.roO, DS.mCall, DS.mCallO, DS.mIsi, DS.dIsi, DS.kindOf, DS.notOwn, DS.mRaise, DS.mSl, DS.optI, DS.dSl, DS.mPar, DS.par2, DS.R.bnd_ok, DS.R.bnd_er, DS.R.bnd_bad, DS.wb, DS.mYes, DS.isNon, DS.dIs, DS.dIsNot, ite_ap, rr1, rr2, rr3, rr4, lg8209]
theorem due_last {ys ps : List Int} {c G : Int} {R : Nat} (A : Ar ys ps c G R) {t : Nat} (ht : t = (plI ys ps G).length * R + R) (v : PyData) :
    m__law_due [.d (.int c), .d (.int G), .d (.tuple (dl (plI ys ps G))), .d (.int t), .d v] = .ok (.dat (.tuple [.str "take", .int G])) [.d (.int c), .d (.int G), .d (.tuple (dl (plI ys ps G))), .d (.int t), .d v] := by
  have dv := A.div
  have lg := A.lg
  have mo := A.mo
  have hc := A.hc
  have q : ((((plI ys ps G).length * R : Nat)) : Int) = (plI ys ps G).length * R := by simp
  have t2 : ¬ (t : Int) < ((plI ys ps G).length : Int) * R := by omega
  have t3 : (t : Int) = ((plI ys ps G).length : Int) * R + R := by omega
  have nb := A.N448
  clear q ht
  generalize plI ys ps G = P at mo t2 t3 nb ⊢
  have t5 := iff_true_intro t3
  clear t3
  unfold m__law_due bodyF
  simp [g__law_due, rr5, t2, t5, lg, hc, dv, mo, dl_len, sl2, nb, dEq, dEqB, DS.bodyF, DS.okArgs, DS.finR, DS.mSeq, DS.sq, DS.bnd, DS.ret, DS.bad, DS.mSet, DS.mSetO, DS.keepD, DS.mVar, DS.mC, DS.mOp2, DS.mOp1, DS.mCB, DS.opD, DS.op1D, DS.opnD, DS.RV.data, DS.datas, DS.mNil, DS.mCons, DS.dAdd, DS.dSub, DS.dMul, DS.dDiv, DS.dMod, DS.dPow, DS.dNeg, DS.dLt, DS.dLe, DS.dGt, DS.dGe, DS.dLen, DS.dTuple, DS.dList, DS.dAbs, DS.dInt, DS.dMax2, DS.dMin2, DS.asB, DS.mT, DS.mNot, DS.mAnd, DS.mOr, DS.datB, DS.mAndV, DS.mOrV, DS.mNotV, DS.mIf, DS.dats, DS.dspD, DS.mTup, DS.mLst, DS.ownL, DS.mLstO, DS.mChain, DS.mNx, DS.mBrk, DS.mCt, DS.mAug, DS.aug2, DS.dAddI, DS.mRet, DS.mRetO, DS.mRetN, DS.mIte, DS.mApp, DS.app2, DS.isOL, DS.mSetL, DS.setL2, DS.gN, DS.gA0, DS.gA, DS.gT, DS.bindD, DS.mAsg, DS.itemsD, DS.mIt, DS.mEnum, DS.mFor, DS.svsOf, DS.slotsOf, DS.RV.sv, DS.callD, DS.roD, DS.roO, DS.mCall, DS.mCallO, DS.mIsi, DS.dIsi, DS.kindOf, DS.notOwn, DS.mRaise, DS.mSl, DS.optI, DS.dSl, DS.mPar, DS.par2, DS.R.bnd_ok, DS.R.bnd_er, DS.R.bnd_bad, DS.wb, DS.mYes, DS.isNon, DS.dIs, DS.dIsNot, ite_ap, rr1, rr2, rr3, rr4, lg8209]
theorem due_give {ys ps : List Int} {c G : Int} {R : Nat} (A : Ar ys ps c G R) {bs : List (Int × Int)} (hl : bs.length ≤ 500) {s : Nat} (hs : s < R)
    {w : Int × Int} (hw : w ∈ bs) (w1 : pk (plI ys ps G) s ≤ w.2) (hx : ∀ b ∈ bs, pk (plI ys ps G) s ≤ b.2 → b = w ∨ w.2 < b.2) {t : Nat} (ht : t = (plI ys ps G).length * R + s) :
    m__law_due [.d (.int c), .d (.int G), .d (.tuple (dl (plI ys ps G))), .d (.int t), .d (.list (bs.map (blk .tuple c)))] = .ok (.dat (.tuple [.str "give", .int w.1])) [.d (.int c), .d (.int G), .d (.tuple (dl (plI ys ps G))), .d (.int t), .d (.list (bs.map (blk .tuple c)))] := by
  obtain ⟨i0, i1⟩ := at_01 A.P2
  have dv := A.div
  have lg := A.lg
  have mo := A.mo
  have hc := A.hc
  have nb := A.N448
  have q : ((((plI ys ps G).length * R : Nat)) : Int) = (plI ys ps G).length * R := by simp
  have t2 : ¬ (t : Int) < ((plI ys ps G).length : Int) * R := by omega
  have t3 : ¬ (t : Int) = ((plI ys ps G).length : Int) * R + R := by omega
  have t4 : decide ((t : Int) = ((plI ys ps G).length : Int) * R) = decide (s = 0) := by
    by_cases z : s = 0
    · rw [decide_eq_true z, decide_eq_true (by omega)]
    · rw [decide_eq_false z, decide_eq_false (by omega)]
  clear q ht
  have lc := due_lc (c := c) (p := pk (plI ys ps G) s) (bs := bs) (by omega) (.d (.int c)) (.d (.int G)) (.d (.tuple (dl (plI ys ps G)))) (.d (.int t)) (.d (.int R))
  have hm : sw w ∈ (bs.filter fun b => decide (pk (plI ys ps G) s ≤ b.2)).map sw := List.mem_map.mpr ⟨w, List.mem_filter.mpr ⟨hw, by simp [w1]⟩, rfl⟩
  have ha : ∀ x ∈ (bs.filter fun b => decide (pk (plI ys ps G) s ≤ b.2)).map sw, x = sw w ∨ (sw w).1 < x.1 := fun x hm => by
    obtain ⟨b, hb, rfl⟩ := List.mem_map.mp hm
    obtain ⟨hb, q⟩ := List.mem_filter.mp hb
    simp at q
    rcases hx b hb q with z | z
    · exact .inl (by rw [z])
    · exact .inr z
  have len : ((bs.filter fun b => decide (pk (plI ys ps G) s ≤ b.2)).map sw).length ≤ 900 := by
    rw [List.length_map]
    exact Nat.le_trans (List.length_filter_le _ _) (by omega)
  generalize (bs.filter fun b => decide (pk (plI ys ps G) s ≤ b.2)).map sw = l at lc hm ha len
  obtain ⟨r, er⟩ := sortP_least hm ha
  have so : dSortP [.list (l.map pD)] = some (.list (pD (sw w) :: r.map pD)) := by
    have pm := pairs_map l
    show (match pairs? (l.map pD) with | some ps => (if ps.length ≤ sizeLine then some (PyData.list ((sortP ps).map pD)) else none) | none => none) = _
    rw [pm]
    dsimp only
    rw [if_pos (sl2 (by omega)), er]
    rfl
  have i3 : dIx (.list (pD (sw w) :: r.map pD)) (.int 0) = some (pD (sw w)) := by
    have := atI_at (xs := pD (sw w) :: r.map pD) (i := 0) (by simp)
    simpa [dIx] using this
  have i4 : dIx (pD (sw w)) (.int 1) = some (.int w.1) := rfl
  clear hx hm ha w1
  have l2 : (l.map pD).length ≤ 1000 := by rw [List.length_map]; omega
  have lo : (bs.map (blk .tuple c)).length ≤ 1000 := blkM_len hl
  generalize l.map pD = S at lc so l2
  generalize r.map pD = S' at so i3
  generalize pD (sw w) = d at so i3 i4
  generalize bs.map (blk .tuple c) = O at lc lo ⊢
  unfold m__law_due bodyF
  generalize (mLC (mIt (mVar 4)) (gT 3 (gA (gN 8) (gA (gN 9) (gA (gN 10) gA0)))) (mT (mOp2 dGe (mVar 10) (mVar 6))) (mTup (mCons (mVar 10) (mCons (mVar 8) mNil))) [8, 9, 10]) = lcm at lc ⊢
  generalize plI ys ps G = P at mo nb t2 t3 t4 i0 i1 lc ⊢
  by_cases z : s = 0
  · rw [decide_eq_true z, decide_eq_true_eq] at t4
    have t5 := iff_true_intro t4
    clear t4
    have ez : pk P s = ith P 0 := by unfold pk; rw [if_pos z]
    rw [ez] at lc
    simp only [dIx] at i3 i4
    simp [g__law_due, rr5, t2, t3, t5, lg, hc, dv, mo, dl_len, sl2, nb, dIx, i0, i1, i3, i4, lc, so, dEq, dEqB, DS.bodyF, DS.okArgs, DS.finR, DS.mSeq, DS.sq, DS.bnd, DS.ret, DS.bad, DS.mSet, DS.mSetO, DS.keepD, DS.mVar, DS.mC, DS.mOp2, DS.mOp1, DS.mCB, DS.opD, DS.op1D, DS.opnD, DS.RV.data, DS.datas, DS.mNil, DS.mCons, DS.dAdd, DS.dSub, DS.dMul, DS.dDiv, DS.dMod, DS.dPow, DS.dNeg, DS.dLt, DS.dLe, DS.dGt, DS.dGe, DS.dLen, DS.dTuple, DS.dList, DS.dAbs, DS.dInt, DS.dMax2, DS.dMin2, DS.asB, DS.mT, DS.mNot, DS.mAnd, DS.mOr, DS.datB, DS.mAndV, DS.mOrV, DS.mNotV, DS.mIf, DS.dats, DS.dspD, DS.mTup, DS.mLst, DS.ownL, DS.mLstO, DS.mChain, DS.mNx, DS.mBrk, DS.mCt, DS.mAug, DS.aug2, DS.dAddI, DS.mRet, DS.mRetO, DS.mRetN, DS.mIte, DS.mApp, DS.app2, DS.isOL, DS.mSetL, DS.setL2, DS.gN, DS.gA0, DS.gA, DS.gT, DS.bindD, DS.mAsg, DS.itemsD, DS.mIt, DS.mEnum, DS.mFor, DS.svsOf, DS.slotsOf, DS.RV.sv, DS.callD, DS.roD, DS.roO, DS.mCall, DS.mCallO, DS.mIsi, DS.dIsi, DS.kindOf, DS.notOwn, DS.mRaise, DS.mSl, DS.optI, DS.dSl, DS.mPar, DS.par2, DS.R.bnd_ok, DS.R.bnd_er, DS.R.bnd_bad, DS.wb, DS.mYes, DS.isNon, DS.dIs, DS.dIsNot, ite_ap, rr1, rr2, rr3, rr4, lg8209]
  · rw [decide_eq_false z, decide_eq_false_iff_not] at t4
    have ez : pk P s = ith P 1 := by unfold pk; rw [if_neg z]
    rw [ez] at lc
    simp only [dIx] at i3 i4
    simp [g__law_due, rr5, t2, t3, t4, lg, hc, dv, mo, dl_len, sl2, nb, dIx, i0, i1, i3, i4, lc, so, dEq, dEqB, DS.bodyF, DS.okArgs, DS.finR, DS.mSeq, DS.sq, DS.bnd, DS.ret, DS.bad, DS.mSet, DS.mSetO, DS.keepD, DS.mVar, DS.mC, DS.mOp2, DS.mOp1, DS.mCB, DS.opD, DS.op1D, DS.opnD, DS.RV.data, DS.datas, DS.mNil, DS.mCons, DS.dAdd, DS.dSub, DS.dMul, DS.dDiv, DS.dMod, DS.dPow, DS.dNeg, DS.dLt, DS.dLe, DS.dGt, DS.dGe, DS.dLen, DS.dTuple, DS.dList, DS.dAbs, DS.dInt, DS.dMax2, DS.dMin2, DS.asB, DS.mT, DS.mNot, DS.mAnd, DS.mOr, DS.datB, DS.mAndV, DS.mOrV, DS.mNotV, DS.mIf, DS.dats, DS.dspD, DS.mTup, DS.mLst, DS.ownL, DS.mLstO, DS.mChain, DS.mNx, DS.mBrk, DS.mCt, DS.mAug, DS.aug2, DS.dAddI, DS.mRet, DS.mRetO, DS.mRetN, DS.mIte, DS.mApp, DS.app2, DS.isOL, DS.mSetL, DS.setL2, DS.gN, DS.gA0, DS.gA, DS.gT, DS.bindD, DS.mAsg, DS.itemsD, DS.mIt, DS.mEnum, DS.mFor, DS.svsOf, DS.slotsOf, DS.RV.sv, DS.callD, DS.roD, DS.roO, DS.mCall, DS.mCallO, DS.mIsi, DS.dIsi, DS.kindOf, DS.notOwn, DS.mRaise, DS.mSl, DS.optI, DS.dSl, DS.mPar, DS.par2, DS.R.bnd_ok, DS.R.bnd_er, DS.R.bnd_bad, DS.wb, DS.mYes, DS.isNon, DS.dIs, DS.dIsNot, ite_ap, rr1, rr2, rr3, rr4, lg8209]
end Zk32
end
section
set_option pp.maxSteps 1500
set_option Elab.async false
set_option linter.all false
set_option maxRecDepth 100000
set_option maxHeartbeats 4000000
namespace Zk32
open PySem PySem.Spec PyProof.Rows L2 DS
/-! counting -/
theorem PgOk.lt {ps : List Int} (h : PgOk ps) : ∀ (j i : Nat) (hj : j < ps.length) (hi : i < j), ps[i] < ps[j]
  | j + 1, i, hj, hi => by
    have q := h.2.2 j hj
    by_cases e : i = j
    · subst e; exact q
    · exact Int.lt_trans (PgOk.lt h j i (Nat.lt_of_succ_lt hj) (Nat.lt_of_le_of_ne (Nat.le_of_lt_succ hi) e)) q
theorem plI_sorted {ys ps : List Int} (hs : SzOk ys) (hp : PgB ps) {z : Int} (hz : 0 < z) (hd : lastI ys % z = 0) : (plI ys ps z).Pairwise (· < ·) := by
  have lp := hs.lastp
  have q0 : lastI ys / z * z = lastI ys := Int.ediv_mul_cancel (Int.dvd_of_emod_eq_zero hd)
  unfold plI
  rw [List.pairwise_flatMap]
  refine ⟨fun p _ => ?_, ?_⟩
  · rw [List.pairwise_map]
    refine List.Pairwise.imp ?_ List.pairwise_lt_range
    intro a b hab
    have := Int.mul_lt_mul_of_pos_right (show (a : Int) < b by omega) hz
    omega
  · refine List.pairwise_iff_getElem.mpr fun i j hi hj hij => ?_
    have lt := hp.1.lt j i hj hij
    generalize ps[i] = a at lt
    generalize ps[j] = b at lt
    intro x hx y hy
    rw [List.mem_map] at hx hy
    obtain ⟨k, hk, rfl⟩ := hx
    obtain ⟨l, hl, rfl⟩ := hy
    rw [List.mem_range] at hk hl
    have h1 : ((k : Int) + 1) * z ≤ lastI ys / z * z := Int.mul_le_mul_of_nonneg_right (by omega) (by omega)
    rw [q0, Int.add_mul] at h1
    have h2 : (a + 1) * lastI ys ≤ b * lastI ys := Int.mul_le_mul_of_nonneg_right (by omega) (by omega)
    rw [Int.add_mul] at h2
    have h3 : (0 : Int) ≤ l * z := Int.mul_nonneg (by omega) (by omega)
    omega
theorem sub_len : ∀ {l m : List Int}, l.Nodup → (∀ x ∈ l, x ∈ m) → l.length ≤ m.length
  | [], _, _, _ => Nat.zero_le _
  | a :: l, m, hn, hs => by
    rw [List.nodup_cons] at hn
    have ha := hs a (.head _)
    have ih := sub_len (m := m.erase a) hn.2 fun x hx => (List.mem_erase_of_ne (fun z => hn.1 (by rw [← z]; exact hx))).mpr (hs x (.tail _ hx))
    rw [List.length_erase_of_mem ha] at ih
    have : 0 < m.length := List.length_pos_of_mem ha
    rw [List.length_cons]
    omega
theorem Ar.nodup {ys ps : List Int} {c G : Int} {R : Nat} (A : Ar ys ps c G R) : (plI ys ps c).Nodup := (plI_sorted A.hs A.hp A.hc A.hd).imp fun h => Int.ne_of_lt h
theorem Ar.Ulen {ys ps : List Int} {c G : Int} {R : Nat} (A : Ar ys ps c G R) : (plI ys ps c).length ≤ 448 ∧ (plI ys ps c).length * c.toNat ≤ 448 := by
  have lp := A.hs.lastp
  have q0 : lastI ys / c * c = lastI ys := Int.ediv_mul_cancel (Int.dvd_of_emod_eq_zero A.hd)
  have hc := A.hc
  have q := Int.ediv_le_self c (a := lastI ys) (by omega)
  have d0 : 0 ≤ lastI ys / c := Int.ediv_nonneg (by omega) (by omega)
  have h7 := A.hp.2.2.1
  rw [plI_len]
  refine ⟨Nat.mul_le_mul h7 (show (lastI ys / c).toNat ≤ 64 by omega), ?_⟩
  rw [Nat.mul_assoc, ← Int.toNat_mul d0 (by omega), q0]
  exact Nat.mul_le_mul h7 (show (lastI ys).toNat ≤ 64 by omega)
/-- no room is left but by a block -/
theorem fr_iff {c z u : Int} {bs : List (Int × Int)} (hz : 0 ≤ z) : fr (aKV c bs) z u = true ↔ ∀ x, u ≤ x → x < u + z → ∀ b ∈ bs, ¬ (b.2 ≤ x ∧ x < b.2 + c) := by
  unfold fr
  rw [decide_eq_true_eq, List.filter_eq_nil_iff]
  constructor
  · intro h x h1 h2 b hb q
    exact h x (rI_mem.mpr (by omega)) ((aKV_in c bs x).mpr ⟨b, hb, q⟩)
  · intro h x hx q
    obtain ⟨b, hb, q⟩ := (aKV_in c bs x).mp q
    have := rI_mem.mp hx
    exact h x this.1 (by omega) b hb q
structure Fill (ys ps : List Int) (c : Int) (t : Nat) (bs : List (Int × Int)) : Prop where
  pic : Pic ys ps c bs
  len : bs.length = t
  lt : ∀ b ∈ bs, b.1 < t
theorem fill0 (ys ps : List Int) (c : Int) : Fill ys ps c 0 [] := ⟨⟨by simp, by simp, .nil, by simp, .nil⟩, rfl, by simp⟩
section
variable {ys ps : List Int} {c G : Int} {R : Nat}
theorem Ar.uf (A : Ar ys ps c G R) {u : Int} (h : u ∈ plI ys ps c) : 0 ≤ u ∧ u ≤ 100000 ∧ u % c = 0 ∧ u / lastI ys ∈ ps := plI_facts A.hs A.hp A.hc A.hc2 A.hd h
theorem pl_len {bs : List (Int × Int)} (A : Ar ys ps c G R) (h : Pic ys ps c bs) : bs.length ≤ (plI ys ps c).length := by
  have := sub_len (l := bs.map (·.2)) (m := plI ys ps c) ((List.pairwise_map.mpr h.ne)) fun x hx => by
    obtain ⟨b, hb, rfl⟩ := List.mem_map.mp hx
    exact h.un b hb
  rwa [List.length_map] at this
theorem pic_cap {bs : List (Int × Int)} (A : Ar ys ps c G R) (h : Pic ys ps c bs) : bs.length * c.toNat ≤ 800 :=
  Nat.le_trans (Nat.mul_le_mul_right _ (pl_len A h)) (Nat.le_trans A.Ulen.2 (by decide))
theorem Fill.room {t : Nat} {bs : List (Int × Int)} (A : Ar ys ps c G R) (h : Fill ys ps c t bs) (ht : t < (plI ys ps c).length) : (plI ys ps c).filter (fr (aKV c bs) c) ≠ [] := by
  intro z
  rw [List.filter_eq_nil_iff] at z
  have : (plI ys ps c).length ≤ (bs.map (·.2)).length := sub_len A.nodup fun u hu => by
    apply Classical.byContradiction
    intro nu
    apply z u hu
    rw [fr_iff (by have := A.hc; omega)]
    intro x h1 h2 b hb q
    have ne : u ≠ b.2 := fun e => nu (by rw [e]; exact List.mem_map.mpr ⟨b, hb, rfl⟩)
    exact apart A.hc (A.uf hu).2.2.1 (A.uf (h.pic.un b hb)).2.2.1 ne h1 h2 q
  rw [List.length_map, h.len] at this
  omega
theorem Fill.step {t : Nat} {bs : List (Int × Int)} (A : Ar ys ps c G R) (h : Fill ys ps c t bs) (ht : t < (plI ys ps c).length) {u : Int} (hu : u ∈ (plI ys ps c).filter (fr (aKV c bs) c)) : Fill ys ps c (t + 1) (bs ++ [((t : Int), u)]) := by
  obtain ⟨hm, hf⟩ := List.mem_filter.mp hu
  rw [fr_iff (by have := A.hc; omega)] at hf
  have hc := A.hc
  have l4 := A.Ulen.1
  have hl := h.len
  refine ⟨⟨by rw [List.length_append]; simp; omega, fun b hb => ?_, ?_, fun b hb => ?_, ?_⟩, by rw [List.length_append, hl]; rfl, fun b hb => ?_⟩
  · rcases List.mem_append.mp hb with hb | hb
    · exact h.pic.hd b hb
    · have e : b = ((t : Int), u) := by simpa using hb
      subst e
      dsimp only
      omega
  · rw [List.pairwise_append]
    refine ⟨h.pic.asc, List.pairwise_singleton _ _, fun a ha b hb => ?_⟩
    have e : b = ((t : Int), u) := by simpa using hb
    subst e
    exact h.lt a ha
  · rcases List.mem_append.mp hb with hb | hb
    · exact h.pic.un b hb
    · have e : b = ((t : Int), u) := by simpa using hb
      subst e
      exact hm
  · rw [List.pairwise_append]
    refine ⟨h.pic.ne, List.pairwise_singleton _ _, fun a ha b hb => ?_⟩
    have e : b = ((t : Int), u) := by simpa using hb
    subst e
    intro q
    exact hf u (by omega) (by omega) a ha ⟨by omega, by dsimp only at q; omega⟩
  · rcases List.mem_append.mp hb with hb | hb
    · have := h.lt b hb; omega
    · have e : b = ((t : Int), u) := by simpa using hb
      subst e
      dsimp only
      omega
/-- which places are bare again -/
def Rem (P : List Int) (c : Int) (s : Nat) (u : Int) : Prop := 1 ≤ s ∧ (u = ith P 0 ∨ ∃ j : Nat, j + 1 < s ∧ u = ith P 1 + j * c)
/-- the place of the turn -/
def wp (P : List Int) (c : Int) (s : Nat) : Int := if s = 0 then ith P 0 else ith P 1 + ((s - 1 : Nat) : Int) * c
theorem rem_succ (P : List Int) (c : Int) (s : Nat) (u : Int) : Rem P c (s + 1) u ↔ Rem P c s u ∨ u = wp P c s := by
  unfold Rem wp
  constructor
  · rintro ⟨_, h | ⟨j, hj, e⟩⟩
    · by_cases z : s = 0
      · exact .inr (by rw [if_pos z]; exact h)
      · exact .inl ⟨by omega, .inl h⟩
    · by_cases z : j + 1 < s
      · exact .inl ⟨by omega, .inr ⟨j, z, e⟩⟩
      · refine .inr ?_
        rw [if_neg (by omega), show s - 1 = j by omega]
        exact e
  · rintro (⟨h1, h | ⟨j, hj, e⟩⟩ | h)
    · exact ⟨by omega, .inl h⟩
    · exact ⟨by omega, .inr ⟨j, by omega, e⟩⟩
    · by_cases z : s = 0
      · rw [if_pos z] at h; exact ⟨by omega, .inl h⟩
      · rw [if_neg z] at h; exact ⟨by omega, .inr ⟨s - 1, by omega, h⟩⟩
structure Give (ys ps : List Int) (c G : Int) (s : Nat) (bs : List (Int × Int)) : Prop where
  pic : Pic ys ps c bs
  len : bs.length + s = (plI ys ps c).length
  no : ∀ b ∈ bs, ¬ Rem (plI ys ps G) c s b.2
  all : ∀ u ∈ plI ys ps c, ¬ Rem (plI ys ps G) c s u → ∃ b ∈ bs, b.2 = u
theorem Fill.give {bs : List (Int × Int)} (A : Ar ys ps c G R) {t : Nat} (ht : t = (plI ys ps c).length) (h : Fill ys ps c t bs) : Give ys ps c G 0 bs := by
  refine ⟨h.pic, by rw [h.len, ht]; rfl, fun b _ z => absurd z.1 (by decide), fun u hu _ => ?_⟩
  apply Classical.byContradiction
  intro nu
  have : (u :: bs.map (·.2)).length ≤ (plI ys ps c).length := sub_len (by
    rw [List.nodup_cons]
    refine ⟨fun z => ?_, List.pairwise_map.mpr h.pic.ne⟩
    obtain ⟨b, hb, e⟩ := List.mem_map.mp z
    exact nu ⟨b, hb, e⟩) fun x hx => by
      rcases List.mem_cons.mp hx with e | hx
      · rw [e]; exact hu
      · obtain ⟨b, hb, rfl⟩ := List.mem_map.mp hx
        exact h.pic.un b hb
  rw [List.length_cons, List.length_map, h.len] at this
  omega
theorem same_h {bs : List (Int × Int)} (h : bs.Pairwise (fun a b => a.1 < b.1)) {a b : Int × Int} (ha : a ∈ bs) (hb : b ∈ bs) (e : a.1 = b.1) : a = b := by
  obtain ⟨i, hi, rfl⟩ := List.getElem_of_mem ha
  obtain ⟨j, hj, rfl⟩ := List.getElem_of_mem hb
  rw [List.pairwise_iff_getElem] at h
  rcases Nat.lt_trichotomy i j with q | q | q
  · have := h i j hi hj q; omega
  · subst q; rfl
  · have := h j i hj hi q; omega
theorem same_p {bs : List (Int × Int)} (h : bs.Pairwise (fun a b => a.2 ≠ b.2)) {a b : Int × Int} (ha : a ∈ bs) (hb : b ∈ bs) (e : a.2 = b.2) : a = b := by
  obtain ⟨i, hi, rfl⟩ := List.getElem_of_mem ha
  obtain ⟨j, hj, rfl⟩ := List.getElem_of_mem hb
  rw [List.pairwise_iff_getElem] at h
  rcases Nat.lt_trichotomy i j with q | q | q
  · exact absurd e (h i j hi hj q)
  · subst q; rfl
  · exact absurd e.symm (h j i hj hi q)
theorem drop_one {w : Int × Int} : ∀ {bs : List (Int × Int)}, bs.Pairwise (fun a b => a.1 < b.1) → w ∈ bs → (bs.filter fun b => decide (b.1 ≠ w.1)).length + 1 = bs.length
  | a :: bs, h, hw => by
    rw [List.pairwise_cons] at h
    rcases List.mem_cons.mp hw with e | hw'
    · subst e
      rw [List.filter_cons_of_neg (by simp)]
      rw [List.filter_eq_self.mpr fun b hb => by have := h.1 b hb; simp; omega]
      rfl
    · have := h.1 w hw'
      rw [List.filter_cons_of_pos (by simp; omega), List.length_cons, List.length_cons, drop_one h.2 hw']
end
end Zk32
end
section
set_option pp.maxSteps 1500
set_option Elab.async false
set_option linter.all false
set_option maxRecDepth 100000
set_option maxHeartbeats 4000000
namespace Zk32
open PySem PySem.Spec PyProof.Rows L2 DS
section
variable {ys ps : List Int} {c G : Int} {R : Nat}
theorem ith_mem {P : List Int} {i : Nat} (h : i < P.length) : ith P i ∈ P := by
  unfold ith
  rw [List.getElem?_eq_getElem h]
  exact List.getElem_mem h
theorem Ar.P01 (A : Ar ys ps c G R) : ith (plI ys ps G) 0 ∈ plI ys ps G ∧ ith (plI ys ps G) 1 ∈ plI ys ps G ∧ ith (plI ys ps G) 0 < ith (plI ys ps G) 1 := by
  have p2 := A.P2
  refine ⟨ith_mem (by omega), ith_mem (by omega), ?_⟩
  have := List.pairwise_iff_getElem.mp (plI_sorted A.hs A.hp A.G0 A.hdG) 0 1 (by omega) (by omega) (by omega)
  unfold ith
  rw [List.getElem?_eq_getElem (by omega), List.getElem?_eq_getElem (by omega)]
  exact this
/-- a great unit's place is a multiple of the great size; its small units are units -/
theorem Ar.great (A : Ar ys ps c G R) {p : Int} (h : p ∈ plI ys ps G) : (∃ m : Int, p = m * G) ∧ ∀ j : Nat, j < R → p + j * c ∈ plI ys ps c := by
  obtain ⟨q, hq, k, hk, rfl⟩ := plI_mem.mp h
  have lp := A.hs.lastp
  have g0 := A.G0
  have hc := A.hc
  have d1 : lastI ys / G * G = lastI ys := Int.ediv_mul_cancel (Int.dvd_of_emod_eq_zero A.hdG)
  have d2 : lastI ys / c * c = lastI ys := Int.ediv_mul_cancel (Int.dvd_of_emod_eq_zero A.hd)
  have n1 : 0 ≤ lastI ys / G := Int.ediv_nonneg (by omega) (by omega)
  refine ⟨⟨q * (lastI ys / G) + k, ?_⟩, fun j hj => ?_⟩
  · rw [Int.add_mul, Int.mul_assoc, d1]
  · refine plI_mem.mpr ⟨q, hq, k * R + j, ?_, ?_⟩
    · have e : lastI ys / c = lastI ys / G * R := by
        have : lastI ys = lastI ys / G * R * c := by rw [Int.mul_assoc, ← A.GR, d1]
        have w : lastI ys / c = (lastI ys / G * R * c) / c := by rw [← this]
        rw [w, Int.mul_ediv_cancel _ (by omega)]
      have h1 : ((k : Int) + 1) * R ≤ lastI ys / G * R := Int.mul_le_mul_of_nonneg_right (by omega) (by omega)
      rw [Int.add_mul] at h1
      have h2 : ((k * R + j : Nat) : Int) = (k : Int) * R + j := by simp
      omega
    · have gr := A.GR
      have h2 : ((k * R + j : Nat) : Int) = (k : Int) * R + j := by simp
      rw [h2, Int.add_mul, Int.mul_assoc, ← gr]
      omega
theorem mult {z x : Int} (h : x % z = 0) : ∃ m : Int, x = m * z := ⟨x / z, (Int.ediv_mul_cancel (Int.dvd_of_emod_eq_zero h)).symm⟩
theorem Ar.wp_in (A : Ar ys ps c G R) {s : Nat} (hs : s < R) : wp (plI ys ps G) c s ∈ plI ys ps c ∧ ¬ Rem (plI ys ps G) c s (wp (plI ys ps G) c s) := by
  obtain ⟨m0, m1, lt⟩ := A.P01
  have hc := A.hc
  unfold wp
  by_cases z : s = 0
  · rw [if_pos z]
    have := (A.great m0).2 0 (by omega)
    rw [show ith (plI ys ps G) 0 + ((0 : Nat) : Int) * c = ith (plI ys ps G) 0 by simp] at this
    exact ⟨this, fun r => by have := r.1; omega⟩
  · rw [if_neg z]
    refine ⟨(A.great m1).2 (s - 1) (by omega), ?_⟩
    rintro ⟨_, h | ⟨j, hj, e⟩⟩
    · have : (0 : Int) ≤ ((s - 1 : Nat) : Int) * c := Int.mul_nonneg (by omega) (by omega)
      omega
    · have := Int.mul_lt_mul_of_pos_right (show (j : Int) < ((s - 1 : Nat) : Int) by omega) hc
      omega
/-- the block that the turn gives back -/
theorem Give.turn {s : Nat} {bs : List (Int × Int)} (A : Ar ys ps c G R) (h : Give ys ps c G s bs) (hs : s < R) : ∃ w ∈ bs, w.2 = wp (plI ys ps G) c s ∧ pk (plI ys ps G) s ≤ w.2 ∧ w.2 < pk (plI ys ps G) s + G ∧ ∀ b ∈ bs, pk (plI ys ps G) s ≤ b.2 → b = w ∨ w.2 < b.2 := by
  obtain ⟨m0, m1, lt⟩ := A.P01
  have hc := A.hc
  have g0 := A.G0
  obtain ⟨i1, i2⟩ := A.wp_in hs
  obtain ⟨w, hw, ew⟩ := h.all _ i1 i2
  have key : ∀ b ∈ bs, pk (plI ys ps G) s ≤ b.2 → w.2 ≤ b.2 := fun b hb hp => by
    have ub := (A.uf (h.pic.un b hb)).2.2.1
    have nb := h.no b hb
    rw [ew]
    unfold wp
    unfold pk at hp
    by_cases z : s = 0
    · rw [if_pos z] at hp ⊢; exact hp
    · rw [if_neg z] at hp ⊢
      obtain ⟨⟨a, ea⟩, _⟩ := A.great m1
      obtain ⟨m, em⟩ := mult ub
      have e1 : ith (plI ys ps G) 1 = a * R * c := by rw [ea, Int.mul_assoc, ← A.GR]
      rcases Int.lt_or_le m (a * R + ((s - 1 : Nat) : Int)) with q | q
      · exfalso
        have q0 : a * R ≤ m := by
          rcases Int.lt_or_le m (a * R) with z | z
          · exfalso
            have := Int.mul_lt_mul_of_pos_right z hc
            omega
          · exact z
        refine nb ⟨by omega, .inr ⟨(m - a * R).toNat, by omega, ?_⟩⟩
        have t : (((m - a * R).toNat : Nat) : Int) = m - a * R := by omega
        rw [t, e1, em, Int.sub_mul]
        omega
      · have := Int.mul_le_mul_of_nonneg_right q (show 0 ≤ c by omega)
        rw [Int.add_mul] at this
        omega
  refine ⟨w, hw, ew, ?_, ?_, fun b hb hp => ?_⟩
  · rw [ew]
    unfold wp pk
    have : (0 : Int) ≤ ((s - 1 : Nat) : Int) * c := Int.mul_nonneg (by omega) (by omega)
    split <;> omega
  · rw [ew]
    unfold wp pk
    have : ((s - 1 : Nat) : Int) * c < R * c := Int.mul_lt_mul_of_pos_right (by omega) hc
    have gr := A.GR
    split <;> omega
  · have := key b hb hp
    rcases Int.lt_or_eq_of_le this with q | q
    · exact .inr q
    · exact .inl (same_p h.pic.ne hb hw q.symm)
theorem Give.step {s : Nat} {bs : List (Int × Int)} (A : Ar ys ps c G R) (h : Give ys ps c G s bs) {w : Int × Int} (hw : w ∈ bs) (ew : w.2 = wp (plI ys ps G) c s) : Give ys ps c G (s + 1) (bs.filter fun b => decide (b.1 ≠ w.1)) := by
  have d1 := drop_one h.pic.asc hw
  have hl := h.len
  have hp := h.pic.len
  refine ⟨⟨by omega, fun b hb => h.pic.hd b (List.mem_filter.mp hb).1, h.pic.asc.filter _, fun b hb => h.pic.un b (List.mem_filter.mp hb).1, h.pic.ne.filter _⟩, by omega, fun b hb r => ?_, fun u hu nr => ?_⟩
  · obtain ⟨hb, q⟩ := List.mem_filter.mp hb
    rw [decide_eq_true_eq] at q
    rcases (rem_succ _ _ _ _).mp r with r | r
    · exact h.no b hb r
    · exact q (by rw [same_p h.pic.ne hb hw (by rw [r, ew])])
  · rw [rem_succ] at nr
    obtain ⟨b, hb, e⟩ := h.all u hu fun r => nr (.inl r)
    refine ⟨b, List.mem_filter.mpr ⟨hb, decide_eq_true fun q => ?_⟩, e⟩
    have := same_h h.pic.asc hb hw q
    exact nr (.inr (by rw [← e, this, ew]))
/-- no great unit is left -/
theorem Give.none {bs : List (Int × Int)} (A : Ar ys ps c G R) (h : Give ys ps c G R bs) : (plI ys ps G).filter (fr (aKV c bs) G) = [] := by
  rw [List.filter_eq_nil_iff]
  intro p hp hf
  have hc := A.hc
  have g0 := A.G0
  have gr := A.GR
  have r2 := A.R2
  obtain ⟨m0, m1, lt⟩ := A.P01
  obtain ⟨⟨a, ea⟩, ha⟩ := A.great hp
  obtain ⟨⟨b0, eb0⟩, _⟩ := A.great m0
  obtain ⟨⟨b1, eb1⟩, _⟩ := A.great m1
  rw [fr_iff (by omega)] at hf
  have fin : ∀ j : Nat, j < R → ¬ Rem (plI ys ps G) c R (p + j * c) → False := fun j hj nr => by
    obtain ⟨b, hb, e⟩ := h.all _ (ha j hj) nr
    have q0 : (0 : Int) ≤ j * c := Int.mul_nonneg (by omega) (by omega)
    have q1 : (j : Int) * c < R * c := Int.mul_lt_mul_of_pos_right (by omega) hc
    exact hf (p + j * c) (by omega) (by omega) b hb (by omega)
  by_cases z : p = ith (plI ys ps G) 1
  · refine fin (R - 1) (by omega) ?_
    rintro ⟨_, h | ⟨j, hj, e⟩⟩
    · have : (0 : Int) ≤ ((R - 1 : Nat) : Int) * c := Int.mul_nonneg (by omega) (by omega)
      omega
    · have := Int.mul_lt_mul_of_pos_right (show (j : Int) < ((R - 1 : Nat) : Int) by omega) hc
      omega
  · refine fin 1 (by omega) ?_
    have canc : ∀ d k : Int, d * G = k * c → d * R = k := fun d k e => by
      rw [gr, ← Int.mul_assoc] at e
      exact Int.eq_of_mul_eq_mul_right (by omega) e
    have big : ∀ d : Int, d ≤ -1 → d * R ≤ -R := fun d hd => by
      have := Int.mul_le_mul_of_nonneg_right hd (show (0 : Int) ≤ R by omega)
      omega
    have big2 : ∀ d : Int, 1 ≤ d → (R : Int) ≤ d * R := fun d hd => by
      have := Int.mul_le_mul_of_nonneg_right hd (show (0 : Int) ≤ R by omega)
      omega
    rintro ⟨_, h | ⟨j, hj, e⟩⟩
    · have q := canc (b0 - a) 1 (by rw [Int.sub_mul]; omega)
      rcases Int.lt_trichotomy (b0 - a) 0 with y | y | y
      · have := big (b0 - a) (by omega); omega
      · rw [y] at q; omega
      · have := big2 (b0 - a) (by omega); omega
    · have q := canc (a - b1) ((j : Int) - 1) (by rw [Int.sub_mul, Int.sub_mul]; omega)
      rcases Int.lt_trichotomy (a - b1) 0 with y | y | y
      · have := big (a - b1) (by omega); omega
      · have : a = b1 := by omega
        exact z (by rw [ea, eb1, this])
      · have := big2 (a - b1) (by omega); omega
/-- the cells that are left -/
theorem Give.free {bs : List (Int × Int)} (A : Ar ys ps c G R) (h : Give ys ps c G R bs) : (ps.length : Int) * lastI ys - bs.length * c = G := by
  have hl := h.len
  have d2 : lastI ys / c * c = lastI ys := Int.ediv_mul_cancel (Int.dvd_of_emod_eq_zero A.hd)
  have lp := A.hs.lastp
  have d0 : 0 ≤ lastI ys / c := Int.ediv_nonneg (by omega) (by have := A.hc; omega)
  rw [plI_len] at hl
  have e : (ps.length : Int) * (lastI ys / c) = bs.length + R := by
    have : ((ps.length * (lastI ys / c).toNat : Nat) : Int) = (ps.length : Int) * (lastI ys / c) := by
      rw [Int.natCast_mul, Int.toNat_of_nonneg d0]
    omega
  have e2 : (ps.length : Int) * lastI ys = (bs.length + R) * c := by rw [← e, Int.mul_assoc, d2]
  rw [e2, Int.add_mul, A.GR]
  omega
end
end Zk32
end
section
set_option pp.maxSteps 1500
set_option Elab.async false
set_option linter.all false
set_option maxRecDepth 100000
set_option maxHeartbeats 4000000
namespace Zk32
open PySem PySem.Spec PyProof.Rows L2 DS
theorem rp_two {s : Str} (hs : s = "take" ∨ s = "give") {i : Int} (h : Sm i) : ∃ r, dRepr [.tuple [.str s, .int i]] = some (.str r) := by
  rcases hs with rfl | rfl <;> exact ⟨_, rp_of (by simp [PyData.showable, PyData.showableAll, h.log]) (by simp [PyData.depth, PyData.depthAll]) (by simp [PyData.leavesShort, PyData.leavesShortAll, h.short]; decide +kernel) (by simp [PyData.bulk, PyData.bulkAll]; decide +kernel)⟩
/-- a turn's parts -/
abbrev St (x0 x1 b : SV) (t : Nat) (x4 x5 : SV) (ys ps : List Int) (c G : Int) (P : List Int) (n : Int) (O : List PyData) (v : SV) : Rho := [x0, x1, b, .d (.int t), x4, x5, .d (.tuple (dl ys)), .d (.tuple (dl ps)), .d (.int c), .d (.int G), .d (.tuple (dl P)), .d (.int n), .d (.list O), v, .un, .un, .un, .un]
theorem st_req {ys ps P : List Int} {c G n : Int} {O : List PyData} {t : Nat} {d : PyData} (hl : O.length ≤ 1000) (e : m_foe_request [.d (.tuple (dl ys)), .d (.tuple (dl ps)), .d (.int t), .d (.tuple O)] = .ok (.dat d) [.d (.tuple (dl ys)), .d (.tuple (dl ps)), .d (.int t), .d (.tuple O)]) (x0 x1 b x4 x5 v : SV) :
    (mSet 13 (mCall m_foe_request (mCons (mVar 6) (mCons (mVar 7) (mCons (mVar 3) (mCons (mCB dTuple (mCons (mVar 12) mNil)) mNil)))))) (St x0 x1 b t x4 x5 ys ps c G P n O v) = .ok .nx (St x0 x1 b t x4 x5 ys ps c G P n O (.d d)) := by
  simp [e, sl2 hl, DS.bodyF, DS.okArgs, DS.finR, DS.mSeq, DS.sq, DS.bnd, DS.ret, DS.bad, DS.mSet, DS.mSetO, DS.keepD, DS.mVar, DS.mC, DS.mOp2, DS.mOp1, DS.mCB, DS.opD, DS.op1D, DS.opnD, DS.RV.data, DS.datas, DS.mNil, DS.mCons, DS.dAdd, DS.dSub, DS.dMul, DS.dDiv, DS.dMod, DS.dPow, DS.dNeg, DS.dLt, DS.dLe, DS.dGt, DS.dGe, DS.dLen, DS.dTuple, DS.dList, DS.dAbs, DS.dInt, DS.dMax2, DS.dMin2, DS.asB, DS.mT, DS.mNot, DS.mAnd, DS.mOr, DS.datB, DS.mAndV, DS.mOrV, DS.mNotV, DS.mIf, DS.dats, DS.dspD, DS.mTup, DS.mLst, DS.ownL, DS.mLstO, DS.mChain, DS.mNx, DS.mBrk, DS.mCt, DS.mAug, DS.aug2, DS.dAddI, DS.mRet, DS.mRetO, DS.mRetN, DS.mIte, DS.mApp, DS.app2, DS.isOL, DS.mSetL, DS.setL2, DS.gN, DS.gA0, DS.gA, DS.gT, DS.bindD, DS.mAsg, DS.itemsD, DS.mIt, DS.mEnum, DS.mFor, DS.svsOf, DS.slotsOf, DS.RV.sv, DS.callD, DS.roD, DS.roO, DS.mCall, DS.mCallO, DS.mIsi, DS.dIsi, DS.kindOf, DS.notOwn, DS.mRaise, DS.mSl, DS.optI, DS.dSl, DS.mPar, DS.par2, DS.R.bnd_ok, DS.R.bnd_er, DS.R.bnd_bad, DS.wb, DS.mYes, DS.isNon, DS.dIs, DS.dIsNot, ite_ap, rr1, rr2, rr3, rr4, lg8209]
theorem lists_lc {c : Int} {bs : List (Int × Int)} (hl : bs.length ≤ 900) {ys ps P : List Int} {c' G n : Int} {t : Nat} (x0 x1 b x4 x5 v : SV) :
    mLC (mIt (mVar 12)) (gN 14) mYes (mCB dList (mCons (mVar 14) mNil)) [14] (St x0 x1 b t x4 x5 ys ps c' G P n (bs.map (blk .tuple c)) v) = .ok (.dat (.list (bs.map (blk .list c)))) (St x0 x1 b t x4 x5 ys ps c' G P n (bs.map (blk .tuple c)) v) := by
  have g := mLC_g (mi := mIt (mVar 12)) (gm := gN 14) (mt := mYes) (me := mCB dList (mCons (mVar 14) mNil)) (vs := [14]) (ρ := St x0 x1 b t x4 x5 ys ps c' G P n (bs.map (blk .tuple c)) v) (ρw := St x0 x1 b t x4 x5 ys ps c' G P n (bs.map (blk .tuple c)) v) (items := bs.map (blk .tuple c)) (fun _ => true) (fun z => (dList [z]).getD .none) (by simp [DS.bodyF, DS.okArgs, DS.finR, DS.mSeq, DS.sq, DS.bnd, DS.ret, DS.bad, DS.mSet, DS.mSetO, DS.keepD, DS.mVar, DS.mC, DS.mOp2, DS.mOp1, DS.mCB, DS.opD, DS.op1D, DS.opnD, DS.RV.data, DS.datas, DS.mNil, DS.mCons, DS.dAdd, DS.dSub, DS.dMul, DS.dDiv, DS.dMod, DS.dPow, DS.dNeg, DS.dLt, DS.dLe, DS.dGt, DS.dGe, DS.dLen, DS.dTuple, DS.dList, DS.dAbs, DS.dInt, DS.dMax2, DS.dMin2, DS.asB, DS.mT, DS.mNot, DS.mAnd, DS.mOr, DS.datB, DS.mAndV, DS.mOrV, DS.mNotV, DS.mIf, DS.dats, DS.dspD, DS.mTup, DS.mLst, DS.ownL, DS.mLstO, DS.mChain, DS.mNx, DS.mBrk, DS.mCt, DS.mAug, DS.aug2, DS.dAddI, DS.mRet, DS.mRetO, DS.mRetN, DS.mIte, DS.mApp, DS.app2, DS.isOL, DS.mSetL, DS.setL2, DS.gN, DS.gA0, DS.gA, DS.gT, DS.bindD, DS.mAsg, DS.itemsD, DS.mIt, DS.mEnum, DS.mFor, DS.svsOf, DS.slotsOf, DS.RV.sv, DS.callD, DS.roD, DS.roO, DS.mCall, DS.mCallO, DS.mIsi, DS.dIsi, DS.kindOf, DS.notOwn, DS.mRaise, DS.mSl, DS.optI, DS.dSl, DS.mPar, DS.par2, DS.R.bnd_ok, DS.R.bnd_er, DS.R.bnd_bad, DS.wb, DS.mYes, DS.isNon, DS.dIs, DS.dIsNot, ite_ap, rr1, rr2, rr3, rr4, lg8209]) rfl rfl rfl (by rw [List.length_map]; omega) (fun z hz => by
    obtain ⟨q, _, rfl⟩ := List.mem_map.mp hz
    refine ⟨_, rfl, rfl, fun _ => ?_, rfl⟩
    simp [blk, sl2, DS.bodyF, DS.okArgs, DS.finR, DS.mSeq, DS.sq, DS.bnd, DS.ret, DS.bad, DS.mSet, DS.mSetO, DS.keepD, DS.mVar, DS.mC, DS.mOp2, DS.mOp1, DS.mCB, DS.opD, DS.op1D, DS.opnD, DS.RV.data, DS.datas, DS.mNil, DS.mCons, DS.dAdd, DS.dSub, DS.dMul, DS.dDiv, DS.dMod, DS.dPow, DS.dNeg, DS.dLt, DS.dLe, DS.dGt, DS.dGe, DS.dLen, DS.dTuple, DS.dList, DS.dAbs, DS.dInt, DS.dMax2, DS.dMin2, DS.asB, DS.mT, DS.mNot, DS.mAnd, DS.mOr, DS.datB, DS.mAndV, DS.mOrV, DS.mNotV, DS.mIf, DS.dats, DS.dspD, DS.mTup, DS.mLst, DS.ownL, DS.mLstO, DS.mChain, DS.mNx, DS.mBrk, DS.mCt, DS.mAug, DS.aug2, DS.dAddI, DS.mRet, DS.mRetO, DS.mRetN, DS.mIte, DS.mApp, DS.app2, DS.isOL, DS.mSetL, DS.setL2, DS.gN, DS.gA0, DS.gA, DS.gT, DS.bindD, DS.mAsg, DS.itemsD, DS.mIt, DS.mEnum, DS.mFor, DS.svsOf, DS.slotsOf, DS.RV.sv, DS.callD, DS.roD, DS.roO, DS.mCall, DS.mCallO, DS.mIsi, DS.dIsi, DS.kindOf, DS.notOwn, DS.mRaise, DS.mSl, DS.optI, DS.dSl, DS.mPar, DS.par2, DS.R.bnd_ok, DS.R.bnd_er, DS.R.bnd_bad, DS.wb, DS.mYes, DS.isNon, DS.dIs, DS.dIsNot, ite_ap, rr1, rr2, rr3, rr4, lg8209])
  rw [g, List.filter_eq_self.mpr fun _ _ => rfl, List.map_map]
  rfl
theorem st_req3 {ys ps P : List Int} {c c' G n : Int} {bs : List (Int × Int)} (hl : bs.length ≤ 900) {t : Nat} {d : PyData} (hy : ys.length ≤ 1000) (hp : ps.length ≤ 1000) (e : m_foe_request [.d (.list (dl ys)), .d (.list (dl ps)), .d (.int t), .d (.list (bs.map (blk .list c)))] = .ok (.dat d) [.d (.list (dl ys)), .d (.list (dl ps)), .d (.int t), .d (.list (bs.map (blk .list c)))]) (x0 x1 b x4 x5 : SV) :
    (mIte (mT (mOp2 dEq (mOp2 dMod (mVar 3) (mC (.int 3))) (mC (.int 0)))) (mSet 13 (mCallKE m_foe_request 0 4 [3, 2, 1, 0] mNil (mCons (mLC (mIt (mVar 12)) (gN 14) mYes (mCB dList (mCons (mVar 14) mNil)) [14]) (mCons (mVar 3) (mCons (mCB dList (mCons (mVar 7) mNil)) (mCons (mCB dList (mCons (mVar 6) mNil)) mNil)))))) mNx) (St x0 x1 b t x4 x5 ys ps c' G P n (bs.map (blk .tuple c)) (.d d)) = .ok .nx (St x0 x1 b t x4 x5 ys ps c' G P n (bs.map (blk .tuple c)) (.d d)) := by
  have lc := lists_lc (c := c) hl (ys := ys) (ps := ps) (P := P) (c' := c') (G := G) (n := n) (t := t) x0 x1 b x4 x5 (.d d)
  have lo : (bs.map (blk .list c)).length ≤ 1000 := by rw [List.length_map]; omega
  generalize mLC (mIt (mVar 12)) (gN 14) mYes (mCB dList (mCons (mVar 14) mNil)) [14] = lcm at lc ⊢
  generalize bs.map (blk .tuple c) = O at lc ⊢
  generalize bs.map (blk .list c) = O' at lc e lo
  by_cases z : (t : Int) % 3 = 0
  · simp [z, lc, e, mCallKE, mCallK, pickL, dl_len, sl2 hy, sl2 hp, dEq, dEqB, DS.bodyF, DS.okArgs, DS.finR, DS.mSeq, DS.sq, DS.bnd, DS.ret, DS.bad, DS.mSet, DS.mSetO, DS.keepD, DS.mVar, DS.mC, DS.mOp2, DS.mOp1, DS.mCB, DS.opD, DS.op1D, DS.opnD, DS.RV.data, DS.datas, DS.mNil, DS.mCons, DS.dAdd, DS.dSub, DS.dMul, DS.dDiv, DS.dMod, DS.dPow, DS.dNeg, DS.dLt, DS.dLe, DS.dGt, DS.dGe, DS.dLen, DS.dTuple, DS.dList, DS.dAbs, DS.dInt, DS.dMax2, DS.dMin2, DS.asB, DS.mT, DS.mNot, DS.mAnd, DS.mOr, DS.datB, DS.mAndV, DS.mOrV, DS.mNotV, DS.mIf, DS.dats, DS.dspD, DS.mTup, DS.mLst, DS.ownL, DS.mLstO, DS.mChain, DS.mNx, DS.mBrk, DS.mCt, DS.mAug, DS.aug2, DS.dAddI, DS.mRet, DS.mRetO, DS.mRetN, DS.mIte, DS.mApp, DS.app2, DS.isOL, DS.mSetL, DS.setL2, DS.gN, DS.gA0, DS.gA, DS.gT, DS.bindD, DS.mAsg, DS.itemsD, DS.mIt, DS.mEnum, DS.mFor, DS.svsOf, DS.slotsOf, DS.RV.sv, DS.callD, DS.roD, DS.roO, DS.mCall, DS.mCallO, DS.mIsi, DS.dIsi, DS.kindOf, DS.notOwn, DS.mRaise, DS.mSl, DS.optI, DS.dSl, DS.mPar, DS.par2, DS.R.bnd_ok, DS.R.bnd_er, DS.R.bnd_bad, DS.wb, DS.mYes, DS.isNon, DS.dIs, DS.dIsNot, ite_ap, rr1, rr2, rr3, rr4, lg8209]
  · simp [z, dEq, dEqB, DS.bodyF, DS.okArgs, DS.finR, DS.mSeq, DS.sq, DS.bnd, DS.ret, DS.bad, DS.mSet, DS.mSetO, DS.keepD, DS.mVar, DS.mC, DS.mOp2, DS.mOp1, DS.mCB, DS.opD, DS.op1D, DS.opnD, DS.RV.data, DS.datas, DS.mNil, DS.mCons, DS.dAdd, DS.dSub, DS.dMul, DS.dDiv, DS.dMod, DS.dPow, DS.dNeg, DS.dLt, DS.dLe, DS.dGt, DS.dGe, DS.dLen, DS.dTuple, DS.dList, DS.dAbs, DS.dInt, DS.dMax2, DS.dMin2, DS.asB, DS.mT, DS.mNot, DS.mAnd, DS.mOr, DS.datB, DS.mAndV, DS.mOrV, DS.mNotV, DS.mIf, DS.dats, DS.dspD, DS.mTup, DS.mLst, DS.ownL, DS.mLstO, DS.mChain, DS.mNx, DS.mBrk, DS.mCt, DS.mAug, DS.aug2, DS.dAddI, DS.mRet, DS.mRetO, DS.mRetN, DS.mIte, DS.mApp, DS.app2, DS.isOL, DS.mSetL, DS.setL2, DS.gN, DS.gA0, DS.gA, DS.gT, DS.bindD, DS.mAsg, DS.itemsD, DS.mIt, DS.mEnum, DS.mFor, DS.svsOf, DS.slotsOf, DS.RV.sv, DS.callD, DS.roD, DS.roO, DS.mCall, DS.mCallO, DS.mIsi, DS.dIsi, DS.kindOf, DS.notOwn, DS.mRaise, DS.mSl, DS.optI, DS.dSl, DS.mPar, DS.par2, DS.R.bnd_ok, DS.R.bnd_er, DS.R.bnd_bad, DS.wb, DS.mYes, DS.isNon, DS.dIs, DS.dIsNot, ite_ap, rr1, rr2, rr3, rr4, lg8209]
theorem st_cmp {ys ps P : List Int} {c G n : Int} {O : List PyData} {t : Nat} {d : PyData} {r : Str} (hr : dRepr [d] = some (.str r)) (e : m__law_due [.d (.int c), .d (.int G), .d (.tuple (dl P)), .d (.int t), .d (.list O)] = .ok (.dat d) [.d (.int c), .d (.int G), .d (.tuple (dl P)), .d (.int t), .d (.list O)]) (x0 x1 b x4 x5 : SV) :
    (mIte (mT (mOp2 dNe (mCB dRepr (mCons (mVar 13) mNil)) (mCB dRepr (mCons (mCall m__law_due (mCons (mVar 8) (mCons (mVar 9) (mCons (mVar 10) (mCons (mVar 3) (mCons (mVar 12) mNil)))))) mNil)))) (mRet (g := g_law) (mC (.bool false))) mNx) (St x0 x1 b t x4 x5 ys ps c G P n O (.d d)) = .ok .nx (St x0 x1 b t x4 x5 ys ps c G P n O (.d d)) := by
  refine ite_no (repr_no (x := d) ?_ ?_ hr)
  · simp [DS.bodyF, DS.okArgs, DS.finR, DS.mSeq, DS.sq, DS.bnd, DS.ret, DS.bad, DS.mSet, DS.mSetO, DS.keepD, DS.mVar, DS.mC, DS.mOp2, DS.mOp1, DS.mCB, DS.opD, DS.op1D, DS.opnD, DS.RV.data, DS.datas, DS.mNil, DS.mCons, DS.dAdd, DS.dSub, DS.dMul, DS.dDiv, DS.dMod, DS.dPow, DS.dNeg, DS.dLt, DS.dLe, DS.dGt, DS.dGe, DS.dLen, DS.dTuple, DS.dList, DS.dAbs, DS.dInt, DS.dMax2, DS.dMin2, DS.asB, DS.mT, DS.mNot, DS.mAnd, DS.mOr, DS.datB, DS.mAndV, DS.mOrV, DS.mNotV, DS.mIf, DS.dats, DS.dspD, DS.mTup, DS.mLst, DS.ownL, DS.mLstO, DS.mChain, DS.mNx, DS.mBrk, DS.mCt, DS.mAug, DS.aug2, DS.dAddI, DS.mRet, DS.mRetO, DS.mRetN, DS.mIte, DS.mApp, DS.app2, DS.isOL, DS.mSetL, DS.setL2, DS.gN, DS.gA0, DS.gA, DS.gT, DS.bindD, DS.mAsg, DS.itemsD, DS.mIt, DS.mEnum, DS.mFor, DS.svsOf, DS.slotsOf, DS.RV.sv, DS.callD, DS.roD, DS.roO, DS.mCall, DS.mCallO, DS.mIsi, DS.dIsi, DS.kindOf, DS.notOwn, DS.mRaise, DS.mSl, DS.optI, DS.dSl, DS.mPar, DS.par2, DS.R.bnd_ok, DS.R.bnd_er, DS.R.bnd_bad, DS.wb, DS.mYes, DS.isNon, DS.dIs, DS.dIsNot, ite_ap, rr1, rr2, rr3, rr4, lg8209]
  · simp [e, DS.bodyF, DS.okArgs, DS.finR, DS.mSeq, DS.sq, DS.bnd, DS.ret, DS.bad, DS.mSet, DS.mSetO, DS.keepD, DS.mVar, DS.mC, DS.mOp2, DS.mOp1, DS.mCB, DS.opD, DS.op1D, DS.opnD, DS.RV.data, DS.datas, DS.mNil, DS.mCons, DS.dAdd, DS.dSub, DS.dMul, DS.dDiv, DS.dMod, DS.dPow, DS.dNeg, DS.dLt, DS.dLe, DS.dGt, DS.dGe, DS.dLen, DS.dTuple, DS.dList, DS.dAbs, DS.dInt, DS.dMax2, DS.dMin2, DS.asB, DS.mT, DS.mNot, DS.mAnd, DS.mOr, DS.datB, DS.mAndV, DS.mOrV, DS.mNotV, DS.mIf, DS.dats, DS.dspD, DS.mTup, DS.mLst, DS.ownL, DS.mLstO, DS.mChain, DS.mNx, DS.mBrk, DS.mCt, DS.mAug, DS.aug2, DS.dAddI, DS.mRet, DS.mRetO, DS.mRetN, DS.mIte, DS.mApp, DS.app2, DS.isOL, DS.mSetL, DS.setL2, DS.gN, DS.gA0, DS.gA, DS.gT, DS.bindD, DS.mAsg, DS.itemsD, DS.mIt, DS.mEnum, DS.mFor, DS.svsOf, DS.slotsOf, DS.RV.sv, DS.callD, DS.roD, DS.roO, DS.mCall, DS.mCallO, DS.mIsi, DS.dIsi, DS.kindOf, DS.notOwn, DS.mRaise, DS.mSl, DS.optI, DS.dSl, DS.mPar, DS.par2, DS.R.bnd_ok, DS.R.bnd_er, DS.R.bnd_bad, DS.wb, DS.mYes, DS.isNon, DS.dIs, DS.dIsNot, ite_ap, rr1, rr2, rr3, rr4, lg8209]
theorem ne_int (x y : Int) : dNe (.int x) (.int y) = some (.bool (!decide (x = y))) := by simp [dNe, dEqB]
theorem eqS (s t : Str) : dEq (.str s) (.str t) = some (.bool (decide (s = t))) := by simp [dEq, dEqB]
theorem st_give {ys ps P : List Int} {c G n h : Int} {bs : List (Int × Int)} (hl : bs.length ≤ 900) {t : Nat} (x0 x1 b x4 x5 : SV) :
    (mIte (mT (mOp2 dEq (mOp2 dIx (mVar 13) (mC (.int 0))) (mC (.str "give")))) (mSet 12 (mLC (mIt (mVar 12)) (gN 14) (mT (mOp2 dNe (mOp2 dIx (mVar 14) (mC (.int 0))) (mOp2 dIx (mVar 13) (mC (.int 1))))) (mVar 14) [14])) (mIte (mT (mOp2 dLt (mVar 3) (mOp2 dSub (mVar 11) (mC (.int 1))))) (mSet 12 (mOp2 dAdd (mVar 12) (mLst (mCons (mTup (mCons (mVar 3) (mCons (mVar 8) (mCons (mCall m__law_pick (mCons (mVar 2) (mCons (mCall m__law_free (mCons (mVar 6) (mCons (mVar 7) (mCons (mVar 12) (mCons (mVar 8) mNil))))) mNil))) mNil)))) mNil)))) mNx)) (St x0 x1 b t x4 x5 ys ps c G P n (bs.map (blk .tuple c)) (.d (.tuple [.str "give", .int h]))) = .ok .nx (St x0 x1 b t x4 x5 ys ps c G P n ((bs.filter fun b => decide (b.1 ≠ h)).map (blk .tuple c)) (.d (.tuple [.str "give", .int h]))) := by
  have i0 : ∀ a b : PyData, atI [a, b] 0 = some a := fun _ _ => rfl
  have i1 : ∀ a b : PyData, atI [a, b] 1 = some b := fun _ _ => rfl
  have i2 : ∀ a b c : PyData, atI [a, b, c] 0 = some a := fun _ _ _ => rfl
  have lc := mLC_g (mi := mIt (mVar 12)) (gm := gN 14) (mt := mT (mOp2 dNe (mOp2 dIx (mVar 14) (mC (.int 0))) (mOp2 dIx (mVar 13) (mC (.int 1))))) (me := mVar 14) (vs := [14]) (ρ := St x0 x1 b t x4 x5 ys ps c G P n (bs.map (blk .tuple c)) (.d (.tuple [.str "give", .int h]))) (ρw := St x0 x1 b t x4 x5 ys ps c G P n (bs.map (blk .tuple c)) (.d (.tuple [.str "give", .int h]))) (items := bs.map (blk .tuple c)) (fun z => match z with | .tuple [.int a, _, _] => !decide (a = h) | _ => false) id (by simp [DS.bodyF, DS.okArgs, DS.finR, DS.mSeq, DS.sq, DS.bnd, DS.ret, DS.bad, DS.mSet, DS.mSetO, DS.keepD, DS.mVar, DS.mC, DS.mOp2, DS.mOp1, DS.mCB, DS.opD, DS.op1D, DS.opnD, DS.RV.data, DS.datas, DS.mNil, DS.mCons, DS.dAdd, DS.dSub, DS.dMul, DS.dDiv, DS.dMod, DS.dPow, DS.dNeg, DS.dLt, DS.dLe, DS.dGt, DS.dGe, DS.dLen, DS.dTuple, DS.dList, DS.dAbs, DS.dInt, DS.dMax2, DS.dMin2, DS.asB, DS.mT, DS.mNot, DS.mAnd, DS.mOr, DS.datB, DS.mAndV, DS.mOrV, DS.mNotV, DS.mIf, DS.dats, DS.dspD, DS.mTup, DS.mLst, DS.ownL, DS.mLstO, DS.mChain, DS.mNx, DS.mBrk, DS.mCt, DS.mAug, DS.aug2, DS.dAddI, DS.mRet, DS.mRetO, DS.mRetN, DS.mIte, DS.mApp, DS.app2, DS.isOL, DS.mSetL, DS.setL2, DS.gN, DS.gA0, DS.gA, DS.gT, DS.bindD, DS.mAsg, DS.itemsD, DS.mIt, DS.mEnum, DS.mFor, DS.svsOf, DS.slotsOf, DS.RV.sv, DS.callD, DS.roD, DS.roO, DS.mCall, DS.mCallO, DS.mIsi, DS.dIsi, DS.kindOf, DS.notOwn, DS.mRaise, DS.mSl, DS.optI, DS.dSl, DS.mPar, DS.par2, DS.R.bnd_ok, DS.R.bnd_er, DS.R.bnd_bad, DS.wb, DS.mYes, DS.isNon, DS.dIs, DS.dIsNot, ite_ap, rr1, rr2, rr3, rr4, lg8209]) rfl rfl rfl (by rw [List.length_map]; omega) (fun z hz => by
    obtain ⟨q, _, rfl⟩ := List.mem_map.mp hz
    refine ⟨_, rfl, ?_, fun _ => ?_, rfl⟩
    · simp [blk, dIx, i1, i2, ne_int, DS.bodyF, DS.okArgs, DS.finR, DS.mSeq, DS.sq, DS.bnd, DS.ret, DS.bad, DS.mSet, DS.mSetO, DS.keepD, DS.mVar, DS.mC, DS.mOp2, DS.mOp1, DS.mCB, DS.opD, DS.op1D, DS.opnD, DS.RV.data, DS.datas, DS.mNil, DS.mCons, DS.dAdd, DS.dSub, DS.dMul, DS.dDiv, DS.dMod, DS.dPow, DS.dNeg, DS.dLt, DS.dLe, DS.dGt, DS.dGe, DS.dLen, DS.dTuple, DS.dList, DS.dAbs, DS.dInt, DS.dMax2, DS.dMin2, DS.asB, DS.mT, DS.mNot, DS.mAnd, DS.mOr, DS.datB, DS.mAndV, DS.mOrV, DS.mNotV, DS.mIf, DS.dats, DS.dspD, DS.mTup, DS.mLst, DS.ownL, DS.mLstO, DS.mChain, DS.mNx, DS.mBrk, DS.mCt, DS.mAug, DS.aug2, DS.dAddI, DS.mRet, DS.mRetO, DS.mRetN, DS.mIte, DS.mApp, DS.app2, DS.isOL, DS.mSetL, DS.setL2, DS.gN, DS.gA0, DS.gA, DS.gT, DS.bindD, DS.mAsg, DS.itemsD, DS.mIt, DS.mEnum, DS.mFor, DS.svsOf, DS.slotsOf, DS.RV.sv, DS.callD, DS.roD, DS.roO, DS.mCall, DS.mCallO, DS.mIsi, DS.dIsi, DS.kindOf, DS.notOwn, DS.mRaise, DS.mSl, DS.optI, DS.dSl, DS.mPar, DS.par2, DS.R.bnd_ok, DS.R.bnd_er, DS.R.bnd_bad, DS.wb, DS.mYes, DS.isNon, DS.dIs, DS.dIsNot, ite_ap, rr1, rr2, rr3, rr4, lg8209]
    · simp [DS.bodyF, DS.okArgs, DS.finR, DS.mSeq, DS.sq, DS.bnd, DS.ret, DS.bad, DS.mSet, DS.mSetO, DS.keepD, DS.mVar, DS.mC, DS.mOp2, DS.mOp1, DS.mCB, DS.opD, DS.op1D, DS.opnD, DS.RV.data, DS.datas, DS.mNil, DS.mCons, DS.dAdd, DS.dSub, DS.dMul, DS.dDiv, DS.dMod, DS.dPow, DS.dNeg, DS.dLt, DS.dLe, DS.dGt, DS.dGe, DS.dLen, DS.dTuple, DS.dList, DS.dAbs, DS.dInt, DS.dMax2, DS.dMin2, DS.asB, DS.mT, DS.mNot, DS.mAnd, DS.mOr, DS.datB, DS.mAndV, DS.mOrV, DS.mNotV, DS.mIf, DS.dats, DS.dspD, DS.mTup, DS.mLst, DS.ownL, DS.mLstO, DS.mChain, DS.mNx, DS.mBrk, DS.mCt, DS.mAug, DS.aug2, DS.dAddI, DS.mRet, DS.mRetO, DS.mRetN, DS.mIte, DS.mApp, DS.app2, DS.isOL, DS.mSetL, DS.setL2, DS.gN, DS.gA0, DS.gA, DS.gT, DS.bindD, DS.mAsg, DS.itemsD, DS.mIt, DS.mEnum, DS.mFor, DS.svsOf, DS.slotsOf, DS.RV.sv, DS.callD, DS.roD, DS.roO, DS.mCall, DS.mCallO, DS.mIsi, DS.dIsi, DS.kindOf, DS.notOwn, DS.mRaise, DS.mSl, DS.optI, DS.dSl, DS.mPar, DS.par2, DS.R.bnd_ok, DS.R.bnd_er, DS.R.bnd_bad, DS.wb, DS.mYes, DS.isNon, DS.dIs, DS.dIsNot, ite_ap, rr1, rr2, rr3, rr4, lg8209])
  have ef : (((bs.map (blk .tuple c)).filter fun z => match z with | .tuple [.int a, _, _] => !decide (a = h) | _ => false).map id) = (bs.filter fun b => decide (b.1 ≠ h)).map (blk .tuple c) := by
    rw [List.map_id, List.filter_map]
    congr 1
    apply List.filter_congr
    intro q _
    show (!decide (q.1 = h)) = decide (q.1 ≠ h)
    by_cases z : q.1 = h <;> simp [z]
  rw [ef] at lc
  generalize mLC (mIt (mVar 12)) (gN 14) (mT (mOp2 dNe (mOp2 dIx (mVar 14) (mC (.int 0))) (mOp2 dIx (mVar 13) (mC (.int 1))))) (mVar 14) [14] = lcm at lc ⊢
  generalize bs.map (blk .tuple c) = O at lc ⊢
  simp [dIx, i0, eqS, lc, DS.bodyF, DS.okArgs, DS.finR, DS.mSeq, DS.sq, DS.bnd, DS.ret, DS.bad, DS.mSet, DS.mSetO, DS.keepD, DS.mVar, DS.mC, DS.mOp2, DS.mOp1, DS.mCB, DS.opD, DS.op1D, DS.opnD, DS.RV.data, DS.datas, DS.mNil, DS.mCons, DS.dAdd, DS.dSub, DS.dMul, DS.dDiv, DS.dMod, DS.dPow, DS.dNeg, DS.dLt, DS.dLe, DS.dGt, DS.dGe, DS.dLen, DS.dTuple, DS.dList, DS.dAbs, DS.dInt, DS.dMax2, DS.dMin2, DS.asB, DS.mT, DS.mNot, DS.mAnd, DS.mOr, DS.datB, DS.mAndV, DS.mOrV, DS.mNotV, DS.mIf, DS.dats, DS.dspD, DS.mTup, DS.mLst, DS.ownL, DS.mLstO, DS.mChain, DS.mNx, DS.mBrk, DS.mCt, DS.mAug, DS.aug2, DS.dAddI, DS.mRet, DS.mRetO, DS.mRetN, DS.mIte, DS.mApp, DS.app2, DS.isOL, DS.mSetL, DS.setL2, DS.gN, DS.gA0, DS.gA, DS.gT, DS.bindD, DS.mAsg, DS.itemsD, DS.mIt, DS.mEnum, DS.mFor, DS.svsOf, DS.slotsOf, DS.RV.sv, DS.callD, DS.roD, DS.roO, DS.mCall, DS.mCallO, DS.mIsi, DS.dIsi, DS.kindOf, DS.notOwn, DS.mRaise, DS.mSl, DS.optI, DS.dSl, DS.mPar, DS.par2, DS.R.bnd_ok, DS.R.bnd_er, DS.R.bnd_bad, DS.wb, DS.mYes, DS.isNon, DS.dIs, DS.dIsNot, ite_ap, rr1, rr2, rr3, rr4, lg8209]
end Zk32
end
section
set_option pp.maxSteps 1500
set_option Elab.async false
set_option linter.all false
set_option maxRecDepth 100000
set_option maxHeartbeats 4000000
namespace Zk32
open PySem PySem.Spec PyProof.Rows L2 DS
theorem tg : (("take" : Str) = "give") = False := by decide
theorem st_take {ys ps P : List Int} {c G n : Int} {bs : List (Int × Int)} (hl : bs.length ≤ 900) {t : Nat} (ht : (t : Int) < n - 1) {b b' : SV} {fs : List Int} {u : Int} (e1 : m__law_free [.d (.tuple (dl ys)), .d (.tuple (dl ps)), .d (.list (bs.map (blk .tuple c))), .d (.int c)] = .ok (.new (.ol (dl fs))) [.d (.tuple (dl ys)), .d (.tuple (dl ps)), .d (.list (bs.map (blk .tuple c))), .d (.int c)])
    (hb : Bx b) (e2 : m__law_pick [b, .d (.list (dl fs))] = .ok (.dat (.int u)) [b', .d (.list (dl fs))]) (x0 x1 x4 x5 : SV) (v : Int) :
    (mIte (mT (mOp2 dEq (mOp2 dIx (mVar 13) (mC (.int 0))) (mC (.str "give")))) (mSet 12 (mLC (mIt (mVar 12)) (gN 14) (mT (mOp2 dNe (mOp2 dIx (mVar 14) (mC (.int 0))) (mOp2 dIx (mVar 13) (mC (.int 1))))) (mVar 14) [14])) (mIte (mT (mOp2 dLt (mVar 3) (mOp2 dSub (mVar 11) (mC (.int 1))))) (mSet 12 (mOp2 dAdd (mVar 12) (mLst (mCons (mTup (mCons (mVar 3) (mCons (mVar 8) (mCons (mCall m__law_pick (mCons (mVar 2) (mCons (mCall m__law_free (mCons (mVar 6) (mCons (mVar 7) (mCons (mVar 12) (mCons (mVar 8) mNil))))) mNil))) mNil)))) mNil)))) mNx)) (St x0 x1 b t x4 x5 ys ps c G P n (bs.map (blk .tuple c)) (.d (.tuple [.str "take", .int v]))) = .ok .nx (St x0 x1 b' t x4 x5 ys ps c G P n ((bs ++ [((t : Int), u)]).map (blk .tuple c)) (.d (.tuple [.str "take", .int v]))) := by
  have i0 : ∀ a b : PyData, atI [a, b] 0 = some a := fun _ _ => rfl
  obtain ⟨g, st, rfl, _⟩ := hb
  have ea : (bs ++ [((t : Int), u)]).map (blk .tuple c) = bs.map (blk .tuple c) ++ [.tuple [.int t, .int c, .int u]] := by rw [List.map_append]; rfl
  have lo : (bs.map (blk .tuple c)).length ≤ 900 := by rw [List.length_map]; exact hl
  have ln : (bs.map (blk .tuple c)).length + 1 ≤ sizeLine := sl2 (by omega)
  rw [ea]
  generalize mLC (mIt (mVar 12)) (gN 14) (mT (mOp2 dNe (mOp2 dIx (mVar 14) (mC (.int 0))) (mOp2 dIx (mVar 13) (mC (.int 1))))) (mVar 14) [14] = lcm
  generalize bs.map (blk .tuple c) = O at e1 lo ln ⊢
  simp [dIx, i0, eqS, tg, ht, e1, e2, ln, sl2, DS.bodyF, DS.okArgs, DS.finR, DS.mSeq, DS.sq, DS.bnd, DS.ret, DS.bad, DS.mSet, DS.mSetO, DS.keepD, DS.mVar, DS.mC, DS.mOp2, DS.mOp1, DS.mCB, DS.opD, DS.op1D, DS.opnD, DS.RV.data, DS.datas, DS.mNil, DS.mCons, DS.dAdd, DS.dSub, DS.dMul, DS.dDiv, DS.dMod, DS.dPow, DS.dNeg, DS.dLt, DS.dLe, DS.dGt, DS.dGe, DS.dLen, DS.dTuple, DS.dList, DS.dAbs, DS.dInt, DS.dMax2, DS.dMin2, DS.asB, DS.mT, DS.mNot, DS.mAnd, DS.mOr, DS.datB, DS.mAndV, DS.mOrV, DS.mNotV, DS.mIf, DS.dats, DS.dspD, DS.mTup, DS.mLst, DS.ownL, DS.mLstO, DS.mChain, DS.mNx, DS.mBrk, DS.mCt, DS.mAug, DS.aug2, DS.dAddI, DS.mRet, DS.mRetO, DS.mRetN, DS.mIte, DS.mApp, DS.app2, DS.isOL, DS.mSetL, DS.setL2, DS.gN, DS.gA0, DS.gA, DS.gT, DS.bindD, DS.mAsg, DS.itemsD, DS.mIt, DS.mEnum, DS.mFor, DS.svsOf, DS.slotsOf, DS.RV.sv, DS.callD, DS.roD, DS.roO, DS.mCall, DS.mCallO, DS.mIsi, DS.dIsi, DS.kindOf, DS.notOwn, DS.mRaise, DS.mSl, DS.optI, DS.dSl, DS.mPar, DS.par2, DS.R.bnd_ok, DS.R.bnd_er, DS.R.bnd_bad, DS.wb, DS.mYes, DS.isNon, DS.dIs, DS.dIsNot, ite_ap, rr1, rr2, rr3, rr4, lg8209]
theorem st_last {ys ps P : List Int} {c G n : Int} {O : List PyData} {t : Nat} (ht : ¬ (t : Int) < n - 1) (x0 x1 b x4 x5 : SV) (v : Int) :
    (mIte (mT (mOp2 dEq (mOp2 dIx (mVar 13) (mC (.int 0))) (mC (.str "give")))) (mSet 12 (mLC (mIt (mVar 12)) (gN 14) (mT (mOp2 dNe (mOp2 dIx (mVar 14) (mC (.int 0))) (mOp2 dIx (mVar 13) (mC (.int 1))))) (mVar 14) [14])) (mIte (mT (mOp2 dLt (mVar 3) (mOp2 dSub (mVar 11) (mC (.int 1))))) (mSet 12 (mOp2 dAdd (mVar 12) (mLst (mCons (mTup (mCons (mVar 3) (mCons (mVar 8) (mCons (mCall m__law_pick (mCons (mVar 2) (mCons (mCall m__law_free (mCons (mVar 6) (mCons (mVar 7) (mCons (mVar 12) (mCons (mVar 8) mNil))))) mNil))) mNil)))) mNil)))) mNx)) (St x0 x1 b t x4 x5 ys ps c G P n O (.d (.tuple [.str "take", .int v]))) = .ok .nx (St x0 x1 b t x4 x5 ys ps c G P n O (.d (.tuple [.str "take", .int v]))) := by
  have i0 : ∀ a b : PyData, atI [a, b] 0 = some a := fun _ _ => rfl
  generalize mLC (mIt (mVar 12)) (gN 14) (mT (mOp2 dNe (mOp2 dIx (mVar 14) (mC (.int 0))) (mOp2 dIx (mVar 13) (mC (.int 1))))) (mVar 14) [14] = lcm
  simp [dIx, i0, eqS, tg, ht, DS.bodyF, DS.okArgs, DS.finR, DS.mSeq, DS.sq, DS.bnd, DS.ret, DS.bad, DS.mSet, DS.mSetO, DS.keepD, DS.mVar, DS.mC, DS.mOp2, DS.mOp1, DS.mCB, DS.opD, DS.op1D, DS.opnD, DS.RV.data, DS.datas, DS.mNil, DS.mCons, DS.dAdd, DS.dSub, DS.dMul, DS.dDiv, DS.dMod, DS.dPow, DS.dNeg, DS.dLt, DS.dLe, DS.dGt, DS.dGe, DS.dLen, DS.dTuple, DS.dList, DS.dAbs, DS.dInt, DS.dMax2, DS.dMin2, DS.asB, DS.mT, DS.mNot, DS.mAnd, DS.mOr, DS.datB, DS.mAndV, DS.mOrV, DS.mNotV, DS.mIf, DS.dats, DS.dspD, DS.mTup, DS.mLst, DS.ownL, DS.mLstO, DS.mChain, DS.mNx, DS.mBrk, DS.mCt, DS.mAug, DS.aug2, DS.dAddI, DS.mRet, DS.mRetO, DS.mRetN, DS.mIte, DS.mApp, DS.app2, DS.isOL, DS.mSetL, DS.setL2, DS.gN, DS.gA0, DS.gA, DS.gT, DS.bindD, DS.mAsg, DS.itemsD, DS.mIt, DS.mEnum, DS.mFor, DS.svsOf, DS.slotsOf, DS.RV.sv, DS.callD, DS.roD, DS.roO, DS.mCall, DS.mCallO, DS.mIsi, DS.dIsi, DS.kindOf, DS.notOwn, DS.mRaise, DS.mSl, DS.optI, DS.dSl, DS.mPar, DS.par2, DS.R.bnd_ok, DS.R.bnd_er, DS.R.bnd_bad, DS.wb, DS.mYes, DS.isNon, DS.dIs, DS.dIsNot, ite_ap, rr1, rr2, rr3, rr4, lg8209]
/-- one turn of the law -/
theorem turn_by {ys ps P : List Int} {c G n : Int} {bs bs' : List (Int × Int)} {t : Nat} {d : PyData} {r : Str} (hl : bs.length ≤ 900) (hy : ys.length ≤ 1000) (hp : ps.length ≤ 1000) (hr : dRepr [d] = some (.str r))
    (e1 : m_foe_request [.d (.tuple (dl ys)), .d (.tuple (dl ps)), .d (.int t), .d (.tuple (bs.map (blk .tuple c)))] = .ok (.dat d) [.d (.tuple (dl ys)), .d (.tuple (dl ps)), .d (.int t), .d (.tuple (bs.map (blk .tuple c)))])
    (e2 : m_foe_request [.d (.list (dl ys)), .d (.list (dl ps)), .d (.int t), .d (.list (bs.map (blk .list c)))] = .ok (.dat d) [.d (.list (dl ys)), .d (.list (dl ps)), .d (.int t), .d (.list (bs.map (blk .list c)))])
    (e3 : m__law_due [.d (.int c), .d (.int G), .d (.tuple (dl P)), .d (.int t), .d (.list (bs.map (blk .tuple c)))] = .ok (.dat d) [.d (.int c), .d (.int G), .d (.tuple (dl P)), .d (.int t), .d (.list (bs.map (blk .tuple c)))])
    {x0 x1 b b' x4 x5 v : SV} (e4 : (mIte (mT (mOp2 dEq (mOp2 dIx (mVar 13) (mC (.int 0))) (mC (.str "give")))) (mSet 12 (mLC (mIt (mVar 12)) (gN 14) (mT (mOp2 dNe (mOp2 dIx (mVar 14) (mC (.int 0))) (mOp2 dIx (mVar 13) (mC (.int 1))))) (mVar 14) [14])) (mIte (mT (mOp2 dLt (mVar 3) (mOp2 dSub (mVar 11) (mC (.int 1))))) (mSet 12 (mOp2 dAdd (mVar 12) (mLst (mCons (mTup (mCons (mVar 3) (mCons (mVar 8) (mCons (mCall m__law_pick (mCons (mVar 2) (mCons (mCall m__law_free (mCons (mVar 6) (mCons (mVar 7) (mCons (mVar 12) (mCons (mVar 8) mNil))))) mNil))) mNil)))) mNil)))) mNx)) (St x0 x1 b t x4 x5 ys ps c G P n (bs.map (blk .tuple c)) (.d d)) = .ok .nx (St x0 x1 b' t x4 x5 ys ps c G P n (bs'.map (blk .tuple c)) (.d d))) :
    lb_law_1 (St x0 x1 b t x4 x5 ys ps c G P n (bs.map (blk .tuple c)) v) = .ok .nx (St x0 x1 b' t x4 x5 ys ps c G P n (bs'.map (blk .tuple c)) (.d d)) := by
  unfold lb_law_1
  rw [seq_nx (st_req (by rw [List.length_map]; omega) e1 _ _ _ _ _ _), seq_nx (st_req3 hl hy hp e2 _ _ _ _ _), seq_nx (st_cmp hr e3 _ _ _ _ _)]
  exact e4
/-- the picture's state ahead of a turn -/
def Stt (ys ps : List Int) (c G : Int) (R : Nat) (t : Nat) (bs : List (Int × Int)) : Prop :=
  (t ≤ (plI ys ps c).length ∧ Fill ys ps c t bs) ∨ (∃ s, s ≤ R ∧ t = (plI ys ps c).length + s ∧ Give ys ps c G s bs) ∨ (t = (plI ys ps c).length + R + 1 ∧ Give ys ps c G R bs)
theorem Stt.pic {ys ps : List Int} {c G : Int} {R t : Nat} {bs : List (Int × Int)} (h : Stt ys ps c G R t bs) : Pic ys ps c bs := by
  rcases h with ⟨_, h⟩ | ⟨s, _, _, h⟩ | ⟨_, h⟩ <;> exact h.pic
theorem turn_one {ys ps : List Int} {c G : Int} {R : Nat} (A : Ar ys ps c G R) {t : Nat} (ht : t < (plI ys ps c).length + R + 1) {bs : List (Int × Int)} (h : Stt ys ps c G R t bs) {b : SV} (hb : Bx b) (x0 x1 x4 x5 v : SV) :
    ∃ b' bs' d, Bx b' ∧ Stt ys ps c G R (t + 1) bs' ∧ lb_law_1 (St x0 x1 b t x4 x5 ys ps c G (plI ys ps G) ((plI ys ps c).length + R + 1) (bs.map (blk .tuple c)) v) = .ok .nx (St x0 x1 b' t x4 x5 ys ps c G (plI ys ps G) ((plI ys ps c).length + R + 1) (bs'.map (blk .tuple c)) (.d d)) := by
  have hp := h.pic
  have cap := pic_cap A hp
  have hl := hp.len
  have hy : ys.length ≤ 1000 := by have := A.hs.2.1; omega
  have hps : ps.length ≤ 1000 := by have := A.hp.2.2.1; omega
  have ul := A.UL
  have hc := A.hc
  have hc2 := A.hc2
  have hG2 := A.hG2
  have g0 := A.G0
  have fill : ∀ (hf : Fill ys ps c t bs), t < (plI ys ps c).length → ∃ b' bs' d, Bx b' ∧ Stt ys ps c G R (t + 1) bs' ∧ lb_law_1 (St x0 x1 b t x4 x5 ys ps c G (plI ys ps G) ((plI ys ps c).length + R + 1) (bs.map (blk .tuple c)) v) = .ok .nx (St x0 x1 b' t x4 x5 ys ps c G (plI ys ps G) ((plI ys ps c).length + R + 1) (bs'.map (blk .tuple c)) (.d d)) := fun hf hlt => by
    obtain ⟨r, hr⟩ := rp_two (s := "take") (.inl rfl) (i := c) (by unfold Sm; omega)
    have f1 := law_free_eq A.hs A.hp A.hc A.hc2 A.hd hp cap A.hc A.hc2 A.hd
    have ne := hf.room A hlt
    have u4 := A.Ulen.1
    have fl : ((plI ys ps c).filter (fr (aKV c bs) c)).length ≤ 448 := Nat.le_trans (List.length_filter_le _ _) u4
    obtain ⟨x, b', e2, xm, hb'⟩ := pick_bx hb (xs := dl ((plI ys ps c).filter (fr (aKV c bs) c))) (fun z => ne (by simpa [dl] using z)) (by rw [dl_len]; omega)
    obtain ⟨u, hu, rfl⟩ := List.mem_map.mp xm
    have e4 := st_take (P := plI ys ps G) (G := G) (n := (plI ys ps c).length + R + 1) (c := c) (bs := bs) (by omega) (t := t) (by omega) f1 hb e2 x0 x1 x4 x5 c
    exact ⟨b', bs ++ [((t : Int), u)], _, hb', .inl ⟨hlt, hf.step A hlt hu⟩, turn_by (by omega) hy hps hr (req_take (.inr rfl) (.inr rfl) (.inr rfl) (.inr rfl) A hp cap (by omega)) (req_take (.inl rfl) (.inl rfl) (.inl rfl) (.inl rfl) A hp cap (by omega)) (due_take A (by omega) _) e4⟩
  have give : ∀ s (hg : Give ys ps c G s bs), s ≤ R → t = (plI ys ps c).length + s → ∃ b' bs' d, Bx b' ∧ Stt ys ps c G R (t + 1) bs' ∧ lb_law_1 (St x0 x1 b t x4 x5 ys ps c G (plI ys ps G) ((plI ys ps c).length + R + 1) (bs.map (blk .tuple c)) v) = .ok .nx (St x0 x1 b' t x4 x5 ys ps c G (plI ys ps G) ((plI ys ps c).length + R + 1) (bs'.map (blk .tuple c)) (.d d)) := fun s hg hs et => by
    by_cases z : s = R
    · obtain ⟨r, hr⟩ := rp_two (s := "take") (.inl rfl) (i := G) (by unfold Sm; omega)
      have e4 := st_last (ys := ys) (ps := ps) (P := plI ys ps G) (c := c) (G := G) (n := (plI ys ps c).length + R + 1) (O := bs.map (blk .tuple c)) (t := t) (by omega) x0 x1 b x4 x5 G
      exact ⟨b, bs, _, hb, .inr (.inr ⟨by omega, z ▸ hg⟩), turn_by (by omega) hy hps hr (req_last (.inr rfl) (.inr rfl) (.inr rfl) (.inr rfl) A hp cap (by omega)) (req_last (.inl rfl) (.inl rfl) (.inl rfl) (.inl rfl) A hp cap (by omega)) (due_last A (by omega) _) e4⟩
    · have hs' : s < R := by omega
      obtain ⟨w, hw, ew, w1, w2, hx⟩ := hg.turn A hs'
      have hh := hp.hd w hw
      obtain ⟨r, hr⟩ := rp_two (s := "give") (.inr rfl) (i := w.1) (by unfold Sm; omega)
      have e4 := st_give (ys := ys) (ps := ps) (P := plI ys ps G) (c := c) (G := G) (n := (plI ys ps c).length + R + 1) (h := w.1) (bs := bs) (by omega) (t := t) x0 x1 b x4 x5
      exact ⟨b, _, _, hb, .inr (.inl ⟨s + 1, hs', by omega, hg.step A hw ew⟩), turn_by (by omega) hy hps hr (req_give (.inr rfl) (.inr rfl) (.inr rfl) (.inr rfl) A hp cap hs' hw w1 w2 hx (by omega)) (req_give (.inl rfl) (.inl rfl) (.inl rfl) (.inl rfl) A hp cap hs' hw w1 w2 hx (by omega)) (due_give A (by omega) hs' hw w1 hx (by omega)) e4⟩
  rcases h with ⟨hle, hf⟩ | ⟨s, hs, et, hg⟩ | ⟨et, _⟩
  · by_cases hlt : t < (plI ys ps c).length
    · exact fill hf hlt
    · exact give 0 (hf.give A (by omega)) (Nat.zero_le _) (by omega)
  · exact give s hg hs et
  · omega
end Zk32
end
section
set_option pp.maxSteps 1500
set_option Elab.async false
set_option linter.all false
set_option maxRecDepth 100000
set_option maxHeartbeats 4000000
namespace Zk32
open PySem PySem.Spec PyProof.Rows L2 DS
abbrev S18 (x0 x1 b y x4 x5 : SV) (ys ps : List Int) (c G : Int) (P : List Int) (n : Int) (O : List PyData) (v : SV) : Rho := [x0, x1, b, y, x4, x5, .d (.tuple (dl ys)), .d (.tuple (dl ps)), .d (.int c), .d (.int G), .d (.tuple (dl P)), .d (.int n), .d (.list O), v, .un, .un, .un, .un]
theorem loopT {ys ps : List Int} {c G : Int} {R : Nat} (A : Ar ys ps c G R) {b : SV} (hb : Bx b) (x0 x1 y x4 x5 v : SV) :
    ∃ b' bs y' v', Bx b' ∧ Give ys ps c G R bs ∧ forL (gN 3) lb_law_1 (rangeD 0 (((plI ys ps c).length + R + 1 : Nat) : Int)) (S18 x0 x1 b y x4 x5 ys ps c G (plI ys ps G) ((plI ys ps c).length + R + 1) [] v) = .ok .nx (S18 x0 x1 b' y' x4 x5 ys ps c G (plI ys ps G) ((plI ys ps c).length + R + 1) (bs.map (blk .tuple c)) v') := by
  have u4 := A.Ulen.1
  have r64 := A.R64
  have loop : ∃ ρ', forL (gN 3) lb_law_1 (rangeD 0 (((plI ys ps c).length + R + 1 : Nat) : Int)) (S18 x0 x1 b y x4 x5 ys ps c G (plI ys ps G) ((plI ys ps c).length + R + 1) [] v) = .ok .nx ρ' ∧ ∃ b' bs y' v', Bx b' ∧ Give ys ps c G R bs ∧ ρ' = S18 x0 x1 b' y' x4 x5 ys ps c G (plI ys ps G) ((plI ys ps c).length + R + 1) (bs.map (blk .tuple c)) v' := by
    refine forL_inv (E := fun ρ' => ∃ b' bs y' v', Bx b' ∧ Give ys ps c G R bs ∧ ρ' = S18 x0 x1 b' y' x4 x5 ys ps c G (plI ys ps G) ((plI ys ps c).length + R + 1) (bs.map (blk .tuple c)) v') (fun r ρ => ∃ i b' bs y' v', i ≤ (plI ys ps c).length + R + 1 ∧ Bx b' ∧ Stt ys ps c G R i bs ∧ r = (rangeD 0 (((plI ys ps c).length + R + 1 : Nat) : Int)).drop i ∧ ρ = S18 x0 x1 b' y' x4 x5 ys ps c G (plI ys ps G) ((plI ys ps c).length + R + 1) (bs.map (blk .tuple c)) v') ?_ ?_ ⟨0, b, [], y, v, Nat.zero_le _, hb, .inl ⟨Nat.zero_le _, fill0 ys ps c⟩, by rw [List.drop_zero], rfl⟩
    · rintro x r ρ ⟨i, b1, bs, y1, v1, hi, hb1, hs, hr, rfl⟩
      by_cases hlt : i < (plI ys ps c).length + R + 1
      · rw [rangeD_at (by omega) hlt] at hr
        cases hr
        obtain ⟨b2, bs2, d, hb2, hs2, e⟩ := turn_one A hlt hs hb1 x0 x1 x4 x5 v1
        exact ⟨_, _, rfl, .inl ⟨e, i + 1, b2, bs2, _, _, hlt, hb2, hs2, rfl, rfl⟩⟩
      · rw [show i = (plI ys ps c).length + R + 1 by omega, rangeD_end (by omega)] at hr
        cases hr
    · rintro ρ ⟨i, b1, bs, y1, v1, hi, hb1, hs, hr, rfl⟩
      have e : (plI ys ps c).length + R + 1 ≤ i := by
        rcases Nat.lt_or_ge i ((plI ys ps c).length + R + 1) with h | h
        · rw [rangeD_at (by omega) h] at hr; cases hr
        · exact h
      refine ⟨b1, bs, y1, v1, hb1, ?_, rfl⟩
      rcases hs with ⟨q, _⟩ | ⟨s, q1, q2, _⟩ | ⟨_, h⟩
      · omega
      · omega
      · exact h
  obtain ⟨ρ', e, b', bs, y', v', hb', hg, rfl⟩ := loop
  exact ⟨b', bs, y', v', hb', hg, e⟩
theorem st_box {ns : List Int} {k : Int} (h0 : 0 ≤ k) (h7 : k ≤ 7) (x2 : SV) (r : List SV) : ∃ b, Bx b ∧ (mSetO 2 (mCallO m__law_box (mCons (mVar 0) (mCons (mVar 1) mNil)))) (.d (.list (dl ns)) :: .d (.int k) :: x2 :: r) = .ok .nx (.d (.list (dl ns)) :: .d (.int k) :: b :: r) := by
  obtain ⟨b, hb, e⟩ := box_eq ns k h0 h7
  exact ⟨b, hb, by simp [e, DS.bodyF, DS.okArgs, DS.finR, DS.mSeq, DS.sq, DS.bnd, DS.ret, DS.bad, DS.mSet, DS.mSetO, DS.keepD, DS.mVar, DS.mC, DS.mOp2, DS.mOp1, DS.mCB, DS.opD, DS.op1D, DS.opnD, DS.RV.data, DS.datas, DS.mNil, DS.mCons, DS.dAdd, DS.dSub, DS.dMul, DS.dDiv, DS.dMod, DS.dPow, DS.dNeg, DS.dLt, DS.dLe, DS.dGt, DS.dGe, DS.dLen, DS.dTuple, DS.dList, DS.dAbs, DS.dInt, DS.dMax2, DS.dMin2, DS.asB, DS.mT, DS.mNot, DS.mAnd, DS.mOr, DS.datB, DS.mAndV, DS.mOrV, DS.mNotV, DS.mIf, DS.dats, DS.dspD, DS.mTup, DS.mLst, DS.ownL, DS.mLstO, DS.mChain, DS.mNx, DS.mBrk, DS.mCt, DS.mAug, DS.aug2, DS.dAddI, DS.mRet, DS.mRetO, DS.mRetN, DS.mIte, DS.mApp, DS.app2, DS.isOL, DS.mSetL, DS.setL2, DS.gN, DS.gA0, DS.gA, DS.gT, DS.bindD, DS.mAsg, DS.itemsD, DS.mIt, DS.mEnum, DS.mFor, DS.svsOf, DS.slotsOf, DS.RV.sv, DS.callD, DS.roD, DS.roO, DS.mCall, DS.mCallO, DS.mIsi, DS.dIsi, DS.kindOf, DS.notOwn, DS.mRaise, DS.mSl, DS.optI, DS.dSl, DS.mPar, DS.par2, DS.R.bnd_ok, DS.R.bnd_er, DS.R.bnd_bad, DS.wb, DS.mYes, DS.isNon, DS.dIs, DS.dIsNot, ite_ap, rr1, rr2, rr3, rr4, lg8209]⟩
theorem st_build {b : SV} (h : Bx b) (x0 x1 x3 x4 x5 x6 x7 : SV) (r : List SV) : ∃ ys ps b', SzOk ys ∧ 2 ≤ ys.length ∧ PgB ps ∧ 2 ≤ ps.length ∧ Bx b' ∧ (mAsg (gT 2 (gA (gN 6) (gA (gN 7) gA0))) (mTup (mCons (mCall m__law_sizes (mCons (mVar 2) (mCons (mC (.int 8)) (mCons (mC (.int 2)) mNil)))) (mCons (mCall m__law_pages (mCons (mVar 2) (mCons (mOp2 dAdd (mC (.int 2)) (mCall m__law_take (mCons (mVar 2) (mCons (mC (.int 2)) mNil)))) mNil))) mNil)))) (x0 :: x1 :: b :: x3 :: x4 :: x5 :: x6 :: x7 :: r) = .ok .nx (x0 :: x1 :: b' :: x3 :: x4 :: x5 :: .d (.tuple (dl ys)) :: .d (.tuple (dl ps)) :: r) := by
  obtain ⟨ys, b1, hs, l2, h1, e1⟩ := sizes_eq h
  obtain ⟨d, b2, e2, d0, d1, h2⟩ := take_bx h1 (n := 2) (by omega) (t60 (by omega))
  obtain ⟨ps, b3, hp, hl, h3, e3⟩ := pages_eq h2 (k := 2 + d) (by omega) (by omega)
  obtain ⟨g, st, rfl, _⟩ := h
  obtain ⟨g1, st1, rfl, _⟩ := h1
  obtain ⟨g2, st2, rfl, _⟩ := h2
  exact ⟨ys, ps, b3, hs, l2, hp, by omega, h3, by simp [e1, e2, e3, sl2, DS.bodyF, DS.okArgs, DS.finR, DS.mSeq, DS.sq, DS.bnd, DS.ret, DS.bad, DS.mSet, DS.mSetO, DS.keepD, DS.mVar, DS.mC, DS.mOp2, DS.mOp1, DS.mCB, DS.opD, DS.op1D, DS.opnD, DS.RV.data, DS.datas, DS.mNil, DS.mCons, DS.dAdd, DS.dSub, DS.dMul, DS.dDiv, DS.dMod, DS.dPow, DS.dNeg, DS.dLt, DS.dLe, DS.dGt, DS.dGe, DS.dLen, DS.dTuple, DS.dList, DS.dAbs, DS.dInt, DS.dMax2, DS.dMin2, DS.asB, DS.mT, DS.mNot, DS.mAnd, DS.mOr, DS.datB, DS.mAndV, DS.mOrV, DS.mNotV, DS.mIf, DS.dats, DS.dspD, DS.mTup, DS.mLst, DS.ownL, DS.mLstO, DS.mChain, DS.mNx, DS.mBrk, DS.mCt, DS.mAug, DS.aug2, DS.dAddI, DS.mRet, DS.mRetO, DS.mRetN, DS.mIte, DS.mApp, DS.app2, DS.isOL, DS.mSetL, DS.setL2, DS.gN, DS.gA0, DS.gA, DS.gT, DS.bindD, DS.mAsg, DS.itemsD, DS.mIt, DS.mEnum, DS.mFor, DS.svsOf, DS.slotsOf, DS.RV.sv, DS.callD, DS.roD, DS.roO, DS.mCall, DS.mCallO, DS.mIsi, DS.dIsi, DS.kindOf, DS.notOwn, DS.mRaise, DS.mSl, DS.optI, DS.dSl, DS.mPar, DS.par2, DS.R.bnd_ok, DS.R.bnd_er, DS.R.bnd_bad, DS.wb, DS.mYes, DS.isNon, DS.dIs, DS.dIsNot, ite_ap, rr1, rr2, rr3, rr4, lg8209]⟩
theorem pgB_one {ps : List Int} (h : PgB ps) : PgB (ps.take 1) ∧ (ps.take 1).length = 1 := by
  have h1 := h.2.1
  have l : (ps.take 1).length = 1 := by rw [List.length_take]; omega
  refine ⟨⟨⟨by omega, fun i hi => ?_, fun i hi => by omega⟩, by omega, by omega, fun y hy => h.2.2.2 y (List.mem_of_mem_take hy)⟩, l⟩
  rw [List.getElem_take]
  exact h.1.2.1 i (by omega)
theorem st_one {b : SV} (h : Bx b) {ys ps : List Int} (hs : SzOk ys) (l2 : 2 ≤ ys.length) (hp : PgB ps) (p2 : 2 ≤ ps.length) (x0 x1 x3 x4 x5 : SV) (r : List SV) : ∃ ps' b', PgB ps' ∧ 2 ≤ (arS ys ps'.length).length ∧ Bx b' ∧ (mIte (mAnd (mT (mOp2 dGt (mCB dLen (mCons (mVar 6) mNil)) (mC (.int 2)))) (mT (mOp2 dEq (mCall m__law_take (mCons (mVar 2) (mCons (mC (.int 3)) mNil))) (mC (.int 0))))) (mSet 7 (mSl (mVar 7) none (some (mC (.int 1))))) mNx) (x0 :: x1 :: b :: x3 :: x4 :: x5 :: .d (.tuple (dl ys)) :: .d (.tuple (dl ps)) :: r) = .ok .nx (x0 :: x1 :: b' :: x3 :: x4 :: x5 :: .d (.tuple (dl ys)) :: .d (.tuple (dl ps')) :: r) := by
  have a2 : 2 ≤ (arS ys ps.length).length := by unfold arS; rw [if_neg (by omega)]; exact l2
  by_cases c1 : (2 : Int) < (ys.length : Int)
  · obtain ⟨d, b2, e2, d0, d1, h2⟩ := take_bx h (n := 3) (by omega) (t60 (by omega))
    obtain ⟨g, st, rfl, _⟩ := h
    by_cases z : d = 0
    · subst z
      have l := pgB_one hp
      have ct := cut_take (xs := dl ps) (i := 1) (by rw [dl_len]; omega)
      rw [dl_take] at ct
      refine ⟨ps.take 1, b2, l.1, by rw [l.2]; unfold arS; rw [if_pos ⟨rfl, l2⟩]; simp; omega, h2, ?_⟩
      simp at ct
      simp [c1, e2, ct, dl_len, dEq, dEqB, dSl, sl2, DS.bodyF, DS.okArgs, DS.finR, DS.mSeq, DS.sq, DS.bnd, DS.ret, DS.bad, DS.mSet, DS.mSetO, DS.keepD, DS.mVar, DS.mC, DS.mOp2, DS.mOp1, DS.mCB, DS.opD, DS.op1D, DS.opnD, DS.RV.data, DS.datas, DS.mNil, DS.mCons, DS.dAdd, DS.dSub, DS.dMul, DS.dDiv, DS.dMod, DS.dPow, DS.dNeg, DS.dLt, DS.dLe, DS.dGt, DS.dGe, DS.dLen, DS.dTuple, DS.dList, DS.dAbs, DS.dInt, DS.dMax2, DS.dMin2, DS.asB, DS.mT, DS.mNot, DS.mAnd, DS.mOr, DS.datB, DS.mAndV, DS.mOrV, DS.mNotV, DS.mIf, DS.dats, DS.dspD, DS.mTup, DS.mLst, DS.ownL, DS.mLstO, DS.mChain, DS.mNx, DS.mBrk, DS.mCt, DS.mAug, DS.aug2, DS.dAddI, DS.mRet, DS.mRetO, DS.mRetN, DS.mIte, DS.mApp, DS.app2, DS.isOL, DS.mSetL, DS.setL2, DS.gN, DS.gA0, DS.gA, DS.gT, DS.bindD, DS.mAsg, DS.itemsD, DS.mIt, DS.mEnum, DS.mFor, DS.svsOf, DS.slotsOf, DS.RV.sv, DS.callD, DS.roD, DS.roO, DS.mCall, DS.mCallO, DS.mIsi, DS.dIsi, DS.kindOf, DS.notOwn, DS.mRaise, DS.mSl, DS.optI, DS.dSl, DS.mPar, DS.par2, DS.R.bnd_ok, DS.R.bnd_er, DS.R.bnd_bad, DS.wb, DS.mYes, DS.isNon, DS.dIs, DS.dIsNot, ite_ap, rr1, rr2, rr3, rr4, lg8209]
    · refine ⟨ps, b2, hp, a2, h2, ?_⟩
      simp [c1, e2, z, dl_len, dEq, dEqB, sl2, DS.bodyF, DS.okArgs, DS.finR, DS.mSeq, DS.sq, DS.bnd, DS.ret, DS.bad, DS.mSet, DS.mSetO, DS.keepD, DS.mVar, DS.mC, DS.mOp2, DS.mOp1, DS.mCB, DS.opD, DS.op1D, DS.opnD, DS.RV.data, DS.datas, DS.mNil, DS.mCons, DS.dAdd, DS.dSub, DS.dMul, DS.dDiv, DS.dMod, DS.dPow, DS.dNeg, DS.dLt, DS.dLe, DS.dGt, DS.dGe, DS.dLen, DS.dTuple, DS.dList, DS.dAbs, DS.dInt, DS.dMax2, DS.dMin2, DS.asB, DS.mT, DS.mNot, DS.mAnd, DS.mOr, DS.datB, DS.mAndV, DS.mOrV, DS.mNotV, DS.mIf, DS.dats, DS.dspD, DS.mTup, DS.mLst, DS.ownL, DS.mLstO, DS.mChain, DS.mNx, DS.mBrk, DS.mCt, DS.mAug, DS.aug2, DS.dAddI, DS.mRet, DS.mRetO, DS.mRetN, DS.mIte, DS.mApp, DS.app2, DS.isOL, DS.mSetL, DS.setL2, DS.gN, DS.gA0, DS.gA, DS.gT, DS.bindD, DS.mAsg, DS.itemsD, DS.mIt, DS.mEnum, DS.mFor, DS.svsOf, DS.slotsOf, DS.RV.sv, DS.callD, DS.roD, DS.roO, DS.mCall, DS.mCallO, DS.mIsi, DS.dIsi, DS.kindOf, DS.notOwn, DS.mRaise, DS.mSl, DS.optI, DS.dSl, DS.mPar, DS.par2, DS.R.bnd_ok, DS.R.bnd_er, DS.R.bnd_bad, DS.wb, DS.mYes, DS.isNon, DS.dIs, DS.dIsNot, ite_ap, rr1, rr2, rr3, rr4, lg8209]
  · exact ⟨ps, b, hp, a2, h, by simp [c1, dl_len, DS.bodyF, DS.okArgs, DS.finR, DS.mSeq, DS.sq, DS.bnd, DS.ret, DS.bad, DS.mSet, DS.mSetO, DS.keepD, DS.mVar, DS.mC, DS.mOp2, DS.mOp1, DS.mCB, DS.opD, DS.op1D, DS.opnD, DS.RV.data, DS.datas, DS.mNil, DS.mCons, DS.dAdd, DS.dSub, DS.dMul, DS.dDiv, DS.dMod, DS.dPow, DS.dNeg, DS.dLt, DS.dLe, DS.dGt, DS.dGe, DS.dLen, DS.dTuple, DS.dList, DS.dAbs, DS.dInt, DS.dMax2, DS.dMin2, DS.asB, DS.mT, DS.mNot, DS.mAnd, DS.mOr, DS.datB, DS.mAndV, DS.mOrV, DS.mNotV, DS.mIf, DS.dats, DS.dspD, DS.mTup, DS.mLst, DS.ownL, DS.mLstO, DS.mChain, DS.mNx, DS.mBrk, DS.mCt, DS.mAug, DS.aug2, DS.dAddI, DS.mRet, DS.mRetO, DS.mRetN, DS.mIte, DS.mApp, DS.app2, DS.isOL, DS.mSetL, DS.setL2, DS.gN, DS.gA0, DS.gA, DS.gT, DS.bindD, DS.mAsg, DS.itemsD, DS.mIt, DS.mEnum, DS.mFor, DS.svsOf, DS.slotsOf, DS.RV.sv, DS.callD, DS.roD, DS.roO, DS.mCall, DS.mCallO, DS.mIsi, DS.dIsi, DS.kindOf, DS.notOwn, DS.mRaise, DS.mSl, DS.optI, DS.dSl, DS.mPar, DS.par2, DS.R.bnd_ok, DS.R.bnd_er, DS.R.bnd_bad, DS.wb, DS.mYes, DS.isNon, DS.dIs, DS.dIsNot, ite_ap, rr1, rr2, rr3, rr4, lg8209]⟩
theorem st_arena {ys ps : List Int} {c G : Int} {R : Nat} (A : Ar ys ps c G R) (x0 x1 b x3 x4 x5 x8 x9 x10 : SV) (r : List SV) : (mAsg (gT 3 (gA (gN 8) (gA (gN 9) (gA (gN 10) gA0)))) (mCall m_arena (mCons (mVar 6) (mCons (mVar 7) mNil)))) (x0 :: x1 :: b :: x3 :: x4 :: x5 :: .d (.tuple (dl ys)) :: .d (.tuple (dl ps)) :: x8 :: x9 :: x10 :: r) = .ok .nx (x0 :: x1 :: b :: x3 :: x4 :: x5 :: .d (.tuple (dl ys)) :: .d (.tuple (dl ps)) :: .d (.int c) :: .d (.int G) :: .d (.tuple (dl (plI ys ps G))) :: r) := by
  have e := A.ar (mk := .tuple) (mk' := .tuple) (.inr rfl) (.inr rfl)
  simp [e, DS.bodyF, DS.okArgs, DS.finR, DS.mSeq, DS.sq, DS.bnd, DS.ret, DS.bad, DS.mSet, DS.mSetO, DS.keepD, DS.mVar, DS.mC, DS.mOp2, DS.mOp1, DS.mCB, DS.opD, DS.op1D, DS.opnD, DS.RV.data, DS.datas, DS.mNil, DS.mCons, DS.dAdd, DS.dSub, DS.dMul, DS.dDiv, DS.dMod, DS.dPow, DS.dNeg, DS.dLt, DS.dLe, DS.dGt, DS.dGe, DS.dLen, DS.dTuple, DS.dList, DS.dAbs, DS.dInt, DS.dMax2, DS.dMin2, DS.asB, DS.mT, DS.mNot, DS.mAnd, DS.mOr, DS.datB, DS.mAndV, DS.mOrV, DS.mNotV, DS.mIf, DS.dats, DS.dspD, DS.mTup, DS.mLst, DS.ownL, DS.mLstO, DS.mChain, DS.mNx, DS.mBrk, DS.mCt, DS.mAug, DS.aug2, DS.dAddI, DS.mRet, DS.mRetO, DS.mRetN, DS.mIte, DS.mApp, DS.app2, DS.isOL, DS.mSetL, DS.setL2, DS.gN, DS.gA0, DS.gA, DS.gT, DS.bindD, DS.mAsg, DS.itemsD, DS.mIt, DS.mEnum, DS.mFor, DS.svsOf, DS.slotsOf, DS.RV.sv, DS.callD, DS.roD, DS.roO, DS.mCall, DS.mCallO, DS.mIsi, DS.dIsi, DS.kindOf, DS.notOwn, DS.mRaise, DS.mSl, DS.optI, DS.dSl, DS.mPar, DS.par2, DS.R.bnd_ok, DS.R.bnd_er, DS.R.bnd_bad, DS.wb, DS.mYes, DS.isNon, DS.dIs, DS.dIsNot, ite_ap, rr1, rr2, rr3, rr4, lg8209]
theorem Ar.nat {ys ps : List Int} {c G : Int} {R : Nat} (A : Ar ys ps c G R) : ((plI ys ps G).length : Int) * R + R + 1 = (plI ys ps c).length + R + 1 := by
  rw [A.UL]; simp
theorem st_many {ys ps : List Int} {c G : Int} {R : Nat} (A : Ar ys ps c G R) (x0 x1 b x3 x4 x5 x8 x9 x10 x11 x12 : SV) (r : List SV) : (mPar 11 12 (mCons (mCall m_foe_many (mCons (mVar 6) (mCons (mVar 7) mNil))) (mCons (mLst mNil) mNil))) (x0 :: x1 :: b :: x3 :: x4 :: x5 :: .d (.tuple (dl ys)) :: .d (.tuple (dl ps)) :: x8 :: x9 :: x10 :: x11 :: x12 :: r) = .ok .nx (x0 :: x1 :: b :: x3 :: x4 :: x5 :: .d (.tuple (dl ys)) :: .d (.tuple (dl ps)) :: x8 :: x9 :: x10 :: .d (.int ((plI ys ps c).length + R + 1)) :: .d (.list []) :: r) := by
  have e := A.fm (mk := .tuple) (mk' := .tuple) (.inr rfl) (.inr rfl)
  rw [A.nat] at e
  simp [e, sl2, DS.bodyF, DS.okArgs, DS.finR, DS.mSeq, DS.sq, DS.bnd, DS.ret, DS.bad, DS.mSet, DS.mSetO, DS.keepD, DS.mVar, DS.mC, DS.mOp2, DS.mOp1, DS.mCB, DS.opD, DS.op1D, DS.opnD, DS.RV.data, DS.datas, DS.mNil, DS.mCons, DS.dAdd, DS.dSub, DS.dMul, DS.dDiv, DS.dMod, DS.dPow, DS.dNeg, DS.dLt, DS.dLe, DS.dGt, DS.dGe, DS.dLen, DS.dTuple, DS.dList, DS.dAbs, DS.dInt, DS.dMax2, DS.dMin2, DS.asB, DS.mT, DS.mNot, DS.mAnd, DS.mOr, DS.datB, DS.mAndV, DS.mOrV, DS.mNotV, DS.mIf, DS.dats, DS.dspD, DS.mTup, DS.mLst, DS.ownL, DS.mLstO, DS.mChain, DS.mNx, DS.mBrk, DS.mCt, DS.mAug, DS.aug2, DS.dAddI, DS.mRet, DS.mRetO, DS.mRetN, DS.mIte, DS.mApp, DS.app2, DS.isOL, DS.mSetL, DS.setL2, DS.gN, DS.gA0, DS.gA, DS.gT, DS.bindD, DS.mAsg, DS.itemsD, DS.mIt, DS.mEnum, DS.mFor, DS.svsOf, DS.slotsOf, DS.RV.sv, DS.callD, DS.roD, DS.roO, DS.mCall, DS.mCallO, DS.mIsi, DS.dIsi, DS.kindOf, DS.notOwn, DS.mRaise, DS.mSl, DS.optI, DS.dSl, DS.mPar, DS.par2, DS.R.bnd_ok, DS.R.bnd_er, DS.R.bnd_bad, DS.wb, DS.mYes, DS.isNon, DS.dIs, DS.dIsNot, ite_ap, rr1, rr2, rr3, rr4, lg8209]
theorem st_loop {ys ps : List Int} {c G : Int} {R : Nat} (A : Ar ys ps c G R) {b : SV} (hb : Bx b) (x0 x1 y x4 x5 v : SV) :
    ∃ b' bs y' v', Bx b' ∧ Give ys ps c G R bs ∧ (mFor (bnd (mCons (mVar 11) mNil) rng1) (gN 3) lb_law_1) (S18 x0 x1 b y x4 x5 ys ps c G (plI ys ps G) ((plI ys ps c).length + R + 1) [] v) = .ok .nx (S18 x0 x1 b' y' x4 x5 ys ps c G (plI ys ps G) ((plI ys ps c).length + R + 1) (bs.map (blk .tuple c)) v') := by
  obtain ⟨b', bs, y', v', h1, h2, e⟩ := loopT A hb x0 x1 y x4 x5 v
  refine ⟨b', bs, y', v', h1, h2, ?_⟩
  have u4 := A.Ulen.1
  have r64 := A.R64
  have ec : (((plI ys ps c).length + R + 1 : Nat) : Int) = (plI ys ps c).length + R + 1 := by simp
  have r1 := rng1_n (n := (plI ys ps c).length + R + 1) (by omega)
  rw [ec] at e r1
  generalize lb_law_1 = lb at e ⊢
  generalize ((plI ys ps c).length : Int) + R + 1 = n at e r1 ⊢
  simp [r1, e, DS.bodyF, DS.okArgs, DS.finR, DS.mSeq, DS.sq, DS.bnd, DS.ret, DS.bad, DS.mSet, DS.mSetO, DS.keepD, DS.mVar, DS.mC, DS.mOp2, DS.mOp1, DS.mCB, DS.opD, DS.op1D, DS.opnD, DS.RV.data, DS.datas, DS.mNil, DS.mCons, DS.dAdd, DS.dSub, DS.dMul, DS.dDiv, DS.dMod, DS.dPow, DS.dNeg, DS.dLt, DS.dLe, DS.dGt, DS.dGe, DS.dLen, DS.dTuple, DS.dList, DS.dAbs, DS.dInt, DS.dMax2, DS.dMin2, DS.asB, DS.mT, DS.mNot, DS.mAnd, DS.mOr, DS.datB, DS.mAndV, DS.mOrV, DS.mNotV, DS.mIf, DS.dats, DS.dspD, DS.mTup, DS.mLst, DS.ownL, DS.mLstO, DS.mChain, DS.mNx, DS.mBrk, DS.mCt, DS.mAug, DS.aug2, DS.dAddI, DS.mRet, DS.mRetO, DS.mRetN, DS.mIte, DS.mApp, DS.app2, DS.isOL, DS.mSetL, DS.setL2, DS.gN, DS.gA0, DS.gA, DS.gT, DS.bindD, DS.mAsg, DS.itemsD, DS.mIt, DS.mEnum, DS.mFor, DS.svsOf, DS.slotsOf, DS.RV.sv, DS.callD, DS.roD, DS.roO, DS.mCall, DS.mCallO, DS.mIsi, DS.dIsi, DS.kindOf, DS.notOwn, DS.mRaise, DS.mSl, DS.optI, DS.dSl, DS.mPar, DS.par2, bnd_ok2, -DS.R.bnd_ok, DS.R.bnd_er, DS.R.bnd_bad, DS.wb, DS.mYes, DS.isNon, DS.dIs, DS.dIsNot, ite_ap, rr1, rr2, rr3, rr4, lg8209]
end Zk32
end
section
set_option pp.maxSteps 1500
set_option Elab.async false
set_option linter.all false
set_option maxRecDepth 100000
set_option maxHeartbeats 4000000
namespace Zk32
open PySem PySem.Spec PyProof.Rows L2 DS
theorem rp_t0 : dRepr [.tuple []] = some (.str "()") := by
  rw [rp_of (by decide +kernel) (by decide +kernel) (by decide +kernel) (by decide +kernel)]
  exact congrArg (fun z => some (PyData.str z)) (by decide +kernel)
theorem er_ref {x : PyData} {s : Str} (h : dRepr [x] = some (.str s)) : er__law_refused ⟨"Refused", "value", x⟩ = some (.tuple [.str "refused", .str s]) := by
  have d : ¬ (("Refused" : Str) = "BadPicture") := by decide
  simp [er__law_refused, out2, h, d]
theorem er_pic (x : PyData) : er__law_refused ⟨"BadPicture", "at", x⟩ = some (.str "picture") := by
  simp [er__law_refused]
def badT (n : Int) : List PyData := [.int n, .int (-1), .none, .bool true, .str "0", .tuple [.int 0]]
theorem badT_facts {n : Int} (hn : Sm n) {x : PyData} (h : x ∈ badT n) : (isNum x = false ∨ x = .int n) ∧ ∃ s, dRepr [x] = some (.str s) ∧ PyData.strOk s = true := by
  simp only [badT, List.mem_cons, List.not_mem_nil, or_false] at h
  rcases h with rfl | rfl | rfl | rfl | rfl | rfl
  · exact ⟨.inr rfl, rp_intS hn⟩
  all_goals exact ⟨.inl rfl, ⟨_, rp_of (by decide +kernel) (by decide +kernel) (by decide +kernel) (by decide +kernel), by decide +kernel⟩⟩
def badV (c : Int) : List PyData := [.none, .tuple [.tuple [.int 0, .int 0, .int 0]], .tuple [.tuple [.int 0, .int c]]]
theorem cp_bad {ys ps : List Int} (hs : SzOk ys) (hp : PgB ps) {c : Int} {v : PyData} (h : v ∈ badV c) : ∃ a, m_check_picture [.d (.tuple (dl ys)), .d (.tuple (dl ps)), .d v] = .er ⟨"BadPicture", "at", .int a⟩ [.d (.tuple (dl ys)), .d (.tuple (dl ps)), .d v] := by
  have c1 := check_sizes_eq (mk := .tuple) (.inr rfl) hs
  have c2 := check_pages_eq (mk := .tuple) (.inr rfl) hp.1
  have z0 : (0 : Int) ∉ ys := fun z => by have := hs.mem 0 z; omega
  have n0 : dNotIn (.int 0) (.tuple (dl ys)) = some (.bool true) := by simp [dNotIn, dInB_mem, z0]
  have lc := fun ρ => mLC (mIt (mVar 2)) (gN 7) mYes (mCB dTuple (mCons (mVar 7) mNil)) [7] ρ
  simp only [badV, List.mem_cons, List.not_mem_nil, or_false] at h
  rcases h with rfl | rfl | rfl
  · refine ⟨-1, ?_⟩
    unfold m_check_picture bodyF
    generalize mLC (mIt (mVar 2)) (gN 7) mYes (mCB dTuple (mCons (mVar 7) mNil)) [7] = lcm
    simp [g_check_picture, c1, c2, is_sequence_eq, DS.bodyF, DS.okArgs, DS.finR, DS.mSeq, DS.sq, DS.bnd, DS.ret, DS.bad, DS.mSet, DS.mSetO, DS.keepD, DS.mVar, DS.mC, DS.mOp2, DS.mOp1, DS.mCB, DS.opD, DS.op1D, DS.opnD, DS.RV.data, DS.datas, DS.mNil, DS.mCons, DS.dAdd, DS.dSub, DS.dMul, DS.dDiv, DS.dMod, DS.dPow, DS.dNeg, DS.dLt, DS.dLe, DS.dGt, DS.dGe, DS.dLen, DS.dTuple, DS.dList, DS.dAbs, DS.dInt, DS.dMax2, DS.dMin2, DS.asB, DS.mT, DS.mNot, DS.mAnd, DS.mOr, DS.datB, DS.mAndV, DS.mOrV, DS.mNotV, DS.mIf, DS.dats, DS.dspD, DS.mTup, DS.mLst, DS.ownL, DS.mLstO, DS.mChain, DS.mNx, DS.mBrk, DS.mCt, DS.mAug, DS.aug2, DS.dAddI, DS.mRet, DS.mRetO, DS.mRetN, DS.mIte, DS.mApp, DS.app2, DS.isOL, DS.mSetL, DS.setL2, DS.gN, DS.gA0, DS.gA, DS.gT, DS.bindD, DS.mAsg, DS.itemsD, DS.mIt, DS.mEnum, DS.mFor, DS.svsOf, DS.slotsOf, DS.RV.sv, DS.callD, DS.roD, DS.roO, DS.mCall, DS.mCallO, DS.mIsi, DS.dIsi, DS.kindOf, DS.notOwn, DS.mRaise, DS.mSl, DS.optI, DS.dSl, DS.mPar, DS.par2, DS.R.bnd_ok, DS.R.bnd_er, DS.R.bnd_bad, DS.wb, DS.mYes, DS.isNon, DS.dIs, DS.dIsNot, ite_ap, rr1, rr2, rr3, rr4, lg8209]
  · refine ⟨0, ?_⟩
    have b : m_is_block [.d (.tuple (dl ys)), .d (.tuple (dl ps)), .d (.tuple [.int 0, .int 0, .int 0])] = .ok (.dat (.bool false)) [.d (.tuple (dl ys)), .d (.tuple (dl ps)), .d (.tuple [.int 0, .int 0, .int 0])] := by
      unfold m_is_block bodyF
      simp [g_is_block, is_sequence_eq, is_number_eq, is_integer_eq, isNum, isInt, n0, dNe, dEqB, sl2, DS.bodyF, DS.okArgs, DS.finR, DS.mSeq, DS.sq, DS.bnd, DS.ret, DS.bad, DS.mSet, DS.mSetO, DS.keepD, DS.mVar, DS.mC, DS.mOp2, DS.mOp1, DS.mCB, DS.opD, DS.op1D, DS.opnD, DS.RV.data, DS.datas, DS.mNil, DS.mCons, DS.dAdd, DS.dSub, DS.dMul, DS.dDiv, DS.dMod, DS.dPow, DS.dNeg, DS.dLt, DS.dLe, DS.dGt, DS.dGe, DS.dLen, DS.dTuple, DS.dList, DS.dAbs, DS.dInt, DS.dMax2, DS.dMin2, DS.asB, DS.mT, DS.mNot, DS.mAnd, DS.mOr, DS.datB, DS.mAndV, DS.mOrV, DS.mNotV, DS.mIf, DS.dats, DS.dspD, DS.mTup, DS.mLst, DS.ownL, DS.mLstO, DS.mChain, DS.mNx, DS.mBrk, DS.mCt, DS.mAug, DS.aug2, DS.dAddI, DS.mRet, DS.mRetO, DS.mRetN, DS.mIte, DS.mApp, DS.app2, DS.isOL, DS.mSetL, DS.setL2, DS.gN, DS.gA0, DS.gA, DS.gT, DS.bindD, DS.mAsg, DS.itemsD, DS.mIt, DS.mEnum, DS.mFor, DS.svsOf, DS.slotsOf, DS.RV.sv, DS.callD, DS.roD, DS.roO, DS.mCall, DS.mCallO, DS.mIsi, DS.dIsi, DS.kindOf, DS.notOwn, DS.mRaise, DS.mSl, DS.optI, DS.dSl, DS.mPar, DS.par2, DS.R.bnd_ok, DS.R.bnd_er, DS.R.bnd_bad, DS.wb, DS.mYes, DS.isNon, DS.dIs, DS.dIsNot, ite_ap, rr1, rr2, rr3, rr4, lg8209]
    unfold m_check_picture bodyF
    generalize mLC (mIt (mVar 2)) (gN 7) mYes (mCB dTuple (mCons (mVar 7) mNil)) [7] = lcm
    simp [g_check_picture, c1, c2, is_sequence_eq, enumD, forL, lb_check_picture_1, b, DS.bodyF, DS.okArgs, DS.finR, DS.mSeq, DS.sq, DS.bnd, DS.ret, DS.bad, DS.mSet, DS.mSetO, DS.keepD, DS.mVar, DS.mC, DS.mOp2, DS.mOp1, DS.mCB, DS.opD, DS.op1D, DS.opnD, DS.RV.data, DS.datas, DS.mNil, DS.mCons, DS.dAdd, DS.dSub, DS.dMul, DS.dDiv, DS.dMod, DS.dPow, DS.dNeg, DS.dLt, DS.dLe, DS.dGt, DS.dGe, DS.dLen, DS.dTuple, DS.dList, DS.dAbs, DS.dInt, DS.dMax2, DS.dMin2, DS.asB, DS.mT, DS.mNot, DS.mAnd, DS.mOr, DS.datB, DS.mAndV, DS.mOrV, DS.mNotV, DS.mIf, DS.dats, DS.dspD, DS.mTup, DS.mLst, DS.ownL, DS.mLstO, DS.mChain, DS.mNx, DS.mBrk, DS.mCt, DS.mAug, DS.aug2, DS.dAddI, DS.mRet, DS.mRetO, DS.mRetN, DS.mIte, DS.mApp, DS.app2, DS.isOL, DS.mSetL, DS.setL2, DS.gN, DS.gA0, DS.gA, DS.gT, DS.bindD, DS.mAsg, DS.itemsD, DS.mIt, DS.mEnum, DS.mFor, DS.svsOf, DS.slotsOf, DS.RV.sv, DS.callD, DS.roD, DS.roO, DS.mCall, DS.mCallO, DS.mIsi, DS.dIsi, DS.kindOf, DS.notOwn, DS.mRaise, DS.mSl, DS.optI, DS.dSl, DS.mPar, DS.par2, DS.R.bnd_ok, DS.R.bnd_er, DS.R.bnd_bad, DS.wb, DS.mYes, DS.isNon, DS.dIs, DS.dIsNot, ite_ap, rr1, rr2, rr3, rr4, lg8209]
  · refine ⟨0, ?_⟩
    have b : m_is_block [.d (.tuple (dl ys)), .d (.tuple (dl ps)), .d (.tuple [.int 0, .int c])] = .ok (.dat (.bool false)) [.d (.tuple (dl ys)), .d (.tuple (dl ps)), .d (.tuple [.int 0, .int c])] := by
      unfold m_is_block bodyF
      simp [g_is_block, is_sequence_eq, dNe, dEqB, sl2, DS.bodyF, DS.okArgs, DS.finR, DS.mSeq, DS.sq, DS.bnd, DS.ret, DS.bad, DS.mSet, DS.mSetO, DS.keepD, DS.mVar, DS.mC, DS.mOp2, DS.mOp1, DS.mCB, DS.opD, DS.op1D, DS.opnD, DS.RV.data, DS.datas, DS.mNil, DS.mCons, DS.dAdd, DS.dSub, DS.dMul, DS.dDiv, DS.dMod, DS.dPow, DS.dNeg, DS.dLt, DS.dLe, DS.dGt, DS.dGe, DS.dLen, DS.dTuple, DS.dList, DS.dAbs, DS.dInt, DS.dMax2, DS.dMin2, DS.asB, DS.mT, DS.mNot, DS.mAnd, DS.mOr, DS.datB, DS.mAndV, DS.mOrV, DS.mNotV, DS.mIf, DS.dats, DS.dspD, DS.mTup, DS.mLst, DS.ownL, DS.mLstO, DS.mChain, DS.mNx, DS.mBrk, DS.mCt, DS.mAug, DS.aug2, DS.dAddI, DS.mRet, DS.mRetO, DS.mRetN, DS.mIte, DS.mApp, DS.app2, DS.isOL, DS.mSetL, DS.setL2, DS.gN, DS.gA0, DS.gA, DS.gT, DS.bindD, DS.mAsg, DS.itemsD, DS.mIt, DS.mEnum, DS.mFor, DS.svsOf, DS.slotsOf, DS.RV.sv, DS.callD, DS.roD, DS.roO, DS.mCall, DS.mCallO, DS.mIsi, DS.dIsi, DS.kindOf, DS.notOwn, DS.mRaise, DS.mSl, DS.optI, DS.dSl, DS.mPar, DS.par2, DS.R.bnd_ok, DS.R.bnd_er, DS.R.bnd_bad, DS.wb, DS.mYes, DS.isNon, DS.dIs, DS.dIsNot, ite_ap, rr1, rr2, rr3, rr4, lg8209]
    unfold m_check_picture bodyF
    generalize mLC (mIt (mVar 2)) (gN 7) mYes (mCB dTuple (mCons (mVar 7) mNil)) [7] = lcm
    simp [g_check_picture, c1, c2, is_sequence_eq, enumD, forL, lb_check_picture_1, b, DS.bodyF, DS.okArgs, DS.finR, DS.mSeq, DS.sq, DS.bnd, DS.ret, DS.bad, DS.mSet, DS.mSetO, DS.keepD, DS.mVar, DS.mC, DS.mOp2, DS.mOp1, DS.mCB, DS.opD, DS.op1D, DS.opnD, DS.RV.data, DS.datas, DS.mNil, DS.mCons, DS.dAdd, DS.dSub, DS.dMul, DS.dDiv, DS.dMod, DS.dPow, DS.dNeg, DS.dLt, DS.dLe, DS.dGt, DS.dGe, DS.dLen, DS.dTuple, DS.dList, DS.dAbs, DS.dInt, DS.dMax2, DS.dMin2, DS.asB, DS.mT, DS.mNot, DS.mAnd, DS.mOr, DS.datB, DS.mAndV, DS.mOrV, DS.mNotV, DS.mIf, DS.dats, DS.dspD, DS.mTup, DS.mLst, DS.ownL, DS.mLstO, DS.mChain, DS.mNx, DS.mBrk, DS.mCt, DS.mAug, DS.aug2, DS.dAddI, DS.mRet, DS.mRetO, DS.mRetN, DS.mIte, DS.mApp, DS.app2, DS.isOL, DS.mSetL, DS.setL2, DS.gN, DS.gA0, DS.gA, DS.gT, DS.bindD, DS.mAsg, DS.itemsD, DS.mIt, DS.mEnum, DS.mFor, DS.svsOf, DS.slotsOf, DS.RV.sv, DS.callD, DS.roD, DS.roO, DS.mCall, DS.mCallO, DS.mIsi, DS.dIsi, DS.kindOf, DS.notOwn, DS.mRaise, DS.mSl, DS.optI, DS.dSl, DS.mPar, DS.par2, DS.R.bnd_ok, DS.R.bnd_er, DS.R.bnd_bad, DS.wb, DS.mYes, DS.isNon, DS.dIs, DS.dIsNot, ite_ap, rr1, rr2, rr3, rr4, lg8209]
theorem ints_dl : ∀ xs : List Int, ints? (dl xs) = some xs
  | [] => rfl
  | x :: xs => by
    show (ints? (dl xs)).map (x :: ·) = _
    rw [ints_dl xs]
    rfl
theorem sum_const (c : Int) : ∀ bs : List (Int × Int), (bs.map fun _ => c).sum = bs.length * c
  | [] => by simp
  | b :: bs => by
    rw [List.map_cons, List.sum_cons, sum_const c bs, List.length_cons]
    have : ((bs.length + 1 : Nat) : Int) * c = bs.length * c + c := by rw [Int.natCast_add, Int.add_mul]; simp
    rw [this]; omega
theorem sum_lc {ys ps P : List Int} {c G n : Int} {bs : List (Int × Int)} (hl : bs.length ≤ 900) (x0 x1 b y x4 x5 v : SV) :
    (mLC (mIt (mVar 12)) (gT 3 (gA (gN 15) (gA (gN 16) (gA (gN 17) gA0)))) mYes (mVar 16) [15, 16, 17]) (S18 x0 x1 b y x4 x5 ys ps c G P n (bs.map (blk .tuple c)) v) = .ok (.dat (.list (dl (bs.map fun _ => c)))) (S18 x0 x1 b y x4 x5 ys ps c G P n (bs.map (blk .tuple c)) v) := by
  have g := mLC_g (mi := mIt (mVar 12)) (gm := gT 3 (gA (gN 15) (gA (gN 16) (gA (gN 17) gA0)))) (mt := mYes) (me := mVar 16) (vs := [15, 16, 17]) (ρ := S18 x0 x1 b y x4 x5 ys ps c G P n (bs.map (blk .tuple c)) v) (ρw := S18 x0 x1 b y x4 x5 ys ps c G P n (bs.map (blk .tuple c)) v) (items := bs.map (blk .tuple c)) (fun _ => true) (fun _ => .int c) (by simp [DS.bodyF, DS.okArgs, DS.finR, DS.mSeq, DS.sq, DS.bnd, DS.ret, DS.bad, DS.mSet, DS.mSetO, DS.keepD, DS.mVar, DS.mC, DS.mOp2, DS.mOp1, DS.mCB, DS.opD, DS.op1D, DS.opnD, DS.RV.data, DS.datas, DS.mNil, DS.mCons, DS.dAdd, DS.dSub, DS.dMul, DS.dDiv, DS.dMod, DS.dPow, DS.dNeg, DS.dLt, DS.dLe, DS.dGt, DS.dGe, DS.dLen, DS.dTuple, DS.dList, DS.dAbs, DS.dInt, DS.dMax2, DS.dMin2, DS.asB, DS.mT, DS.mNot, DS.mAnd, DS.mOr, DS.datB, DS.mAndV, DS.mOrV, DS.mNotV, DS.mIf, DS.dats, DS.dspD, DS.mTup, DS.mLst, DS.ownL, DS.mLstO, DS.mChain, DS.mNx, DS.mBrk, DS.mCt, DS.mAug, DS.aug2, DS.dAddI, DS.mRet, DS.mRetO, DS.mRetN, DS.mIte, DS.mApp, DS.app2, DS.isOL, DS.mSetL, DS.setL2, DS.gN, DS.gA0, DS.gA, DS.gT, DS.bindD, DS.mAsg, DS.itemsD, DS.mIt, DS.mEnum, DS.mFor, DS.svsOf, DS.slotsOf, DS.RV.sv, DS.callD, DS.roD, DS.roO, DS.mCall, DS.mCallO, DS.mIsi, DS.dIsi, DS.kindOf, DS.notOwn, DS.mRaise, DS.mSl, DS.optI, DS.dSl, DS.mPar, DS.par2, DS.R.bnd_ok, DS.R.bnd_er, DS.R.bnd_bad, DS.wb, DS.mYes, DS.isNon, DS.dIs, DS.dIsNot, ite_ap, rr1, rr2, rr3, rr4, lg8209]) rfl rfl rfl (by rw [List.length_map]; omega) (fun z hz => by
    obtain ⟨q, _, rfl⟩ := List.mem_map.mp hz
    refine ⟨[x0, x1, b, y, x4, x5, .d (.tuple (dl ys)), .d (.tuple (dl ps)), .d (.int c), .d (.int G), .d (.tuple (dl P)), .d (.int n), .d (.list (bs.map (blk .tuple c))), v, .un, .d (.int q.1), .d (.int c), .d (.int q.2)], by simp [blk, DS.bodyF, DS.okArgs, DS.finR, DS.mSeq, DS.sq, DS.bnd, DS.ret, DS.bad, DS.mSet, DS.mSetO, DS.keepD, DS.mVar, DS.mC, DS.mOp2, DS.mOp1, DS.mCB, DS.opD, DS.op1D, DS.opnD, DS.RV.data, DS.datas, DS.mNil, DS.mCons, DS.dAdd, DS.dSub, DS.dMul, DS.dDiv, DS.dMod, DS.dPow, DS.dNeg, DS.dLt, DS.dLe, DS.dGt, DS.dGe, DS.dLen, DS.dTuple, DS.dList, DS.dAbs, DS.dInt, DS.dMax2, DS.dMin2, DS.asB, DS.mT, DS.mNot, DS.mAnd, DS.mOr, DS.datB, DS.mAndV, DS.mOrV, DS.mNotV, DS.mIf, DS.dats, DS.dspD, DS.mTup, DS.mLst, DS.ownL, DS.mLstO, DS.mChain, DS.mNx, DS.mBrk, DS.mCt, DS.mAug, DS.aug2, DS.dAddI, DS.mRet, DS.mRetO, DS.mRetN, DS.mIte, DS.mApp, DS.app2, DS.isOL, DS.mSetL, DS.setL2, DS.gN, DS.gA0, DS.gA, DS.gT, DS.bindD, DS.mAsg, DS.itemsD, DS.mIt, DS.mEnum, DS.mFor, DS.svsOf, DS.slotsOf, DS.RV.sv, DS.callD, DS.roD, DS.roO, DS.mCall, DS.mCallO, DS.mIsi, DS.dIsi, DS.kindOf, DS.notOwn, DS.mRaise, DS.mSl, DS.optI, DS.dSl, DS.mPar, DS.par2, DS.R.bnd_ok, DS.R.bnd_er, DS.R.bnd_bad, DS.wb, DS.mYes, DS.isNon, DS.dIs, DS.dIsNot, ite_ap, rr1, rr2, rr3, rr4, lg8209], rfl, fun _ => by simp [DS.bodyF, DS.okArgs, DS.finR, DS.mSeq, DS.sq, DS.bnd, DS.ret, DS.bad, DS.mSet, DS.mSetO, DS.keepD, DS.mVar, DS.mC, DS.mOp2, DS.mOp1, DS.mCB, DS.opD, DS.op1D, DS.opnD, DS.RV.data, DS.datas, DS.mNil, DS.mCons, DS.dAdd, DS.dSub, DS.dMul, DS.dDiv, DS.dMod, DS.dPow, DS.dNeg, DS.dLt, DS.dLe, DS.dGt, DS.dGe, DS.dLen, DS.dTuple, DS.dList, DS.dAbs, DS.dInt, DS.dMax2, DS.dMin2, DS.asB, DS.mT, DS.mNot, DS.mAnd, DS.mOr, DS.datB, DS.mAndV, DS.mOrV, DS.mNotV, DS.mIf, DS.dats, DS.dspD, DS.mTup, DS.mLst, DS.ownL, DS.mLstO, DS.mChain, DS.mNx, DS.mBrk, DS.mCt, DS.mAug, DS.aug2, DS.dAddI, DS.mRet, DS.mRetO, DS.mRetN, DS.mIte, DS.mApp, DS.app2, DS.isOL, DS.mSetL, DS.setL2, DS.gN, DS.gA0, DS.gA, DS.gT, DS.bindD, DS.mAsg, DS.itemsD, DS.mIt, DS.mEnum, DS.mFor, DS.svsOf, DS.slotsOf, DS.RV.sv, DS.callD, DS.roD, DS.roO, DS.mCall, DS.mCallO, DS.mIsi, DS.dIsi, DS.kindOf, DS.notOwn, DS.mRaise, DS.mSl, DS.optI, DS.dSl, DS.mPar, DS.par2, DS.R.bnd_ok, DS.R.bnd_er, DS.R.bnd_bad, DS.wb, DS.mYes, DS.isNon, DS.dIs, DS.dIsNot, ite_ap, rr1, rr2, rr3, rr4, lg8209], rfl⟩)
  rw [g, List.filter_eq_self.mpr fun _ _ => rfl, List.map_map]
  congr 3
  unfold dl
  rw [List.map_map]
  rfl
theorem st_free {ys ps : List Int} {c G : Int} {R : Nat} (A : Ar ys ps c G R) {bs : List (Int × Int)} (h : Give ys ps c G R bs) (x0 x1 b y x4 x5 v : SV) {n : Int} :
    (mSet 4 (mOp2 dSub (mOp2 dMul (mCB dLen (mCons (mVar 7) mNil)) (mOp2 dIx (mVar 6) (mOp1 dNeg (mC (.int 1))))) (mCB dSumA (mCons (mLC (mIt (mVar 12)) (gT 3 (gA (gN 15) (gA (gN 16) (gA (gN 17) gA0)))) mYes (mVar 16) [15, 16, 17]) mNil)))) (S18 x0 x1 b y x4 x5 ys ps c G (plI ys ps G) n (bs.map (blk .tuple c)) v) = .ok .nx (S18 x0 x1 b y (.d (.int G)) x5 ys ps c G (plI ys ps G) n (bs.map (blk .tuple c)) v) := by
  have lc := sum_lc (ys := ys) (ps := ps) (P := plI ys ps G) (c := c) (G := G) (n := n) (bs := bs) (by have := h.pic.len; omega) x0 x1 b y x4 x5 v
  have sm : dSumA [.list (dl (bs.map fun _ => c))] = some (.int (bs.length * c)) := by
    have q := ints_dl (bs.map fun _ => c)
    show (ints? (dl (bs.map fun _ => c))).map (fun ns => PyData.int ns.sum) = _
    rw [q, ← sum_const c bs]
    rfl
  have l1 := at_l1 A.hs.1
  have lp := A.hs.lastp
  have h7 := A.hp.2.2.1
  have mo : mulOk (ps.length : Int) (lastI ys) = true := mulOk_s (big (by omega) (by omega)) (big (by omega) (by omega))
  have ef := h.free A
  generalize (mLC (mIt (mVar 12)) (gT 3 (gA (gN 15) (gA (gN 16) (gA (gN 17) gA0)))) mYes (mVar 16) [15, 16, 17]) = lcm at lc ⊢
  generalize dl (bs.map fun _ => c) = S at lc sm
  generalize bs.map (blk .tuple c) = O at lc ⊢
  simp [lc, sm, dIx, l1, mo, dl_len, ef, sl2, DS.bodyF, DS.okArgs, DS.finR, DS.mSeq, DS.sq, DS.bnd, DS.ret, DS.bad, DS.mSet, DS.mSetO, DS.keepD, DS.mVar, DS.mC, DS.mOp2, DS.mOp1, DS.mCB, DS.opD, DS.op1D, DS.opnD, DS.RV.data, DS.datas, DS.mNil, DS.mCons, DS.dAdd, DS.dSub, DS.dMul, DS.dDiv, DS.dMod, DS.dPow, DS.dNeg, DS.dLt, DS.dLe, DS.dGt, DS.dGe, DS.dLen, DS.dTuple, DS.dList, DS.dAbs, DS.dInt, DS.dMax2, DS.dMin2, DS.asB, DS.mT, DS.mNot, DS.mAnd, DS.mOr, DS.datB, DS.mAndV, DS.mOrV, DS.mNotV, DS.mIf, DS.dats, DS.dspD, DS.mTup, DS.mLst, DS.ownL, DS.mLstO, DS.mChain, DS.mNx, DS.mBrk, DS.mCt, DS.mAug, DS.aug2, DS.dAddI, DS.mRet, DS.mRetO, DS.mRetN, DS.mIte, DS.mApp, DS.app2, DS.isOL, DS.mSetL, DS.setL2, DS.gN, DS.gA0, DS.gA, DS.gT, DS.bindD, DS.mAsg, DS.itemsD, DS.mIt, DS.mEnum, DS.mFor, DS.svsOf, DS.slotsOf, DS.RV.sv, DS.callD, DS.roD, DS.roO, DS.mCall, DS.mCallO, DS.mIsi, DS.dIsi, DS.kindOf, DS.notOwn, DS.mRaise, DS.mSl, DS.optI, DS.dSl, DS.mPar, DS.par2, DS.R.bnd_ok, DS.R.bnd_er, DS.R.bnd_bad, DS.wb, DS.mYes, DS.isNon, DS.dIs, DS.dIsNot, ite_ap, rr1, rr2, rr3, rr4, lg8209]
theorem ck7 {ys ps : List Int} {c G : Int} {R : Nat} (A : Ar ys ps c G R) {bs : List (Int × Int)} (h : Give ys ps c G R bs) (x0 x1 b y x5 v : SV) {n : Int} :
    (mIte (mOr (mT (mOp2 dNe (mVar 4) (mVar 9))) (mT (mOp2 dNe (mCall m__law_free (mCons (mVar 6) (mCons (mVar 7) (mCons (mVar 12) (mCons (mVar 9) mNil))))) (mLst mNil)))) (mRet (g := g_law) (mC (.bool false))) mNx) (S18 x0 x1 b y (.d (.int G)) x5 ys ps c G (plI ys ps G) n (bs.map (blk .tuple c)) v) = .ok .nx (S18 x0 x1 b y (.d (.int G)) x5 ys ps c G (plI ys ps G) n (bs.map (blk .tuple c)) v) := by
  have e := law_free_eq A.hs A.hp A.hc A.hc2 A.hd h.pic (pic_cap A h.pic) A.G0 A.hG2 A.hdG
  rw [h.none A] at e
  have e : m__law_free [.d (.tuple (dl ys)), .d (.tuple (dl ps)), .d (.list (bs.map (blk .tuple c))), .d (.int G)] = .ok (.new (.ol [])) [.d (.tuple (dl ys)), .d (.tuple (dl ps)), .d (.list (bs.map (blk .tuple c))), .d (.int G)] := e
  have nl : dNe (.list []) (.list []) = some (.bool false) := by
    have := eq_dl (mk := .list) (.inl rfl) [] []
    rw [show dl [] = [] from rfl] at this
    simp [dNe, this]
  refine ite_no (or_no (t_no ?_) (t_no ?_))
  · simp [ne_int, DS.bodyF, DS.okArgs, DS.finR, DS.mSeq, DS.sq, DS.bnd, DS.ret, DS.bad, DS.mSet, DS.mSetO, DS.keepD, DS.mVar, DS.mC, DS.mOp2, DS.mOp1, DS.mCB, DS.opD, DS.op1D, DS.opnD, DS.RV.data, DS.datas, DS.mNil, DS.mCons, DS.dAdd, DS.dSub, DS.dMul, DS.dDiv, DS.dMod, DS.dPow, DS.dNeg, DS.dLt, DS.dLe, DS.dGt, DS.dGe, DS.dLen, DS.dTuple, DS.dList, DS.dAbs, DS.dInt, DS.dMax2, DS.dMin2, DS.asB, DS.mT, DS.mNot, DS.mAnd, DS.mOr, DS.datB, DS.mAndV, DS.mOrV, DS.mNotV, DS.mIf, DS.dats, DS.dspD, DS.mTup, DS.mLst, DS.ownL, DS.mLstO, DS.mChain, DS.mNx, DS.mBrk, DS.mCt, DS.mAug, DS.aug2, DS.dAddI, DS.mRet, DS.mRetO, DS.mRetN, DS.mIte, DS.mApp, DS.app2, DS.isOL, DS.mSetL, DS.setL2, DS.gN, DS.gA0, DS.gA, DS.gT, DS.bindD, DS.mAsg, DS.itemsD, DS.mIt, DS.mEnum, DS.mFor, DS.svsOf, DS.slotsOf, DS.RV.sv, DS.callD, DS.roD, DS.roO, DS.mCall, DS.mCallO, DS.mIsi, DS.dIsi, DS.kindOf, DS.notOwn, DS.mRaise, DS.mSl, DS.optI, DS.dSl, DS.mPar, DS.par2, DS.R.bnd_ok, DS.R.bnd_er, DS.R.bnd_bad, DS.wb, DS.mYes, DS.isNon, DS.dIs, DS.dIsNot, ite_ap, rr1, rr2, rr3, rr4, lg8209]
  · generalize bs.map (blk .tuple c) = O at e ⊢
    simp [e, nl, sl2, DS.bodyF, DS.okArgs, DS.finR, DS.mSeq, DS.sq, DS.bnd, DS.ret, DS.bad, DS.mSet, DS.mSetO, DS.keepD, DS.mVar, DS.mC, DS.mOp2, DS.mOp1, DS.mCB, DS.opD, DS.op1D, DS.opnD, DS.RV.data, DS.datas, DS.mNil, DS.mCons, DS.dAdd, DS.dSub, DS.dMul, DS.dDiv, DS.dMod, DS.dPow, DS.dNeg, DS.dLt, DS.dLe, DS.dGt, DS.dGe, DS.dLen, DS.dTuple, DS.dList, DS.dAbs, DS.dInt, DS.dMax2, DS.dMin2, DS.asB, DS.mT, DS.mNot, DS.mAnd, DS.mOr, DS.datB, DS.mAndV, DS.mOrV, DS.mNotV, DS.mIf, DS.dats, DS.dspD, DS.mTup, DS.mLst, DS.ownL, DS.mLstO, DS.mChain, DS.mNx, DS.mBrk, DS.mCt, DS.mAug, DS.aug2, DS.dAddI, DS.mRet, DS.mRetO, DS.mRetN, DS.mIte, DS.mApp, DS.app2, DS.isOL, DS.mSetL, DS.setL2, DS.gN, DS.gA0, DS.gA, DS.gT, DS.bindD, DS.mAsg, DS.itemsD, DS.mIt, DS.mEnum, DS.mFor, DS.svsOf, DS.slotsOf, DS.RV.sv, DS.callD, DS.roD, DS.roO, DS.mCall, DS.mCallO, DS.mIsi, DS.dIsi, DS.kindOf, DS.notOwn, DS.mRaise, DS.mSl, DS.optI, DS.dSl, DS.mPar, DS.par2, DS.R.bnd_ok, DS.R.bnd_er, DS.R.bnd_bad, DS.wb, DS.mYes, DS.isNon, DS.dIs, DS.dIsNot, ite_ap, rr1, rr2, rr3, rr4, lg8209]
theorem st_bad {b : SV} (h : Bx b) {n : Int} (x0 x1 y x4 x5 x6 x7 x8 x9 x10 : SV) (r : List SV) : ∃ x b', x ∈ badT n ∧ Bx b' ∧ (mSet 5 (mCall m__law_pick (mCons (mVar 2) (mCons (mLst (mCons (mVar 11) (mCons (mOp2 dSub (mC (.int 0)) (mC (.int 1))) (mCons (mC .none) (mCons (mC (.bool true)) (mCons (mC (.str "0")) (mCons (mTup (mCons (mC (.int 0)) mNil)) mNil))))))) mNil)))) (x0 :: x1 :: b :: y :: x4 :: x5 :: x6 :: x7 :: x8 :: x9 :: x10 :: .d (.int n) :: r) = .ok .nx (x0 :: x1 :: b' :: y :: x4 :: .d x :: x6 :: x7 :: x8 :: x9 :: x10 :: .d (.int n) :: r) := by
  obtain ⟨x, b', e, xm, h'⟩ := pick_bx h (xs := badT n) (by simp [badT]) (by simp [badT])
  obtain ⟨g, st, rfl, _⟩ := h
  refine ⟨x, b', xm, h', ?_⟩
  simp only [badT] at e
  simp [e, sl2, DS.bodyF, DS.okArgs, DS.finR, DS.mSeq, DS.sq, DS.bnd, DS.ret, DS.bad, DS.mSet, DS.mSetO, DS.keepD, DS.mVar, DS.mC, DS.mOp2, DS.mOp1, DS.mCB, DS.opD, DS.op1D, DS.opnD, DS.RV.data, DS.datas, DS.mNil, DS.mCons, DS.dAdd, DS.dSub, DS.dMul, DS.dDiv, DS.dMod, DS.dPow, DS.dNeg, DS.dLt, DS.dLe, DS.dGt, DS.dGe, DS.dLen, DS.dTuple, DS.dList, DS.dAbs, DS.dInt, DS.dMax2, DS.dMin2, DS.asB, DS.mT, DS.mNot, DS.mAnd, DS.mOr, DS.datB, DS.mAndV, DS.mOrV, DS.mNotV, DS.mIf, DS.dats, DS.dspD, DS.mTup, DS.mLst, DS.ownL, DS.mLstO, DS.mChain, DS.mNx, DS.mBrk, DS.mCt, DS.mAug, DS.aug2, DS.dAddI, DS.mRet, DS.mRetO, DS.mRetN, DS.mIte, DS.mApp, DS.app2, DS.isOL, DS.mSetL, DS.setL2, DS.gN, DS.gA0, DS.gA, DS.gT, DS.bindD, DS.mAsg, DS.itemsD, DS.mIt, DS.mEnum, DS.mFor, DS.svsOf, DS.slotsOf, DS.RV.sv, DS.callD, DS.roD, DS.roO, DS.mCall, DS.mCallO, DS.mIsi, DS.dIsi, DS.kindOf, DS.notOwn, DS.mRaise, DS.mSl, DS.optI, DS.dSl, DS.mPar, DS.par2, DS.R.bnd_ok, DS.R.bnd_er, DS.R.bnd_bad, DS.wb, DS.mYes, DS.isNon, DS.dIs, DS.dIsNot, ite_ap, rr1, rr2, rr3, rr4, lg8209]
theorem ck9 {ys ps : List Int} {c G : Int} {R : Nat} (A : Ar ys ps c G R) {x : PyData} (h : x ∈ badT ((plI ys ps c).length + R + 1)) (x0 x1 b y x4 : SV) (r : List SV) :
    (mIte (mT (mOp2 dNe (mHeard (fun _ => some .none) er__law_refused (mCall m_foe_request (mCons (mVar 6) (mCons (mVar 7) (mCons (mVar 5) (mCons (mC .none) mNil)))))) (mTup (mCons (mC (.str "refused")) (mCons (mCB dRepr (mCons (mVar 5) mNil)) mNil))))) (mRet (g := g_law) (mC (.bool false))) mNx) (x0 :: x1 :: b :: y :: x4 :: .d x :: .d (.tuple (dl ys)) :: .d (.tuple (dl ps)) :: r) = .ok .nx (x0 :: x1 :: b :: y :: x4 :: .d x :: .d (.tuple (dl ys)) :: .d (.tuple (dl ps)) :: r) := by
  have u4 := A.Ulen.1
  have r64 := A.R64
  obtain ⟨hx, s, q, k⟩ := badT_facts (by unfold Sm; omega) h
  rw [← A.nat] at hx
  have e := req_badT (m1 := .tuple) (m2 := .tuple) (.inr rfl) (.inr rfl) A hx .none
  exact heard_no (by simp [e, DS.bodyF, DS.okArgs, DS.finR, DS.mSeq, DS.sq, DS.bnd, DS.ret, DS.bad, DS.mSet, DS.mSetO, DS.keepD, DS.mVar, DS.mC, DS.mOp2, DS.mOp1, DS.mCB, DS.opD, DS.op1D, DS.opnD, DS.RV.data, DS.datas, DS.mNil, DS.mCons, DS.dAdd, DS.dSub, DS.dMul, DS.dDiv, DS.dMod, DS.dPow, DS.dNeg, DS.dLt, DS.dLe, DS.dGt, DS.dGe, DS.dLen, DS.dTuple, DS.dList, DS.dAbs, DS.dInt, DS.dMax2, DS.dMin2, DS.asB, DS.mT, DS.mNot, DS.mAnd, DS.mOr, DS.datB, DS.mAndV, DS.mOrV, DS.mNotV, DS.mIf, DS.dats, DS.dspD, DS.mTup, DS.mLst, DS.ownL, DS.mLstO, DS.mChain, DS.mNx, DS.mBrk, DS.mCt, DS.mAug, DS.aug2, DS.dAddI, DS.mRet, DS.mRetO, DS.mRetN, DS.mIte, DS.mApp, DS.app2, DS.isOL, DS.mSetL, DS.setL2, DS.gN, DS.gA0, DS.gA, DS.gT, DS.bindD, DS.mAsg, DS.itemsD, DS.mIt, DS.mEnum, DS.mFor, DS.svsOf, DS.slotsOf, DS.RV.sv, DS.callD, DS.roD, DS.roO, DS.mCall, DS.mCallO, DS.mIsi, DS.dIsi, DS.kindOf, DS.notOwn, DS.mRaise, DS.mSl, DS.optI, DS.dSl, DS.mPar, DS.par2, DS.R.bnd_ok, DS.R.bnd_er, DS.R.bnd_bad, DS.wb, DS.mYes, DS.isNon, DS.dIs, DS.dIsNot, ite_ap, rr1, rr2, rr3, rr4, lg8209]) (er_ref q) (by simp [q, sl2, DS.bodyF, DS.okArgs, DS.finR, DS.mSeq, DS.sq, DS.bnd, DS.ret, DS.bad, DS.mSet, DS.mSetO, DS.keepD, DS.mVar, DS.mC, DS.mOp2, DS.mOp1, DS.mCB, DS.opD, DS.op1D, DS.opnD, DS.RV.data, DS.datas, DS.mNil, DS.mCons, DS.dAdd, DS.dSub, DS.dMul, DS.dDiv, DS.dMod, DS.dPow, DS.dNeg, DS.dLt, DS.dLe, DS.dGt, DS.dGe, DS.dLen, DS.dTuple, DS.dList, DS.dAbs, DS.dInt, DS.dMax2, DS.dMin2, DS.asB, DS.mT, DS.mNot, DS.mAnd, DS.mOr, DS.datB, DS.mAndV, DS.mOrV, DS.mNotV, DS.mIf, DS.dats, DS.dspD, DS.mTup, DS.mLst, DS.ownL, DS.mLstO, DS.mChain, DS.mNx, DS.mBrk, DS.mCt, DS.mAug, DS.aug2, DS.dAddI, DS.mRet, DS.mRetO, DS.mRetN, DS.mIte, DS.mApp, DS.app2, DS.isOL, DS.mSetL, DS.setL2, DS.gN, DS.gA0, DS.gA, DS.gT, DS.bindD, DS.mAsg, DS.itemsD, DS.mIt, DS.mEnum, DS.mFor, DS.svsOf, DS.slotsOf, DS.RV.sv, DS.callD, DS.roD, DS.roO, DS.mCall, DS.mCallO, DS.mIsi, DS.dIsi, DS.kindOf, DS.notOwn, DS.mRaise, DS.mSl, DS.optI, DS.dSl, DS.mPar, DS.par2, DS.R.bnd_ok, DS.R.bnd_er, DS.R.bnd_bad, DS.wb, DS.mYes, DS.isNon, DS.dIs, DS.dIsNot, ite_ap, rr1, rr2, rr3, rr4, lg8209]) (by decide +kernel) k
theorem ck10 {ys ps : List Int} {c G : Int} {R : Nat} (A : Ar ys ps c G R) {b : SV} (h : Bx b) (x0 x1 y x4 x5 : SV) (r : List SV) : ∃ b', Bx b' ∧
    (mIte (mT (mOp2 dNe (mHeard (fun _ => some .none) er__law_refused (mCall m_foe_request (mCons (mVar 6) (mCons (mVar 7) (mCons (mC (.int 0)) (mCons (mCall m__law_pick (mCons (mVar 2) (mCons (mLst (mCons (mC .none) (mCons (mTup (mCons (mTup (mCons (mC (.int 0)) (mCons (mC (.int 0)) (mCons (mC (.int 0)) mNil)))) mNil)) (mCons (mTup (mCons (mTup (mCons (mC (.int 0)) (mCons (mVar 8) mNil))) mNil)) mNil)))) mNil))) mNil)))))) (mC (.str "picture")))) (mRet (g := g_law) (mC (.bool false))) mNx) (x0 :: x1 :: b :: y :: x4 :: x5 :: .d (.tuple (dl ys)) :: .d (.tuple (dl ps)) :: .d (.int c) :: r) = .ok .nx (x0 :: x1 :: b' :: y :: x4 :: x5 :: .d (.tuple (dl ys)) :: .d (.tuple (dl ps)) :: .d (.int c) :: r) := by
  obtain ⟨v, b', e, vm, h'⟩ := pick_bx h (xs := badV c) (by simp [badV]) (by simp [badV])
  obtain ⟨a, ec⟩ := cp_bad A.hs A.hp vm
  have er := req_badP (m1 := .tuple) (m2 := .tuple) (.inr rfl) (.inr rfl) A ec
  obtain ⟨g, st, rfl, _⟩ := h
  refine ⟨b', h', ?_⟩
  simp only [badV] at e
  have ep := er_pic (.int a)
  have nn : dNe (.str "picture") (.str "picture") = some (.bool false) := by simp [dNe, dEqB]
  simp [e, er, ep, nn, mHeard, sl2, DS.bodyF, DS.okArgs, DS.finR, DS.mSeq, DS.sq, DS.bnd, DS.ret, DS.bad, DS.mSet, DS.mSetO, DS.keepD, DS.mVar, DS.mC, DS.mOp2, DS.mOp1, DS.mCB, DS.opD, DS.op1D, DS.opnD, DS.RV.data, DS.datas, DS.mNil, DS.mCons, DS.dAdd, DS.dSub, DS.dMul, DS.dDiv, DS.dMod, DS.dPow, DS.dNeg, DS.dLt, DS.dLe, DS.dGt, DS.dGe, DS.dLen, DS.dTuple, DS.dList, DS.dAbs, DS.dInt, DS.dMax2, DS.dMin2, DS.asB, DS.mT, DS.mNot, DS.mAnd, DS.mOr, DS.datB, DS.mAndV, DS.mOrV, DS.mNotV, DS.mIf, DS.dats, DS.dspD, DS.mTup, DS.mLst, DS.ownL, DS.mLstO, DS.mChain, DS.mNx, DS.mBrk, DS.mCt, DS.mAug, DS.aug2, DS.dAddI, DS.mRet, DS.mRetO, DS.mRetN, DS.mIte, DS.mApp, DS.app2, DS.isOL, DS.mSetL, DS.setL2, DS.gN, DS.gA0, DS.gA, DS.gT, DS.bindD, DS.mAsg, DS.itemsD, DS.mIt, DS.mEnum, DS.mFor, DS.svsOf, DS.slotsOf, DS.RV.sv, DS.callD, DS.roD, DS.roO, DS.mCall, DS.mCallO, DS.mIsi, DS.dIsi, DS.kindOf, DS.notOwn, DS.mRaise, DS.mSl, DS.optI, DS.dSl, DS.mPar, DS.par2, DS.R.bnd_ok, DS.R.bnd_er, DS.R.bnd_bad, DS.wb, DS.mYes, DS.isNon, DS.dIs, DS.dIsNot, ite_ap, rr1, rr2, rr3, rr4, lg8209]
theorem st_turn {ys ps : List Int} {c G : Int} {R : Nat} (A : Ar ys ps c G R) {b : SV} (h : Bx b) (x0 x1 y x4 x5 x6 x7 : SV) (r : List SV) : ∃ (t : Nat) (b' : SV), (t = (plI ys ps G).length * R ∨ t = (plI ys ps G).length * R + 1) ∧ Bx b' ∧
    (mSet 3 (mOp2 dAdd (mOp2 dMul (mCB dLen (mCons (mVar 10) mNil)) (mOp2 dDiv (mVar 9) (mVar 8))) (mCall m__law_take (mCons (mVar 2) (mCons (mC (.int 2)) mNil))))) (x0 :: x1 :: b :: y :: x4 :: x5 :: x6 :: x7 :: .d (.int c) :: .d (.int G) :: .d (.tuple (dl (plI ys ps G))) :: r) = .ok .nx (x0 :: x1 :: b' :: .d (.int t) :: x4 :: x5 :: x6 :: x7 :: .d (.int c) :: .d (.int G) :: .d (.tuple (dl (plI ys ps G))) :: r) := by
  obtain ⟨d, b2, e2, d0, d1, h2⟩ := take_bx h (n := 2) (by omega) (t60 (by omega))
  obtain ⟨g, st, rfl, _⟩ := h
  have dv := A.div
  have lg := A.lg
  have mo := A.mo
  have hc := A.hc
  have nb := A.N448
  have q : ((((plI ys ps G).length * R : Nat)) : Int) = (plI ys ps G).length * R := by simp
  refine ⟨(plI ys ps G).length * R + d.toNat, b2, by omega, h2, ?_⟩
  have et : (((plI ys ps G).length * R + d.toNat : Nat) : Int) = (plI ys ps G).length * R + d := by
    rw [Int.natCast_add, q]; omega
  rw [et]
  clear q et
  generalize plI ys ps G = P at mo nb ⊢
  simp [e2, lg, hc, dv, mo, dl_len, sl2, nb, DS.bodyF, DS.okArgs, DS.finR, DS.mSeq, DS.sq, DS.bnd, DS.ret, DS.bad, DS.mSet, DS.mSetO, DS.keepD, DS.mVar, DS.mC, DS.mOp2, DS.mOp1, DS.mCB, DS.opD, DS.op1D, DS.opnD, DS.RV.data, DS.datas, DS.mNil, DS.mCons, DS.dAdd, DS.dSub, DS.dMul, DS.dDiv, DS.dMod, DS.dPow, DS.dNeg, DS.dLt, DS.dLe, DS.dGt, DS.dGe, DS.dLen, DS.dTuple, DS.dList, DS.dAbs, DS.dInt, DS.dMax2, DS.dMin2, DS.asB, DS.mT, DS.mNot, DS.mAnd, DS.mOr, DS.datB, DS.mAndV, DS.mOrV, DS.mNotV, DS.mIf, DS.dats, DS.dspD, DS.mTup, DS.mLst, DS.ownL, DS.mLstO, DS.mChain, DS.mNx, DS.mBrk, DS.mCt, DS.mAug, DS.aug2, DS.dAddI, DS.mRet, DS.mRetO, DS.mRetN, DS.mIte, DS.mApp, DS.app2, DS.isOL, DS.mSetL, DS.setL2, DS.gN, DS.gA0, DS.gA, DS.gT, DS.bindD, DS.mAsg, DS.itemsD, DS.mIt, DS.mEnum, DS.mFor, DS.svsOf, DS.slotsOf, DS.RV.sv, DS.callD, DS.roD, DS.roO, DS.mCall, DS.mCallO, DS.mIsi, DS.dIsi, DS.kindOf, DS.notOwn, DS.mRaise, DS.mSl, DS.optI, DS.dSl, DS.mPar, DS.par2, DS.R.bnd_ok, DS.R.bnd_er, DS.R.bnd_bad, DS.wb, DS.mYes, DS.isNon, DS.dIs, DS.dIsNot, ite_ap, rr1, rr2, rr3, rr4, lg8209]
theorem ck12 {ys ps : List Int} {c G : Int} {R : Nat} (A : Ar ys ps c G R) {t : Nat} (ht : t = (plI ys ps G).length * R ∨ t = (plI ys ps G).length * R + 1) (x0 x1 b x4 x5 : SV) (r : List SV) :
    (mIte (mT (mOp2 dNe (mHeard (fun _ => some .none) er__law_refused (mCall m_foe_request (mCons (mVar 6) (mCons (mVar 7) (mCons (mVar 3) (mCons (mTup mNil) mNil)))))) (mTup (mCons (mC (.str "refused")) (mCons (mC (.str "()")) mNil))))) (mRet (g := g_law) (mC (.bool false))) mNx) (x0 :: x1 :: b :: .d (.int t) :: x4 :: x5 :: .d (.tuple (dl ys)) :: .d (.tuple (dl ps)) :: r) = .ok .nx (x0 :: x1 :: b :: .d (.int t) :: x4 :: x5 :: .d (.tuple (dl ys)) :: .d (.tuple (dl ps)) :: r) := by
  have e := req_none (m1 := .tuple) (m2 := .tuple) (.inr rfl) (.inr rfl) A ht
  exact heard_no (by simp [e, DS.bodyF, DS.okArgs, DS.finR, DS.mSeq, DS.sq, DS.bnd, DS.ret, DS.bad, DS.mSet, DS.mSetO, DS.keepD, DS.mVar, DS.mC, DS.mOp2, DS.mOp1, DS.mCB, DS.opD, DS.op1D, DS.opnD, DS.RV.data, DS.datas, DS.mNil, DS.mCons, DS.dAdd, DS.dSub, DS.dMul, DS.dDiv, DS.dMod, DS.dPow, DS.dNeg, DS.dLt, DS.dLe, DS.dGt, DS.dGe, DS.dLen, DS.dTuple, DS.dList, DS.dAbs, DS.dInt, DS.dMax2, DS.dMin2, DS.asB, DS.mT, DS.mNot, DS.mAnd, DS.mOr, DS.datB, DS.mAndV, DS.mOrV, DS.mNotV, DS.mIf, DS.dats, DS.dspD, DS.mTup, DS.mLst, DS.ownL, DS.mLstO, DS.mChain, DS.mNx, DS.mBrk, DS.mCt, DS.mAug, DS.aug2, DS.dAddI, DS.mRet, DS.mRetO, DS.mRetN, DS.mIte, DS.mApp, DS.app2, DS.isOL, DS.mSetL, DS.setL2, DS.gN, DS.gA0, DS.gA, DS.gT, DS.bindD, DS.mAsg, DS.itemsD, DS.mIt, DS.mEnum, DS.mFor, DS.svsOf, DS.slotsOf, DS.RV.sv, DS.callD, DS.roD, DS.roO, DS.mCall, DS.mCallO, DS.mIsi, DS.dIsi, DS.kindOf, DS.notOwn, DS.mRaise, DS.mSl, DS.optI, DS.dSl, DS.mPar, DS.par2, DS.R.bnd_ok, DS.R.bnd_er, DS.R.bnd_bad, DS.wb, DS.mYes, DS.isNon, DS.dIs, DS.dIsNot, ite_ap, rr1, rr2, rr3, rr4, lg8209]) (er_ref rp_t0) (by simp [sl2, DS.bodyF, DS.okArgs, DS.finR, DS.mSeq, DS.sq, DS.bnd, DS.ret, DS.bad, DS.mSet, DS.mSetO, DS.keepD, DS.mVar, DS.mC, DS.mOp2, DS.mOp1, DS.mCB, DS.opD, DS.op1D, DS.opnD, DS.RV.data, DS.datas, DS.mNil, DS.mCons, DS.dAdd, DS.dSub, DS.dMul, DS.dDiv, DS.dMod, DS.dPow, DS.dNeg, DS.dLt, DS.dLe, DS.dGt, DS.dGe, DS.dLen, DS.dTuple, DS.dList, DS.dAbs, DS.dInt, DS.dMax2, DS.dMin2, DS.asB, DS.mT, DS.mNot, DS.mAnd, DS.mOr, DS.datB, DS.mAndV, DS.mOrV, DS.mNotV, DS.mIf, DS.dats, DS.dspD, DS.mTup, DS.mLst, DS.ownL, DS.mLstO, DS.mChain, DS.mNx, DS.mBrk, DS.mCt, DS.mAug, DS.aug2, DS.dAddI, DS.mRet, DS.mRetO, DS.mRetN, DS.mIte, DS.mApp, DS.app2, DS.isOL, DS.mSetL, DS.setL2, DS.gN, DS.gA0, DS.gA, DS.gT, DS.bindD, DS.mAsg, DS.itemsD, DS.mIt, DS.mEnum, DS.mFor, DS.svsOf, DS.slotsOf, DS.RV.sv, DS.callD, DS.roD, DS.roO, DS.mCall, DS.mCallO, DS.mIsi, DS.dIsi, DS.kindOf, DS.notOwn, DS.mRaise, DS.mSl, DS.optI, DS.dSl, DS.mPar, DS.par2, DS.R.bnd_ok, DS.R.bnd_er, DS.R.bnd_bad, DS.wb, DS.mYes, DS.isNon, DS.dIs, DS.dIsNot, ite_ap, rr1, rr2, rr3, rr4, lg8209]) (by decide +kernel) (by decide +kernel)
end Zk32
end
section
set_option pp.maxSteps 400
set_option Elab.async false
set_option linter.all false
set_option maxRecDepth 100000
set_option maxHeartbeats 8000000
namespace Zk32
open PySem PySem.Spec PyProof.Rows L2 DS
def top (i : Nat) : Stmt := PySem.Challenge.pw_whatmovesbuy_k32_whole_what_the_foe_asks.main.body.getD i (.Pass ⟨0, 0, 0, 0⟩)
abbrev s__law_box : Stmt := top 33
abbrev s_is_sequence : Stmt := top 13
abbrev s_is_integer : Stmt := top 10
abbrev s_is_positive : Stmt := top 12
abbrev s_is_next : Stmt := top 15
abbrev s_check_sizes : Stmt := top 16
abbrev s_is_number : Stmt := top 11
abbrev s_check_pages : Stmt := top 17
abbrev s_arena : Stmt := top 28
abbrev s__law_take : Stmt := top 34
abbrev s__law_pick : Stmt := top 35
abbrev s__law_sizes : Stmt := top 36
abbrev s__law_pages : Stmt := top 37
abbrev s_foe_many : Stmt := top 29
abbrev s_cells_of : Stmt := top 21
abbrev s_hold : Stmt := top 22
abbrev s_in_pages : Stmt := top 20
abbrev s_is_block : Stmt := top 23
abbrev s_check_picture : Stmt := top 24
abbrev s_least_in : Stmt := top 30
abbrev s_foe_request : Stmt := top 31
abbrev s__law_refused : Stmt := top 41
abbrev s__law_cells : Stmt := top 38
abbrev s__law_free : Stmt := top 39
abbrev s__law_due : Stmt := top 40
abbrev s_law : Stmt := top 42
structure Ad where
  f__law_box : Addr
  fd__law_box : FuncData
  f_is_sequence : Addr
  fd_is_sequence : FuncData
  f_is_integer : Addr
  fd_is_integer : FuncData
  f_is_positive : Addr
  fd_is_positive : FuncData
  f_is_next : Addr
  fd_is_next : FuncData
  f_check_sizes : Addr
  fd_check_sizes : FuncData
  f_is_number : Addr
  fd_is_number : FuncData
  f_check_pages : Addr
  fd_check_pages : FuncData
  f_arena : Addr
  fd_arena : FuncData
  f__law_take : Addr
  fd__law_take : FuncData
  f__law_pick : Addr
  fd__law_pick : FuncData
  f__law_sizes : Addr
  fd__law_sizes : FuncData
  f__law_pages : Addr
  fd__law_pages : FuncData
  f_foe_many : Addr
  fd_foe_many : FuncData
  f_cells_of : Addr
  fd_cells_of : FuncData
  f_hold : Addr
  fd_hold : FuncData
  f_in_pages : Addr
  fd_in_pages : FuncData
  f_is_block : Addr
  fd_is_block : FuncData
  f_check_picture : Addr
  fd_check_picture : FuncData
  f_least_in : Addr
  fd_least_in : FuncData
  f_foe_request : Addr
  fd_foe_request : FuncData
  f__law_refused : Addr
  fd__law_refused : FuncData
  f__law_cells : Addr
  fd__law_cells : FuncData
  f__law_free : Addr
  fd__law_free : FuncData
  f__law_due : Addr
  fd__law_due : FuncData
  f_law : Addr
  fd_law : FuncData
  C_BadPages : Addr
  i_BadPages : Addr
  C_BadPicture : Addr
  i_BadPicture : Addr
  C_BadSizes : Addr
  i_BadSizes : Addr
  C_Refused : Addr
  i_Refused : Addr
  cL : Addr
  pL : Addr
def sp__law_refused (A : Ad) : List CSpec := [⟨"BadPicture", "at", A.C_BadPicture, (fun _ => some (.str "picture"))⟩, ⟨"Refused", "value", A.C_Refused, out2 "refused"⟩]
/-- what the top has written -/
structure Txt (K : PySem.W.Frag) (mg : Str → Option Value) (A : Ad) : Prop where
  n_abs : mg "abs" = none
  n_any : mg "any" = none
  n_bool : mg "bool" = none
  n_enumerate : mg "enumerate" = none
  n_int : mg "int" = none
  n_isinstance : mg "isinstance" = none
  n_len : mg "len" = none
  n_list : mg "list" = none
  n_min : mg "min" = none
  n_range : mg "range" = none
  n_repr : mg "repr" = none
  n_sorted : mg "sorted" = none
  n_sum : mg "sum" = none
  n_tuple : mg "tuple" = none
  c_BLOCK_PARTS : ∃ t, mg "BLOCK_PARTS" = some (.int 3 t)
  c_GIVE : ∃ t, mg "GIVE" = some (.str "give" t)
  c_MOST_PAGES : ∃ t, mg "MOST_PAGES" = some (.int 64 t)
  c_MOST_SIZE : ∃ t, mg "MOST_SIZE" = some (.int 64 t)
  c_MOST_SIZES : ∃ t, mg "MOST_SIZES" = some (.int 5 t)
  c_TAKE : ∃ t, mg "TAKE" = some (.str "take" t)
  g__law_box : mg "_law_box" = some (.ref A.f__law_box)
  F__law_box : Fun K "_law_box" "_law_box" s__law_box A.f__law_box A.fd__law_box
  g_is_sequence : mg "is_sequence" = some (.ref A.f_is_sequence)
  F_is_sequence : Fun K "is_sequence" "is_sequence" s_is_sequence A.f_is_sequence A.fd_is_sequence
  g_is_integer : mg "is_integer" = some (.ref A.f_is_integer)
  F_is_integer : Fun K "is_integer" "is_integer" s_is_integer A.f_is_integer A.fd_is_integer
  g_is_positive : mg "is_positive" = some (.ref A.f_is_positive)
  F_is_positive : Fun K "is_positive" "is_positive" s_is_positive A.f_is_positive A.fd_is_positive
  g_is_next : mg "is_next" = some (.ref A.f_is_next)
  F_is_next : Fun K "is_next" "is_next" s_is_next A.f_is_next A.fd_is_next
  g_check_sizes : mg "check_sizes" = some (.ref A.f_check_sizes)
  F_check_sizes : Fun K "check_sizes" "check_sizes" s_check_sizes A.f_check_sizes A.fd_check_sizes
  g_is_number : mg "is_number" = some (.ref A.f_is_number)
  F_is_number : Fun K "is_number" "is_number" s_is_number A.f_is_number A.fd_is_number
  g_check_pages : mg "check_pages" = some (.ref A.f_check_pages)
  F_check_pages : Fun K "check_pages" "check_pages" s_check_pages A.f_check_pages A.fd_check_pages
  g_arena : mg "arena" = some (.ref A.f_arena)
  F_arena : Fun K "arena" "arena" s_arena A.f_arena A.fd_arena
  g__law_take : mg "_law_take" = some (.ref A.f__law_take)
  F__law_take : Fun K "_law_take" "_law_take" s__law_take A.f__law_take A.fd__law_take
  g__law_pick : mg "_law_pick" = some (.ref A.f__law_pick)
  F__law_pick : Fun K "_law_pick" "_law_pick" s__law_pick A.f__law_pick A.fd__law_pick
  g__law_sizes : mg "_law_sizes" = some (.ref A.f__law_sizes)
  F__law_sizes : Fun K "_law_sizes" "_law_sizes" s__law_sizes A.f__law_sizes A.fd__law_sizes
  g__law_pages : mg "_law_pages" = some (.ref A.f__law_pages)
  F__law_pages : Fun K "_law_pages" "_law_pages" s__law_pages A.f__law_pages A.fd__law_pages
  g_foe_many : mg "foe_many" = some (.ref A.f_foe_many)
  F_foe_many : Fun K "foe_many" "foe_many" s_foe_many A.f_foe_many A.fd_foe_many
  g_cells_of : mg "cells_of" = some (.ref A.f_cells_of)
  F_cells_of : Fun K "cells_of" "cells_of" s_cells_of A.f_cells_of A.fd_cells_of
  g_hold : mg "hold" = some (.ref A.f_hold)
  F_hold : Fun K "hold" "hold" s_hold A.f_hold A.fd_hold
  g_in_pages : mg "in_pages" = some (.ref A.f_in_pages)
  F_in_pages : Fun K "in_pages" "in_pages" s_in_pages A.f_in_pages A.fd_in_pages
  g_is_block : mg "is_block" = some (.ref A.f_is_block)
  F_is_block : Fun K "is_block" "is_block" s_is_block A.f_is_block A.fd_is_block
  g_check_picture : mg "check_picture" = some (.ref A.f_check_picture)
  F_check_picture : Fun K "check_picture" "check_picture" s_check_picture A.f_check_picture A.fd_check_picture
  g_least_in : mg "least_in" = some (.ref A.f_least_in)
  F_least_in : Fun K "least_in" "least_in" s_least_in A.f_least_in A.fd_least_in
  g_foe_request : mg "foe_request" = some (.ref A.f_foe_request)
  F_foe_request : Fun K "foe_request" "foe_request" s_foe_request A.f_foe_request A.fd_foe_request
  g__law_refused : mg "_law_refused" = some (.ref A.f__law_refused)
  F__law_refused : Fun K "_law_refused" "_law_refused" s__law_refused A.f__law_refused A.fd__law_refused
  g__law_cells : mg "_law_cells" = some (.ref A.f__law_cells)
  F__law_cells : Fun K "_law_cells" "_law_cells" s__law_cells A.f__law_cells A.fd__law_cells
  g__law_free : mg "_law_free" = some (.ref A.f__law_free)
  F__law_free : Fun K "_law_free" "_law_free" s__law_free A.f__law_free A.fd__law_free
  g__law_due : mg "_law_due" = some (.ref A.f__law_due)
  F__law_due : Fun K "_law_due" "_law_due" s__law_due A.f__law_due A.fd__law_due
  g_law : mg "law" = some (.ref A.f_law)
  F_law : Fun K "law" "law" s_law A.f_law A.fd_law
  o_BadPages : OwnErr.OErr PySem.Challenge.pw_whatmovesbuy_k32_whole_what_the_foe_asks K mg "BadPages" "at" "no such pages" A.C_BadPages A.i_BadPages
  x_BadPages : XfC K A.C_BadPages
  o_BadPicture : OwnErr.OErr PySem.Challenge.pw_whatmovesbuy_k32_whole_what_the_foe_asks K mg "BadPicture" "at" "no such picture" A.C_BadPicture A.i_BadPicture
  x_BadPicture : XfC K A.C_BadPicture
  o_BadSizes : OwnErr.OErr PySem.Challenge.pw_whatmovesbuy_k32_whole_what_the_foe_asks K mg "BadSizes" "at" "no such sizes" A.C_BadSizes A.i_BadSizes
  x_BadSizes : XfC K A.C_BadSizes
  o_Refused : OwnErr.OErr PySem.Challenge.pw_whatmovesbuy_k32_whole_what_the_foe_asks K mg "Refused" "value" "no such value here" A.C_Refused A.i_Refused
  x_Refused : XfC K A.C_Refused
  h__law_refused : ChainOk K mg (sp__law_refused A)
def clA (A : Ad) : Str → Option Addr := fun c => List.lookup c []
section
variable {w : World} {K : PySem.W.Frag} {mg : Str → Option Value} {base : Heap} {tb : List (Addr × Str)} {A : Ad}
theorem b__law_box (T : Txt K mg A) : Binds K A.fd__law_box ["script", "k"] [] := T.F__law_box.binds fun _ _ _ _ _ _ us hl => match us, hl with | [_, _], _ => rfl
theorem b_is_sequence (T : Txt K mg A) : Binds K A.fd_is_sequence ["value"] [] := T.F_is_sequence.binds fun _ _ _ _ _ _ us hl => match us, hl with | [_], _ => rfl
theorem b_is_integer (T : Txt K mg A) : Binds K A.fd_is_integer ["value"] [] := T.F_is_integer.binds fun _ _ _ _ _ _ us hl => match us, hl with | [_], _ => rfl
theorem b_is_positive (T : Txt K mg A) : Binds K A.fd_is_positive ["value"] [] := T.F_is_positive.binds fun _ _ _ _ _ _ us hl => match us, hl with | [_], _ => rfl
theorem b_is_next (T : Txt K mg A) : Binds K A.fd_is_next ["sizes", "size"] [] := T.F_is_next.binds fun _ _ _ _ _ _ us hl => match us, hl with | [_, _], _ => rfl
theorem b_check_sizes (T : Txt K mg A) : Binds K A.fd_check_sizes ["value"] [] := T.F_check_sizes.binds fun _ _ _ _ _ _ us hl => match us, hl with | [_], _ => rfl
theorem b_is_number (T : Txt K mg A) : Binds K A.fd_is_number ["value"] [] := T.F_is_number.binds fun _ _ _ _ _ _ us hl => match us, hl with | [_], _ => rfl
theorem b_check_pages (T : Txt K mg A) : Binds K A.fd_check_pages ["value"] [] := T.F_check_pages.binds fun _ _ _ _ _ _ us hl => match us, hl with | [_], _ => rfl
theorem b_arena (T : Txt K mg A) : Binds K A.fd_arena ["sizes", "pages"] [] := T.F_arena.binds fun _ _ _ _ _ _ us hl => match us, hl with | [_, _], _ => rfl
theorem b__law_take (T : Txt K mg A) : Binds K A.fd__law_take ["box", "many"] [] := T.F__law_take.binds fun _ _ _ _ _ _ us hl => match us, hl with | [_, _], _ => rfl
theorem b__law_pick (T : Txt K mg A) : Binds K A.fd__law_pick ["box", "some"] [] := T.F__law_pick.binds fun _ _ _ _ _ _ us hl => match us, hl with | [_, _], _ => rfl
theorem b__law_sizes (T : Txt K mg A) : Binds K A.fd__law_sizes ["box", "most", "least"] [] := T.F__law_sizes.binds fun _ _ _ _ _ _ us hl => match us, hl with | [_, _, _], _ => rfl
theorem b__law_pages (T : Txt K mg A) : Binds K A.fd__law_pages ["box", "many"] [] := T.F__law_pages.binds fun _ _ _ _ _ _ us hl => match us, hl with | [_, _], _ => rfl
theorem b_foe_many (T : Txt K mg A) : Binds K A.fd_foe_many ["sizes", "pages"] [] := T.F_foe_many.binds fun _ _ _ _ _ _ us hl => match us, hl with | [_, _], _ => rfl
theorem b_cells_of (T : Txt K mg A) : Binds K A.fd_cells_of ["size", "place"] [] := T.F_cells_of.binds fun _ _ _ _ _ _ us hl => match us, hl with | [_, _], _ => rfl
theorem b_hold (T : Txt K mg A) : Binds K A.fd_hold ["held", "block"] [] := T.F_hold.binds fun _ _ _ _ _ _ us hl => match us, hl with | [_, _], _ => rfl
theorem b_in_pages (T : Txt K mg A) : Binds K A.fd_in_pages ["sizes", "pages", "place"] [] := T.F_in_pages.binds fun _ _ _ _ _ _ us hl => match us, hl with | [_, _, _], _ => rfl
theorem b_is_block (T : Txt K mg A) : Binds K A.fd_is_block ["sizes", "pages", "value"] [] := T.F_is_block.binds fun _ _ _ _ _ _ us hl => match us, hl with | [_, _, _], _ => rfl
theorem b_check_picture (T : Txt K mg A) : Binds K A.fd_check_picture ["sizes", "pages", "value"] [] := T.F_check_picture.binds fun _ _ _ _ _ _ us hl => match us, hl with | [_, _, _], _ => rfl
theorem b_least_in (T : Txt K mg A) : Binds K A.fd_least_in ["picture", "place", "size"] [] := T.F_least_in.binds fun _ _ _ _ _ _ us hl => match us, hl with | [_, _, _], _ => rfl
theorem b_foe_request (T : Txt K mg A) : Binds K A.fd_foe_request ["sizes", "pages", "turn", "picture"] [] := T.F_foe_request.binds fun _ _ _ _ _ _ us hl => match us, hl with | [_, _, _, _], _ => rfl
theorem b__law_refused (T : Txt K mg A) : Binds K A.fd__law_refused ["ask"] [] := T.F__law_refused.binds fun _ _ _ _ _ _ us hl => match us, hl with | [_], _ => rfl
theorem b__law_cells (T : Txt K mg A) : Binds K A.fd__law_cells ["picture"] [] := T.F__law_cells.binds fun _ _ _ _ _ _ us hl => match us, hl with | [_], _ => rfl
theorem b__law_free (T : Txt K mg A) : Binds K A.fd__law_free ["sizes", "pages", "picture", "size"] [] := T.F__law_free.binds fun _ _ _ _ _ _ us hl => match us, hl with | [_, _, _, _], _ => rfl
theorem b__law_due (T : Txt K mg A) : Binds K A.fd__law_due ["small", "great", "places", "turn", "picture"] [] := T.F__law_due.binds fun _ _ _ _ _ _ us hl => match us, hl with | [_, _, _, _, _], _ => rfl
theorem b_law (T : Txt K mg A) : Binds K A.fd_law ["script"] [] := T.F_law.binds fun _ _ _ _ _ _ us hl => match us, hl with | [_], _ => rfl
theorem kb_foe_request_0_picture_turn_pages_sizes (T : Txt K mg A) : KB K A.fd_foe_request ["sizes", "pages", "turn", "picture"] ["picture", "turn", "pages", "sizes"] 0 [3, 2, 1, 0] := fun_kb T.F_foe_request fun _ _ _ _ _ _ us ws h1 h2 => match us, ws, h1, h2 with | [], [_, _, _, _], _, _ => rfl
abbrev N__law_refused : List Str := ["ask", "fault"]
theorem nd__law_refused : N__law_refused.Nodup := by decide +kernel
theorem sc__law_refused : FnScope N__law_refused ["ask"] (defScope s__law_refused) := ⟨rfl, rfl, rfl, by decide +kernel, rfl, by decide +kernel, by decide +kernel⟩
abbrev N__law_box : List Str := ["script", "k", "cell", "great"]
theorem nd__law_box : N__law_box.Nodup := by decide +kernel
theorem sc__law_box : FnScope N__law_box ["script", "k"] (defScope s__law_box) := ⟨rfl, rfl, rfl, by decide +kernel, rfl, by decide +kernel, by decide +kernel⟩
theorem ok__law_box (T : Txt K mg A) : FnS PySem.Challenge.pw_whatmovesbuy_k32_whole_what_the_foe_asks w K mg base ⟨tb, clA A⟩ false 1 A.f__law_box A.fd__law_box ["script", "k"] m__law_box :=
  fn_def (N := N__law_box) (k := 0) (g := g__law_box) T.F__law_box sc__law_box rfl rfl fun cdv A₀ outer s H E hg hr => (sb_cons (s_set (i := 2) nd__law_box rfl (.inl rfl) (by decide) (v_bin o_add op_addD (v_bin o_mul op_mulW sim_int (sim_var (pe_var (i := 1) rfl (.inl rfl)))) sim_int))
  (sb_cons (ss_if (t_cmp o_lt op_lt (sim_var (pe_var (i := 1) rfl (.inl rfl))) (v_b o_len call_len rfl T.n_len bt_len (sa_cons (sim_var (pe_var (i := 0) rfl (.inl rfl))) sa_nil)) (nomark _)) (sb_one (s_set (i := 2) nd__law_box rfl (.inl rfl) (by decide) (v_b o_abs call_abs rfl T.n_abs bt_abs (sa_cons (v_ty o_int call_int1 rfl T.n_int bt_int (sa_cons (v_ix (sim_var (pe_var (i := 0) rfl (.inl rfl))) (sim_var (pe_var (i := 1) rfl (.inl rfl))) (fun _ _ => rfl)) sa_nil)) sa_nil)))) (sb_one (ss_if (t_cmp o_gt op_gt (v_b o_len call_len rfl T.n_len bt_len (sa_cons (sim_var (pe_var (i := 0) rfl (.inl rfl))) sa_nil)) sim_int (nomark _)) (sb_one (s_set (i := 2) nd__law_box rfl (.inl rfl) (by decide) (v_bin o_add op_addD (sim_var (pe_var (i := 2) rfl (.inl rfl))) (v_bin o_mul op_mulW (v_bin o_mod op_mod (v_ty o_int call_int1 rfl T.n_int bt_int (sa_cons (v_b o_abs call_abs rfl T.n_abs bt_abs (sa_cons (v_ty o_int call_int1 rfl T.n_int bt_int (sa_cons (v_ix (sim_var (pe_var (i := 0) rfl (.inl rfl))) (v_bin o_mod op_mod (v_ty o_int call_int1 rfl T.n_int bt_int (sa_cons (sim_var (pe_var (i := 1) rfl (.inl rfl))) sa_nil)) (v_b o_len call_len rfl T.n_len bt_len (sa_cons (sim_var (pe_var (i := 0) rfl (.inl rfl))) sa_nil))) (fun _ _ => rfl)) sa_nil)) sa_nil)) sa_nil)) sim_int) sim_int)))) sb_nil)))
  (sb_cons (s_set (i := 3) nd__law_box rfl (.inl rfl) (by decide) (sim_if (t_cmp o_ge op_ge (sim_var (pe_var (i := 2) rfl (.inl rfl))) (v_bin o_pow op_pow sim_int sim_int) (nomark _)) (sim_var (pe_var (i := 2) rfl (.inl rfl))) sim_int))
  (sb_one (ss_retO (so_lst (sa_cons (sim_var (pe_var (i := 3) rfl (.inl rfl))) (sa_cons (v_bin o_add op_addD (v_bin o_mod op_mod (v_ty o_int call_int1 rfl T.n_int bt_int (sa_cons (v_bin o_add op_addD (v_bin o_mul op_mulW (v_bin o_mod op_mod (v_ty o_int call_int1 rfl T.n_int bt_int (sa_cons (sim_var (pe_var (i := 2) rfl (.inl rfl))) sa_nil)) sim_int) sim_int) (v_bin o_mul op_mulW sim_int (sim_var (pe_var (i := 1) rfl (.inl rfl))))) sa_nil)) sim_int) sim_int) sa_nil))))))))
abbrev N_is_sequence : List Str := ["value"]
theorem nd_is_sequence : N_is_sequence.Nodup := by decide +kernel
theorem sc_is_sequence : FnScope N_is_sequence ["value"] (defScope s_is_sequence) := ⟨rfl, rfl, rfl, by decide +kernel, rfl, by decide +kernel, by decide +kernel⟩
theorem ok_is_sequence (T : Txt K mg A) : FnS PySem.Challenge.pw_whatmovesbuy_k32_whole_what_the_foe_asks w K mg base ⟨tb, clA A⟩ false 1 A.f_is_sequence A.fd_is_sequence ["value"] m_is_sequence :=
  fn_def (N := N_is_sequence) (k := 0) (g := g_is_sequence) T.F_is_sequence sc_is_sequence rfl rfl fun cdv A₀ outer s H E hg hr => (sb_one (ss_ret (v_isiS rfl T.n_isinstance (sim_var (pe_var (i := 0) rfl (.inl rfl))) (pe_bltn rfl T.n_list bt_list rfl) (pe_bltn rfl T.n_tuple bt_tuple rfl))))
abbrev N_is_integer : List Str := ["value"]
theorem nd_is_integer : N_is_integer.Nodup := by decide +kernel
theorem sc_is_integer : FnScope N_is_integer ["value"] (defScope s_is_integer) := ⟨rfl, rfl, rfl, by decide +kernel, rfl, by decide +kernel, by decide +kernel⟩
theorem ok_is_integer (T : Txt K mg A) : FnS PySem.Challenge.pw_whatmovesbuy_k32_whole_what_the_foe_asks w K mg base ⟨tb, clA A⟩ false 1 A.f_is_integer A.fd_is_integer ["value"] m_is_integer :=
  fn_def (N := N_is_integer) (k := 0) (g := g_is_integer) T.F_is_integer sc_is_integer rfl rfl fun cdv A₀ outer s H E hg hr => (sb_one (ss_ret (sv_and (v_isi (kit_int _) rfl T.n_isinstance (sim_var (pe_var (i := 0) rfl (.inl rfl))) (pe_bltn rfl T.n_int bt_int rfl)) (sv_one (sv_not (v_isi (kit_bool _) rfl T.n_isinstance (sim_var (pe_var (i := 0) rfl (.inl rfl))) (pe_bltn rfl T.n_bool bt_bool rfl)))))))
abbrev N_is_positive : List Str := ["value"]
theorem nd_is_positive : N_is_positive.Nodup := by decide +kernel
theorem sc_is_positive : FnScope N_is_positive ["value"] (defScope s_is_positive) := ⟨rfl, rfl, rfl, by decide +kernel, rfl, by decide +kernel, by decide +kernel⟩
theorem ok_is_positive (T : Txt K mg A) : FnS PySem.Challenge.pw_whatmovesbuy_k32_whole_what_the_foe_asks w K mg base ⟨tb, clA A⟩ false 2 A.f_is_positive A.fd_is_positive ["value"] m_is_positive :=
  fn_def (N := N_is_positive) (k := 1) (g := g_is_positive) T.F_is_positive sc_is_positive rfl rfl fun cdv A₀ outer s H E hg hr => (sb_one (ss_ret (sv_and (v_call ((ok_is_integer T).mono (by decide)) (fun z => nomatch z) hr (takes_of rfl rfl rfl rfl) rfl T.g_is_integer T.F_is_integer.kp (b_is_integer T) (sa_cons (sim_var (pe_var (i := 0) rfl (.inl rfl))) sa_nil)) (sv_one (v_cmp o_ge op_ge (sim_var (pe_var (i := 0) rfl (.inl rfl))) sim_int (nomark _))))))
abbrev N_is_next : List Str := ["sizes", "size"]
theorem nd_is_next : N_is_next.Nodup := by decide +kernel
theorem sc_is_next : FnScope N_is_next ["sizes", "size"] (defScope s_is_next) := ⟨rfl, rfl, rfl, by decide +kernel, rfl, by decide +kernel, by decide +kernel⟩
theorem ok_is_next (T : Txt K mg A) : FnS PySem.Challenge.pw_whatmovesbuy_k32_whole_what_the_foe_asks w K mg base ⟨tb, clA A⟩ false 3 A.f_is_next A.fd_is_next ["sizes", "size"] m_is_next :=
  fn_def (N := N_is_next) (k := 2) (g := g_is_next) T.F_is_next sc_is_next rfl rfl fun cdv A₀ outer s H E hg hr => (sb_cons (ss_if (st_w (sw_or (st_not (st_val (v_call ((ok_is_positive T).mono (by decide)) (fun z => nomatch z) hr (takes_of rfl rfl rfl rfl) rfl T.g_is_positive T.F_is_positive.kp (b_is_positive T) (sa_cons (sim_var (pe_var (i := 1) rfl (.inl rfl))) sa_nil)))) (sw_or1 (t_cmp o_gt op_gt (sim_var (pe_var (i := 1) rfl (.inl rfl))) (sim_gint rfl T.c_MOST_SIZE) (nomark _))))) (sb_one (ss_ret sim_bl)) sb_nil)
  (sb_one (ss_ret (sv_or (v_cmp o_eq (op_eqA hr.units) (v_b o_len call_len rfl T.n_len bt_len (sa_cons (sim_var (pe_var (i := 0) rfl (.inl rfl))) sa_nil)) sim_int (nomark _)) (sv_one (sv_and (v_cmp o_gt op_gt (sim_var (pe_var (i := 1) rfl (.inl rfl))) (v_ix (sim_var (pe_var (i := 0) rfl (.inl rfl))) (v_neg sim_int) (fun _ _ => rfl)) (nomark _)) (sv_one (v_cmp o_eq (op_eqA hr.units) (v_bin o_mod op_mod (sim_var (pe_var (i := 1) rfl (.inl rfl))) (v_ix (sim_var (pe_var (i := 0) rfl (.inl rfl))) (v_neg sim_int) (fun _ _ => rfl))) sim_int (nomark _)))))))))
abbrev N_check_sizes : List Str := ["value", "at", "size"]
theorem nd_check_sizes : N_check_sizes.Nodup := by decide +kernel
theorem sc_check_sizes : FnScope N_check_sizes ["value"] (defScope s_check_sizes) := ⟨rfl, rfl, rfl, by decide +kernel, rfl, by decide +kernel, by decide +kernel⟩
theorem ok_check_sizes (T : Txt K mg A) : FnS PySem.Challenge.pw_whatmovesbuy_k32_whole_what_the_foe_asks w K mg base ⟨tb, clA A⟩ false 4 A.f_check_sizes A.fd_check_sizes ["value"] m_check_sizes :=
  fn_def (N := N_check_sizes) (k := 3) (g := g_check_sizes) T.F_check_sizes sc_check_sizes rfl rfl fun cdv A₀ outer s H E hg hr => (sb_cons (ss_if (st_w (sw_or (st_not (st_val (v_call ((ok_is_sequence T).mono (by decide)) (fun z => nomatch z) hr (takes_of rfl rfl rfl rfl) rfl T.g_is_sequence T.F_is_sequence.kp (b_is_sequence T) (sa_cons (sim_var (pe_var (i := 0) rfl (.inl rfl))) sa_nil)))) (sw_or1 (st_not (t_chain b_le o_le op_le op_le sim_int (v_b o_len call_len rfl T.n_len bt_len (sa_cons (sim_var (pe_var (i := 0) rfl (.inl rfl))) sa_nil)) (sim_gint rfl T.c_MOST_SIZES)))))) (sb_one (ss_raise T.o_BadSizes hr rfl (takes_of rfl rfl rfl rfl) rfl (v_neg sim_int))) sb_nil)
  (sb_cons (ss_for (ts := [1, 2]) (si_enum rfl T.n_enumerate (sim_var (pe_var (i := 0) rfl (.inl rfl)))) (sg_tup rfl (sgs_cons (sg_name (pg_name (i := 1) (nd_check_sizes) rfl (.inl rfl)) (by decide) (by decide)) (sgs_cons (sg_name (pg_name (i := 2) (nd_check_sizes) rfl (.inl rfl)) (by decide) (by decide)) sgs_nil))) (show SimB _ _ _ _ _ lb_check_sizes_1 from (sb_one (ss_if (st_not (st_val (v_call ((ok_is_next T).mono (by decide)) (fun z => nomatch z) hr (takes_of rfl rfl rfl rfl) rfl T.g_is_next T.F_is_next.kp (b_is_next T) (sa_cons (sim_sl (sim_var (pe_var (i := 0) rfl (.inl rfl))) trivial (sim_var (pe_var (i := 1) rfl (.inl rfl)))) (sa_cons (sim_var (pe_var (i := 2) rfl (.inl rfl))) sa_nil))))) (sb_one (ss_raise T.o_BadSizes hr rfl (takes_of rfl rfl rfl rfl) rfl (sim_var (pe_var (i := 1) rfl (.inl rfl))))) sb_nil))) (passes_of rfl) rfl)
  (sb_one (ss_ret (v_ty o_tuple call_tuple_of rfl T.n_tuple bt_tuple (sa_cons (sim_var (pe_var (i := 0) rfl (.inl rfl))) sa_nil))))))
abbrev N_is_number : List Str := ["value"]
theorem nd_is_number : N_is_number.Nodup := by decide +kernel
theorem sc_is_number : FnScope N_is_number ["value"] (defScope s_is_number) := ⟨rfl, rfl, rfl, by decide +kernel, rfl, by decide +kernel, by decide +kernel⟩
theorem ok_is_number (T : Txt K mg A) : FnS PySem.Challenge.pw_whatmovesbuy_k32_whole_what_the_foe_asks w K mg base ⟨tb, clA A⟩ false 2 A.f_is_number A.fd_is_number ["value"] m_is_number :=
  fn_def (N := N_is_number) (k := 1) (g := g_is_number) T.F_is_number sc_is_number rfl rfl fun cdv A₀ outer s H E hg hr => (sb_one (ss_ret (sv_and (v_call ((ok_is_integer T).mono (by decide)) (fun z => nomatch z) hr (takes_of rfl rfl rfl rfl) rfl T.g_is_integer T.F_is_integer.kp (b_is_integer T) (sa_cons (sim_var (pe_var (i := 0) rfl (.inl rfl))) sa_nil)) (sv_one (v_cmp o_ge op_ge (sim_var (pe_var (i := 0) rfl (.inl rfl))) sim_int (nomark _))))))
abbrev N_check_pages : List Str := ["value", "at", "page"]
theorem nd_check_pages : N_check_pages.Nodup := by decide +kernel
theorem sc_check_pages : FnScope N_check_pages ["value"] (defScope s_check_pages) := ⟨rfl, rfl, rfl, by decide +kernel, rfl, by decide +kernel, by decide +kernel⟩
theorem ok_check_pages (T : Txt K mg A) : FnS PySem.Challenge.pw_whatmovesbuy_k32_whole_what_the_foe_asks w K mg base ⟨tb, clA A⟩ false 3 A.f_check_pages A.fd_check_pages ["value"] m_check_pages :=
  fn_def (N := N_check_pages) (k := 2) (g := g_check_pages) T.F_check_pages sc_check_pages rfl rfl fun cdv A₀ outer s H E hg hr => (sb_cons (ss_if (st_w (sw_or (st_not (st_val (v_call ((ok_is_sequence T).mono (by decide)) (fun z => nomatch z) hr (takes_of rfl rfl rfl rfl) rfl T.g_is_sequence T.F_is_sequence.kp (b_is_sequence T) (sa_cons (sim_var (pe_var (i := 0) rfl (.inl rfl))) sa_nil)))) (sw_or1 (t_cmp o_gt op_gt (v_b o_len call_len rfl T.n_len bt_len (sa_cons (sim_var (pe_var (i := 0) rfl (.inl rfl))) sa_nil)) (sim_gint rfl T.c_MOST_PAGES) (nomark _))))) (sb_one (ss_raise T.o_BadPages hr rfl (takes_of rfl rfl rfl rfl) rfl (v_neg sim_int))) sb_nil)
  (sb_cons (ss_for (ts := [1, 2]) (si_enum rfl T.n_enumerate (sim_var (pe_var (i := 0) rfl (.inl rfl)))) (sg_tup rfl (sgs_cons (sg_name (pg_name (i := 1) (nd_check_pages) rfl (.inl rfl)) (by decide) (by decide)) (sgs_cons (sg_name (pg_name (i := 2) (nd_check_pages) rfl (.inl rfl)) (by decide) (by decide)) sgs_nil))) (show SimB _ _ _ _ _ lb_check_pages_1 from (sb_one (ss_if (st_w (sw_or (st_not (st_val (v_call ((ok_is_number T).mono (by decide)) (fun z => nomatch z) hr (takes_of rfl rfl rfl rfl) rfl T.g_is_number T.F_is_number.kp (b_is_number T) (sa_cons (sim_var (pe_var (i := 2) rfl (.inl rfl))) sa_nil)))) (sw_or1 (st_w (sw_and (t_cmp o_gt op_gt (sim_var (pe_var (i := 1) rfl (.inl rfl))) sim_int (nomark _)) (sw_and1 (t_cmp o_le op_le (sim_var (pe_var (i := 2) rfl (.inl rfl))) (v_ix (sim_var (pe_var (i := 0) rfl (.inl rfl))) (v_bin o_sub op_sub (sim_var (pe_var (i := 1) rfl (.inl rfl))) sim_int) (fun _ _ => rfl)) (nomark _)))))))) (sb_one (ss_raise T.o_BadPages hr rfl (takes_of rfl rfl rfl rfl) rfl (sim_var (pe_var (i := 1) rfl (.inl rfl))))) sb_nil))) (passes_of rfl) rfl)
  (sb_one (ss_ret (v_ty o_tuple call_tuple_of rfl T.n_tuple bt_tuple (sa_cons (sim_var (pe_var (i := 0) rfl (.inl rfl))) sa_nil))))))
abbrev N_arena : List Str := ["sizes", "pages", "great", "size", "places", "page", "told", "some"]
theorem nd_arena : N_arena.Nodup := by decide +kernel
theorem sc_arena : FnScope N_arena ["sizes", "pages"] (defScope s_arena) := ⟨rfl, rfl, rfl, by decide +kernel, rfl, by decide +kernel, by decide +kernel⟩
theorem ok_arena (T : Txt K mg A) : FnS PySem.Challenge.pw_whatmovesbuy_k32_whole_what_the_foe_asks w K mg base ⟨tb, clA A⟩ false 5 A.f_arena A.fd_arena ["sizes", "pages"] m_arena :=
  fn_def (N := N_arena) (k := 4) (g := g_arena) T.F_arena sc_arena rfl rfl fun cdv A₀ outer s H E hg hr => (sb_cons (s_par (i := 6) (j := 7) rfl nd_arena rfl rfl (by decide) rfl rfl (by decide) (by decide) (sa_cons (v_call ((ok_check_sizes T).mono (by decide)) (fun z => nomatch z) hr (takes_of rfl rfl rfl rfl) rfl T.g_check_sizes T.F_check_sizes.kp (b_check_sizes T) (sa_cons (sim_var (pe_var (i := 0) rfl (.inl rfl))) sa_nil)) (sa_cons (v_call ((ok_check_pages T).mono (by decide)) (fun z => nomatch z) hr (takes_of rfl rfl rfl rfl) rfl T.g_check_pages T.F_check_pages.kp (b_check_pages T) (sa_cons (sim_var (pe_var (i := 1) rfl (.inl rfl))) sa_nil)) sa_nil)) (by rfl))
  (sb_cons (s_set (i := 2) nd_arena rfl (.inl rfl) (by decide) (v_bin o_sub op_sub (v_b o_len call_len rfl T.n_len bt_len (sa_cons (sim_var (pe_var (i := 6) rfl (.inl rfl))) sa_nil)) sim_int))
  (sb_cons (ss_if (t_cmp o_eq (op_eqA hr.units) (v_b o_len call_len rfl T.n_len bt_len (sa_cons (sim_var (pe_var (i := 7) rfl (.inl rfl))) sa_nil)) sim_int (nomark _)) (sb_one (s_aug (i := 2) o_subI ip_sub nd_arena rfl (.inl rfl) (by decide) sim_int)) sb_nil)
  (sb_cons (ss_if (st_w (sw_or (t_cmp o_lt op_lt (sim_var (pe_var (i := 2) rfl (.inl rfl))) sim_int (nomark _)) (sw_or1 (t_cmp o_eq (op_eqA hr.units) (v_b o_len call_len rfl T.n_len bt_len (sa_cons (sim_var (pe_var (i := 7) rfl (.inl rfl))) sa_nil)) sim_int (nomark _))))) (sb_one (ss_raise T.o_Refused hr rfl (takes_of rfl rfl rfl rfl) rfl (sim_var (pe_var (i := 0) rfl (.inl rfl))))) sb_nil)
  (sb_cons (s_set (i := 3) nd_arena rfl (.inl rfl) (by decide) (v_ix (sim_var (pe_var (i := 6) rfl (.inl rfl))) (sim_var (pe_var (i := 2) rfl (.inl rfl))) (fun _ _ => rfl)))
  (sb_cons (s_setO (i := 4) nd_arena rfl (.inl rfl) (by decide) (so_lst sa_nil))
  (sb_cons (ss_for (ts := [5]) (si_seq (sim_var (pe_var (i := 7) rfl (.inl rfl)))) (sg_name (pg_name (i := 5) (nd_arena) rfl (.inl rfl)) (by decide) (by decide)) (show SimB _ _ _ _ _ lb_arena_1 from (sb_one (s_augO (i := 4) nd_arena rfl (.inl rfl) (o_lstRg rfl rfl T.n_list rfl T.n_range (sa_cons (v_bin o_mul op_mulW (sim_var (pe_var (i := 5) rfl (.inl rfl))) (v_ix (sim_var (pe_var (i := 6) rfl (.inl rfl))) (v_neg sim_int) (fun _ _ => rfl))) (sa_cons (v_bin o_mul op_mulW (v_bin o_add op_addD (sim_var (pe_var (i := 5) rfl (.inl rfl))) sim_int) (v_ix (sim_var (pe_var (i := 6) rfl (.inl rfl))) (v_neg sim_int) (fun _ _ => rfl))) (sa_cons (sim_var (pe_var (i := 3) rfl (.inl rfl))) sa_nil))))))) (passes_of rfl) rfl)
  (sb_one (ss_ret (sim_tup (sa_cons (v_ix (sim_var (pe_var (i := 6) rfl (.inl rfl))) (v_bin o_sub op_sub (sim_var (pe_var (i := 2) rfl (.inl rfl))) sim_int) (fun _ _ => rfl)) (sa_cons (sim_var (pe_var (i := 3) rfl (.inl rfl))) (sa_cons (v_ty o_tuple call_tuple_of rfl T.n_tuple bt_tuple (sa_cons (sim_var (pe_var (i := 4) rfl (.inl rfl))) sa_nil)) sa_nil)))))))))))))
abbrev N__law_take : List Str := ["box", "many", "raw", "digit"]
theorem nd__law_take : N__law_take.Nodup := by decide +kernel
theorem sc__law_take : FnScope N__law_take ["box", "many"] (defScope s__law_take) := ⟨rfl, rfl, rfl, by decide +kernel, rfl, by decide +kernel, by decide +kernel⟩
theorem ok__law_take (T : Txt K mg A) : FnS PySem.Challenge.pw_whatmovesbuy_k32_whole_what_the_foe_asks w K mg base ⟨tb, clA A⟩ false 1 A.f__law_take A.fd__law_take ["box", "many"] m__law_take :=
  fn_def (N := N__law_take) (k := 0) (g := g__law_take) T.F__law_take sc__law_take rfl rfl fun cdv A₀ outer s H E hg hr => (sb_cons (ss_if (t_cmp o_gt op_gt (v_ix (sim_var (pe_var (i := 0) rfl (.inl rfl))) sim_int (fun _ _ => rfl)) sim_int (nomark _)) (sb_cons (s_set (i := 3) nd__law_take rfl (.inl rfl) (by decide) (v_bin o_mod op_mod (v_ty o_int call_int1 rfl T.n_int bt_int (sa_cons (v_ix (sim_var (pe_var (i := 0) rfl (.inl rfl))) sim_int (fun _ _ => rfl)) sa_nil)) (sim_var (pe_var (i := 1) rfl (.inl rfl)))))
  (sb_cons (s_setL (i := 0) rfl (.inl rfl) sim_int (v_bin o_div op_fdivW (v_ix (sim_var (pe_var (i := 0) rfl (.inl rfl))) sim_int (fun _ _ => rfl)) (sim_var (pe_var (i := 1) rfl (.inl rfl)))))
  (sb_one (ss_ret (sim_var (pe_var (i := 3) rfl (.inl rfl))))))) sb_nil)
  (sb_cons (s_set (i := 2) nd__law_take rfl (.inl rfl) (by decide) (v_bin o_mod op_mod (v_ty o_int call_int1 rfl T.n_int bt_int (sa_cons (v_bin o_add op_addD (v_bin o_mul op_mulW (v_ix (sim_var (pe_var (i := 0) rfl (.inl rfl))) sim_int (fun _ _ => rfl)) sim_int) sim_int) sa_nil)) sim_int))
  (sb_cons (s_setL (i := 0) rfl (.inl rfl) sim_int (v_bin o_add op_addD (v_bin o_mod op_mod (v_ty o_int call_int1 rfl T.n_int bt_int (sa_cons (v_bin o_add op_addD (v_bin o_mul op_mulW (sim_var (pe_var (i := 2) rfl (.inl rfl))) sim_int) sim_int) sa_nil)) sim_int) sim_int))
  (sb_one (ss_ret (v_bin o_mod op_mod (v_ty o_int call_int1 rfl T.n_int bt_int (sa_cons (v_bin o_div op_fdivW (v_bin o_add op_addD (v_bin o_mul op_mulW (sim_var (pe_var (i := 2) rfl (.inl rfl))) sim_int) (v_ix (sim_var (pe_var (i := 0) rfl (.inl rfl))) sim_int (fun _ _ => rfl))) sim_int) sa_nil)) (sim_var (pe_var (i := 1) rfl (.inl rfl)))))))))
abbrev N__law_pick : List Str := ["box", "some"]
theorem nd__law_pick : N__law_pick.Nodup := by decide +kernel
theorem sc__law_pick : FnScope N__law_pick ["box", "some"] (defScope s__law_pick) := ⟨rfl, rfl, rfl, by decide +kernel, rfl, by decide +kernel, by decide +kernel⟩
theorem ok__law_pick (T : Txt K mg A) : FnS PySem.Challenge.pw_whatmovesbuy_k32_whole_what_the_foe_asks w K mg base ⟨tb, clA A⟩ false 2 A.f__law_pick A.fd__law_pick ["box", "some"] m__law_pick :=
  fn_def (N := N__law_pick) (k := 1) (g := g__law_pick) T.F__law_pick sc__law_pick rfl rfl fun cdv A₀ outer s H E hg hr => (sb_one (ss_ret (v_ix (sim_var (pe_var (i := 1) rfl (.inl rfl))) (v_call ((ok__law_take T).mono (by decide)) (fun z => nomatch z) hr (takes_of rfl rfl rfl rfl) rfl T.g__law_take T.F__law_take.kp (b__law_take T) (sa_cons (sim_var (pe_var (i := 0) rfl (.inl rfl))) (sa_cons (v_b o_len call_len rfl T.n_len bt_len (sa_cons (sim_var (pe_var (i := 1) rfl (.inl rfl))) sa_nil)) sa_nil))) (fun _ _ => rfl))))
abbrev N__law_sizes : List Str := ["box", "most", "least", "many", "found", "turn", "size", "one"]
theorem nd__law_sizes : N__law_sizes.Nodup := by decide +kernel
theorem sc__law_sizes : FnScope N__law_sizes ["box", "most", "least"] (defScope s__law_sizes) := ⟨rfl, rfl, rfl, by decide +kernel, rfl, by decide +kernel, by decide +kernel⟩
theorem ok__law_sizes (T : Txt K mg A) : FnS PySem.Challenge.pw_whatmovesbuy_k32_whole_what_the_foe_asks w K mg base ⟨tb, clA A⟩ false 3 A.f__law_sizes A.fd__law_sizes ["box", "most", "least"] m__law_sizes :=
  fn_def (N := N__law_sizes) (k := 2) (g := g__law_sizes) T.F__law_sizes sc__law_sizes rfl rfl fun cdv A₀ outer s H E hg hr => (sb_cons (s_set (i := 3) nd__law_sizes rfl (.inl rfl) (by decide) (v_bin o_add op_addD (sim_var (pe_var (i := 2) rfl (.inl rfl))) (v_call ((ok__law_take T).mono (by decide)) (fun z => nomatch z) hr (takes_of rfl rfl rfl rfl) rfl T.g__law_take T.F__law_take.kp (b__law_take T) (sa_cons (sim_var (pe_var (i := 0) rfl (.inl rfl))) (sa_cons (v_bin o_sub op_sub sim_int (sim_var (pe_var (i := 2) rfl (.inl rfl)))) sa_nil)))))
  (sb_cons (s_setO (i := 4) nd__law_sizes rfl (.inr rfl) (by decide) (so_lst (sa_cons (v_call ((ok__law_pick T).mono (by decide)) (fun z => nomatch z) hr (takes_of rfl rfl rfl rfl) rfl T.g__law_pick T.F__law_pick.kp (b__law_pick T) (sa_cons (sim_var (pe_var (i := 0) rfl (.inl rfl))) (sa_cons (sim_lst (sa_cons sim_int (sa_cons sim_int (sa_cons sim_int (sa_cons sim_int (sa_cons sim_int sa_nil)))))) sa_nil))) sa_nil)))
  (sb_cons (ss_for (ts := [5]) (v_range1 rfl T.n_range (sa_cons (v_bin o_sub op_sub (sim_var (pe_var (i := 3) rfl (.inl rfl))) sim_int) sa_nil)) (sg_name (pg_name (i := 5) (nd__law_sizes) rfl (.inl rfl)) (by decide) (by decide)) (show SimB _ _ _ _ _ lb__law_sizes_1 from (sb_cons (s_set (i := 6) nd__law_sizes rfl (.inl rfl) (by decide) (v_bin o_mul op_mulW (v_ix (sim_var (pe_var (i := 4) rfl (.inr (.inl rfl)))) (sim_var (pe_var (i := 5) rfl (.inl rfl))) (fun _ _ => rfl)) (v_call ((ok__law_pick T).mono (by decide)) (fun z => nomatch z) hr (takes_of rfl rfl rfl rfl) rfl T.g__law_pick T.F__law_pick.kp (b__law_pick T) (sa_cons (sim_var (pe_var (i := 0) rfl (.inl rfl))) (sa_cons (sim_lst (sa_cons sim_int (sa_cons sim_int (sa_cons sim_int (sa_cons sim_int (sa_cons sim_int sa_nil)))))) sa_nil)))))
  (sb_cons (ss_if (st_w (sw_or (t_cmp o_gt op_gt (sim_var (pe_var (i := 6) rfl (.inl rfl))) (v_bin o_mul op_mulW (sim_var (pe_var (i := 1) rfl (.inl rfl))) (v_ix (sim_var (pe_var (i := 4) rfl (.inr (.inl rfl)))) sim_int (fun _ _ => rfl))) (nomark _)) (sw_or1 (t_cmp o_gt op_gt (sim_var (pe_var (i := 6) rfl (.inl rfl))) sim_int (nomark _))))) (sb_one ss_break) sb_nil)
  (sb_one (s_app (i := 4) rfl (.inr (.inl rfl)) (sim_var (pe_var (i := 6) rfl (.inl rfl)))))))) (passes_of rfl) rfl)
  (sb_cons (ss_if (t_cmp o_lt op_lt (v_b o_len call_len rfl T.n_len bt_len (sa_cons (sim_var (pe_var (i := 4) rfl (.inr (.inl rfl)))) sa_nil)) (sim_var (pe_var (i := 2) rfl (.inl rfl))) (nomark _)) (sb_one (s_set (i := 4) nd__law_sizes rfl (.inr rfl) (by decide) (sim_sl (v_lc (own := [("one", 7)]) rfl nd__law_sizes (blkOk_by (N := N__law_sizes) (sc := defScope s__law_sizes) (by decide +kernel)) (si_seq (sim_tup (sa_cons sim_int (sa_cons sim_int (sa_cons sim_int (sa_cons sim_int sa_nil)))))) (fun _ _ _ _ _ => (sg_name (pg_name (i := 7) (nd__law_sizes) rfl (.inl rfl)) (by decide) (by decide))) (fun _ _ _ _ _ => spt_nil) (fun _ _ _ _ _ => (v_bin o_mul op_mulW (v_ix (sim_var (pe_var (i := 4) rfl (.inr (.inl rfl)))) sim_int (fun _ _ => rfl)) (sim_var (pe_var (i := 7) rfl (.inl rfl)))))) trivial (sim_var (pe_var (i := 2) rfl (.inl rfl)))))) sb_nil)
  (sb_one (ss_ret (v_ty o_tuple call_tuple_of rfl T.n_tuple bt_tuple (sa_cons (sim_var (pe_var (i := 4) rfl (.inr (.inl rfl)))) sa_nil))))))))
abbrev N__law_pages : List Str := ["box", "many", "found", "turn"]
theorem nd__law_pages : N__law_pages.Nodup := by decide +kernel
theorem sc__law_pages : FnScope N__law_pages ["box", "many"] (defScope s__law_pages) := ⟨rfl, rfl, rfl, by decide +kernel, rfl, by decide +kernel, by decide +kernel⟩
theorem ok__law_pages (T : Txt K mg A) : FnS PySem.Challenge.pw_whatmovesbuy_k32_whole_what_the_foe_asks w K mg base ⟨tb, clA A⟩ false 2 A.f__law_pages A.fd__law_pages ["box", "many"] m__law_pages :=
  fn_def (N := N__law_pages) (k := 1) (g := g__law_pages) T.F__law_pages sc__law_pages rfl rfl fun cdv A₀ outer s H E hg hr => (sb_cons (s_setO (i := 2) nd__law_pages rfl (.inl rfl) (by decide) (so_lst (sa_cons (v_call ((ok__law_take T).mono (by decide)) (fun z => nomatch z) hr (takes_of rfl rfl rfl rfl) rfl T.g__law_take T.F__law_take.kp (b__law_take T) (sa_cons (sim_var (pe_var (i := 0) rfl (.inl rfl))) (sa_cons sim_int sa_nil))) sa_nil)))
  (sb_cons (ss_for (ts := [3]) (v_range1 rfl T.n_range (sa_cons (v_bin o_sub op_sub (sim_var (pe_var (i := 1) rfl (.inl rfl))) sim_int) sa_nil)) (sg_name (pg_name (i := 3) (nd__law_pages) rfl (.inl rfl)) (by decide) (by decide)) (show SimB _ _ _ _ _ lb__law_pages_1 from (sb_one (s_app (i := 2) rfl (.inl rfl) (v_bin o_add op_addD (v_bin o_add op_addD (v_ix (sim_var (pe_var (i := 2) rfl (.inl rfl))) (sim_var (pe_var (i := 3) rfl (.inl rfl))) (fun _ _ => rfl)) sim_int) (v_call ((ok__law_take T).mono (by decide)) (fun z => nomatch z) hr (takes_of rfl rfl rfl rfl) rfl T.g__law_take T.F__law_take.kp (b__law_take T) (sa_cons (sim_var (pe_var (i := 0) rfl (.inl rfl))) (sa_cons sim_int sa_nil))))))) (passes_of rfl) rfl)
  (sb_one (ss_ret (v_ty o_tuple call_tuple_of rfl T.n_tuple bt_tuple (sa_cons (sim_var (pe_var (i := 2) rfl (.inl rfl))) sa_nil))))))
abbrev N_foe_many : List Str := ["sizes", "pages", "small", "great", "places"]
theorem nd_foe_many : N_foe_many.Nodup := by decide +kernel
theorem sc_foe_many : FnScope N_foe_many ["sizes", "pages"] (defScope s_foe_many) := ⟨rfl, rfl, rfl, by decide +kernel, rfl, by decide +kernel, by decide +kernel⟩
theorem ok_foe_many (T : Txt K mg A) : FnS PySem.Challenge.pw_whatmovesbuy_k32_whole_what_the_foe_asks w K mg base ⟨tb, clA A⟩ false 6 A.f_foe_many A.fd_foe_many ["sizes", "pages"] m_foe_many :=
  fn_def (N := N_foe_many) (k := 5) (g := g_foe_many) T.F_foe_many sc_foe_many rfl rfl fun cdv A₀ outer s H E hg hr => (sb_cons (s_asg (ts := [2, 3, 4]) (sg_tup rfl (sgs_cons (sg_name (pg_name (i := 2) (nd_foe_many) rfl (.inl rfl)) (by decide) (by decide)) (sgs_cons (sg_name (pg_name (i := 3) (nd_foe_many) rfl (.inl rfl)) (by decide) (by decide)) (sgs_cons (sg_name (pg_name (i := 4) (nd_foe_many) rfl (.inl rfl)) (by decide) (by decide)) sgs_nil)))) (v_call ((ok_arena T).mono (by decide)) (fun z => nomatch z) hr (takes_of rfl rfl rfl rfl) rfl T.g_arena T.F_arena.kp (b_arena T) (sa_cons (sim_var (pe_var (i := 0) rfl (.inl rfl))) (sa_cons (sim_var (pe_var (i := 1) rfl (.inl rfl))) sa_nil))))
  (sb_one (ss_ret (v_bin o_add op_addD (v_bin o_add op_addD (v_bin o_mul op_mulW (v_b o_len call_len rfl T.n_len bt_len (sa_cons (sim_var (pe_var (i := 4) rfl (.inl rfl))) sa_nil)) (v_bin o_div op_fdivW (sim_var (pe_var (i := 3) rfl (.inl rfl))) (sim_var (pe_var (i := 2) rfl (.inl rfl))))) (v_bin o_div op_fdivW (sim_var (pe_var (i := 3) rfl (.inl rfl))) (sim_var (pe_var (i := 2) rfl (.inl rfl))))) sim_int))))
abbrev N_cells_of : List Str := ["size", "place"]
theorem nd_cells_of : N_cells_of.Nodup := by decide +kernel
theorem sc_cells_of : FnScope N_cells_of ["size", "place"] (defScope s_cells_of) := ⟨rfl, rfl, rfl, by decide +kernel, rfl, by decide +kernel, by decide +kernel⟩
theorem ok_cells_of (T : Txt K mg A) : FnS PySem.Challenge.pw_whatmovesbuy_k32_whole_what_the_foe_asks w K mg base ⟨tb, clA A⟩ false 1 A.f_cells_of A.fd_cells_of ["size", "place"] m_cells_of :=
  fn_def (N := N_cells_of) (k := 0) (g := g_cells_of) T.F_cells_of sc_cells_of rfl rfl fun cdv A₀ outer s H E hg hr => (sb_one (ss_ret (v_lstRg rfl rfl T.n_list rfl T.n_range (sa_cons (sim_var (pe_var (i := 1) rfl (.inl rfl))) (sa_cons (v_bin o_add op_addD (sim_var (pe_var (i := 1) rfl (.inl rfl))) (sim_var (pe_var (i := 0) rfl (.inl rfl)))) sa_nil)))))
abbrev N_hold : List Str := ["held", "block", "cells", "cell"]
theorem nd_hold : N_hold.Nodup := by decide +kernel
theorem sc_hold : FnScope N_hold ["held", "block"] (defScope s_hold) := ⟨rfl, rfl, rfl, by decide +kernel, rfl, by decide +kernel, by decide +kernel⟩
theorem ok_hold (T : Txt K mg A) : FnS PySem.Challenge.pw_whatmovesbuy_k32_whole_what_the_foe_asks w K mg base ⟨tb, clA A⟩ false 2 A.f_hold A.fd_hold ["held", "block"] m_hold :=
  fn_def (N := N_hold) (k := 1) (g := g_hold) T.F_hold sc_hold rfl rfl fun cdv A₀ outer s H E hg hr => (sb_cons (s_set (i := 2) nd_hold rfl (.inl rfl) (by decide) (v_call ((ok_cells_of T).mono (by decide)) (fun z => nomatch z) hr (takes_of rfl rfl rfl rfl) rfl T.g_cells_of T.F_cells_of.kp (b_cells_of T) (sa_cons (v_ix (sim_var (pe_var (i := 1) rfl (.inl rfl))) sim_int (fun _ _ => rfl)) (sa_cons (v_ix (sim_var (pe_var (i := 1) rfl (.inl rfl))) sim_int (fun _ _ => rfl)) sa_nil))))
  (sb_cons (ss_if (st_val (v_b o_any (cr_any rfl) rfl T.n_any bt_any (sa_cons (v_lc (own := [("cell", 3)]) rfl nd_hold (blkOk_by (N := N_hold) (sc := defScope s_hold) (by decide +kernel)) (si_seq (sim_var (pe_var (i := 2) rfl (.inl rfl)))) (fun _ _ _ _ _ => (sg_name (pg_name (i := 3) (nd_hold) rfl (.inl rfl)) (by decide) (by decide))) (fun _ _ _ _ _ => spt_nil) (fun _ _ _ _ _ => (sim_p (sp_in (un1 hr) (sp_var (pe_var (i := 3) rfl (.inl rfl))) (sp_var (pe_var (i := 0) rfl (.inr (.inl rfl)))) (by with_unfolding_all rfl))))) sa_nil))) (sb_one (ss_ret sim_bl)) sb_nil)
  (sb_cons (ss_for (ts := [3]) (si_seq (sim_var (pe_var (i := 2) rfl (.inl rfl)))) (sg_name (pg_name (i := 3) (nd_hold) rfl (.inl rfl)) (by decide) (by decide)) (show SimB _ _ _ _ _ lb_hold_1 from (sb_one (ss_put (un1 hr) (v_ix (sim_var (pe_var (i := 1) rfl (.inl rfl))) sim_int (fun _ _ => rfl)) (sp_var (pe_var (i := 0) rfl (.inr (.inl rfl)))) (sp_var (pe_var (i := 3) rfl (.inl rfl))) rfl))) (passes_of rfl) rfl)
  (sb_one (ss_ret sim_bl)))))
abbrev N_in_pages : List Str := ["sizes", "pages", "place"]
theorem nd_in_pages : N_in_pages.Nodup := by decide +kernel
theorem sc_in_pages : FnScope N_in_pages ["sizes", "pages", "place"] (defScope s_in_pages) := ⟨rfl, rfl, rfl, by decide +kernel, rfl, by decide +kernel, by decide +kernel⟩
theorem ok_in_pages (T : Txt K mg A) : FnS PySem.Challenge.pw_whatmovesbuy_k32_whole_what_the_foe_asks w K mg base ⟨tb, clA A⟩ false 1 A.f_in_pages A.fd_in_pages ["sizes", "pages", "place"] m_in_pages :=
  fn_def (N := N_in_pages) (k := 0) (g := g_in_pages) T.F_in_pages sc_in_pages rfl rfl fun cdv A₀ outer s H E hg hr => (sb_one (ss_ret (v_cmp o_in (op_inA (un65 hr)) (v_bin o_div op_fdivW (sim_var (pe_var (i := 2) rfl (.inl rfl))) (v_ix (sim_var (pe_var (i := 0) rfl (.inl rfl))) (v_neg sim_int) (fun _ _ => rfl))) (sim_var (pe_var (i := 1) rfl (.inl rfl))) (by with_unfolding_all rfl))))
abbrev N_is_block : List Str := ["sizes", "pages", "value", "handle", "size", "place"]
theorem nd_is_block : N_is_block.Nodup := by decide +kernel
theorem sc_is_block : FnScope N_is_block ["sizes", "pages", "value"] (defScope s_is_block) := ⟨rfl, rfl, rfl, by decide +kernel, rfl, by decide +kernel, by decide +kernel⟩
theorem ok_is_block (T : Txt K mg A) : FnS PySem.Challenge.pw_whatmovesbuy_k32_whole_what_the_foe_asks w K mg base ⟨tb, clA A⟩ false 3 A.f_is_block A.fd_is_block ["sizes", "pages", "value"] m_is_block :=
  fn_def (N := N_is_block) (k := 2) (g := g_is_block) T.F_is_block sc_is_block rfl rfl fun cdv A₀ outer s H E hg hr => (sb_cons (ss_if (st_w (sw_or (st_not (st_val (v_call ((ok_is_sequence T).mono (by decide)) (fun z => nomatch z) hr (takes_of rfl rfl rfl rfl) rfl T.g_is_sequence T.F_is_sequence.kp (b_is_sequence T) (sa_cons (sim_var (pe_var (i := 2) rfl (.inl rfl))) sa_nil)))) (sw_or1 (t_cmp o_ne (op_neA hr.units) (v_b o_len call_len rfl T.n_len bt_len (sa_cons (sim_var (pe_var (i := 2) rfl (.inl rfl))) sa_nil)) (sim_gint rfl T.c_BLOCK_PARTS) (nomark _))))) (sb_one (ss_ret sim_bl)) sb_nil)
  (sb_cons (s_asg (ts := [3, 4, 5]) (sg_tup rfl (sgs_cons (sg_name (pg_name (i := 3) (nd_is_block) rfl (.inl rfl)) (by decide) (by decide)) (sgs_cons (sg_name (pg_name (i := 4) (nd_is_block) rfl (.inl rfl)) (by decide) (by decide)) (sgs_cons (sg_name (pg_name (i := 5) (nd_is_block) rfl (.inl rfl)) (by decide) (by decide)) sgs_nil)))) (sim_var (pe_var (i := 2) rfl (.inl rfl))))
  (sb_cons (ss_if (st_w (sw_or (st_not (st_val (v_call ((ok_is_number T).mono (by decide)) (fun z => nomatch z) hr (takes_of rfl rfl rfl rfl) rfl T.g_is_number T.F_is_number.kp (b_is_number T) (sa_cons (sim_var (pe_var (i := 3) rfl (.inl rfl))) sa_nil)))) (sw_or (st_not (st_val (v_call ((ok_is_integer T).mono (by decide)) (fun z => nomatch z) hr (takes_of rfl rfl rfl rfl) rfl T.g_is_integer T.F_is_integer.kp (b_is_integer T) (sa_cons (sim_var (pe_var (i := 4) rfl (.inl rfl))) sa_nil)))) (sw_or1 (t_cmp o_notIn (op_notInA (un65 hr)) (sim_var (pe_var (i := 4) rfl (.inl rfl))) (sim_var (pe_var (i := 0) rfl (.inl rfl))) (by with_unfolding_all rfl)))))) (sb_one (ss_ret sim_bl)) sb_nil)
  (sb_one (ss_ret (sv_and (v_call ((ok_is_number T).mono (by decide)) (fun z => nomatch z) hr (takes_of rfl rfl rfl rfl) rfl T.g_is_number T.F_is_number.kp (b_is_number T) (sa_cons (sim_var (pe_var (i := 5) rfl (.inl rfl))) sa_nil)) (sv_and (v_cmp o_eq (op_eqA hr.units) (v_bin o_mod op_mod (sim_var (pe_var (i := 5) rfl (.inl rfl))) (sim_var (pe_var (i := 4) rfl (.inl rfl)))) sim_int (nomark _)) (sv_one (v_call ((ok_in_pages T).mono (by decide)) (fun z => nomatch z) hr (takes_of rfl rfl rfl rfl) rfl T.g_in_pages T.F_in_pages.kp (b_in_pages T) (sa_cons (sim_var (pe_var (i := 0) rfl (.inl rfl))) (sa_cons (sim_var (pe_var (i := 1) rfl (.inl rfl))) (sa_cons (sim_var (pe_var (i := 5) rfl (.inl rfl))) sa_nil))))))))))))
abbrev N_check_picture : List Str := ["sizes", "pages", "value", "held", "told", "paged", "at", "block"]
theorem nd_check_picture : N_check_picture.Nodup := by decide +kernel
theorem sc_check_picture : FnScope N_check_picture ["sizes", "pages", "value"] (defScope s_check_picture) := ⟨rfl, rfl, rfl, by decide +kernel, rfl, by decide +kernel, by decide +kernel⟩
theorem ok_check_picture (T : Txt K mg A) : FnS PySem.Challenge.pw_whatmovesbuy_k32_whole_what_the_foe_asks w K mg base ⟨tb, clA A⟩ false 5 A.f_check_picture A.fd_check_picture ["sizes", "pages", "value"] m_check_picture :=
  fn_def (N := N_check_picture) (k := 4) (g := g_check_picture) T.F_check_picture sc_check_picture rfl rfl fun cdv A₀ outer s H E hg hr => (sb_cons (s_par (i := 4) (j := 5) rfl nd_check_picture rfl rfl (by decide) rfl rfl (by decide) (by decide) (sa_cons (v_call ((ok_check_sizes T).mono (by decide)) (fun z => nomatch z) hr (takes_of rfl rfl rfl rfl) rfl T.g_check_sizes T.F_check_sizes.kp (b_check_sizes T) (sa_cons (sim_var (pe_var (i := 0) rfl (.inl rfl))) sa_nil)) (sa_cons (v_call ((ok_check_pages T).mono (by decide)) (fun z => nomatch z) hr (takes_of rfl rfl rfl rfl) rfl T.g_check_pages T.F_check_pages.kp (b_check_pages T) (sa_cons (sim_var (pe_var (i := 1) rfl (.inl rfl))) sa_nil)) sa_nil)) (by rfl))
  (sb_cons (ss_if (st_not (st_val (v_call ((ok_is_sequence T).mono (by decide)) (fun z => nomatch z) hr (takes_of rfl rfl rfl rfl) rfl T.g_is_sequence T.F_is_sequence.kp (b_is_sequence T) (sa_cons (sim_var (pe_var (i := 2) rfl (.inl rfl))) sa_nil)))) (sb_one (ss_raise T.o_BadPicture hr rfl (takes_of rfl rfl rfl rfl) rfl (v_neg sim_int))) sb_nil)
  (sb_cons (s_setO (i := 3) nd_check_picture rfl (.inl rfl) (by decide) so_dict0)
  (sb_cons (ss_for (ts := [6, 7]) (si_enum rfl T.n_enumerate (sim_var (pe_var (i := 2) rfl (.inl rfl)))) (sg_tup rfl (sgs_cons (sg_name (pg_name (i := 6) (nd_check_picture) rfl (.inl rfl)) (by decide) (by decide)) (sgs_cons (sg_name (pg_name (i := 7) (nd_check_picture) rfl (.inl rfl)) (by decide) (by decide)) sgs_nil))) (show SimB _ _ _ _ _ lb_check_picture_1 from (sb_cons (ss_if (st_w (sw_or (st_not (st_val (v_call ((ok_is_block T).mono (by decide)) (fun z => nomatch z) hr (takes_of rfl rfl rfl rfl) rfl T.g_is_block T.F_is_block.kp (b_is_block T) (sa_cons (sim_var (pe_var (i := 4) rfl (.inl rfl))) (sa_cons (sim_var (pe_var (i := 5) rfl (.inl rfl))) (sa_cons (sim_var (pe_var (i := 7) rfl (.inl rfl))) sa_nil)))))) (sw_or1 (st_w (sw_and (t_cmp o_gt op_gt (sim_var (pe_var (i := 6) rfl (.inl rfl))) sim_int (nomark _)) (sw_and1 (t_cmp o_le op_le (v_ix (sim_var (pe_var (i := 7) rfl (.inl rfl))) sim_int (fun _ _ => rfl)) (v_ix (v_ix (sim_var (pe_var (i := 2) rfl (.inl rfl))) (v_bin o_sub op_sub (sim_var (pe_var (i := 6) rfl (.inl rfl))) sim_int) (fun _ _ => rfl)) sim_int (fun _ _ => rfl)) (nomark _)))))))) (sb_one (ss_raise T.o_BadPicture hr rfl (takes_of rfl rfl rfl rfl) rfl (sim_var (pe_var (i := 6) rfl (.inl rfl))))) sb_nil)
  (sb_one (ss_if (st_not (st_val (v_call ((ok_hold T).mono (by decide)) (fun z => nomatch z) hr (takes_of rfl rfl rfl rfl) rfl T.g_hold T.F_hold.kp (b_hold T) (sa_cons (sim_var (pe_var (i := 3) rfl (.inl rfl))) (sa_cons (sim_var (pe_var (i := 7) rfl (.inl rfl))) sa_nil))))) (sb_one (ss_raise T.o_BadPicture hr rfl (takes_of rfl rfl rfl rfl) rfl (sim_var (pe_var (i := 6) rfl (.inl rfl))))) sb_nil)))) (passes_of rfl) rfl)
  (sb_one (ss_ret (v_ty o_tuple call_tuple_of rfl T.n_tuple bt_tuple (sa_cons (v_lc (own := [("block", 7)]) rfl nd_check_picture (blkOk_by (N := N_check_picture) (sc := defScope s_check_picture) (by decide +kernel)) (si_seq (sim_var (pe_var (i := 2) rfl (.inl rfl)))) (fun _ _ _ _ _ => (sg_name (pg_name (i := 7) (nd_check_picture) rfl (.inl rfl)) (by decide) (by decide))) (fun _ _ _ _ _ => spt_nil) (fun _ _ _ _ _ => (v_ty o_tuple call_tuple_of rfl T.n_tuple bt_tuple (sa_cons (sim_var (pe_var (i := 7) rfl (.inl rfl))) sa_nil)))) sa_nil))))))))
abbrev N_least_in : List Str := ["picture", "place", "size", "some", "handle", "_", "at"]
theorem nd_least_in : N_least_in.Nodup := by decide +kernel
theorem sc_least_in : FnScope N_least_in ["picture", "place", "size"] (defScope s_least_in) := ⟨rfl, rfl, rfl, by decide +kernel, rfl, by decide +kernel, by decide +kernel⟩
theorem ok_least_in (T : Txt K mg A) : FnS PySem.Challenge.pw_whatmovesbuy_k32_whole_what_the_foe_asks w K mg base ⟨tb, clA A⟩ false 1 A.f_least_in A.fd_least_in ["picture", "place", "size"] m_least_in :=
  fn_def (N := N_least_in) (k := 0) (g := g_least_in) T.F_least_in sc_least_in rfl rfl fun cdv A₀ outer s H E hg hr => (sb_cons (s_setLC (i := 3) (by decide) rfl nd_least_in rfl rfl (sw_true rfl rfl rfl (by decide +kernel)) (own := [("handle", 4), ("_", 5), ("at", 6)]) (blkOk_by (N := N_least_in) (sc := defScope s_least_in) (by decide +kernel)) (si_seq (sim_var (pe_var (i := 0) rfl (.inl rfl)))) (fun _ _ _ _ _ => (sg_tup rfl (sgs_cons (sg_name (pg_name (i := 4) (nd_least_in) rfl (.inl rfl)) (by decide) (by decide)) (sgs_cons (sg_name (pg_name (i := 5) (nd_least_in) rfl (.inl rfl)) (by decide) (by decide)) (sgs_cons (sg_name (pg_name (i := 6) (nd_least_in) rfl (.inl rfl)) (by decide) (by decide)) sgs_nil))))) (fun _ _ _ _ _ => (spt_one (t_chain b_le o_lt op_le op_lt (sim_var (pe_var (i := 1) rfl (.inr (.inl rfl)))) (sim_var (pe_var (i := 6) rfl (.inl rfl))) (v_bin o_add op_addD (sim_var (pe_var (i := 1) rfl (.inr (.inl rfl)))) (sim_var (pe_var (i := 2) rfl (.inr (.inl rfl)))))))) (fun _ _ _ _ _ => (sim_tup (sa_cons (sim_var (pe_var (i := 6) rfl (.inl rfl))) (sa_cons (sim_var (pe_var (i := 4) rfl (.inl rfl))) sa_nil)))))
  (sb_one (ss_ret (sim_if (t_cmp o_gt op_gt (v_b o_len call_len rfl T.n_len bt_len (sa_cons (sim_var (pe_var (i := 3) rfl (.inl rfl))) sa_nil)) sim_int (nomark _)) (v_ix (v_b o_minP (cr_minP rfl hr.units) rfl T.n_min bt_min (sa_cons (sim_var (pe_var (i := 3) rfl (.inl rfl))) sa_nil)) sim_int (fun _ _ => rfl)) sim_non))))
abbrev N_foe_request : List Str := ["sizes", "pages", "turn", "picture", "told", "ratio", "filled", "small", "great", "places", "place", "handle"]
theorem nd_foe_request : N_foe_request.Nodup := by decide +kernel
theorem sc_foe_request : FnScope N_foe_request ["sizes", "pages", "turn", "picture"] (defScope s_foe_request) := ⟨rfl, rfl, rfl, by decide +kernel, rfl, by decide +kernel, by decide +kernel⟩
theorem ok_foe_request (T : Txt K mg A) : FnS PySem.Challenge.pw_whatmovesbuy_k32_whole_what_the_foe_asks w K mg base ⟨tb, clA A⟩ false 7 A.f_foe_request A.fd_foe_request ["sizes", "pages", "turn", "picture"] m_foe_request :=
  fn_def (N := N_foe_request) (k := 6) (g := g_foe_request) T.F_foe_request sc_foe_request rfl rfl fun cdv A₀ outer s H E hg hr => (sb_cons (s_asg (ts := [7, 8, 9]) (sg_tup rfl (sgs_cons (sg_name (pg_name (i := 7) (nd_foe_request) rfl (.inl rfl)) (by decide) (by decide)) (sgs_cons (sg_name (pg_name (i := 8) (nd_foe_request) rfl (.inl rfl)) (by decide) (by decide)) (sgs_cons (sg_name (pg_name (i := 9) (nd_foe_request) rfl (.inl rfl)) (by decide) (by decide)) sgs_nil)))) (v_call ((ok_arena T).mono (by decide)) (fun z => nomatch z) hr (takes_of rfl rfl rfl rfl) rfl T.g_arena T.F_arena.kp (b_arena T) (sa_cons (sim_var (pe_var (i := 0) rfl (.inl rfl))) (sa_cons (sim_var (pe_var (i := 1) rfl (.inl rfl))) sa_nil))))
  (sb_cons (ss_if (st_w (sw_or (st_not (st_val (v_call ((ok_is_number T).mono (by decide)) (fun z => nomatch z) hr (takes_of rfl rfl rfl rfl) rfl T.g_is_number T.F_is_number.kp (b_is_number T) (sa_cons (sim_var (pe_var (i := 2) rfl (.inl rfl))) sa_nil)))) (sw_or1 (t_cmp o_ge op_ge (sim_var (pe_var (i := 2) rfl (.inl rfl))) (v_call ((ok_foe_many T).mono (by decide)) (fun z => nomatch z) hr (takes_of rfl rfl rfl rfl) rfl T.g_foe_many T.F_foe_many.kp (b_foe_many T) (sa_cons (sim_var (pe_var (i := 0) rfl (.inl rfl))) (sa_cons (sim_var (pe_var (i := 1) rfl (.inl rfl))) sa_nil))) (nomark _))))) (sb_one (ss_raise T.o_Refused hr rfl (takes_of rfl rfl rfl rfl) rfl (sim_var (pe_var (i := 2) rfl (.inl rfl))))) sb_nil)
  (sb_cons (s_set (i := 4) nd_foe_request rfl (.inl rfl) (by decide) (v_call ((ok_check_picture T).mono (by decide)) (fun z => nomatch z) hr (takes_of rfl rfl rfl rfl) rfl T.g_check_picture T.F_check_picture.kp (b_check_picture T) (sa_cons (sim_var (pe_var (i := 0) rfl (.inl rfl))) (sa_cons (sim_var (pe_var (i := 1) rfl (.inl rfl))) (sa_cons (sim_var (pe_var (i := 3) rfl (.inl rfl))) sa_nil)))))
  (sb_cons (s_set (i := 5) nd_foe_request rfl (.inl rfl) (by decide) (v_bin o_div op_fdivW (sim_var (pe_var (i := 8) rfl (.inl rfl))) (sim_var (pe_var (i := 7) rfl (.inl rfl)))))
  (sb_cons (s_set (i := 6) nd_foe_request rfl (.inl rfl) (by decide) (v_bin o_mul op_mulW (v_b o_len call_len rfl T.n_len bt_len (sa_cons (sim_var (pe_var (i := 9) rfl (.inl rfl))) sa_nil)) (sim_var (pe_var (i := 5) rfl (.inl rfl)))))
  (sb_cons (ss_if (t_cmp o_lt op_lt (sim_var (pe_var (i := 2) rfl (.inl rfl))) (sim_var (pe_var (i := 6) rfl (.inl rfl))) (nomark _)) (sb_one (ss_ret (sim_tup (sa_cons (sim_gstr rfl T.c_TAKE) (sa_cons (sim_var (pe_var (i := 7) rfl (.inl rfl))) sa_nil))))) sb_nil)
  (sb_cons (ss_if (t_cmp o_lt op_lt (sim_var (pe_var (i := 2) rfl (.inl rfl))) (v_bin o_add op_addD (sim_var (pe_var (i := 6) rfl (.inl rfl))) (sim_var (pe_var (i := 5) rfl (.inl rfl)))) (nomark _)) (sb_cons (s_set (i := 10) nd_foe_request rfl (.inl rfl) (by decide) (sim_if (t_cmp o_eq (op_eqA hr.units) (sim_var (pe_var (i := 2) rfl (.inl rfl))) (sim_var (pe_var (i := 6) rfl (.inl rfl))) (nomark _)) (v_ix (sim_var (pe_var (i := 9) rfl (.inl rfl))) sim_int (fun _ _ => rfl)) (v_ix (sim_var (pe_var (i := 9) rfl (.inl rfl))) sim_int (fun _ _ => rfl))))
  (sb_cons (s_set (i := 11) nd_foe_request rfl (.inl rfl) (by decide) (v_call ((ok_least_in T).mono (by decide)) (fun z => nomatch z) hr (takes_of rfl rfl rfl rfl) rfl T.g_least_in T.F_least_in.kp (b_least_in T) (sa_cons (sim_var (pe_var (i := 4) rfl (.inl rfl))) (sa_cons (sim_var (pe_var (i := 10) rfl (.inl rfl))) (sa_cons (sim_var (pe_var (i := 8) rfl (.inl rfl))) sa_nil)))))
  (sb_cons (ss_if (t_cmp o_is op_isN (sim_var (pe_var (i := 11) rfl (.inl rfl))) sim_non (nomark _)) (sb_one (ss_raise T.o_Refused hr rfl (takes_of rfl rfl rfl rfl) rfl (sim_var (pe_var (i := 3) rfl (.inl rfl))))) sb_nil)
  (sb_one (ss_ret (sim_tup (sa_cons (sim_gstr rfl T.c_GIVE) (sa_cons (sim_var (pe_var (i := 11) rfl (.inl rfl))) sa_nil)))))))) sb_nil)
  (sb_one (ss_ret (sim_tup (sa_cons (sim_gstr rfl T.c_TAKE) (sa_cons (sim_var (pe_var (i := 8) rfl (.inl rfl))) sa_nil))))))))))))
abbrev N__law_cells : List Str := ["picture", "found", "handle", "size", "place", "cell"]
theorem nd__law_cells : N__law_cells.Nodup := by decide +kernel
theorem sc__law_cells : FnScope N__law_cells ["picture"] (defScope s__law_cells) := ⟨rfl, rfl, rfl, by decide +kernel, rfl, by decide +kernel, by decide +kernel⟩
theorem ok__law_cells (T : Txt K mg A) : FnS PySem.Challenge.pw_whatmovesbuy_k32_whole_what_the_foe_asks w K mg base ⟨tb, clA A⟩ false 1 A.f__law_cells A.fd__law_cells ["picture"] m__law_cells :=
  fn_def (N := N__law_cells) (k := 0) (g := g__law_cells) T.F__law_cells sc__law_cells rfl rfl fun cdv A₀ outer s H E hg hr => (sb_cons (s_setO (i := 1) nd__law_cells rfl (.inl rfl) (by decide) so_dict0)
  (sb_cons (ss_for (ts := [2, 3, 4]) (si_seq (sim_var (pe_var (i := 0) rfl (.inl rfl)))) (sg_tup rfl (sgs_cons (sg_name (pg_name (i := 2) (nd__law_cells) rfl (.inl rfl)) (by decide) (by decide)) (sgs_cons (sg_name (pg_name (i := 3) (nd__law_cells) rfl (.inl rfl)) (by decide) (by decide)) (sgs_cons (sg_name (pg_name (i := 4) (nd__law_cells) rfl (.inl rfl)) (by decide) (by decide)) sgs_nil)))) (show SimB _ _ _ _ _ lb__law_cells_2 from (sb_one (ss_for (ts := [5]) (v_range2 rfl T.n_range (sa_cons (sim_var (pe_var (i := 4) rfl (.inl rfl))) (sa_cons (v_bin o_add op_addD (sim_var (pe_var (i := 4) rfl (.inl rfl))) (sim_var (pe_var (i := 3) rfl (.inl rfl)))) sa_nil))) (sg_name (pg_name (i := 5) (nd__law_cells) rfl (.inl rfl)) (by decide) (by decide)) (show SimB _ _ _ _ _ lb__law_cells_1 from (sb_one (ss_put (un1 hr) (sim_var (pe_var (i := 2) rfl (.inl rfl))) (sp_var (pe_var (i := 1) rfl (.inl rfl))) (sp_var (pe_var (i := 5) rfl (.inl rfl))) rfl))) (passes_of rfl) rfl))) (passes_of rfl) rfl)
  (sb_one (ss_ret (sim_var (pe_var (i := 1) rfl (.inl rfl)))))))
abbrev N__law_free : List Str := ["sizes", "pages", "picture", "size", "page", "held", "found", "place", "cell"]
theorem nd__law_free : N__law_free.Nodup := by decide +kernel
theorem sc__law_free : FnScope N__law_free ["sizes", "pages", "picture", "size"] (defScope s__law_free) := ⟨rfl, rfl, rfl, by decide +kernel, rfl, by decide +kernel, by decide +kernel⟩
theorem ok__law_free (T : Txt K mg A) : FnS PySem.Challenge.pw_whatmovesbuy_k32_whole_what_the_foe_asks w K mg base ⟨tb, clA A⟩ false 2 A.f__law_free A.fd__law_free ["sizes", "pages", "picture", "size"] m__law_free :=
  fn_def (N := N__law_free) (k := 1) (g := g__law_free) T.F__law_free sc__law_free rfl rfl fun cdv A₀ outer s H E hg hr => (sb_cons (s_asgO (is := [5, 6]) rfl (sos_cons (o_call ((ok__law_cells T).mono (by decide)) (fun z => nomatch z) hr (takes_of rfl rfl rfl rfl) rfl T.g__law_cells T.F__law_cells.kp (b__law_cells T) (sa_cons (sim_var (pe_var (i := 2) rfl (.inl rfl))) sa_nil)) (sos_cons (so_lst sa_nil) sos_nil)) (sgo_cons (pg_name (i := 5) (nd__law_free) rfl (.inr rfl)) (by decide) (sgo_cons (pg_name (i := 6) (nd__law_free) rfl (.inl rfl)) (by decide) sgo_nil)))
  (sb_cons (ss_for (ts := [4]) (si_seq (sim_var (pe_var (i := 1) rfl (.inl rfl)))) (sg_name (pg_name (i := 4) (nd__law_free) rfl (.inl rfl)) (by decide) (by decide)) (show SimB _ _ _ _ _ lb__law_free_2 from (sb_one (ss_for (ts := [7]) (v_range3 rfl T.n_range (sa_cons (v_bin o_mul op_mulW (sim_var (pe_var (i := 4) rfl (.inl rfl))) (v_ix (sim_var (pe_var (i := 0) rfl (.inl rfl))) (v_neg sim_int) (fun _ _ => rfl))) (sa_cons (v_bin o_mul op_mulW (v_bin o_add op_addD (sim_var (pe_var (i := 4) rfl (.inl rfl))) sim_int) (v_ix (sim_var (pe_var (i := 0) rfl (.inl rfl))) (v_neg sim_int) (fun _ _ => rfl))) (sa_cons (sim_var (pe_var (i := 3) rfl (.inl rfl))) sa_nil)))) (sg_name (pg_name (i := 7) (nd__law_free) rfl (.inl rfl)) (by decide) (by decide)) (show SimB _ _ _ _ _ lb__law_free_1 from (sb_one (ss_if (t_cmp o_eq (op_eqA hr.units) (v_lc (own := [("cell", 8)]) rfl nd__law_free (blkOk_by (N := N__law_free) (sc := defScope s__law_free) (by decide +kernel)) (v_range2 rfl T.n_range (sa_cons (sim_var (pe_var (i := 7) rfl (.inl rfl))) (sa_cons (v_bin o_add op_addD (sim_var (pe_var (i := 7) rfl (.inl rfl))) (sim_var (pe_var (i := 3) rfl (.inl rfl)))) sa_nil))) (fun _ _ _ _ _ => (sg_name (pg_name (i := 8) (nd__law_free) rfl (.inl rfl)) (by decide) (by decide))) (fun _ _ _ _ _ => (spt_one (t_in (un1 hr) (sp_var (pe_var (i := 8) rfl (.inl rfl))) (sp_var (pe_var (i := 5) rfl (.inr (.inl rfl)))) (by with_unfolding_all rfl)))) (fun _ _ _ _ _ => (sim_var (pe_var (i := 8) rfl (.inl rfl))))) (sim_lst sa_nil) (nomark _)) (sb_one (s_app (i := 6) rfl (.inl rfl) (sim_var (pe_var (i := 7) rfl (.inl rfl))))) sb_nil))) (passes_of rfl) rfl))) (passes_of rfl) rfl)
  (sb_one (ss_ret (sim_var (pe_var (i := 6) rfl (.inl rfl)))))))
abbrev N__law_due : List Str := ["small", "great", "places", "turn", "picture", "ratio", "begin", "some", "handle", "size", "place"]
theorem nd__law_due : N__law_due.Nodup := by decide +kernel
theorem sc__law_due : FnScope N__law_due ["small", "great", "places", "turn", "picture"] (defScope s__law_due) := ⟨rfl, rfl, rfl, by decide +kernel, rfl, by decide +kernel, by decide +kernel⟩
theorem ok__law_due (T : Txt K mg A) : FnS PySem.Challenge.pw_whatmovesbuy_k32_whole_what_the_foe_asks w K mg base ⟨tb, clA A⟩ false 1 A.f__law_due A.fd__law_due ["small", "great", "places", "turn", "picture"] m__law_due :=
  fn_def (N := N__law_due) (k := 0) (g := g__law_due) T.F__law_due sc__law_due rfl rfl fun cdv A₀ outer s H E hg hr => (sb_cons (s_set (i := 5) nd__law_due rfl (.inl rfl) (by decide) (v_bin o_div op_fdivW (sim_var (pe_var (i := 1) rfl (.inl rfl))) (sim_var (pe_var (i := 0) rfl (.inl rfl)))))
  (sb_cons (ss_if (t_cmp o_lt op_lt (sim_var (pe_var (i := 3) rfl (.inl rfl))) (v_bin o_mul op_mulW (v_b o_len call_len rfl T.n_len bt_len (sa_cons (sim_var (pe_var (i := 2) rfl (.inl rfl))) sa_nil)) (sim_var (pe_var (i := 5) rfl (.inl rfl)))) (nomark _)) (sb_one (ss_ret (sim_tup (sa_cons sim_str (sa_cons (sim_var (pe_var (i := 0) rfl (.inl rfl))) sa_nil))))) sb_nil)
  (sb_cons (ss_if (t_cmp o_eq (op_eqA hr.units) (sim_var (pe_var (i := 3) rfl (.inl rfl))) (v_bin o_add op_addD (v_bin o_mul op_mulW (v_b o_len call_len rfl T.n_len bt_len (sa_cons (sim_var (pe_var (i := 2) rfl (.inl rfl))) sa_nil)) (sim_var (pe_var (i := 5) rfl (.inl rfl)))) (sim_var (pe_var (i := 5) rfl (.inl rfl)))) (nomark _)) (sb_one (ss_ret (sim_tup (sa_cons sim_str (sa_cons (sim_var (pe_var (i := 1) rfl (.inl rfl))) sa_nil))))) sb_nil)
  (sb_cons (s_set (i := 6) nd__law_due rfl (.inr rfl) (by decide) (sim_if (t_cmp o_eq (op_eqA hr.units) (sim_var (pe_var (i := 3) rfl (.inl rfl))) (v_bin o_mul op_mulW (v_b o_len call_len rfl T.n_len bt_len (sa_cons (sim_var (pe_var (i := 2) rfl (.inl rfl))) sa_nil)) (sim_var (pe_var (i := 5) rfl (.inl rfl)))) (nomark _)) (v_ix (sim_var (pe_var (i := 2) rfl (.inl rfl))) sim_int (fun _ _ => rfl)) (v_ix (sim_var (pe_var (i := 2) rfl (.inl rfl))) sim_int (fun _ _ => rfl))))
  (sb_cons (s_set (i := 7) nd__law_due rfl (.inl rfl) (by decide) (v_b o_sortP (cr_sortP hr.units) rfl T.n_sorted bt_sorted (sa_cons (v_lc (own := [("handle", 8), ("size", 9), ("place", 10)]) rfl nd__law_due (blkOk_by (N := N__law_due) (sc := defScope s__law_due) (by decide +kernel)) (si_seq (sim_var (pe_var (i := 4) rfl (.inl rfl)))) (fun _ _ _ _ _ => (sg_tup rfl (sgs_cons (sg_name (pg_name (i := 8) (nd__law_due) rfl (.inl rfl)) (by decide) (by decide)) (sgs_cons (sg_name (pg_name (i := 9) (nd__law_due) rfl (.inl rfl)) (by decide) (by decide)) (sgs_cons (sg_name (pg_name (i := 10) (nd__law_due) rfl (.inl rfl)) (by decide) (by decide)) sgs_nil))))) (fun _ _ _ _ _ => (spt_one (t_cmp o_ge op_ge (sim_var (pe_var (i := 10) rfl (.inl rfl))) (sim_var (pe_var (i := 6) rfl (.inr (.inl rfl)))) (nomark _)))) (fun _ _ _ _ _ => (sim_tup (sa_cons (sim_var (pe_var (i := 10) rfl (.inl rfl))) (sa_cons (sim_var (pe_var (i := 8) rfl (.inl rfl))) sa_nil))))) sa_nil)))
  (sb_one (ss_ret (sim_tup (sa_cons sim_str (sa_cons (v_ix (v_ix (sim_var (pe_var (i := 7) rfl (.inl rfl))) sim_int (fun _ _ => rfl)) sim_int (fun _ _ => rfl)) sa_nil))))))))))
abbrev N_law : List Str := ["script", "k", "box", "turn", "free", "bad", "sizes", "pages", "small", "great", "places", "many", "picture", "told", "block", "handle", "size", "place"]
theorem nd_law : N_law.Nodup := by decide +kernel
theorem sc_law : FnScope N_law ["script"] (defScope s_law) := ⟨rfl, rfl, rfl, by decide +kernel, rfl, by decide +kernel, by decide +kernel⟩
theorem ok_law (T : Txt K mg A) {oc kV doc pm ct : Value} {od an : Option Addr} {osl : Array (Option Value)} (lk : K.lookup A.f_law = some ⟨oc, od, .func (PySem.W.fnOf "law" "law" (defArgs s_law) (defBody s_law) (defScope s_law) .none kV doc pm an (.ref A.cL) ct), osl⟩) (hcd : PySem.W.codeIn K (.ref A.cL) "law" = true) (TB : LamX.TabB base mg A.cL A.pL) :
    FnS PySem.Challenge.pw_whatmovesbuy_k32_whole_what_the_foe_asks w K mg base ⟨[(A.pL, "law.<locals>.<lambda>")], clA A⟩ true 11 A.f_law (PySem.W.fnOf "law" "law" (defArgs s_law) (defBody s_law) (defScope s_law) .none kV doc pm an (.ref A.cL) ct) ["script"] m_law := by
  obtain ⟨oc1, od1, kV1, doc1, pm1, an1, cdv1, ct1, osl1, e1, lk1, hcd1⟩ := T.F__law_refused.ex
  have b1 := b__law_refused T
  rw [e1] at b1 lk1
  have hd1 : ∀ (A1 : Around) (outer1 : List Env) (s1 : Shared) (H1 : Hp), A1.guards = some [] → (A1.deeper (envOfC "_law_refused" (defScope s__law_refused) s1.heap.objs.size A.f__law_refused cdv1)).units + 64 < cLine → HdN (cxOf C8.CX0 PySem.Challenge.pw_whatmovesbuy_k32_whole_what_the_foe_asks w K mg base N__law_refused "_law_refused" (defScope s__law_refused) A.f__law_refused cdv1 A1 outer1 s1 H1 C8.E0).nox (hdsOf (defBody s__law_refused)) (clsOf K ⟨[(A.pL, "law.<locals>.<lambda>")], clA A⟩ 1 (sp__law_refused A)) := fun A1 outer1 s1 H1 hgA huA => (.as ⟨rfl, by decide, .inl T.o_BadPicture.gC⟩ rfl rfl (fun _ _ _ _ _ hz hf => sx_ret (q := ⟨"BadPicture", "at", A.C_BadPicture, (fun _ => some (.str "picture"))⟩) (sx_c (y := .str "picture") pe_str fun _ => .str _)) (.as ⟨rfl, by decide, .inl T.o_Refused.gC⟩ rfl rfl (fun _ _ _ _ _ hz hf => sx_ret (q := ⟨"Refused", "value", A.C_Refused, out2 "refused"⟩) (sx_told2 T.x_Refused T.o_Refused.noN hz hf (pe_var (i := 1) rfl (.inl rfl)) rfl T.n_repr hgA huA)) .nil))
  exact fn_defC (N := N_law) (k := 10) (g := g_law) lk hcd sc_law rfl rfl fun A₀ outer s H E hg hr => (sb_cons (ss_for (ts := [1]) (v_range1 rfl T.n_range (sa_cons sim_int sa_nil)) (sg_name (pg_name (i := 1) (nd_law) rfl (.inl rfl)) (by decide) (by decide)) (show SimB _ _ _ _ _ lb_law_2 from (sb_cons (s_setO (i := 2) nd_law rfl (.inr rfl) (by decide) (o_call ((ok__law_box T).mono (by decide)) (fun z => nomatch z) hr (takes_of rfl rfl rfl rfl) rfl T.g__law_box T.F__law_box.kp (b__law_box T) (sa_cons (sim_var (pe_var (i := 0) rfl (.inl rfl))) (sa_cons (sim_var (pe_var (i := 1) rfl (.inl rfl))) sa_nil))))
  (sb_cons (s_asg (ts := [6, 7]) (sg_tup rfl (sgs_cons (sg_name (pg_name (i := 6) (nd_law) rfl (.inr rfl)) (by decide) (by decide)) (sgs_cons (sg_name (pg_name (i := 7) (nd_law) rfl (.inr rfl)) (by decide) (by decide)) sgs_nil))) (sim_tup (sa_cons (v_call ((ok__law_sizes T).mono (by decide)) (fun z => nomatch z) hr (takes_of rfl rfl rfl rfl) rfl T.g__law_sizes T.F__law_sizes.kp (b__law_sizes T) (sa_cons (sim_var (pe_var (i := 2) rfl (.inr (.inl rfl)))) (sa_cons sim_int (sa_cons sim_int sa_nil)))) (sa_cons (v_call ((ok__law_pages T).mono (by decide)) (fun z => nomatch z) hr (takes_of rfl rfl rfl rfl) rfl T.g__law_pages T.F__law_pages.kp (b__law_pages T) (sa_cons (sim_var (pe_var (i := 2) rfl (.inr (.inl rfl)))) (sa_cons (v_bin o_add op_addD sim_int (v_call ((ok__law_take T).mono (by decide)) (fun z => nomatch z) hr (takes_of rfl rfl rfl rfl) rfl T.g__law_take T.F__law_take.kp (b__law_take T) (sa_cons (sim_var (pe_var (i := 2) rfl (.inr (.inl rfl)))) (sa_cons sim_int sa_nil)))) sa_nil))) sa_nil))))
  (sb_cons (ss_if (st_w (sw_and (t_cmp o_gt op_gt (v_b o_len call_len rfl T.n_len bt_len (sa_cons (sim_var (pe_var (i := 6) rfl (.inr (.inl rfl)))) sa_nil)) sim_int (nomark _)) (sw_and1 (t_cmp o_eq (op_eqA hr.units) (v_call ((ok__law_take T).mono (by decide)) (fun z => nomatch z) hr (takes_of rfl rfl rfl rfl) rfl T.g__law_take T.F__law_take.kp (b__law_take T) (sa_cons (sim_var (pe_var (i := 2) rfl (.inr (.inl rfl)))) (sa_cons sim_int sa_nil))) sim_int (nomark _))))) (sb_one (s_set (i := 7) nd_law rfl (.inr rfl) (by decide) (sim_sl (sim_var (pe_var (i := 7) rfl (.inr (.inl rfl)))) trivial sim_int))) sb_nil)
  (sb_cons (s_asg (ts := [8, 9, 10]) (sg_tup rfl (sgs_cons (sg_name (pg_name (i := 8) (nd_law) rfl (.inr rfl)) (by decide) (by decide)) (sgs_cons (sg_name (pg_name (i := 9) (nd_law) rfl (.inl rfl)) (by decide) (by decide)) (sgs_cons (sg_name (pg_name (i := 10) (nd_law) rfl (.inl rfl)) (by decide) (by decide)) sgs_nil)))) (v_call ((ok_arena T).mono (by decide)) (fun z => nomatch z) hr (takes_of rfl rfl rfl rfl) rfl T.g_arena T.F_arena.kp (b_arena T) (sa_cons (sim_var (pe_var (i := 6) rfl (.inr (.inl rfl)))) (sa_cons (sim_var (pe_var (i := 7) rfl (.inr (.inl rfl)))) sa_nil))))
  (sb_cons (s_par (i := 11) (j := 12) rfl nd_law rfl rfl (by decide) rfl rfl (by decide) (by decide) (sa_cons (v_call ((ok_foe_many T).mono (by decide)) (fun z => nomatch z) hr (takes_of rfl rfl rfl rfl) rfl T.g_foe_many T.F_foe_many.kp (b_foe_many T) (sa_cons (sim_var (pe_var (i := 6) rfl (.inr (.inl rfl)))) (sa_cons (sim_var (pe_var (i := 7) rfl (.inr (.inl rfl)))) sa_nil))) (sa_cons (sim_lst sa_nil) sa_nil)) (by rfl))
  (sb_cons (ss_for (ts := [3]) (v_range1 rfl T.n_range (sa_cons (sim_var (pe_var (i := 11) rfl (.inl rfl))) sa_nil)) (sg_name (pg_name (i := 3) (nd_law) rfl (.inr rfl)) (by decide) (by decide)) (show SimB _ _ _ _ _ lb_law_1 from (sb_cons (s_set (i := 13) nd_law rfl (.inr rfl) (by decide) (v_call ((ok_foe_request T).mono (by decide)) (fun z => nomatch z) hr (takes_of rfl rfl rfl rfl) rfl T.g_foe_request T.F_foe_request.kp (b_foe_request T) (sa_cons (sim_var (pe_var (i := 6) rfl (.inr (.inl rfl)))) (sa_cons (sim_var (pe_var (i := 7) rfl (.inr (.inl rfl)))) (sa_cons (sim_var (pe_var (i := 3) rfl (.inr (.inl rfl)))) (sa_cons (v_ty o_tuple call_tuple_of rfl T.n_tuple bt_tuple (sa_cons (sim_var (pe_var (i := 12) rfl (.inl rfl))) sa_nil)) sa_nil))))))
  (sb_cons (ss_if (t_cmp o_eq (op_eqA hr.units) (v_bin o_mod op_mod (sim_var (pe_var (i := 3) rfl (.inr (.inl rfl)))) sim_int) sim_int (nomark _)) (sb_one (s_set (i := 13) nd_law rfl (.inr rfl) (by decide) (v_callK0 ((ok_foe_request T).mono (by decide)) (fun z => nomatch z) hr (takes_of rfl rfl rfl rfl) rfl T.g_foe_request T.F_foe_request.kp (kb_foe_request_0_picture_turn_pages_sizes T) rfl (sk_cons (v_lc (own := [("block", 14)]) rfl nd_law (blkOk_by (N := N_law) (sc := defScope s_law) (by decide +kernel)) (si_seq (sim_var (pe_var (i := 12) rfl (.inl rfl)))) (fun _ _ _ _ _ => (sg_name (pg_name (i := 14) (nd_law) rfl (.inl rfl)) (by decide) (by decide))) (fun _ _ _ _ _ => spt_nil) (fun _ _ _ _ _ => (v_ty o_list call_list_of rfl T.n_list bt_list (sa_cons (sim_var (pe_var (i := 14) rfl (.inl rfl))) sa_nil)))) (sk_cons (sim_var (pe_var (i := 3) rfl (.inr (.inl rfl)))) (sk_cons (v_ty o_list call_list_of rfl T.n_list bt_list (sa_cons (sim_var (pe_var (i := 7) rfl (.inr (.inl rfl)))) sa_nil)) (sk_cons (v_ty o_list call_list_of rfl T.n_list bt_list (sa_cons (sim_var (pe_var (i := 6) rfl (.inr (.inl rfl)))) sa_nil)) sk_nil))))))) sb_nil)
  (sb_cons (ss_if (t_cmp o_ne (op_neA hr.units) (v_b o_repr (call_repr (hg rfl) hr.units) rfl T.n_repr bt_repr (sa_cons (sim_var (pe_var (i := 13) rfl (.inr (.inl rfl)))) sa_nil)) (v_b o_repr (call_repr (hg rfl) hr.units) rfl T.n_repr bt_repr (sa_cons (v_call ((ok__law_due T).mono (by decide)) (fun z => nomatch z) hr (takes_of rfl rfl rfl rfl) rfl T.g__law_due T.F__law_due.kp (b__law_due T) (sa_cons (sim_var (pe_var (i := 8) rfl (.inr (.inl rfl)))) (sa_cons (sim_var (pe_var (i := 9) rfl (.inl rfl))) (sa_cons (sim_var (pe_var (i := 10) rfl (.inl rfl))) (sa_cons (sim_var (pe_var (i := 3) rfl (.inr (.inl rfl)))) (sa_cons (sim_var (pe_var (i := 12) rfl (.inl rfl))) sa_nil)))))) sa_nil)) (nomark _)) (sb_one (ss_ret sim_bl)) sb_nil)
  (sb_one (ss_if (t_cmp o_eq (op_eqA hr.units) (v_ix (sim_var (pe_var (i := 13) rfl (.inr (.inl rfl)))) sim_int (fun _ _ => rfl)) sim_str (nomark _)) (sb_one (s_setLC (i := 12) (by decide) rfl nd_law rfl rfl (sw_true rfl rfl rfl (by decide +kernel)) (own := [("block", 14)]) (blkOk_by (N := N_law) (sc := defScope s_law) (by decide +kernel)) (si_seq (sim_var (pe_var (i := 12) rfl (.inl rfl)))) (fun _ _ _ _ _ => (sg_name (pg_name (i := 14) (nd_law) rfl (.inl rfl)) (by decide) (by decide))) (fun _ _ _ _ _ => (spt_one (t_cmp o_ne (op_neA hr.units) (v_ix (sim_var (pe_var (i := 14) rfl (.inl rfl))) sim_int (fun _ _ => rfl)) (v_ix (sim_var (pe_var (i := 13) rfl (.inr (.inl rfl)))) sim_int (fun _ _ => rfl)) (nomark _)))) (fun _ _ _ _ _ => (sim_var (pe_var (i := 14) rfl (.inl rfl)))))) (sb_one (ss_if (t_cmp o_lt op_lt (sim_var (pe_var (i := 3) rfl (.inr (.inl rfl)))) (v_bin o_sub op_sub (sim_var (pe_var (i := 11) rfl (.inl rfl))) sim_int) (nomark _)) (sb_one (s_set (i := 12) nd_law rfl (.inl rfl) (by decide) (v_bin o_add op_addD (sim_var (pe_var (i := 12) rfl (.inl rfl))) (sim_lst (sa_cons (sim_tup (sa_cons (sim_var (pe_var (i := 3) rfl (.inr (.inl rfl)))) (sa_cons (sim_var (pe_var (i := 8) rfl (.inr (.inl rfl)))) (sa_cons (v_call ((ok__law_pick T).mono (by decide)) (fun z => nomatch z) hr (takes_of rfl rfl rfl rfl) rfl T.g__law_pick T.F__law_pick.kp (b__law_pick T) (sa_cons (sim_var (pe_var (i := 2) rfl (.inr (.inl rfl)))) (sa_cons (v_call ((ok__law_free T).mono (by decide)) (fun z => nomatch z) hr (takes_of rfl rfl rfl rfl) rfl T.g__law_free T.F__law_free.kp (b__law_free T) (sa_cons (sim_var (pe_var (i := 6) rfl (.inr (.inl rfl)))) (sa_cons (sim_var (pe_var (i := 7) rfl (.inr (.inl rfl)))) (sa_cons (sim_var (pe_var (i := 12) rfl (.inl rfl))) (sa_cons (sim_var (pe_var (i := 8) rfl (.inr (.inl rfl)))) sa_nil))))) sa_nil))) sa_nil)))) sa_nil))))) sb_nil)))))))) (passes_of rfl) rfl)
  (sb_cons (s_set (i := 4) nd_law rfl (.inl rfl) (by decide) (v_bin o_sub op_sub (v_bin o_mul op_mulW (v_b o_len call_len rfl T.n_len bt_len (sa_cons (sim_var (pe_var (i := 7) rfl (.inr (.inl rfl)))) sa_nil)) (v_ix (sim_var (pe_var (i := 6) rfl (.inr (.inl rfl)))) (v_neg sim_int) (fun _ _ => rfl))) (v_b o_sumA (cr_sumA rfl) rfl T.n_sum bt_sum (sa_cons (v_lc (own := [("handle", 15), ("size", 16), ("place", 17)]) rfl nd_law (blkOk_by (N := N_law) (sc := defScope s_law) (by decide +kernel)) (si_seq (sim_var (pe_var (i := 12) rfl (.inl rfl)))) (fun _ _ _ _ _ => (sg_tup rfl (sgs_cons (sg_name (pg_name (i := 15) (nd_law) rfl (.inl rfl)) (by decide) (by decide)) (sgs_cons (sg_name (pg_name (i := 16) (nd_law) rfl (.inl rfl)) (by decide) (by decide)) (sgs_cons (sg_name (pg_name (i := 17) (nd_law) rfl (.inl rfl)) (by decide) (by decide)) sgs_nil))))) (fun _ _ _ _ _ => spt_nil) (fun _ _ _ _ _ => (sim_var (pe_var (i := 16) rfl (.inl rfl))))) sa_nil))))
  (sb_cons (ss_if (st_w (sw_or (t_cmp o_ne (op_neA hr.units) (sim_var (pe_var (i := 4) rfl (.inl rfl))) (sim_var (pe_var (i := 9) rfl (.inl rfl))) (nomark _)) (sw_or1 (t_cmp o_ne (op_neA hr.units) (v_call ((ok__law_free T).mono (by decide)) (fun z => nomatch z) hr (takes_of rfl rfl rfl rfl) rfl T.g__law_free T.F__law_free.kp (b__law_free T) (sa_cons (sim_var (pe_var (i := 6) rfl (.inr (.inl rfl)))) (sa_cons (sim_var (pe_var (i := 7) rfl (.inr (.inl rfl)))) (sa_cons (sim_var (pe_var (i := 12) rfl (.inl rfl))) (sa_cons (sim_var (pe_var (i := 9) rfl (.inl rfl))) sa_nil))))) (sim_lst sa_nil) (nomark _))))) (sb_one (ss_ret sim_bl)) sb_nil)
  (sb_cons (s_set (i := 5) nd_law rfl (.inr rfl) (by decide) (v_call ((ok__law_pick T).mono (by decide)) (fun z => nomatch z) hr (takes_of rfl rfl rfl rfl) rfl T.g__law_pick T.F__law_pick.kp (b__law_pick T) (sa_cons (sim_var (pe_var (i := 2) rfl (.inr (.inl rfl)))) (sa_cons (sim_lst (sa_cons (sim_var (pe_var (i := 11) rfl (.inl rfl))) (sa_cons (v_bin o_sub op_sub sim_int sim_int) (sa_cons sim_non (sa_cons sim_bl (sa_cons sim_str (sa_cons (sim_tup (sa_cons sim_int sa_nil)) sa_nil))))))) sa_nil))))
  (sb_cons (ss_if (t_cmp o_ne (op_neA hr.units) (sim_heard T.h__law_refused (Nat.le_of_ble_eq_true rfl) (fun _ => rfl) (LamX.pe_lamcall (k := 7) rfl T.g__law_refused T.F__law_refused.kp lk1 hcd1 b1 sc__law_refused rfl (.inl rfl) (heard_gives (X := cxOf (L2.CX PySem.Challenge.pw_whatmovesbuy_k32_whole_what_the_foe_asks w) PySem.Challenge.pw_whatmovesbuy_k32_whole_what_the_foe_asks w K mg base N_law "law" (defScope s_law) A.f_law (.ref A.cL) A₀ outer s H E) nd__law_refused (fun _ => rfl) fun s1 H1 => hd1 _ _ s1 H1 (hg rfl) (hr.deeper _).units) TB rfl (List.mem_singleton.mpr rfl) (fun q hq _ => by rw [List.mem_singleton.mp hq] <;> rfl) (hr.mono (by decide)) (LamX.lamS_by (sc := defScope s_law) (by decide +kernel)) rfl (fun _ _ _ _ _ => rfl) (fun _ _ _ _ _ _ _ hr => (v_call ((ok_foe_request T).mono (by decide)) (fun z => nomatch z) hr (takes_of rfl rfl rfl rfl) rfl T.g_foe_request T.F_foe_request.kp (b_foe_request T) (sa_cons (sim_var (pe_var (i := 6) rfl (.inr (.inr rfl)))) (sa_cons (sim_var (pe_var (i := 7) rfl (.inr (.inr rfl)))) (sa_cons (sim_var (pe_var (i := 5) rfl (.inr (.inr rfl)))) (sa_cons sim_non sa_nil)))))))) (sim_tup (sa_cons sim_str (sa_cons (v_b o_repr (call_repr (hg rfl) hr.units) rfl T.n_repr bt_repr (sa_cons (sim_var (pe_var (i := 5) rfl (.inr (.inl rfl)))) sa_nil)) sa_nil))) (nomark _)) (sb_one (ss_ret sim_bl)) sb_nil)
  (sb_cons (ss_if (t_cmp o_ne (op_neA hr.units) (sim_heard T.h__law_refused (Nat.le_of_ble_eq_true rfl) (fun _ => rfl) (LamX.pe_lamcall (k := 7) rfl T.g__law_refused T.F__law_refused.kp lk1 hcd1 b1 sc__law_refused rfl (.inl rfl) (heard_gives (X := cxOf (L2.CX PySem.Challenge.pw_whatmovesbuy_k32_whole_what_the_foe_asks w) PySem.Challenge.pw_whatmovesbuy_k32_whole_what_the_foe_asks w K mg base N_law "law" (defScope s_law) A.f_law (.ref A.cL) A₀ outer s H E) nd__law_refused (fun _ => rfl) fun s1 H1 => hd1 _ _ s1 H1 (hg rfl) (hr.deeper _).units) TB rfl (List.mem_singleton.mpr rfl) (fun q hq _ => by rw [List.mem_singleton.mp hq] <;> rfl) (hr.mono (by decide)) (LamX.lamS_by (sc := defScope s_law) (by decide +kernel)) rfl (fun _ _ _ _ _ => rfl) (fun _ _ _ _ _ _ _ hr => (v_call ((ok_foe_request T).mono (by decide)) (fun z => nomatch z) hr (takes_of rfl rfl rfl rfl) rfl T.g_foe_request T.F_foe_request.kp (b_foe_request T) (sa_cons (sim_var (pe_var (i := 6) rfl (.inr (.inr rfl)))) (sa_cons (sim_var (pe_var (i := 7) rfl (.inr (.inr rfl)))) (sa_cons sim_int (sa_cons (v_call ((ok__law_pick T).mono (by decide)) (fun z => nomatch z) hr (takes_of rfl rfl rfl rfl) rfl T.g__law_pick T.F__law_pick.kp (b__law_pick T) (sa_cons (sim_var (pe_var (i := 2) rfl (.inr (.inr rfl)))) (sa_cons (sim_lst (sa_cons sim_non (sa_cons (sim_tup (sa_cons (sim_tup (sa_cons sim_int (sa_cons sim_int (sa_cons sim_int sa_nil)))) sa_nil)) (sa_cons (sim_tup (sa_cons (sim_tup (sa_cons sim_int (sa_cons (sim_var (pe_var (i := 8) rfl (.inr (.inr rfl)))) sa_nil))) sa_nil)) sa_nil)))) sa_nil))) sa_nil)))))))) sim_str (nomark _)) (sb_one (ss_ret sim_bl)) sb_nil)
  (sb_cons (s_set (i := 3) nd_law rfl (.inr rfl) (by decide) (v_bin o_add op_addD (v_bin o_mul op_mulW (v_b o_len call_len rfl T.n_len bt_len (sa_cons (sim_var (pe_var (i := 10) rfl (.inl rfl))) sa_nil)) (v_bin o_div op_fdivW (sim_var (pe_var (i := 9) rfl (.inl rfl))) (sim_var (pe_var (i := 8) rfl (.inr (.inl rfl)))))) (v_call ((ok__law_take T).mono (by decide)) (fun z => nomatch z) hr (takes_of rfl rfl rfl rfl) rfl T.g__law_take T.F__law_take.kp (b__law_take T) (sa_cons (sim_var (pe_var (i := 2) rfl (.inr (.inl rfl)))) (sa_cons sim_int sa_nil)))))
  (sb_one (ss_if (t_cmp o_ne (op_neA hr.units) (sim_heard T.h__law_refused (Nat.le_of_ble_eq_true rfl) (fun _ => rfl) (LamX.pe_lamcall (k := 7) rfl T.g__law_refused T.F__law_refused.kp lk1 hcd1 b1 sc__law_refused rfl (.inl rfl) (heard_gives (X := cxOf (L2.CX PySem.Challenge.pw_whatmovesbuy_k32_whole_what_the_foe_asks w) PySem.Challenge.pw_whatmovesbuy_k32_whole_what_the_foe_asks w K mg base N_law "law" (defScope s_law) A.f_law (.ref A.cL) A₀ outer s H E) nd__law_refused (fun _ => rfl) fun s1 H1 => hd1 _ _ s1 H1 (hg rfl) (hr.deeper _).units) TB rfl (List.mem_singleton.mpr rfl) (fun q hq _ => by rw [List.mem_singleton.mp hq] <;> rfl) (hr.mono (by decide)) (LamX.lamS_by (sc := defScope s_law) (by decide +kernel)) rfl (fun _ _ _ _ _ => rfl) (fun _ _ _ _ _ _ _ hr => (v_call ((ok_foe_request T).mono (by decide)) (fun z => nomatch z) hr (takes_of rfl rfl rfl rfl) rfl T.g_foe_request T.F_foe_request.kp (b_foe_request T) (sa_cons (sim_var (pe_var (i := 6) rfl (.inr (.inr rfl)))) (sa_cons (sim_var (pe_var (i := 7) rfl (.inr (.inr rfl)))) (sa_cons (sim_var (pe_var (i := 3) rfl (.inr (.inr rfl)))) (sa_cons (sim_tup sa_nil) sa_nil)))))))) (sim_tup (sa_cons sim_str (sa_cons sim_str sa_nil))) (nomark _)) (sb_one (ss_ret sim_bl)) sb_nil))))))))))))))) (passes_of rfl) rfl)
  (sb_one (ss_ret sim_bl)))
end
end Zk32
end
section
set_option pp.maxSteps 1500
set_option Elab.async false
set_option linter.all false
set_option maxRecDepth 100000
set_option maxHeartbeats 4000000
namespace Zk32
open PySem PySem.Spec PyProof.Rows L2 DS
theorem turn {ns : List Int} {k : Int} (h0 : 0 ≤ k) (h7 : k ≤ 7) (x2 x3 x4 x5 x6 x7 x8 x9 x10 x11 x12 x13 : SV) : ∃ r : List SV, r.length = 12 ∧ lb_law_2 ([.d (.list (dl ns)), .d (.int k), x2, x3, x4, x5, x6, x7, x8, x9, x10, x11, x12, x13, .un, .un, .un, .un]) = .ok .nx (.d (.list (dl ns)) :: .d (.int k) :: r ++ [.un, .un, .un, .un]) := by
  obtain ⟨b0, hb0, e0⟩ := st_box (ns := ns) h0 h7 x2 [x3, x4, x5, x6, x7, x8, x9, x10, x11, x12, x13, .un, .un, .un, .un]
  obtain ⟨ys, ps0, b1, hs, l2, hp0, p2, hb1, e1⟩ := st_build hb0 (.d (.list (dl ns))) (.d (.int k)) x3 x4 x5 x6 x7 [x8, x9, x10, x11, x12, x13, .un, .un, .un, .un]
  obtain ⟨ps, b2, hp, a2, hb2, e2⟩ := st_one hb1 hs l2 hp0 p2 (.d (.list (dl ns))) (.d (.int k)) x3 x4 x5 [x8, x9, x10, x11, x12, x13, .un, .un, .un, .un]
  have A := ar_of hs hp a2
  revert A
  generalize lastI (arS ys ps.length).dropLast = c
  generalize lastI (arS ys ps.length) = G
  generalize (G / c).toNat = R
  intro A
  have e3 := st_arena A (.d (.list (dl ns))) (.d (.int k)) b2 x3 x4 x5 x8 x9 x10 [x11, x12, x13, .un, .un, .un, .un]
  have e4 := st_many A (.d (.list (dl ns))) (.d (.int k)) b2 x3 x4 x5 (.d (.int c)) (.d (.int G)) (.d (.tuple (dl (plI ys ps G)))) x11 x12 [x13, .un, .un, .un, .un]
  obtain ⟨b3, bs, y, v, hb3, hg, e5⟩ := st_loop A hb2 (.d (.list (dl ns))) (.d (.int k)) x3 x4 x5 x13
  have e6 := st_free A hg (.d (.list (dl ns))) (.d (.int k)) b3 y x4 x5 v (n := (plI ys ps c).length + R + 1)
  have e7 := ck7 A hg (.d (.list (dl ns))) (.d (.int k)) b3 y x5 v (n := (plI ys ps c).length + R + 1)
  obtain ⟨x, b4, hx, hb4, e8⟩ := st_bad hb3 (n := (plI ys ps c).length + R + 1) (.d (.list (dl ns))) (.d (.int k)) y (.d (.int G)) x5 (.d (.tuple (dl ys))) (.d (.tuple (dl ps))) (.d (.int c)) (.d (.int G)) (.d (.tuple (dl (plI ys ps G)))) [.d (.list (bs.map (blk .tuple c))), v, .un, .un, .un, .un]
  have e9 := ck9 A hx (.d (.list (dl ns))) (.d (.int k)) b4 y (.d (.int G)) [.d (.int c), .d (.int G), .d (.tuple (dl (plI ys ps G))), .d (.int ((plI ys ps c).length + R + 1)), .d (.list (bs.map (blk .tuple c))), v, .un, .un, .un, .un]
  obtain ⟨b5, hb5, e10⟩ := ck10 A hb4 (.d (.list (dl ns))) (.d (.int k)) y (.d (.int G)) (.d x) [.d (.int G), .d (.tuple (dl (plI ys ps G))), .d (.int ((plI ys ps c).length + R + 1)), .d (.list (bs.map (blk .tuple c))), v, .un, .un, .un, .un]
  obtain ⟨t, b6, ht, hb6, e11⟩ := st_turn A hb5 (.d (.list (dl ns))) (.d (.int k)) y (.d (.int G)) (.d x) (.d (.tuple (dl ys))) (.d (.tuple (dl ps))) [.d (.int ((plI ys ps c).length + R + 1)), .d (.list (bs.map (blk .tuple c))), v, .un, .un, .un, .un]
  have e12 := ck12 A ht (.d (.list (dl ns))) (.d (.int k)) b6 (.d (.int G)) (.d x) [.d (.int c), .d (.int G), .d (.tuple (dl (plI ys ps G))), .d (.int ((plI ys ps c).length + R + 1)), .d (.list (bs.map (blk .tuple c))), v, .un, .un, .un, .un]
  refine ⟨[b6, .d (.int t), .d (.int G), .d x, .d (.tuple (dl ys)), .d (.tuple (dl ps)), .d (.int c), .d (.int G), .d (.tuple (dl (plI ys ps G))), .d (.int ((plI ys ps c).length + R + 1)), .d (.list (bs.map (blk .tuple c))), v], rfl, ?_⟩
  unfold lb_law_2
  rw [seq_nx e0, seq_nx e1, seq_nx e2, seq_nx e3, seq_nx e4, seq_nx e5, seq_nx e6, seq_nx e7, seq_nx e8, seq_nx e9, seq_nx e10, seq_nx e11]
  exact e12
theorem twelve {r : List SV} (h : r.length = 12) : ∃ a b c d e f g i j k l m, r = [a, b, c, d, e, f, g, i, j, k, l, m] := by
  match r, h with
  | [a, b, c, d, e, f, g, i, j, k, l, m], _ => exact ⟨a, b, c, d, e, f, g, i, j, k, l, m, rfl⟩
theorem loopL (ns : List Int) {n : Nat} (hn : n ≤ 7) (x1 : SV) {r : List SV} (hr : r.length = 12) : ∃ (y1 : SV) (r' : List SV), r'.length = 12 ∧ forL (gN 1) lb_law_2 (rangeD 0 n) (.d (.list (dl ns)) :: x1 :: r ++ [.un, .un, .un, .un]) = .ok .nx (.d (.list (dl ns)) :: y1 :: r' ++ [.un, .un, .un, .un]) := by
  have loop : ∃ ρ', forL (gN 1) lb_law_2 (rangeD 0 n) (.d (.list (dl ns)) :: x1 :: r ++ [.un, .un, .un, .un]) = .ok .nx ρ' ∧ ∃ (y1 : SV) (r' : List SV), r'.length = 12 ∧ ρ' = .d (.list (dl ns)) :: y1 :: r' ++ [.un, .un, .un, .un] := by
    refine forL_inv (E := fun ρ' => ∃ (y1 : SV) (r' : List SV), r'.length = 12 ∧ ρ' = .d (.list (dl ns)) :: y1 :: r' ++ [.un, .un, .un, .un]) (fun t ρ => ∃ (i : Nat) (y1 : SV) (r' : List SV), i ≤ n ∧ r'.length = 12 ∧ t = (rangeD 0 (n : Int)).drop i ∧ ρ = .d (.list (dl ns)) :: y1 :: r' ++ [.un, .un, .un, .un]) ?_ ?_ ⟨0, x1, r, Nat.zero_le _, hr, by rw [List.drop_zero], rfl⟩
    · rintro x t ρ ⟨i, y1, r', hi, hl, ht, rfl⟩
      by_cases hlt : i < n
      · rw [rangeD_at (by omega) hlt] at ht
        cases ht
        obtain ⟨a, b, c, d, e, f, g, i', j, k, l, m, rfl⟩ := twelve hl
        obtain ⟨r2, hr2, e2⟩ := turn (ns := ns) (k := (i : Int)) (by omega) (by omega) a b c d e f g i' j k l m
        exact ⟨_, _, rfl, .inl ⟨e2, i + 1, _, r2, hlt, hr2, rfl, rfl⟩⟩
      · rw [show i = n by omega, rangeD_end (by omega)] at ht
        cases ht
    · rintro ρ ⟨i, y1, r', hi, hl, ht, rfl⟩
      exact ⟨y1, r', hl, rfl⟩
  obtain ⟨ρ', e, y1, r', hl, rfl⟩ := loop
  exact ⟨y1, r', hl, e⟩
theorem math (ns : List Int) (hl : ns.length ≤ 63) (hb : ∀ z ∈ ns, Builtin.Int.intBits z ≤ 1048576) : ∃ ρ', m_law [.d (.list (ns.map .int))] = .ok (.dat (.bool true)) ρ' := by
  obtain ⟨y1, r', hr, e2⟩ := loopL ns (n := 2) (by omega) .un (r := List.replicate 12 .un) rfl
  obtain ⟨a, b, c, d, e', f, g, i', j, k, l, m, rfl⟩ := twelve hr
  refine ⟨[.d (.list (dl ns))], ?_⟩
  have r1 := rng1_n (n := 2) (by omega)
  show m_law [.d (.list (dl ns))] = _
  unfold m_law bodyF
  generalize lb_law_2 = bl at e2 ⊢
  simp [List.replicate] at e2 r1
  simp [g_law, dl_len, List.replicate, DS.bodyF, DS.okArgs, DS.finR, DS.mSeq, DS.sq, DS.bnd, DS.ret, DS.bad, DS.mSet, DS.mSetO, DS.keepD, DS.mVar, DS.mC, DS.mOp2, DS.mOp1, DS.mCB, DS.opD, DS.op1D, DS.opnD, DS.RV.data, DS.datas, DS.mNil, DS.mCons, DS.dAdd, DS.dSub, DS.dMul, DS.dDiv, DS.dMod, DS.dPow, DS.dNeg, DS.dLt, DS.dLe, DS.dGt, DS.dGe, DS.dLen, DS.dTuple, DS.dList, DS.dAbs, DS.dInt, DS.dMax2, DS.dMin2, DS.asB, DS.mT, DS.mNot, DS.mAnd, DS.mOr, DS.datB, DS.mAndV, DS.mOrV, DS.mNotV, DS.mIf, DS.dats, DS.dspD, DS.mTup, DS.mLst, DS.ownL, DS.mLstO, DS.mChain, DS.mNx, DS.mBrk, DS.mCt, DS.mAug, DS.aug2, DS.dAddI, DS.mRet, DS.mRetO, DS.mRetN, DS.mIte, DS.mApp, DS.app2, DS.isOL, DS.mSetL, DS.setL2, DS.gN, DS.gA0, DS.gA, DS.gT, DS.bindD, DS.mAsg, DS.itemsD, DS.mIt, DS.mEnum, DS.mFor, DS.svsOf, DS.slotsOf, DS.RV.sv, DS.callD, DS.roD, DS.roO, DS.mCall, DS.mCallO, DS.mIsi, DS.dIsi, DS.kindOf, DS.notOwn, DS.mRaise, DS.mSl, DS.optI, DS.dSl, DS.mPar, DS.par2, bnd_ok2, -DS.R.bnd_ok, DS.R.bnd_er, DS.R.bnd_bad, DS.wb, DS.mYes, DS.isNon, DS.dIs, DS.dIsNot, ite_ap, rr1, rr2, rr3, rr4, lg8209]
  simp [r1, e2, DS.bodyF, DS.okArgs, DS.finR, DS.mSeq, DS.sq, DS.bnd, DS.ret, DS.bad, DS.mSet, DS.mSetO, DS.keepD, DS.mVar, DS.mC, DS.mOp2, DS.mOp1, DS.mCB, DS.opD, DS.op1D, DS.opnD, DS.RV.data, DS.datas, DS.mNil, DS.mCons, DS.dAdd, DS.dSub, DS.dMul, DS.dDiv, DS.dMod, DS.dPow, DS.dNeg, DS.dLt, DS.dLe, DS.dGt, DS.dGe, DS.dLen, DS.dTuple, DS.dList, DS.dAbs, DS.dInt, DS.dMax2, DS.dMin2, DS.asB, DS.mT, DS.mNot, DS.mAnd, DS.mOr, DS.datB, DS.mAndV, DS.mOrV, DS.mNotV, DS.mIf, DS.dats, DS.dspD, DS.mTup, DS.mLst, DS.ownL, DS.mLstO, DS.mChain, DS.mNx, DS.mBrk, DS.mCt, DS.mAug, DS.aug2, DS.dAddI, DS.mRet, DS.mRetO, DS.mRetN, DS.mIte, DS.mApp, DS.app2, DS.isOL, DS.mSetL, DS.setL2, DS.gN, DS.gA0, DS.gA, DS.gT, DS.bindD, DS.mAsg, DS.itemsD, DS.mIt, DS.mEnum, DS.mFor, DS.svsOf, DS.slotsOf, DS.RV.sv, DS.callD, DS.roD, DS.roO, DS.mCall, DS.mCallO, DS.mIsi, DS.dIsi, DS.kindOf, DS.notOwn, DS.mRaise, DS.mSl, DS.optI, DS.dSl, DS.mPar, DS.par2, bnd_ok2, -DS.R.bnd_ok, DS.R.bnd_er, DS.R.bnd_bad, DS.wb, DS.mYes, DS.isNon, DS.dIs, DS.dIsNot, ite_ap, rr1, rr2, rr3, rr4, lg8209]
end Zk32
end
section
set_option pp.maxSteps 400
set_option Elab.async false
set_option linter.all false
set_option maxRecDepth 100000
set_option maxHeartbeats 8000000
namespace Zk32
open PySem PySem.Spec PyProof.Rows L2 DS
theorem law_mk {w : World} {K : PySem.W.Frag} {h : Heap} {mg : Str → Option Value} {fa : Addr} {t_BLOCK_PARTS : Tok} {t_GIVE : Tok} {t_MOST_PAGES : Tok} {t_MOST_SIZE : Tok} {t_MOST_SIZES : Tok} {t_TAKE : Tok} {f__law_box : Addr} {oc__law_box kV__law_box dc__law_box pm__law_box ct__law_box : Value} {od__law_box an__law_box : Option Addr} {sl__law_box : Array (Option Value)} {cd__law_box : Value} {f_is_sequence : Addr} {oc_is_sequence kV_is_sequence dc_is_sequence pm_is_sequence ct_is_sequence : Value} {od_is_sequence an_is_sequence : Option Addr} {sl_is_sequence : Array (Option Value)} {cd_is_sequence : Value} {f_is_integer : Addr} {oc_is_integer kV_is_integer dc_is_integer pm_is_integer ct_is_integer : Value} {od_is_integer an_is_integer : Option Addr} {sl_is_integer : Array (Option Value)} {cd_is_integer : Value} {f_is_positive : Addr} {oc_is_positive kV_is_positive dc_is_positive pm_is_positive ct_is_positive : Value} {od_is_positive an_is_positive : Option Addr} {sl_is_positive : Array (Option Value)} {cd_is_positive : Value} {f_is_next : Addr} {oc_is_next kV_is_next dc_is_next pm_is_next ct_is_next : Value} {od_is_next an_is_next : Option Addr} {sl_is_next : Array (Option Value)} {cd_is_next : Value} {f_check_sizes : Addr} {oc_check_sizes kV_check_sizes dc_check_sizes pm_check_sizes ct_check_sizes : Value} {od_check_sizes an_check_sizes : Option Addr} {sl_check_sizes : Array (Option Value)} {cd_check_sizes : Value} {f_is_number : Addr} {oc_is_number kV_is_number dc_is_number pm_is_number ct_is_number : Value} {od_is_number an_is_number : Option Addr} {sl_is_number : Array (Option Value)} {cd_is_number : Value} {f_check_pages : Addr} {oc_check_pages kV_check_pages dc_check_pages pm_check_pages ct_check_pages : Value} {od_check_pages an_check_pages : Option Addr} {sl_check_pages : Array (Option Value)} {cd_check_pages : Value} {f_arena : Addr} {oc_arena kV_arena dc_arena pm_arena ct_arena : Value} {od_arena an_arena : Option Addr} {sl_arena : Array (Option Value)} {cd_arena : Value} {f__law_take : Addr} {oc__law_take kV__law_take dc__law_take pm__law_take ct__law_take : Value} {od__law_take an__law_take : Option Addr} {sl__law_take : Array (Option Value)} {cd__law_take : Value} {f__law_pick : Addr} {oc__law_pick kV__law_pick dc__law_pick pm__law_pick ct__law_pick : Value} {od__law_pick an__law_pick : Option Addr} {sl__law_pick : Array (Option Value)} {cd__law_pick : Value} {f__law_sizes : Addr} {oc__law_sizes kV__law_sizes dc__law_sizes pm__law_sizes ct__law_sizes : Value} {od__law_sizes an__law_sizes : Option Addr} {sl__law_sizes : Array (Option Value)} {cd__law_sizes : Value} {f__law_pages : Addr} {oc__law_pages kV__law_pages dc__law_pages pm__law_pages ct__law_pages : Value} {od__law_pages an__law_pages : Option Addr} {sl__law_pages : Array (Option Value)} {cd__law_pages : Value} {f_foe_many : Addr} {oc_foe_many kV_foe_many dc_foe_many pm_foe_many ct_foe_many : Value} {od_foe_many an_foe_many : Option Addr} {sl_foe_many : Array (Option Value)} {cd_foe_many : Value} {f_cells_of : Addr} {oc_cells_of kV_cells_of dc_cells_of pm_cells_of ct_cells_of : Value} {od_cells_of an_cells_of : Option Addr} {sl_cells_of : Array (Option Value)} {cd_cells_of : Value} {f_hold : Addr} {oc_hold kV_hold dc_hold pm_hold ct_hold : Value} {od_hold an_hold : Option Addr} {sl_hold : Array (Option Value)} {cd_hold : Value} {f_in_pages : Addr} {oc_in_pages kV_in_pages dc_in_pages pm_in_pages ct_in_pages : Value} {od_in_pages an_in_pages : Option Addr} {sl_in_pages : Array (Option Value)} {cd_in_pages : Value} {f_is_block : Addr} {oc_is_block kV_is_block dc_is_block pm_is_block ct_is_block : Value} {od_is_block an_is_block : Option Addr} {sl_is_block : Array (Option Value)} {cd_is_block : Value} {f_check_picture : Addr} {oc_check_picture kV_check_picture dc_check_picture pm_check_picture ct_check_picture : Value} {od_check_picture an_check_picture : Option Addr} {sl_check_picture : Array (Option Value)} {cd_check_picture : Value} {f_least_in : Addr} {oc_least_in kV_least_in dc_least_in pm_least_in ct_least_in : Value} {od_least_in an_least_in : Option Addr} {sl_least_in : Array (Option Value)} {cd_least_in : Value} {f_foe_request : Addr} {oc_foe_request kV_foe_request dc_foe_request pm_foe_request ct_foe_request : Value} {od_foe_request an_foe_request : Option Addr} {sl_foe_request : Array (Option Value)} {cd_foe_request : Value} {f__law_refused : Addr} {oc__law_refused kV__law_refused dc__law_refused pm__law_refused ct__law_refused : Value} {od__law_refused an__law_refused : Option Addr} {sl__law_refused : Array (Option Value)} {cd__law_refused : Value} {f__law_cells : Addr} {oc__law_cells kV__law_cells dc__law_cells pm__law_cells ct__law_cells : Value} {od__law_cells an__law_cells : Option Addr} {sl__law_cells : Array (Option Value)} {cd__law_cells : Value} {f__law_free : Addr} {oc__law_free kV__law_free dc__law_free pm__law_free ct__law_free : Value} {od__law_free an__law_free : Option Addr} {sl__law_free : Array (Option Value)} {cd__law_free : Value} {f__law_due : Addr} {oc__law_due kV__law_due dc__law_due pm__law_due ct__law_due : Value} {od__law_due an__law_due : Option Addr} {sl__law_due : Array (Option Value)} {cd__law_due : Value} {f_law : Addr} {oc_law kV_law dc_law pm_law ct_law : Value} {od_law an_law : Option Addr} {sl_law : Array (Option Value)} {cL pL : Addr} {C_BadPages i_BadPages N_BadPages cc_BadPages ca_BadPages : Addr} {nm_BadPages qn_BadPages ql_BadPages fl_BadPages : Str} {bs_BadPages bm_BadPages sub_BadPages : List Value} {sn_BadPages : List Str} {ab_BadPages : Bool} {col_BadPages : Option Bool} {dd_BadPages od_BadPages cld_BadPages cdd_BadPages an_BadPages : Option Addr} {m0_BadPages m1_BadPages m2_BadPages m3_BadPages m5_BadPages : Option Value} {oc_BadPages ct_BadPages cl_BadPages ccl_BadPages dc_BadPages pm_BadPages : Value} {sl_BadPages csl_BadPages ccs_BadPages : Array (Option Value)} {tf_BadPages : Tok} {vs_BadPages : Array Value} {n_BadPages : Nat} {p1_BadPages p2_BadPages r0_BadPages r1_BadPages r2_BadPages r3_BadPages r4_BadPages q1_BadPages q2_BadPages q3_BadPages q4_BadPages : Pos} {C_BadPicture i_BadPicture N_BadPicture cc_BadPicture ca_BadPicture : Addr} {nm_BadPicture qn_BadPicture ql_BadPicture fl_BadPicture : Str} {bs_BadPicture bm_BadPicture sub_BadPicture : List Value} {sn_BadPicture : List Str} {ab_BadPicture : Bool} {col_BadPicture : Option Bool} {dd_BadPicture od_BadPicture cld_BadPicture cdd_BadPicture an_BadPicture : Option Addr} {m0_BadPicture m1_BadPicture m2_BadPicture m3_BadPicture m5_BadPicture : Option Value} {oc_BadPicture ct_BadPicture cl_BadPicture ccl_BadPicture dc_BadPicture pm_BadPicture : Value} {sl_BadPicture csl_BadPicture ccs_BadPicture : Array (Option Value)} {tf_BadPicture : Tok} {vs_BadPicture : Array Value} {n_BadPicture : Nat} {p1_BadPicture p2_BadPicture r0_BadPicture r1_BadPicture r2_BadPicture r3_BadPicture r4_BadPicture q1_BadPicture q2_BadPicture q3_BadPicture q4_BadPicture : Pos} {C_BadSizes i_BadSizes N_BadSizes cc_BadSizes ca_BadSizes : Addr} {nm_BadSizes qn_BadSizes ql_BadSizes fl_BadSizes : Str} {bs_BadSizes bm_BadSizes sub_BadSizes : List Value} {sn_BadSizes : List Str} {ab_BadSizes : Bool} {col_BadSizes : Option Bool} {dd_BadSizes od_BadSizes cld_BadSizes cdd_BadSizes an_BadSizes : Option Addr} {m0_BadSizes m1_BadSizes m2_BadSizes m3_BadSizes m5_BadSizes : Option Value} {oc_BadSizes ct_BadSizes cl_BadSizes ccl_BadSizes dc_BadSizes pm_BadSizes : Value} {sl_BadSizes csl_BadSizes ccs_BadSizes : Array (Option Value)} {tf_BadSizes : Tok} {vs_BadSizes : Array Value} {n_BadSizes : Nat} {p1_BadSizes p2_BadSizes r0_BadSizes r1_BadSizes r2_BadSizes r3_BadSizes r4_BadSizes q1_BadSizes q2_BadSizes q3_BadSizes q4_BadSizes : Pos} {C_Refused i_Refused N_Refused cc_Refused ca_Refused : Addr} {nm_Refused qn_Refused ql_Refused fl_Refused : Str} {bs_Refused bm_Refused sub_Refused : List Value} {sn_Refused : List Str} {ab_Refused : Bool} {col_Refused : Option Bool} {dd_Refused od_Refused cld_Refused cdd_Refused an_Refused : Option Addr} {m0_Refused m1_Refused m2_Refused m3_Refused m5_Refused : Option Value} {oc_Refused ct_Refused cl_Refused ccl_Refused dc_Refused pm_Refused : Value} {sl_Refused csl_Refused ccs_Refused : Array (Option Value)} {tf_Refused : Tok} {vs_Refused : Array Value} {n_Refused : Nat} {p1_Refused p2_Refused r0_Refused r1_Refused r2_Refused r3_Refused r4_Refused q1_Refused q2_Refused q3_Refused q4_Refused : Pos} {ccL : Value} {cdL : Option Addr} {vsL : Array Value} {csL : Array (Option Value)} (X : K.In h) (G : h.Ns mainGlobals mg) (hfa : mg "law" = some (.ref fa))
    (z_abs : PySem.W.nsIn K mainGlobals "abs" = some none)
    (z_any : PySem.W.nsIn K mainGlobals "any" = some none)
    (z_bool : PySem.W.nsIn K mainGlobals "bool" = some none)
    (z_enumerate : PySem.W.nsIn K mainGlobals "enumerate" = some none)
    (z_int : PySem.W.nsIn K mainGlobals "int" = some none)
    (z_isinstance : PySem.W.nsIn K mainGlobals "isinstance" = some none)
    (z_len : PySem.W.nsIn K mainGlobals "len" = some none)
    (z_list : PySem.W.nsIn K mainGlobals "list" = some none)
    (z_min : PySem.W.nsIn K mainGlobals "min" = some none)
    (z_range : PySem.W.nsIn K mainGlobals "range" = some none)
    (z_repr : PySem.W.nsIn K mainGlobals "repr" = some none)
    (z_sorted : PySem.W.nsIn K mainGlobals "sorted" = some none)
    (z_sum : PySem.W.nsIn K mainGlobals "sum" = some none)
    (z_tuple : PySem.W.nsIn K mainGlobals "tuple" = some none)
    (z_super : PySem.W.nsIn K mainGlobals "super" = some none)
    (z_opq : PySem.W.nsIn K cStatics "thirdparty.any" = some none)
    (q_BLOCK_PARTS : PySem.W.nsIn K mainGlobals "BLOCK_PARTS" = some (some (.int 3 t_BLOCK_PARTS)))
    (q_GIVE : PySem.W.nsIn K mainGlobals "GIVE" = some (some (.str "give" t_GIVE)))
    (q_MOST_PAGES : PySem.W.nsIn K mainGlobals "MOST_PAGES" = some (some (.int 64 t_MOST_PAGES)))
    (q_MOST_SIZE : PySem.W.nsIn K mainGlobals "MOST_SIZE" = some (some (.int 64 t_MOST_SIZE)))
    (q_MOST_SIZES : PySem.W.nsIn K mainGlobals "MOST_SIZES" = some (some (.int 5 t_MOST_SIZES)))
    (q_TAKE : PySem.W.nsIn K mainGlobals "TAKE" = some (some (.str "take" t_TAKE)))
    (a__law_box : PySem.W.nsIn K mainGlobals "_law_box" = some (some (.ref f__law_box)))
    (l__law_box : K.lookup f__law_box = some ⟨oc__law_box, od__law_box, .func (PySem.W.fnOf "_law_box" "_law_box" (defArgs s__law_box) (defBody s__law_box) (defScope s__law_box) .none kV__law_box dc__law_box pm__law_box an__law_box cd__law_box ct__law_box), sl__law_box⟩)
    (c__law_box : PySem.W.codeIn K cd__law_box "_law_box" = true)
    (k__law_box : PySem.W.keepIn K (.ref f__law_box) = true)
    (a_is_sequence : PySem.W.nsIn K mainGlobals "is_sequence" = some (some (.ref f_is_sequence)))
    (l_is_sequence : K.lookup f_is_sequence = some ⟨oc_is_sequence, od_is_sequence, .func (PySem.W.fnOf "is_sequence" "is_sequence" (defArgs s_is_sequence) (defBody s_is_sequence) (defScope s_is_sequence) .none kV_is_sequence dc_is_sequence pm_is_sequence an_is_sequence cd_is_sequence ct_is_sequence), sl_is_sequence⟩)
    (c_is_sequence : PySem.W.codeIn K cd_is_sequence "is_sequence" = true)
    (k_is_sequence : PySem.W.keepIn K (.ref f_is_sequence) = true)
    (a_is_integer : PySem.W.nsIn K mainGlobals "is_integer" = some (some (.ref f_is_integer)))
    (l_is_integer : K.lookup f_is_integer = some ⟨oc_is_integer, od_is_integer, .func (PySem.W.fnOf "is_integer" "is_integer" (defArgs s_is_integer) (defBody s_is_integer) (defScope s_is_integer) .none kV_is_integer dc_is_integer pm_is_integer an_is_integer cd_is_integer ct_is_integer), sl_is_integer⟩)
    (c_is_integer : PySem.W.codeIn K cd_is_integer "is_integer" = true)
    (k_is_integer : PySem.W.keepIn K (.ref f_is_integer) = true)
    (a_is_positive : PySem.W.nsIn K mainGlobals "is_positive" = some (some (.ref f_is_positive)))
    (l_is_positive : K.lookup f_is_positive = some ⟨oc_is_positive, od_is_positive, .func (PySem.W.fnOf "is_positive" "is_positive" (defArgs s_is_positive) (defBody s_is_positive) (defScope s_is_positive) .none kV_is_positive dc_is_positive pm_is_positive an_is_positive cd_is_positive ct_is_positive), sl_is_positive⟩)
    (c_is_positive : PySem.W.codeIn K cd_is_positive "is_positive" = true)
    (k_is_positive : PySem.W.keepIn K (.ref f_is_positive) = true)
    (a_is_next : PySem.W.nsIn K mainGlobals "is_next" = some (some (.ref f_is_next)))
    (l_is_next : K.lookup f_is_next = some ⟨oc_is_next, od_is_next, .func (PySem.W.fnOf "is_next" "is_next" (defArgs s_is_next) (defBody s_is_next) (defScope s_is_next) .none kV_is_next dc_is_next pm_is_next an_is_next cd_is_next ct_is_next), sl_is_next⟩)
    (c_is_next : PySem.W.codeIn K cd_is_next "is_next" = true)
    (k_is_next : PySem.W.keepIn K (.ref f_is_next) = true)
    (a_check_sizes : PySem.W.nsIn K mainGlobals "check_sizes" = some (some (.ref f_check_sizes)))
    (l_check_sizes : K.lookup f_check_sizes = some ⟨oc_check_sizes, od_check_sizes, .func (PySem.W.fnOf "check_sizes" "check_sizes" (defArgs s_check_sizes) (defBody s_check_sizes) (defScope s_check_sizes) .none kV_check_sizes dc_check_sizes pm_check_sizes an_check_sizes cd_check_sizes ct_check_sizes), sl_check_sizes⟩)
    (c_check_sizes : PySem.W.codeIn K cd_check_sizes "check_sizes" = true)
    (k_check_sizes : PySem.W.keepIn K (.ref f_check_sizes) = true)
    (a_is_number : PySem.W.nsIn K mainGlobals "is_number" = some (some (.ref f_is_number)))
    (l_is_number : K.lookup f_is_number = some ⟨oc_is_number, od_is_number, .func (PySem.W.fnOf "is_number" "is_number" (defArgs s_is_number) (defBody s_is_number) (defScope s_is_number) .none kV_is_number dc_is_number pm_is_number an_is_number cd_is_number ct_is_number), sl_is_number⟩)
    (c_is_number : PySem.W.codeIn K cd_is_number "is_number" = true)
    (k_is_number : PySem.W.keepIn K (.ref f_is_number) = true)
    (a_check_pages : PySem.W.nsIn K mainGlobals "check_pages" = some (some (.ref f_check_pages)))
    (l_check_pages : K.lookup f_check_pages = some ⟨oc_check_pages, od_check_pages, .func (PySem.W.fnOf "check_pages" "check_pages" (defArgs s_check_pages) (defBody s_check_pages) (defScope s_check_pages) .none kV_check_pages dc_check_pages pm_check_pages an_check_pages cd_check_pages ct_check_pages), sl_check_pages⟩)
    (c_check_pages : PySem.W.codeIn K cd_check_pages "check_pages" = true)
    (k_check_pages : PySem.W.keepIn K (.ref f_check_pages) = true)
    (a_arena : PySem.W.nsIn K mainGlobals "arena" = some (some (.ref f_arena)))
    (l_arena : K.lookup f_arena = some ⟨oc_arena, od_arena, .func (PySem.W.fnOf "arena" "arena" (defArgs s_arena) (defBody s_arena) (defScope s_arena) .none kV_arena dc_arena pm_arena an_arena cd_arena ct_arena), sl_arena⟩)
    (c_arena : PySem.W.codeIn K cd_arena "arena" = true)
    (k_arena : PySem.W.keepIn K (.ref f_arena) = true)
    (a__law_take : PySem.W.nsIn K mainGlobals "_law_take" = some (some (.ref f__law_take)))
    (l__law_take : K.lookup f__law_take = some ⟨oc__law_take, od__law_take, .func (PySem.W.fnOf "_law_take" "_law_take" (defArgs s__law_take) (defBody s__law_take) (defScope s__law_take) .none kV__law_take dc__law_take pm__law_take an__law_take cd__law_take ct__law_take), sl__law_take⟩)
    (c__law_take : PySem.W.codeIn K cd__law_take "_law_take" = true)
    (k__law_take : PySem.W.keepIn K (.ref f__law_take) = true)
    (a__law_pick : PySem.W.nsIn K mainGlobals "_law_pick" = some (some (.ref f__law_pick)))
    (l__law_pick : K.lookup f__law_pick = some ⟨oc__law_pick, od__law_pick, .func (PySem.W.fnOf "_law_pick" "_law_pick" (defArgs s__law_pick) (defBody s__law_pick) (defScope s__law_pick) .none kV__law_pick dc__law_pick pm__law_pick an__law_pick cd__law_pick ct__law_pick), sl__law_pick⟩)
    (c__law_pick : PySem.W.codeIn K cd__law_pick "_law_pick" = true)
    (k__law_pick : PySem.W.keepIn K (.ref f__law_pick) = true)
    (a__law_sizes : PySem.W.nsIn K mainGlobals "_law_sizes" = some (some (.ref f__law_sizes)))
    (l__law_sizes : K.lookup f__law_sizes = some ⟨oc__law_sizes, od__law_sizes, .func (PySem.W.fnOf "_law_sizes" "_law_sizes" (defArgs s__law_sizes) (defBody s__law_sizes) (defScope s__law_sizes) .none kV__law_sizes dc__law_sizes pm__law_sizes an__law_sizes cd__law_sizes ct__law_sizes), sl__law_sizes⟩)
    (c__law_sizes : PySem.W.codeIn K cd__law_sizes "_law_sizes" = true)
    (k__law_sizes : PySem.W.keepIn K (.ref f__law_sizes) = true)
    (a__law_pages : PySem.W.nsIn K mainGlobals "_law_pages" = some (some (.ref f__law_pages)))
    (l__law_pages : K.lookup f__law_pages = some ⟨oc__law_pages, od__law_pages, .func (PySem.W.fnOf "_law_pages" "_law_pages" (defArgs s__law_pages) (defBody s__law_pages) (defScope s__law_pages) .none kV__law_pages dc__law_pages pm__law_pages an__law_pages cd__law_pages ct__law_pages), sl__law_pages⟩)
    (c__law_pages : PySem.W.codeIn K cd__law_pages "_law_pages" = true)
    (k__law_pages : PySem.W.keepIn K (.ref f__law_pages) = true)
    (a_foe_many : PySem.W.nsIn K mainGlobals "foe_many" = some (some (.ref f_foe_many)))
    (l_foe_many : K.lookup f_foe_many = some ⟨oc_foe_many, od_foe_many, .func (PySem.W.fnOf "foe_many" "foe_many" (defArgs s_foe_many) (defBody s_foe_many) (defScope s_foe_many) .none kV_foe_many dc_foe_many pm_foe_many an_foe_many cd_foe_many ct_foe_many), sl_foe_many⟩)
    (c_foe_many : PySem.W.codeIn K cd_foe_many "foe_many" = true)
    (k_foe_many : PySem.W.keepIn K (.ref f_foe_many) = true)
    (a_cells_of : PySem.W.nsIn K mainGlobals "cells_of" = some (some (.ref f_cells_of)))
    (l_cells_of : K.lookup f_cells_of = some ⟨oc_cells_of, od_cells_of, .func (PySem.W.fnOf "cells_of" "cells_of" (defArgs s_cells_of) (defBody s_cells_of) (defScope s_cells_of) .none kV_cells_of dc_cells_of pm_cells_of an_cells_of cd_cells_of ct_cells_of), sl_cells_of⟩)
    (c_cells_of : PySem.W.codeIn K cd_cells_of "cells_of" = true)
    (k_cells_of : PySem.W.keepIn K (.ref f_cells_of) = true)
    (a_hold : PySem.W.nsIn K mainGlobals "hold" = some (some (.ref f_hold)))
    (l_hold : K.lookup f_hold = some ⟨oc_hold, od_hold, .func (PySem.W.fnOf "hold" "hold" (defArgs s_hold) (defBody s_hold) (defScope s_hold) .none kV_hold dc_hold pm_hold an_hold cd_hold ct_hold), sl_hold⟩)
    (c_hold : PySem.W.codeIn K cd_hold "hold" = true)
    (k_hold : PySem.W.keepIn K (.ref f_hold) = true)
    (a_in_pages : PySem.W.nsIn K mainGlobals "in_pages" = some (some (.ref f_in_pages)))
    (l_in_pages : K.lookup f_in_pages = some ⟨oc_in_pages, od_in_pages, .func (PySem.W.fnOf "in_pages" "in_pages" (defArgs s_in_pages) (defBody s_in_pages) (defScope s_in_pages) .none kV_in_pages dc_in_pages pm_in_pages an_in_pages cd_in_pages ct_in_pages), sl_in_pages⟩)
    (c_in_pages : PySem.W.codeIn K cd_in_pages "in_pages" = true)
    (k_in_pages : PySem.W.keepIn K (.ref f_in_pages) = true)
    (a_is_block : PySem.W.nsIn K mainGlobals "is_block" = some (some (.ref f_is_block)))
    (l_is_block : K.lookup f_is_block = some ⟨oc_is_block, od_is_block, .func (PySem.W.fnOf "is_block" "is_block" (defArgs s_is_block) (defBody s_is_block) (defScope s_is_block) .none kV_is_block dc_is_block pm_is_block an_is_block cd_is_block ct_is_block), sl_is_block⟩)
    (c_is_block : PySem.W.codeIn K cd_is_block "is_block" = true)
    (k_is_block : PySem.W.keepIn K (.ref f_is_block) = true)
    (a_check_picture : PySem.W.nsIn K mainGlobals "check_picture" = some (some (.ref f_check_picture)))
    (l_check_picture : K.lookup f_check_picture = some ⟨oc_check_picture, od_check_picture, .func (PySem.W.fnOf "check_picture" "check_picture" (defArgs s_check_picture) (defBody s_check_picture) (defScope s_check_picture) .none kV_check_picture dc_check_picture pm_check_picture an_check_picture cd_check_picture ct_check_picture), sl_check_picture⟩)
    (c_check_picture : PySem.W.codeIn K cd_check_picture "check_picture" = true)
    (k_check_picture : PySem.W.keepIn K (.ref f_check_picture) = true)
    (a_least_in : PySem.W.nsIn K mainGlobals "least_in" = some (some (.ref f_least_in)))
    (l_least_in : K.lookup f_least_in = some ⟨oc_least_in, od_least_in, .func (PySem.W.fnOf "least_in" "least_in" (defArgs s_least_in) (defBody s_least_in) (defScope s_least_in) .none kV_least_in dc_least_in pm_least_in an_least_in cd_least_in ct_least_in), sl_least_in⟩)
    (c_least_in : PySem.W.codeIn K cd_least_in "least_in" = true)
    (k_least_in : PySem.W.keepIn K (.ref f_least_in) = true)
    (a_foe_request : PySem.W.nsIn K mainGlobals "foe_request" = some (some (.ref f_foe_request)))
    (l_foe_request : K.lookup f_foe_request = some ⟨oc_foe_request, od_foe_request, .func (PySem.W.fnOf "foe_request" "foe_request" (defArgs s_foe_request) (defBody s_foe_request) (defScope s_foe_request) .none kV_foe_request dc_foe_request pm_foe_request an_foe_request cd_foe_request ct_foe_request), sl_foe_request⟩)
    (c_foe_request : PySem.W.codeIn K cd_foe_request "foe_request" = true)
    (k_foe_request : PySem.W.keepIn K (.ref f_foe_request) = true)
    (a__law_refused : PySem.W.nsIn K mainGlobals "_law_refused" = some (some (.ref f__law_refused)))
    (l__law_refused : K.lookup f__law_refused = some ⟨oc__law_refused, od__law_refused, .func (PySem.W.fnOf "_law_refused" "_law_refused" (defArgs s__law_refused) (defBody s__law_refused) (defScope s__law_refused) .none kV__law_refused dc__law_refused pm__law_refused an__law_refused cd__law_refused ct__law_refused), sl__law_refused⟩)
    (c__law_refused : PySem.W.codeIn K cd__law_refused "_law_refused" = true)
    (k__law_refused : PySem.W.keepIn K (.ref f__law_refused) = true)
    (a__law_cells : PySem.W.nsIn K mainGlobals "_law_cells" = some (some (.ref f__law_cells)))
    (l__law_cells : K.lookup f__law_cells = some ⟨oc__law_cells, od__law_cells, .func (PySem.W.fnOf "_law_cells" "_law_cells" (defArgs s__law_cells) (defBody s__law_cells) (defScope s__law_cells) .none kV__law_cells dc__law_cells pm__law_cells an__law_cells cd__law_cells ct__law_cells), sl__law_cells⟩)
    (c__law_cells : PySem.W.codeIn K cd__law_cells "_law_cells" = true)
    (k__law_cells : PySem.W.keepIn K (.ref f__law_cells) = true)
    (a__law_free : PySem.W.nsIn K mainGlobals "_law_free" = some (some (.ref f__law_free)))
    (l__law_free : K.lookup f__law_free = some ⟨oc__law_free, od__law_free, .func (PySem.W.fnOf "_law_free" "_law_free" (defArgs s__law_free) (defBody s__law_free) (defScope s__law_free) .none kV__law_free dc__law_free pm__law_free an__law_free cd__law_free ct__law_free), sl__law_free⟩)
    (c__law_free : PySem.W.codeIn K cd__law_free "_law_free" = true)
    (k__law_free : PySem.W.keepIn K (.ref f__law_free) = true)
    (a__law_due : PySem.W.nsIn K mainGlobals "_law_due" = some (some (.ref f__law_due)))
    (l__law_due : K.lookup f__law_due = some ⟨oc__law_due, od__law_due, .func (PySem.W.fnOf "_law_due" "_law_due" (defArgs s__law_due) (defBody s__law_due) (defScope s__law_due) .none kV__law_due dc__law_due pm__law_due an__law_due cd__law_due ct__law_due), sl__law_due⟩)
    (c__law_due : PySem.W.codeIn K cd__law_due "_law_due" = true)
    (k__law_due : PySem.W.keepIn K (.ref f__law_due) = true)
    (a_law : PySem.W.nsIn K mainGlobals "law" = some (some (.ref f_law)))
    (l_law : K.lookup f_law = some ⟨oc_law, od_law, .func (PySem.W.fnOf "law" "law" (defArgs s_law) (defBody s_law) (defScope s_law) .none kV_law dc_law pm_law an_law (.ref cL) ct_law), sl_law⟩)
    (c_law : PySem.W.codeIn K (.ref cL) "law" = true)
    (k_law : PySem.W.keepIn K (.ref f_law) = true)
    (aC_BadPages : PySem.W.nsIn K mainGlobals "BadPages" = some (some (.ref C_BadPages)))
    (xL_BadPages : K.lookup C_BadPages = some (excClassObj nm_BadPages qn_BadPages C_BadPages N_BadPages bs_BadPages bm_BadPages true sn_BadPages sub_BadPages ab_BadPages col_BadPages dd_BadPages m0_BadPages m1_BadPages m2_BadPages m3_BadPages m5_BadPages "ValueError.__new__"))
    (rv_BadPages : HandSPX.refsVE bm_BadPages = true)
    (sa_BadPages : PySem.W.findIn K (.ref C_BadPages) "__setattr__" = some (some (.builtin "object.__setattr__")))
    (ga_BadPages : PySem.W.findIn K (.ref C_BadPages) "__getattribute__" = some (some (.builtin "BaseException.__getattribute__")))
    (gg_BadPages : PySem.W.findIn K (.ref C_BadPages) "__getattr__" = some none)
    (nn_BadPages : PySem.W.findIn K (.ref C_BadPages) "at" = some none)
    (iC_BadPages : PySem.W.findIn K (.ref C_BadPages) "__init__" = some (some (.ref i_BadPages)))
    (ti_BadPages : PySem.W.typeIn K (.ref i_BadPages) = some (.type "function"))
    (kC_BadPages : PySem.W.keepIn K (.ref C_BadPages) = true)
    (ex_BadPages : PySem.W.subIn K (.ref C_BadPages) (.type "BaseException") = some true)
    (tC_BadPages : PySem.W.typeIn K (.ref C_BadPages) = some (.type "type"))
    (ve_BadPages : PySem.W.subIn K (.ref C_BadPages) (.type "ValueError") = some true)
    (mr_BadPages : PySem.W.mroIn K C_BadPages (.ref C_BadPages) = some true)
    (su_BadPages : PySem.W.ks_superIn K C_BadPages C_BadPages "__init__" = some (some (.builtin "ValueError.__init__")))
    (hd_BadPages : PySem.W.hasDictIn K C_BadPages = true)
    (is_BadPages : PySem.W.isClsIn K C_BadPages = true)
    (li_BadPages : K.lookup i_BadPages = some ⟨oc_BadPages, od_BadPages, .func (PySem.W.ksFn "__init__" ql_BadPages (OwnErr.eA "at" p1_BadPages p2_BadPages) (OwnErr.eB "at" "no such pages" n_BadPages r0_BadPages r1_BadPages r2_BadPages r3_BadPages r4_BadPages q1_BadPages q2_BadPages q3_BadPages q4_BadPages) (OwnErr.eS "at") .none .none dc_BadPages pm_BadPages an_BadPages (.ref ca_BadPages) ct_BadPages cc_BadPages), sl_BadPages⟩)
    (ci_BadPages : PySem.W.codeIn K (.ref ca_BadPages) ql_BadPages = true)
    (lc_BadPages : K.lookup ca_BadPages = some ⟨ccl_BadPages, cdd_BadPages, .fields vs_BadPages, ccs_BadPages⟩)
    (vf_BadPages : vs_BadPages[2]? = some (.str fl_BadPages tf_BadPages))
    (hf_BadPages : ((PySem.Challenge.pw_whatmovesbuy_k32_whole_what_the_foe_asks.main.file : Str) == fl_BadPages) = true)
    (lk_BadPages : K.lookup cc_BadPages = some ⟨cl_BadPages, cld_BadPages, .cell (some (.ref C_BadPages)), csl_BadPages⟩)
    (ln_BadPages : (r2_BadPages.endLine == r4_BadPages.line) = true)
    (aC_BadPicture : PySem.W.nsIn K mainGlobals "BadPicture" = some (some (.ref C_BadPicture)))
    (xL_BadPicture : K.lookup C_BadPicture = some (excClassObj nm_BadPicture qn_BadPicture C_BadPicture N_BadPicture bs_BadPicture bm_BadPicture true sn_BadPicture sub_BadPicture ab_BadPicture col_BadPicture dd_BadPicture m0_BadPicture m1_BadPicture m2_BadPicture m3_BadPicture m5_BadPicture "ValueError.__new__"))
    (rv_BadPicture : HandSPX.refsVE bm_BadPicture = true)
    (sa_BadPicture : PySem.W.findIn K (.ref C_BadPicture) "__setattr__" = some (some (.builtin "object.__setattr__")))
    (ga_BadPicture : PySem.W.findIn K (.ref C_BadPicture) "__getattribute__" = some (some (.builtin "BaseException.__getattribute__")))
    (gg_BadPicture : PySem.W.findIn K (.ref C_BadPicture) "__getattr__" = some none)
    (nn_BadPicture : PySem.W.findIn K (.ref C_BadPicture) "at" = some none)
    (iC_BadPicture : PySem.W.findIn K (.ref C_BadPicture) "__init__" = some (some (.ref i_BadPicture)))
    (ti_BadPicture : PySem.W.typeIn K (.ref i_BadPicture) = some (.type "function"))
    (kC_BadPicture : PySem.W.keepIn K (.ref C_BadPicture) = true)
    (ex_BadPicture : PySem.W.subIn K (.ref C_BadPicture) (.type "BaseException") = some true)
    (tC_BadPicture : PySem.W.typeIn K (.ref C_BadPicture) = some (.type "type"))
    (ve_BadPicture : PySem.W.subIn K (.ref C_BadPicture) (.type "ValueError") = some true)
    (mr_BadPicture : PySem.W.mroIn K C_BadPicture (.ref C_BadPicture) = some true)
    (su_BadPicture : PySem.W.ks_superIn K C_BadPicture C_BadPicture "__init__" = some (some (.builtin "ValueError.__init__")))
    (hd_BadPicture : PySem.W.hasDictIn K C_BadPicture = true)
    (is_BadPicture : PySem.W.isClsIn K C_BadPicture = true)
    (li_BadPicture : K.lookup i_BadPicture = some ⟨oc_BadPicture, od_BadPicture, .func (PySem.W.ksFn "__init__" ql_BadPicture (OwnErr.eA "at" p1_BadPicture p2_BadPicture) (OwnErr.eB "at" "no such picture" n_BadPicture r0_BadPicture r1_BadPicture r2_BadPicture r3_BadPicture r4_BadPicture q1_BadPicture q2_BadPicture q3_BadPicture q4_BadPicture) (OwnErr.eS "at") .none .none dc_BadPicture pm_BadPicture an_BadPicture (.ref ca_BadPicture) ct_BadPicture cc_BadPicture), sl_BadPicture⟩)
    (ci_BadPicture : PySem.W.codeIn K (.ref ca_BadPicture) ql_BadPicture = true)
    (lc_BadPicture : K.lookup ca_BadPicture = some ⟨ccl_BadPicture, cdd_BadPicture, .fields vs_BadPicture, ccs_BadPicture⟩)
    (vf_BadPicture : vs_BadPicture[2]? = some (.str fl_BadPicture tf_BadPicture))
    (hf_BadPicture : ((PySem.Challenge.pw_whatmovesbuy_k32_whole_what_the_foe_asks.main.file : Str) == fl_BadPicture) = true)
    (lk_BadPicture : K.lookup cc_BadPicture = some ⟨cl_BadPicture, cld_BadPicture, .cell (some (.ref C_BadPicture)), csl_BadPicture⟩)
    (ln_BadPicture : (r2_BadPicture.endLine == r4_BadPicture.line) = true)
    (aC_BadSizes : PySem.W.nsIn K mainGlobals "BadSizes" = some (some (.ref C_BadSizes)))
    (xL_BadSizes : K.lookup C_BadSizes = some (excClassObj nm_BadSizes qn_BadSizes C_BadSizes N_BadSizes bs_BadSizes bm_BadSizes true sn_BadSizes sub_BadSizes ab_BadSizes col_BadSizes dd_BadSizes m0_BadSizes m1_BadSizes m2_BadSizes m3_BadSizes m5_BadSizes "ValueError.__new__"))
    (rv_BadSizes : HandSPX.refsVE bm_BadSizes = true)
    (sa_BadSizes : PySem.W.findIn K (.ref C_BadSizes) "__setattr__" = some (some (.builtin "object.__setattr__")))
    (ga_BadSizes : PySem.W.findIn K (.ref C_BadSizes) "__getattribute__" = some (some (.builtin "BaseException.__getattribute__")))
    (gg_BadSizes : PySem.W.findIn K (.ref C_BadSizes) "__getattr__" = some none)
    (nn_BadSizes : PySem.W.findIn K (.ref C_BadSizes) "at" = some none)
    (iC_BadSizes : PySem.W.findIn K (.ref C_BadSizes) "__init__" = some (some (.ref i_BadSizes)))
    (ti_BadSizes : PySem.W.typeIn K (.ref i_BadSizes) = some (.type "function"))
    (kC_BadSizes : PySem.W.keepIn K (.ref C_BadSizes) = true)
    (ex_BadSizes : PySem.W.subIn K (.ref C_BadSizes) (.type "BaseException") = some true)
    (tC_BadSizes : PySem.W.typeIn K (.ref C_BadSizes) = some (.type "type"))
    (ve_BadSizes : PySem.W.subIn K (.ref C_BadSizes) (.type "ValueError") = some true)
    (mr_BadSizes : PySem.W.mroIn K C_BadSizes (.ref C_BadSizes) = some true)
    (su_BadSizes : PySem.W.ks_superIn K C_BadSizes C_BadSizes "__init__" = some (some (.builtin "ValueError.__init__")))
    (hd_BadSizes : PySem.W.hasDictIn K C_BadSizes = true)
    (is_BadSizes : PySem.W.isClsIn K C_BadSizes = true)
    (li_BadSizes : K.lookup i_BadSizes = some ⟨oc_BadSizes, od_BadSizes, .func (PySem.W.ksFn "__init__" ql_BadSizes (OwnErr.eA "at" p1_BadSizes p2_BadSizes) (OwnErr.eB "at" "no such sizes" n_BadSizes r0_BadSizes r1_BadSizes r2_BadSizes r3_BadSizes r4_BadSizes q1_BadSizes q2_BadSizes q3_BadSizes q4_BadSizes) (OwnErr.eS "at") .none .none dc_BadSizes pm_BadSizes an_BadSizes (.ref ca_BadSizes) ct_BadSizes cc_BadSizes), sl_BadSizes⟩)
    (ci_BadSizes : PySem.W.codeIn K (.ref ca_BadSizes) ql_BadSizes = true)
    (lc_BadSizes : K.lookup ca_BadSizes = some ⟨ccl_BadSizes, cdd_BadSizes, .fields vs_BadSizes, ccs_BadSizes⟩)
    (vf_BadSizes : vs_BadSizes[2]? = some (.str fl_BadSizes tf_BadSizes))
    (hf_BadSizes : ((PySem.Challenge.pw_whatmovesbuy_k32_whole_what_the_foe_asks.main.file : Str) == fl_BadSizes) = true)
    (lk_BadSizes : K.lookup cc_BadSizes = some ⟨cl_BadSizes, cld_BadSizes, .cell (some (.ref C_BadSizes)), csl_BadSizes⟩)
    (ln_BadSizes : (r2_BadSizes.endLine == r4_BadSizes.line) = true)
    (aC_Refused : PySem.W.nsIn K mainGlobals "Refused" = some (some (.ref C_Refused)))
    (xL_Refused : K.lookup C_Refused = some (excClassObj nm_Refused qn_Refused C_Refused N_Refused bs_Refused bm_Refused true sn_Refused sub_Refused ab_Refused col_Refused dd_Refused m0_Refused m1_Refused m2_Refused m3_Refused m5_Refused "ValueError.__new__"))
    (rv_Refused : HandSPX.refsVE bm_Refused = true)
    (sa_Refused : PySem.W.findIn K (.ref C_Refused) "__setattr__" = some (some (.builtin "object.__setattr__")))
    (ga_Refused : PySem.W.findIn K (.ref C_Refused) "__getattribute__" = some (some (.builtin "BaseException.__getattribute__")))
    (gg_Refused : PySem.W.findIn K (.ref C_Refused) "__getattr__" = some none)
    (nn_Refused : PySem.W.findIn K (.ref C_Refused) "value" = some none)
    (iC_Refused : PySem.W.findIn K (.ref C_Refused) "__init__" = some (some (.ref i_Refused)))
    (ti_Refused : PySem.W.typeIn K (.ref i_Refused) = some (.type "function"))
    (kC_Refused : PySem.W.keepIn K (.ref C_Refused) = true)
    (ex_Refused : PySem.W.subIn K (.ref C_Refused) (.type "BaseException") = some true)
    (tC_Refused : PySem.W.typeIn K (.ref C_Refused) = some (.type "type"))
    (ve_Refused : PySem.W.subIn K (.ref C_Refused) (.type "ValueError") = some true)
    (mr_Refused : PySem.W.mroIn K C_Refused (.ref C_Refused) = some true)
    (su_Refused : PySem.W.ks_superIn K C_Refused C_Refused "__init__" = some (some (.builtin "ValueError.__init__")))
    (hd_Refused : PySem.W.hasDictIn K C_Refused = true)
    (is_Refused : PySem.W.isClsIn K C_Refused = true)
    (li_Refused : K.lookup i_Refused = some ⟨oc_Refused, od_Refused, .func (PySem.W.ksFn "__init__" ql_Refused (OwnErr.eA "value" p1_Refused p2_Refused) (OwnErr.eB "value" "no such value here" n_Refused r0_Refused r1_Refused r2_Refused r3_Refused r4_Refused q1_Refused q2_Refused q3_Refused q4_Refused) (OwnErr.eS "value") .none .none dc_Refused pm_Refused an_Refused (.ref ca_Refused) ct_Refused cc_Refused), sl_Refused⟩)
    (ci_Refused : PySem.W.codeIn K (.ref ca_Refused) ql_Refused = true)
    (lc_Refused : K.lookup ca_Refused = some ⟨ccl_Refused, cdd_Refused, .fields vs_Refused, ccs_Refused⟩)
    (vf_Refused : vs_Refused[2]? = some (.str fl_Refused tf_Refused))
    (hf_Refused : ((PySem.Challenge.pw_whatmovesbuy_k32_whole_what_the_foe_asks.main.file : Str) == fl_Refused) = true)
    (lk_Refused : K.lookup cc_Refused = some ⟨cl_Refused, cld_Refused, .cell (some (.ref C_Refused)), csl_Refused⟩)
    (ln_Refused : (r2_Refused.endLine == r4_Refused.line) = true)
    (su_BadPicture_BadPicture : PySem.W.subIn K (.ref C_BadPicture) (.ref C_BadPicture) = some true)
    (su_Refused_BadPicture : PySem.W.subIn K (.ref C_Refused) (.ref C_BadPicture) = some false)
    (su_Refused_Refused : PySem.W.subIn K (.ref C_Refused) (.ref C_Refused) = some true)
    (lcd : K.lookup cL = some ⟨ccL, cdL, .fields vsL, csL⟩)
    (v11 : vsL[11]? = some (.ref pL))
    (nT : K.lookup pL = none)
    (hcode : PySem.W.tabIn K "law" = some (cL, pL) → PySem.W.CodeHd h cL pL ∧ h.get? pL = some (PySem.W.tabObj #[])) : LawD PySem.Challenge.pw_whatmovesbuy_k32_whole_what_the_foe_asks w K 11 63 "script" mg fa h := by
  have hcode := hcode (by unfold PySem.W.tabIn; rw [a_law]; dsimp only; rw [l_law]; dsimp only; rw [lcd]; dsimp only; rw [v11])
  have e0 := (PySem.W.mg_of X G a_law).symm.trans hfa
  have e : f_law = fa := by cases e0; rfl
  subst e
  have T : Txt K mg (⟨f__law_box, PySem.W.fnOf "_law_box" "_law_box" (defArgs s__law_box) (defBody s__law_box) (defScope s__law_box) .none kV__law_box dc__law_box pm__law_box an__law_box cd__law_box ct__law_box, f_is_sequence, PySem.W.fnOf "is_sequence" "is_sequence" (defArgs s_is_sequence) (defBody s_is_sequence) (defScope s_is_sequence) .none kV_is_sequence dc_is_sequence pm_is_sequence an_is_sequence cd_is_sequence ct_is_sequence, f_is_integer, PySem.W.fnOf "is_integer" "is_integer" (defArgs s_is_integer) (defBody s_is_integer) (defScope s_is_integer) .none kV_is_integer dc_is_integer pm_is_integer an_is_integer cd_is_integer ct_is_integer, f_is_positive, PySem.W.fnOf "is_positive" "is_positive" (defArgs s_is_positive) (defBody s_is_positive) (defScope s_is_positive) .none kV_is_positive dc_is_positive pm_is_positive an_is_positive cd_is_positive ct_is_positive, f_is_next, PySem.W.fnOf "is_next" "is_next" (defArgs s_is_next) (defBody s_is_next) (defScope s_is_next) .none kV_is_next dc_is_next pm_is_next an_is_next cd_is_next ct_is_next, f_check_sizes, PySem.W.fnOf "check_sizes" "check_sizes" (defArgs s_check_sizes) (defBody s_check_sizes) (defScope s_check_sizes) .none kV_check_sizes dc_check_sizes pm_check_sizes an_check_sizes cd_check_sizes ct_check_sizes, f_is_number, PySem.W.fnOf "is_number" "is_number" (defArgs s_is_number) (defBody s_is_number) (defScope s_is_number) .none kV_is_number dc_is_number pm_is_number an_is_number cd_is_number ct_is_number, f_check_pages, PySem.W.fnOf "check_pages" "check_pages" (defArgs s_check_pages) (defBody s_check_pages) (defScope s_check_pages) .none kV_check_pages dc_check_pages pm_check_pages an_check_pages cd_check_pages ct_check_pages, f_arena, PySem.W.fnOf "arena" "arena" (defArgs s_arena) (defBody s_arena) (defScope s_arena) .none kV_arena dc_arena pm_arena an_arena cd_arena ct_arena, f__law_take, PySem.W.fnOf "_law_take" "_law_take" (defArgs s__law_take) (defBody s__law_take) (defScope s__law_take) .none kV__law_take dc__law_take pm__law_take an__law_take cd__law_take ct__law_take, f__law_pick, PySem.W.fnOf "_law_pick" "_law_pick" (defArgs s__law_pick) (defBody s__law_pick) (defScope s__law_pick) .none kV__law_pick dc__law_pick pm__law_pick an__law_pick cd__law_pick ct__law_pick, f__law_sizes, PySem.W.fnOf "_law_sizes" "_law_sizes" (defArgs s__law_sizes) (defBody s__law_sizes) (defScope s__law_sizes) .none kV__law_sizes dc__law_sizes pm__law_sizes an__law_sizes cd__law_sizes ct__law_sizes, f__law_pages, PySem.W.fnOf "_law_pages" "_law_pages" (defArgs s__law_pages) (defBody s__law_pages) (defScope s__law_pages) .none kV__law_pages dc__law_pages pm__law_pages an__law_pages cd__law_pages ct__law_pages, f_foe_many, PySem.W.fnOf "foe_many" "foe_many" (defArgs s_foe_many) (defBody s_foe_many) (defScope s_foe_many) .none kV_foe_many dc_foe_many pm_foe_many an_foe_many cd_foe_many ct_foe_many, f_cells_of, PySem.W.fnOf "cells_of" "cells_of" (defArgs s_cells_of) (defBody s_cells_of) (defScope s_cells_of) .none kV_cells_of dc_cells_of pm_cells_of an_cells_of cd_cells_of ct_cells_of, f_hold, PySem.W.fnOf "hold" "hold" (defArgs s_hold) (defBody s_hold) (defScope s_hold) .none kV_hold dc_hold pm_hold an_hold cd_hold ct_hold, f_in_pages, PySem.W.fnOf "in_pages" "in_pages" (defArgs s_in_pages) (defBody s_in_pages) (defScope s_in_pages) .none kV_in_pages dc_in_pages pm_in_pages an_in_pages cd_in_pages ct_in_pages, f_is_block, PySem.W.fnOf "is_block" "is_block" (defArgs s_is_block) (defBody s_is_block) (defScope s_is_block) .none kV_is_block dc_is_block pm_is_block an_is_block cd_is_block ct_is_block, f_check_picture, PySem.W.fnOf "check_picture" "check_picture" (defArgs s_check_picture) (defBody s_check_picture) (defScope s_check_picture) .none kV_check_picture dc_check_picture pm_check_picture an_check_picture cd_check_picture ct_check_picture, f_least_in, PySem.W.fnOf "least_in" "least_in" (defArgs s_least_in) (defBody s_least_in) (defScope s_least_in) .none kV_least_in dc_least_in pm_least_in an_least_in cd_least_in ct_least_in, f_foe_request, PySem.W.fnOf "foe_request" "foe_request" (defArgs s_foe_request) (defBody s_foe_request) (defScope s_foe_request) .none kV_foe_request dc_foe_request pm_foe_request an_foe_request cd_foe_request ct_foe_request, f__law_refused, PySem.W.fnOf "_law_refused" "_law_refused" (defArgs s__law_refused) (defBody s__law_refused) (defScope s__law_refused) .none kV__law_refused dc__law_refused pm__law_refused an__law_refused cd__law_refused ct__law_refused, f__law_cells, PySem.W.fnOf "_law_cells" "_law_cells" (defArgs s__law_cells) (defBody s__law_cells) (defScope s__law_cells) .none kV__law_cells dc__law_cells pm__law_cells an__law_cells cd__law_cells ct__law_cells, f__law_free, PySem.W.fnOf "_law_free" "_law_free" (defArgs s__law_free) (defBody s__law_free) (defScope s__law_free) .none kV__law_free dc__law_free pm__law_free an__law_free cd__law_free ct__law_free, f__law_due, PySem.W.fnOf "_law_due" "_law_due" (defArgs s__law_due) (defBody s__law_due) (defScope s__law_due) .none kV__law_due dc__law_due pm__law_due an__law_due cd__law_due ct__law_due, f_law, PySem.W.fnOf "law" "law" (defArgs s_law) (defBody s_law) (defScope s_law) .none kV_law dc_law pm_law an_law (.ref cL) ct_law, C_BadPages, i_BadPages, C_BadPicture, i_BadPicture, C_BadSizes, i_BadSizes, C_Refused, i_Refused, cL, pL⟩ : Ad) := ⟨PySem.W.mg_none_of X G z_abs,
    PySem.W.mg_none_of X G z_any,
    PySem.W.mg_none_of X G z_bool,
    PySem.W.mg_none_of X G z_enumerate,
    PySem.W.mg_none_of X G z_int,
    PySem.W.mg_none_of X G z_isinstance,
    PySem.W.mg_none_of X G z_len,
    PySem.W.mg_none_of X G z_list,
    PySem.W.mg_none_of X G z_min,
    PySem.W.mg_none_of X G z_range,
    PySem.W.mg_none_of X G z_repr,
    PySem.W.mg_none_of X G z_sorted,
    PySem.W.mg_none_of X G z_sum,
    PySem.W.mg_none_of X G z_tuple,
    ⟨_, PySem.W.mg_of X G q_BLOCK_PARTS⟩,
    ⟨_, PySem.W.mg_of X G q_GIVE⟩,
    ⟨_, PySem.W.mg_of X G q_MOST_PAGES⟩,
    ⟨_, PySem.W.mg_of X G q_MOST_SIZE⟩,
    ⟨_, PySem.W.mg_of X G q_MOST_SIZES⟩,
    ⟨_, PySem.W.mg_of X G q_TAKE⟩,
    PySem.W.mg_of X G a__law_box,
    fun_mk (st := s__law_box) l__law_box c__law_box k__law_box,
    PySem.W.mg_of X G a_is_sequence,
    fun_mk (st := s_is_sequence) l_is_sequence c_is_sequence k_is_sequence,
    PySem.W.mg_of X G a_is_integer,
    fun_mk (st := s_is_integer) l_is_integer c_is_integer k_is_integer,
    PySem.W.mg_of X G a_is_positive,
    fun_mk (st := s_is_positive) l_is_positive c_is_positive k_is_positive,
    PySem.W.mg_of X G a_is_next,
    fun_mk (st := s_is_next) l_is_next c_is_next k_is_next,
    PySem.W.mg_of X G a_check_sizes,
    fun_mk (st := s_check_sizes) l_check_sizes c_check_sizes k_check_sizes,
    PySem.W.mg_of X G a_is_number,
    fun_mk (st := s_is_number) l_is_number c_is_number k_is_number,
    PySem.W.mg_of X G a_check_pages,
    fun_mk (st := s_check_pages) l_check_pages c_check_pages k_check_pages,
    PySem.W.mg_of X G a_arena,
    fun_mk (st := s_arena) l_arena c_arena k_arena,
    PySem.W.mg_of X G a__law_take,
    fun_mk (st := s__law_take) l__law_take c__law_take k__law_take,
    PySem.W.mg_of X G a__law_pick,
    fun_mk (st := s__law_pick) l__law_pick c__law_pick k__law_pick,
    PySem.W.mg_of X G a__law_sizes,
    fun_mk (st := s__law_sizes) l__law_sizes c__law_sizes k__law_sizes,
    PySem.W.mg_of X G a__law_pages,
    fun_mk (st := s__law_pages) l__law_pages c__law_pages k__law_pages,
    PySem.W.mg_of X G a_foe_many,
    fun_mk (st := s_foe_many) l_foe_many c_foe_many k_foe_many,
    PySem.W.mg_of X G a_cells_of,
    fun_mk (st := s_cells_of) l_cells_of c_cells_of k_cells_of,
    PySem.W.mg_of X G a_hold,
    fun_mk (st := s_hold) l_hold c_hold k_hold,
    PySem.W.mg_of X G a_in_pages,
    fun_mk (st := s_in_pages) l_in_pages c_in_pages k_in_pages,
    PySem.W.mg_of X G a_is_block,
    fun_mk (st := s_is_block) l_is_block c_is_block k_is_block,
    PySem.W.mg_of X G a_check_picture,
    fun_mk (st := s_check_picture) l_check_picture c_check_picture k_check_picture,
    PySem.W.mg_of X G a_least_in,
    fun_mk (st := s_least_in) l_least_in c_least_in k_least_in,
    PySem.W.mg_of X G a_foe_request,
    fun_mk (st := s_foe_request) l_foe_request c_foe_request k_foe_request,
    PySem.W.mg_of X G a__law_refused,
    fun_mk (st := s__law_refused) l__law_refused c__law_refused k__law_refused,
    PySem.W.mg_of X G a__law_cells,
    fun_mk (st := s__law_cells) l__law_cells c__law_cells k__law_cells,
    PySem.W.mg_of X G a__law_free,
    fun_mk (st := s__law_free) l__law_free c__law_free k__law_free,
    PySem.W.mg_of X G a__law_due,
    fun_mk (st := s__law_due) l__law_due c__law_due k__law_due,
    PySem.W.mg_of X G a_law,
    fun_mk (st := s_law) l_law c_law k_law,
    { gC := PySem.W.mg_of X G aC_BadPages, cls := ⟨_, _, _, _, _, _, _, _, _, _, _, _, _, _, _, xL_BadPages, rv_BadPages⟩, sa := sa_BadPages, noN := nn_BadPages, iC := iC_BadPages, tC := ti_BadPages, kC := kC_BadPages, exC := ex_BadPages, tyC := tC_BadPages, veC := ve_BadPages, mroC := mr_BadPages, sup := su_BadPages, opq := z_opq, nosup := PySem.W.mg_none_of X G z_super, top := by decide +kernel,
      fn := ⟨_, _, _, _, _, _, _, _, _, _, _, _, _, _, _, _, _, _, _, _, _, _, _, _, _, _, _, _, _, _, _, li_BadPages, ci_BadPages, lc_BadPages, vf_BadPages, hf_BadPages, lk_BadPages, fun _ _ => rfl, ln_BadPages⟩, ne := by decide, nd := by decide, nc := by decide, nu := by decide },
    ⟨ga_BadPages, gg_BadPages, ex_BadPages, hd_BadPages⟩,
    { gC := PySem.W.mg_of X G aC_BadPicture, cls := ⟨_, _, _, _, _, _, _, _, _, _, _, _, _, _, _, xL_BadPicture, rv_BadPicture⟩, sa := sa_BadPicture, noN := nn_BadPicture, iC := iC_BadPicture, tC := ti_BadPicture, kC := kC_BadPicture, exC := ex_BadPicture, tyC := tC_BadPicture, veC := ve_BadPicture, mroC := mr_BadPicture, sup := su_BadPicture, opq := z_opq, nosup := PySem.W.mg_none_of X G z_super, top := by decide +kernel,
      fn := ⟨_, _, _, _, _, _, _, _, _, _, _, _, _, _, _, _, _, _, _, _, _, _, _, _, _, _, _, _, _, _, _, li_BadPicture, ci_BadPicture, lc_BadPicture, vf_BadPicture, hf_BadPicture, lk_BadPicture, fun _ _ => rfl, ln_BadPicture⟩, ne := by decide, nd := by decide, nc := by decide, nu := by decide },
    ⟨ga_BadPicture, gg_BadPicture, ex_BadPicture, hd_BadPicture⟩,
    { gC := PySem.W.mg_of X G aC_BadSizes, cls := ⟨_, _, _, _, _, _, _, _, _, _, _, _, _, _, _, xL_BadSizes, rv_BadSizes⟩, sa := sa_BadSizes, noN := nn_BadSizes, iC := iC_BadSizes, tC := ti_BadSizes, kC := kC_BadSizes, exC := ex_BadSizes, tyC := tC_BadSizes, veC := ve_BadSizes, mroC := mr_BadSizes, sup := su_BadSizes, opq := z_opq, nosup := PySem.W.mg_none_of X G z_super, top := by decide +kernel,
      fn := ⟨_, _, _, _, _, _, _, _, _, _, _, _, _, _, _, _, _, _, _, _, _, _, _, _, _, _, _, _, _, _, _, li_BadSizes, ci_BadSizes, lc_BadSizes, vf_BadSizes, hf_BadSizes, lk_BadSizes, fun _ _ => rfl, ln_BadSizes⟩, ne := by decide, nd := by decide, nc := by decide, nu := by decide },
    ⟨ga_BadSizes, gg_BadSizes, ex_BadSizes, hd_BadSizes⟩,
    { gC := PySem.W.mg_of X G aC_Refused, cls := ⟨_, _, _, _, _, _, _, _, _, _, _, _, _, _, _, xL_Refused, rv_Refused⟩, sa := sa_Refused, noN := nn_Refused, iC := iC_Refused, tC := ti_Refused, kC := kC_Refused, exC := ex_Refused, tyC := tC_Refused, veC := ve_Refused, mroC := mr_Refused, sup := su_Refused, opq := z_opq, nosup := PySem.W.mg_none_of X G z_super, top := by decide +kernel,
      fn := ⟨_, _, _, _, _, _, _, _, _, _, _, _, _, _, _, _, _, _, _, _, _, _, _, _, _, _, _, _, _, _, _, li_Refused, ci_Refused, lc_Refused, vf_Refused, hf_Refused, lk_Refused, fun _ _ => rfl, ln_Refused⟩, ne := by decide, nd := by decide, nc := by decide, nu := by decide },
    ⟨ga_Refused, gg_Refused, ex_Refused, hd_Refused⟩,
    ⟨fun q hq => by
      simp only [sp__law_refused, List.mem_cons, List.not_mem_nil, or_false] at hq
      rcases hq with rfl | rfl
      · exact ⟨PySem.W.mg_of X G aC_BadPicture, exm_own ex_BadPicture is_BadPicture tC_BadPicture su_BadPicture_BadPicture⟩
      · exact ⟨PySem.W.mg_of X G aC_Refused, exm_own ex_Refused is_Refused tC_Refused su_Refused_Refused⟩,
    by
      unfold sp__law_refused
      exact List.Pairwise.cons (fun q hq => by
        simp only [List.mem_cons, List.not_mem_nil, or_false] at hq
        rcases hq with rfl
        · exact exm_own ex_BadPicture is_BadPicture tC_BadPicture su_Refused_BadPicture) (List.Pairwise.cons (fun q hq => absurd hq (List.not_mem_nil)) (List.Pairwise.nil))⟩⟩
  refine ⟨_, [(cL, pL)], ⟨[(pL, "law.<locals>.<lambda>")], clA (⟨f__law_box, PySem.W.fnOf "_law_box" "_law_box" (defArgs s__law_box) (defBody s__law_box) (defScope s__law_box) .none kV__law_box dc__law_box pm__law_box an__law_box cd__law_box ct__law_box, f_is_sequence, PySem.W.fnOf "is_sequence" "is_sequence" (defArgs s_is_sequence) (defBody s_is_sequence) (defScope s_is_sequence) .none kV_is_sequence dc_is_sequence pm_is_sequence an_is_sequence cd_is_sequence ct_is_sequence, f_is_integer, PySem.W.fnOf "is_integer" "is_integer" (defArgs s_is_integer) (defBody s_is_integer) (defScope s_is_integer) .none kV_is_integer dc_is_integer pm_is_integer an_is_integer cd_is_integer ct_is_integer, f_is_positive, PySem.W.fnOf "is_positive" "is_positive" (defArgs s_is_positive) (defBody s_is_positive) (defScope s_is_positive) .none kV_is_positive dc_is_positive pm_is_positive an_is_positive cd_is_positive ct_is_positive, f_is_next, PySem.W.fnOf "is_next" "is_next" (defArgs s_is_next) (defBody s_is_next) (defScope s_is_next) .none kV_is_next dc_is_next pm_is_next an_is_next cd_is_next ct_is_next, f_check_sizes, PySem.W.fnOf "check_sizes" "check_sizes" (defArgs s_check_sizes) (defBody s_check_sizes) (defScope s_check_sizes) .none kV_check_sizes dc_check_sizes pm_check_sizes an_check_sizes cd_check_sizes ct_check_sizes, f_is_number, PySem.W.fnOf "is_number" "is_number" (defArgs s_is_number) (defBody s_is_number) (defScope s_is_number) .none kV_is_number dc_is_number pm_is_number an_is_number cd_is_number ct_is_number, f_check_pages, PySem.W.fnOf "check_pages" "check_pages" (defArgs s_check_pages) (defBody s_check_pages) (defScope s_check_pages) .none kV_check_pages dc_check_pages pm_check_pages an_check_pages cd_check_pages ct_check_pages, f_arena, PySem.W.fnOf "arena" "arena" (defArgs s_arena) (defBody s_arena) (defScope s_arena) .none kV_arena dc_arena pm_arena an_arena cd_arena ct_arena, f__law_take, PySem.W.fnOf "_law_take" "_law_take" (defArgs s__law_take) (defBody s__law_take) (defScope s__law_take) .none kV__law_take dc__law_take pm__law_take an__law_take cd__law_take ct__law_take, f__law_pick, PySem.W.fnOf "_law_pick" "_law_pick" (defArgs s__law_pick) (defBody s__law_pick) (defScope s__law_pick) .none kV__law_pick dc__law_pick pm__law_pick an__law_pick cd__law_pick ct__law_pick, f__law_sizes, PySem.W.fnOf "_law_sizes" "_law_sizes" (defArgs s__law_sizes) (defBody s__law_sizes) (defScope s__law_sizes) .none kV__law_sizes dc__law_sizes pm__law_sizes an__law_sizes cd__law_sizes ct__law_sizes, f__law_pages, PySem.W.fnOf "_law_pages" "_law_pages" (defArgs s__law_pages) (defBody s__law_pages) (defScope s__law_pages) .none kV__law_pages dc__law_pages pm__law_pages an__law_pages cd__law_pages ct__law_pages, f_foe_many, PySem.W.fnOf "foe_many" "foe_many" (defArgs s_foe_many) (defBody s_foe_many) (defScope s_foe_many) .none kV_foe_many dc_foe_many pm_foe_many an_foe_many cd_foe_many ct_foe_many, f_cells_of, PySem.W.fnOf "cells_of" "cells_of" (defArgs s_cells_of) (defBody s_cells_of) (defScope s_cells_of) .none kV_cells_of dc_cells_of pm_cells_of an_cells_of cd_cells_of ct_cells_of, f_hold, PySem.W.fnOf "hold" "hold" (defArgs s_hold) (defBody s_hold) (defScope s_hold) .none kV_hold dc_hold pm_hold an_hold cd_hold ct_hold, f_in_pages, PySem.W.fnOf "in_pages" "in_pages" (defArgs s_in_pages) (defBody s_in_pages) (defScope s_in_pages) .none kV_in_pages dc_in_pages pm_in_pages an_in_pages cd_in_pages ct_in_pages, f_is_block, PySem.W.fnOf "is_block" "is_block" (defArgs s_is_block) (defBody s_is_block) (defScope s_is_block) .none kV_is_block dc_is_block pm_is_block an_is_block cd_is_block ct_is_block, f_check_picture, PySem.W.fnOf "check_picture" "check_picture" (defArgs s_check_picture) (defBody s_check_picture) (defScope s_check_picture) .none kV_check_picture dc_check_picture pm_check_picture an_check_picture cd_check_picture ct_check_picture, f_least_in, PySem.W.fnOf "least_in" "least_in" (defArgs s_least_in) (defBody s_least_in) (defScope s_least_in) .none kV_least_in dc_least_in pm_least_in an_least_in cd_least_in ct_least_in, f_foe_request, PySem.W.fnOf "foe_request" "foe_request" (defArgs s_foe_request) (defBody s_foe_request) (defScope s_foe_request) .none kV_foe_request dc_foe_request pm_foe_request an_foe_request cd_foe_request ct_foe_request, f__law_refused, PySem.W.fnOf "_law_refused" "_law_refused" (defArgs s__law_refused) (defBody s__law_refused) (defScope s__law_refused) .none kV__law_refused dc__law_refused pm__law_refused an__law_refused cd__law_refused ct__law_refused, f__law_cells, PySem.W.fnOf "_law_cells" "_law_cells" (defArgs s__law_cells) (defBody s__law_cells) (defScope s__law_cells) .none kV__law_cells dc__law_cells pm__law_cells an__law_cells cd__law_cells ct__law_cells, f__law_free, PySem.W.fnOf "_law_free" "_law_free" (defArgs s__law_free) (defBody s__law_free) (defScope s__law_free) .none kV__law_free dc__law_free pm__law_free an__law_free cd__law_free ct__law_free, f__law_due, PySem.W.fnOf "_law_due" "_law_due" (defArgs s__law_due) (defBody s__law_due) (defScope s__law_due) .none kV__law_due dc__law_due pm__law_due an__law_due cd__law_due ct__law_due, f_law, PySem.W.fnOf "law" "law" (defArgs s_law) (defBody s_law) (defScope s_law) .none kV_law dc_law pm_law an_law (.ref cL) ct_law, C_BadPages, i_BadPages, C_BadPicture, i_BadPicture, C_BadSizes, i_BadSizes, C_Refused, i_Refused, cL, pL⟩ : Ad)⟩, true, m_law, fun p hp => ?_, fun p hp => ?_, fun p hp => ?_, fun q hq => ?_, ?_, fun ns h1 h2 => math ns h1 h2, fun base hb hn tb => ok_law T l_law c_law (tb (cL, pL) (List.mem_singleton.mpr rfl))⟩
  · rw [List.mem_singleton.mp hp]; exact hcode.2
  · rw [List.mem_singleton.mp hp]; exact nT
  · rw [List.mem_singleton.mp hp]; exact hcode.1
  · rw [List.mem_singleton.mp hq]; exact List.mem_singleton.mpr rfl
  · exact fun s u => .of_eq rfl
end Zk32
end
section
set_option pp.maxSteps 400
set_option Elab.async false
set_option linter.all false
set_option maxRecDepth 100000
set_option maxHeartbeats 8000000
open PySem PySem.W PyProof.Rows
set_option maxHeartbeats 0 in
theorem PySem.Challenge.cw_whatmovesbuy_k32_whole_what_the_foe_asks_holds : PySem.Challenge.rw_whatmovesbuy_k32_whole_what_the_foe_asks.Holds := by
  w_on; o_law; k_head; (case hw => w_witness2)
  k_fill
  refine DS.walk_ds (l := PySem.Challenge.rw_whatmovesbuy_k32_whole_what_the_foe_asks) (n := 63) (k := 11) (x := "script") rfl (by rw [sizeLine_eq]; decide) rfl ⟨rfl, by decide, by decide⟩ (fun w h Y => by first | exact PySem.W.km_in_of Y | exact PySem.W.kIn_of Y) ?F
  case F =>
    intro w s₀ mg mb fa h G KX hmg
    refine' Zk32.law_mk KX G.T.g hmg ?z_abs ?z_any ?z_bool ?z_enumerate ?z_int ?z_isinstance ?z_len ?z_list ?z_min ?z_range ?z_repr ?z_sorted ?z_sum ?z_tuple ?z_super ?z_opq ?q_BLOCK_PARTS ?q_GIVE ?q_MOST_PAGES ?q_MOST_SIZE ?q_MOST_SIZES ?q_TAKE ?a__law_box ?l__law_box ?c__law_box ?k__law_box ?a_is_sequence ?l_is_sequence ?c_is_sequence ?k_is_sequence ?a_is_integer ?l_is_integer ?c_is_integer ?k_is_integer ?a_is_positive ?l_is_positive ?c_is_positive ?k_is_positive ?a_is_next ?l_is_next ?c_is_next ?k_is_next ?a_check_sizes ?l_check_sizes ?c_check_sizes ?k_check_sizes ?a_is_number ?l_is_number ?c_is_number ?k_is_number ?a_check_pages ?l_check_pages ?c_check_pages ?k_check_pages ?a_arena ?l_arena ?c_arena ?k_arena ?a__law_take ?l__law_take ?c__law_take ?k__law_take ?a__law_pick ?l__law_pick ?c__law_pick ?k__law_pick ?a__law_sizes ?l__law_sizes ?c__law_sizes ?k__law_sizes ?a__law_pages ?l__law_pages ?c__law_pages ?k__law_pages ?a_foe_many ?l_foe_many ?c_foe_many ?k_foe_many ?a_cells_of ?l_cells_of ?c_cells_of ?k_cells_of ?a_hold ?l_hold ?c_hold ?k_hold ?a_in_pages ?l_in_pages ?c_in_pages ?k_in_pages ?a_is_block ?l_is_block ?c_is_block ?k_is_block ?a_check_picture ?l_check_picture ?c_check_picture ?k_check_picture ?a_least_in ?l_least_in ?c_least_in ?k_least_in ?a_foe_request ?l_foe_request ?c_foe_request ?k_foe_request ?a__law_refused ?l__law_refused ?c__law_refused ?k__law_refused ?a__law_cells ?l__law_cells ?c__law_cells ?k__law_cells ?a__law_free ?l__law_free ?c__law_free ?k__law_free ?a__law_due ?l__law_due ?c__law_due ?k__law_due ?a_law ?l_law ?c_law ?k_law ?aC_BadPages ?xL_BadPages ?rv_BadPages ?sa_BadPages ?ga_BadPages ?gg_BadPages ?nn_BadPages ?iC_BadPages ?ti_BadPages ?kC_BadPages ?ex_BadPages ?tC_BadPages ?ve_BadPages ?mr_BadPages ?su_BadPages ?hd_BadPages ?is_BadPages ?li_BadPages ?ci_BadPages ?lc_BadPages ?vf_BadPages ?hf_BadPages ?lk_BadPages ?ln_BadPages ?aC_BadPicture ?xL_BadPicture ?rv_BadPicture ?sa_BadPicture ?ga_BadPicture ?gg_BadPicture ?nn_BadPicture ?iC_BadPicture ?ti_BadPicture ?kC_BadPicture ?ex_BadPicture ?tC_BadPicture ?ve_BadPicture ?mr_BadPicture ?su_BadPicture ?hd_BadPicture ?is_BadPicture ?li_BadPicture ?ci_BadPicture ?lc_BadPicture ?vf_BadPicture ?hf_BadPicture ?lk_BadPicture ?ln_BadPicture ?aC_BadSizes ?xL_BadSizes ?rv_BadSizes ?sa_BadSizes ?ga_BadSizes ?gg_BadSizes ?nn_BadSizes ?iC_BadSizes ?ti_BadSizes ?kC_BadSizes ?ex_BadSizes ?tC_BadSizes ?ve_BadSizes ?mr_BadSizes ?su_BadSizes ?hd_BadSizes ?is_BadSizes ?li_BadSizes ?ci_BadSizes ?lc_BadSizes ?vf_BadSizes ?hf_BadSizes ?lk_BadSizes ?ln_BadSizes ?aC_Refused ?xL_Refused ?rv_Refused ?sa_Refused ?ga_Refused ?gg_Refused ?nn_Refused ?iC_Refused ?ti_Refused ?kC_Refused ?ex_Refused ?tC_Refused ?ve_Refused ?mr_Refused ?su_Refused ?hd_Refused ?is_Refused ?li_Refused ?ci_Refused ?lc_Refused ?vf_Refused ?hf_Refused ?lk_Refused ?ln_Refused ?su_BadPicture_BadPicture ?su_Refused_BadPicture ?su_Refused_Refused ?lcd ?v11 ?nT ?hcode
    case z_abs => k_is
    case z_any => k_is
    case z_bool => k_is
    case z_enumerate => k_is
    case z_int => k_is
    case z_isinstance => k_is
    case z_len => k_is
    case z_list => k_is
    case z_min => k_is
    case z_range => k_is
    case z_repr => k_is
    case z_sorted => k_is
    case z_sum => k_is
    case z_tuple => k_is
    case z_super => k_is
    case z_opq => k_is
    case q_BLOCK_PARTS => k_is
    case q_GIVE => k_is
    case q_MOST_PAGES => k_is
    case q_MOST_SIZE => k_is
    case q_MOST_SIZES => k_is
    case q_TAKE => k_is
    case a__law_box => k_is
    case l__law_box => k_is
    case c__law_box => k_is
    case k__law_box => k_is
    case a_is_sequence => k_is
    case l_is_sequence => k_is
    case c_is_sequence => k_is
    case k_is_sequence => k_is
    case a_is_integer => k_is
    case l_is_integer => k_is
    case c_is_integer => k_is
    case k_is_integer => k_is
    case a_is_positive => k_is
    case l_is_positive => k_is
    case c_is_positive => k_is
    case k_is_positive => k_is
    case a_is_next => k_is
    case l_is_next => k_is
    case c_is_next => k_is
    case k_is_next => k_is
    case a_check_sizes => k_is
    case l_check_sizes => k_is
    case c_check_sizes => k_is
    case k_check_sizes => k_is
    case a_is_number => k_is
    case l_is_number => k_is
    case c_is_number => k_is
    case k_is_number => k_is
    case a_check_pages => k_is
    case l_check_pages => k_is
    case c_check_pages => k_is
    case k_check_pages => k_is
    case a_arena => k_is
    case l_arena => k_is
    case c_arena => k_is
    case k_arena => k_is
    case a__law_take => k_is
    case l__law_take => k_is
    case c__law_take => k_is
    case k__law_take => k_is
    case a__law_pick => k_is
    case l__law_pick => k_is
    case c__law_pick => k_is
    case k__law_pick => k_is
    case a__law_sizes => k_is
    case l__law_sizes => k_is
    case c__law_sizes => k_is
    case k__law_sizes => k_is
    case a__law_pages => k_is
    case l__law_pages => k_is
    case c__law_pages => k_is
    case k__law_pages => k_is
    case a_foe_many => k_is
    case l_foe_many => k_is
    case c_foe_many => k_is
    case k_foe_many => k_is
    case a_cells_of => k_is
    case l_cells_of => k_is
    case c_cells_of => k_is
    case k_cells_of => k_is
    case a_hold => k_is
    case l_hold => k_is
    case c_hold => k_is
    case k_hold => k_is
    case a_in_pages => k_is
    case l_in_pages => k_is
    case c_in_pages => k_is
    case k_in_pages => k_is
    case a_is_block => k_is
    case l_is_block => k_is
    case c_is_block => k_is
    case k_is_block => k_is
    case a_check_picture => k_is
    case l_check_picture => k_is
    case c_check_picture => k_is
    case k_check_picture => k_is
    case a_least_in => k_is
    case l_least_in => k_is
    case c_least_in => k_is
    case k_least_in => k_is
    case a_foe_request => k_is
    case l_foe_request => k_is
    case c_foe_request => k_is
    case k_foe_request => k_is
    case a__law_refused => k_is
    case l__law_refused => k_is
    case c__law_refused => k_is
    case k__law_refused => k_is
    case a__law_cells => k_is
    case l__law_cells => k_is
    case c__law_cells => k_is
    case k__law_cells => k_is
    case a__law_free => k_is
    case l__law_free => k_is
    case c__law_free => k_is
    case k__law_free => k_is
    case a__law_due => k_is
    case l__law_due => k_is
    case c__law_due => k_is
    case k__law_due => k_is
    case a_law => k_is
    case l_law => k_is
    case c_law => k_is
    case k_law => k_is
    case aC_BadPages => k_is
    case xL_BadPages => k_is
    case rv_BadPages => decide +kernel
    case sa_BadPages => k_is
    case ga_BadPages => k_is
    case gg_BadPages => k_is
    case nn_BadPages => k_is
    case iC_BadPages => k_is
    case ti_BadPages => k_is
    case kC_BadPages => k_is
    case ex_BadPages => k_is
    case tC_BadPages => k_is
    case ve_BadPages => k_is
    case mr_BadPages => k_is
    case su_BadPages => ks_is
    case hd_BadPages => k_is
    case is_BadPages => k_is
    case li_BadPages => k_is
    case ci_BadPages => k_is
    case lc_BadPages => k_is
    case vf_BadPages => rfl
    case hf_BadPages => first | rfl | decide +kernel
    case lk_BadPages => k_is
    case ln_BadPages => first | rfl | decide +kernel
    case aC_BadPicture => k_is
    case xL_BadPicture => k_is
    case rv_BadPicture => decide +kernel
    case sa_BadPicture => k_is
    case ga_BadPicture => k_is
    case gg_BadPicture => k_is
    case nn_BadPicture => k_is
    case iC_BadPicture => k_is
    case ti_BadPicture => k_is
    case kC_BadPicture => k_is
    case ex_BadPicture => k_is
    case tC_BadPicture => k_is
    case ve_BadPicture => k_is
    case mr_BadPicture => k_is
    case su_BadPicture => ks_is
    case hd_BadPicture => k_is
    case is_BadPicture => k_is
    case li_BadPicture => k_is
    case ci_BadPicture => k_is
    case lc_BadPicture => k_is
    case vf_BadPicture => rfl
    case hf_BadPicture => first | rfl | decide +kernel
    case lk_BadPicture => k_is
    case ln_BadPicture => first | rfl | decide +kernel
    case aC_BadSizes => k_is
    case xL_BadSizes => k_is
    case rv_BadSizes => decide +kernel
    case sa_BadSizes => k_is
    case ga_BadSizes => k_is
    case gg_BadSizes => k_is
    case nn_BadSizes => k_is
    case iC_BadSizes => k_is
    case ti_BadSizes => k_is
    case kC_BadSizes => k_is
    case ex_BadSizes => k_is
    case tC_BadSizes => k_is
    case ve_BadSizes => k_is
    case mr_BadSizes => k_is
    case su_BadSizes => ks_is
    case hd_BadSizes => k_is
    case is_BadSizes => k_is
    case li_BadSizes => k_is
    case ci_BadSizes => k_is
    case lc_BadSizes => k_is
    case vf_BadSizes => rfl
    case hf_BadSizes => first | rfl | decide +kernel
    case lk_BadSizes => k_is
    case ln_BadSizes => first | rfl | decide +kernel
    case aC_Refused => k_is
    case xL_Refused => k_is
    case rv_Refused => decide +kernel
    case sa_Refused => k_is
    case ga_Refused => k_is
    case gg_Refused => k_is
    case nn_Refused => k_is
    case iC_Refused => k_is
    case ti_Refused => k_is
    case kC_Refused => k_is
    case ex_Refused => k_is
    case tC_Refused => k_is
    case ve_Refused => k_is
    case mr_Refused => k_is
    case su_Refused => ks_is
    case hd_Refused => k_is
    case is_Refused => k_is
    case li_Refused => k_is
    case ci_Refused => k_is
    case lc_Refused => k_is
    case vf_Refused => rfl
    case hf_Refused => first | rfl | decide +kernel
    case lk_Refused => k_is
    case ln_Refused => first | rfl | decide +kernel
    case su_BadPicture_BadPicture => first | k_is | rfl
    case su_Refused_BadPicture => first | k_is | rfl
    case su_Refused_Refused => first | k_is | rfl
    case lcd => k_is
    case v11 => rfl
    case nT => first | k_is | rfl | kernel_rfl
    case hcode => exact fun ht => PySem.W.tab_of (x := "law") G.T KX rfl ht
end
