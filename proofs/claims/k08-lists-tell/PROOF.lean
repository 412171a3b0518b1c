import PyProof.Rows.All
import Wide.All
import OpenK.AllK
import Wide.FinOn
import HandS.ForMost
import HandS.IsInst
import HandS.Flow
import HandS.Zip
import HandS.TupAny
import HandS.NoneIn
import HandS.Defaults
import KE.DataCmp
import KE.DataFind
import HandS.TupMul
import HandS.Style
import KE.SortData
import HandS.WordsExc
import HandS.HeadHook3
import HandS.Head0
import HandS.Head1
import HandS.Head2
import HandS.HeadEnd
import HandS.HeadHook4
import HandS.Set
import HandS.SetFor
import HandS.Strs
import HandS.Star
import KE.KUnpackStar
import KE.KRevSl
import KE.KStateDown
import Lean
import PySem.Challenge.RW_lastlimit_k08_what_lists_tell
section
set_option Elab.async false
set_option linter.all false
set_option maxRecDepth 100000
set_option maxHeartbeats 4000000
namespace VL
open PySem PySem.Spec PyProof.Rows L2

abbrev D := PyData
abbrev Env := List (Option D)
abbrev Fz := Addr → Prop
abbrev St := L2.St
set_option autoImplicit false

inductive R (α : Type) where
  | ok (a : α)
  | exc (c : Nat) (fs : List D) (ρ : Env)
  | stuck

def R.bind {α β : Type} : R α → (α → R β) → R β
  | .ok a, f => f a
  | .exc c fs ρ, _ => .exc c fs ρ
  | .stuck, _ => .stuck
def R.of {α : Type} : Option α → R α
  | some a => .ok a
  | none => .stuck

/-- the facts of the text that a promise needs -/
structure Gb where
  K : PySem.W.Frag
  cls : Nat → Addr
  fld : Nat → List Str

def keyD : Key → D
  | .inl i => .int i
  | .inr x => .str x

def WrL (K : PySem.W.Frag) (a : Addr) (xs : List V) : Prop :=
  ∃ (o : Obj) (its : Array Value) (n : Nat), K.lookup a = some o ∧ o.cls = .type "list" ∧ o.dict = none ∧ o.data = .seq its n ∧ its.size ≤ sizeLine ∧ Vals xs its.toList
def WrT (K : PySem.W.Frag) (a : Addr) (xs : List V) : Prop :=
  ∃ (o : Obj) (its : Array Value) (n : Nat), K.lookup a = some o ∧ o.cls = .type "tuple" ∧ o.data = .seq its n ∧ its.size ≤ sizeLine ∧ Vals xs its.toList

mutual
inductive Dq (K : PySem.W.Frag) (F : Fz) (H : Hp) : V → D → Prop
  | non : Dq K F H .non .none
  | bl (b : Bool) : Dq K F H (.bl b) (.bool b)
  | int (i : Int) : Dq K F H (.int i) (.int i)
  | str (x : Str) : Dq K F H (.str x) (.str x)
  | lst {a : Addr} {xs : List V} {ds : List D} : F a → H a = some (.lst xs) → DqAll K F H xs ds → Dq K F H (.ref a) (.list ds)
  | tup {a : Addr} {xs : List V} {ds : List D} : F a → H a = some (.tup xs) → DqAll K F H xs ds → Dq K F H (.ref a) (.tuple ds)
  | scr {a : Addr} {xs : List V} {ds : List D} : (F a ∧ Rd H a (.lst xs)) ∨ WrL K a xs → DqAll K F H xs ds → Dq K F H (.ref a) (.dict [(.none, .list ds)])
  | tupK {a : Addr} {xs : List V} {ds : List D} : WrT K a xs → DqAll K F H xs ds → Dq K F H (.ref a) (.tuple ds)
  | dicK {a : Addr} {kvs : List (Key × V)} {ds : List (D × D)} : F a → H a = some (.dK kvs) → DqKV K F H kvs ds → Dq K F H (.ref a) (.dict ds)
  | dicT {a : Addr} {kvs : List (List Key × V)} {ds : List (D × D)} : F a → H a = some (.dT kvs) → DqTV K F H kvs ds → Dq K F H (.ref a) (.dict ds)
inductive DqAll (K : PySem.W.Frag) (F : Fz) (H : Hp) : List V → List D → Prop
  | nil : DqAll K F H [] []
  | cons {v : V} {vs : List V} {d : D} {ds : List D} : Dq K F H v d → DqAll K F H vs ds → DqAll K F H (v :: vs) (d :: ds)
inductive DqKV (K : PySem.W.Frag) (F : Fz) (H : Hp) : List (Key × V) → List (D × D) → Prop
  | nil : DqKV K F H [] []
  | cons {k : Key} {v : V} {vs : List (Key × V)} {d : D} {ds : List (D × D)} : Dq K F H v d → DqKV K F H vs ds → DqKV K F H ((k, v) :: vs) ((keyD k, d) :: ds)
inductive DqTV (K : PySem.W.Frag) (F : Fz) (H : Hp) : List (List Key × V) → List (D × D) → Prop
  | nil : DqTV K F H [] []
  | cons {k : List Key} {v : V} {vs : List (List Key × V)} {d : D} {ds : List (D × D)} : Dq K F H v d → DqTV K F H vs ds → DqTV K F H ((k, v) :: vs) ((.tuple (k.map keyD), d) :: ds)
end

/-- what is frozen stays -/
def Grow (F : Fz) (H : Hp) (F' : Fz) (H' : Hp) : Prop := ∀ b, F b → F' b ∧ H' b = H b
theorem Grow.refl {F : Fz} {H : Hp} : Grow F H F H := fun _ h => ⟨h, rfl⟩
theorem Grow.trans {F F1 F2 : Fz} {H H1 H2 : Hp} (a : Grow F H F1 H1) (b : Grow F1 H1 F2 H2) : Grow F H F2 H2 := fun c h => by
  obtain ⟨h1, e1⟩ := a c h
  obtain ⟨h2, e2⟩ := b c h1
  exact ⟨h2, e2.trans e1⟩
theorem Grow.rd {F F' : Fz} {H H' : Hp} {a : Addr} {u : HO} (g : Grow F H F' H') (h : F a) (r : Rd H a u) : Rd H' a u := by
  have e := (g a h).2
  rcases r with r | ⟨o, r⟩
  · exact .inl (e.trans r)
  · exact .inr ⟨o, e.trans r⟩

mutual
theorem Dq.grow {K : PySem.W.Frag} {F F' : Fz} {H H' : Hp} (g : Grow F H F' H') : ∀ {v : V} {d : D}, Dq K F H v d → Dq K F' H' v d
  | _, _, .non => .non
  | _, _, .bl b => .bl b
  | _, _, .int i => .int i
  | _, _, .str x => .str x
  | _, _, .lst h r q => .lst (g _ h).1 ((g _ h).2.trans r) (DqAll.grow g q)
  | _, _, .tup h r q => .tup (g _ h).1 ((g _ h).2.trans r) (DqAll.grow g q)
  | _, _, .scr w q => .scr (w.elim (fun h => .inl ⟨(g _ h.1).1, g.rd h.1 h.2⟩) .inr) (DqAll.grow g q)
  | _, _, .tupK w q => .tupK w (DqAll.grow g q)
  | _, _, .dicK h r q => .dicK (g _ h).1 ((g _ h).2.trans r) (DqKV.grow g q)
  | _, _, .dicT h r q => .dicT (g _ h).1 ((g _ h).2.trans r) (DqTV.grow g q)
theorem DqAll.grow {K : PySem.W.Frag} {F F' : Fz} {H H' : Hp} (g : Grow F H F' H') : ∀ {vs : List V} {ds : List D}, DqAll K F H vs ds → DqAll K F' H' vs ds
  | _, _, .nil => .nil
  | _, _, .cons q r => .cons (Dq.grow g q) (DqAll.grow g r)
theorem DqKV.grow {K : PySem.W.Frag} {F F' : Fz} {H H' : Hp} (g : Grow F H F' H') : ∀ {vs : List (Key × V)} {ds : List (D × D)}, DqKV K F H vs ds → DqKV K F' H' vs ds
  | _, _, .nil => .nil
  | _, _, .cons q r => .cons (Dq.grow g q) (DqKV.grow g r)
theorem DqTV.grow {K : PySem.W.Frag} {F F' : Fz} {H H' : Hp} (g : Grow F H F' H') : ∀ {vs : List (List Key × V)} {ds : List (D × D)}, DqTV K F H vs ds → DqTV K F' H' vs ds
  | _, _, .nil => .nil
  | _, _, .cons q r => .cons (Dq.grow g q) (DqTV.grow g r)
end
section
variable {K : PySem.W.Frag} {F F' : Fz} {H H' : Hp}
theorem DqAll.length : ∀ {vs : List V} {ds : List D}, DqAll K F H vs ds → vs.length = ds.length
  | _, _, .nil => rfl
  | _, _, .cons _ r => congrArg (· + 1) (DqAll.length r)
theorem DqAll.append : ∀ {vs ws : List V} {ds es : List D}, DqAll K F H vs ds → DqAll K F H ws es → DqAll K F H (vs ++ ws) (ds ++ es)
  | _, _, _, _, .nil, s => s
  | _, _, _, _, .cons q r, s => .cons q (DqAll.append r s)
theorem DqAll.get : ∀ {vs : List V} {ds : List D} {i : Nat} {d : D}, DqAll K F H vs ds → ds[i]? = some d → ∃ v, vs[i]? = some v ∧ Dq K F H v d
  | _, _, _, _, .nil, e => by simp at e
  | _, _, 0, _, .cons q _, e => by simp at e; subst e; exact ⟨_, rfl, q⟩
  | _, _, i + 1, _, .cons _ r, e => by
    obtain ⟨v, h1, h2⟩ := DqAll.get (i := i) r (by simpa using e)
    exact ⟨v, by simpa using h1, h2⟩
theorem DqAll.get' : ∀ {vs : List V} {ds : List D} {i : Nat} {v : V}, DqAll K F H vs ds → vs[i]? = some v → ∃ d, ds[i]? = some d ∧ Dq K F H v d
  | _, _, _, _, .nil, e => by simp at e
  | _, _, 0, _, .cons q _, e => by simp at e; subst e; exact ⟨_, rfl, q⟩
  | _, _, i + 1, _, .cons _ r, e => by
    obtain ⟨v, h1, h2⟩ := DqAll.get' (i := i) r (by simpa using e)
    exact ⟨v, by simpa using h1, h2⟩
theorem DqAll.take : ∀ {vs : List V} {ds : List D} (n : Nat), DqAll K F H vs ds → DqAll K F H (vs.take n) (ds.take n)
  | _, _, 0, _ => .nil
  | _, _, _ + 1, .nil => .nil
  | _, _, n + 1, .cons q r => .cons q (DqAll.take n r)
theorem DqAll.drop : ∀ {vs : List V} {ds : List D} (n : Nat), DqAll K F H vs ds → DqAll K F H (vs.drop n) (ds.drop n)
  | _, _, 0, r => r
  | _, _, _ + 1, .nil => .nil
  | _, _, n + 1, .cons _ r => DqAll.drop n r
theorem DqAll.set {v : V} {d : D} (q : Dq K F H v d) : ∀ {vs : List V} {ds : List D} (n : Nat), DqAll K F H vs ds → DqAll K F H (vs.set n v) (ds.set n d)
  | _, _, _, .nil => .nil
  | _, _, 0, .cons _ r => .cons q r
  | _, _, n + 1, .cons p r => .cons p (DqAll.set q n r)
theorem DqAll.erase : ∀ {vs : List V} {ds : List D} (n : Nat), DqAll K F H vs ds → DqAll K F H (vs.eraseIdx n) (ds.eraseIdx n)
  | _, _, _, .nil => .nil
  | _, _, 0, .cons _ r => r
  | _, _, n + 1, .cons p r => .cons p (DqAll.erase n r)
theorem DqAll.reverse : ∀ {vs : List V} {ds : List D}, DqAll K F H vs ds → DqAll K F H vs.reverse ds.reverse
  | _, _, .nil => .nil
  | _, _, .cons q r => by
    rw [List.reverse_cons, List.reverse_cons]
    exact (DqAll.reverse r).append (.cons q .nil)
end

/-! ### the state -/
structure Gm where
  O : List Nat
  P : List (Nat × Addr)
  F0 : Fz
  H0 : Hp

inductive OwnAt (K : PySem.W.Frag) (F : Fz) (H : Hp) (a : Addr) : D → Prop
  | lst {xs : List V} {ds : List D} : H a = some (.lst xs) → DqAll K F H xs ds → OwnAt K F H a (.list ds)
  | dicK {kvs : List (Key × V)} {ds : List (D × D)} : H a = some (.dK kvs) → DqKV K F H kvs ds → OwnAt K F H a (.dict ds)
  | dicT {kvs : List (List Key × V)} {ds : List (D × D)} : H a = some (.dT kvs) → DqTV K F H kvs ds → OwnAt K F H a (.dict ds)
theorem OwnAt.some {K : PySem.W.Frag} {F : Fz} {H : Hp} {a : Addr} {d : D} (h : OwnAt K F H a d) : ∃ o, H a = some o := by
  cases h with
  | lst e _ => exact ⟨_, e⟩
  | dicK e _ => exact ⟨_, e⟩
  | dicT e _ => exact ⟨_, e⟩
theorem OwnAt.grow {K : PySem.W.Frag} {F F' : Fz} {H H' : Hp} {a : Addr} {d : D} (g : Grow F H F' H') (e : H' a = H a) (h : OwnAt K F H a d) : OwnAt K F' H' a d := by
  cases h with
  | lst q r => exact .lst (e.trans q) (r.grow g)
  | dicK q r => exact .dicK (e.trans q) (r.grow g)
  | dicT q r => exact .dicT (e.trans q) (r.grow g)
theorem OwnAt.frz {K : PySem.W.Frag} {F : Fz} {H : Hp} {a : Addr} {d : D} (h : OwnAt K F H a d) (f : F a) : Dq K F H (.ref a) d := by
  cases h with
  | lst q r => exact .lst f q r
  | dicK q r => exact .dicK f q r
  | dicT q r => exact .dicT f q r

structure Rel (K : PySem.W.Frag) (Γ : Gm) (F : Fz) (ρ : Env) (σ : St) (H : Hp) : Prop where
  len : ρ.length = σ.length
  trk : ∀ b, F b → ∃ o, H b = some o
  val : ∀ i d, ρ[i]? = some (some d) → i ∉ Γ.O → ∃ v, σ[i]? = some (some v) ∧ Dq K F H v d
  own : ∀ i d, ρ[i]? = some (some d) → i ∈ Γ.O → ∃ a, σ[i]? = some (some (.ref a)) ∧ ¬ F a ∧ OwnAt K F H a d ∧ (Γ.H0 a = none ∨ (i, a) ∈ Γ.P)
  inj : ∀ i j a d e, i ∈ Γ.O → j ∈ Γ.O → ρ[i]? = some (some d) → ρ[j]? = some (some e) → σ[i]? = some (some (.ref a)) → σ[j]? = some (some (.ref a)) → i = j
  pin : ∀ i a, (i, a) ∈ Γ.P → i ∈ Γ.O ∧ (∃ d, ρ[i]? = some (some d)) ∧ σ[i]? = some (some (.ref a))
  ext : ∀ b o, Γ.H0 b = some o → (∀ i, (i, b) ∉ Γ.P) → H b = some o
  fro : ∀ b, F b → Γ.F0 b ∨ Γ.H0 b = none
  frm : ∀ b, Γ.F0 b → F b
  dom : ∀ j, j ∈ Γ.O → ∀ v, σ[j]? = some (some v) → ∃ d, ρ[j]? = some (some d)

/-- a slot of one's own holds it -/
def Own (O : List Nat) (σ : St) (b : Addr) : Prop := ∃ j, j ∈ O ∧ σ[j]? = some (some (.ref b))
/-- what no slot owns stays as it is -/
structure Kp (O : List Nat) (σ : St) (F : Fz) (H : Hp) (F' : Fz) (H' : Hp) : Prop where
  frz : ∀ b, F b → F' b
  keep : ∀ b o, H b = some o → ¬ Own O σ b → H' b = some o ∧ (F' b → F b)
theorem Kp.refl {O : List Nat} {σ : St} {F : Fz} {H : Hp} : Kp O σ F H F H := ⟨fun _ h => h, fun _ _ h _ => ⟨h, fun z => z⟩⟩
theorem Kp.trans {O : List Nat} {σ : St} {F F1 F2 : Fz} {H H1 H2 : Hp} (a : Kp O σ F H F1 H1) (b : Kp O σ F1 H1 F2 H2) : Kp O σ F H F2 H2 :=
  ⟨fun c h => b.frz c (a.frz c h), fun c o h n => by
    obtain ⟨h1, f1⟩ := a.keep c o h n
    obtain ⟨h2, f2⟩ := b.keep c o h1 n
    exact ⟨h2, fun z => f1 (f2 z)⟩⟩
theorem Rel.nown {K : PySem.W.Frag} {Γ : Gm} {F : Fz} {ρ : Env} {σ : St} {H : Hp} (r : Rel K Γ F ρ σ H) {b : Addr} (h : F b) : ¬ Own Γ.O σ b := fun ⟨j, hj, hs⟩ => by
  obtain ⟨d, hd⟩ := r.dom j hj _ hs
  obtain ⟨a, ha, nf, _⟩ := r.own j d hd hj
  rw [hs] at ha; cases ha
  exact nf h
theorem Rel.nownN {K : PySem.W.Frag} {Γ : Gm} {F : Fz} {ρ : Env} {σ : St} {H : Hp} (r : Rel K Γ F ρ σ H) {b : Addr} (h : H b = none) : ¬ Own Γ.O σ b := fun ⟨j, hj, hs⟩ => by
  obtain ⟨d, hd⟩ := r.dom j hj _ hs
  obtain ⟨a, ha, _, oa, _⟩ := r.own j d hd hj
  rw [hs] at ha; cases ha
  obtain ⟨u, hu⟩ := oa.some
  rw [h] at hu; cases hu
theorem Kp.g {K : PySem.W.Frag} {Γ : Gm} {F F' : Fz} {ρ : Env} {σ : St} {H H' : Hp} (k : Kp Γ.O σ F H F' H') (r : Rel K Γ F ρ σ H) : Grow F H F' H' := fun b h => by
  obtain ⟨o, q⟩ := r.trk b h
  exact ⟨k.frz b h, by rw [q, (k.keep b o q (r.nown h)).1]⟩

/-- objects are added, no more -/
structure Ext (F : Fz) (H : Hp) (F' : Fz) (H' : Hp) : Prop where
  same : ∀ b o, H b = some o → H' b = some o
  mono : ∀ b, F b → F' b
  new : ∀ b, F' b → F b ∨ H b = none
  trk : ∀ b, F' b → ∃ o, H' b = some o
theorem Ext.refl {F : Fz} {H : Hp} (t : ∀ b, F b → ∃ o, H b = some o) : Ext F H F H := ⟨fun _ _ h => h, fun _ h => h, fun _ h => .inl h, t⟩
theorem Ext.trans {F F1 F2 : Fz} {H H1 H2 : Hp} (a : Ext F H F1 H1) (b : Ext F1 H1 F2 H2) : Ext F H F2 H2 where
  same := fun c o h => b.same c o (a.same c o h)
  mono := fun c h => b.mono c (a.mono c h)
  new := fun c h => by
    rcases b.new c h with h | h
    · exact a.new c h
    · cases q : H c with
      | none => exact .inr rfl
      | some o => rw [a.same c o q] at h; cases h
  trk := b.trk
theorem Ext.grow {F F' : Fz} {H H' : Hp} (t : ∀ b, F b → ∃ o, H b = some o) (e : Ext F H F' H') : Grow F H F' H' := fun b h => by
  obtain ⟨o, q⟩ := t b h
  exact ⟨e.mono b h, by rw [q, e.same b o q]⟩
/-- the script's data -/
abbrev scr (ds : List D) : D := .dict [(.none, .list ds)]
/-- a new frozen object -/
theorem Ext.alloc {F : Fz} {H : Hp} {p : Addr} {o : HO} (t : ∀ b, F b → ∃ o, H b = some o) (n : H p = none) : Ext F H (fun b => F b ∨ b = p) (upd H p o) where
  same := fun b u h => by rw [upd_ne (ne_of_none h n)]; exact h
  mono := fun b h => .inl h
  new := fun b h => by
    rcases h with h | rfl
    · exact .inl h
    · exact .inr n
  trk := fun b h => by
    by_cases q : b = p
    · subst q; exact ⟨o, upd_same⟩
    · rcases h with h | h
      · rw [upd_ne q]; exact t b h
      · exact absurd h q
/-- a new object of one's own -/
theorem Ext.laid {F : Fz} {H : Hp} {p : Addr} {o : HO} (t : ∀ b, F b → ∃ o, H b = some o) (n : H p = none) : Ext F H F (upd H p o) where
  same := fun b u h => by rw [upd_ne (ne_of_none h n)]; exact h
  mono := fun b h => h
  new := fun b h => .inl h
  trk := fun b h => by
    obtain ⟨u, q⟩ := t b h
    exact ⟨u, by rw [upd_ne (ne_of_none q n)]; exact q⟩
theorem Ext.freeze {F : Fz} {H : Hp} {F' : Fz} {H' : Hp} {p : Addr} {o : HO} (e : Ext F H F' H') (h : H' p = some o) (n : H p = none) : Ext F H (fun b => F' b ∨ b = p) H' where
  same := e.same
  mono := fun b h => .inl (e.mono b h)
  new := fun b h => by
    rcases h with h | rfl
    · exact e.new b h
    · exact .inr n
  trk := fun b h' => by
    rcases h' with h' | rfl
    · exact e.trk b h'
    · exact ⟨o, h⟩

section
variable {K : PySem.W.Frag} {Γ : Gm} {F F' : Fz} {H H' : Hp} {ρ : Env} {σ : St}
theorem Rel.h0 (r : Rel K Γ F ρ σ H) {b : Addr} (h : H b = none) : Γ.H0 b = none := by
  cases q : Γ.H0 b with
  | none => rfl
  | some o =>
    by_cases hp : ∃ i, (i, b) ∈ Γ.P
    · obtain ⟨i, hp⟩ := hp
      obtain ⟨ho, ⟨d, hd⟩, hs⟩ := r.pin i b hp
      obtain ⟨a, ha, _, oa, _⟩ := r.own i d hd ho
      rw [hs] at ha
      cases ha
      obtain ⟨u, hu⟩ := oa.some
      rw [hu] at h; cases h
    · rw [r.ext b o q (fun i hi => hp ⟨i, hi⟩)] at h
      cases h
theorem Rel.to (r : Rel K Γ F ρ σ H) (e : Ext F H F' H') : Rel K Γ F' ρ σ H' where
  len := r.len
  trk := e.trk
  val := fun i d h n => by
    obtain ⟨v, h1, h2⟩ := r.val i d h n
    exact ⟨v, h1, h2.grow (e.grow r.trk)⟩
  own := fun i d h n => by
    obtain ⟨a, h1, h2, h3, h4⟩ := r.own i d h n
    obtain ⟨o, q⟩ := h3.some
    refine ⟨a, h1, fun z => ?_, h3.grow (e.grow r.trk) (by rw [q, e.same a o q]), h4⟩
    rcases e.new a z with z | z
    · exact h2 z
    · rw [q] at z; cases z
  inj := r.inj
  pin := r.pin
  ext := fun b o h n => e.same b o (r.ext b o h n)
  fro := fun b h => by
    rcases e.new b h with h | h
    · exact r.fro b h
    · exact .inr (r.h0 h)
  frm := fun b h => e.mono b (r.frm b h)
  dom := r.dom
theorem Ext.kp {O : List Nat} (e : Ext F H F' H') : Kp O σ F H F' H' := ⟨e.mono, fun b o h _ => ⟨e.same b o h, fun z => by
  rcases e.new b z with z | z
  · exact z
  · rw [h] at z; cases z⟩⟩
/-- a slot's name takes a value that is data -/
theorem Rel.setD (r : Rel K Γ F ρ σ H) {i : Nat} {v : V} {d : D} (q : Dq K F H v d) (hp : ∀ a, (i, a) ∉ Γ.P) : Rel K { Γ with O := Γ.O.filter (fun j => decide (j ≠ i)) } F (ρ.set i (some d)) (σ.set i (some v)) H := by
  have mo : ∀ {j : Nat}, j ∈ Γ.O.filter (fun j => decide (j ≠ i)) ↔ j ∈ Γ.O ∧ j ≠ i := by
    intro j; rw [List.mem_filter, decide_eq_true_eq]
  refine ⟨by rw [List.length_set, List.length_set]; exact r.len, r.trk, fun j e h n => ?_, fun j e h n => ?_, fun j k a e e' hj hk h1 h2 h3 h4 => ?_, fun j a h => ?_, r.ext, r.fro, r.frm, fun j hj w hs => ?_⟩
  · by_cases c : i = j
    · subst c
      have hl : i < ρ.length := by
        have := List.getElem?_eq_some_iff.mp h
        obtain ⟨w, _⟩ := this
        rw [List.length_set] at w; exact w
      rw [List.getElem?_set_self hl] at h
      cases h
      exact ⟨v, by rw [List.getElem?_set_self (by rw [← r.len]; exact hl)], q⟩
    · rw [List.getElem?_set_ne c] at h ⊢
      exact r.val j e h (fun z => n (mo.mpr ⟨z, fun w => c w.symm⟩))
  · obtain ⟨n1, n2⟩ := mo.mp n
    rw [List.getElem?_set_ne (fun w => n2 w.symm)] at h ⊢
    exact r.own j e h n1
  · obtain ⟨n1, n2⟩ := mo.mp hj
    obtain ⟨m1, m2⟩ := mo.mp hk
    rw [List.getElem?_set_ne (fun w => n2 w.symm)] at h1 h3
    rw [List.getElem?_set_ne (fun w => m2 w.symm)] at h2 h4
    exact r.inj j k a e e' n1 m1 h1 h2 h3 h4
  · obtain ⟨h1, h2, h3⟩ := r.pin j a h
    have c : j ≠ i := fun z => hp a (z ▸ h)
    refine ⟨mo.mpr ⟨h1, c⟩, ?_, ?_⟩
    · rw [List.getElem?_set_ne (fun w => c w.symm)]; exact h2
    · rw [List.getElem?_set_ne (fun w => c w.symm)]; exact h3
  · obtain ⟨n1, n2⟩ := mo.mp hj
    rw [List.getElem?_set_ne (fun w => n2 w.symm)] at hs ⊢
    exact r.dom j n1 w hs
/-- a slot's name takes a new object of its own -/
theorem Rel.setO (r : Rel K Γ F ρ σ H) {i : Nat} {a : Addr} {d : D} (q : OwnAt K F H a d) (nf : ¬ F a) (n0 : Γ.H0 a = none) (nu : ¬ Own Γ.O σ a) (hp : ∀ a, (i, a) ∉ Γ.P) :
    Rel K { Γ with O := i :: Γ.O } F (ρ.set i (some d)) (σ.set i (some (.ref a))) H := by
  refine ⟨by rw [List.length_set, List.length_set]; exact r.len, r.trk, fun j e h n => ?_, fun j e h n => ?_, fun j k b e e' hj hk h1 h2 h3 h4 => ?_, fun j a h => ?_, r.ext, r.fro, r.frm, fun j hj w hs => ?_⟩
  · have c : i ≠ j := fun z => n (by rw [z]; exact List.mem_cons_self)
    rw [List.getElem?_set_ne c] at h ⊢
    exact r.val j e h (fun z => n (List.mem_cons_of_mem _ z))
  · by_cases c : i = j
    · subst c
      have hl : i < ρ.length := by
        obtain ⟨w, _⟩ := List.getElem?_eq_some_iff.mp h
        rw [List.length_set] at w; exact w
      rw [List.getElem?_set_self hl] at h
      cases h
      exact ⟨a, by rw [List.getElem?_set_self (by rw [← r.len]; exact hl)], nf, q, .inl n0⟩
    · rw [List.getElem?_set_ne c] at h ⊢
      exact r.own j e h (by
        rcases List.mem_cons.mp n with z | z
        · exact absurd z.symm c
        · exact z)
  · by_cases c : i = j
    · by_cases c' : i = k
      · exact c.symm.trans c'
      · subst c
        rw [List.getElem?_set_ne c'] at h2 h4
        have hl : i < σ.length := by
          obtain ⟨w, _⟩ := List.getElem?_eq_some_iff.mp h3
          rw [List.length_set] at w; exact w
        rw [List.getElem?_set_self hl] at h3
        cases h3
        exact absurd ⟨k, (by
          rcases List.mem_cons.mp hk with z | z
          · exact absurd z.symm c'
          · exact z), h4⟩ nu
    · by_cases c' : i = k
      · subst c'
        rw [List.getElem?_set_ne c] at h1 h3
        have hl : i < σ.length := by
          obtain ⟨w, _⟩ := List.getElem?_eq_some_iff.mp h4
          rw [List.length_set] at w; exact w
        rw [List.getElem?_set_self hl] at h4
        cases h4
        exact absurd ⟨j, (by
          rcases List.mem_cons.mp hj with z | z
          · exact absurd z.symm c
          · exact z), h3⟩ nu
      · rw [List.getElem?_set_ne c] at h1 h3
        rw [List.getElem?_set_ne c'] at h2 h4
        refine r.inj j k b e e' ?_ ?_ h1 h2 h3 h4
        · rcases List.mem_cons.mp hj with z | z
          · exact absurd z.symm c
          · exact z
        · rcases List.mem_cons.mp hk with z | z
          · exact absurd z.symm c'
          · exact z
  · obtain ⟨h1, h2, h3⟩ := r.pin j a h
    have c : i ≠ j := fun z => hp a (z ▸ h)
    refine ⟨List.mem_cons_of_mem _ h1, ?_, ?_⟩
    · rw [List.getElem?_set_ne c]; exact h2
    · rw [List.getElem?_set_ne c]; exact h3
  · by_cases c : i = j
    · subst c
      have hl : i < σ.length := by
        obtain ⟨w, _⟩ := List.getElem?_eq_some_iff.mp hs
        rw [List.length_set] at w; exact w
      exact ⟨d, by rw [List.getElem?_set_self (by rw [r.len]; exact hl)]⟩
    · rw [List.getElem?_set_ne c] at hs ⊢
      refine r.dom j ?_ w hs
      rcases List.mem_cons.mp hj with z | z
      · exact absurd z.symm c
      · exact z
end
end VL
end

section
set_option Elab.async false
set_option linter.all false
set_option maxRecDepth 100000
set_option maxHeartbeats 4000000
namespace VL
open PySem PySem.Spec PyProof.Rows L2
set_option autoImplicit false

/-! ### readings by values -/
abbrev M (α : Type) := Env → R (α × Env)
def M.pure {α : Type} (a : α) : M α := fun ρ => .ok (a, ρ)
def M.bind {α β : Type} (m : M α) (f : α → M β) : M β := fun ρ => (m ρ).bind fun p => f p.1 p.2
def M.of {α : Type} (o : Option α) : M α := fun ρ => (R.of o).bind fun a => .ok (a, ρ)
abbrev Wish := St → XK
/-- the classes of the errors: place of the class, its field names -/
structure Eb where
  cls : Nat → Addr
  fld : Nat → List Str
def ExcAt (K : PySem.W.Frag) (B : Eb) (F : Fz) (H : Hp) (c : Nat) (fs : List D) (od : Option Addr) : Prop :=
  (fs = [] ∧ B.fld c = [] ∧ od = none) ∨ ∃ d vs, od = some d ∧ H d = some (.xd ((B.fld c).zip vs)) ∧ DqAll K F H vs fs ∧ (B.fld c).length = fs.length

def Res {α : Type} (r : R (α × Env)) (kok : α → Env → Prop) (kex : Nat → List D → Env → Prop) : Prop :=
  match r with
  | .ok p => kok p.1 p.2
  | .exc c fs ρ => kex c fs ρ
  | .stuck => False
theorem Res.bind {α β : Type} {m : M α} {f : α → M β} {ρ : Env} {kok : β → Env → Prop} {kex : Nat → List D → Env → Prop} (h : Res (m.bind f ρ) kok kex) : Res (m ρ) (fun a ρ1 => Res (f a ρ1) kok kex) kex := by
  unfold M.bind at h
  cases e : m ρ with
  | ok p => rw [e] at h; exact h
  | exc c fs ρ' => rw [e] at h; exact h
  | stuck => rw [e] at h; exact h
theorem Res.mono {α : Type} {r : R (α × Env)} {kok kok' : α → Env → Prop} {kex kex' : Nat → List D → Env → Prop} (h : Res r kok kex) (h1 : ∀ a ρ, kok a ρ → kok' a ρ) (h2 : ∀ c fs ρ, kex c fs ρ → kex' c fs ρ) : Res r kok' kex' := by
  cases r with
  | ok p => exact h1 _ _ h
  | exc c fs ρ' => exact h2 _ _ _ h
  | stuck => exact h
theorem Res.of {α : Type} {o : Option α} {ρ : Env} {kok : α → Env → Prop} {kex : Nat → List D → Env → Prop} (h : Res (M.of o ρ) kok kex) : ∃ a, o = some a ∧ kok a ρ := by
  cases o with
  | none => exact h.elim
  | some a => exact ⟨a, rfl, h⟩

/-- what is wanted of an exception, in the state at hand -/
def Kex (K : PySem.W.Frag) (B : Eb) (Γ : Gm) (E : Wish) (σ : St) (F : Fz) (H : Hp) (c : Nat) (fs : List D) (ρ' : Env) : Prop :=
  ∀ F' H' od, Rel K Γ F' ρ' σ H' → Kp Γ.O σ F H F' H' → ExcAt K B F' H' c fs od → E σ (.ref (B.cls c)) od H'
theorem Kex.grow {K : PySem.W.Frag} {B : Eb} {Γ : Gm} {E : Wish} {σ : St} {F F1 : Fz} {H H1 : Hp} {c : Nat} {fs : List D} {ρ' : Env} (h : Kex K B Γ E σ F H c fs ρ') (g : Kp Γ.O σ F H F1 H1) : Kex K B Γ E σ F1 H1 c fs ρ' :=
  fun F' H' od r g' x => h F' H' od r (g.trans g') x

/-- a reading whose answer is α, held as T says -/
def tG {α β : Type} (T : Hp → Fz → Hp → β → α → Prop) (K : PySem.W.Frag) (B : Eb) (Γ : Gm) (E : Wish) (m : M α) : St → Hp → (β → Hp → Prop) → Prop := fun σ H Q => ∃ F ρ, Rel K Γ F ρ σ H ∧
  Res (m ρ) (fun d ρ' => ∀ v H' F', Rel K Γ F' ρ' σ H' → Kp Γ.O σ F H F' H' → T H F' H' v d → Q v H') (Kex K B Γ E σ F H)
def tV (K : PySem.W.Frag) (B : Eb) (Γ : Gm) (E : Wish) (m : M D) : TE := tG (fun _ => Dq K) K B Γ E m
def tVs (K : PySem.W.Frag) (B : Eb) (Γ : Gm) (E : Wish) (m : M (List D)) : TA := tG (fun _ => DqAll K) K B Γ E m
def tVt (K : PySem.W.Frag) (B : Eb) (Γ : Gm) (E : Wish) (m : M Bool) : TT := tG (fun _ _ _ b c => b = c) K B Γ E m
/-- a new object of one's own -/
def Fresh (K : PySem.W.Frag) (Hs : Hp) (F : Fz) (H : Hp) (v : V) (d : D) : Prop := ∃ a, v = .ref a ∧ OwnAt K F H a d ∧ ¬ F a ∧ Hs a = none
def tO (K : PySem.W.Frag) (B : Eb) (Γ : Gm) (E : Wish) (m : M D) : TE := tG (Fresh K) K B Γ E m

def VE (X : Cx) (B : Eb) (Γ : Gm) (E : Wish) (e : Expr) (m : M D) : Prop := PE X e (tV X.K B Γ E m)
def VO (X : Cx) (B : Eb) (Γ : Gm) (E : Wish) (e : Expr) (m : M D) : Prop := PE X e (tO X.K B Γ E m)
def VT (X : Cx) (B : Eb) (Γ : Gm) (E : Wish) (e : Expr) (m : M Bool) : Prop := PT X e (tVt X.K B Γ E m)
def VW (X : Cx) (B : Eb) (Γ : Gm) (E : Wish) (e : Expr) (m : M Bool) : Prop := PW X e (tVt X.K B Γ E m)
structure VA (X : Cx) (B : Eb) (Γ : Gm) (E : Wish) (es : List Expr) (m : M (List D)) : Prop where
  pa : PA X es (tVs X.K B Γ E m)
  len : ∀ ρ ds ρ', m ρ = .ok (ds, ρ') → ds.length = es.length

theorem PE.imp {X : Cx} {e : Expr} {t t' : TE} (h : PE X e t) (i : ∀ σ H Q, t' σ H Q → t σ H Q) : PE X e t' := ⟨fun pins s σ H Q I q => h.run pins s σ H Q I (i σ H Q q)⟩
theorem PT.imp {X : Cx} {e : Expr} {t t' : TT} (h : PT X e t) (i : ∀ σ H Q, t' σ H Q → t σ H Q) : PT X e t' := ⟨fun pins s σ H Q I q => h.run pins s σ H Q I (i σ H Q q)⟩
theorem PW.imp {X : Cx} {e : Expr} {t t' : TT} (h : PW X e t) (i : ∀ σ H Q, t' σ H Q → t σ H Q) : PW X e t' := ⟨fun w pins s σ H Q I q => h.run w pins s σ H Q I (i σ H Q q)⟩
theorem PA.imp {X : Cx} {es : List Expr} {t t' : TA} (h : PA X es t) (i : ∀ σ H Q, t' σ H Q → t σ H Q) : PA X es t' := ⟨fun p pins s σ H Q I q => h.run p pins s σ H Q I (i σ H Q q)⟩
theorem PE.or {X : Cx} {e : Expr} {t t' : TE} (h : PE X e t) (h' : PE X e t') : PE X e (fun σ H Q => t σ H Q ∨ t' σ H Q) := ⟨fun pins s σ H Q I q => q.elim (h.run pins s σ H Q I) (h'.run pins s σ H Q I)⟩
theorem OpR.imp {X : Cx} {f : Value → Value → Sem Value} {r r' : R2} (h : OpR X f r) (i : ∀ x y H Q, r' x y H Q → r x y H Q) : OpR X f r' := fun pins s σ H x y v u Q I rx ry q => h pins s σ H x y v u Q I rx ry (i x y H Q q)
theorem OpR.or {X : Cx} {f : Value → Value → Sem Value} {r r' : R2} (h : OpR X f r) (h' : OpR X f r') : OpR X f (fun x y H Q => r x y H Q ∨ r' x y H Q) := fun pins s σ H x y v u Q I rx ry q =>
  q.elim (h pins s σ H x y v u Q I rx ry) (h' pins s σ H x y v u Q I rx ry)
theorem CallR.imp {X : Cx} {f : Value} {r r' : List V → Hp → VK → Prop} (h : CallR X f r) (i : ∀ x H Q, r' x H Q → r x H Q) : CallR X f r' := fun pins s σ H x u Q I rx q => h pins s σ H x u Q I rx (i x H Q q)
theorem CallR.or {X : Cx} {f : Value} {r r' : List V → Hp → VK → Prop} (h : CallR X f r) (h' : CallR X f r') : CallR X f (fun x H Q => r x H Q ∨ r' x H Q) := fun pins s σ H x u Q I rx q =>
  q.elim (h pins s σ H x u Q I rx) (h' pins s σ H x u Q I rx)

/-! ### operations by values: they add objects, no more -/
abbrev Trk (F : Fz) (H : Hp) : Prop := ∀ b, F b → ∃ o, H b = some o
/-- Q holds behind whatever adds objects and answers d -/
def Gives (K : PySem.W.Frag) (F : Fz) (H : Hp) (d : D) (Q : VK) : Prop := ∀ v H' F', Ext F H F' H' → Dq K F' H' v d → Q v H'
def rV (K : PySem.W.Frag) (g : D → D → Option D) : R2 := fun x y H Q => ∃ F dx dy d, Trk F H ∧ Dq K F H x dx ∧ Dq K F H y dy ∧ g dx dy = some d ∧ Gives K F H d Q
def rVs (K : PySem.W.Frag) (g : List D → Option D) : List V → Hp → VK → Prop := fun xs H Q => ∃ F ds d, Trk F H ∧ DqAll K F H xs ds ∧ g ds = some d ∧ Gives K F H d Q

section
variable {K : PySem.W.Frag} {F F' : Fz} {H H' : Hp} {d : D} {Q : VK}
theorem Gives.here (h : Gives K F H d Q) (t : Trk F H) {v : V} (q : Dq K F H v d) : Q v H := h v H F (.refl t) q
theorem Gives.lst {ds : List D} {vs : List V} {p : Addr} (h : Gives K F H (.list ds) Q) (t : Trk F H) (q : DqAll K F H vs ds) (n : H p = none) : Q (.ref p) (upd H p (.lst vs)) :=
  h _ _ _ (Ext.alloc t n) (.lst (.inr rfl) upd_same (q.grow ((Ext.alloc t n).grow t)))
theorem Gives.tup {ds : List D} {vs : List V} {p : Addr} (h : Gives K F H (.tuple ds) Q) (t : Trk F H) (q : DqAll K F H vs ds) (n : H p = none) : Q (.ref p) (upd H p (.tup vs)) :=
  h _ _ _ (Ext.alloc t n) (.tup (.inr rfl) upd_same (q.grow ((Ext.alloc t n).grow t)))
end

section
variable {X : Cx} {B : Eb} {Γ : Gm} {E : Wish} {a b : Expr} {ma mb : M D} {pos : Pos}
def m1 (g : D → Option D) (ma : M D) : M D := ma.bind fun x => M.of (g x)
def m2 (g : D → D → Option D) (ma mb : M D) : M D := ma.bind fun x => mb.bind fun y => M.of (g x y)

theorem two {g : D → D → Option D} {σ : St} {H : Hp} {Q : VK} (h : tV X.K B Γ E (m2 g ma mb) σ H Q) : tOp (rV X.K g) (tV X.K B Γ E ma) (tV X.K B Γ E mb) σ H Q := by
  obtain ⟨F, ρ, r, h⟩ := h
  refine ⟨F, ρ, r, (Res.bind h).mono (fun x ρ1 h1 v1 H1 F1 r1 g1 q1 => ⟨F1, ρ1, r1, (Res.bind h1).mono (fun y ρ2 h2 v2 H2 F2 r2 g2 q2 => ?_) (fun c fs ρ' k => k.grow g1)⟩) (fun _ _ _ k => k)⟩
  obtain ⟨d, e, h3⟩ := Res.of h2
  exact ⟨F2, x, y, d, r2.trk, q1.grow (g2.g r1), q2, e, fun v H' F' ex q => h3 v H' F' (r2.to ex) ((g1.trans g2).trans ex.kp) q⟩
theorem ve_op {op : Operator} {g : D → D → Option D} (ho : OpR X (binaryOp op) (rV X.K g)) (ha : VE X B Γ E a ma) (hb : VE X B Γ E b mb) : VE X B Γ E (.BinOp a op b pos) (m2 g ma mb) :=
  PE.imp (pe_op ho ha hb) fun _ _ _ h => two h
theorem ve_cmp {op : CmpOp} {g : D → D → Option D} (ho : OpR X (compareOp op) (rV X.K g)) (ha : VE X B Γ E a ma) (hb : VE X B Γ E b mb) (hm : behindInMarks op b = false) : VE X B Γ E (.Compare a [op] [b] pos) (m2 g ma mb) :=
  PE.imp (pe_cmpR ho ha hb hm) fun _ _ _ h => two h
theorem ve_ix {g : D → D → Option D} (ho : IxR X (rV X.K g)) (ha : VE X B Γ E a ma) (hb : VE X B Γ E b mb) (hs : PlainIx b) : VE X B Γ E (.Subscript a b pos) (m2 g ma mb) :=
  PE.imp (pe_ix ho ha hb hs) fun _ _ _ h => two h

/-! ### names, constants -/
def mVar (i : Nat) : M D := fun ρ => match ρ[i]? with
  | some (some d) => .ok (d, ρ)
  | _ => .stuck
theorem ve_var (i : Nat) {x : Str} (hi : i ∉ Γ.O) (hN : X.N[i]? = some x) (hv : Vis X.env.scope x) (hd : (x == ("__debug__" : Str)) = false := by decide) (hcd : (x == ("__classdict__" : Str)) = false := by decide) : VE X B Γ E (.Name x pos) (mVar i) :=
  PE.imp (pe_var hN hv hd hcd) fun σ H Q ⟨F, ρ, r, h⟩ => by
    unfold mVar at h
    cases e : ρ[i]? with
    | none => rw [e] at h; exact h.elim
    | some o =>
      cases o with
      | none => rw [e] at h; exact h.elim
      | some d =>
        rw [e] at h
        obtain ⟨v, h1, h2⟩ := r.val i d e hi
        exact ⟨v, h1, h v H F r .refl h2⟩
def mC (d : D) : M D := fun ρ => .ok (d, ρ)
theorem ve_c {e : Expr} {v : V} {d : D} (h : PE X e (tC v)) (q : ∀ F H, Dq X.K F H v d) : VE X B Γ E e (mC d) :=
  PE.imp h fun σ H Q ⟨F, ρ, r, h⟩ => h v H F r .refl (q F H)
theorem ve_int {i : Int} {j} : VE X B Γ E (.Constant (.int i) j pos) (mC (.int i)) := ve_c pe_int fun _ _ => .int i
theorem ve_bl {i : Bool} {j} : VE X B Γ E (.Constant (.bool i) j pos) (mC (.bool i)) := ve_c pe_bl fun _ _ => .bl i
theorem ve_non {j} : VE X B Γ E (.Constant .none j pos) (mC .none) := ve_c pe_non fun _ _ => .non
theorem ve_str {i : Str} {j} : VE X B Γ E (.Constant (.str i) j pos) (mC (.str i)) := ve_c pe_str fun _ _ => .str i
theorem ve_gstr {x : Str} {z : Str} {t : Tok} (hg : Gl X x) (hm : X.mg x = some (.str z t)) (hd : (x == ("__debug__" : Str)) = false := by decide) : VE X B Γ E (.Name x pos) (mC (.str z)) := ve_c (v := .str z) (pe_glob hg hm ⟨t, rfl⟩ hd) fun _ _ => .str z
theorem ve_gint {x : Str} {z : Int} {t : Tok} (hg : Gl X x) (hm : X.mg x = some (.int z t)) (hd : (x == ("__debug__" : Str)) = false := by decide) : VE X B Γ E (.Name x pos) (mC (.int z)) := ve_c (v := .int z) (pe_glob hg hm ⟨t, rfl⟩ hd) fun _ _ => .int z

/-! ### truth -/
def dTruth : D → Option Bool
  | .none => some false
  | .bool b => some b
  | .int i => some (i != 0)
  | .str s => if s.length ≤ sizeLine then some ((s.length : Int) != 0) else none
  | .list xs => some (!xs.isEmpty)
  | .tuple xs => some (!xs.isEmpty)
  | .dict _ => none
def mTruth (m : M D) : M Bool := m.bind fun d => M.of (dTruth d)
theorem dqall_empty {K : PySem.W.Frag} {F : Fz} {H : Hp} {xs : List V} {ds : List D} (q : DqAll K F H xs ds) : xs.isEmpty = ds.isEmpty := by cases q <;> rfl
theorem dq_sqL {K : PySem.W.Frag} {F : Fz} {H : Hp} {v : V} {ds : List D} (q : Dq K F H v (.list ds)) : ∃ a xs, v = .ref a ∧ SqL K H a xs ∧ DqAll K F H xs ds := by
  cases q with
  | lst f r q => exact ⟨_, _, rfl, .inl (.inl r), q⟩
theorem dq_sqT {K : PySem.W.Frag} {F : Fz} {H : Hp} {v : V} {ds : List D} (q : Dq K F H v (.tuple ds)) : ∃ a xs, v = .ref a ∧ SqT K H a xs ∧ DqAll K F H xs ds := by
  cases q with
  | tup f r q => exact ⟨_, _, rfl, .inl (.inl r), q⟩
  | tupK w q => exact ⟨_, _, rfl, .inr w, q⟩
theorem dq_int {K : PySem.W.Frag} {F : Fz} {H : Hp} {v : V} {i : Int} (q : Dq K F H v (.int i)) : v = .int i := by cases q; rfl
theorem dq_bl {K : PySem.W.Frag} {F : Fz} {H : Hp} {v : V} {i : Bool} (q : Dq K F H v (.bool i)) : v = .bl i := by cases q; rfl
theorem dq_str {K : PySem.W.Frag} {F : Fz} {H : Hp} {v : V} {i : Str} (q : Dq K F H v (.str i)) : v = .str i := by cases q; rfl
theorem dq_non {K : PySem.W.Frag} {F : Fz} {H : Hp} {v : V} (q : Dq K F H v .none) : v = .non := by cases q; rfl
theorem dq_tru {K : PySem.W.Frag} {F : Fz} {H : Hp} {v : V} {d : D} {k : Bool} (q : Dq K F H v d) (e : dTruth d = some k) : TruV K v H k := by
  cases q with
  | non => exact (Option.some.inj e).symm
  | bl b => exact (Option.some.inj e).symm
  | int i => exact (Option.some.inj e).symm
  | str x =>
    by_cases h : x.length ≤ sizeLine
    · have e' : (if x.length ≤ sizeLine then some ((x.length : Int) != 0) else none) = some k := e
      rw [if_pos h] at e'
      exact ⟨h, (Option.some.inj e').symm⟩
    · have e' : (if x.length ≤ sizeLine then some ((x.length : Int) != 0) else none) = some k := e
      rw [if_neg h] at e'
      cases e'
  | lst f r q => exact .inl ⟨_, .inl (.inl r), by rw [dqall_empty q]; exact (Option.some.inj e).symm⟩
  | scr w q => cases e
  | tup f r q => exact .inr (.inl ⟨_, .inl (.inl r), by rw [dqall_empty q]; exact (Option.some.inj e).symm⟩)
  | tupK w q => exact .inr (.inl ⟨_, .inr w, by rw [dqall_empty q]; exact (Option.some.inj e).symm⟩)
  | dicK _ _ _ => cases e
  | dicT _ _ _ => cases e
theorem vt_of (h : VE X B Γ E a ma) (he : ∀ whole, isTrue a X.env whole = (do let v ← whole; standAt a.pos; holding [v] (truthy v)) := by intro _; rfl) : VT X B Γ E a (mTruth ma) :=
  PT.imp (pt_truth h he) fun σ H Q ⟨F, ρ, r, h⟩ => ⟨F, ρ, r, (Res.bind h).mono (fun d ρ1 h1 v H1 F1 r1 g1 q1 => by
    obtain ⟨k, e, h2⟩ := Res.of h1
    exact ⟨k, dq_tru q1 e, h2 k H1 F1 r1 g1 rfl⟩) (fun _ _ _ k => k)⟩

/-- a comparison as a test -/
theorem vt_cmp {op : CmpOp} {g : D → D → Option D} (ho : OpR X (compareOp op) (rV X.K fun x y => (g x y))) (hg : ∀ x y d, g x y = some d → ∃ c, d = .bool c) (ha : VE X B Γ E a ma) (hb : VE X B Γ E b mb) (hm : behindInMarks op b = false) :
    VT X B Γ E (.Compare a [op] [b] pos) (mTruth (m2 g ma mb)) :=
  PT.imp (pt_cmpR ho ha hb hm) fun σ H Q ⟨F, ρ, r, h⟩ => by
    refine ⟨F, ρ, r, (Res.bind (Res.bind h)).mono (fun x ρ1 h1 v1 H1 F1 r1 g1 q1 => ⟨F1, ρ1, r1, (Res.bind h1).mono (fun y ρ2 h2 v2 H2 F2 r2 g2 q2 => ?_) (fun c fs ρ' k => k.grow g1)⟩) (fun _ _ _ k => k)⟩
    obtain ⟨d, e, h3⟩ := Res.of h2
    obtain ⟨k, e2, h4⟩ := Res.of h3
    obtain ⟨c, rfl⟩ := hg _ _ _ e
    refine ⟨F2, x, y, .bool c, r2.trk, q1.grow (g2.g r1), q2, e, fun v H' F' ex q => ?_⟩
    have ek : c = k := Option.some.inj e2
    subst ek
    exact ⟨c, dq_bl q, h4 c H' F' (r2.to ex) ((g1.trans g2).trans ex.kp) rfl⟩

/-! ### and, or, not as tests -/
def mAnd (a b : M Bool) : M Bool := a.bind fun x => if x = true then b else M.pure false
def mOr (a b : M Bool) : M Bool := a.bind fun x => if x = true then M.pure true else b
def mNot (a : M Bool) : M Bool := a.bind fun x => M.pure (!x)
variable {ta tb : M Bool} {rest : List Expr}
theorem VW.t (h : VW X B Γ E a ta) : VT X B Γ E a ta := PW.pt h
theorem vw_and1 (h : VT X B Γ E a ta) : VW X B Γ E (.BoolOp .And [a] pos) ta := pw_and1 h
theorem vw_or1 (h : VT X B Γ E a ta) : VW X B Γ E (.BoolOp .Or [a] pos) ta := pw_or1 h
theorem vw_and (ha : VT X B Γ E a ta) (hb : VW X B Γ E (.BoolOp .And (b :: rest) pos) tb) : VW X B Γ E (.BoolOp .And (a :: b :: rest) pos) (mAnd ta tb) :=
  PW.imp (pw_and ha hb) fun σ H Q ⟨F, ρ, r, h⟩ => ⟨F, ρ, r, (Res.bind h).mono (fun x ρ1 h1 v H1 F1 r1 g1 q1 => by
    subst q1
    cases v with
    | true => exact ⟨F1, ρ1, r1, (show Res (tb ρ1) _ _ from h1).mono (fun y ρ2 h2 v2 H2 F2 r2 g2 q2 => h2 v2 H2 F2 r2 (g1.trans g2) q2) (fun _ _ _ k => k.grow g1)⟩
    | false => exact h1 false H1 F1 r1 g1 rfl) (fun _ _ _ k => k)⟩
theorem vw_or (ha : VT X B Γ E a ta) (hb : VW X B Γ E (.BoolOp .Or (b :: rest) pos) tb) : VW X B Γ E (.BoolOp .Or (a :: b :: rest) pos) (mOr ta tb) :=
  PW.imp (pw_or ha hb) fun σ H Q ⟨F, ρ, r, h⟩ => ⟨F, ρ, r, (Res.bind h).mono (fun x ρ1 h1 v H1 F1 r1 g1 q1 => by
    subst q1
    cases v with
    | false => exact ⟨F1, ρ1, r1, (show Res (tb ρ1) _ _ from h1).mono (fun y ρ2 h2 v2 H2 F2 r2 g2 q2 => h2 v2 H2 F2 r2 (g1.trans g2) q2) (fun _ _ _ k => k.grow g1)⟩
    | true => exact h1 true H1 F1 r1 g1 rfl) (fun _ _ _ k => k)⟩
theorem vt_not (ha : VT X B Γ E a ta) : VT X B Γ E (.UnaryOp .Not a pos) (mNot ta) :=
  PT.imp (pt_not ha) fun σ H Q ⟨F, ρ, r, h⟩ => ⟨F, ρ, r, (Res.bind h).mono (fun x ρ1 h1 v H1 F1 r1 g1 q1 => by
    subst q1
    exact h1 _ H1 F1 r1 g1 rfl) (fun _ _ _ k => k)⟩
/-! ### and, or, not as values, a conditional expression -/
def mAndV (a b : M D) : M D := a.bind fun x => (M.of (dTruth x)).bind fun c => if c = true then b else M.pure x
def mOrV (a b : M D) : M D := a.bind fun x => (M.of (dTruth x)).bind fun c => if c = true then M.pure x else b
def mNotV (a : M D) : M D := a.bind fun x => (M.of (dTruth x)).bind fun c => M.pure (.bool (!c))
def mIf (c : M Bool) (a b : M D) : M D := c.bind fun x => if x = true then a else b
theorem ve_one {op} (h : VE X B Γ E a ma) : VE X B Γ E (.BoolOp op [a] pos) ma := pe_one h
theorem ve_and (ha : VE X B Γ E a ma) (hb : VE X B Γ E (.BoolOp .And (b :: rest) pos) mb) : VE X B Γ E (.BoolOp .And (a :: b :: rest) pos) (mAndV ma mb) :=
  PE.imp (pe_andT ha hb) fun σ H Q ⟨F, ρ, r, h⟩ => ⟨F, ρ, r, (Res.bind h).mono (fun x ρ1 h1 v H1 F1 r1 g1 q1 => by
    obtain ⟨k, e, h2⟩ := Res.of (Res.bind h1)
    refine ⟨k, dq_tru q1 e, ?_⟩
    cases k with
    | true => exact ⟨F1, ρ1, r1, (show Res (mb ρ1) _ _ from h2).mono (fun y ρ2 h2 v2 H2 F2 r2 g2 q2 => h2 v2 H2 F2 r2 (g1.trans g2) q2) (fun _ _ _ k => k.grow g1)⟩
    | false => exact h2 v H1 F1 r1 g1 q1) (fun _ _ _ k => k)⟩
theorem ve_or (ha : VE X B Γ E a ma) (hb : VE X B Γ E (.BoolOp .Or (b :: rest) pos) mb) : VE X B Γ E (.BoolOp .Or (a :: b :: rest) pos) (mOrV ma mb) :=
  PE.imp (pe_orT ha hb) fun σ H Q ⟨F, ρ, r, h⟩ => ⟨F, ρ, r, (Res.bind h).mono (fun x ρ1 h1 v H1 F1 r1 g1 q1 => by
    obtain ⟨k, e, h2⟩ := Res.of (Res.bind h1)
    refine ⟨k, dq_tru q1 e, ?_⟩
    cases k with
    | false => exact ⟨F1, ρ1, r1, (show Res (mb ρ1) _ _ from h2).mono (fun y ρ2 h2 v2 H2 F2 r2 g2 q2 => h2 v2 H2 F2 r2 (g1.trans g2) q2) (fun _ _ _ k => k.grow g1)⟩
    | true => exact h2 v H1 F1 r1 g1 q1) (fun _ _ _ k => k)⟩
theorem ve_not (ha : VE X B Γ E a ma) : VE X B Γ E (.UnaryOp .Not a pos) (mNotV ma) :=
  PE.imp (pe_notT ha) fun σ H Q ⟨F, ρ, r, h⟩ => ⟨F, ρ, r, (Res.bind h).mono (fun x ρ1 h1 v H1 F1 r1 g1 q1 => by
    obtain ⟨k, e, h2⟩ := Res.of (Res.bind h1)
    exact ⟨k, dq_tru q1 e, h2 _ H1 F1 r1 g1 (.bl _)⟩) (fun _ _ _ k => k)⟩
theorem ve_if {c : Expr} (hc : VT X B Γ E c ta) (ha : VE X B Γ E a ma) (hb : VE X B Γ E b mb) : VE X B Γ E (.IfExp c a b pos) (mIf ta ma mb) :=
  PE.imp (pe_ifExp hc ha hb) fun σ H Q ⟨F, ρ, r, h⟩ => ⟨F, ρ, r, (Res.bind h).mono (fun x ρ1 h1 v H1 F1 r1 g1 q1 => by
    subst q1
    cases v with
    | true => exact ⟨F1, ρ1, r1, (show Res (ma ρ1) _ _ from h1).mono (fun y ρ2 h2 v2 H2 F2 r2 g2 q2 => h2 v2 H2 F2 r2 (g1.trans g2) q2) (fun _ _ _ k => k.grow g1)⟩
    | false => exact ⟨F1, ρ1, r1, (show Res (mb ρ1) _ _ from h1).mono (fun y ρ2 h2 v2 H2 F2 r2 g2 q2 => h2 v2 H2 F2 r2 (g1.trans g2) q2) (fun _ _ _ k => k.grow g1)⟩) (fun _ _ _ k => k)⟩

/-! ### argument lists, displays -/
def mNil : M (List D) := M.pure []
def mCons (a : M D) (r : M (List D)) : M (List D) := a.bind fun x => r.bind fun xs => M.pure (x :: xs)
variable {e : Expr} {es : List Expr} {ms : M (List D)}
theorem va_nil : VA X B Γ E [] mNil := ⟨PA.imp pa_nil fun σ H Q ⟨F, ρ, r, h⟩ => h [] H F r .refl .nil, fun ρ ds ρ' h => by cases h; rfl⟩
theorem va_cons (ha : VE X B Γ E e ma) (hr : VA X B Γ E es ms) (hs : starEach (e :: es) X.env = (false, eval e X.env) :: starEach es X.env := by rfl) : VA X B Γ E (e :: es) (mCons ma ms) := by
  refine ⟨PA.imp (pa_cons ha hr.pa hs) fun σ H Q ⟨F, ρ, r, h⟩ => ?_, fun ρ ds ρ' h => ?_⟩
  · refine ⟨F, ρ, r, (Res.bind h).mono (fun x ρ1 h1 v1 H1 F1 r1 g1 q1 => ⟨F1, ρ1, r1, (Res.bind h1).mono (fun y ρ2 h2 v2 H2 F2 r2 g2 q2 => h2 _ H2 F2 r2 (g1.trans g2) (.cons (q1.grow (g2.g r1)) q2)) (fun _ _ _ k => k.grow g1)⟩) (fun _ _ _ k => k)⟩
  · unfold mCons M.bind at h
    cases e1 : ma ρ with
    | stuck => rw [e1] at h; cases h
    | exc c fs ρ1 => rw [e1] at h; cases h
    | ok p =>
      rw [e1] at h
      cases e2 : ms p.2 with
      | stuck => simp only [R.bind, e2] at h; cases h
      | exc c fs ρ1 => simp only [R.bind, e2] at h; cases h
      | ok q =>
        simp only [R.bind, e2, M.pure] at h
        cases h
        show q.1.length + 1 = es.length + 1
        rw [hr.len p.2 q.1 q.2 e2]
def mTup (m : M (List D)) : M D := m.bind fun ds => M.pure (.tuple ds)
def mLst (m : M (List D)) : M D := m.bind fun ds => M.pure (.list ds)
theorem res_len {m : M (List D)} {n : Nat} (hl : ∀ ρ ds ρ', m ρ = .ok (ds, ρ') → ds.length = n) {ρ : Env} {kok kok' : List D → Env → Prop} {kex kex' : Nat → List D → Env → Prop} (h : Res (m ρ) kok kex) (h1 : ∀ a ρ, a.length = n → kok a ρ → kok' a ρ) (h2 : ∀ c fs ρ, kex c fs ρ → kex' c fs ρ) : Res (m ρ) kok' kex' := by
  cases e : m ρ with
  | ok p => rw [e] at h; exact h1 _ _ (hl ρ p.1 p.2 e) h
  | exc c fs ρ' => rw [e] at h; exact h2 _ _ _ h
  | stuck => rw [e] at h; exact h
theorem ve_tup {x1} (h : VA X B Γ E es ms) (hl : es.length ≤ sizeLine := by decide) : VE X B Γ E (.Tuple es x1 pos) (mTup ms) :=
  PE.imp (pe_tup h.pa) fun σ H Q ⟨F, ρ, r, hq⟩ => ⟨F, ρ, r, res_len h.len (Res.bind hq) (fun x ρ1 hn h1 v H1 F1 r1 g1 q1 => by
    refine ⟨by rw [q1.length, hn]; exact hl, fun p np => ?_⟩
    have ex := Ext.alloc (o := .tup v) r1.trk np
    exact h1 (.ref p) _ _ (r1.to ex) (g1.trans ex.kp) (.tup (.inr rfl) upd_same (q1.grow (ex.grow r1.trk)))) (fun _ _ _ k => k)⟩
theorem Rel.nf {K : PySem.W.Frag} {F : Fz} {ρ : Env} {σ : St} {H : Hp} {p : Addr} (r : Rel K Γ F ρ σ H) (n : H p = none) : ¬ F p := fun z => by
  obtain ⟨u, hu⟩ := r.trk p z
  rw [n] at hu; cases hu
/-- what is free now was free at the start -/
theorem Kp.none0 {K : PySem.W.Frag} {F F' : Fz} {ρ : Env} {σ : St} {H H' : Hp} {p : Addr} (k : Kp Γ.O σ F H F' H') (r : Rel K Γ F' ρ σ H') (n : H' p = none) : H p = none := by
  cases q : H p with
  | none => rfl
  | some o =>
    rw [(k.keep p o q (r.nownN n)).1] at n
    cases n
theorem vo_lst (h : VA X B Γ E es ms) (hl : es.length ≤ sizeLine := by decide) : VO X B Γ E (.List es pos) (mLst ms) :=
  PE.imp (pe_lst h.pa) fun σ H Q ⟨F, ρ, r, hq⟩ => ⟨F, ρ, r, res_len h.len (Res.bind hq) (fun x ρ1 hn h1 v H1 F1 r1 g1 q1 => by
    refine ⟨by rw [q1.length, hn]; exact hl, fun p np => ?_⟩
    have ex := Ext.laid (o := .lst v) r1.trk np
    exact h1 (.ref p) _ _ (r1.to ex) (g1.trans ex.kp) ⟨p, rfl, .lst upd_same (q1.grow (ex.grow r1.trk)), r1.nf np, g1.none0 r1 np⟩) (fun _ _ _ k => k)⟩
/-- what is one's own is frozen -/
theorem Rel.freeze {K : PySem.W.Frag} {F : Fz} {ρ : Env} {σ : St} {H : Hp} {a : Addr} {o : HO} (r : Rel K Γ F ρ σ H) (h : H a = some o) (h0 : Γ.H0 a = none) (nu : ¬ Own Γ.O σ a) :
    Rel K Γ (fun b => F b ∨ b = a) ρ σ H := by
  have g : Grow F H (fun b => F b ∨ b = a) H := fun b hb => ⟨.inl hb, rfl⟩
  refine ⟨r.len, fun b hb => ?_, fun i d hi n => ?_, fun i d hi n => ?_, r.inj, r.pin, r.ext, fun b hb => ?_, fun b hb => .inl (r.frm b hb), r.dom⟩
  · rcases hb with hb | rfl
    · exact r.trk b hb
    · exact ⟨o, h⟩
  · obtain ⟨v, h1, h2⟩ := r.val i d hi n
    exact ⟨v, h1, h2.grow g⟩
  · obtain ⟨c, h1, h2, h3, h4⟩ := r.own i d hi n
    refine ⟨c, h1, fun z => ?_, h3.grow g rfl, h4⟩
    rcases z with z | rfl
    · exact h2 z
    · exact nu ⟨i, n, h1⟩
  · rcases hb with hb | rfl
    · exact r.fro b hb
    · exact .inr h0
theorem vo_e {m : M D} (h : VO X B Γ E e m) : VE X B Γ E e m :=
  PE.imp h fun σ H Q ⟨F, ρ, r, hq⟩ => ⟨F, ρ, r, hq.mono (fun d ρ1 h1 v H1 F1 r1 g1 q1 => by
    obtain ⟨a, rfl, oa, nf, h0⟩ := q1
    obtain ⟨o, ho⟩ := oa.some
    have g : Grow F1 H1 (fun b => F1 b ∨ b = a) H1 := fun b hb => ⟨.inl hb, rfl⟩
    refine h1 (.ref a) H1 (fun b => F1 b ∨ b = a) (r1.freeze ho (r.h0 h0) (r.nownN h0)) ⟨fun b hb => .inl (g1.frz b hb), fun b o h n => ?_⟩ ((oa.grow g rfl).frz (.inr rfl))
    obtain ⟨k1, k2⟩ := g1.keep b o h n
    refine ⟨k1, fun z => ?_⟩
    rcases z with z | rfl
    · exact k2 z
    · rw [h0] at h; cases h) (fun _ _ _ k => k)⟩
theorem ve_lst (h : VA X B Γ E es ms) (hl : es.length ≤ sizeLine := by decide) : VE X B Γ E (.List es pos) (mLst ms) := vo_e (vo_lst h hl)

/-! ### one operand; built-ins called -/
def rV1 (K : PySem.W.Frag) (g : D → Option D) : V → Hp → VK → Prop := fun x H Q => ∃ F dx d, Trk F H ∧ Dq K F H x dx ∧ g dx = some d ∧ Gives K F H d Q
theorem ve_un {op : UnaryOp} {g : D → Option D} (ho : UnR X (unaryOp op) (rV1 X.K g)) (ha : VE X B Γ E a ma) : VE X B Γ E (.UnaryOp op a pos) (m1 g ma) :=
  PE.imp (pe_un ho ha) fun σ H Q ⟨F, ρ, r, h⟩ => ⟨F, ρ, r, (Res.bind h).mono (fun x ρ1 h1 v1 H1 F1 r1 g1 q1 => by
    obtain ⟨d, e, h3⟩ := Res.of h1
    exact ⟨F1, x, d, r1.trk, q1, e, fun v H' F' ex q => h3 v H' F' (r1.to ex) (g1.trans ex.kp) q⟩) (fun _ _ _ k => k)⟩
def gNeg : D → Option D
  | .int i => some (.int (-i))
  | _ => none
theorem ve_neg (ha : VE X B Γ E a ma) : VE X B Γ E (.UnaryOp .USub a pos) (m1 gNeg ma) :=
  ve_un (fun pins s σ H x v Q I rx h => by
    obtain ⟨F, dx, d, t, q, e, gv⟩ := h
    cases dx with
    | int i =>
      cases dq_int q
      cases e
      exact un_neg pins s σ H _ v Q I rx ⟨i, rfl, gv.here t (.int _)⟩
    | _ => cases e) ha
def mCall (g : List D → Option D) (m : M (List D)) : M D := m.bind fun ds => M.of (g ds)
theorem callv {g : List D → Option D} {σ : St} {H : Hp} {Q : VK} (h : tV X.K B Γ E (mCall g ms) σ H Q) : tCB (rVs X.K g) (tVs X.K B Γ E ms) σ H Q := by
  obtain ⟨F, ρ, r, h⟩ := h
  exact ⟨F, ρ, r, (Res.bind h).mono (fun x ρ1 h1 v1 H1 F1 r1 g1 q1 => by
    obtain ⟨d, e, h3⟩ := Res.of h1
    exact ⟨F1, x, d, r1.trk, q1, e, fun v H' F' ex q => h3 v H' F' (r1.to ex) (g1.trans ex.kp) q⟩) (fun _ _ _ k => k)⟩
theorem ve_callB {id : String} {x : Str} {p : Pos} {g : List D → Option D} (hc : CallR X (.builtin id) (rVs X.K g)) (hg : Gl X x) (hm : X.mg x = none) (hv : bootBuiltins x = some (.builtin id)) (ha : VA X B Γ E (e :: es) ms) (hn : x ≠ "__name__" := by decide) (hdb : (x == ("__debug__" : Str)) = false := by decide)
    (he : starEach (e :: es) X.env = (false, eval e X.env) :: starEach es X.env := by rfl) (hpl : (backTo pos (starEach es X.env)).any (·.1) = false := by rfl) : VE X B Γ E (.Call (.Name x p) (e :: es) [] pos) (mCall g ms) :=
  PE.imp (pe_callB hc hg hm hv ha.pa hn hdb he hpl) fun _ _ _ h => callv h
theorem ve_callTy {T : String} {x : Str} {p : Pos} {g : List D → Option D} (hc : CallR X (.type T) (rVs X.K g)) (hg : Gl X x) (hm : X.mg x = none) (hv : bootBuiltins x = some (.type T)) (ha : VA X B Γ E (e :: es) ms) (hn : x ≠ "__name__" := by decide) (hdb : (x == ("__debug__" : Str)) = false := by decide)
    (he : starEach (e :: es) X.env = (false, eval e X.env) :: starEach es X.env := by rfl) (hpl : (backTo pos (starEach es X.env)).any (·.1) = false := by rfl) : VE X B Γ E (.Call (.Name x p) (e :: es) [] pos) (mCall g ms) :=
  PE.imp (pe_callTy hc hg hm hv ha.pa hn hdb he hpl) fun _ _ _ h => callv h
end
end VL
end

section
set_option Elab.async false
set_option linter.all false
set_option maxRecDepth 100000
set_option maxHeartbeats 4000000
namespace VL
open PySem PySem.Spec PyProof.Rows L2
set_option autoImplicit false

/-- a def's entry: the addresses of the arguments that it may change, what is frozen, the heap -/
structure Gd where
  As : List Addr
  F0 : Fz
  H0 : Hp
def Gd.w (G : Gd) (Ps O : List Nat) : Gm := ⟨O, Ps.zip G.As, G.F0, G.H0⟩
inductive Fl where
  | nx | rt (d : D) | bk | ct
def RetAt (K : PySem.W.Frag) (G : Gd) (ro : Bool) (F : Fz) (H : Hp) (v : V) (d : D) : Prop :=
  if ro = true then ∃ a, v = .ref a ∧ OwnAt K F H a d ∧ ¬ F a ∧ G.H0 a = none else Dq K F H v d
def KexS (K : PySem.W.Frag) (B : Eb) (G : Gd) (Ps : List Nat) (E : Wish) (F : Fz) (H : Hp) (c : Nat) (fs : List D) (ρ' : Env) : Prop :=
  ∀ O' σ' F' H' od, Rel K (G.w Ps O') F' ρ' σ' H' → Grow F H F' H' → ExcAt K B F' H' c fs od → E σ' (.ref (B.cls c)) od H'
def kS (K : PySem.W.Frag) (G : Gd) (Ps : List Nat) (ro : Bool) (On Ol : List Nat) (F : Fz) (H : Hp) (N : Ends) (f : Fl) (ρ' : Env) : Prop :=
  match f with
  | .nx => ∀ σ' H' F', Rel K (G.w Ps On) F' ρ' σ' H' → Grow F H F' H' → N.nx σ' H'
  | .bk => ∀ σ' H' F', Rel K (G.w Ps Ol) F' ρ' σ' H' → Grow F H F' H' → N.bk σ' H'
  | .ct => ∀ σ' H' F', Rel K (G.w Ps Ol) F' ρ' σ' H' → Grow F H F' H' → N.ct σ' H'
  | .rt d => ∀ O' v σ' H' F', Rel K (G.w Ps O') F' ρ' σ' H' → Grow F H F' H' → RetAt K G ro F' H' v d → N.rt v H'
/-- a statement's reading: E what is wanted of an exception, ro whether the def hands back a new list of its own, O On Ol the slots that own their lists ahead, behind, at a loop's turn -/
def tS (K : PySem.W.Frag) (B : Eb) (G : Gd) (Ps : List Nat) (E : Wish) (ro : Bool) (O On Ol : List Nat) (m : M Fl) : TS := fun N σ H => ∃ F ρ, Rel K (G.w Ps O) F ρ σ H ∧
  Res (m ρ) (kS K G Ps ro On Ol F H N) (KexS K B G Ps E F H)
def VS (X : Cx) (B : Eb) (G : Gd) (Ps : List Nat) (E : Wish) (ro : Bool) (O On Ol : List Nat) (st : Stmt) (m : M Fl) : Prop := PS X st (tS X.K B G Ps E ro O On Ol m)
def VSs (X : Cx) (B : Eb) (G : Gd) (Ps : List Nat) (E : Wish) (ro : Bool) (O On Ol : List Nat) (st : List Stmt) (m : M Fl) : Prop := PSs X st (tS X.K B G Ps E ro O On Ol m)
theorem PS.imp {X : Cx} {e : Stmt} {t t' : TS} (h : PS X e t) (i : ∀ N σ H, t' N σ H → t N σ H) : PS X e t' := ⟨fun pins s σ H N I q => h.run pins s σ H N I (i N σ H q)⟩
theorem PSs.imp {X : Cx} {e : List Stmt} {t t' : TS} (h : PSs X e t) (i : ∀ N σ H, t' N σ H → t N σ H) : PSs X e t' := ⟨fun pins s σ H N I q => h.run pins s σ H N I (i N σ H q)⟩

section
variable {K : PySem.W.Frag} {B : Eb} {G : Gd} {Ps O On Ol : List Nat} {E : Wish} {ro : Bool} {F F1 : Fz} {H H1 : Hp} {ρ : Env} {σ : St} {N : Ends}
theorem KexS.grow {c : Nat} {fs : List D} {ρ' : Env} (h : KexS K B G Ps E F H c fs ρ') (g : Grow F H F1 H1) : KexS K B G Ps E F1 H1 c fs ρ' := fun O' σ' F' H' od r g' x => h O' σ' F' H' od r (g.trans g') x
theorem KexS.ex {c : Nat} {fs : List D} {ρ' : Env} (h : KexS K B G Ps E F H c fs ρ') (r : Rel K (G.w Ps O) F ρ σ H) : Kex K B (G.w Ps O) E σ F H c fs ρ' := fun F' H' od r' k x => h O σ F' H' od r' (k.g r) x
theorem kS.grow {f : Fl} {ρ' : Env} (h : kS K G Ps ro On Ol F H N f ρ') (g : Grow F H F1 H1) : kS K G Ps ro On Ol F1 H1 N f ρ' := by
  cases f with
  | nx => exact fun σ' H' F' r g' => h σ' H' F' r (g.trans g')
  | bk => exact fun σ' H' F' r g' => h σ' H' F' r (g.trans g')
  | ct => exact fun σ' H' F' r g' => h σ' H' F' r (g.trans g')
  | rt d => exact fun O' v σ' H' F' r g' q => h O' v σ' H' F' r (g.trans g') q
end

section
variable {X : Cx} {B : Eb} {G : Gd} {Ps O O1 On Ol : List Nat} {E : Wish} {ro : Bool} {st : Stmt} {rest : List Stmt} {m m' : M Fl} {e : Expr} {me : M D} {pos : Pos}

def mNx : M Fl := M.pure .nx
def mSeq (a b : M Fl) : M Fl := a.bind fun f => match f with
  | .nx => b
  | .rt d => M.pure (.rt d)
  | .bk => M.pure .bk
  | .ct => M.pure .ct
theorem vss_nil : VSs X B G Ps E ro O O Ol [] mNx := PSs.imp pss_nil fun N σ H ⟨F, ρ, r, h⟩ => h σ H F r .refl
theorem vss_cons (h1 : VS X B G Ps E ro O O1 Ol st m) (h2 : VSs X B G Ps E ro O1 On Ol rest m') : VSs X B G Ps E ro O On Ol (st :: rest) (mSeq m m') :=
  PSs.imp (pss_cons h1 h2) fun N σ H ⟨F, ρ, r, h⟩ => ⟨F, ρ, r, (Res.bind h).mono (fun f ρ1 hf => by
    cases f with
    | nx => exact fun σ' H' F' r' g => ⟨F', ρ1, r', (show Res (m' ρ1) _ _ from hf).mono (fun f ρ2 k => k.grow g) (fun _ _ _ k => k.grow g)⟩
    | bk => exact hf
    | ct => exact hf
    | rt d => exact hf) (fun _ _ _ k => k)⟩
theorem vss_one (h1 : VS X B G Ps E ro O On Ol st m) : VSs X B G Ps E ro O On Ol [st] m := pss_one h1

def mDrop (m : M D) : M Fl := m.bind fun _ => M.pure .nx
theorem vs_expr (he : VE X B (G.w Ps O) E e me) (hs : swapsWith e none pos.line X.env = pure false := by rfl) : VS X B G Ps E ro O O Ol (.Expr e pos) (mDrop me) :=
  PS.imp (ps_expr he hs) fun N σ H ⟨F, ρ, r, h⟩ => ⟨F, ρ, r, (Res.bind h).mono (fun d ρ1 h1 v H1 F1 r1 g1 q1 => h1 σ H1 F1 r1 (g1.g r)) (fun _ _ _ k => k.ex r)⟩
def mRet (m : M D) : M Fl := m.bind fun d => M.pure (.rt d)
theorem vs_ret (he : VE X B (G.w Ps O) E e me) : VS X B G Ps E false O On Ol (.Return (some e) pos) (mRet me) :=
  PS.imp (ps_ret he) fun N σ H ⟨F, ρ, r, h⟩ => ⟨F, ρ, r, (Res.bind h).mono (fun d ρ1 h1 v H1 F1 r1 g1 q1 => h1 O v σ H1 F1 r1 (g1.g r) (by rw [RetAt, if_neg (by decide)]; exact q1)) (fun _ _ _ k => k.ex r)⟩
theorem vs_retO (he : VO X B (G.w Ps O) E e me) : VS X B G Ps E true O On Ol (.Return (some e) pos) (mRet me) :=
  PS.imp (ps_ret he) fun N σ H ⟨F, ρ, r, h⟩ => ⟨F, ρ, r, (Res.bind h).mono (fun d ρ1 h1 v H1 F1 r1 g1 q1 => h1 O v σ H1 F1 r1 (g1.g r) (by
    obtain ⟨a, rfl, oa, nf, hn⟩ := q1
    rw [RetAt, if_pos rfl]
    exact ⟨a, rfl, oa, nf, r.h0 hn⟩)) (fun _ _ _ k => k.ex r)⟩
theorem vs_retN : VS X B G Ps E false O On Ol (.Return none pos) (M.pure (.rt .none)) :=
  PS.imp ps_retN fun N σ H ⟨F, ρ, r, h⟩ => h O .non σ H F r .refl (by rw [RetAt, if_neg (by decide)]; exact .non)
/-- return x, x a list of one's own -/
theorem vs_retM {i : Nat} {x : Str} {px : Pos} (hi : i ∈ O := by decide) (hp : i ∉ Ps := by decide) (hN : X.N[i]? = some x := by rfl) (hv : Vis X.env.scope x := by first | exact Or.inl rfl | exact Or.inr (Or.inl rfl) | exact Or.inr (Or.inr rfl)) (hd : (x == ("__debug__" : Str)) = false := by decide) (hcd : (x == ("__classdict__" : Str)) = false := by decide) :
    VS X B G Ps E true O On Ol (.Return (some (.Name x px)) pos) (mRet (mVar i)) :=
  PS.imp (ps_ret (pe_var hN hv hd hcd)) fun N σ H ⟨F, ρ, r, h⟩ => by
    unfold mRet M.bind mVar at h
    cases e : ρ[i]? with
    | none => rw [e] at h; exact h.elim
    | some o =>
      cases o with
      | none => rw [e] at h; exact h.elim
      | some d =>
        rw [e] at h
        obtain ⟨a, h1, nf, oa, h4⟩ := r.own i d e hi
        refine ⟨.ref a, h1, h O (.ref a) σ H F r .refl ?_⟩
        rw [RetAt, if_pos rfl]
        refine ⟨a, rfl, oa, nf, h4.resolve_right fun z => hp ?_⟩
        exact (List.of_mem_zip z).1

theorem notpin {i : Nat} (hp : i ∉ Ps) : ∀ a, (i, a) ∉ (G.w Ps O).P := fun a z => hp (List.of_mem_zip z).1
def delO (i : Nat) (O : List Nat) : List Nat := O.filter fun j => decide (j ≠ i)
def mSet (i : Nat) (m : M D) : M Fl := m.bind fun d => fun ρ => .ok (.nx, ρ.set i (some d))
theorem vs_set {i : Nat} {x : Str} {px : Pos} (hO : delO i O = O1) (hN : X.N.Nodup) (hi : X.N[i]? = some x) (hx : Loc X.env.scope x) (he : VE X B (G.w Ps O) E e me) (hp : i ∉ Ps := by decide) (hs : swapsWith e (some (.Name x px)) pos.line X.env = pure false := by rfl)
    (hf : X.fn x = true ∨ X.env.scope.names.lookup x = some .local := by first | exact .inl rfl | exact .inr rfl) : VS X B G Ps E ro O O1 Ol (.Assign [.Name x px] e pos) (mSet i me) :=
  PS.imp (ps_set hN hi hx he hs) fun N σ H ⟨F, ρ, r, h⟩ => ⟨F, ρ, r, (Res.bind h).mono (fun d ρ1 h1 v H1 F1 r1 g1 q1 => h1 _ H1 F1 (hO ▸ r1.setD q1 (notpin hp)) (g1.g r)) (fun _ _ _ k => k.ex r)⟩
theorem vs_setO {i : Nat} {x : Str} {px : Pos} (hN : X.N.Nodup) (hi : X.N[i]? = some x) (hx : Loc X.env.scope x) (he : VO X B (G.w Ps O) E e me) (hp : i ∉ Ps := by decide) (hs : swapsWith e (some (.Name x px)) pos.line X.env = pure false := by rfl)
    (hf : X.fn x = true ∨ X.env.scope.names.lookup x = some .local := by first | exact .inl rfl | exact .inr rfl) : VS X B G Ps E ro O (i :: O) Ol (.Assign [.Name x px] e pos) (mSet i me) :=
  PS.imp (ps_set hN hi hx he hs) fun N σ H ⟨F, ρ, r, h⟩ => ⟨F, ρ, r, (Res.bind h).mono (fun d ρ1 h1 v H1 F1 r1 g1 q1 => by
    obtain ⟨a, rfl, oa, nf, hn⟩ := q1
    exact h1 _ H1 F1 (r1.setO oa nf (r.h0 hn) (r.nownN hn) (notpin hp)) (g1.g r)) (fun _ _ _ k => k.ex r)⟩

/-! ### a list of one's own is frozen -/
theorem Rel.release {K : PySem.W.Frag} {F : Fz} {ρ : Env} {σ : St} {H : Hp} (r : Rel K (G.w Ps O) F ρ σ H) (h1 : ∀ j, j ∈ O1 → j ∈ O) (h2 : ∀ j, j ∈ Ps → j ∈ O1) :
    Rel K (G.w Ps O1) (fun b => F b ∨ ∃ j d, j ∈ O ∧ j ∉ O1 ∧ ρ[j]? = some (some d) ∧ σ[j]? = some (some (.ref b))) ρ σ H := by
  have g : Grow F H (fun b => F b ∨ ∃ j d, j ∈ O ∧ j ∉ O1 ∧ ρ[j]? = some (some d) ∧ σ[j]? = some (some (.ref b))) H := fun b hb => ⟨.inl hb, rfl⟩
  refine ⟨r.len, fun b hb => ?_, fun i d hi n => ?_, fun i d hi n => ?_, fun i j a d e hi hj => r.inj i j a d e (h1 i hi) (h1 j hj), fun i a hi => ?_, r.ext, fun b hb => ?_, fun b hb => .inl (r.frm b hb), fun j hj => r.dom j (h1 j hj)⟩
  · rcases hb with hb | ⟨j, d, hj, _, hd, hs⟩
    · exact r.trk b hb
    · obtain ⟨a, ha, _, oa, _⟩ := r.own j d hd hj
      rw [hs] at ha; cases ha
      exact oa.some
  · by_cases c : i ∈ O
    · obtain ⟨a, ha, nf, oa, _⟩ := r.own i d hi c
      exact ⟨.ref a, ha, (oa.grow g rfl).frz (.inr ⟨i, d, c, n, hi, ha⟩)⟩
    · obtain ⟨v, q1, q2⟩ := r.val i d hi c
      exact ⟨v, q1, q2.grow g⟩
  · obtain ⟨a, ha, nf, oa, h4⟩ := r.own i d hi (h1 i n)
    refine ⟨a, ha, fun z => ?_, oa.grow g rfl, h4⟩
    rcases z with z | ⟨j, e, hj, nj, hd, hs⟩
    · exact nf z
    · have := r.inj i j a d e (h1 i n) hj hi hd ha hs
      subst this
      exact nj n
  · obtain ⟨q1, q2, q3⟩ := r.pin i a hi
    exact ⟨h2 i (List.of_mem_zip hi).1, q2, q3⟩
  · rcases hb with hb | ⟨j, d, hj, nj, hd, hs⟩
    · exact r.fro b hb
    · obtain ⟨a, ha, _, _, h4⟩ := r.own j d hd hj
      rw [hs] at ha; cases ha
      rcases h4 with h4 | h4
      · exact .inr h4
      · exact absurd (h2 j (List.of_mem_zip h4).1) nj
theorem vs_frz {O' : List Nat} (h : VS X B G Ps E ro O1 On Ol st m) (h1 : ∀ j, j ∈ O1 → j ∈ O' := by decide) (h2 : ∀ j, j ∈ Ps → j ∈ O1 := by decide) : VS X B G Ps E ro O' On Ol st m :=
  PS.imp h fun N σ H ⟨F, ρ, r, h⟩ => ⟨_, ρ, r.release h1 h2, h.mono (fun f ρ1 k => k.grow fun b hb => ⟨.inl hb, rfl⟩) (fun _ _ _ k => k.grow fun b hb => ⟨.inl hb, rfl⟩)⟩
theorem vss_frz {O' : List Nat} {sts : List Stmt} (h : VSs X B G Ps E ro O1 On Ol sts m) (h1 : ∀ j, j ∈ O1 → j ∈ O' := by decide) (h2 : ∀ j, j ∈ Ps → j ∈ O1 := by decide) : VSs X B G Ps E ro O' On Ol sts m :=
  PSs.imp h fun N σ H ⟨F, ρ, r, h⟩ => ⟨_, ρ, r.release h1 h2, h.mono (fun f ρ1 k => k.grow fun b hb => ⟨.inl hb, rfl⟩) (fun _ _ _ k => k.grow fun b hb => ⟨.inl hb, rfl⟩)⟩
/-- behind: fewer are owned; at break and continue too -/
theorem kS.weak {K : PySem.W.Frag} {F : Fz} {H : Hp} {N : Ends} {f : Fl} {ρ' : Env} {On' Ol' : List Nat} (h : kS K G Ps ro On' Ol' F H N f ρ') (h1 : ∀ j, j ∈ On' → j ∈ On) (h2 : ∀ j, j ∈ Ps → j ∈ On') (h3 : ∀ j, j ∈ Ol' → j ∈ Ol) (h4 : ∀ j, j ∈ Ps → j ∈ Ol') : kS K G Ps ro On Ol F H N f ρ' := by
  cases f with
  | nx => exact fun σ' H' F' r g => h σ' H' _ (r.release h1 h2) (g.trans fun b hb => ⟨.inl hb, rfl⟩)
  | bk => exact fun σ' H' F' r g => h σ' H' _ (r.release h3 h4) (g.trans fun b hb => ⟨.inl hb, rfl⟩)
  | ct => exact fun σ' H' F' r g => h σ' H' _ (r.release h3 h4) (g.trans fun b hb => ⟨.inl hb, rfl⟩)
  | rt d => exact h
theorem vss_weak {On' : List Nat} {sts : List Stmt} (h : VSs X B G Ps E ro O On Ol sts m) (h1 : ∀ j, j ∈ On' → j ∈ On := by decide) (h2 : ∀ j, j ∈ Ps → j ∈ On' := by decide) (h4 : ∀ j, j ∈ Ps → j ∈ Ol := by decide) : VSs X B G Ps E ro O On' Ol sts m :=
  PSs.imp h fun N σ H ⟨F, ρ, r, h⟩ => ⟨F, ρ, r, h.mono (fun f ρ1 k => k.weak h1 h2 (fun _ h => h) h4) (fun _ _ _ k => k)⟩

/-! ### if -/
def mIfS (c : M Bool) (a b : M Fl) : M Fl := c.bind fun x => if x = true then a else b
theorem vs_if {c : Expr} {a b : List Stmt} {mc : M Bool} (hc : VT X B (G.w Ps O) E c mc) (ha : VSs X B G Ps E ro O On Ol a m) (hb : VSs X B G Ps E ro O On Ol b m') : VS X B G Ps E ro O On Ol (.If c a b pos) (mIfS mc m m') :=
  PS.imp (ps_if hc ha hb) fun N σ H ⟨F, ρ, r, h⟩ => ⟨F, ρ, r, (Res.bind h).mono (fun x ρ1 h1 v H1 F1 r1 g1 q1 => by
    subst q1
    cases v with
    | true => exact ⟨F1, ρ1, r1, (show Res (m ρ1) _ _ from h1).mono (fun f ρ2 k => k.grow (g1.g r)) (fun _ _ _ k => k.grow (g1.g r))⟩
    | false => exact ⟨F1, ρ1, r1, (show Res (m' ρ1) _ _ from h1).mono (fun f ρ2 k => k.grow (g1.g r)) (fun _ _ _ k => k.grow (g1.g r))⟩) (fun _ _ _ k => k.ex r)⟩
theorem vs_pass : VS X B G Ps E ro O O Ol (.Pass pos) mNx := PS.imp ps_pass fun N σ H ⟨F, ρ, r, h⟩ => h σ H F r .refl
theorem vs_break : VS X B G Ps E ro O On O (.Break pos) (M.pure .bk) := PS.imp ps_break fun N σ H ⟨F, ρ, r, h⟩ => h σ H F r .refl
theorem vs_continue : VS X B G Ps E ro O On O (.Continue pos) (M.pure .ct) := PS.imp ps_continue fun N σ H ⟨F, ρ, r, h⟩ => h σ H F r .refl
end
end VL
end

section
set_option Elab.async false
set_option linter.all false
set_option maxRecDepth 100000
set_option maxHeartbeats 4000000
namespace VL
open PySem PySem.Spec PyProof.Rows L2
set_option autoImplicit false

/-! ### a def's promise by values -/
/-- the addresses of the arguments that may be changed -/
def mAs : List Bool → List V → List Addr
  | true :: ms, .ref a :: vs => a :: mAs ms vs
  | _ :: ms, _ :: vs => mAs ms vs
  | _, _ => []
inductive ArgsAt (K : PySem.W.Frag) (F : Fz) (H : Hp) : List Bool → List V → List D → Prop
  | nil : ArgsAt K F H [] [] []
  | dat {ms : List Bool} {v : V} {vs : List V} {d : D} {ds : List D} : Dq K F H v d → ArgsAt K F H ms vs ds → ArgsAt K F H (false :: ms) (v :: vs) (d :: ds)
  | own {ms : List Bool} {a : Addr} {vs : List V} {d : D} {ds : List D} : OwnAt K F H a d → ¬ F a → ArgsAt K F H ms vs ds → ArgsAt K F H (true :: ms) (.ref a :: vs) (d :: ds)
inductive OutAt (K : PySem.W.Frag) (F : Fz) (H : Hp) : List Addr → List D → Prop
  | nil : OutAt K F H [] []
  | cons {a : Addr} {as : List Addr} {d : D} {ds : List D} : OwnAt K F H a d → ¬ F a → OutAt K F H as ds → OutAt K F H (a :: as) (d :: ds)
/-- all but what stands at As is as it was -/
structure Frm (As : List Addr) (F : Fz) (H : Hp) (F' : Fz) (H' : Hp) : Prop where
  same : ∀ b o, H b = some o → b ∉ As → H' b = some o
  mono : ∀ b, F b → F' b
  new : ∀ b, F' b → F b ∨ H b = none
  trk : ∀ b, F' b → ∃ o, H' b = some o
def ResAt (K : PySem.W.Frag) (ro : Bool) (H : Hp) (F' : Fz) (H' : Hp) (v : V) (d : D) : Prop :=
  if ro = true then ∃ a, v = .ref a ∧ OwnAt K F' H' a d ∧ ¬ F' a ∧ H a = none else Dq K F' H' v d
/-- a def's function: the arguments' data; the answer, and what the changed arguments are then -/
abbrev Fn := List D → R (D × List D)
def spV (K : PySem.W.Frag) (B : Eb) (ms : List Bool) (ro : Bool) (f : Fn) : Sp := fun vs H Q E => ∃ F ds, Trk F H ∧ ArgsAt K F H ms vs ds ∧ (mAs ms vs).Nodup ∧
  match f ds with
  | .ok p => ∀ v H' F', Frm (mAs ms vs) F H F' H' → OutAt K F' H' (mAs ms vs) p.2 → ResAt K ro H F' H' v p.1 → Q v H'
  | .exc c fs _ => mAs ms vs = [] ∧ ∀ H' F' od, Ext F H F' H' → ExcAt K B F' H' c fs od → E (.ref (B.cls c)) od H'
  | .stuck => False
theorem ArgsAt.len {K : PySem.W.Frag} {F : Fz} {H : Hp} : ∀ {ms : List Bool} {vs : List V} {ds : List D}, ArgsAt K F H ms vs ds → vs.length = ms.length ∧ ds.length = ms.length
  | _, _, _, .nil => ⟨rfl, rfl⟩
  | _, _, _, .dat _ r => ⟨congrArg (· + 1) r.len.1, congrArg (· + 1) r.len.2⟩
  | _, _, _, .own _ _ r => ⟨congrArg (· + 1) r.len.1, congrArg (· + 1) r.len.2⟩
theorem Frm.ext {F F' : Fz} {H H' : Hp} (f : Frm [] F H F' H') : Ext F H F' H' := ⟨fun b o h => f.same b o h (by simp), f.mono, f.new, f.trk⟩

/-! ### arguments at a call -/
inductive Sl where
  | dat | slot (j : Nat) | tmp
def Sl.m : Sl → Bool
  | .dat => false
  | .slot _ => true
  | .tmp => true
def fill : List Sl → List D → Env → Option (List D)
  | [], [], _ => some []
  | .dat :: s, d :: ds, ρ => (fill s ds ρ).map (d :: ·)
  | .tmp :: s, d :: ds, ρ => (fill s ds ρ).map (d :: ·)
  | .slot j :: s, ds, ρ => match ρ[j]? with
    | some (some d) => (fill s ds ρ).map (d :: ·)
    | _ => none
  | _, _, _ => none
def put : List Sl → List D → Env → Option Env
  | [], [], ρ => some ρ
  | .dat :: s, es, ρ => put s es ρ
  | .tmp :: s, _ :: es, ρ => put s es ρ
  | .slot j :: s, e :: es, ρ => put s es (ρ.set j (some e))
  | _, _, _ => none
def slots : List Sl → List Nat
  | [] => []
  | .slot j :: s => j :: slots s
  | _ :: s => slots s
inductive HeldA (K : PySem.W.Frag) (F : Fz) (H : Hp) (Hs : Hp) (σ : St) : List Sl → List V → List D → Prop
  | nil : HeldA K F H Hs σ [] [] []
  | dat {s : List Sl} {v : V} {vs : List V} {d : D} {ds : List D} : Dq K F H v d → HeldA K F H Hs σ s vs ds → HeldA K F H Hs σ (.dat :: s) (v :: vs) (d :: ds)
  | tmp {s : List Sl} {a : Addr} {vs : List V} {d : D} {ds : List D} : OwnAt K F H a d → ¬ F a → Hs a = none → a ∉ mAs (s.map Sl.m) vs → HeldA K F H Hs σ s vs ds → HeldA K F H Hs σ (.tmp :: s) (.ref a :: vs) (d :: ds)
  | slot {s : List Sl} {j : Nat} {v : V} {vs : List V} {ds : List D} : σ[j]? = some (some v) → HeldA K F H Hs σ s vs ds → HeldA K F H Hs σ (.slot j :: s) (v :: vs) ds
def tM (K : PySem.W.Frag) (B : Eb) (Γ : Gm) (E : Wish) (sl : List Sl) (m : M (List D)) : TA := fun σ H Q => ∃ F ρ, Rel K Γ F ρ σ H ∧
  Res (m ρ) (fun ds ρ' => ∀ vs H' F', Rel K Γ F' ρ' σ H' → Kp Γ.O σ F H F' H' → HeldA K F' H' H σ sl vs ds → Q vs H') (Kex K B Γ E σ F H)
def VM (X : Cx) (B : Eb) (Γ : Gm) (E : Wish) (es : List Expr) (sl : List Sl) (m : M (List D)) : Prop := PA X es (tM X.K B Γ E sl m)

section
variable {X : Cx} {B : Eb} {Γ : Gm} {E : Wish} {e : Expr} {es : List Expr} {sl : List Sl} {ma : M D} {ms : M (List D)} {pos : Pos}
theorem vm_nil : VM X B Γ E [] [] mNil := PA.imp pa_nil fun σ H Q ⟨F, ρ, r, h⟩ => h [] H F r .refl .nil
/-- where the tail began later -/
theorem HeldA.back {K : PySem.W.Frag} {F : Fz} {H Hs H1 : Hp} {σ : St} (h : ∀ a, H1 a = none → Hs a = none) : ∀ {s : List Sl} {vs : List V} {ds : List D}, HeldA K F H H1 σ s vs ds → HeldA K F H Hs σ s vs ds
  | _, _, _, .nil => .nil
  | _, _, _, .dat q r => .dat q (HeldA.back h r)
  | _, _, _, .tmp q n z w r => .tmp q n (h _ z) w (HeldA.back h r)
  | _, _, _, .slot q r => .slot q (HeldA.back h r)
theorem vm_cons (ha : VE X B Γ E e ma) (hr : VM X B Γ E es sl ms) (hs : starEach (e :: es) X.env = (false, eval e X.env) :: starEach es X.env := by rfl) : VM X B Γ E (e :: es) (.dat :: sl) (mCons ma ms) :=
  PA.imp (pa_cons ha hr hs) fun σ H Q ⟨F, ρ, r, h⟩ => ⟨F, ρ, r, (Res.bind h).mono (fun x ρ1 h1 v1 H1 F1 r1 g1 q1 => ⟨F1, ρ1, r1, (Res.bind h1).mono (fun y ρ2 h2 v2 H2 F2 r2 g2 q2 =>
    h2 _ H2 F2 r2 (g1.trans g2) (.dat (q1.grow (g2.g r1)) (q2.back fun a z => g1.none0 r1 z))) (fun _ _ _ k => k.grow g1)⟩) (fun _ _ _ k => k)⟩
/-- what the later arguments' places hold is no object that was there ahead, but the slots' own -/
theorem HeldA.old {K : PySem.W.Frag} {F : Fz} {H Hs : Hp} {σ : St} {O : List Nat} {a : Addr} (n : ¬ Own O σ a) (t : Hs a ≠ none) {s : List Sl} {vs : List V} {ds : List D} (h : HeldA K F H Hs σ s vs ds) : (∀ j ∈ slots s, j ∈ O) → a ∉ mAs (s.map Sl.m) vs := by
  induction h with
  | nil => intro _; simp [mAs]
  | @dat s v vs d ds q r ih =>
    intro ho
    have ih := ih ho
    cases v <;> exact ih
  | @tmp s b vs d ds q nf z w r ih =>
    intro ho hm
    rcases List.mem_cons.mp (show a ∈ b :: mAs (s.map Sl.m) vs from hm) with rfl | hm
    · exact t z
    · exact ih ho hm
  | @slot s j v vs ds q r ih =>
    intro ho
    have ih := ih (fun j hj => ho j (List.mem_cons_of_mem _ hj))
    cases v with
    | ref b =>
      intro hm
      rcases List.mem_cons.mp (show a ∈ b :: mAs (s.map Sl.m) vs from hm) with rfl | hm
      · exact n ⟨j, ho j (List.mem_cons_self ..), q⟩
      · exact ih hm
    | _ => exact ih
theorem vm_tmp (ha : VO X B Γ E e ma) (hr : VM X B Γ E es sl ms) (ho : ∀ j ∈ slots sl, j ∈ Γ.O) (hs : starEach (e :: es) X.env = (false, eval e X.env) :: starEach es X.env := by rfl) : VM X B Γ E (e :: es) (.tmp :: sl) (mCons ma ms) :=
  PA.imp (pa_cons ha hr hs) fun σ H Q ⟨F, ρ, r, h⟩ => ⟨F, ρ, r, (Res.bind h).mono (fun x ρ1 h1 v1 H1 F1 r1 g1 q1 => ⟨F1, ρ1, r1, (Res.bind h1).mono (fun y ρ2 h2 v2 H2 F2 r2 g2 q2 => by
    obtain ⟨a, rfl, oa, nf, hn⟩ := q1
    obtain ⟨o, hoa⟩ := oa.some
    have no : ¬ Own Γ.O σ a := r.nownN hn
    obtain ⟨k1, k2⟩ := g2.keep a o hoa no
    exact h2 _ H2 F2 r2 (g1.trans g2) (.tmp (oa.grow (g2.g r1) (by rw [k1, hoa])) (fun z => nf (k2 z)) hn (q2.old no (by rw [hoa]; simp) ho) (q2.back fun a z => g1.none0 r1 z))) (fun _ _ _ k => k.grow g1)⟩) (fun _ _ _ k => k)⟩
def mSlot (i : Nat) (ms : M (List D)) : M (List D) := fun ρ => match ρ[i]? with
  | some (some _) => ms ρ
  | _ => .stuck
theorem vm_slot {i : Nat} {x : Str} {px : Pos} (hr : VM X B Γ E es sl ms) (hN : X.N[i]? = some x := by rfl) (hv : Vis X.env.scope x := by first | exact Or.inl rfl | exact Or.inr (Or.inl rfl) | exact Or.inr (Or.inr rfl)) (hd : (x == ("__debug__" : Str)) = false := by decide) (hcd : (x == ("__classdict__" : Str)) = false := by decide)
    (hdef : ∀ K F ρ σ H, Rel K Γ F ρ σ H → True := by intros; trivial) (hs : starEach (.Name x px :: es) X.env = (false, eval (.Name x px) X.env) :: starEach es X.env := by rfl) : VM X B Γ E (.Name x px :: es) (.slot i :: sl) (mSlot i ms) :=
  PA.imp (pa_cons (pe_var hN hv hd hcd) hr hs) fun σ H Q ⟨F, ρ, r, h⟩ => by
    unfold mSlot at h
    cases e : ρ[i]? with
    | none => simp only [e] at h; exact h.elim
    | some o =>
      cases o with
      | none => simp only [e] at h; exact h.elim
      | some d =>
        simp only [e] at h
        have hv : ∃ v, σ[i]? = some (some v) := by
          by_cases c : i ∈ Γ.O
          · obtain ⟨a, ha, _⟩ := r.own i d e c
            exact ⟨_, ha⟩
          · obtain ⟨v, hv, _⟩ := r.val i d e c
            exact ⟨v, hv⟩
        obtain ⟨v, hv⟩ := hv
        exact ⟨v, hv, F, ρ, r, h.mono (fun ds ρ1 h1 vs H1 F1 r1 g1 q1 => h1 _ H1 F1 r1 g1 (.slot hv q1)) (fun _ _ _ k => k)⟩
end

/-! ### the state behind a call -/
section
variable {K : PySem.W.Frag} {Γ : Gm} {F F' : Fz} {H H' Hs : Hp} {ρ : Env} {σ : St}
def sets (T : List (Nat × Addr × D)) (ρ : Env) : Env := T.foldl (fun ρ t => ρ.set t.1 (some t.2.2)) ρ
theorem sets_len : ∀ (T : List (Nat × Addr × D)) (ρ : Env), (sets T ρ).length = ρ.length
  | [], _ => rfl
  | t :: T, ρ => by
    show (sets T (ρ.set t.1 _)).length = _
    rw [sets_len T, List.length_set]
theorem sets_out : ∀ (T : List (Nat × Addr × D)) (ρ : Env) (i : Nat), i ∉ T.map (·.1) → (sets T ρ)[i]? = ρ[i]?
  | [], _, _, _ => rfl
  | t :: T, ρ, i, h => by
    rw [List.map_cons, List.mem_cons, not_or] at h
    show (sets T (ρ.set t.1 _))[i]? = _
    rw [sets_out T _ i h.2, List.getElem?_set_ne fun z => h.1 z.symm]
theorem sets_in : ∀ (T : List (Nat × Addr × D)) (ρ : Env) (i : Nat) (a : Addr) (d : D), (T.map (·.1)).Nodup → (i, a, d) ∈ T → i < ρ.length → (sets T ρ)[i]? = some (some d)
  | [], _, _, _, _, _, h, _ => by cases h
  | t :: T, ρ, i, a, d, nd, h, hl => by
    rw [List.map_cons, List.nodup_cons] at nd
    show (sets T (ρ.set t.1 _))[i]? = _
    rcases List.mem_cons.mp h with e | h
    · subst e
      rw [sets_out T _ i nd.1, List.getElem?_set_self hl]
    · exact sets_in T _ i a d nd.2 h (by rw [List.length_set]; exact hl)
theorem Rel.after {As : List Addr} {T : List (Nat × Addr × D)} {Fs : Fz} (r : Rel K Γ F ρ σ H) (k : Kp Γ.O σ Fs Hs F H) (f : Frm As F H F' H') (nd : (T.map (·.1)).Nodup)
    (hT : ∀ i a d, (i, a, d) ∈ T → i ∈ Γ.O ∧ σ[i]? = some (some (.ref a)) ∧ OwnAt K F' H' a d ∧ ¬ F' a ∧ ∃ d', ρ[i]? = some (some d'))
    (hA : ∀ a ∈ As, (∃ i d, (i, a, d) ∈ T) ∨ (¬ Own Γ.O σ a ∧ Γ.H0 a = none ∧ ¬ F a ∧ Hs a = none)) : Rel K Γ F' (sets T ρ) σ H' ∧ Kp Γ.O σ Fs Hs F' H' := by
  have nF : ∀ a ∈ As, ¬ F a := fun a ha hf => by
    rcases hA a ha with ⟨i, d, h⟩ | ⟨_, _, h, _⟩
    · exact (hT i a d h).2.2.2.1 (f.mono a hf)
    · exact h hf
  have g : Grow F H F' H' := fun b hb => by
    obtain ⟨o, ho⟩ := r.trk b hb
    exact ⟨f.mono b hb, by rw [ho, f.same b o ho fun z => nF b z hb]⟩
  have notA : ∀ i d a, i ∈ Γ.O → i ∉ T.map (·.1) → ρ[i]? = some (some d) → σ[i]? = some (some (.ref a)) → a ∉ As := fun i d a hi hn hd hs ha => by
    rcases hA a ha with ⟨j, e, h⟩ | ⟨h, _⟩
    · obtain ⟨h1, h2, _, _, d', h5⟩ := hT j a e h
      have := r.inj i j a d d' hi h1 hd h5 hs h2
      subst this
      exact hn (List.mem_map.mpr ⟨_, h, rfl⟩)
    · exact h ⟨i, hi, hs⟩
  have lift : ∀ i d, (sets T ρ)[i]? = some (some d) → ∃ d', ρ[i]? = some (some d') := fun i d hi => by
    by_cases c : i ∈ T.map (·.1)
    · obtain ⟨⟨j, a, e⟩, hm, rfl⟩ := List.mem_map.mp c
      exact (hT _ a e hm).2.2.2.2
    · rw [sets_out T ρ i c] at hi
      exact ⟨d, hi⟩
  refine ⟨⟨by rw [sets_len]; exact r.len, f.trk, fun i d hi n => ?_, fun i d hi n => ?_, fun i j a d e hi hj h1 h2 h3 h4 => ?_, fun i a hi => ?_, fun b o hb hp => ?_, fun b hb => ?_, fun b hb => f.mono b (r.frm b hb), fun j hj v hs => ?_⟩, fun b hb => f.mono b (k.frz b hb), fun b o hb nb => ⟨f.same b o (k.keep b o hb nb).1 fun hA' => ?_, fun z => (k.keep b o hb nb).2 ?_⟩⟩
  · have c : i ∉ T.map (·.1) := fun c => by
      obtain ⟨⟨j, a, e⟩, hm, rfl⟩ := List.mem_map.mp c
      exact n (hT _ a e hm).1
    rw [sets_out T ρ i c] at hi
    obtain ⟨v, h1, h2⟩ := r.val i d hi n
    exact ⟨v, h1, h2.grow g⟩
  · by_cases c : i ∈ T.map (·.1)
    · obtain ⟨⟨j, a, e⟩, hm, rfl⟩ := List.mem_map.mp c
      obtain ⟨h1, h2, h3, h4, d', h5⟩ := hT _ a e hm
      have hl : j < ρ.length := by
        obtain ⟨w, _⟩ := List.getElem?_eq_some_iff.mp h5
        exact w
      rw [sets_in T ρ j a e nd hm hl] at hi
      cases hi
      obtain ⟨a', q1, _, _, q4⟩ := r.own j d' h5 h1
      rw [h2] at q1; cases q1
      exact ⟨a, h2, h4, h3, q4⟩
    · rw [sets_out T ρ i c] at hi
      obtain ⟨a, h1, h2, h3, h4⟩ := r.own i d hi n
      have na := notA i d a n c hi h1
      obtain ⟨o, ho⟩ := h3.some
      refine ⟨a, h1, fun z => ?_, h3.grow g (by rw [ho, f.same a o ho na]), h4⟩
      rcases f.new a z with z | z
      · exact h2 z
      · rw [ho] at z; cases z
  · obtain ⟨d', h1'⟩ := lift i d h1
    obtain ⟨e', h2'⟩ := lift j e h2
    exact r.inj i j a d' e' hi hj h1' h2' h3 h4
  · obtain ⟨h1, ⟨d, h2⟩, h3⟩ := r.pin i a hi
    refine ⟨h1, ?_, h3⟩
    by_cases c : i ∈ T.map (·.1)
    · obtain ⟨⟨j, b, e⟩, hm, rfl⟩ := List.mem_map.mp c
      have hl : j < ρ.length := by
        obtain ⟨w, _⟩ := List.getElem?_eq_some_iff.mp h2
        exact w
      exact ⟨e, sets_in T ρ j b e nd hm hl⟩
    · exact ⟨d, by rw [sets_out T ρ i c]; exact h2⟩
  · refine f.same b o (r.ext b o hb hp) fun ha => ?_
    rcases hA b ha with ⟨i, d, h⟩ | ⟨_, h, _, _⟩
    · obtain ⟨h1, h2, h3, h4, d', h5⟩ := hT i b d h
      obtain ⟨a', q1, _, _, q4⟩ := r.own i d' h5 h1
      rw [h2] at q1; cases q1
      rcases q4 with q4 | q4
      · rw [hb] at q4; cases q4
      · exact hp i q4
    · rw [hb] at h; cases h
  · rcases f.new b hb with h | h
    · exact r.fro b h
    · exact .inr (r.h0 h)
  · obtain ⟨d, hd⟩ := r.dom j hj v hs
    by_cases c : j ∈ T.map (·.1)
    · obtain ⟨⟨i, a, e⟩, hm, rfl⟩ := List.mem_map.mp c
      have hl : i < ρ.length := by
        obtain ⟨w, _⟩ := List.getElem?_eq_some_iff.mp hd
        exact w
      exact ⟨e, sets_in T ρ i a e nd hm hl⟩
    · exact ⟨d, by rw [sets_out T ρ j c]; exact hd⟩
  · rcases hA b hA' with ⟨i, d, h⟩ | ⟨_, _, _, h0⟩
    · obtain ⟨h1, h2, _⟩ := hT i b d h
      exact nb ⟨i, h1, h2⟩
    · rw [hb] at h0; cases h0
  · rcases f.new b z with z | z
    · exact z
    · rw [(k.keep b o hb nb).1] at z; cases z
end
end VL
end

section
set_option Elab.async false
set_option linter.all false
set_option maxRecDepth 100000
set_option maxHeartbeats 4000000
namespace VL
open PySem PySem.Spec PyProof.Rows L2
set_option autoImplicit false

section
variable {K : PySem.W.Frag} {Γ : Gm} {F F' Fs : Fz} {H H' Hs : Hp} {ρ ρs : Env} {σ : St}
theorem HeldA.mem {sl : List Sl} {vs : List V} {ds : List D} (h : HeldA K F H Hs σ sl vs ds) {a : Addr} : a ∈ mAs (sl.map Sl.m) vs → (∃ j ∈ slots sl, σ[j]? = some (some (.ref a))) ∨ (Hs a = none ∧ ¬ F a) := by
  induction h with
  | nil => intro hm; cases hm
  | @dat s v vs d ds q r ih =>
    intro hm
    have hm' : a ∈ mAs (s.map Sl.m) vs := by cases v <;> exact hm
    exact ih hm'
  | @tmp s b vs d ds q nf z w r ih =>
    intro hm
    rcases List.mem_cons.mp (show a ∈ b :: mAs (s.map Sl.m) vs from hm) with rfl | hm
    · exact .inr ⟨z, nf⟩
    · exact ih hm
  | @slot s j v vs ds q r ih =>
    intro hm
    have go : a ∈ mAs (s.map Sl.m) vs → (∃ j' ∈ slots (.slot j :: s), σ[j']? = some (some (.ref a))) ∨ (Hs a = none ∧ ¬ F a) := fun hm => by
      rcases ih hm with ⟨j', h1, h2⟩ | h
      · exact .inl ⟨j', List.mem_cons_of_mem _ h1, h2⟩
      · exact .inr h
    cases v with
    | ref b =>
      rcases List.mem_cons.mp (show a ∈ b :: mAs (s.map Sl.m) vs from hm) with rfl | hm
      · exact .inl ⟨j, List.mem_cons_self .., q⟩
      · exact go hm
    | _ => exact go hm
theorem HeldA.args {sl : List Sl} {vs : List V} {ds : List D} (h : HeldA K F H Hs σ sl vs ds) (r : Rel K Γ F ρ σ H) (rs : Rel K Γ Fs ρs σ Hs) : ∀ {full : List D}, (∀ j ∈ slots sl, j ∈ Γ.O) → (slots sl).Nodup → fill sl ds ρ = some full →
    ArgsAt K F H (sl.map Sl.m) vs full ∧ (mAs (sl.map Sl.m) vs).Nodup := by
  induction h with
  | nil => intro full ho nd e; cases e; exact ⟨.nil, .nil⟩
  | @dat s v vs d ds q r ih =>
    intro full ho nd e
    obtain ⟨l, e1, rfl⟩ := Option.map_eq_some_iff.mp (show (fill s ds ρ).map (d :: ·) = some full from e)
    obtain ⟨h1, h2⟩ := ih ho nd e1
    refine ⟨.dat q h1, ?_⟩
    cases v <;> exact h2
  | @tmp s b vs d ds q nf z w r ih =>
    intro full ho nd e
    obtain ⟨l, e1, rfl⟩ := Option.map_eq_some_iff.mp (show (fill s ds ρ).map (d :: ·) = some full from e)
    obtain ⟨h1, h2⟩ := ih ho nd e1
    exact ⟨.own q nf h1, List.nodup_cons.mpr ⟨w, h2⟩⟩
  | @slot s j v vs ds q r' ih =>
    intro full ho nd e
    have hj := ho j (List.mem_cons_self ..)
    have nd' := List.nodup_cons.mp (show (j :: slots s).Nodup from nd)
    cases e2 : ρ[j]? with
    | none => simp only [fill, e2] at e; cases e
    | some o =>
      cases o with
      | none => simp only [fill, e2] at e; cases e
      | some d =>
        simp only [fill, e2] at e
        obtain ⟨l, e1, rfl⟩ := Option.map_eq_some_iff.mp e
        obtain ⟨h1, h2⟩ := ih (fun j' hj' => ho j' (List.mem_cons_of_mem _ hj')) nd'.2 e1
        obtain ⟨a, ha, nf, oa, _⟩ := r.own j d e2 hj
        rw [q] at ha; cases ha
        refine ⟨.own oa nf h1, List.nodup_cons.mpr ⟨fun hm => ?_, h2⟩⟩
        rcases r'.mem hm with ⟨j', k1, k2⟩ | ⟨k1, _⟩
        · obtain ⟨d', hd'⟩ := r.dom j' (ho j' (List.mem_cons_of_mem _ k1)) _ k2
          have := r.inj j j' a d d' hj (ho j' (List.mem_cons_of_mem _ k1)) e2 hd' q k2
          subst this
          exact nd'.1 k1
        · exact rs.nownN k1 ⟨j, hj, q⟩
def trip : List Sl → List V → List D → List (Nat × Addr × D)
  | .slot j :: s, .ref a :: vs, e :: es => (j, a, e) :: trip s vs es
  | .tmp :: s, _ :: vs, _ :: es => trip s vs es
  | .dat :: s, _ :: vs, es => trip s vs es
  | _, _, _ => []
theorem HeldA.trip {sl : List Sl} {vs : List V} {ds : List D} (h : HeldA K F H Hs σ sl vs ds) : ∀ {es : List D} {ρ' : Env}, (∀ j ∈ slots sl, ∃ a, σ[j]? = some (some (.ref a))) → OutAt K F' H' (mAs (sl.map Sl.m) vs) es →
    put sl es ρ' = some (sets (trip sl vs es) ρ') ∧ (trip sl vs es).map (·.1) = slots sl ∧ (∀ i a d, (i, a, d) ∈ trip sl vs es → i ∈ slots sl ∧ σ[i]? = some (some (.ref a)) ∧ OwnAt K F' H' a d ∧ ¬ F' a) ∧
    (∀ a ∈ mAs (sl.map Sl.m) vs, (∃ i d, (i, a, d) ∈ trip sl vs es) ∨ (Hs a = none ∧ ¬ F a)) := by
  induction h with
  | nil => intro es ρ' ho o; cases o; exact ⟨rfl, rfl, (fun i a d z => by cases z), (fun a z => by cases z)⟩
  | @dat s v vs d ds q r ih =>
    intro es ρ' ho o
    have o' : OutAt K F' H' (mAs (s.map Sl.m) vs) es := by cases v <;> exact o
    obtain ⟨h1, h2, h3, h4⟩ := ih (ρ' := ρ') ho o'
    exact ⟨h1, h2, h3, fun a ha => h4 a (by cases v <;> exact ha)⟩
  | @tmp s b vs d ds q nf z w r ih =>
    intro es ρ' ho o
    have o0 : OutAt K F' H' (b :: mAs (s.map Sl.m) vs) es := o
    cases o0 with
    | cons oa na o' =>
      obtain ⟨h1, h2, h3, h4⟩ := ih (ρ' := ρ') ho o'
      refine ⟨h1, h2, h3, fun a ha => ?_⟩
      rcases List.mem_cons.mp (show a ∈ b :: mAs (s.map Sl.m) vs from ha) with rfl | ha
      · exact .inr ⟨z, nf⟩
      · exact h4 a ha
  | @slot s j v vs ds q r ih =>
    intro es ρ' ho o
    obtain ⟨a, ha⟩ := ho j (List.mem_cons_self ..)
    rw [q] at ha; cases ha
    have o0 : OutAt K F' H' (a :: mAs (s.map Sl.m) vs) es := o
    cases o0 with
    | @cons _ _ e es' oa na o' =>
      obtain ⟨h1, h2, h3, h4⟩ := ih (ρ' := ρ'.set j (some e)) (fun j' hj' => ho j' (List.mem_cons_of_mem _ hj')) o'
      refine ⟨h1, congrArg (j :: ·) h2, fun i b d hm => ?_, fun b hb => ?_⟩
      · rcases List.mem_cons.mp (show (i, b, d) ∈ (j, a, e) :: VL.trip s vs es' from hm) with z | hm
        · cases z
          exact ⟨List.mem_cons_self .., q, oa, na⟩
        · obtain ⟨k1, k2⟩ := h3 i b d hm
          exact ⟨List.mem_cons_of_mem _ k1, k2⟩
      · rcases List.mem_cons.mp (show b ∈ a :: mAs (s.map Sl.m) vs from hb) with rfl | hb
        · exact .inl ⟨j, e, List.mem_cons_self ..⟩
        · rcases h4 b hb with ⟨i, d, hm⟩ | hh
          · exact .inl ⟨i, d, List.mem_cons_of_mem _ hm⟩
          · exact .inr hh
theorem fill_def : ∀ {sl : List Sl} {ds full : List D}, fill sl ds ρ = some full → ∀ j ∈ slots sl, ∃ d, ρ[j]? = some (some d)
  | [], _, _, _, j, hj => by cases hj
  | .dat :: s, [], _, e, _, _ => by cases e
  | .dat :: s, d :: ds, _, e, j, hj => by
    obtain ⟨l, e1, _⟩ := Option.map_eq_some_iff.mp (show (fill s ds ρ).map (d :: ·) = some _ from e)
    exact fill_def e1 j hj
  | .tmp :: s, [], _, e, _, _ => by cases e
  | .tmp :: s, d :: ds, _, e, j, hj => by
    obtain ⟨l, e1, _⟩ := Option.map_eq_some_iff.mp (show (fill s ds ρ).map (d :: ·) = some _ from e)
    exact fill_def e1 j hj
  | .slot i :: s, ds, full, e, j, hj => by
    cases e2 : ρ[i]? with
    | none => simp only [fill, e2] at e; cases e
    | some o =>
      cases o with
      | none => simp only [fill, e2] at e; cases e
      | some d =>
        simp only [fill, e2] at e
        obtain ⟨l, e1, _⟩ := Option.map_eq_some_iff.mp e
        rcases List.mem_cons.mp (show j ∈ i :: slots s from hj) with rfl | hj
        · exact ⟨d, e2⟩
        · exact fill_def e1 j hj
end

theorem mAs_none : ∀ {sl : List Sl} {vs : List V}, sl.all (fun s => !s.m) = true → mAs (sl.map Sl.m) vs = []
  | [], vs, _ => by cases vs <;> rfl
  | s :: sl, [], _ => by cases s <;> rfl
  | s :: sl, v :: vs, h => by
    rw [List.all_cons, Bool.and_eq_true] at h
    have ih := mAs_none (vs := vs) h.2
    cases s with
    | dat => cases v <;> exact ih
    | slot j => cases h.1
    | tmp => cases h.1
/-! ### a call of a def -/
def mCallF (f : Fn) (sl : List Sl) (m : M (List D)) : M D := fun ρ => (m ρ).bind fun p => match fill sl p.1 p.2 with
  | none => .stuck
  | some full => match f full with
    | .ok q => match put sl q.2 p.2 with
      | none => .stuck
      | some ρ' => .ok (q.1, ρ')
    | .exc c fs _ => if sl.all (fun s => !s.m) = true then .exc c fs p.2 else .stuck
    | .stuck => .stuck
section
variable {X : Cx} {B : Eb} {Γ : Gm} {Ek : XK} {CX : CXT} {k : Nat} {f : Addr} {fd : FuncData} {ps : List Str} {x : Str} {p pos : Pos} {e : Expr} {es : List Expr} {sl : List Sl} {m : M (List D)} {ms : List Bool} {fn : Fn} {ro : Bool}
theorem callt (hms : sl.map Sl.m = ms) (nd : (slots sl).Nodup) (ho : ∀ j ∈ slots sl, j ∈ Γ.O) {σ : St} {H : Hp} {Q : VK}
    (h : tG (fun H F' H' v d => ResAt X.K ro H F' H' v d) X.K B Γ (fun _ => Ek) (mCallF fn sl m) σ H Q) : tCall (spV X.K B ms ro fn) [] Ek (tM X.K B Γ (fun _ => Ek) sl m) σ H Q := by
  obtain ⟨F, ρ, r, h⟩ := h
  refine ⟨F, ρ, r, ?_⟩
  unfold mCallF at h
  cases e1 : m ρ with
  | stuck => rw [e1] at h; exact h.elim
  | exc c fs ρ' => rw [e1] at h; exact h
  | ok q =>
    obtain ⟨ds, ρ1⟩ := q
    rw [e1] at h
    intro vs H1 F1 r1 k1 hh
    show spV X.K B ms ro fn (vs ++ []) H1 Q Ek
    rw [List.append_nil]
    cases e2 : fill sl ds ρ1 with
    | none => simp only [R.bind, e2] at h; exact h.elim
    | some full =>
      simp only [R.bind, e2] at h
      obtain ⟨ha, hnd⟩ := hh.args r1 r ho nd e2
      rw [hms] at ha hnd
      refine ⟨F1, full, r1.trk, ha, hnd, ?_⟩
      cases e3 : fn full with
      | stuck => rw [e3] at h; exact h.elim
      | exc c fs ρ' =>
        rw [e3] at h
        by_cases c1 : sl.all (fun s => !s.m) = true
        · simp only [if_pos c1] at h
          have na : mAs ms vs = [] := by rw [← hms]; exact mAs_none c1
          exact ⟨na, fun H' F' od ex xa => h F' H' od (r1.to ex) (k1.trans ex.kp) xa⟩
        · simp only [if_neg c1] at h
          exact h.elim
      | ok q =>
        rw [e3] at h
        intro v H' F' fr out res
        rw [← hms] at fr out
        have hs : ∀ j ∈ slots sl, ∃ a, σ[j]? = some (some (.ref a)) := fun j hj => by
          obtain ⟨d, hd⟩ := fill_def e2 j hj
          obtain ⟨a, ha, _⟩ := r1.own j d hd (ho j hj)
          exact ⟨a, ha⟩
        obtain ⟨t1, t2, t3, t4⟩ := hh.trip (ρ' := ρ1) hs out
        simp only [t1] at h
        obtain ⟨r2, k2⟩ := r1.after k1 fr (T := trip sl vs q.2) (by rw [t2]; exact nd) (fun i a d hm => by
          obtain ⟨z1, z2, z3, z4⟩ := t3 i a d hm
          exact ⟨ho i z1, z2, z3, z4, fill_def e2 i z1⟩) (fun a hm => by
          rcases t4 a hm with z | ⟨z, zf⟩
          · exact .inl z
          · exact .inr ⟨r.nownN z, r.h0 z, zf, z⟩)
        refine h v H' F' r2 k2 ?_
        unfold ResAt at res ⊢
        cases ro with
        | false => exact res
        | true =>
          obtain ⟨a, rfl, oa, na, hn⟩ := res
          exact ⟨a, rfl, oa, na, k1.none0 r1 hn⟩
theorem ve_call (F : FnOk X.prog X.w X.K X.mg X.base CX k f fd ps (spV X.K B ms false fn)) (hr : Room k X.A) (hg : Gl X x) (hm : X.mg x = some (.ref f)) (hk : PySem.W.keepIn X.K (.ref f) = true) (hb : Binds X.K fd ps []) (hx : Passes CX X Ek)
    (ha : VM X B Γ (fun _ => Ek) (e :: es) sl m) (ho : ∀ j ∈ slots sl, j ∈ Γ.O) (hms : sl.map Sl.m = ms := by rfl) (nd : (slots sl).Nodup := by decide) (hdb : (x == ("__debug__" : Str)) = false := by decide) (he : starEach (e :: es) X.env = (false, eval e X.env) :: starEach es X.env := by rfl)
    (hpl : (backTo pos (starEach es X.env)).any (·.1) = false := by rfl) : VE X B Γ (fun _ => Ek) (.Call (.Name x p) (e :: es) [] pos) (mCallF fn sl m) :=
  PE.imp (pe_call F hr hg hm hk hb .nil hx ha hdb he hpl) fun σ H Q h => callt hms nd ho h
theorem vo_call (F : FnOk X.prog X.w X.K X.mg X.base CX k f fd ps (spV X.K B ms true fn)) (hr : Room k X.A) (hg : Gl X x) (hm : X.mg x = some (.ref f)) (hk : PySem.W.keepIn X.K (.ref f) = true) (hb : Binds X.K fd ps []) (hx : Passes CX X Ek)
    (ha : VM X B Γ (fun _ => Ek) (e :: es) sl m) (ho : ∀ j ∈ slots sl, j ∈ Γ.O) (hms : sl.map Sl.m = ms := by rfl) (nd : (slots sl).Nodup := by decide) (hdb : (x == ("__debug__" : Str)) = false := by decide) (he : starEach (e :: es) X.env = (false, eval e X.env) :: starEach es X.env := by rfl)
    (hpl : (backTo pos (starEach es X.env)).any (·.1) = false := by rfl) : VO X B Γ (fun _ => Ek) (.Call (.Name x p) (e :: es) [] pos) (mCallF fn sl m) :=
  PE.imp (pe_call F hr hg hm hk hb .nil hx ha hdb he hpl) fun σ H Q h => callt hms nd ho h
theorem ve_call0 (F : FnOk X.prog X.w X.K X.mg X.base CX k f fd ps (spV X.K B [] false fn)) (hr : Room k X.A) (hg : Gl X x) (hm : X.mg x = some (.ref f)) (hk : PySem.W.keepIn X.K (.ref f) = true) (hb : Binds X.K fd ps []) (hx : Passes CX X Ek)
    (hdb : (x == ("__debug__" : Str)) = false := by decide) : VE X B Γ (fun _ => Ek) (.Call (.Name x p) [] [] pos) (mCallF fn [] mNil) :=
  PE.imp (pe_call0 F hr hg hm hk hb .nil hx hdb) fun σ H Q h => by
    have q := callt (X := X) (ro := false) (sl := []) (m := mNil) rfl .nil (fun j hj => by cases hj) h
    obtain ⟨F, ρ, r, hq⟩ := q
    exact hq [] H F r .refl .nil
theorem vo_call0 (F : FnOk X.prog X.w X.K X.mg X.base CX k f fd ps (spV X.K B [] true fn)) (hr : Room k X.A) (hg : Gl X x) (hm : X.mg x = some (.ref f)) (hk : PySem.W.keepIn X.K (.ref f) = true) (hb : Binds X.K fd ps []) (hx : Passes CX X Ek)
    (hdb : (x == ("__debug__" : Str)) = false := by decide) : VO X B Γ (fun _ => Ek) (.Call (.Name x p) [] [] pos) (mCallF fn [] mNil) :=
  PE.imp (pe_call0 F hr hg hm hk hb .nil hx hdb) fun σ H Q h => by
    have q := callt (X := X) (ro := true) (sl := []) (m := mNil) rfl .nil (fun j hj => by cases hj) h
    obtain ⟨F, ρ, r, hq⟩ := q
    exact hq [] H F r .refl .nil
end

/-! ### a def keeps its promise -/
/-- the slots of the parameters that may be changed -/
def mPs : Nat → List Bool → List Nat
  | _, [] => []
  | i, true :: ms => i :: mPs (i + 1) ms
  | i, false :: ms => mPs (i + 1) ms
def outs : List Nat → Env → Option (List D)
  | [], _ => some []
  | i :: is, ρ => match ρ[i]? with
    | some (some d) => (outs is ρ).map (d :: ·)
    | _ => none
def startE (n : Nat) (ds : List D) : Env := ds.map some ++ List.replicate (n - ds.length) none
def runF (ro : Bool) (n : Nat) (Ps : List Nat) (m : M Fl) : Fn := fun ds => match m (startE n ds) with
  | .ok p => match p.1 with
    | .rt d => match outs Ps p.2 with
      | some es => .ok (d, es)
      | none => .stuck
    | .nx => if ro = true then .stuck else match outs Ps p.2 with
      | some es => .ok (.none, es)
      | none => .stuck
    | _ => .stuck
  | .exc c fs _ => if Ps = [] then .exc c fs [] else .stuck
  | .stuck => .stuck
section
variable {K : PySem.W.Frag} {F F' : Fz} {H H' : Hp}
theorem ArgsAt.val : ∀ {ms : List Bool} {vs : List V} {ds : List D} (i : Nat), ArgsAt K F H ms vs ds → ∀ {k : Nat} {d : D}, ds[k]? = some d → ∃ v, vs[k]? = some v ∧ (i + k ∉ mPs i ms → Dq K F H v d) ∧
    (i + k ∈ mPs i ms → ∃ a, v = .ref a ∧ OwnAt K F H a d ∧ ¬ F a ∧ a ∈ mAs ms vs ∧ (i + k, a) ∈ (mPs i ms).zip (mAs ms vs))
  | _, _, _, i, .nil, k, d, h => by simp at h
  | _, _, _, i, .dat (ms := ms) (v := v) (vs := vs) q r, 0, d, h => by
    simp at h; subst h
    have hn : ∀ (ms : List Bool) (j : Nat), i < j → i ∉ mPs j ms := by
      intro ms
      induction ms with
      | nil => intro j _ z; cases z
      | cons b ms ih =>
        intro j hj z
        cases b with
        | true =>
          rcases List.mem_cons.mp (show i ∈ j :: mPs (j + 1) ms from z) with e | z
          · omega
          · exact ih (j + 1) (by omega) z
        | false => exact ih (j + 1) (by omega) z
    exact ⟨v, rfl, fun _ => q, fun z => absurd z (hn ms (i + 1) (by omega))⟩
  | _, _, _, i, .dat (ms := ms) (v := v) (vs := vs) q r, k + 1, d, h => by
    obtain ⟨w, h1, h2, h3⟩ := ArgsAt.val (i + 1) r (k := k) (d := d) (by simpa using h)
    have e : i + (k + 1) = i + 1 + k := by omega
    have e2 : mAs (false :: ms) (v :: vs) = mAs ms vs := by cases v <;> rfl
    rw [e, e2]
    exact ⟨w, by simpa using h1, h2, h3⟩
  | _, _, _, i, .own (ms := ms) (a := a) (vs := vs) q nf r, 0, d, h => by
    simp at h; subst h
    exact ⟨.ref a, rfl, fun z => absurd (List.mem_cons_self ..) z, fun _ => ⟨a, rfl, q, nf, List.mem_cons_self .., List.mem_cons_self ..⟩⟩
  | _, _, _, i, .own (ms := ms) (a := a) (vs := vs) q nf r, k + 1, d, h => by
    obtain ⟨w, h1, h2, h3⟩ := ArgsAt.val (i + 1) r (k := k) (d := d) (by simpa using h)
    have e : i + (k + 1) = i + 1 + k := by omega
    rw [e]
    refine ⟨w, by simpa using h1, fun z => h2 fun y => z (List.mem_cons_of_mem _ y), fun z => ?_⟩
    rcases List.mem_cons.mp (show i + 1 + k ∈ i :: mPs (i + 1) ms from z) with e' | z
    · omega
    · obtain ⟨b, z1, z2, z3, z4, z5⟩ := h3 z
      exact ⟨b, z1, z2, z3, List.mem_cons_of_mem _ z4, List.mem_cons_of_mem _ z5⟩
theorem ArgsAt.pin : ∀ {ms : List Bool} {vs : List V} {ds : List D} (i : Nat), ArgsAt K F H ms vs ds → ∀ {j : Nat} {a : Addr}, (j, a) ∈ (mPs i ms).zip (mAs ms vs) → ∃ k d, j = i + k ∧ vs[k]? = some (.ref a) ∧ ds[k]? = some d
  | _, _, _, i, .nil, j, a, h => by cases h
  | _, _, _, i, .dat (ms := ms) (v := v) (vs := vs) q r, j, a, h => by
    have e2 : mAs (false :: ms) (v :: vs) = mAs ms vs := by cases v <;> rfl
    rw [e2] at h
    obtain ⟨k, d, e, h1, h2⟩ := ArgsAt.pin (i + 1) r h
    exact ⟨k + 1, d, by omega, by simpa using h1, by simpa using h2⟩
  | _, _, _, i, .own (ms := ms) (a := b) (vs := vs) q nf r, j, a, h => by
    rcases List.mem_cons.mp (show (j, a) ∈ (i, b) :: (mPs (i + 1) ms).zip (mAs ms vs) from h) with e | h
    · cases e
      exact ⟨0, _, rfl, rfl, rfl⟩
    · obtain ⟨k, d, e, h1, h2⟩ := ArgsAt.pin (i + 1) r h
      exact ⟨k + 1, d, by omega, by simpa using h1, by simpa using h2⟩
theorem ArgsAt.own' : ∀ {ms : List Bool} {vs : List V} {ds : List D}, ArgsAt K F H ms vs ds → ∀ a ∈ mAs ms vs, ¬ F a ∧ ∃ o, H a = some o
  | _, _, _, .nil, a, h => by cases h
  | _, _, _, .dat (ms := ms) (v := v) (vs := vs) q r, a, h => by
    have e2 : mAs (false :: ms) (v :: vs) = mAs ms vs := by cases v <;> rfl
    rw [e2] at h
    exact ArgsAt.own' r a h
  | _, _, _, .own (a := b) q nf r, a, h => by
    rcases List.mem_cons.mp (show a ∈ b :: _ from h) with e | h
    · subst e; exact ⟨nf, q.some⟩
    · exact ArgsAt.own' r a h
theorem mPs_len : ∀ {ms : List Bool} {vs : List V} {ds : List D} (i : Nat), ArgsAt K F H ms vs ds → (mPs i ms).length = (mAs ms vs).length
  | _, _, _, i, .nil => rfl
  | _, _, _, i, .dat (ms := ms) (v := v) (vs := vs) q r => by
    have e2 : mAs (false :: ms) (v :: vs) = mAs ms vs := by cases v <;> rfl
    rw [e2]
    exact mPs_len (i + 1) r
  | _, _, _, i, .own q nf r => congrArg (· + 1) (mPs_len (i + 1) r)
theorem nodup_fst {α β : Type} : ∀ {l : List (α × β)} {i j : α} {a : β}, (l.map (·.2)).Nodup → (i, a) ∈ l → (j, a) ∈ l → i = j
  | [], _, _, _, _, h, _ => by cases h
  | p :: l, i, j, a, nd, h1, h2 => by
    rw [List.map_cons, List.nodup_cons] at nd
    rcases List.mem_cons.mp h1 with e1 | h1
    · rcases List.mem_cons.mp h2 with e2 | h2
      · exact congrArg Prod.fst (e1.trans e2.symm)
      · exact absurd (by rw [← e1]; exact List.mem_map.mpr ⟨_, h2, rfl⟩) nd.1
    · rcases List.mem_cons.mp h2 with e2 | h2
      · exact absurd (by rw [← e2]; exact List.mem_map.mpr ⟨_, h1, rfl⟩) nd.1
      · exact nodup_fst nd.2 h1 h2
theorem zip_snd {α β : Type} : ∀ {l : List α} {m : List β}, l.length = m.length → (l.zip m).map (·.2) = m
  | [], [], _ => rfl
  | [], _ :: _, h => by cases h
  | _ :: _, [], h => by cases h
  | a :: l, b :: m, h => by
    rw [List.zip_cons_cons, List.map_cons, zip_snd (Nat.succ.inj h)]
/-- the state at a def's entry -/
theorem rel_start {ms : List Bool} {vs : List V} {ds : List D} {n : Nat} (t : Trk F H) (h : ArgsAt K F H ms vs ds) (nd : (mAs ms vs).Nodup) (hn : ms.length ≤ n) : Rel K (Gd.w ⟨mAs ms vs, F, H⟩ (mPs 0 ms) (mPs 0 ms)) F (startE n ds) (vs.map some ++ List.replicate (n - vs.length) none) H := by
  obtain ⟨l1, l2⟩ := h.len
  have get : ∀ i d, (startE n ds)[i]? = some (some d) → ds[i]? = some d := fun i d hi => by
    unfold startE at hi
    by_cases c : i < ds.length
    · rw [List.getElem?_append_left (by simpa using c), List.getElem?_map] at hi
      cases e : ds[i]? with
      | none => rw [e] at hi; cases hi
      | some a => rw [e] at hi; cases hi; rfl
    · rw [List.getElem?_append_right (by simpa using c), List.getElem?_replicate] at hi
      split at hi <;> cases hi
  have getV : ∀ (i : Nat) (v : V), (vs.map some ++ List.replicate (n - vs.length) none : St)[i]? = some (some v) → vs[i]? = some v := fun i d hi => by
    by_cases c : i < vs.length
    · rw [List.getElem?_append_left (by simpa using c), List.getElem?_map] at hi
      cases e : vs[i]? with
      | none => rw [e] at hi; cases hi
      | some a => rw [e] at hi; cases hi; rfl
    · rw [List.getElem?_append_right (by simpa using c), List.getElem?_replicate] at hi
      split at hi <;> cases hi
  have putV : ∀ (i : Nat) (v : V), vs[i]? = some v → (vs.map some ++ List.replicate (n - vs.length) none : St)[i]? = some (some v) := fun i v hi => by
    obtain ⟨w, e⟩ := List.getElem?_eq_some_iff.mp hi
    rw [List.getElem?_append_left (by simpa using w), List.getElem?_map, hi]
    rfl
  have putD : ∀ (i : Nat) (d : D), ds[i]? = some d → (startE n ds)[i]? = some (some d) := fun i v hi => by
    obtain ⟨w, e⟩ := List.getElem?_eq_some_iff.mp hi
    unfold startE
    rw [List.getElem?_append_left (by simpa using w), List.getElem?_map, hi]
    rfl
  have own : ∀ i d, ds[i]? = some d → i ∈ mPs 0 ms → ∃ a, vs[i]? = some (.ref a) ∧ OwnAt K F H a d ∧ ¬ F a ∧ (i, a) ∈ (mPs 0 ms).zip (mAs ms vs) := fun i d hd hi => by
    obtain ⟨v, h1, _, h3⟩ := h.val 0 hd
    rw [Nat.zero_add] at h3
    obtain ⟨a, rfl, z2, z3, z4, z5⟩ := h3 hi
    exact ⟨a, h1, z2, z3, z5⟩
  refine ⟨by unfold startE; simp only [List.length_append, List.length_map, List.length_replicate]; omega, t, fun i d hi ni => ?_, fun i d hi ni => ?_, fun i j a d e hi hj h1 h2 h3 h4 => ?_, fun i a hi => ?_, fun b o hb _ => hb, fun b hb => .inl hb, fun b hb => hb, fun j hj v hs => ?_⟩
  · obtain ⟨v, h1, h2, _⟩ := h.val 0 (get i d hi)
    rw [Nat.zero_add] at h2
    exact ⟨v, putV i v h1, h2 ni⟩
  · obtain ⟨a, h1, h2, h3, h4⟩ := own i d (get i d hi) ni
    exact ⟨a, putV i _ h1, h3, h2, .inr h4⟩
  · obtain ⟨a1, k1, _, _, k4⟩ := own i d (get i d h1) hi
    obtain ⟨a2, m1, _, _, m4⟩ := own j e (get j e h2) hj
    rw [getV i _ h3] at k1; cases k1
    rw [getV j _ h4] at m1; cases m1
    exact nodup_fst (by rw [zip_snd (mPs_len 0 h)]; exact nd) k4 m4
  · obtain ⟨k, d, e, h1, h2⟩ := h.pin 0 hi
    rw [Nat.zero_add] at e
    subst e
    exact ⟨(List.of_mem_zip hi).1, ⟨d, putD _ d h2⟩, putV _ _ h1⟩
  · have hv := getV j v hs
    have : j < ds.length := by
      obtain ⟨w, _⟩ := List.getElem?_eq_some_iff.mp hv
      omega
    exact ⟨ds[j], putD j _ (List.getElem?_eq_getElem this)⟩
theorem outs_at {G : Gd} {Ps O : List Nat} {ρ : Env} {σ : St} : ∀ (Qs : List Nat) (as : List Addr) (es : List D), (∀ j a, (j, a) ∈ Qs.zip as → (j, a) ∈ Ps.zip G.As) → Qs.length = as.length → Rel K (G.w Ps O) F ρ σ H → outs Qs ρ = some es → OutAt K F H as es
  | [], [], es, _, _, r, e => by cases e; exact .nil
  | [], _ :: _, _, _, h, _, _ => by cases h
  | _ :: _, [], _, _, h, _, _ => by cases h
  | q :: Qs, a :: as, es, hz, hl, r, e => by
    obtain ⟨h1, ⟨d, h2⟩, h3⟩ := r.pin q a (hz q a (List.mem_cons_self ..))
    simp only [outs, h2] at e
    obtain ⟨l, e1, rfl⟩ := Option.map_eq_some_iff.mp e
    obtain ⟨b, k1, k2, k3, _⟩ := r.own q d h2 h1
    rw [h3] at k1; cases k1
    exact .cons k3 k2 (outs_at Qs as l (fun j a' z => hz j a' (List.mem_cons_of_mem _ z)) (Nat.succ.inj hl) r e1)
end
/-- THE RULE for a def: its body's judgement, for every entry -/
theorem fn_ok {P : Program} {w : World} {K : PySem.W.Frag} {mg : Str → Option Value} {base : Heap} {x qual : Str} {params : Arguments} {body : List Stmt} {scope : Scope} {dvs : List V} {kws : List (Str × V)} {f : Addr} {fd : FuncData} {CX : CXT} {N ps : List Str} {k : Nat} {B : Eb} {ms : List Bool} {ro : Bool} {m : M Fl} {On : List Nat}
    (Fd : FunD K x qual params body scope dvs kws f fd) (S : FnScope N ps scope) (hps : ps.length = ms.length)
    (hbody : ∀ (cdv : Value) (A : Around) (outer : List PySem.Env) (s : Shared) (H : Hp) (E : XK) (G : Gd), Room k (A.deeper (envOfC qual scope s.heap.objs.size f cdv)) →
      VSs (cxOf CX P w K mg base N qual scope f cdv A outer s H E) B G (mPs 0 ms) (fun _ => E) ro (mPs 0 ms) On [] body m) : FnOk P w K mg base CX (k + 1) f fd ps (spV K B ms ro (runF ro N.length (mPs 0 ms) m)) := by
  refine FunD.ok Fd S (fun vs H Q E h => ?_) (fun cdv A outer s H vs Q E hr h => ?_)
  · obtain ⟨F, ds, t, ha, _⟩ := h
    rw [ha.len.1, hps]
  · obtain ⟨F, ds, t, ha, nd, hm⟩ := h
    refine ⟨_, hbody cdv A outer s H E ⟨mAs ms vs, F, H⟩ hr, F, startE N.length ds, ?_, ?_⟩
    · have hpl : ps.length ≤ N.length := by have := congrArg List.length S.pre; rw [List.length_take] at this; omega
      exact rel_start t ha nd (by rw [← hps]; exact hpl)
    · have frm : ∀ {O' : List Nat} {F' : Fz} {ρ' : Env} {σ' : St} {H' : Hp}, Rel K (Gd.w ⟨mAs ms vs, F, H⟩ (mPs 0 ms) O') F' ρ' σ' H' → Frm (mAs ms vs) F H F' H' := fun {O' F' ρ' σ' H'} r =>
        ⟨fun b o hb nb => r.ext b o hb fun i hi => nb (List.of_mem_zip hi).2, r.frm, r.fro, r.trk⟩
      have fin : ∀ {O' : List Nat} {F' : Fz} {ρ' : Env} {σ' : St} {H' : Hp} {es : List D}, Rel K (Gd.w ⟨mAs ms vs, F, H⟩ (mPs 0 ms) O') F' ρ' σ' H' → outs (mPs 0 ms) ρ' = some es → OutAt K F' H' (mAs ms vs) es := fun {O' F' ρ' σ' H' es} r e =>
        outs_at (mPs 0 ms) (mAs ms vs) es (fun j a z => z) (mPs_len 0 ha) r e
      unfold runF at hm
      cases e : m (startE N.length ds) with
      | stuck => rw [e] at hm; exact hm.elim
      | exc c fs ρ' =>
        rw [e] at hm
        by_cases c1 : mPs 0 ms = []
        · simp only [if_pos c1] at hm
          obtain ⟨na, hm⟩ := hm
          intro O' σ' F' H' od r g xa
          have fr := frm r
          rw [na] at fr
          exact hm H' F' od fr.ext xa
        · simp only [if_neg c1] at hm
      | ok p =>
        obtain ⟨fl, ρ'⟩ := p
        rw [e] at hm
        cases fl with
        | rt d =>
          intro O' v σ' H' F' r g ra
          cases e2 : outs (mPs 0 ms) ρ' with
          | none => simp only [e2] at hm
          | some es =>
            simp only [e2] at hm
            exact hm v H' F' (frm r) (fin r e2) ra
        | nx =>
          intro σ' H' F' r g
          cases ro with
          | true => exact False.elim hm
          | false =>
            cases e2 : outs (mPs 0 ms) ρ' with
            | none => simp only [e2] at hm; exact hm.elim
            | some es =>
              simp only [e2] at hm
              exact hm .non H' F' (frm r) (fin r e2) Dq.non
        | bk => exact False.elim hm
        | ct => exact False.elim hm
end VL
end

section
set_option Elab.async false
set_option linter.all false
set_option maxRecDepth 100000
set_option maxHeartbeats 4000000
namespace VL
open PySem PySem.Spec PyProof.Rows L2
set_option autoImplicit false

mutual
theorem Dq.dp {K : PySem.W.Frag} {F : Fz} {H : Hp} : ∀ {v : V} {d : D}, Dq K F H v d → d.plain = true → Dp K H v d
  | _, _, .non, _ => .non
  | _, _, .bl b, _ => .bl b
  | _, _, .int i, _ => .int i
  | _, _, .str x, _ => .str x
  | _, _, .lst h r q, n => .lst (.inl (.inl r)) (DqAll.dp q (by simpa [PyData.plain] using n))
  | _, _, .tup h r q, n => .tup (.inl (.inl r)) (DqAll.dp q (by simpa [PyData.plain] using n))
  | _, _, .tupK w q, n => .tup (.inr w) (DqAll.dp q (by simpa [PyData.plain] using n))
  | _, _, .scr _ _, n => by simp [PyData.plain] at n
  | _, _, .dicK _ _ _, n => by simp [PyData.plain] at n
  | _, _, .dicT _ _ _, n => by simp [PyData.plain] at n
theorem DqAll.dp {K : PySem.W.Frag} {F : Fz} {H : Hp} : ∀ {vs : List V} {ds : List D}, DqAll K F H vs ds → PyData.plainAll ds = true → DpAll K H vs ds
  | _, _, .nil, _ => .nil
  | _, _, .cons q r, n => by
    rw [PyData.plainAll, Bool.and_eq_true] at n
    exact .cons (Dq.dp q n.1) (DqAll.dp r n.2)
end
theorem Dq.rd {F : Fz} {X : Cx} {pins : List (Addr × Obj)} {σ : St} {H : Hp} {s : Shared} {v : V} {u : Value} {d : D} (q : Dq X.K F H v d) (I : Inv X pins σ H s) (r : RelV v u) (n : d.plain = true) : ∃ as, Reads s.heap u d as := Dp.reads I d v u (q.dp n) r
theorem huR {k : Nat} {A : Around} (r : Room k A) : A.units + 150 < cLine := by have := r.un; omega

section
variable {X : Cx} {B : Eb} {Γ : Gm} {E : Wish} {a b : Expr} {ma mb : M D} {pos : Pos}
theorem dq_lst {K : PySem.W.Frag} {F : Fz} {H : Hp} {v : V} {ds : List D} (q : Dq K F H v (.list ds)) : ∃ a xs, v = .ref a ∧ H a = some (.lst xs) ∧ DqAll K F H xs ds := by
  cases q with
  | lst f r q => exact ⟨_, _, rfl, r, q⟩

/-! ### arithmetic -/
def gAdd : D → D → Option D
  | .int i, .int j => some (.int (i + j))
  | .str x, .str y => if x.length + y.length ≤ sizeLine then some (.str (x ++ y)) else none
  | .list xs, .list ys => if xs.length + ys.length ≤ sizeLine then some (.list (xs ++ ys)) else none
  | .tuple xs, .tuple ys => if xs.length + ys.length ≤ sizeLine then some (.tuple (xs ++ ys)) else none
  | _, _ => none
theorem ite_some {α : Type} {c : Prop} [Decidable c] {a b : α} (h : (if c then some a else none) = some b) : c ∧ a = b := by
  by_cases k : c
  · rw [if_pos k] at h; exact ⟨k, Option.some.inj h⟩
  · rw [if_neg k] at h; cases h
theorem op_addV : OpR X (binaryOp .Add) (rV X.K gAdd) := by
  intro pins s σ H x y v u Q I rx ry h
  obtain ⟨F, dx, dy, d, t, qx, qy, e, gv⟩ := h
  cases dx with
  | int i =>
    cases dy with
    | int j =>
      cases e
      cases dq_int qx
      cases dq_int qy
      exact op_add pins s σ H _ _ v u Q I rx ry ⟨i, j, rfl, rfl, gv.here t (.int _)⟩
    | _ => cases e
  | str i =>
    cases dy with
    | str j =>
      obtain ⟨c, rfl⟩ := ite_some e
      cases dq_str qx
      cases dq_str qy
      exact op_add_str pins s σ H _ _ v u Q I rx ry ⟨i, j, rfl, rfl, c, gv.here t (.str _)⟩
    | _ => cases e
  | list i =>
    cases dy with
    | list j =>
      obtain ⟨c, rfl⟩ := ite_some e
      obtain ⟨a, xs, rfl, ha, qa⟩ := dq_lst qx
      obtain ⟨b, ys, rfl, hb, qb⟩ := dq_lst qy
      exact op_cat pins s σ H _ _ v u Q I rx ry ⟨a, b, xs, ys, rfl, rfl, ha, hb, by rw [qa.length, qb.length]; exact c, fun p np => gv.lst t (qa.append qb) np⟩
    | _ => cases e
  | tuple i =>
    cases dy with
    | tuple j =>
      obtain ⟨c, rfl⟩ := ite_some e
      obtain ⟨a, xs, rfl, ha, qa⟩ := dq_sqT qx
      obtain ⟨b, ys, rfl, hb, qb⟩ := dq_sqT qy
      refine op_catA pins s σ H _ _ v u Q I rx ry ⟨a, b, xs, ys, rfl, rfl, ha, hb, by rw [qa.length, qb.length]; exact c, fun z => ?_, fun _ z => ?_, fun _ _ p np => gv.tup t (qa.append qb) np⟩
      · subst z
        cases qa
        exact gv.here t qy
      · subst z
        cases qb
        rw [List.append_nil] at gv
        exact gv.here t qx
    | _ => cases e
  | _ => cases e
def gSub : D → D → Option D
  | .int i, .int j => some (.int (i - j))
  | _, _ => none
theorem op_subV : OpR X (binaryOp .Sub) (rV X.K gSub) := by
  intro pins s σ H x y v u Q I rx ry h
  obtain ⟨F, dx, dy, d, t, qx, qy, e, gv⟩ := h
  cases dx with
  | int i =>
    cases dy with
    | int j =>
      cases e
      cases dq_int qx
      cases dq_int qy
      exact op_sub pins s σ H _ _ v u Q I rx ry ⟨i, j, rfl, rfl, gv.here t (.int _)⟩
    | _ => cases e
  | _ => cases e
def gMul : D → D → Option D
  | .int i, .int j => if (-(2 ^ 64) < i ∧ i < 2 ^ 64) ∨ (-(2 ^ 64) < j ∧ j < 2 ^ 64) then some (.int (i * j)) else none
  | .list xs, .int k => if -(2 ^ 63) ≤ k ∧ k < 2 ^ 63 ∧ xs.length * k.toNat ≤ sizeLine then some (.list (List.replicate k.toNat xs).flatten) else none
  | .tuple xs, .int k => if xs ≠ [] ∧ 2 ≤ k ∧ k ≤ 1000 ∧ xs.length ≤ 1000 then some (.tuple (List.replicate k.toNat xs).flatten) else none
  | _, _ => none
theorem DqAll.rep {K : PySem.W.Frag} {F : Fz} {H : Hp} {vs : List V} {ds : List D} (q : DqAll K F H vs ds) : ∀ n : Nat, DqAll K F H (List.replicate n vs).flatten (List.replicate n ds).flatten
  | 0 => .nil
  | n + 1 => by
    rw [List.replicate_succ, List.replicate_succ, List.flatten_cons, List.flatten_cons]
    exact q.append (DqAll.rep q n)
theorem op_mulV : OpR X (binaryOp .Mult) (rV X.K gMul) := by
  intro pins s σ H x y v u Q I rx ry h
  obtain ⟨F, dx, dy, d, t, qx, qy, e, gv⟩ := h
  cases dx with
  | int i =>
    cases dy with
    | int j =>
      obtain ⟨c, rfl⟩ := ite_some e
      cases dq_int qx
      cases dq_int qy
      exact op_mul pins s σ H _ _ v u Q I rx ry ⟨i, j, rfl, rfl, c, gv.here t (.int _)⟩
    | _ => cases e
  | list i =>
    cases dy with
    | int j =>
      obtain ⟨c, rfl⟩ := ite_some e
      obtain ⟨a, xs, rfl, ha, qa⟩ := dq_lst qx
      cases dq_int qy
      exact op_rep pins s σ H _ _ v u Q I rx ry ⟨a, j, xs, rfl, rfl, ha, c.1, c.2.1, by rw [qa.length]; exact c.2.2, fun p np => gv.lst t (qa.rep _) np⟩
    | _ => cases e
  | tuple i =>
    cases dy with
    | int j =>
      obtain ⟨c, rfl⟩ := ite_some e
      obtain ⟨a, xs, rfl, ha, qa⟩ := dq_sqT qx
      cases dq_int qy
      have hn : xs ≠ [] := fun z => c.1 (by subst z; cases qa; rfl)
      exact op_repT pins s σ H _ _ v u Q I rx ry ⟨a, j, xs, rfl, rfl, ha, hn, c.2.1, c.2.2.1, by rw [qa.length]; exact c.2.2.2, fun p np => gv.tup t (qa.rep _) np⟩
    | _ => cases e
  | _ => cases e
def gMod : D → D → Option D
  | .int i, .int j => if 0 < j then some (.int (i % j)) else none
  | _, _ => none
theorem op_modV : OpR X (binaryOp .Mod) (rV X.K gMod) := by
  intro pins s σ H x y v u Q I rx ry h
  obtain ⟨F, dx, dy, d, t, qx, qy, e, gv⟩ := h
  cases dx with
  | int i =>
    cases dy with
    | int j =>
      obtain ⟨c, rfl⟩ := ite_some e
      cases dq_int qx
      cases dq_int qy
      exact op_mod pins s σ H _ _ v u Q I rx ry ⟨i, j, rfl, rfl, c, gv.here t (.int _)⟩
    | _ => cases e
  | _ => cases e
def gFdv : D → D → Option D
  | .int i, .int j => if 0 < j ∧ j < 1073741824 then some (.int (i / j)) else none
  | _, _ => none
theorem op_fdvV : OpR X (binaryOp .FloorDiv) (rV X.K gFdv) := by
  intro pins s σ H x y v u Q I rx ry h
  obtain ⟨F, dx, dy, d, t, qx, qy, e, gv⟩ := h
  cases dx with
  | int i =>
    cases dy with
    | int j =>
      obtain ⟨c, rfl⟩ := ite_some e
      cases dq_int qx
      cases dq_int qy
      exact op_fdiv pins s σ H _ _ v u Q I rx ry ⟨i, j, rfl, rfl, c, gv.here t (.int _)⟩
    | _ => cases e
  | _ => cases e
def gPow : D → D → Option D
  | .int i, .int j => if 0 ≤ j ∧ j ≤ 1000000 ∧ i.natAbs < 2 ^ 64 then some (.int (i ^ j.toNat)) else none
  | _, _ => none
theorem op_powV : OpR X (binaryOp .Pow) (rV X.K gPow) := by
  intro pins s σ H x y v u Q I rx ry h
  obtain ⟨F, dx, dy, d, t, qx, qy, e, gv⟩ := h
  cases dx with
  | int i =>
    cases dy with
    | int j =>
      obtain ⟨c, rfl⟩ := ite_some e
      cases dq_int qx
      cases dq_int qy
      exact op_pow pins s σ H _ _ v u Q I rx ry ⟨i, j, rfl, rfl, c, gv.here t (.int _)⟩
    | _ => cases e
  | _ => cases e

/-! ### comparisons -/
def okc (x y : D) : Bool := x.plain && y.plain && decide (min x.depth y.depth ≤ 100)
theorem okc_ok {x y : D} (h : okc x y = true) : x.plain = true ∧ y.plain = true ∧ min x.depth y.depth ≤ 100 := by
  unfold okc at h
  rw [Bool.and_eq_true, Bool.and_eq_true, decide_eq_true_eq] at h
  exact ⟨h.1.1, h.1.2, h.2⟩
def gEq (x y : D) : Option D := if okc x y = true then some (.bool (PyData.eqv x y)) else none
def gNe (x y : D) : Option D := if okc x y = true then some (.bool (!PyData.eqv x y)) else none
theorem op_eqV (hu : X.A.units + 150 < cLine) : OpR X (compareOp .Eq) (rV X.K gEq) := by
  intro pins s σ H x y v u Q I rx ry h
  obtain ⟨F, dx, dy, d, t, qx, qy, e, gv⟩ := h
  obtain ⟨c, rfl⟩ := ite_some e
  obtain ⟨c1, c2, c3⟩ := okc_ok c
  obtain ⟨as, ra⟩ := qx.rd I rx c1
  obtain ⟨bs, rb⟩ := qy.rd I ry c2
  exact PySem.SeqAt.eq_plain ra rb c1 c2 (by omega) ⟨.bl _, H, I, rfl, gv.here t (.bl _)⟩
theorem op_neV (hu : X.A.units + 150 < cLine) : OpR X (compareOp .NotEq) (rV X.K gNe) := by
  intro pins s σ H x y v u Q I rx ry h
  obtain ⟨F, dx, dy, d, t, qx, qy, e, gv⟩ := h
  obtain ⟨c, rfl⟩ := ite_some e
  obtain ⟨c1, c2, c3⟩ := okc_ok c
  obtain ⟨as, ra⟩ := qx.rd I rx c1
  obtain ⟨bs, rb⟩ := qy.rd I ry c2
  exact PySem.SeqAt.ne_plain ra rb c1 c2 (by omega) ⟨.bl _, H, I, rfl, gv.here t (.bl _)⟩
def isN : D → Bool
  | .none => true
  | _ => false
def okl (x y : D) : Bool := okc x y && PySem.W.alike x y && !isN x
theorem okl_ok {x y : D} (h : okl x y = true) : x.plain = true ∧ y.plain = true ∧ min x.depth y.depth ≤ 100 ∧ PySem.W.alike x y = true ∧ x ≠ .none := by
  unfold okl at h
  rw [Bool.and_eq_true, Bool.and_eq_true] at h
  obtain ⟨c1, c2, c3⟩ := okc_ok h.1.1
  refine ⟨c1, c2, c3, h.1.2, fun z => ?_⟩
  subst z
  cases h.2
def gLt (x y : D) : Option D := if okl x y = true then some (.bool (PySem.W.dataLt x y)) else none
def gGt (x y : D) : Option D := if okl x y = true then some (.bool (PySem.W.dataLt y x)) else none
def gLe (x y : D) : Option D := if okl x y = true then some (.bool (!PySem.W.dataLt y x)) else none
def gGe (x y : D) : Option D := if okl x y = true then some (.bool (!PySem.W.dataLt x y)) else none
theorem op_ltV (hu : X.A.units + 150 < cLine) : OpR X (compareOp .Lt) (rV X.K gLt) := by
  intro pins s σ H x y v u Q I rx ry h
  obtain ⟨F, dx, dy, d, t, qx, qy, e, gv⟩ := h
  obtain ⟨c, rfl⟩ := ite_some e
  obtain ⟨c1, c2, c3, c4, c5⟩ := okl_ok c
  obtain ⟨as, ra⟩ := qx.rd I rx c1
  obtain ⟨bs, rb⟩ := qy.rd I ry c2
  exact PySem.W.lt_data ra rb c4 c5 (by omega) ⟨.bl _, H, I, rfl, gv.here t (.bl _)⟩
theorem op_gtV (hu : X.A.units + 150 < cLine) : OpR X (compareOp .Gt) (rV X.K gGt) := by
  intro pins s σ H x y v u Q I rx ry h
  obtain ⟨F, dx, dy, d, t, qx, qy, e, gv⟩ := h
  obtain ⟨c, rfl⟩ := ite_some e
  obtain ⟨c1, c2, c3, c4, c5⟩ := okl_ok c
  obtain ⟨as, ra⟩ := qx.rd I rx c1
  obtain ⟨bs, rb⟩ := qy.rd I ry c2
  exact PySem.W.gt_data ra rb c4 c5 (by omega) ⟨.bl _, H, I, rfl, gv.here t (.bl _)⟩
theorem op_leV (hu : X.A.units + 150 < cLine) : OpR X (compareOp .LtE) (rV X.K gLe) := by
  intro pins s σ H x y v u Q I rx ry h
  obtain ⟨F, dx, dy, d, t, qx, qy, e, gv⟩ := h
  obtain ⟨c, rfl⟩ := ite_some e
  obtain ⟨c1, c2, c3, c4, c5⟩ := okl_ok c
  obtain ⟨as, ra⟩ := qx.rd I rx c1
  obtain ⟨bs, rb⟩ := qy.rd I ry c2
  exact PySem.W.le_data ra rb c4 c5 (by omega) ⟨.bl _, H, I, rfl, gv.here t (.bl _)⟩
theorem op_geV (hu : X.A.units + 150 < cLine) : OpR X (compareOp .GtE) (rV X.K gGe) := by
  intro pins s σ H x y v u Q I rx ry h
  obtain ⟨F, dx, dy, d, t, qx, qy, e, gv⟩ := h
  obtain ⟨c, rfl⟩ := ite_some e
  obtain ⟨c1, c2, c3, c4, c5⟩ := okl_ok c
  obtain ⟨as, ra⟩ := qx.rd I rx c1
  obtain ⟨bs, rb⟩ := qy.rd I ry c2
  exact PySem.W.ge_data ra rb c4 c5 (by omega) ⟨.bl _, H, I, rfl, gv.here t (.bl _)⟩
def gIs : D → D → Option D
  | x, .none => some (.bool (isN x))
  | _, _ => none
def gIsn : D → D → Option D
  | x, .none => some (.bool (!isN x))
  | _, _ => none
theorem dq_isN {K : PySem.W.Frag} {F : Fz} {H : Hp} {v : V} {d : D} (q : Dq K F H v d) : decide (v = .non) = isN d := by
  cases q <;> simp [isN]
theorem op_isV : OpR X (compareOp .Is) (rV X.K gIs) := by
  intro pins s σ H x y v u Q I rx ry h
  obtain ⟨F, dx, dy, d, t, qx, qy, e, gv⟩ := h
  cases dy with
  | none =>
    cases e
    cases dq_non qy
    exact op_isN pins s σ H _ _ v u Q I rx ry ⟨rfl, by rw [dq_isN qx]; exact gv.here t (.bl _)⟩
  | _ => cases e
theorem op_isnV : OpR X (compareOp .IsNot) (rV X.K gIsn) := by
  intro pins s σ H x y v u Q I rx ry h
  obtain ⟨F, dx, dy, d, t, qx, qy, e, gv⟩ := h
  cases dy with
  | none =>
    cases e
    cases dq_non qy
    exact op_notN pins s σ H _ _ v u Q I rx ry ⟨rfl, by rw [dq_isN qx]; exact gv.here t (.bl _)⟩
  | _ => cases e
/-- in a list, a tuple, a text -/
def inD : D → D → Option Bool
  | x, .list ys => if (x.plain && PyData.plainAll ys && decide (x.depth ≤ 100)) = true then some (ys.any fun y => PyData.eqv y x) else none
  | x, .tuple ys => if (x.plain && PyData.plainAll ys && decide (x.depth ≤ 100)) = true then some (ys.any fun y => PyData.eqv y x) else none
  | .str x, .str y => some (!(Builtin.Str.occurrences y x 0 y.length 1).isEmpty)
  | _, _ => none
def gIn (x y : D) : Option D := (inD x y).map .bool
def gNin (x y : D) : Option D := (inD x y).map fun b => .bool (!b)
theorem op_inV (hu : X.A.units + 150 < cLine) : OpR X (compareOp .In) (rV X.K gIn) := by
  intro pins s σ H x y v u Q I rx ry h
  obtain ⟨F, dx, dy, d, t, qx, qy, e, gv⟩ := h
  obtain ⟨k, e1, rfl⟩ := Option.map_eq_some_iff.mp (show (inD dx dy).map .bool = some d from e)
  cases dy with
  | list ys =>
    have e' : (if (dx.plain && PyData.plainAll ys && decide (dx.depth ≤ 100)) = true then some (ys.any fun y => PyData.eqv y dx) else none) = some k := by cases dx <;> exact e1
    obtain ⟨c, rfl⟩ := ite_some e'
    rw [Bool.and_eq_true, Bool.and_eq_true, decide_eq_true_eq] at c
    obtain ⟨as, ra⟩ := qx.rd I rx c.1.1
    obtain ⟨bs, rb⟩ := qy.rd I ry (by simpa [PyData.plain] using c.1.2)
    exact PySem.SeqAt.in_list_data rb ra c.1.2 c.1.1 (by have := c.2; omega) ⟨.bl _, H, I, rfl, gv.here t (.bl _)⟩
  | tuple ys =>
    have e' : (if (dx.plain && PyData.plainAll ys && decide (dx.depth ≤ 100)) = true then some (ys.any fun y => PyData.eqv y dx) else none) = some k := by cases dx <;> exact e1
    obtain ⟨c, rfl⟩ := ite_some e'
    rw [Bool.and_eq_true, Bool.and_eq_true, decide_eq_true_eq] at c
    obtain ⟨as, ra⟩ := qx.rd I rx c.1.1
    obtain ⟨bs, rb⟩ := qy.rd I ry (by simpa [PyData.plain] using c.1.2)
    exact PySem.SeqAt.in_tuple_data rb ra c.1.2 c.1.1 (by have := c.2; omega) ⟨.bl _, H, I, rfl, gv.here t (.bl _)⟩
  | str y =>
    cases dx with
    | str x =>
      cases e1
      cases dq_str qx
      cases dq_str qy
      exact op_in_str pins s σ H _ _ v u Q I rx ry ⟨x, y, rfl, rfl, gv.here t (.bl _)⟩
    | _ => cases e1
  | _ => cases dx <;> cases e1
theorem op_ninV (hu : X.A.units + 150 < cLine) : OpR X (compareOp .NotIn) (rV X.K gNin) := by
  intro pins s σ H x y v u Q I rx ry h
  obtain ⟨F, dx, dy, d, t, qx, qy, e, gv⟩ := h
  obtain ⟨k, e1, rfl⟩ := Option.map_eq_some_iff.mp (show (inD dx dy).map (fun b => .bool (!b)) = some d from e)
  cases dy with
  | list ys =>
    have e' : (if (dx.plain && PyData.plainAll ys && decide (dx.depth ≤ 100)) = true then some (ys.any fun y => PyData.eqv y dx) else none) = some k := by cases dx <;> exact e1
    obtain ⟨c, rfl⟩ := ite_some e'
    rw [Bool.and_eq_true, Bool.and_eq_true, decide_eq_true_eq] at c
    obtain ⟨as, ra⟩ := qx.rd I rx c.1.1
    obtain ⟨bs, rb⟩ := qy.rd I ry (by simpa [PyData.plain] using c.1.2)
    exact PySem.SeqAt.notIn_list_data rb ra c.1.2 c.1.1 (by have := c.2; omega) ⟨.bl _, H, I, rfl, gv.here t (.bl _)⟩
  | tuple ys =>
    have e' : (if (dx.plain && PyData.plainAll ys && decide (dx.depth ≤ 100)) = true then some (ys.any fun y => PyData.eqv y dx) else none) = some k := by cases dx <;> exact e1
    obtain ⟨c, rfl⟩ := ite_some e'
    rw [Bool.and_eq_true, Bool.and_eq_true, decide_eq_true_eq] at c
    obtain ⟨as, ra⟩ := qx.rd I rx c.1.1
    obtain ⟨bs, rb⟩ := qy.rd I ry (by simpa [PyData.plain] using c.1.2)
    exact PySem.SeqAt.notIn_tuple_data rb ra c.1.2 c.1.1 (by have := c.2; omega) ⟨.bl _, H, I, rfl, gv.here t (.bl _)⟩
  | str y =>
    cases dx with
    | str x =>
      cases e1
      cases dq_str qx
      cases dq_str qy
      exact op_notin_str pins s σ H _ _ v u Q I rx ry ⟨x, y, rfl, rfl, gv.here t (.bl _)⟩
    | _ => cases e1
  | _ => cases dx <;> cases e1
end
end VL
end

section
set_option Elab.async false
set_option linter.all false
set_option maxRecDepth 100000
set_option maxHeartbeats 4000000
namespace VL
open PySem PySem.Spec PyProof.Rows L2
set_option autoImplicit false

section
variable {X : Cx} {B : Eb} {Γ : Gm} {E : Wish} {a b e : Expr} {es : List Expr} {ma mb : M D} {ms : M (List D)} {pos p : Pos}
theorem IxR.imp {r r' : R2} (h : IxR X r) (i : ∀ x y H Q, r' x y H Q → r x y H Q) : IxR X r' := fun va sl pins s σ H x y v u Q I rx ry q => h va sl pins s σ H x y v u Q I rx ry (i x y H Q q)

/-! ### subscripts -/
def gIx : D → D → Option D
  | .list xs, .int i => atI xs i
  | .tuple xs, .int i => atI xs i
  | .str s, .int i => if s.length ≤ sizeLine then (atI s.cps.toList i).map fun c => .str ⟨#[c]⟩ else none
  | _, _ => none
theorem atI_get {α : Type} {xs : List α} {i : Int} {x : α} (h : atI xs i = some x) : ∃ j, ixN xs.length i = some j ∧ xs[j]? = some x := by
  unfold atI at h
  cases e : ixN xs.length i with
  | none => rw [e] at h; cases h
  | some j => rw [e] at h; exact ⟨j, rfl, h⟩
theorem DqAll.at {K : PySem.W.Frag} {F : Fz} {H : Hp} {vs : List V} {ds : List D} {i : Int} {d : D} (q : DqAll K F H vs ds) (h : atI ds i = some d) : ∃ v, atI vs i = some v ∧ Dq K F H v d := by
  obtain ⟨j, h1, h2⟩ := atI_get h
  obtain ⟨v, h3, h4⟩ := q.get h2
  exact ⟨v, by unfold atI; rw [q.length, h1]; exact h3, h4⟩
theorem ix_V : IxR X (rV X.K gIx) := IxR.imp ix_seq fun x y H Q ⟨F, dx, dy, d, t, qx, qy, e, gv⟩ => by
  cases dy with
  | int i =>
    cases dq_int qy
    cases dx with
    | list xs =>
      obtain ⟨a, vs, rfl, ha, qa⟩ := dq_sqL qx
      obtain ⟨v, h1, h2⟩ := qa.at e
      exact .inl ⟨a, vs, i, v, rfl, rfl, ha, h1, gv.here t h2⟩
    | tuple xs =>
      obtain ⟨a, vs, rfl, ha, qa⟩ := dq_sqT qx
      obtain ⟨v, h1, h2⟩ := qa.at e
      exact .inr (.inl ⟨a, vs, i, v, rfl, rfl, ha, h1, gv.here t h2⟩)
    | str z =>
      cases dq_str qx
      by_cases c : z.length ≤ sizeLine
      · have e' : (atI z.cps.toList i).map (fun c => PyData.str ⟨#[c]⟩) = some d := by
          have : (if z.length ≤ sizeLine then (atI z.cps.toList i).map (fun c => PyData.str ⟨#[c]⟩) else none) = some d := e
          rw [if_pos c] at this; exact this
        obtain ⟨k, h1, rfl⟩ := Option.map_eq_some_iff.mp e'
        exact .inr (.inr ⟨z, i, k, rfl, rfl, c, h1, gv.here t (.str _)⟩)
      · have : (if z.length ≤ sizeLine then (atI z.cps.toList i).map (fun c => PyData.str ⟨#[c]⟩) else none) = some d := e
        rw [if_neg c] at this; cases this
    | _ => cases e
  | _ => cases dx <;> cases e

/-! ### slices -/
def mPart (m : M D) : M (Option Int) := m.bind fun d => match d with
  | .int i => M.pure (some i)
  | _ => fun _ => .stuck
def mNoPart : M (Option Int) := M.pure none
def tVo (K : PySem.W.Frag) (B : Eb) (Γ : Gm) (E : Wish) (m : M (Option Int)) : TO := tG (fun _ _ _ b c => b = c) K B Γ E m
def VP (X : Cx) (B : Eb) (Γ : Gm) (E : Wish) (o : Option Expr) (m : M (Option Int)) : Prop := PO X o (tVo X.K B Γ E m)
theorem PO.imp {o : Option Expr} {t t' : TO} (h : PO X o t) (i : ∀ σ H Q, t' σ H Q → t σ H Q) : PO X o t' := ⟨fun pins s σ H Q I q => h.run pins s σ H Q I (i σ H Q q)⟩
theorem vp_none : VP X B Γ E none mNoPart := PO.imp po_none fun σ H Q ⟨F, ρ, r, h⟩ => h none H F r .refl rfl
theorem vp_some (h : VE X B Γ E a ma) : VP X B Γ E (some a) (mPart ma) := PO.imp (po_some h) fun σ H Q ⟨F, ρ, r, h⟩ => ⟨F, ρ, r, (Res.bind h).mono (fun d ρ1 h1 v H1 F1 r1 g1 q1 => by
  cases d with
  | int i => exact ⟨i, dq_int q1, h1 (some i) H1 F1 r1 g1 rfl⟩
  | _ => exact h1.elim) (fun _ _ _ k => k)⟩
def cutD {α : Type} (xs : List α) (lo hi : Option Int) : List α := (xs.drop (HT.sIx xs.length 0 lo)).take (HT.sIx xs.length xs.length hi - HT.sIx xs.length 0 lo)
def gSl : D → Option Int → Option Int → Option D
  | .list xs, lo, hi => some (.list (cutD xs lo hi))
  | .dict [(.none, .list xs)], lo, hi => some (.list (cutD xs lo hi))
  | .tuple xs, lo, hi => some (.tuple (cutD xs lo hi))
  | .str z, lo, hi => if z.length ≤ sizeLine then some (.str (cutS z lo hi)) else none
  | _, _, _ => none
theorem DqAll.cut {K : PySem.W.Frag} {F : Fz} {H : Hp} {vs : List V} {ds : List D} {lo hi : Option Int} (q : DqAll K F H vs ds) : DqAll K F H (cutV vs lo hi) (cutD ds lo hi) := by
  unfold cutV cutD
  rw [q.length]
  exact (q.drop _).take _
def mSl (g : D → Option Int → Option Int → Option D) (me : M D) (ml mh : M (Option Int)) : M D := me.bind fun x => ml.bind fun l => mh.bind fun h => M.of (g x l h)
theorem SlR.imp {r r' : V → Option Int → Option Int → Hp → VK → Prop} (h : SlR X r) (i : ∀ x l u H Q, r' x l u H Q → r x l u H Q) : SlR X r' := fun pins s σ H x v vl vu lo hi sl Q I rx hs pl pu q => h pins s σ H x v vl vu lo hi sl Q I rx hs pl pu (i x lo hi H Q q)
theorem ve_slice {lo hi : Option Expr} {ml mh : M (Option Int)} {p2 : Pos} (he : VE X B Γ E e ma) (hl : VP X B Γ E lo ml) (hu : VP X B Γ E hi mh) : VE X B Γ E (.Subscript e (.Slice lo hi none p2) pos) (mSl gSl ma ml mh) := by
  refine PE.imp (pe_slice (SlR.or sl_list (SlR.or sl_tupA sl_str)) he hl hu) fun σ H Q ⟨F, ρ, r, h⟩ => ?_
  refine ⟨F, ρ, r, (Res.bind h).mono (fun x ρ1 h1 v1 H1 F1 r1 g1 q1 => ⟨F1, ρ1, r1, (Res.bind h1).mono (fun l ρ2 h2 l' H2 F2 r2 g2 e2 => ?_) (fun c fs ρ' k => k.grow g1)⟩) (fun _ _ _ k => k)⟩
  subst e2
  refine ⟨F2, ρ2, r2, (Res.bind h2).mono (fun u ρ3 h3 u' H3 F3 r3 g3 e3 => ?_) (fun c fs ρ' k => (k.grow g1).grow g2)⟩
  subst e3
  obtain ⟨d, e, h4⟩ := Res.of h3
  have gv : Gives X.K F3 H3 d Q := fun v H' F' ex q => h4 v H' F' (r3.to ex) (((g1.trans g2).trans g3).trans ex.kp) q
  have q3 : Dq X.K F3 H3 v1 x := (q1.grow (g2.g r1)).grow (g3.g r2)
  cases q3 with
  | lst f ha qa =>
    cases e
    exact .inl ⟨_, _, rfl, .inl (.inl ha), fun p np => gv.lst r3.trk qa.cut np⟩
  | scr w qa =>
    cases e
    exact .inl ⟨_, _, rfl, w.elim (fun h => .inl h.2) .inr, fun p np => gv.lst r3.trk qa.cut np⟩
  | @tup a xs ds f ha qa =>
    cases e
    refine .inr (.inl ⟨_, _, rfl, .inl (.inl ha), fun hw => ?_, fun hw p np => gv.tup r3.trk qa.cut np⟩)
    refine gv.here r3.trk (.tup f ha ?_)
    have : cutD ds l' u' = ds := by
      unfold cutD
      rw [← qa.length, hw.1, hw.2, List.drop_zero, Nat.sub_zero, qa.length, List.take_length]
    rw [this]; exact qa
  | @tupK a xs ds w qa =>
    cases e
    refine .inr (.inl ⟨_, _, rfl, .inr w, fun hw => ?_, fun hw p np => gv.tup r3.trk qa.cut np⟩)
    refine gv.here r3.trk (.tupK w ?_)
    have : cutD ds l' u' = ds := by
      unfold cutD
      rw [← qa.length, hw.1, hw.2, List.drop_zero, Nat.sub_zero, qa.length, List.take_length]
    rw [this]; exact qa
  | str z =>
    obtain ⟨c, rfl⟩ := ite_some (show (if z.length ≤ sizeLine then some (PyData.str (cutS z l' u')) else none) = some d from e)
    exact .inr (.inr ⟨z, rfl, c, gv.here r3.trk (.str _)⟩)
  | dicK f ha qa => cases qa <;> (try cases e) <;> (rename_i k _ _ _ _ _ _; cases k <;> cases e)
  | dicT f ha qa => cases qa <;> cases e
  | _ => cases e

/-! ### built-ins -/
theorem DqAll.one {K : PySem.W.Frag} {F : Fz} {H : Hp} {vs : List V} {d : D} (q : DqAll K F H vs [d]) : ∃ v, vs = [v] ∧ Dq K F H v d := by
  cases q with
  | cons q r => cases r; exact ⟨_, rfl, q⟩
theorem DqAll.two {K : PySem.W.Frag} {F : Fz} {H : Hp} {vs : List V} {d e : D} (q : DqAll K F H vs [d, e]) : ∃ v w, vs = [v, w] ∧ Dq K F H v d ∧ Dq K F H w e := by
  cases q with
  | cons q r =>
    obtain ⟨w, rfl, r'⟩ := r.one
    exact ⟨_, _, rfl, q, r'⟩
def cLen : List D → Option D
  | [.list xs] => some (.int xs.length)
  | [.tuple xs] => some (.int xs.length)
  | [.str s] => if s.length ≤ sizeLine then some (.int s.length) else none
  | _ => none
theorem call_lenV : CallR X (.builtin "len") (rVs X.K cLen) := CallR.imp call_len fun xs H Q ⟨F, ds, d, t, q, e, gv⟩ => by
  match ds, e with
  | [.list ys], e =>
    cases e
    obtain ⟨v, rfl, q'⟩ := q.one
    obtain ⟨a, vs, rfl, ha, qa⟩ := dq_sqL q'
    exact ⟨.ref a, ys.length, rfl, .inl ⟨vs, ha, qa.length.symm⟩, gv.here t (.int _)⟩
  | [.tuple ys], e =>
    cases e
    obtain ⟨v, rfl, q'⟩ := q.one
    obtain ⟨a, vs, rfl, ha, qa⟩ := dq_sqT q'
    exact ⟨.ref a, ys.length, rfl, .inr ⟨vs, ha, qa.length.symm⟩, gv.here t (.int _)⟩
  | [.str s], e =>
    obtain ⟨c, rfl⟩ := ite_some e
    obtain ⟨v, rfl, q'⟩ := q.one
    cases dq_str q'
    exact ⟨.str s, s.length, rfl, ⟨c, rfl⟩, gv.here t (.int _)⟩
def cAbs : List D → Option D
  | [.int i] => some (.int (if i < 0 then -i else i))
  | _ => none
theorem call_absV : CallR X (.builtin "abs") (rVs X.K cAbs) := CallR.imp call_abs fun xs H Q ⟨F, ds, d, t, q, e, gv⟩ => by
  match ds, e with
  | [.int i], e =>
    cases e
    obtain ⟨v, rfl, q'⟩ := q.one
    cases dq_int q'
    exact ⟨i, rfl, gv.here t (.int _)⟩
def cInt : List D → Option D
  | [.int i] => some (.int i)
  | [.bool k] => some (.int (if k then 1 else 0))
  | _ => none
theorem call_intV : CallR X (.type "int") (rVs X.K cInt) := CallR.imp call_int1 fun xs H Q ⟨F, ds, d, t, q, e, gv⟩ => by
  match ds, e with
  | [.int i], e =>
    cases e
    obtain ⟨v, rfl, q'⟩ := q.one
    cases dq_int q'
    exact .inl ⟨i, rfl, gv.here t (.int _)⟩
  | [.bool k], e =>
    cases e
    obtain ⟨v, rfl, q'⟩ := q.one
    cases dq_bl q'
    exact .inr ⟨k, rfl, gv.here t (.int _)⟩
def cTup : List D → Option D
  | [.list xs] => some (.tuple xs)
  | [.tuple xs] => some (.tuple xs)
  | _ => none
theorem call_tupV : CallR X (.type "tuple") (rVs X.K cTup) := CallR.imp call_tuple_of fun xs H Q ⟨F, ds, d, t, q, e, gv⟩ => by
  match ds, e with
  | [.list ys], e =>
    cases e
    obtain ⟨v, rfl, q'⟩ := q.one
    obtain ⟨a, vs, rfl, ha, qa⟩ := dq_sqL q'
    exact ⟨a, vs, rfl, .inl ⟨ha, fun l nl => gv.tup t qa nl⟩⟩
  | [.tuple ys], e =>
    cases e
    obtain ⟨v, rfl, q'⟩ := q.one
    obtain ⟨a, vs, rfl, ha, qa⟩ := dq_sqT q'
    exact ⟨a, vs, rfl, .inr ⟨ha, gv.here t q'⟩⟩
def cLst : List D → Option D
  | [.list xs] => some (.list xs)
  | [.tuple xs] => some (.list xs)
  | _ => none
theorem vo_list {p : Pos} (hg : Gl X "list") (hm : X.mg "list" = none) (ha : VA X B Γ E [e] ms) (he : starEach [e] X.env = (false, eval e X.env) :: starEach [] X.env := by rfl) (hpl : (backTo pos (starEach [] X.env)).any (·.1) = false := by rfl) :
    VO X B Γ E (.Call (.Name "list" p) [e] [] pos) (mCall cLst ms) :=
  PE.imp (pe_callTy call_list_of hg hm PyProof.Rows.boot_list ha.pa (by decide) (by decide) he hpl) fun σ H Q ⟨F, ρ, r, h⟩ => ⟨F, ρ, r, (Res.bind h).mono (fun x ρ1 h1 v1 H1 F1 r1 g1 q1 => by
    obtain ⟨d, e, h3⟩ := Res.of h1
    have fin : ∀ {vs : List V} {ys : List D} {l : Addr}, d = .list ys → DqAll X.K F1 H1 vs ys → H1 l = none → Q (.ref l) (upd H1 l (.lst vs)) := fun {vs ys l} ed qa nl => by
      subst ed
      have ex := Ext.laid (o := .lst vs) r1.trk nl
      exact h3 (.ref l) _ _ (r1.to ex) (g1.trans ex.kp) ⟨l, rfl, .lst upd_same (qa.grow (ex.grow r1.trk)), r1.nf nl, g1.none0 r1 nl⟩
    match x, e with
    | [.list ys], e =>
      cases e
      obtain ⟨v, rfl, q'⟩ := q1.one
      obtain ⟨a, vs, rfl, ha, qa⟩ := dq_sqL q'
      exact ⟨a, vs, rfl, .inl ha, fun l nl => fin rfl qa nl⟩
    | [.tuple ys], e =>
      cases e
      obtain ⟨v, rfl, q'⟩ := q1.one
      obtain ⟨a, vs, rfl, ha, qa⟩ := dq_sqT q'
      exact ⟨a, vs, rfl, .inr ha, fun l nl => fin rfl qa nl⟩) (fun _ _ _ k => k)⟩
def bools : List D → Option (List Bool)
  | [] => some []
  | .bool b :: r => (bools r).map (b :: ·)
  | _ => none
theorem bools_ok {K : PySem.W.Frag} {F : Fz} {H : Hp} : ∀ {vs : List V} {ds : List D} {bs : List Bool}, DqAll K F H vs ds → bools ds = some bs → vs = bs.map V.bl
  | _, _, _, .nil, e => by cases e; rfl
  | _, _, _, .cons q r, e => by
    cases q with
    | bl b =>
      obtain ⟨l, h, rfl⟩ := Option.map_eq_some_iff.mp (show (bools _).map (b :: ·) = some _ from e)
      rw [List.map_cons, bools_ok r h]
    | _ => cases e
def cAll : List D → Option D
  | [.list xs] => (bools xs).map fun bs => .bool (bs.all id)
  | _ => none
def cAny : List D → Option D
  | [.list xs] => (bools xs).map fun bs => .bool (bs.any id)
  | _ => none
theorem call_allV (hc : X.calm = true) : CallR X (.builtin "all") (rVs X.K cAll) := CallR.imp (cr_all hc) fun xs H Q ⟨F, ds, d, t, q, e, gv⟩ => by
  match ds, e with
  | [.list ys], e =>
    obtain ⟨bs, h, rfl⟩ := Option.map_eq_some_iff.mp (show (bools ys).map (fun bs => PyData.bool (bs.all id)) = some d from e)
    obtain ⟨v, rfl, q'⟩ := q.one
    obtain ⟨a, vs, rfl, ha, qa⟩ := dq_sqL q'
    rw [bools_ok qa h] at ha
    exact ⟨a, bs, rfl, ha, gv.here t (.bl _)⟩
theorem call_anyV (hc : X.calm = true) : CallR X (.builtin "any") (rVs X.K cAny) := CallR.imp (cr_any hc) fun xs H Q ⟨F, ds, d, t, q, e, gv⟩ => by
  match ds, e with
  | [.list ys], e =>
    obtain ⟨bs, h, rfl⟩ := Option.map_eq_some_iff.mp (show (bools ys).map (fun bs => PyData.bool (bs.any id)) = some d from e)
    obtain ⟨v, rfl, q'⟩ := q.one
    obtain ⟨a, vs, rfl, ha, qa⟩ := dq_sqL q'
    rw [bools_ok qa h] at ha
    exact ⟨a, bs, rfl, ha, gv.here t (.bl _)⟩
def cMin2 : List D → Option D
  | [.int i, .int j] => some (.int (if j < i then j else i))
  | _ => none
def cMax2 : List D → Option D
  | [.int i, .int j] => some (.int (if j > i then j else i))
  | _ => none
theorem call_min2V (hc : X.calm = true) : CallR X (.builtin "min") (rVs X.K cMin2) := CallR.imp (call_min2 hc) fun xs H Q ⟨F, ds, d, t, q, e, gv⟩ => by
  match ds, e with
  | [.int i, .int j], e =>
    cases e
    obtain ⟨v, w, rfl, q1, q2⟩ := q.two
    cases dq_int q1
    cases dq_int q2
    exact ⟨i, j, rfl, gv.here t (.int _)⟩
theorem call_max2V (hc : X.calm = true) : CallR X (.builtin "max") (rVs X.K cMax2) := CallR.imp (call_max2 hc) fun xs H Q ⟨F, ds, d, t, q, e, gv⟩ => by
  match ds, e with
  | [.int i, .int j], e =>
    cases e
    obtain ⟨v, w, rfl, q1, q2⟩ := q.two
    cases dq_int q1
    cases dq_int q2
    exact ⟨i, j, rfl, gv.here t (.int _)⟩

/-! ### isinstance -/
def tyD : D → Option String
  | .none => some "NoneType"
  | .bool _ => some "bool"
  | .int _ => some "int"
  | .str _ => some "str"
  | .list _ => some "list"
  | .tuple _ => some "tuple"
  | .dict [(.none, _)] => none
  | .dict _ => some "dict"
theorem tyD_ok {K : PySem.W.Frag} {F : Fz} {H : Hp} {v : V} {d : D} {t : String} (q : Dq K F H v d) (e : tyD d = some t) : TyX K H v (.type t) := by
  cases q with
  | non => cases e; exact .base .non
  | bl b => cases e; exact .base (.bl b)
  | int b => cases e; exact .base (.int b)
  | str b => cases e; exact .base (.str b)
  | lst f h q => cases e; exact .base (.lst h)
  | tup f h q => cases e; exact .base (.tup h)
  | tupK w q =>
    cases e
    obtain ⟨o, its, n, h1, h2, _⟩ := w
    exact .kTuple h1 h2
  | scr w q => cases e
  | @dicK a kvs ds f h q =>
    have : t = "dict" := by
      cases q with
      | nil => cases e; rfl
      | @cons k v vs d ds q r =>
        cases k <;> (cases r <;> (cases e; rfl))
    subst this
    exact .base (.dK h)
  | @dicT a kvs ds f h q =>
    have : t = "dict" := by
      cases q with
      | nil => cases e; rfl
      | cons q r => cases r <;> (cases e; rfl)
    subst this
    exact .base (.dT h)
def gIsi (T : String) (d : D) : Option D := (tyD d).bind fun t => (kitB t T).map .bool
theorem ve_isi {x : Str} {T : String} {p2 : Pos} (he : VE X B Γ E e ma) (hg : Gl X "isinstance") (hm : X.mg "isinstance" = none) (hg2 : Gl X x) (hm2 : X.mg x = none) (hv : bootBuiltins x = some (.type T)) (hn : x ≠ "__name__" := by decide) (hdb : (x == ("__debug__" : Str)) = false := by decide)
    (hs : starEach [e, .Name x p2] X.env = (false, eval e X.env) :: starEach [.Name x p2] X.env := by rfl) (hs2 : starEach [.Name x p2] X.env = (false, eval (.Name x p2) X.env) :: starEach [] X.env := by rfl)
    (hpl : (backTo pos (starEach [.Name x p2] X.env)).any (·.1) = false := by rfl) : VE X B Γ E (.Call (.Name "isinstance" p) [e, .Name x p2] [] pos) (m1 (gIsi T) ma) :=
  PE.imp (pe_callB call_isi hg hm (by decide +kernel) (pa_cons he (pa_cons (pe_bltn (v := .ty T) hg2 hm2 hv rfl hn hdb) pa_nil hs2) hs) (by decide) (by decide) hs hpl) fun σ H Q ⟨F, ρ, r, h⟩ => ⟨F, ρ, r, (Res.bind h).mono (fun d ρ1 h1 v H1 F1 r1 g1 q1 => by
    obtain ⟨k, e, h2⟩ := Res.of h1
    obtain ⟨t, e1, e2⟩ := Option.bind_eq_some_iff.mp (show (tyD d).bind (fun t => (kitB t T).map .bool) = some k from e)
    obtain ⟨b, e3, rfl⟩ := Option.map_eq_some_iff.mp e2
    exact ⟨v, .ty T, .type t, .type T, b, rfl, .ty T, tyD_ok q1 e1, kit_ty e3, h2 _ H1 F1 r1 g1 (.bl b)⟩) (fun _ _ _ k => k)⟩
def gIsi2 (T U : String) (d : D) : Option D := (tyD d).bind fun t => (kitB t T).bind fun b => if b = true then some (.bool true) else (kitB t U).map .bool
theorem ve_isi2 {x y : Str} {T U : String} {p2 p3 p4 : Pos} {k : Nat} (he : VE X B Γ E e ma) (hg : Gl X "isinstance") (hm : X.mg "isinstance" = none) (hg2 : Gl X x) (hm2 : X.mg x = none) (hv : bootBuiltins x = some (.type T)) (hg3 : Gl X y) (hm3 : X.mg y = none) (hv3 : bootBuiltins y = some (.type U))
    (hn : x ≠ "__name__" := by decide) (hdb : (x == ("__debug__" : Str)) = false := by decide) (hn3 : y ≠ "__name__" := by decide) (hdb3 : (y == ("__debug__" : Str)) = false := by decide)
    (ht2 : starEach [.Name x p2, .Name y p3] X.env = (false, eval (.Name x p2) X.env) :: starEach [.Name y p3] X.env := by rfl) (ht3 : starEach [.Name y p3] X.env = (false, eval (.Name y p3) X.env) :: starEach [] X.env := by rfl)
    (hs : starEach [e, .Tuple [.Name x p2, .Name y p3] k p4] X.env = (false, eval e X.env) :: starEach [.Tuple [.Name x p2, .Name y p3] k p4] X.env := by rfl)
    (hs2 : starEach [.Tuple [.Name x p2, .Name y p3] k p4] X.env = (false, eval (.Tuple [.Name x p2, .Name y p3] k p4) X.env) :: starEach [] X.env := by rfl)
    (hpl : (backTo pos (starEach [.Tuple [.Name x p2, .Name y p3] k p4] X.env)).any (·.1) = false := by rfl) : VE X B Γ E (.Call (.Name "isinstance" p) [e, .Tuple [.Name x p2, .Name y p3] k p4] [] pos) (m1 (gIsi2 T U) ma) :=
  PE.imp (pe_callB call_isiT hg hm (by decide +kernel) (pa_cons he (pa_cons (pe_tup (pa_cons (pe_bltn (v := .ty T) hg2 hm2 hv rfl hn hdb) (pa_cons (pe_bltn (v := .ty U) hg3 hm3 hv3 rfl hn3 hdb3) pa_nil ht3) ht2)) pa_nil hs2) hs) (by decide) (by decide) hs hpl) fun σ H Q ⟨F, ρ, r, h⟩ => ⟨F, ρ, r, (Res.bind h).mono (fun d ρ1 h1 v H1 F1 r1 g1 q1 => by
    obtain ⟨k, e, h2⟩ := Res.of h1
    obtain ⟨t, e1, e2⟩ := Option.bind_eq_some_iff.mp (show (tyD d).bind (fun t => (kitB t T).bind fun b => if b = true then some (.bool true) else (kitB t U).map .bool) = some k from e)
    obtain ⟨b, e3, e4⟩ := Option.bind_eq_some_iff.mp e2
    refine ⟨(by decide : 2 ≤ sizeLine), fun p np => ?_⟩
    have ex := Ext.alloc (o := .tup [.ty T, .ty U]) r1.trk np
    have q2 := q1.grow (ex.grow r1.trk)
    cases b with
    | true =>
      cases e4
      exact ⟨v, p, [.ty T, .ty U], .type t, [.type T, .type U], true, rfl, upd_same, .cons (.ty T) (.cons (.ty U) .nil), tyD_ok q2 e1, kitAny_cons (kit_ty e3) (fun z => by cases z) (fun _ => rfl), h2 _ _ _ (r1.to ex) (g1.trans ex.kp) (.bl _)⟩
    | false =>
      obtain ⟨c, e5, rfl⟩ := Option.map_eq_some_iff.mp (show (kitB t U).map .bool = some k from e4)
      exact ⟨v, p, [.ty T, .ty U], .type t, [.type T, .type U], c, rfl, upd_same, .cons (.ty T) (.cons (.ty U) .nil), tyD_ok q2 e1, kitAny_cons (kit_ty e3) (fun _ => kitAny_cons (kit_ty e5) (fun z => by rw [z]; exact kitAny_nil) (fun z => z)) (fun z => by cases z), h2 _ _ _ (r1.to ex) (g1.trans ex.kp) (.bl _)⟩) (fun _ _ _ k => k)⟩
end
end VL
end

section
set_option Elab.async false
set_option linter.all false
set_option maxRecDepth 100000
set_option maxHeartbeats 4000000
namespace VL
open PySem PySem.Spec PyProof.Rows L2
set_option autoImplicit false

/-! ### targets -/
inductive Tg where
  | nm (i : Nat)
  | tp (ts : List Tg)
mutual
def bindT : Tg → D → Env → Option Env
  | .nm i, d, ρ => some (ρ.set i (some d))
  | .tp ts, .tuple ds, ρ => bindTs ts ds ρ
  | .tp ts, .list ds, ρ => bindTs ts ds ρ
  | .tp _, _, _ => none
def bindTs : List Tg → List D → Env → Option Env
  | [], [], ρ => some ρ
  | t :: ts, d :: ds, ρ => (bindT t d ρ).bind (bindTs ts ds)
  | _, _, _ => none
end
mutual
def Tg.slots : Tg → List Nat
  | .nm i => [i]
  | .tp ts => Tg.slotsL ts
def Tg.slotsL : List Tg → List Nat
  | [] => []
  | t :: ts => t.slots ++ Tg.slotsL ts
end
structure SameBut (S : List Nat) (σ σ' : St) : Prop where
  len : σ'.length = σ.length
  out : ∀ i, i ∉ S → σ'[i]? = σ[i]?
theorem SameBut.refl {S : List Nat} {σ : St} : SameBut S σ σ := ⟨rfl, fun _ _ => rfl⟩
theorem SameBut.trans {S T : List Nat} {σ σ1 σ2 : St} (a : SameBut S σ σ1) (b : SameBut T σ1 σ2) : SameBut (S ++ T) σ σ2 :=
  ⟨b.len.trans a.len, fun i h => by
    rw [List.mem_append, not_or] at h
    rw [b.out i h.2, a.out i h.1]⟩
def gT (K : PySem.W.Frag) (Γ : Gm) (t : Tg) : TG := fun v σ H Q => ∃ F ρ d ρ', Rel K Γ F ρ σ H ∧ Dq K F H v d ∧ bindT t d ρ = some ρ' ∧ ∀ σ', Rel K Γ F ρ' σ' H → SameBut t.slots σ σ' → Q σ' H
def gTs (K : PySem.W.Frag) (Γ : Gm) (ts : List Tg) : TGs := fun vs σ H Q => ∃ F ρ ds ρ', Rel K Γ F ρ σ H ∧ DqAll K F H vs ds ∧ bindTs ts ds ρ = some ρ' ∧ ∀ σ', Rel K Γ F ρ' σ' H → SameBut (Tg.slotsL ts) σ σ' → Q σ' H
def VG (X : Cx) (Γ : Gm) (e : Expr) (t : Tg) : Prop := PG X e (gT X.K Γ t)
structure VGs (X : Cx) (Γ : Gm) (es : List Expr) (ts : List Tg) : Prop where
  pg : PGs X es (gTs X.K Γ ts)
  len : es.length = ts.length
theorem PG.imp {X : Cx} {e : Expr} {t t' : TG} (h : PG X e t) (i : ∀ v σ H Q, t' v σ H Q → t v σ H Q) : PG X e t' := ⟨fun pins s σ H v u Q I r q => h.run pins s σ H v u Q I r (i v σ H Q q)⟩
theorem PGs.imp {X : Cx} {e : List Expr} {t t' : TGs} (h : PGs X e t) (i : ∀ v σ H Q, t' v σ H Q → t v σ H Q) : PGs X e t' := ⟨fun pins s σ H v u Q I r q => h.run pins s σ H v u Q I r (i v σ H Q q)⟩
theorem PG.or {X : Cx} {e : Expr} {t t' : TG} (h : PG X e t) (h' : PG X e t') : PG X e (fun v σ H Q => t v σ H Q ∨ t' v σ H Q) := ⟨fun pins s σ H v u Q I r q => q.elim (h.run pins s σ H v u Q I r) (h'.run pins s σ H v u Q I r)⟩
theorem bindTs_len : ∀ {ts : List Tg} {ds : List D} {ρ ρ' : Env}, bindTs ts ds ρ = some ρ' → ds.length = ts.length
  | [], [], _, _, _ => rfl
  | [], _ :: _, _, _, h => by cases h
  | _ :: _, [], _, _, h => by cases h
  | t :: ts, d :: ds, ρ, ρ', h => by
    obtain ⟨ρ1, _, h2⟩ := Option.bind_eq_some_iff.mp (show (bindT t d ρ).bind (bindTs ts ds) = some ρ' from h)
    exact congrArg (· + 1) (bindTs_len h2)
section
variable {X : Cx} {B : Eb} {G : Gd} {Ps O : List Nat} {Γ : Gm} {E : Wish} {pos : Pos}
theorem vg_nm {i : Nat} {x : Str} (hO : delO i O = O) (hN : X.N.Nodup) (hi : X.N[i]? = some x) (hx : Loc X.env.scope x) (hp : i ∉ Ps := by decide) (hf : X.fn x = true ∨ X.env.scope.names.lookup x = some .local := by first | exact .inl rfl | exact .inr rfl) :
    VG X (G.w Ps O) (.Name x pos) (.nm i) :=
  PG.imp (pg_name hN hi hx hf) fun v σ H Q ⟨F, ρ, d, ρ', r, q, e, h⟩ => by
    cases (Option.some.inj (show some (ρ.set i (some d)) = some ρ' from e))
    refine h _ ?_ ⟨by rw [List.length_set], fun j hj => ?_⟩
    · have := r.setD q (notpin hp)
      have e2 : ({ (G.w Ps O) with O := (G.w Ps O).O.filter (fun j => decide (j ≠ i)) } : Gm) = G.w Ps O := by
        show Gd.w G Ps (delO i O) = _
        rw [hO]
      rw [e2] at this
      exact this
    · rw [List.getElem?_set_ne fun z => hj (by rw [z]; exact List.mem_cons_self ..)]
theorem vgs_nil : VGs X Γ [] [] := ⟨PGs.imp pgs_nil (fun vs σ H Q ⟨F, ρ, ds, ρ', r, q, e, h⟩ => by
  cases ds with
  | nil =>
    cases q
    cases (Option.some.inj (show some ρ = some ρ' from e))
    exact ⟨rfl, h σ r .refl⟩
  | cons _ _ => cases e), rfl⟩
theorem vgs_cons {e : Expr} {es : List Expr} {t : Tg} {ts : List Tg} (h1 : VG X Γ e t) (h2 : VGs X Γ es ts) (hs : (assignEach (e :: es) X.env).map (·.2) = assign e X.env :: (assignEach es X.env).map (·.2) := by rfl) : VGs X Γ (e :: es) (t :: ts) :=
  ⟨PGs.imp (pgs_cons h1 h2.pg hs) (fun vs σ H Q ⟨F, ρ, ds, ρ', r, q, e, h⟩ => by
    cases q with
    | nil => cases e
    | @cons v vs d ds q qs =>
      obtain ⟨ρ1, e1, e2⟩ := Option.bind_eq_some_iff.mp (show (bindT t d ρ).bind (bindTs ts ds) = some ρ' from e)
      refine ⟨v, vs, rfl, F, ρ, d, ρ1, r, q, e1, fun σ1 r1 s1 => ⟨F, ρ1, ds, ρ', r1, qs, e2, fun σ2 r2 s2 => h σ2 r2 (s1.trans s2)⟩⟩), congrArg (· + 1) h2.len⟩
theorem vg_tup {es : List Expr} {ts : List Tg} {k : Nat} (hc : X.calm = true) (h : VGs X Γ es ts) (hn : (assignEach es X.env).length = es.length := by rfl) (hst : (assignEach es X.env).findIdx? (·.1) = none := by rfl) : VG X Γ (.Tuple es k pos) (.tp ts) :=
  PG.imp (PG.or (pg_tup hc h.pg hn hst) (pg_unl hc h.pg hn hst)) fun v σ H Q ⟨F, ρ, d, ρ', r, q, e, h'⟩ => by
    cases d with
    | tuple ds =>
      obtain ⟨a, vs, rfl, ha, qa⟩ := dq_sqT q
      exact .inl ⟨a, vs, rfl, ha, by rw [qa.length, bindTs_len (show bindTs ts ds ρ = some ρ' from e), h.len], F, ρ, ds, ρ', r, qa, e, h'⟩
    | list ds =>
      obtain ⟨a, vs, rfl, ha, qa⟩ := dq_sqL q
      exact .inr ⟨a, vs, rfl, ha, by rw [qa.length, bindTs_len (show bindTs ts ds ρ = some ρ' from e), h.len], F, ρ, ds, ρ', r, qa, e, h'⟩
    | _ => cases e
end

/-! ### what is walked -/
structure ItV (K : PySem.W.Frag) (F : Fz) (H : Hp) (J : It) (ds : List D) : Prop where
  go : ∀ i d F' H', Grow F H F' H' → Trk F' H' → ds[i]? = some d → J.go i H' ∧ ∀ x H'', J.yld i H' x H'' → ∃ F'', Ext F' H' F'' H'' ∧ Dq K F'' H'' x d
  stop : ∀ F' H', Grow F H F' H' → Trk F' H' → J.stop ds.length H'
def tI (K : PySem.W.Frag) (B : Eb) (Γ : Gm) (E : Wish) (m : M (List D)) : TI := tG (fun _ F H J ds => ItV K F H J ds) K B Γ E m
def VI (X : Cx) (B : Eb) (Γ : Gm) (E : Wish) (tg iter : Expr) (m : M (List D)) : Prop := PI X tg iter (tI X.K B Γ E m)
theorem PI.imp {X : Cx} {tg e : Expr} {t t' : TI} (h : PI X tg e t) (i : ∀ σ H Q, t' σ H Q → t σ H Q) : PI X tg e t' := ⟨fun pins s σ H Q I q => h.run pins s σ H Q I (i σ H Q q)⟩
theorem PI.or {X : Cx} {tg e : Expr} {t t' : TI} (h : PI X tg e t) (h' : PI X tg e t') : PI X tg e (fun σ H Q => t σ H Q ∨ t' σ H Q) := ⟨fun pins s σ H Q I q => q.elim (h.run pins s σ H Q I) (h'.run pins s σ H Q I)⟩
def dSeq : D → Option (List D)
  | .list xs => some xs
  | .tuple xs => some xs
  | .str s => some (s.cps.toList.map fun c => .str ⟨#[c]⟩)
  | _ => none
def mSeqOf (m : M D) : M (List D) := m.bind fun d => M.of (dSeq d)
section
variable {X : Cx} {B : Eb} {Γ : Gm} {E : Wish} {e a b c tg : Expr} {ma mb mc : M D} {pos p : Pos}
theorem itl {K : PySem.W.Frag} {F : Fz} {H : Hp} {a : Addr} {ds : List D} (q : Dq K F H (.ref a) (.list ds)) : ItV K F H (Itl K a) ds := by
  refine ⟨fun i d F' H' g t hd => ?_, fun F' H' g t => ?_⟩
  · obtain ⟨b, xs, e, hs, qa⟩ := dq_sqL (q.grow g)
    cases e
    obtain ⟨v, h1, h2⟩ := qa.get hd
    refine ⟨⟨xs, v, hs, h1⟩, fun x H'' y => ?_⟩
    obtain ⟨rfl, y⟩ := y
    have := y xs hs
    rw [h1] at this
    cases this
    exact ⟨F', .refl t, h2⟩
  · obtain ⟨b, xs, e, hs, qa⟩ := dq_sqL (q.grow g)
    cases e
    exact ⟨xs, hs, by rw [qa.length]; exact Nat.le_refl _⟩
theorem itt {K : PySem.W.Frag} {F : Fz} {H : Hp} {a : Addr} {ds : List D} (q : Dq K F H (.ref a) (.tuple ds)) : ItV K F H (Itt K a) ds := by
  refine ⟨fun i d F' H' g t hd => ?_, fun F' H' g t => ?_⟩
  · obtain ⟨b, xs, e, hs, qa⟩ := dq_sqT (q.grow g)
    cases e
    obtain ⟨v, h1, h2⟩ := qa.get hd
    refine ⟨⟨xs, v, hs, h1⟩, fun x H'' y => ?_⟩
    obtain ⟨rfl, y⟩ := y
    have := y xs hs
    rw [h1] at this
    cases this
    exact ⟨F', .refl t, h2⟩
  · obtain ⟨b, xs, e, hs, qa⟩ := dq_sqT (q.grow g)
    cases e
    exact ⟨xs, hs, by rw [qa.length]; exact Nat.le_refl _⟩
theorem its {K : PySem.W.Frag} {F : Fz} {H : Hp} {s : Str} : ItV K F H (Its s) (s.cps.toList.map fun c => .str ⟨#[c]⟩) := by
  refine ⟨fun i d F' H' g t hd => ?_, fun F' H' g t => ?_⟩
  · rw [List.getElem?_map, Array.getElem?_toList] at hd
    obtain ⟨c, h1, rfl⟩ := Option.map_eq_some_iff.mp hd
    have hl : i < s.cps.size := by
      obtain ⟨w, _⟩ := Array.getElem?_eq_some_iff.mp h1
      exact w
    refine ⟨hl, fun x H'' y => ?_⟩
    obtain ⟨rfl, c', h2, rfl⟩ := y
    rw [h1] at h2
    cases h2
    exact ⟨F', .refl t, .str _⟩
  · show s.cps.size ≤ _
    rw [List.length_map, Array.length_toList]
    exact Nat.le_refl _
theorem vi_seq (h : VE X B Γ E e ma) : VI X B Γ E tg e (mSeqOf ma) :=
  PI.imp (PI.or (pi_list h) (PI.or (pi_tup h) (pi_str h))) fun σ H Q ⟨F, ρ, r, h⟩ => by
    unfold mSeqOf M.bind at h
    cases e1 : ma ρ with
    | stuck => rw [e1] at h; exact h.elim
    | exc c fs ρ' => rw [e1] at h; exact .inl ⟨F, ρ, r, by rw [e1]; exact h⟩
    | ok p =>
      obtain ⟨d, ρ1⟩ := p
      rw [e1] at h
      cases d with
      | list ds =>
        refine .inl ⟨F, ρ, r, ?_⟩
        rw [e1]
        intro v H1 F1 r1 g1 q1
        obtain ⟨a, xs, rfl, ha, qa⟩ := dq_sqL q1
        exact ⟨a, rfl, ⟨xs, ha⟩, h _ H1 F1 r1 g1 (itl q1)⟩
      | tuple ds =>
        refine .inr (.inl ⟨F, ρ, r, ?_⟩)
        rw [e1]
        intro v H1 F1 r1 g1 q1
        obtain ⟨a, xs, rfl, ha, qa⟩ := dq_sqT q1
        exact ⟨a, rfl, ⟨xs, ha⟩, h _ H1 F1 r1 g1 (itt q1)⟩
      | str s =>
        refine .inr (.inr ⟨F, ρ, r, ?_⟩)
        rw [e1]
        intro v H1 F1 r1 g1 q1
        exact ⟨s, dq_str q1, h _ H1 F1 r1 g1 its⟩
      | _ => exact h.elim
def rng (lo : Int) (n : Nat) : List D := (List.range n).map fun i => .int (lo + (i : Nat))
theorem itr {K : PySem.W.Frag} {F : Fz} {H : Hp} {lo : Int} {n : Nat} : ItV K F H (Itr lo n) (rng lo n) := by
  refine ⟨fun i d F' H' g t hd => ?_, fun F' H' g t => ?_⟩
  · unfold rng at hd
    rw [List.getElem?_map] at hd
    obtain ⟨k, h1, rfl⟩ := Option.map_eq_some_iff.mp hd
    obtain ⟨w, h2⟩ := List.getElem?_eq_some_iff.mp h1
    rw [List.length_range] at w
    rw [List.getElem_range] at h2
    subst h2
    refine ⟨w, fun x H'' y => ?_⟩
    obtain ⟨rfl, rfl⟩ := y
    exact ⟨F', .refl t, .int _⟩
  · show n ≤ _
    unfold rng
    rw [List.length_map, List.length_range]
    exact Nat.le_refl _
def lim62 (i : Int) : Bool := decide (-(2 ^ 62) ≤ i) && decide (i < 2 ^ 62)
theorem lim62_ok {i : Int} (h : lim62 i = true) : -(2 ^ 62) ≤ i ∧ i < 2 ^ 62 := by
  unfold lim62 at h
  rw [Bool.and_eq_true, decide_eq_true_eq, decide_eq_true_eq] at h
  exact h
def rng1 : List D → Option (List D)
  | [.int j] => if lim62 j = true then some (rng 0 j.toNat) else none
  | _ => none
def rng2 : List D → Option (List D)
  | [.int i, .int j] => if (lim62 i && lim62 j) = true then some (rng i (j - i).toNat) else none
  | _ => none
def mRng (g : List D → Option (List D)) (ms : M (List D)) : M (List D) := ms.bind fun ds => M.of (g ds)
theorem vi_range1 {ms : M (List D)} (hg : Gl X "range") (hm : X.mg "range" = none) (ha : VA X B Γ E [a] ms) (hs : starEach [a] X.env = [(false, eval a X.env)] := by rfl) : VI X B Γ E tg (.Call (.Name "range" p) [a] [] pos) (mRng rng1 ms) :=
  PI.imp (pi_range1 hg hm ha.pa hs) fun σ H Q ⟨F, ρ, r, h⟩ => ⟨F, ρ, r, (Res.bind h).mono (fun ds ρ1 h1 v H1 F1 r1 g1 q1 => by
    obtain ⟨l, e, h2⟩ := Res.of h1
    match ds, e with
    | [.int j], e =>
      obtain ⟨c, rfl⟩ := ite_some e
      obtain ⟨w, rfl, q'⟩ := q1.one
      cases dq_int q'
      obtain ⟨c1, c2⟩ := lim62_ok c
      exact ⟨j, rfl, c1, c2, h2 _ H1 F1 r1 g1 itr⟩) (fun _ _ _ k => k)⟩
theorem vi_range2 {ms : M (List D)} (hg : Gl X "range") (hm : X.mg "range" = none) (ha : VA X B Γ E [a, b] ms) (hs : starEach [a, b] X.env = [(false, eval a X.env), (false, eval b X.env)] := by rfl) (hs2 : starEach [b] X.env = [(false, eval b X.env)] := by rfl) :
    VI X B Γ E tg (.Call (.Name "range" p) [a, b] [] pos) (mRng rng2 ms) :=
  PI.imp (pi_range2 hg hm ha.pa hs hs2) fun σ H Q ⟨F, ρ, r, h⟩ => ⟨F, ρ, r, (Res.bind h).mono (fun ds ρ1 h1 v H1 F1 r1 g1 q1 => by
    obtain ⟨l, e, h2⟩ := Res.of h1
    match ds, e with
    | [.int i, .int j], e =>
      obtain ⟨c, rfl⟩ := ite_some e
      rw [Bool.and_eq_true] at c
      obtain ⟨w, w', rfl, q', q''⟩ := q1.two
      cases dq_int q'
      cases dq_int q''
      obtain ⟨c1, c2⟩ := lim62_ok c.1
      obtain ⟨c3, c4⟩ := lim62_ok c.2
      exact ⟨i, j, rfl, ⟨c1, c2, c3, c4⟩, h2 _ H1 F1 r1 g1 itr⟩) (fun _ _ _ k => k)⟩
/-- pairs of a new tuple each -/
theorem pair_new {K : PySem.W.Frag} {F' : Fz} {H' : Hp} {T : Addr} {x y : V} {d e : D} (t : Trk F' H') (n : H' T = none) (qx : Dq K F' H' x d) (qy : Dq K F' H' y e) : ∃ F'', Ext F' H' F'' (upd H' T (.tup [x, y])) ∧ Dq K F'' (upd H' T (.tup [x, y])) (.ref T) (.tuple [d, e]) := by
  have ex := Ext.alloc (o := .tup [x, y]) t n
  exact ⟨_, ex, .tup (.inr rfl) upd_same (.cons (qx.grow (ex.grow t)) (.cons (qy.grow (ex.grow t)) .nil))⟩
def enumL : Nat → List D → List D
  | _, [] => []
  | n, d :: ds => .tuple [.int (n : Nat), d] :: enumL (n + 1) ds
theorem enumL_get : ∀ {n : Nat} {ds : List D} {i : Nat} {d : D}, (enumL n ds)[i]? = some d → ∃ e, ds[i]? = some e ∧ d = .tuple [.int ((n + i : Nat) : Nat), e]
  | _, [], _, _, h => by simp [enumL] at h
  | n, x :: ds, 0, d, h => by
    simp [enumL] at h
    exact ⟨x, rfl, by rw [← h]; rfl⟩
  | n, x :: ds, i + 1, d, h => by
    obtain ⟨e, h1, h2⟩ := enumL_get (n := n + 1) (ds := ds) (i := i) (d := d) (by simpa [enumL] using h)
    refine ⟨e, by simpa using h1, ?_⟩
    rw [h2, show n + 1 + i = n + (i + 1) by omega]
theorem enumL_len : ∀ {n : Nat} {ds : List D}, (enumL n ds).length = ds.length
  | _, [] => rfl
  | n, _ :: ds => congrArg (· + 1) (enumL_len (n := n + 1) (ds := ds))
theorem ite {K : PySem.W.Frag} {F : Fz} {H : Hp} {a : Addr} {ds : List D} (q : Dq K F H (.ref a) (.list ds)) : ItV K F H (Ite K a) (enumL 0 ds) := by
  refine ⟨fun i d F' H' g t hd => ?_, fun F' H' g t => ?_⟩
  · obtain ⟨b, xs, e, hs, qa⟩ := dq_sqL (q.grow g)
    cases e
    obtain ⟨e, h0, rfl⟩ := enumL_get hd
    obtain ⟨v, h1, h2⟩ := qa.get h0
    refine ⟨⟨xs, v, hs, h1⟩, fun x H'' y => ?_⟩
    obtain ⟨T, x, rfl, nT, rfl, y⟩ := y
    have := y xs hs
    rw [h1] at this
    cases this
    rw [Nat.zero_add]
    exact pair_new t nT (.int _) h2
  · obtain ⟨b, xs, e, hs, qa⟩ := dq_sqL (q.grow g)
    cases e
    exact ⟨xs, hs, by rw [qa.length, enumL_len]; exact Nat.le_refl _⟩
def cEnum : List D → Option (List D)
  | [.list xs] => some (enumL 0 xs)
  | _ => none
theorem vi_enum {ms : M (List D)} {elts : List Expr} {kk : Nat} {tpos : Pos} (hg : Gl X "enumerate") (hm : X.mg "enumerate" = none) (ha : VA X B Γ E [e] ms) (hs : starEach [e] X.env = [(false, eval e X.env)] := by rfl) : VI X B Γ E (.Tuple elts kk tpos) (.Call (.Name "enumerate" p) [e] [] pos) (mRng cEnum ms) :=
  PI.imp (pi_enum hg hm ha.pa hs) fun σ H Q ⟨F, ρ, r, h⟩ => ⟨F, ρ, r, (Res.bind h).mono (fun ds ρ1 h1 v H1 F1 r1 g1 q1 => by
    obtain ⟨l, e, h2⟩ := Res.of h1
    match ds, e with
    | [.list xs], e =>
      cases e
      obtain ⟨w, rfl, q'⟩ := q1.one
      obtain ⟨a, ys, rfl, ha, qa⟩ := dq_sqL q'
      exact ⟨a, ys, rfl, ha, h2 _ H1 F1 r1 g1 (ite q')⟩) (fun _ _ _ k => k)⟩
def zipL : List D → List D → List D
  | a :: as, b :: bs => .tuple [a, b] :: zipL as bs
  | _, _ => []
theorem zipL_get : ∀ {as bs : List D} {i : Nat} {d : D}, (zipL as bs)[i]? = some d → ∃ a b, as[i]? = some a ∧ bs[i]? = some b ∧ d = .tuple [a, b]
  | [], _, _, _, h => by simp [zipL] at h
  | _ :: _, [], _, _, h => by simp [zipL] at h
  | a :: as, b :: bs, 0, d, h => by
    simp [zipL] at h
    exact ⟨a, b, rfl, rfl, h.symm⟩
  | a :: as, b :: bs, i + 1, d, h => by
    obtain ⟨x, y, h1, h2, h3⟩ := zipL_get (as := as) (bs := bs) (i := i) (d := d) (by simpa [zipL] using h)
    exact ⟨x, y, by simpa using h1, by simpa using h2, h3⟩
theorem zipL_len : ∀ {as bs : List D}, as.length ≤ (zipL as bs).length ∨ bs.length ≤ (zipL as bs).length
  | [], _ => .inl (Nat.le_refl _)
  | _ :: _, [] => .inr (Nat.le_refl _)
  | a :: as, b :: bs => by
    rcases zipL_len (as := as) (bs := bs) with h | h
    · exact .inl (Nat.succ_le_succ h)
    · exact .inr (Nat.succ_le_succ h)
theorem itz {K : PySem.W.Frag} {F : Fz} {H : Hp} {a b : Addr} {ds es : List D} (q : Dq K F H (.ref a) (.list ds)) (q2 : Dq K F H (.ref b) (.list es)) : ItV K F H (Itz K a b) (zipL ds es) := by
  refine ⟨fun i d F' H' g t hd => ?_, fun F' H' g t => ?_⟩
  · obtain ⟨_, xs, e, hs, qa⟩ := dq_sqL (q.grow g)
    cases e
    obtain ⟨_, ys, e, hs2, qb⟩ := dq_sqL (q2.grow g)
    cases e
    obtain ⟨u, w, h0, h00, rfl⟩ := zipL_get hd
    obtain ⟨v, h1, h2⟩ := qa.get h0
    obtain ⟨v', h1', h2'⟩ := qb.get h00
    refine ⟨⟨xs, ys, v, v', hs, hs2, h1, h1'⟩, fun x H'' y => ?_⟩
    obtain ⟨T, x, y, rfl, nT, rfl, y1, y2⟩ := y
    have z1 := y1 xs hs
    rw [h1] at z1
    cases z1
    have z2 := y2 ys hs2
    rw [h1'] at z2
    cases z2
    exact pair_new t nT h2 h2'
  · obtain ⟨_, xs, e, hs, qa⟩ := dq_sqL (q.grow g)
    cases e
    obtain ⟨_, ys, e, hs2, qb⟩ := dq_sqL (q2.grow g)
    cases e
    exact ⟨xs, ys, hs, hs2, by rw [qa.length, qb.length]; exact zipL_len⟩
theorem itzT {K : PySem.W.Frag} {F : Fz} {H : Hp} {a b : Addr} {ds es : List D} (q : Dq K F H (.ref a) (.tuple ds)) (q2 : Dq K F H (.ref b) (.tuple es)) : ItV K F H (RZ.ItzT K a b) (zipL ds es) := by
  refine ⟨fun i d F' H' g t hd => ?_, fun F' H' g t => ?_⟩
  · obtain ⟨_, xs, e, hs, qa⟩ := dq_sqT (q.grow g)
    cases e
    obtain ⟨_, ys, e, hs2, qb⟩ := dq_sqT (q2.grow g)
    cases e
    obtain ⟨u, w, h0, h00, rfl⟩ := zipL_get hd
    obtain ⟨v, h1, h2⟩ := qa.get h0
    obtain ⟨v', h1', h2'⟩ := qb.get h00
    refine ⟨⟨xs, ys, v, v', hs, hs2, h1, h1'⟩, fun x H'' y => ?_⟩
    obtain ⟨T, x, y, rfl, nT, rfl, y1, y2⟩ := y
    have z1 := y1 xs hs
    rw [h1] at z1
    cases z1
    have z2 := y2 ys hs2
    rw [h1'] at z2
    cases z2
    exact pair_new t nT h2 h2'
  · obtain ⟨_, xs, e, hs, qa⟩ := dq_sqT (q.grow g)
    cases e
    obtain ⟨_, ys, e, hs2, qb⟩ := dq_sqT (q2.grow g)
    cases e
    exact ⟨xs, ys, hs, hs2, by rw [qa.length, qb.length]; exact zipL_len⟩
def cZip : List D → Option (List D)
  | [.list xs, .list ys] => some (zipL xs ys)
  | [.tuple xs, .tuple ys] => some (zipL xs ys)
  | _ => none
theorem vi_zip {ms : M (List D)} {elts : List Expr} {kk : Nat} {tpos : Pos} (hg : Gl X "zip") (hm : X.mg "zip" = none) (ha : VA X B Γ E [a, b] ms) (hs : starEach [a, b] X.env = (false, eval a X.env) :: starEach [b] X.env := by rfl) (hpl : (backTo pos (starEach [b] X.env)).any (·.1) = false := by rfl) :
    VI X B Γ E (.Tuple elts kk tpos) (.Call (.Name "zip" p) [a, b] [] pos) (mRng cZip ms) :=
  PI.imp (RZ.pi_zipA hg hm ha.pa hs hpl) fun σ H Q ⟨F, ρ, r, h⟩ => ⟨F, ρ, r, (Res.bind h).mono (fun ds ρ1 h1 v H1 F1 r1 g1 q1 => by
    obtain ⟨l, e, h2⟩ := Res.of h1
    match ds, e with
    | [.list xs, .list ys], e =>
      cases e
      obtain ⟨w, w', rfl, q', q''⟩ := q1.two
      obtain ⟨a, vs, rfl, ha, qa⟩ := dq_sqL q'
      obtain ⟨b, ws, rfl, hb, qb⟩ := dq_sqL q''
      exact ⟨a, b, vs, ws, rfl, .inl ⟨ha, hb, h2 _ H1 F1 r1 g1 (itz q' q'')⟩⟩
    | [.tuple xs, .tuple ys], e =>
      cases e
      obtain ⟨w, w', rfl, q', q''⟩ := q1.two
      obtain ⟨a, vs, rfl, ha, qa⟩ := dq_sqT q'
      obtain ⟨b, ws, rfl, hb, qb⟩ := dq_sqT q''
      exact ⟨a, b, vs, ws, rfl, .inr ⟨ha, hb, h2 _ H1 F1 r1 g1 (itzT q' q'')⟩⟩) (fun _ _ _ k => k)⟩
end

/-! ### for -/
def forL (t : Tg) (mb : M Fl) : List D → M Fl
  | [] => mNx
  | d :: ds => fun ρ => match bindT t d ρ with
    | none => .stuck
    | some ρ1 => (mb ρ1).bind fun p => match p.1 with
      | .nx => forL t mb ds p.2
      | .ct => forL t mb ds p.2
      | .bk => .ok (.nx, p.2)
      | .rt d => .ok (.rt d, p.2)
def mFor (t : Tg) (mi : M (List D)) (mb : M Fl) : M Fl := mi.bind fun ds => forL t mb ds
section
variable {X : Cx} {B : Eb} {G : Gd} {Ps O On Ol : List Nat} {E : Wish} {ro : Bool} {tg iter : Expr} {body : List Stmt} {t : Tg} {mi : M (List D)} {mb : M Fl} {pos : Pos}
theorem vs_for (hp : PassesOwn (model X.prog X.w) X.A X.env X.xe) (hc : X.calm = true) (hi : VI X B (G.w Ps O) E tg iter mi) (hg : VG X (G.w Ps O) tg t) (hb : VSs X B G Ps E ro O O O body mb) (hs : ∀ x, foldedSetIterable iter X.env x = pure x := by intro _; rfl) :
    VS X B G Ps E ro O O Ol (.For tg iter body [] pos) (mFor t mi mb) :=
  PS.imp (ps_for hp hc hi hg hb hs) fun N σ H ⟨F, ρ, r, h⟩ => ⟨F, ρ, r, (Res.bind h).mono (fun ds ρ1 h1 J H1 F1 r1 g1 it => by
    have g1' := g1.g r
    refine ⟨fun i n σ' H' => n = ds.length - i ∧ i ≤ ds.length ∧ ∃ F' ρ', Rel X.K (G.w Ps O) F' ρ' σ' H' ∧ Grow F1 H1 F' H' ∧ Res (forL t mb (ds.drop i) ρ') (kS X.K G Ps ro O Ol F1 H1 N) (KexS X.K B G Ps E F1 H1), ⟨ds.length, by simp, Nat.zero_le _, F1, ρ1, r1, .refl, ?_⟩, ?_⟩
    · rw [List.drop_zero]
      exact h1.mono (fun f ρ2 k => k.grow g1') (fun _ _ _ k => k.grow g1')
    · rintro i n σ' H' ⟨rfl, hi, F', ρ', r', g', h'⟩
      by_cases hlt : i < ds.length
      · have hd : ds[i]? = some ds[i] := List.getElem?_eq_getElem hlt
        obtain ⟨hgo, hy⟩ := it.go i ds[i] F' H' g' r'.trk hd
        refine .inr ⟨hgo, fun σ2 H2 => ∃ F2 ρ2, Rel X.K (G.w Ps O) F2 ρ2 σ2 H2 ∧ Grow F1 H1 F2 H2 ∧ Res (forL t mb (ds.drop (i + 1)) ρ2) (kS X.K G Ps ro O Ol F1 H1 N) (KexS X.K B G Ps E F1 H1), fun σ2 H2 hh => ?_, fun x H2 y => ?_⟩
        · obtain ⟨F2, ρ2, q1, q2, q3⟩ := hh
          exact ⟨ds.length - (i + 1), by omega, rfl, hlt, F2, ρ2, q1, q2, q3⟩
        · obtain ⟨F2, ex, q⟩ := hy x H2 y
          have r2 := r'.to ex
          have g2 : Grow F1 H1 F2 H2 := g'.trans (ex.grow r'.trk)
          rw [List.drop_eq_getElem_cons hlt] at h'
          cases eb : bindT t ds[i] ρ' with
          | none => simp only [forL, eb] at h'; exact h'.elim
          | some ρ2 =>
            simp only [forL, eb] at h'
            refine ⟨F2, ρ', ds[i], ρ2, r2, q, eb, fun σ3 r3 sb => ⟨F2, ρ2, r3, ?_⟩⟩
            cases em : mb ρ2 with
            | stuck => rw [em] at h'; exact h'.elim
            | exc c fs ρ3 => rw [em] at h'; exact KexS.grow h' g2
            | ok p =>
              obtain ⟨fl, ρ3⟩ := p
              rw [em] at h'
              cases fl with
              | nx => exact fun σ4 H4 F4 r4 g4 => ⟨F4, ρ3, r4, g2.trans g4, h'⟩
              | ct => exact fun σ4 H4 F4 r4 g4 => ⟨F4, ρ3, r4, g2.trans g4, h'⟩
              | bk => exact fun σ4 H4 F4 r4 g4 => h' σ4 H4 F4 r4 (g2.trans g4)
              | rt d => exact fun O' v σ4 H4 F4 r4 g4 q4 => h' O' v σ4 H4 F4 r4 (g2.trans g4) q4
      · have e : i = ds.length := by omega
        subst e
        rw [List.drop_length] at h'
        exact .inl ⟨it.stop F' H' g' r'.trk, h' σ' H' F' r' g'⟩) (fun _ _ _ k => k.ex r)⟩
end
end VL
end

section
set_option Elab.async false
set_option linter.all false
set_option maxRecDepth 100000
set_option maxHeartbeats 4000000
namespace VL
open PySem PySem.Spec PyProof.Rows L2
set_option autoImplicit false

/-! ### a comprehension -/
def wipeE (ρ : Env) : List Nat → Env
  | [] => ρ
  | v :: vs => (wipeE ρ vs).set v none
theorem wipeE_len (ρ : Env) : ∀ vs : List Nat, (wipeE ρ vs).length = ρ.length
  | [] => rfl
  | v :: vs => by unfold wipeE; rw [List.length_set, wipeE_len ρ vs]
theorem wipeE_out {ρ : Env} {i : Nat} : ∀ {vs : List Nat}, i ∉ vs → (wipeE ρ vs)[i]? = ρ[i]?
  | [], _ => rfl
  | v :: vs, h => by
    rw [List.mem_cons, not_or] at h
    unfold wipeE
    rw [List.getElem?_set_ne fun z => h.1 z.symm, wipeE_out h.2]
theorem wipeE_some {ρ : Env} {i : Nat} {d : D} : ∀ {vs : List Nat}, (wipeE ρ vs)[i]? = some (some d) → i ∉ vs
  | [], _, z => by cases z
  | v :: vs, h, z => by
    unfold wipeE at h
    by_cases c : v = i
    · subst c
      by_cases hl : v < (wipeE ρ vs).length
      · rw [List.getElem?_set_self hl] at h
        cases h
      · rw [List.getElem?_eq_none_iff.mpr (by rw [List.length_set]; omega)] at h
        cases h
    · rw [List.getElem?_set_ne c] at h
      rcases List.mem_cons.mp z with z | z
      · exact c z.symm
      · exact wipeE_some h z
/-- the slots vs as they stood in ρ, all else as in ρ' -/
def backE (ρ : Env) : List Nat → Env → Env
  | [], ρ' => ρ'
  | v :: vs, ρ' => (backE ρ vs ρ').set v ((ρ[v]?).getD none)
theorem backE_len (ρ : Env) : ∀ (vs : List Nat) (ρ' : Env), (backE ρ vs ρ').length = ρ'.length
  | [], _ => rfl
  | v :: vs, ρ' => by unfold backE; rw [List.length_set, backE_len ρ vs ρ']
theorem backE_out {ρ ρ' : Env} {i : Nat} : ∀ {vs : List Nat}, i ∉ vs → (backE ρ vs ρ')[i]? = ρ'[i]?
  | [], _ => rfl
  | v :: vs, h => by
    rw [List.mem_cons, not_or] at h
    unfold backE
    rw [List.getElem?_set_ne fun z => h.1 z.symm, backE_out h.2]
theorem backE_in {ρ ρ' : Env} {i : Nat} (hl : i < ρ'.length) : ∀ {vs : List Nat}, i ∈ vs → (backE ρ vs ρ')[i]? = some ((ρ[i]?).getD none)
  | [], h => by cases h
  | v :: vs, h => by
    unfold backE
    by_cases c : v = i
    · subst c
      rw [List.getElem?_set_self (by rw [backE_len]; exact hl)]
    · rw [List.getElem?_set_ne c]
      rcases List.mem_cons.mp h with z | z
      · exact absurd z.symm c
      · exact backE_in hl z
section
variable {K : PySem.W.Frag} {Γ : Gm} {F F' : Fz} {H H' : Hp} {ρ ρ' : Env} {σ σ' : St}
theorem pin_notin {vs : List Nat} (r : Rel K Γ F ρ σ H) (hv : ∀ i ∈ vs, i ∉ Γ.O) {i : Nat} {a : Addr} (h : (i, a) ∈ Γ.P) : i ∉ vs := fun z => hv i z (r.pin i a h).1
theorem Rel.wipe {vs : List Nat} (r : Rel K Γ F ρ σ H) (hv : ∀ i ∈ vs, i ∉ Γ.O) : Rel K Γ F (wipeE ρ vs) (L2.wipe σ vs) H := by
  have ov : ∀ i, i ∈ Γ.O → i ∉ vs := fun i hi z => hv i z hi
  refine ⟨by rw [wipeE_len, wipe_length]; exact r.len, r.trk, fun i d hi n => ?_, fun i d hi n => ?_, fun i j a d e hi hj h1 h2 h3 h4 => ?_, fun i a hi => ?_, r.ext, r.fro, r.frm, fun j hj v hs => ?_⟩
  · have nv := wipeE_some hi
    rw [wipeE_out nv] at hi
    obtain ⟨v, h1, h2⟩ := r.val i d hi n
    exact ⟨v, by rw [wipe_out nv]; exact h1, h2⟩
  · have nv := wipeE_some hi
    rw [wipeE_out nv] at hi
    obtain ⟨a, h1, h2⟩ := r.own i d hi n
    exact ⟨a, by rw [wipe_out nv]; exact h1, h2⟩
  · rw [wipeE_out (ov i hi)] at h1
    rw [wipeE_out (ov j hj)] at h2
    rw [wipe_out (ov i hi)] at h3
    rw [wipe_out (ov j hj)] at h4
    exact r.inj i j a d e hi hj h1 h2 h3 h4
  · obtain ⟨h1, h2, h3⟩ := r.pin i a hi
    exact ⟨h1, by rw [wipeE_out (ov i h1)]; exact h2, by rw [wipe_out (ov i h1)]; exact h3⟩
  · rw [wipe_out (ov j hj)] at hs
    rw [wipeE_out (ov j hj)]
    exact r.dom j hj v hs
/-- the block's end: its slots are as they were -/
theorem Rel.back {vs : List Nat} (r : Rel K Γ F ρ σ H) (hv : ∀ i ∈ vs, i ∉ Γ.O) (r' : Rel K Γ F' ρ' (L2.wipe σ vs) H') (g : Grow F H F' H') : Rel K Γ F' (backE ρ vs ρ') σ H' := by
  have ov : ∀ i, i ∈ Γ.O → i ∉ vs := fun i hi z => hv i z hi
  refine ⟨by rw [backE_len, r'.len, wipe_length], r'.trk, fun i d hi n => ?_, fun i d hi n => ?_, fun i j a d e hi hj h1 h2 h3 h4 => ?_, fun i a hi => ?_, r'.ext, r'.fro, r'.frm, fun j hj v hs => ?_⟩
  · by_cases c : i ∈ vs
    · have hl : i < ρ'.length := by
        obtain ⟨w, _⟩ := List.getElem?_eq_some_iff.mp hi
        rw [backE_len] at w; exact w
      rw [backE_in hl c] at hi
      have hi' : ρ[i]? = some (some d) := by
        cases e : ρ[i]? with
        | none => rw [e] at hi; cases hi
        | some o => rw [e] at hi; exact hi
      obtain ⟨v, h1, h2⟩ := r.val i d hi' n
      exact ⟨v, h1, h2.grow g⟩
    · rw [backE_out c] at hi
      obtain ⟨v, h1, h2⟩ := r'.val i d hi n
      exact ⟨v, by rw [wipe_out c] at h1; exact h1, h2⟩
  · have c := ov i n
    rw [backE_out c] at hi
    obtain ⟨a, h1, h2⟩ := r'.own i d hi n
    exact ⟨a, by rw [wipe_out c] at h1; exact h1, h2⟩
  · rw [backE_out (ov i hi)] at h1
    rw [backE_out (ov j hj)] at h2
    exact r'.inj i j a d e hi hj h1 h2 (by rw [wipe_out (ov i hi)]; exact h3) (by rw [wipe_out (ov j hj)]; exact h4)
  · obtain ⟨h1, h2, h3⟩ := r'.pin i a hi
    exact ⟨h1, by rw [backE_out (ov i h1)]; exact h2, by rw [wipe_out (ov i h1)] at h3; exact h3⟩
  · rw [backE_out (ov j hj)]
    exact r'.dom j hj v (by rw [wipe_out (ov j hj)]; exact hs)
/-- an object that no slot owns, not frozen, is changed -/
theorem Rel.foreign {a : Addr} {o : HO} (r : Rel K Γ F ρ σ H) (nf : ¬ F a) (no : ¬ Own Γ.O σ a) (h0 : Γ.H0 a = none) : Rel K Γ F ρ σ (upd H a o) := by
  have g : Grow F H F (upd H a o) := fun b hb => ⟨hb, upd_ne fun z => nf (z ▸ hb)⟩
  refine ⟨r.len, fun b hb => ?_, fun i d hi n => ?_, fun i d hi n => ?_, r.inj, r.pin, fun b u hb hp => ?_, r.fro, r.frm, r.dom⟩
  · obtain ⟨u, hu⟩ := r.trk b hb
    exact ⟨u, by rw [(g b hb).2]; exact hu⟩
  · obtain ⟨v, h1, h2⟩ := r.val i d hi n
    exact ⟨v, h1, h2.grow g⟩
  · obtain ⟨b, h1, h2, h3, h4⟩ := r.own i d hi n
    exact ⟨b, h1, h2, h3.grow g (upd_ne fun z => no ⟨i, n, z ▸ h1⟩), h4⟩
  · rw [upd_ne fun z => by rw [z, h0] at hb; cases hb]
    exact r.ext b u hb hp
theorem Own.same {O S : List Nat} (h : SameBut S σ σ') (ho : ∀ i ∈ S, i ∉ O) {b : Addr} : Own O σ' b ↔ Own O σ b := by
  constructor
  · rintro ⟨j, hj, hs⟩
    exact ⟨j, hj, by rw [h.out j fun z => ho j z hj] at hs; exact hs⟩
  · rintro ⟨j, hj, hs⟩
    exact ⟨j, hj, by rw [h.out j fun z => ho j z hj]; exact hs⟩
theorem Own.wipe {O S : List Nat} (ho : ∀ i ∈ S, i ∉ O) {b : Addr} : Own O (L2.wipe σ S) b ↔ Own O σ b := by
  constructor
  · rintro ⟨j, hj, hs⟩
    exact ⟨j, hj, by rw [wipe_out fun z => ho j z hj] at hs; exact hs⟩
  · rintro ⟨j, hj, hs⟩
    exact ⟨j, hj, by rw [wipe_out fun z => ho j z hj]; exact hs⟩
theorem Kp.own {O : List Nat} (k : Kp O σ F H F' H') (e : ∀ b, Own O σ' b ↔ Own O σ b) : Kp O σ' F H F' H' := ⟨k.frz, fun b o h n => k.keep b o h fun z => n ((e b).mpr z)⟩
theorem wipe_in {i : Nat} (τ : St) : ∀ {vs : List Nat}, i ∈ vs → (L2.wipe τ vs)[i]? = if i < τ.length then some none else none
  | [], z => by cases z
  | v :: vs, z => by
    show ((L2.wipe τ vs).set v none)[i]? = _
    by_cases c : v = i
    · subst c
      by_cases hl : v < τ.length
      · rw [List.getElem?_set_self (by rw [wipe_length]; exact hl), if_pos hl]
      · rw [if_neg hl, List.getElem?_eq_none_iff.mpr (by rw [List.length_set, wipe_length]; omega)]
    · rw [List.getElem?_set_ne c]
      rcases List.mem_cons.mp z with z | z
      · exact absurd z.symm c
      · exact wipe_in τ z
theorem wipe_same {S vs : List Nat} (h : SameBut S σ σ') (hs : ∀ i ∈ S, i ∈ vs) : L2.wipe σ' vs = L2.wipe σ vs := by
  apply List.ext_getElem?
  intro i
  by_cases c : i ∈ vs
  · rw [wipe_in σ' c, wipe_in σ c, h.len]
  · rw [wipe_out c, wipe_out c, h.out i fun z => c (hs i z)]
theorem wipe_idem {vs : List Nat} : L2.wipe (L2.wipe σ vs) vs = L2.wipe σ vs := by
  apply List.ext_getElem?
  intro i
  by_cases c : i ∈ vs
  · rw [wipe_in _ c, wipe_in σ c, wipe_length]
  · rw [wipe_out c]
def R.sbind {α β : Type} : R α → (α → R β) → R β
  | .ok a, f => f a
  | _, _ => .stuck
end
def lcL (t : Tg) (own : List Nat) (mt : M Bool) (me : M D) : List D → List D → M (List D)
  | [], acc => M.pure acc
  | d :: ds, acc => fun ρ => match bindT t d ρ with
    | none => .stuck
    | some ρ1 => (mt ρ1).sbind fun q => if q.1 = true then (me q.2).sbind fun p => lcL t own mt me ds (acc ++ [p.1]) (wipeE p.2 own) else lcL t own mt me ds acc (wipeE q.2 own)
def mLc (t : Tg) (own : List Nat) (mi : M (List D)) (mt : M Bool) (me : M D) : M D := fun ρ => (mi ρ).bind fun p => if p.1.length ≤ sizeLine then (lcL t own mt me p.1 [] (wipeE p.2 own)).sbind fun q => .ok (.list q.1, backE p.2 own q.2) else .stuck
def VTs (X : Cx) (B : Eb) (Γ : Gm) (E : Wish) (ifs : List Expr) (m : M Bool) : Prop := PTs X ifs (tVt X.K B Γ E m)
abbrev E0w : Wish := fun _ => E0
section
variable {X : Cx} {B : Eb} {Γ : Gm} {E : Wish} {tg iter elt : Expr} {ifs : List Expr} {t : Tg} {mi : M (List D)} {mt : M Bool} {me : M D} {pos : Pos}
theorem PTs.imp {X : Cx} {e : List Expr} {t t' : TT} (h : PTs X e t) (i : ∀ σ H Q, t' σ H Q → t σ H Q) : PTs X e t' := ⟨fun pins s σ H Q I q => h.run pins s σ H Q I (i σ H Q q)⟩
theorem vts_nil : VTs X B Γ E [] (M.pure true) := PTs.imp pts_nil fun σ H Q ⟨F, ρ, r, h⟩ => h true H F r .refl rfl
theorem vts_one {c : Expr} (h : VT X B Γ E c mt) : VTs X B Γ E [c] mt := pts_one h
theorem tlc {own : List (Str × Nat)} (hv : ∀ i ∈ own.map (·.2), i ∉ Γ.O) (ht : ∀ i ∈ t.slots, i ∈ own.map (·.2)) {σ : St} {H : Hp} {Q : VK} (h : tO X.K B Γ E (mLc t (own.map (·.2)) mi mt me) σ H Q) :
    tLc (tI X.K B Γ E mi) (gT X.K Γ t) (tVt X.K B Γ E0w mt) (tV X.K B Γ E0w me) (own.map (·.2)) σ H Q := by
  generalize own.map (·.2) = vs at hv ht h ⊢
  obtain ⟨F, ρ, r, h⟩ := h
  refine ⟨F, ρ, r, ?_⟩
  unfold mLc at h
  cases em : mi ρ with
  | stuck => rw [em] at h; exact h.elim
  | exc c fs ρ' => rw [em] at h; exact h
  | ok p =>
    obtain ⟨ds, ρ1⟩ := p
    rw [em] at h
    intro J H1 F1 r1 k1 it D hD
    simp only [R.bind] at h
    by_cases hz : ds.length ≤ sizeLine
    · rw [if_pos hz] at h
      have ovs : ∀ i ∈ t.slots, i ∉ Γ.O := fun i hi => hv i (ht i hi)
      have nD0 : Γ.H0 D = none := r1.h0 hD
      have noD : ¬ Own Γ.O σ D := r1.nownN hD
      have nfD : ¬ F1 D := r1.nf hD
      refine ⟨fun i n H' => n = ds.length - i ∧ i ≤ ds.length ∧ ∃ F' ρ' acc vacc, Rel X.K Γ F' ρ' (L2.wipe σ vs) H' ∧ Kp Γ.O σ F1 H1 F' H' ∧ ¬ F' D ∧ H' D = some (.lst vacc) ∧ DqAll X.K F' H' vacc acc ∧ acc.length ≤ i ∧
        Res (lcL t vs mt me (ds.drop i) acc ρ') (fun ys ρ2 => ∀ v H2 F2, Rel X.K Γ F2 (backE ρ1 vs ρ2) σ H2 → Kp Γ.O σ F H F2 H2 → Fresh X.K H F2 H2 v (.list ys) → Q v H2) (fun _ _ _ => False), ⟨ds.length, by simp, Nat.zero_le _, F1, wipeE ρ1 vs, [], [], ?_, (Ext.laid r1.trk hD).kp, nfD, upd_same, .nil, Nat.le_refl _, ?_⟩, ?_⟩
      · exact (r1.wipe hv).foreign nfD (fun z => noD ((Own.wipe hv).mp z)) nD0
      · rw [List.drop_zero]
        cases el : lcL t vs mt me ds [] (wipeE ρ1 vs) with
        | stuck => rw [el] at h; exact h.elim
        | exc c fs ρ' => rw [el] at h; exact h.elim
        | ok q => rw [el] at h; exact h
      · rintro i n H' ⟨rfl, hi, F', ρ', acc, vacc, r', k', nF', hD', qa, hacc, h'⟩
        have g' : Grow F1 H1 F' H' := k'.g r1
        by_cases hlt : i < ds.length
        · have hd : ds[i]? = some ds[i] := List.getElem?_eq_getElem hlt
          obtain ⟨hgo, hy⟩ := it.go i ds[i] F' H' g' r'.trk hd
          refine .inr ⟨hgo, fun H2 => ∃ F2 ρ2 acc2 vacc2, Rel X.K Γ F2 ρ2 (L2.wipe σ vs) H2 ∧ Kp Γ.O σ F1 H1 F2 H2 ∧ ¬ F2 D ∧ H2 D = some (.lst vacc2) ∧ DqAll X.K F2 H2 vacc2 acc2 ∧ acc2.length ≤ i + 1 ∧
            Res (lcL t vs mt me (ds.drop (i + 1)) acc2 ρ2) (fun ys ρ2 => ∀ v H2 F2, Rel X.K Γ F2 (backE ρ1 vs ρ2) σ H2 → Kp Γ.O σ F H F2 H2 → Fresh X.K H F2 H2 v (.list ys) → Q v H2) (fun _ _ _ => False), fun H2 hh => ?_, fun x H2 y => ?_⟩
          · obtain ⟨F2, ρ2, acc2, vacc2, q⟩ := hh
            exact ⟨ds.length - (i + 1), by omega, rfl, hlt, F2, ρ2, acc2, vacc2, q⟩
          · obtain ⟨F2, ex, q⟩ := hy x H2 y
            have r2 := r'.to ex
            have k2 : Kp Γ.O σ F1 H1 F2 H2 := k'.trans ex.kp
            have hD2 : H2 D = some (.lst vacc) := ex.same D _ hD'
            have nF2 : ¬ F2 D := fun z => by
              rcases ex.new D z with z | z
              · exact nF' z
              · rw [hD'] at z; cases z
            have qa2 := qa.grow (ex.grow r'.trk)
            rw [List.drop_eq_getElem_cons hlt] at h'
            cases eb : bindT t ds[i] ρ' with
            | none => simp only [lcL, eb] at h'; exact h'.elim
            | some ρ2 =>
              simp only [lcL, eb] at h'
              refine ⟨F2, ρ', ds[i], ρ2, r2, q, eb, fun σ3 r3 sb => ?_⟩
              have w3 : L2.wipe σ3 vs = L2.wipe σ vs := (wipe_same sb ht).trans wipe_idem
              have own3 : ∀ b, Own Γ.O σ b ↔ Own Γ.O σ3 b := fun b => ((Own.same sb ovs).trans (Own.wipe hv)).symm
              refine ⟨w3, F2, ρ2, r3, ?_⟩
              cases et : mt ρ2 with
              | stuck => rw [et] at h'; exact h'.elim
              | exc c fs ρ3 => rw [et] at h'; exact h'.elim
              | ok p3 =>
                obtain ⟨tb, ρ3⟩ := p3
                rw [et] at h'
                intro v H3 F3 r4 k3 ev
                have ev' : v = tb := ev
                subst ev'
                have k3' : Kp Γ.O σ F1 H1 F3 H3 := k2.trans (k3.own own3)
                obtain ⟨hD3, fD3⟩ := k3.keep D _ hD2 fun z => noD ((own3 D).mpr z)
                have nF3 : ¬ F3 D := fun z => nF2 (fD3 z)
                have qa3 := qa2.grow (k3.g r3)
                cases v with
                | false =>
                  exact ⟨F3, wipeE ρ3 vs, acc, vacc, w3 ▸ r4.wipe hv, k3', nF3, hD3, qa3, Nat.le_succ_of_le hacc, h'⟩
                | true =>
                  refine ⟨F3, ρ3, r4, ?_⟩
                  simp only [R.sbind, if_true] at h'
                  cases ee : me ρ3 with
                  | stuck => rw [ee] at h'; exact h'.elim
                  | exc c fs ρ4 => rw [ee] at h'; exact h'.elim
                  | ok p4 =>
                    obtain ⟨d4, ρ4⟩ := p4
                    rw [ee] at h'
                    intro y4 H4 F4 r5 k4 q4
                    obtain ⟨hD4, fD4⟩ := k4.keep D _ hD3 fun z => noD ((own3 D).mpr z)
                    have nF4 : ¬ F4 D := fun z => nF3 (fD4 z)
                    have qa4 := qa3.grow (k4.g r4)
                    have gD : Grow F4 H4 F4 (upd H4 D (.lst (vacc ++ [y4]))) := fun b hb => ⟨hb, upd_ne fun z => nF4 (z ▸ hb)⟩
                    refine ⟨vacc, hD4, by rw [qa.length]; omega, F4, wipeE ρ4 vs, acc ++ [d4], vacc ++ [y4], ?_, ?_, nF4, upd_same, ?_, ?_, h'⟩
                    · exact (w3 ▸ r5.wipe hv : Rel X.K Γ F4 (wipeE ρ4 vs) (L2.wipe σ vs) H4).foreign nF4 (fun z => noD ((Own.wipe hv).mp z)) nD0
                    · have k5 : Kp Γ.O σ F1 H1 F4 H4 := k3'.trans (k4.own own3)
                      refine ⟨k5.frz, fun b o hb nb => ?_⟩
                      obtain ⟨z1, z2⟩ := k5.keep b o hb nb
                      exact ⟨by rw [upd_ne fun z => by rw [z, hD] at hb; cases hb]; exact z1, z2⟩
                    · exact (qa4.append (.cons q4 .nil)).grow gD
                    · rw [List.length_append]; exact Nat.succ_le_succ hacc
        · have e : i = ds.length := by omega
          subst e
          rw [List.drop_length] at h'
          refine .inl ⟨it.stop F' H' g' r'.trk, ?_⟩
          exact h' (.ref D) H' F' (r1.back hv r' g') (k1.trans k') ⟨D, rfl, .lst hD' qa, nF', k1.none0 r1 hD⟩
    · rw [if_neg hz] at h; exact h.elim
theorem vo_lc {G : Gd} {Ps O : List Nat} {scope : Scope} {own : List (Str × Nat)} (hc : X.calm = true) (hN : X.N.Nodup) (hi : VI X B (G.w Ps O) E tg iter mi) (ok : BlkOk X.N X.env.scope scope own)
    (hg : ∀ (s : Shared) (H : Hp) (C : Addr) (cl : List (Str × Addr)) (fp : List Addr), VG (X.blk s H scope (compEnvC scope cl C X.env) fp) (G.w Ps O) tg t)
    (ht : ∀ (s : Shared) (H : Hp) (C : Addr) (cl : List (Str × Addr)) (fp : List Addr), VTs (X.blk s H scope (compEnvC scope cl C X.env) fp) B (G.w Ps O) E0w ifs mt)
    (he : ∀ (s : Shared) (H : Hp) (C : Addr) (cl : List (Str × Addr)) (fp : List Addr), VE (X.blk s H scope (compEnvC scope cl C X.env) fp) B (G.w Ps O) E0w elt me)
    (hv : ∀ i ∈ own.map (·.2), i ∉ O := by decide) (hts : ∀ i ∈ t.slots, i ∈ own.map (·.2) := by decide) (hs : ∀ x, foldedSetIterable iter X.env x = pure x := by intro _; rfl) :
    VO X B (G.w Ps O) E (.ListComp elt [⟨tg, iter, ifs, 0⟩] scope pos) (mLc t (own.map (·.2)) mi mt me) :=
  PE.imp (pe_lc (g := gT X.K (G.w Ps O) t) (tt := tVt X.K B (G.w Ps O) E0w mt) (te := tV X.K B (G.w Ps O) E0w me) hc hN hi ok hg ht he hs) fun σ H Q h => tlc hv hts h
end

/-! ### y = [.. for ..], stored within the comprehension -/
section
variable {X : Cx} {B : Eb} {G : Gd} {Ps O Ol : List Nat} {E : Wish} {ro : Bool} {tg iter elt : Expr} {ifs : List Expr} {t : Tg} {mi : M (List D)} {mt : M Bool} {me : M D} {pos spos py : Pos}
theorem vs_setLcO {i : Nat} {y : Str} {scope : Scope} {own : List (Str × Nat)} (hc : X.calm = true) (hN : X.N.Nodup) (hy : X.N[i]? = some y) (hyl : X.env.scope.names.lookup y = some .local) (hsw : swapsWith (.ListComp elt [⟨tg, iter, ifs, 0⟩] scope pos) (some (.Name y py)) spos.line X.env = pure true)
    (hi : VI X B (G.w Ps O) E tg iter mi) (ok : BlkOk X.N X.env.scope scope own)
    (hg : ∀ (s : Shared) (H : Hp) (C : Addr) (cl : List (Str × Addr)) (fp : List Addr), VG (X.blk s H scope (compEnvC scope cl C X.env) fp) (G.w Ps O) tg t)
    (ht : ∀ (s : Shared) (H : Hp) (C : Addr) (cl : List (Str × Addr)) (fp : List Addr), VTs (X.blk s H scope (compEnvC scope cl C X.env) fp) B (G.w Ps O) E0w ifs mt)
    (he : ∀ (s : Shared) (H : Hp) (C : Addr) (cl : List (Str × Addr)) (fp : List Addr), VE (X.blk s H scope (compEnvC scope cl C X.env) fp) B (G.w Ps O) E0w elt me)
    (hp : i ∉ Ps := by decide) (hv : ∀ i ∈ own.map (·.2), i ∉ O := by decide) (hts : ∀ i ∈ t.slots, i ∈ own.map (·.2) := by decide) (hs : ∀ x, foldedSetIterable iter X.env x = pure x := by intro _; rfl) :
    VS X B G Ps E ro O (i :: O) Ol (.Assign [.Name y py] (.ListComp elt [⟨tg, iter, ifs, 0⟩] scope pos) spos) (mSet i (mLc t (own.map (·.2)) mi mt me)) :=
  PS.imp (ps_setLc (g := gT X.K (G.w Ps O) t) (tt := tVt X.K B (G.w Ps O) E0w mt) (te := tV X.K B (G.w Ps O) E0w me) hc hN hy hyl hsw hi ok hg ht he hs) fun N σ H ⟨F, ρ, r, h⟩ => tlc (X := X) (E := E) (Γ := G.w Ps O) hv hts ⟨F, ρ, r, (Res.bind h).mono (fun d ρ1 h1 v H1 F1 r1 g1 q1 => by
    obtain ⟨a, rfl, oa, nf, hn⟩ := q1
    exact h1 _ H1 F1 (r1.setO oa nf (r.h0 hn) (r.nownN hn) (notpin hp)) (g1.g r)) (fun _ _ _ k => k.ex r)⟩
theorem vs_setLc {i : Nat} {y : Str} {O1 : List Nat} {scope : Scope} {own : List (Str × Nat)} (hO : delO i O = O1) (hc : X.calm = true) (hN : X.N.Nodup) (hy : X.N[i]? = some y) (hyl : X.env.scope.names.lookup y = some .local) (hsw : swapsWith (.ListComp elt [⟨tg, iter, ifs, 0⟩] scope pos) (some (.Name y py)) spos.line X.env = pure true)
    (hi : VI X B (G.w Ps O) E tg iter mi) (ok : BlkOk X.N X.env.scope scope own)
    (hg : ∀ (s : Shared) (H : Hp) (C : Addr) (cl : List (Str × Addr)) (fp : List Addr), VG (X.blk s H scope (compEnvC scope cl C X.env) fp) (G.w Ps O) tg t)
    (ht : ∀ (s : Shared) (H : Hp) (C : Addr) (cl : List (Str × Addr)) (fp : List Addr), VTs (X.blk s H scope (compEnvC scope cl C X.env) fp) B (G.w Ps O) E0w ifs mt)
    (he : ∀ (s : Shared) (H : Hp) (C : Addr) (cl : List (Str × Addr)) (fp : List Addr), VE (X.blk s H scope (compEnvC scope cl C X.env) fp) B (G.w Ps O) E0w elt me)
    (hp : i ∉ Ps := by decide) (hv : ∀ i ∈ own.map (·.2), i ∉ O := by decide) (hts : ∀ i ∈ t.slots, i ∈ own.map (·.2) := by decide) (hs : ∀ x, foldedSetIterable iter X.env x = pure x := by intro _; rfl) :
    VS X B G Ps E ro O O1 Ol (.Assign [.Name y py] (.ListComp elt [⟨tg, iter, ifs, 0⟩] scope pos) spos) (mSet i (mLc t (own.map (·.2)) mi mt me)) :=
  PS.imp (ps_setLc (g := gT X.K (G.w Ps O) t) (tt := tVt X.K B (G.w Ps O) E0w mt) (te := tV X.K B (G.w Ps O) E0w me) hc hN hy hyl hsw hi ok hg ht he hs) fun N σ H ⟨F, ρ, r, h⟩ => tlc (X := X) (E := E) (Γ := G.w Ps O) hv hts ⟨F, ρ, r, (Res.bind h).mono (fun d ρ1 h1 v H1 F1 r1 g1 q1 => by
    obtain ⟨a, rfl, oa, nf, hn⟩ := q1
    obtain ⟨o, ho⟩ := oa.some
    have g : Grow F1 H1 (fun b => F1 b ∨ b = a) H1 := fun b hb => ⟨.inl hb, rfl⟩
    have r2 := r1.freeze ho (r.h0 hn) (r.nownN hn)
    exact h1 _ H1 (fun b => F1 b ∨ b = a) (hO ▸ r2.setD ((oa.grow g rfl).frz (.inr rfl)) (notpin hp)) ((g1.g r).trans g)) (fun _ _ _ k => k.ex r)⟩
end
end VL
end

section
set_option Elab.async false
set_option linter.all false
set_option maxRecDepth 100000
set_option maxHeartbeats 4000000
namespace VL
open PySem PySem.Spec PyProof.Rows L2
set_option autoImplicit false

/-! ### a list of one's own is changed -/
section
variable {K : PySem.W.Frag} {Γ : Gm} {F : Fz} {H : Hp} {ρ : Env} {σ : St}
theorem Rel.mut {i : Nat} {a : Addr} {o : HO} {d d' : D} (r : Rel K Γ F ρ σ H) (hi : i ∈ Γ.O) (hd : ρ[i]? = some (some d)) (hs : σ[i]? = some (some (.ref a))) (nf : ¬ F a) (q : OwnAt K F (upd H a o) a d') :
    Rel K Γ F (ρ.set i (some d')) σ (upd H a o) ∧ Kp Γ.O σ F H F (upd H a o) := by
  have fr : Frm [a] F H F (upd H a o) := ⟨fun b u hb nb => by rw [upd_ne fun z => nb (by rw [z]; exact List.mem_cons_self ..)]; exact hb, fun b h => h, fun b h => .inl h, fun b h => by
    obtain ⟨u, hu⟩ := r.trk b h
    exact ⟨u, by rw [upd_ne (show b ≠ a from fun z => nf (z ▸ h))]; exact hu⟩⟩
  have := r.after (T := [(i, a, d')]) Kp.refl fr (by simp) (fun j b e hm => by
    rcases List.mem_cons.mp hm with z | z
    · cases z
      exact ⟨hi, hs, q, nf, d, hd⟩
    · cases z) (fun b hb => by
    rcases List.mem_cons.mp hb with z | z
    · subst z
      exact .inl ⟨i, d', List.mem_cons_self ..⟩
    · cases z)
  exact this
end
section
variable {X : Cx} {B : Eb} {G : Gd} {Ps O Ol O1 : List Nat} {E : Wish} {ro : Bool} {e ix : Expr} {me mi : M D} {pos apos cpos px : Pos}
/-- the list in slot i -/
def lstAt (ρ : Env) (i : Nat) : Option (List D) := match ρ[i]? with
  | some (some (.list ds)) => some ds
  | _ => none
theorem lstAt_some {ρ : Env} {i : Nat} {ds : List D} (h : lstAt ρ i = some ds) : ρ[i]? = some (some (.list ds)) := by
  unfold lstAt at h
  split at h
  · next e => rw [e, Option.some.inj h]
  · cases h
theorem own_lst {K : PySem.W.Frag} {Γ : Gm} {F : Fz} {H : Hp} {ρ : Env} {σ : St} {i : Nat} {ds : List D} (r : Rel K Γ F ρ σ H) (hi : i ∈ Γ.O) (h : lstAt ρ i = some ds) : ∃ a xs, σ[i]? = some (some (.ref a)) ∧ ¬ F a ∧ H a = some (.lst xs) ∧ DqAll K F H xs ds := by
  obtain ⟨a, h1, h2, h3, _⟩ := r.own i _ (lstAt_some h) hi
  cases h3 with
  | lst q qa => exact ⟨a, _, h1, h2, q, qa⟩
def mApp (i : Nat) (me : M D) : M D := fun ρ => match lstAt ρ i with
  | none => .stuck
  | some _ => (me ρ).bind fun p => match lstAt p.2 i with
    | none => .stuck
    | some ds => if ds.length < sizeLine then .ok (.none, p.2.set i (some (.list (ds ++ [p.1])))) else .stuck
theorem ve_append {i : Nat} {x : Str} (he : VE X B (G.w Ps O) E e me) (hi : i ∈ O := by decide) (hN : X.N[i]? = some x := by rfl) (hv : Vis X.env.scope x := by first | exact Or.inl rfl | exact Or.inr (Or.inl rfl) | exact Or.inr (Or.inr rfl)) (hd : (x == ("__debug__" : Str)) = false := by decide) (hcd : (x == ("__classdict__" : Str)) = false := by decide)
    (hbase : attributeBase (.Name x px) "append" X.env (eval (.Name x px) X.env) = eval (.Name x px) X.env := by rfl)
    (hfew : ((backTo cpos (starEach [e] X.env)).all (fun x => !x.1) && (backToKw cpos (keywordEach [] X.env)).all (fun x => x.1.isSome) && decide ([e].length + ([] : List Keyword).length + (if ([] : List Keyword).isEmpty then 0 else 1) < 30)) = true := by rfl)
    (hline : (apos.endLine == cpos.line) = true := by rfl) (hs : starEach [e] X.env = (false, eval e X.env) :: starEach [] X.env := by rfl) (hplain : (backTo cpos (starEach [] X.env)).any (·.1) = false := by rfl) :
    VE X B (G.w Ps O) E (.Call (.Attribute (.Name x px) "append" apos) [e] [] cpos) (mApp i me) :=
  PE.imp (pe_bm PySem.F.plainAttrs_list PySem.F.slot_list_append PySem.F.type_list_append mt_append (pe_var hN hv hd hcd) (pa_cons he pa_nil hs) hbase hfew hline hs hplain) fun σ H Q ⟨F, ρ, r, h⟩ => by
    unfold mApp at h
    cases e1 : lstAt ρ i with
    | none => rw [e1] at h; exact h.elim
    | some ds0 =>
      rw [e1] at h
      obtain ⟨a, xs, h1, h2, h3, h4⟩ := own_lst r hi e1
      refine ⟨.ref a, h1, .inl ⟨rfl, xs, .inl (.inl h3)⟩, F, ρ, r, ?_⟩
      cases e2 : me ρ with
      | stuck => rw [e2] at h; exact h.elim
      | exc c fs ρ' => rw [e2] at h; exact h
      | ok p =>
        obtain ⟨d, ρ1⟩ := p
        rw [e2] at h
        intro v H1 F1 r1 k1 q1
        cases e3 : lstAt ρ1 i with
        | none => simp only [R.bind, e3] at h; exact h.elim
        | some ds =>
          simp only [R.bind, e3] at h
          by_cases c : ds.length < sizeLine
          · rw [if_pos c] at h
            obtain ⟨b, ys, g1, g2, g3, g4⟩ := own_lst r1 hi e3
            rw [h1] at g1; cases g1
            refine ⟨a, ys, v, rfl, rfl, g3, by rw [g4.length]; exact c, ?_⟩
            have gr : Grow F1 H1 F1 (upd H1 a (.lst (ys ++ [v]))) := fun b hb => ⟨hb, upd_ne fun z => g2 (z ▸ hb)⟩
            obtain ⟨r2, k2⟩ := r1.mut (d' := .list (ds ++ [d])) hi (lstAt_some e3) h1 g2 (.lst upd_same ((g4.append (.cons q1 .nil)).grow gr))
            exact h .non _ F1 r2 (k1.trans k2) .non
          · rw [if_neg c] at h; exact h.elim
def mPopAt (i : Nat) (me : M D) : M D := fun ρ => match lstAt ρ i with
  | none => .stuck
  | some _ => (me ρ).bind fun p => match p.1, lstAt p.2 i with
    | .int k, some ds => if -(2 ^ 63) ≤ k ∧ k < 2 ^ 63 then match seqIndex? k ds.length with
      | some j => match ds[j]? with
        | some d => .ok (d, p.2.set i (some (.list (ds.eraseIdx j))))
        | none => .stuck
      | none => .stuck else .stuck
    | _, _ => .stuck
theorem ve_popAt {i : Nat} {x : Str} (he : VE X B (G.w Ps O) E e me) (hi : i ∈ O := by decide) (hN : X.N[i]? = some x := by rfl) (hv : Vis X.env.scope x := by first | exact Or.inl rfl | exact Or.inr (Or.inl rfl) | exact Or.inr (Or.inr rfl)) (hd : (x == ("__debug__" : Str)) = false := by decide) (hcd : (x == ("__classdict__" : Str)) = false := by decide)
    (hbase : attributeBase (.Name x px) "pop" X.env (eval (.Name x px) X.env) = eval (.Name x px) X.env := by rfl)
    (hfew : ((backTo cpos (starEach [e] X.env)).all (fun x => !x.1) && (backToKw cpos (keywordEach [] X.env)).all (fun x => x.1.isSome) && decide ([e].length + ([] : List Keyword).length + (if ([] : List Keyword).isEmpty then 0 else 1) < 30)) = true := by rfl)
    (hline : (apos.endLine == cpos.line) = true := by rfl) (hs : starEach [e] X.env = (false, eval e X.env) :: starEach [] X.env := by rfl) (hplain : (backTo cpos (starEach [] X.env)).any (·.1) = false := by rfl) :
    VE X B (G.w Ps O) E (.Call (.Attribute (.Name x px) "pop" apos) [e] [] cpos) (mPopAt i me) :=
  PE.imp (pe_bm PySem.F.plainAttrs_list PySem.F.slot_list_pop PySem.F.type_list_pop mt_popAt (pe_var hN hv hd hcd) (pa_cons he pa_nil hs) hbase hfew hline hs hplain) fun σ H Q ⟨F, ρ, r, h⟩ => by
    unfold mPopAt at h
    cases e1 : lstAt ρ i with
    | none => rw [e1] at h; exact h.elim
    | some ds0 =>
      rw [e1] at h
      obtain ⟨a, xs, h1, h2, h3, h4⟩ := own_lst r hi e1
      refine ⟨.ref a, h1, .inl ⟨rfl, xs, .inl (.inl h3)⟩, F, ρ, r, ?_⟩
      cases e2 : me ρ with
      | stuck => rw [e2] at h; exact h.elim
      | exc c fs ρ' => rw [e2] at h; exact h
      | ok p =>
        obtain ⟨d, ρ1⟩ := p
        rw [e2] at h
        intro v H1 F1 r1 k1 q1
        cases d with
        | int k =>
          cases e3 : lstAt ρ1 i with
          | none => simp only [R.bind, e3] at h; exact h.elim
          | some ds =>
            simp only [R.bind, e3] at h
            by_cases c : -(2 ^ 63) ≤ k ∧ k < 2 ^ 63
            · rw [if_pos c] at h
              cases e4 : seqIndex? k ds.length with
              | none => simp only [e4] at h; exact h.elim
              | some j =>
                simp only [e4] at h
                cases e5 : ds[j]? with
                | none => simp only [e5] at h; exact h.elim
                | some y =>
                  simp only [e5] at h
                  obtain ⟨b, ys, g1, g2, g3, g4⟩ := own_lst r1 hi e3
                  rw [h1] at g1; cases g1
                  obtain ⟨w, w1, w2⟩ := g4.get e5
                  cases dq_int q1
                  refine ⟨a, ys, k, j, w, rfl, rfl, g3, c.1, c.2, by rw [g4.length]; exact e4, w1, ?_⟩
                  have gr : Grow F1 H1 F1 (upd H1 a (.lst (ys.eraseIdx j))) := fun b hb => ⟨hb, upd_ne fun z => g2 (z ▸ hb)⟩
                  obtain ⟨r2, k2⟩ := r1.mut (d' := .list (ds.eraseIdx j)) hi (lstAt_some e3) h1 g2 (.lst upd_same ((g4.erase j).grow gr))
                  exact h w _ F1 r2 (k1.trans k2) (w2.grow gr)
            · rw [if_neg c] at h; exact h.elim
        | _ => cases e3 : lstAt ρ1 i <;> (simp only [R.bind, e3] at h; exact h.elim)
/-- x[i] of one's own -/
def mIxO (i : Nat) (mi : M D) : M D := fun ρ => match lstAt ρ i with
  | none => .stuck
  | some _ => (mi ρ).bind fun p => match p.1, lstAt p.2 i with
    | .int k, some ds => match atI ds k with
      | some d => .ok (d, p.2)
      | none => .stuck
    | _, _ => .stuck
theorem ve_ixO {i : Nat} {x : Str} (he : VE X B (G.w Ps O) E ix mi) (hp : PlainIx ix) (hi : i ∈ O := by decide) (hN : X.N[i]? = some x := by rfl) (hv : Vis X.env.scope x := by first | exact Or.inl rfl | exact Or.inr (Or.inl rfl) | exact Or.inr (Or.inr rfl)) (hd : (x == ("__debug__" : Str)) = false := by decide) (hcd : (x == ("__classdict__" : Str)) = false := by decide) :
    VE X B (G.w Ps O) E (.Subscript (.Name x px) ix pos) (mIxO i mi) :=
  PE.imp (pe_ix ix_list (pe_var hN hv hd hcd) he hp) fun σ H Q ⟨F, ρ, r, h⟩ => by
    unfold mIxO at h
    cases e1 : lstAt ρ i with
    | none => rw [e1] at h; exact h.elim
    | some ds0 =>
      rw [e1] at h
      obtain ⟨a, xs, h1, h2, h3, h4⟩ := own_lst r hi e1
      refine ⟨.ref a, h1, F, ρ, r, ?_⟩
      cases e2 : mi ρ with
      | stuck => rw [e2] at h; exact h.elim
      | exc c fs ρ' => rw [e2] at h; exact h
      | ok p =>
        obtain ⟨d, ρ1⟩ := p
        rw [e2] at h
        intro v H1 F1 r1 k1 q1
        cases d with
        | int k =>
          cases e3 : lstAt ρ1 i with
          | none => simp only [R.bind, e3] at h; exact h.elim
          | some ds =>
            simp only [R.bind, e3] at h
            cases e4 : atI ds k with
            | none => simp only [e4] at h; exact h.elim
            | some y =>
              simp only [e4] at h
              obtain ⟨b, ys, g1, g2, g3, g4⟩ := own_lst r1 hi e3
              rw [h1] at g1; cases g1
              obtain ⟨w, w1, w2⟩ := g4.at e4
              cases dq_int q1
              exact ⟨a, ys, k, w, rfl, rfl, .inl (.inl g3), w1, h w H1 F1 r1 k1 w2⟩
        | _ => cases e3 : lstAt ρ1 i <;> (simp only [R.bind, e3] at h; exact h.elim)
/-- x[i] = e of one's own -/
def mSetIx (i : Nat) (me mi : M D) : M Fl := fun ρ => (me ρ).bind fun p => match lstAt p.2 i with
  | none => .stuck
  | some _ => (mi p.2).bind fun q => match q.1, lstAt q.2 i with
    | .int k, some ds => match ixN ds.length k with
      | some j => .ok (.nx, q.2.set i (some (.list (ds.set j p.1))))
      | none => .stuck
    | _, _ => .stuck
theorem vs_setIx {i : Nat} {x : Str} {p2 : Pos} (he : VE X B (G.w Ps O) E e me) (hx : VE X B (G.w Ps O) E ix mi) (hi : i ∈ O := by decide) (hN : X.N[i]? = some x := by rfl) (hv : Vis X.env.scope x := by first | exact Or.inl rfl | exact Or.inr (Or.inl rfl) | exact Or.inr (Or.inr rfl)) (hd : (x == ("__debug__" : Str)) = false := by decide) (hcd : (x == ("__classdict__" : Str)) = false := by decide)
    (ha : ∀ v, assign (.Subscript (.Name x px) ix p2) X.env v = (do
      let ov ← holding [v] (eval (.Name x px) X.env)
      let iv ← holding [v, ov] (eval ix X.env)
      standAt p2
      holding [v, ov, iv] (setItem ov iv v)
      release [v, ov, iv] []) := by intro _; rfl)
    (hs : swapsWithSole [.Subscript (.Name x px) ix p2] e pos.line X.env = pure false := by rfl) (hw : swappedStores [.Subscript (.Name x px) ix p2] e X.env = pure none := by rfl) :
    VS X B G Ps E ro O O Ol (.Assign [.Subscript (.Name x px) ix p2] e pos) (mSetIx i me mi) :=
  PS.imp (ps_asg he (pg_sub (pe_var hN hv hd hcd) hx set_list ha) hs hw) fun N σ H ⟨F, ρ, r, h⟩ => by
    refine ⟨F, ρ, r, ?_⟩
    unfold mSetIx at h
    cases e2 : me ρ with
    | stuck => rw [e2] at h; exact h.elim
    | exc c fs ρ' => rw [e2] at h; exact KexS.ex h r
    | ok p =>
      obtain ⟨d, ρ1⟩ := p
      rw [e2] at h
      intro v H1 F1 r1 k1 q1
      cases e1 : lstAt ρ1 i with
      | none => simp only [R.bind, e1] at h; exact h.elim
      | some ds0 =>
        simp only [R.bind, e1] at h
        obtain ⟨a, xs, h1, h2, h3, h4⟩ := own_lst r1 hi e1
        refine ⟨.ref a, h1, F1, ρ1, r1, ?_⟩
        cases e5 : mi ρ1 with
        | stuck => rw [e5] at h; exact h.elim
        | exc c fs ρ' => rw [e5] at h; exact KexS.ex (KexS.grow h (k1.g r)) r1
        | ok p2 =>
          obtain ⟨d2, ρ2⟩ := p2
          rw [e5] at h
          intro w H2 F2 r2 k2 q2
          cases d2 with
          | int k =>
            cases e3 : lstAt ρ2 i with
            | none => simp only [e3] at h; exact h.elim
            | some ds =>
              simp only [e3] at h
              cases e4 : ixN ds.length k with
              | none => simp only [e4] at h; exact h.elim
              | some j =>
                simp only [e4] at h
                obtain ⟨b, ys, g1, g2, g3, g4⟩ := own_lst r2 hi e3
                rw [h1] at g1; cases g1
                cases dq_int q2
                refine ⟨a, ys, k, j, rfl, rfl, g3, by rw [g4.length]; exact e4, ?_⟩
                have gr : Grow F2 H2 F2 (upd H2 a (.lst (ys.set j v))) := fun b hb => ⟨hb, upd_ne fun z => g2 (z ▸ hb)⟩
                obtain ⟨r3, k3⟩ := r2.mut (d' := .list (ds.set j d)) hi (lstAt_some e3) h1 g2 (.lst upd_same ((g4.set (q1.grow (k2.g r1)) j).grow gr))
                exact h σ _ F2 r3 (((k1.g r).trans (k2.g r1)).trans gr)
          | _ => cases e3 : lstAt ρ2 i <;> (simp only [e3] at h; exact h.elim)
/-- len of one's own -/
def mLenO (i : Nat) : M D := fun ρ => match lstAt ρ i with
  | some ds => .ok (.int ds.length, ρ)
  | none => .stuck
theorem ve_lenO {i : Nat} {x : Str} (hg : Gl X "len") (hm : X.mg "len" = none) (hi : i ∈ O := by decide) (hN : X.N[i]? = some x := by rfl) (hv : Vis X.env.scope x := by first | exact Or.inl rfl | exact Or.inr (Or.inl rfl) | exact Or.inr (Or.inr rfl)) (hd : (x == ("__debug__" : Str)) = false := by decide) (hcd : (x == ("__classdict__" : Str)) = false := by decide)
    (he : starEach [.Name x px] X.env = (false, eval (.Name x px) X.env) :: starEach [] X.env := by rfl) (hpl : (backTo pos (starEach [] X.env)).any (·.1) = false := by rfl) : VE X B (G.w Ps O) E (.Call (.Name "len" apos) [.Name x px] [] pos) (mLenO i) :=
  PE.imp (pe_callB call_len_seq hg hm PySem.boot_len (pa_cons (pe_var hN hv hd hcd) pa_nil he) (by decide) (by decide) he hpl) fun σ H Q ⟨F, ρ, r, h⟩ => by
    unfold mLenO at h
    cases e1 : lstAt ρ i with
    | none => rw [e1] at h; exact h.elim
    | some ds =>
      rw [e1] at h
      obtain ⟨a, xs, h1, h2, h3, h4⟩ := own_lst r hi e1
      refine ⟨.ref a, h1, a, xs, rfl, .inl (.inl (.inl h3)), ?_⟩
      rw [h4.length]
      exact h _ H F r .refl (.int _)
/-- name op= e, ints -/
def mAug (g : Int → Int → Int) (i : Nat) (me : M D) : M Fl := fun ρ => match ρ[i]? with
  | some (some (.int k)) => (me ρ).bind fun p => match p.1 with
    | .int j => .ok (.nx, p.2.set i (some (.int (g k j))))
    | _ => .stuck
  | _ => .stuck
theorem vs_aug {i : Nat} {x : Str} {op : Operator} {g : Int → Int → Int} (hO : delO i O = O) (hN : X.N.Nodup) (hn : X.N[i]? = some x) (hx : Loc X.env.scope x) (he : VE X B (G.w Ps O) E e me) (ho : PIp X op (ipI g)) (hni : i ∉ O := by decide) (hp : i ∉ Ps := by decide)
    (hf : X.fn x = true ∨ X.env.scope.names.lookup x = some .local := by first | exact .inl rfl | exact .inr rfl) : VS X B G Ps E ro O O Ol (.AugAssign (.Name x px) op e pos) (mAug g i me) :=
  PS.imp (ps_aug hN hn hx he ho hf) fun N σ H ⟨F, ρ, r, h⟩ => by
    unfold mAug at h
    cases e1 : ρ[i]? with
    | none => rw [e1] at h; exact h.elim
    | some o =>
      cases o with
      | none => rw [e1] at h; exact h.elim
      | some d0 =>
        cases d0 with
        | int k =>
          rw [e1] at h
          obtain ⟨v0, h1, h2⟩ := r.val i _ e1 hni
          cases dq_int h2
          refine ⟨.int k, h1, F, ρ, r, ?_⟩
          cases e2 : me ρ with
          | stuck => rw [e2] at h; exact h.elim
          | exc c fs ρ' => rw [e2] at h; exact KexS.ex h r
          | ok p =>
            obtain ⟨d, ρ1⟩ := p
            rw [e2] at h
            intro v H1 F1 r1 k1 q1
            cases d with
            | int j =>
              cases dq_int q1
              refine ⟨k, j, rfl, rfl, ?_⟩
              have r2 := r1.setD (d := .int (g k j)) (.int _) (notpin hp)
              have e3 : ({ (G.w Ps O) with O := (G.w Ps O).O.filter (fun j => decide (j ≠ i)) } : Gm) = G.w Ps O := by
                show Gd.w G Ps (delO i O) = _
                rw [hO]
              rw [e3] at r2
              exact h _ H1 F1 r2 (k1.g r)
            | _ => exact h.elim
        | _ => rw [e1] at h; exact h.elim
end
end VL
end

section
set_option Elab.async false
set_option linter.all false
set_option maxRecDepth 100000
set_option maxHeartbeats 4000000
namespace VL
open PySem PySem.Spec PyProof.Rows L2
set_option autoImplicit false

/-! ### a, b = x, y -/
def newO : Sl → Nat → List Nat → List Nat
  | .tmp, i, O => i :: O
  | _, i, O => delO i O
section
variable {X : Cx} {B : Eb} {G : Gd} {Ps O Ol O1 O2 O3 : List Nat} {E : Wish} {ro : Bool} {a b c e tg : Expr} {m : M (List D)} {me : M D} {pos : Pos}
/-- one value of such a row -/
inductive Held1 (K : PySem.W.Frag) (F : Fz) (H Hs : Hp) : Sl → V → D → Prop
  | dat {v : V} {d : D} : Dq K F H v d → Held1 K F H Hs .dat v d
  | tmp {a : Addr} {d : D} : OwnAt K F H a d → ¬ F a → Hs a = none → Held1 K F H Hs .tmp (.ref a) d
theorem Held1.set {K : PySem.W.Frag} {F : Fz} {H Hs : Hp} {s : Sl} {v : V} {d : D} {ρ : Env} {σ : St} {i : Nat} (h : Held1 K F H Hs s v d) (r : Rel K (G.w Ps O) F ρ σ H) (h0 : ∀ a, Hs a = none → G.H0 a = none) (no : s = .tmp → ∀ a, v = .ref a → Hs a = none → ¬ Own O σ a) (hp : i ∉ Ps) :
    Rel K (G.w Ps (newO s i O)) F (ρ.set i (some d)) (σ.set i (some v)) H := by
  cases h with
  | dat q => exact r.setD q (notpin hp)
  | tmp oa nf hn => exact r.setO oa nf (h0 _ hn) (no rfl _ rfl hn) (notpin hp)
def mPar (is : List Nat) (m : M (List D)) : M Fl := m.bind fun ds ρ => match is, ds with
  | [i, j], [d1, d2] => .ok (.nx, (ρ.set i (some d1)).set j (some d2))
  | [i, j, k], [d1, d2, d3] => .ok (.nx, ((ρ.set i (some d1)).set j (some d2)).set k (some d3))
  | _, _ => .stuck
theorem own_set {O : List Nat} {σ : St} {i : Nat} {v : V} {b : Addr} {s : Sl} (n : ¬ Own O σ b) (hv : s = .tmp → v ≠ .ref b) : ¬ Own (newO s i O) (σ.set i (some v)) b := fun ⟨j, hj, hs⟩ => by
  cases s with
  | tmp =>
    by_cases c : i = j
    · subst c
      have hl : i < σ.length := by
        obtain ⟨w, _⟩ := List.getElem?_eq_some_iff.mp hs
        rw [List.length_set] at w; exact w
      rw [List.getElem?_set_self hl] at hs
      cases hs
      exact hv rfl rfl
    · rw [List.getElem?_set_ne c] at hs
      rcases List.mem_cons.mp (show j ∈ i :: O from hj) with z | z
      · exact c z.symm
      · exact n ⟨j, z, hs⟩
  | dat =>
    obtain ⟨h1, h2⟩ := List.mem_filter.mp (show j ∈ O.filter _ from hj)
    rw [List.getElem?_set_ne fun z => (of_decide_eq_true h2) z.symm] at hs
    exact n ⟨j, h1, hs⟩
  | slot k =>
    obtain ⟨h1, h2⟩ := List.mem_filter.mp (show j ∈ O.filter _ from hj)
    rw [List.getElem?_set_ne fun z => (of_decide_eq_true h2) z.symm] at hs
    exact n ⟨j, h1, hs⟩
theorem held2 {K : PySem.W.Frag} {F : Fz} {H Hs : Hp} {σ : St} {s1 s2 : Sl} {vs : List V} {ds : List D} (n1 : ∀ j, s1 ≠ .slot j) (n2 : ∀ j, s2 ≠ .slot j) (h : HeldA K F H Hs σ [s1, s2] vs ds) :
    ∃ v w d1 d2, vs = [v, w] ∧ ds = [d1, d2] ∧ Held1 K F H Hs s1 v d1 ∧ Held1 K F H Hs s2 w d2 ∧ (s1 = .tmp → s2 = .tmp → v ≠ w) := by
  cases h with
  | dat q r =>
    cases r with
    | dat q' r' => cases r'; exact ⟨_, _, _, _, rfl, rfl, .dat q, .dat q', fun z => by cases z⟩
    | tmp oa nf hn _ r' => cases r'; exact ⟨_, _, _, _, rfl, rfl, .dat q, .tmp oa nf hn, fun z => by cases z⟩
    | slot q' r' => exact absurd rfl (n2 _)
  | tmp oa nf hn ni r =>
    cases r with
    | dat q' r' => cases r'; exact ⟨_, _, _, _, rfl, rfl, .tmp oa nf hn, .dat q', fun _ z => by cases z⟩
    | tmp oa' nf' hn' _ r' => cases r'; exact ⟨_, _, _, _, rfl, rfl, .tmp oa nf hn, .tmp oa' nf' hn', fun _ _ z => ni (by cases z; exact List.mem_cons_self ..)⟩
    | slot q' r' => exact absurd rfl (n2 _)
  | slot q r => exact absurd rfl (n1 _)
theorem held3 {K : PySem.W.Frag} {F : Fz} {H Hs : Hp} {σ : St} {s1 s2 s3 : Sl} {vs : List V} {ds : List D} (n1 : ∀ j, s1 ≠ .slot j) (n2 : ∀ j, s2 ≠ .slot j) (n3 : ∀ j, s3 ≠ .slot j) (h : HeldA K F H Hs σ [s1, s2, s3] vs ds) :
    ∃ u v w d1 d2 d3, vs = [u, v, w] ∧ ds = [d1, d2, d3] ∧ Held1 K F H Hs s1 u d1 ∧ Held1 K F H Hs s2 v d2 ∧ Held1 K F H Hs s3 w d3 ∧ (s1 = .tmp → s2 = .tmp → u ≠ v) ∧ (s1 = .tmp → s3 = .tmp → u ≠ w) ∧ (s2 = .tmp → s3 = .tmp → v ≠ w) := by
  cases h with
  | dat q r =>
    obtain ⟨v, w, d1, d2, rfl, rfl, h1, h2, h3⟩ := held2 n2 n3 r
    exact ⟨_, v, w, _, d1, d2, rfl, rfl, .dat q, h1, h2, (fun z => by cases z), (fun z => by cases z), h3⟩
  | tmp oa nf hn ni r =>
    obtain ⟨v, w, d1, d2, rfl, rfl, h1, h2, h3⟩ := held2 n2 n3 r
    refine ⟨_, v, w, _, d1, d2, rfl, rfl, .tmp oa nf hn, h1, h2, fun _ z e => ?_, fun _ z e => ?_, h3⟩
    · subst z
      subst e
      exact ni (List.mem_cons_self ..)
    · subst z
      subst e
      cases h1 with
      | dat _ => exact ni (by
          cases v <;> first | exact List.mem_cons_self .. | exact List.mem_cons_self ..)
      | tmp _ _ _ => exact ni (List.mem_cons_of_mem _ (List.mem_cons_self ..))
  | slot q r => exact absurd rfl (n1 _)
theorem vs_par2 {i j : Nat} {x y : Str} {px py pt pt2 : Pos} {kt k2 : Nat} {s1 s2 : Sl} (hO1 : newO s1 i O = O1) (hO2 : newO s2 j O1 = O2) (hc : X.calm = true) (hN : X.N.Nodup) (hi : X.N[i]? = some x) (hj : X.N[j]? = some y) (hij : i ≠ j) (hx : X.env.scope.names.lookup x = some .local) (hy : X.env.scope.names.lookup y = some .local)
    (ha : VM X B (G.w Ps O) E [a, b] [s1, s2] m) (hw : swappedStores [.Tuple [.Name x px, .Name y py] kt pt] (.Tuple [a, b] k2 pt2) X.env = pure (some [x, y]) := by rfl)
    (hs : swapsWithSole [.Tuple [.Name x px, .Name y py] kt pt] (.Tuple [a, b] k2 pt2) pos.line X.env = pure false := by rfl) (n1 : ∀ j, s1 ≠ .slot j := by intro _ z; cases z) (n2 : ∀ j, s2 ≠ .slot j := by intro _ z; cases z) (hp1 : i ∉ Ps := by decide) (hp2 : j ∉ Ps := by decide) :
    VS X B G Ps E ro O O2 Ol (.Assign [.Tuple [.Name x px, .Name y py] kt pt] (.Tuple [a, b] k2 pt2) pos) (mPar [i, j] m) :=
  PS.imp (ps_par hc hN hi hj hij hx hy ha hw hs) fun N σ H ⟨F, ρ, r, h⟩ => ⟨F, ρ, r, (Res.bind h).mono (fun ds ρ1 h1 vs H1 F1 r1 k1 hh => by
    obtain ⟨v, w, d1, d2, rfl, rfl, q1, q2, q3⟩ := held2 n1 n2 hh
    have h0 : ∀ a, H a = none → G.H0 a = none := fun a z => r.h0 z
    have ra := q1.set r1 h0 (fun _ a _ z => r.nownN z) hp1
    have rb := q2.set ra h0 (fun t2 b e z => own_set (r.nownN z) fun t1 e2 => q3 t1 t2 (e2.trans e.symm)) hp2
    rw [hO1, hO2] at rb
    exact ⟨v, w, rfl, h1 _ H1 F1 rb (k1.g r)⟩) (fun _ _ _ k => k.ex r)⟩
theorem vs_par3 {i j l : Nat} {x y z : Str} {px py pz pt pt2 : Pos} {kt k2 : Nat} {s1 s2 s3 : Sl} (hO1 : newO s1 i O = O1) (hO2 : newO s2 j O1 = O2) (hO3 : newO s3 l O2 = O3) (hc : X.calm = true) (hN : X.N.Nodup) (hi : X.N[i]? = some x) (hj : X.N[j]? = some y) (hl : X.N[l]? = some z) (hij : i ≠ j) (hil : i ≠ l) (hjl : j ≠ l)
    (hx : X.env.scope.names.lookup x = some .local) (hy : X.env.scope.names.lookup y = some .local) (hz : X.env.scope.names.lookup z = some .local)
    (ha : VM X B (G.w Ps O) E [a, b, c] [s1, s2, s3] m) (hw : swappedStores [.Tuple [.Name x px, .Name y py, .Name z pz] kt pt] (.Tuple [a, b, c] k2 pt2) X.env = pure (some [x, y, z]) := by rfl)
    (hs : swapsWithSole [.Tuple [.Name x px, .Name y py, .Name z pz] kt pt] (.Tuple [a, b, c] k2 pt2) pos.line X.env = pure false := by rfl) (n1 : ∀ j, s1 ≠ .slot j := by intro _ z; cases z) (n2 : ∀ j, s2 ≠ .slot j := by intro _ z; cases z) (n3 : ∀ j, s3 ≠ .slot j := by intro _ z; cases z) (hp1 : i ∉ Ps := by decide) (hp2 : j ∉ Ps := by decide) (hp3 : l ∉ Ps := by decide) :
    VS X B G Ps E ro O O3 Ol (.Assign [.Tuple [.Name x px, .Name y py, .Name z pz] kt pt] (.Tuple [a, b, c] k2 pt2) pos) (mPar [i, j, l] m) :=
  PS.imp (ps_par3 hc hN hi hj hl hij hil hjl hx hy hz ha hw hs) fun N σ H ⟨F, ρ, r, h⟩ => ⟨F, ρ, r, (Res.bind h).mono (fun ds ρ1 h1 vs H1 F1 r1 k1 hh => by
    obtain ⟨u, v, w, d1, d2, d3, rfl, rfl, q1, q2, q3, e12, e13, e23⟩ := held3 n1 n2 n3 hh
    have h0 : ∀ a, H a = none → G.H0 a = none := fun a z => r.h0 z
    have ra := q1.set r1 h0 (fun _ a _ z => r.nownN z) hp1
    have rb := q2.set ra h0 (fun t2 b e z => own_set (r.nownN z) fun t1 e2 => e12 t1 t2 (e2.trans e.symm)) hp2
    have rc := q3.set rb h0 (fun t3 b e z => own_set (own_set (r.nownN z) fun t1 e2 => e13 t1 t3 (e2.trans e.symm)) fun t2 e2 => e23 t2 t3 (e2.trans e.symm)) hp3
    rw [hO1, hO2, hO3] at rc
    exact ⟨u, v, w, rfl, h1 _ H1 F1 rc (k1.g r)⟩) (fun _ _ _ k => k.ex r)⟩

/-! ### a, b = e -/
def mBind (t : Tg) (me : M D) : M Fl := me.bind fun d ρ => match bindT t d ρ with
  | some ρ' => .ok (.nx, ρ')
  | none => .stuck
theorem vs_asg {t : Tg} (he : VE X B (G.w Ps O) E e me) (hg : VG X (G.w Ps O) tg t) (hs : swapsWithSole [tg] e pos.line X.env = pure false := by rfl) (hw : swappedStores [tg] e X.env = pure none := by rfl) (ht : (assignEach [tg] X.env).map (·.2) = [assign tg X.env] := by rfl) :
    VS X B G Ps E ro O O Ol (.Assign [tg] e pos) (mBind t me) :=
  PS.imp (ps_asg he hg hs hw ht) fun N σ H ⟨F, ρ, r, h⟩ => ⟨F, ρ, r, (Res.bind h).mono (fun d ρ1 h1 v H1 F1 r1 k1 q1 => by
    cases e1 : bindT t d ρ1 with
    | none => simp only [e1] at h1; exact h1.elim
    | some ρ2 =>
      simp only [e1] at h1
      exact ⟨F1, ρ1, d, ρ2, r1, q1, e1, fun σ' r' _ => h1 σ' H1 F1 r' (k1.g r)⟩) (fun _ _ _ k => k.ex r)⟩

/-! ### a <= b < c -/
variable {Γ : Gm} {ma mb mc : M D}
def mChain (g g' : D → D → Option D) (ma mb mc : M D) : M D := ma.bind fun x => mb.bind fun y => (M.of (g x y)).bind fun k => match k with
  | .bool true => mc.bind fun z => M.of (g' y z)
  | .bool false => M.pure (.bool false)
  | _ => fun _ => .stuck
theorem chainv {g g' : D → D → Option D} {σ : St} {H : Hp} {Q : VK} (h : tV X.K B Γ E (mChain g g' ma mb mc) σ H Q) : tChain (rV X.K g) (rV X.K g') (tV X.K B Γ E ma) (tV X.K B Γ E mb) (tV X.K B Γ E mc) σ H Q := by
  obtain ⟨F, ρ, r, h⟩ := h
  refine ⟨F, ρ, r, (Res.bind h).mono (fun x ρ1 h1 v1 H1 F1 r1 g1 q1 => ⟨F1, ρ1, r1, (Res.bind h1).mono (fun y ρ2 h2 v2 H2 F2 r2 g2 q2 => ?_) (fun c fs ρ' k => k.grow g1)⟩) (fun _ _ _ k => k)⟩
  obtain ⟨d, e, h3⟩ := Res.of (Res.bind h2)
  refine ⟨F2, x, y, d, r2.trk, q1.grow (g2.g r1), q2, e, fun v H3 F3 ex q => ?_⟩
  have r3 := r2.to ex
  have k3 := (g1.trans g2).trans ex.kp (O := Γ.O) (σ := σ)
  cases d with
  | bool k =>
    cases dq_bl q
    refine ⟨k, rfl, ?_⟩
    cases k with
    | true =>
      refine ⟨F3, ρ2, r3, (Res.bind (show Res ((mc.bind fun z => M.of (g' y z)) ρ2) _ _ from h3)).mono (fun z ρ4 h4 v4 H4 F4 r4 k4 q4 => ?_) (fun c fs ρ' k => k.grow k3)⟩
      obtain ⟨d', e', h5⟩ := Res.of h4
      exact ⟨F4, y, z, d', r4.trk, (q2.grow (ex.grow r2.trk)).grow (k4.g r3), q4, e', fun v H' F' ex' q' => h5 v H' F' (r4.to ex') ((k3.trans k4).trans ex'.kp) q'⟩
    | false => exact h3 (.bl false) H3 F3 r3 k3 (.bl false)
  | _ => exact h3.elim
theorem ve_chain {op op' : CmpOp} {g g' : D → D → Option D} (ho : OpR X (compareOp op) (rV X.K g)) (ho' : OpR X (compareOp op') (rV X.K g')) (ha : VE X B Γ E a ma) (hb : VE X B Γ E b mb) (hc : VE X B Γ E c mc) (hm : lastMarks [op, op'] [b, c] = false := by with_unfolding_all rfl) :
    VE X B Γ E (.Compare a [op, op'] [b, c] pos) (mChain g g' ma mb mc) := PE.imp (pe_chain ho ho' ha hb hc hm) fun _ _ _ h => chainv h
theorem vt_chain {op op' : CmpOp} {g g' : D → D → Option D} (ho : OpR X (compareOp op) (rV X.K g)) (ho' : OpR X (compareOp op') (rV X.K g')) (ha : VE X B Γ E a ma) (hb : VE X B Γ E b mb) (hc : VE X B Γ E c mc) (hg : ∀ x y d, g' x y = some d → ∃ c, d = .bool c) (hm : lastMarks [op, op'] [b, c] = false := by with_unfolding_all rfl) :
    VT X B Γ E (.Compare a [op, op'] [b, c] pos) (mTruth (mChain g g' ma mb mc)) := PT.imp (pt_chain ho ho' ha hb hc hm) fun σ H Q h => by
  refine chainv ?_
  obtain ⟨F, ρ, r, h⟩ := h
  refine ⟨F, ρ, r, ?_⟩
  have hb : ∀ d ρ', mChain g g' ma mb mc ρ = .ok (d, ρ') → ∃ k, d = .bool k := fun d ρ' he => by
    unfold mChain M.bind at he
    cases e1 : ma ρ with
    | stuck => rw [e1] at he; cases he
    | exc _ _ _ => rw [e1] at he; cases he
    | ok p =>
      rw [e1] at he
      cases e2 : mb p.2 with
      | stuck => simp only [R.bind, e2] at he; cases he
      | exc _ _ _ => simp only [R.bind, e2] at he; cases he
      | ok q =>
        simp only [R.bind, e2] at he
        cases e3 : g p.1 q.1 with
        | none => simp only [e3, M.of, R.of, R.bind] at he; cases he
        | some k =>
          simp only [e3, M.of, R.of, R.bind] at he
          cases k with
          | bool k =>
            cases k with
            | false => simp only [M.pure] at he; cases he; exact ⟨_, rfl⟩
            | true =>
              simp only at he
              cases e4 : mc q.2 with
              | stuck => simp only [e4] at he; cases he
              | exc _ _ _ => simp only [e4] at he; cases he
              | ok z =>
                simp only [e4] at he
                cases e5 : g' q.1 z.1 with
                | none => simp only [e5] at he; cases he
                | some w =>
                  simp only [e5] at he
                  cases he
                  exact hg _ _ _ e5
          | _ => cases he
  unfold mTruth M.bind at h
  cases e1 : mChain g g' ma mb mc ρ with
  | stuck => rw [e1] at h; exact h.elim
  | exc _ _ _ => rw [e1] at h; exact h
  | ok p =>
    obtain ⟨d, ρ'⟩ := p
    rw [e1] at h
    obtain ⟨k, rfl⟩ := hb d ρ' e1
    intro v H' F' r' k' q'
    exact ⟨k, dq_bl q', h k H' F' r' k' rfl⟩
end

/-! ### sorted -/
section
variable {α : Type} {le : α → α → Bool}
def insL (le : α → α → Bool) (x : α) : List α → List α
  | [] => [x]
  | y :: ys => if le x y = true then x :: y :: ys else y :: insL le x ys
def isort (le : α → α → Bool) : List α → List α
  | [] => []
  | x :: xs => insL le x (isort le xs)
theorem insL_mem {x z : α} : ∀ {l : List α}, z ∈ insL le x l → z = x ∨ z ∈ l
  | [], h => .inl (by simpa [insL] using h)
  | y :: ys, h => by
    unfold insL at h
    by_cases c : le x y = true
    · rw [if_pos c] at h
      rcases List.mem_cons.mp h with h | h
      · exact .inl h
      · exact .inr h
    · rw [if_neg c] at h
      rcases List.mem_cons.mp h with h | h
      · exact .inr (by rw [h]; exact List.mem_cons_self ..)
      · rcases insL_mem h with h | h
        · exact .inl h
        · exact .inr (List.mem_cons_of_mem _ h)
theorem insL_sorted (h : PySem.W.TotalLe le) {x : α} : ∀ {l : List α}, l.Pairwise (fun a b => le a b = true) → (insL le x l).Pairwise (fun a b => le a b = true)
  | [], _ => by simp [insL]
  | y :: ys, hp => by
    obtain ⟨p1, p2⟩ := List.pairwise_cons.mp hp
    unfold insL
    by_cases c : le x y = true
    · rw [if_pos c]
      refine List.pairwise_cons.mpr ⟨fun z hz => ?_, hp⟩
      rcases List.mem_cons.mp hz with rfl | hz
      · exact c
      · exact h.trans _ _ _ c (p1 z hz)
    · rw [if_neg c]
      refine List.pairwise_cons.mpr ⟨fun z hz => ?_, insL_sorted h p2⟩
      rcases insL_mem hz with rfl | hz
      · exact (h.total _ _).resolve_left c
      · exact p1 z hz
theorem insL_filter (h : PySem.W.TotalLe le) {x c : α} : ∀ {l : List α}, (insL le x l).filter (PySem.W.sameRank le c) = (x :: l).filter (PySem.W.sameRank le c)
  | [] => rfl
  | y :: ys => by
    unfold insL
    by_cases k : le x y = true
    · rw [if_pos k]
    · rw [if_neg k, List.filter_cons, insL_filter h (l := ys), List.filter_cons, List.filter_cons, List.filter_cons]
      by_cases s1 : PySem.W.sameRank le c x = true
      · by_cases s2 : PySem.W.sameRank le c y = true
        · exfalso
          unfold PySem.W.sameRank at s1 s2
          rw [Bool.and_eq_true] at s1 s2
          exact k (h.trans _ _ _ s1.2 s2.1)
        · simp only [if_neg s2, if_pos s1]
      · simp only [if_neg s1]
theorem isort_eq (h : PySem.W.TotalLe le) (l : List α) : isort le l = l.mergeSort le := by
  refine PySem.W.sort_unique h ?_ ?_
  · induction l with
    | nil => exact .nil
    | cons x xs ih => exact insL_sorted h ih
  · intro c
    induction l with
    | nil => rfl
    | cons x xs ih =>
      show (insL le x (isort le xs)).filter _ = _
      rw [insL_filter h, List.filter_cons, List.filter_cons, ih]
end
def dle (x y : D) : Bool := !PySem.W.dataLt y x
def sortD (l : List D) : List D := isort dle l
theorem sortD_eq (l : List D) : sortD l = l.mergeSort (PySem.W.dataLe false id) := isort_eq (PySem.W.sortLe_total (PyProof.Rows.listOrd PyProof.Rows.itemOrd) false fun b => PySem.W.keyToks b) l
def allAlike (l : List D) : Bool := l.all fun x => l.all fun y => PySem.W.alike x y
def isTupC : D → Bool
  | .tuple (_ :: _) => true
  | _ => false
def isOth : D → Bool
  | .none => false
  | .tuple _ => false
  | _ => true
def sortOk (l : List D) : Bool := PyData.plainAll l && allAlike l && (l.all isTupC || l.all isOth) && l.all fun x => decide (x.depth ≤ 100)
def cSort : List D → Option D
  | [.list xs] => if sortOk xs = true then some (.list (sortD xs)) else none
  | _ => none
theorem sortOk_ok {l : List D} (h : sortOk l = true) : PyData.plainAll l = true ∧ PySem.W.AllAlike l ∧ PySem.W.Sortable l ∧ ∀ x ∈ l, x.depth ≤ 100 := by
  unfold sortOk at h
  rw [Bool.and_eq_true, Bool.and_eq_true, Bool.and_eq_true] at h
  obtain ⟨⟨⟨h1, h2⟩, h3⟩, h4⟩ := h
  refine ⟨h1, fun d hd d' hd' => ?_, ?_, fun x hx => of_decide_eq_true (List.all_eq_true.mp h4 x hx)⟩
  · unfold allAlike at h2
    exact List.all_eq_true.mp (List.all_eq_true.mp h2 d hd) d' hd'
  · rcases Bool.or_eq_true_iff.mp h3 with h3 | h3
    · refine .inl fun d hd => ?_
      have := List.all_eq_true.mp h3 d hd
      unfold isTupC at this
      split at this
      · exact ⟨_, _, rfl⟩
      · cases this
    · refine .inr fun d hd => ?_
      have := List.all_eq_true.mp h3 d hd
      exact ⟨(fun z => by subst z; cases this), (fun xs z => by subst z; cases this)⟩
theorem each_vals {K : PySem.W.Frag} {F : Fz} {H : Hp} : ∀ {vs : List V} {us : List Value} {ds : List D}, Vals vs us → DqAll K F H vs ds → PySem.W.EachIs (fun u d => ∃ v, RelV v u ∧ Dq K F H v d) us ds
  | _, _, _, .nil, .nil => .nil
  | _, _, _, .cons r t, .cons q w => .cons ⟨_, r, q⟩ (each_vals t w)
theorem vals_each {K : PySem.W.Frag} {F : Fz} {H : Hp} : ∀ {us : List Value} {ds : List D}, PySem.W.EachIs (fun u d => ∃ v, RelV v u ∧ Dq K F H v d) us ds → ∃ vs, Vals vs us ∧ DqAll K F H vs ds
  | _, _, .nil => ⟨[], .nil, .nil⟩
  | _, _, .cons ⟨v, r, q⟩ t => by
    obtain ⟨vs, h1, h2⟩ := vals_each t
    exact ⟨v :: vs, .cons r h1, .cons q h2⟩
theorem each_mem {α β : Type} {R : α → β → Prop} : ∀ {as : List α} {bs : List β}, PySem.W.EachIs R as bs → PySem.W.EachIs (fun a b => R a b ∧ b ∈ bs) as bs
  | _, _, .nil => .nil
  | _, _, .cons r t => .cons ⟨r, List.mem_cons_self ..⟩ ((each_mem t).mono fun _ _ h => ⟨h.1, List.mem_cons_of_mem _ h.2⟩)
section
variable {X : Cx} {B : Eb} {Γ : Gm} {E : Wish} {e : Expr} {ms : M (List D)} {pos p : Pos}
/-- sorted(x): a new list -/
def rSortV (K : PySem.W.Frag) : List V → Hp → VK → Prop := fun xs H Q => ∃ F ds, Trk F H ∧ DqAll K F H xs [.list ds] ∧ sortOk ds = true ∧ ∀ vs l, H l = none → DqAll K F H vs (sortD ds) → Q (.ref l) (upd H l (.lst vs))
theorem plain_mem : ∀ {ds : List D} {d : D}, PyData.plainAll ds = true → d ∈ ds → d.plain = true
  | [], _, _, h => by cases h
  | x :: xs, d, h, hm => by
    rw [PyData.plainAll, Bool.and_eq_true] at h
    rcases List.mem_cons.mp hm with rfl | hm
    · exact h.1
    · exact plain_mem h.2 hm
theorem call_sortV (hu : X.A.units + 150 < cLine) : CallR X (.builtin "sorted") (rSortV X.K) := by
  intro pins s σ H xs us Q I r h
  obtain ⟨F, ds, t, q, ok, fin⟩ := h
  obtain ⟨o1, o2, o3, o4⟩ := sortOk_ok ok
  obtain ⟨v, rfl, q'⟩ := q.one
  obtain ⟨a, vs, rfl, ha, qa⟩ := dq_sqL q'
  obtain ⟨its, rv, hl, hz⟩ := I.list ha
  rw [Vals.ref1 r]
  have ev := each_vals rv qa
  have er : PySem.W.EachIs (fun v b => ∃ as, Reads s.heap v (id b) as) its ds := (each_mem ev).mono fun u d ⟨⟨v, rv, q⟩, hm⟩ => q.rd I rv (plain_mem o1 hm)
  have em : ds.map id = ds := List.map_id ds
  refine PySem.W.sorted_data (enc := id) (bs := ds) (vs := its) hl.isList ev er (by rw [em]; exact o2) (by rw [em]; exact o3) (by rw [← qa.length]; exact hz) (fun b hb => by have := o4 b hb; show _ + b.depth < _; omega) fun out hlen ho => ?_
  rw [← sortD_eq] at ho
  obtain ⟨ws, w1, w2⟩ := vals_each ho
  obtain ⟨ep, he'⟩ := PyProof.Rows.sortedAll_at s.heap its out.toArray
  have hlw : ws.length ≤ sizeLine := by rw [w1.length, hlen, ← qa.length]; exact hz
  exact ⟨.ref _, upd H (s.heap.objs.size + 1) (.lst ws), I.laid (t' := s.toks) (fun _ _ => PyProof.Rows.sortedAll_old) (Nat.le_succ _) ⟨hlw, out, ep, w1, he'⟩, rfl, fin ws _ (I.hok.fresh (Nat.le_succ _)) w2⟩
theorem vo_sorted (hu : X.A.units + 150 < cLine) (hg : Gl X "sorted") (hm : X.mg "sorted" = none) (ha : VA X B Γ E [e] ms) (he : starEach [e] X.env = (false, eval e X.env) :: starEach [] X.env := by rfl) (hpl : (backTo pos (starEach [] X.env)).any (·.1) = false := by rfl) :
    VO X B Γ E (.Call (.Name "sorted" p) [e] [] pos) (mCall cSort ms) :=
  PE.imp (pe_callB (call_sortV hu) hg hm (by decide +kernel) ha.pa (by decide) (by decide) he hpl) fun σ H Q ⟨F, ρ, r, h⟩ => ⟨F, ρ, r, (Res.bind h).mono (fun x ρ1 h1 v1 H1 F1 r1 g1 q1 => by
    obtain ⟨d, e, h3⟩ := Res.of h1
    match x, e with
    | [.list ys], e =>
      obtain ⟨c, rfl⟩ := ite_some e
      refine ⟨F1, ys, r1.trk, q1, c, fun vs l nl qs => ?_⟩
      have ex := Ext.laid (o := .lst vs) r1.trk nl
      exact h3 (.ref l) _ _ (r1.to ex) (g1.trans ex.kp) ⟨l, rfl, .lst upd_same (qs.grow (ex.grow r1.trk)), r1.nf nl, g1.none0 r1 nl⟩) (fun _ _ _ k => k)⟩
end
end VL
end

section
set_option Elab.async false
set_option linter.all false
set_option maxRecDepth 100000
set_option maxHeartbeats 4000000
namespace VL
open PySem PySem.Spec PyProof.Rows L2
set_option autoImplicit false

/-! ### what is never reached -/
def mStk {α : Type} : M α := fun _ => .stuck
section
variable {X : Cx} {B : Eb} {G : Gd} {Ps O On Ol : List Nat} {Γ : Gm} {E : Wish} {ro : Bool} {e tg : Expr} {es : List Expr} {st : Stmt} {sts : List Stmt} {pos p : Pos}
theorem ve_stk : VE X B Γ E e mStk := ⟨fun pins s σ H Q I h => by obtain ⟨F, ρ, r, h⟩ := h; exact h.elim⟩
theorem vo_stk : VO X B Γ E e mStk := ⟨fun pins s σ H Q I h => by obtain ⟨F, ρ, r, h⟩ := h; exact h.elim⟩
theorem vt_stk : VT X B Γ E e mStk := ⟨fun pins s σ H Q I h => by obtain ⟨F, ρ, r, h⟩ := h; exact h.elim⟩
theorem vs_stk : VS X B G Ps E ro O On Ol st mStk := ⟨fun pins s σ H Q I h => by obtain ⟨F, ρ, r, h⟩ := h; exact h.elim⟩
theorem vss_stk : VSs X B G Ps E ro O On Ol sts mStk := ⟨fun pins s σ H Q I h => by obtain ⟨F, ρ, r, h⟩ := h; exact h.elim⟩
theorem vi_stk : VI X B Γ E tg e mStk := ⟨fun pins s σ H Q I h => by obtain ⟨F, ρ, r, h⟩ := h; exact h.elim⟩
/-- a name's value -/
theorem vv (i : Nat) {x : Str} (hi : i ∉ O := by decide) (hN : X.N[i]? = some x := by rfl) (hv : Vis X.env.scope x := by first | exact Or.inl rfl | exact Or.inr (Or.inl rfl) | exact Or.inr (Or.inr rfl)) (hd : (x == ("__debug__" : Str)) = false := by decide) (hcd : (x == ("__classdict__" : Str)) = false := by decide) :
    VE X B (G.w Ps O) E (.Name x pos) (mVar i) := ve_var i hi hN hv hd hcd
theorem gEq_b : ∀ x y d, gEq x y = some d → ∃ c, d = .bool c := fun x y d h => ⟨_, (ite_some h).2.symm⟩
theorem gNe_b : ∀ x y d, gNe x y = some d → ∃ c, d = .bool c := fun x y d h => ⟨_, (ite_some h).2.symm⟩
theorem gLt_b : ∀ x y d, gLt x y = some d → ∃ c, d = .bool c := fun x y d h => ⟨_, (ite_some h).2.symm⟩
theorem gLe_b : ∀ x y d, gLe x y = some d → ∃ c, d = .bool c := fun x y d h => ⟨_, (ite_some h).2.symm⟩
theorem gGt_b : ∀ x y d, gGt x y = some d → ∃ c, d = .bool c := fun x y d h => ⟨_, (ite_some h).2.symm⟩
theorem gGe_b : ∀ x y d, gGe x y = some d → ∃ c, d = .bool c := fun x y d h => ⟨_, (ite_some h).2.symm⟩
theorem gIn_b : ∀ x y d, gIn x y = some d → ∃ c, d = .bool c := fun x y d h => by obtain ⟨k, _, rfl⟩ := Option.map_eq_some_iff.mp (show (inD x y).map _ = some d from h); exact ⟨_, rfl⟩
theorem gNin_b : ∀ x y d, gNin x y = some d → ∃ c, d = .bool c := fun x y d h => by obtain ⟨k, _, rfl⟩ := Option.map_eq_some_iff.mp (show (inD x y).map _ = some d from h); exact ⟨_, rfl⟩
theorem gIs_b : ∀ x y d, gIs x y = some d → ∃ c, d = .bool c := fun x y d h => by cases y <;> first | (cases h; exact ⟨_, rfl⟩) | cases h
theorem gIsn_b : ∀ x y d, gIsn x y = some d → ∃ c, d = .bool c := fun x y d h => by cases y <;> first | (cases h; exact ⟨_, rfl⟩) | cases h
end

/-! ### a def that is called -/
structure Cal (P : Program) (w : World) (K : PySem.W.Frag) (mg : Str → Option Value) (base : Heap) (B : Eb) (k : Nat) (x : Str) (st : Stmt) (ps : List Str) (ms : List Bool) (ro : Bool) (fn : Fn) : Prop where
  ex : ∃ a fd, FnOk P w K mg base (L2.CX P w) k a fd ps (spV K B ms ro fn) ∧ mg x = some (.ref a) ∧ FunD K x x (defArgs st) (defBody st) (defScope st) [] [] a fd ∧ Binds K fd ps []
theorem Cal.mono {P : Program} {w : World} {K : PySem.W.Frag} {mg : Str → Option Value} {base : Heap} {B : Eb} {k k' : Nat} {x : Str} {st : Stmt} {ps : List Str} {ms : List Bool} {ro : Bool} {fn : Fn} (c : Cal P w K mg base B k x st ps ms ro fn) (h : k ≤ k') : Cal P w K mg base B k' x st ps ms ro fn := by
  obtain ⟨a, fd, h1, h2, h3, h4⟩ := c.ex
  exact ⟨a, fd, h1.mono h, h2, h3, h4⟩
section
variable {X : Cx} {B : Eb} {G : Gd} {Ps O : List Nat} {Ek : XK} {k : Nat} {x : Str} {st : Stmt} {ps : List Str} {p pos : Pos} {e : Expr} {es : List Expr} {sl : List Sl} {m : M (List D)} {ms : List Bool} {fn : Fn} {kws : List Keyword}
theorem ve_do (c : Cal X.prog X.w X.K X.mg X.base B k x st ps ms false fn) (hr : Room k X.A) (hx : Passes (L2.CX X.prog X.w) X Ek) (ha : VM X B (G.w Ps O) (fun _ => Ek) (e :: es) sl m) (hg : Gl X x := by rfl) (ho : ∀ j ∈ slots sl, j ∈ O := by decide) (hms : sl.map Sl.m = ms := by rfl) (nd : (slots sl).Nodup := by decide)
    (hdb : (x == ("__debug__" : Str)) = false := by decide) (he : starEach (e :: es) X.env = (false, eval e X.env) :: starEach es X.env := by rfl) (hpl : (backTo pos (starEach es X.env)).any (·.1) = false := by rfl) : VE X B (G.w Ps O) (fun _ => Ek) (.Call (.Name x p) (e :: es) [] pos) (mCallF fn sl m) := by
  obtain ⟨a, fd, h1, h2, h3, h4⟩ := c.ex
  exact ve_call h1 hr hg h2 h3.kp h4 hx ha ho hms nd hdb he hpl
theorem vo_do (c : Cal X.prog X.w X.K X.mg X.base B k x st ps ms true fn) (hr : Room k X.A) (hx : Passes (L2.CX X.prog X.w) X Ek) (ha : VM X B (G.w Ps O) (fun _ => Ek) (e :: es) sl m) (hg : Gl X x := by rfl) (ho : ∀ j ∈ slots sl, j ∈ O := by decide) (hms : sl.map Sl.m = ms := by rfl) (nd : (slots sl).Nodup := by decide)
    (hdb : (x == ("__debug__" : Str)) = false := by decide) (he : starEach (e :: es) X.env = (false, eval e X.env) :: starEach es X.env := by rfl) (hpl : (backTo pos (starEach es X.env)).any (·.1) = false := by rfl) : VO X B (G.w Ps O) (fun _ => Ek) (.Call (.Name x p) (e :: es) [] pos) (mCallF fn sl m) := by
  obtain ⟨a, fd, h1, h2, h3, h4⟩ := c.ex
  exact vo_call h1 hr hg h2 h3.kp h4 hx ha ho hms nd hdb he hpl
theorem ve_do0 (c : Cal X.prog X.w X.K X.mg X.base B k x st ps [] false fn) (hr : Room k X.A) (hx : Passes (L2.CX X.prog X.w) X Ek) (hg : Gl X x := by rfl) (hdb : (x == ("__debug__" : Str)) = false := by decide) : VE X B (G.w Ps O) (fun _ => Ek) (.Call (.Name x p) [] [] pos) (mCallF fn [] mNil) := by
  obtain ⟨a, fd, h1, h2, h3, h4⟩ := c.ex
  exact ve_call0 h1 hr hg h2 h3.kp h4 hx hdb
theorem vo_do0 (c : Cal X.prog X.w X.K X.mg X.base B k x st ps [] true fn) (hr : Room k X.A) (hx : Passes (L2.CX X.prog X.w) X Ek) (hg : Gl X x := by rfl) (hdb : (x == ("__debug__" : Str)) = false := by decide) : VO X B (G.w Ps O) (fun _ => Ek) (.Call (.Name x p) [] [] pos) (mCallF fn [] mNil) := by
  obtain ⟨a, fd, h1, h2, h3, h4⟩ := c.ex
  exact vo_call0 h1 hr hg h2 h3.kp h4 hx hdb

theorem vmt {E : Wish} {ma : M D} (ha : VO X B (G.w Ps O) E e ma) (hr : VM X B (G.w Ps O) E es sl m) (ho : ∀ j ∈ slots sl, j ∈ O := by decide) (hs : starEach (e :: es) X.env = (false, eval e X.env) :: starEach es X.env := by rfl) : VM X B (G.w Ps O) E (e :: es) (.tmp :: sl) (mCons ma m) := vm_tmp ha hr ho hs

/-! ### keywords -/
structure VK1 (X : Cx) (B : Eb) (Γ : Gm) (E : Wish) (kws : List Keyword) (m : M (List D)) : Prop where
  pk : PK X kws (tVs X.K B Γ E m)
  len : ∀ ρ ds ρ', m ρ = .ok (ds, ρ') → ds.length = kws.length
end

/-! ### a def keeps its promise, by its text -/
theorem cal_ok {P : Program} {w : World} {K : PySem.W.Frag} {mg : Str → Option Value} {base : Heap} {x : Str} {st : Stmt} {f : Addr} {fd : FuncData} {N ps : List Str} {k : Nat} {B : Eb} {ms : List Bool} {ro : Bool} {m : M Fl} {On : List Nat} {n : Nat} {Ps : List Nat} {fn : Fn}
    (hf : fn = runF ro n Ps m) (hn : N.length = n) (hP : mPs 0 ms = Ps) (Fd : FunD K x x (defArgs st) (defBody st) (defScope st) [] [] f fd) (hm : mg x = some (.ref f)) (S : FnScope N ps (defScope st)) (hps : ps.length = ms.length)
    (hb : ∀ (kV doc pm : Value) (an : Option Addr) (cdv ct : Value) (us : List Value), us.length = ps.length → bindArgs (PySem.W.fnOf x x (defArgs st) (defBody st) (defScope st) .none kV doc pm an cdv ct) ⟨us, []⟩ = pure (ps.zip us))
    (hbody : ∀ (cdv : Value) (A : Around) (outer : List PySem.Env) (s : Shared) (H : Hp) (E : XK) (G : Gd), Room k (A.deeper (envOfC x (defScope st) s.heap.objs.size f cdv)) →
      VSs (cxOf (L2.CX P w) P w K mg base N x (defScope st) f cdv A outer s H E) B G Ps (fun _ => E) ro Ps On [] (defBody st) m) : Cal P w K mg base B (k + 1) x st ps ms ro fn := by
  subst hf hn hP
  exact ⟨f, fd, fn_ok Fd S hps hbody, hm, Fd, Fd.bindsN hb⟩
theorem cal_stk {P : Program} {w : World} {K : PySem.W.Frag} {mg : Str → Option Value} {base : Heap} {x : Str} {st : Stmt} {f : Addr} {fd : FuncData} {ps : List Str} {k : Nat} {B : Eb} {ms : List Bool} {ro : Bool}
    (Fd : FunD K x x (defArgs st) (defBody st) (defScope st) [] [] f fd) (hm : mg x = some (.ref f)) (hps : ps.length = ms.length)
    (hb : ∀ (kV doc pm : Value) (an : Option Addr) (cdv ct : Value) (us : List Value), us.length = ps.length → bindArgs (PySem.W.fnOf x x (defArgs st) (defBody st) (defScope st) .none kV doc pm an cdv ct) ⟨us, []⟩ = pure (ps.zip us)) : Cal P w K mg base B k x st ps ms ro (fun _ => .stuck) :=
  ⟨f, fd, ⟨fun vs H Q E h => by
    obtain ⟨F, ds, _, ha, _⟩ := h
    rw [ha.len.1, hps], fun A outer s H args us vs Q E hr he hb hv hs => by
    obtain ⟨F, ds, _, _, _, hf⟩ := hs
    exact hf.elim⟩, hm, Fd, Fd.bindsN hb⟩
/-- what a callee lets out, the def lets out -/
theorem lets {P : Program} {w : World} {K : PySem.W.Frag} {mg : Str → Option Value} {base : Heap} {N : List Str} {qual : Str} {scope : Scope} {f : Addr} {cd : Value} {A : Around} {outer : List PySem.Env} {s : Shared} {H : Hp} {E : XK} :
    Passes (L2.CX P w) (cxOf (L2.CX P w) P w K mg base N qual scope f cd A outer s H E) E := passes_call (takes_of rfl rfl rfl rfl) fun _ _ _ _ h => h
theorem letsOwn {P : Program} {w : World} {K : PySem.W.Frag} {mg : Str → Option Value} {base : Heap} {N : List Str} {qual : Str} {scope : Scope} {f : Addr} {cd : Value} {A : Around} {outer : List PySem.Env} {s : Shared} {H : Hp} {E : XK} :
    PassesOwn (model P w) (cxOf (L2.CX P w) P w K mg base N qual scope f cd A outer s H E).A (cxOf (L2.CX P w) P w K mg base N qual scope f cd A outer s H E).env (cxOf (L2.CX P w) P w K mg base N qual scope f cd A outer s H E).xe := passes_of (X := cxOf (L2.CX P w) P w K mg base N qual scope f cd A outer s H E) rfl
end VL
end

section
set_option Elab.async false
set_option linter.all false
set_option maxRecDepth 100000
set_option maxHeartbeats 4000000
namespace VL
open PySem PySem.Spec PyProof.Rows L2
set_option autoImplicit false

section
variable {X : Cx} {B : Eb} {G : Gd} {Ps O : List Nat} {Γ : Gm} {E : Wish} {a b e : Expr} {rest : List Expr} {ma mb : M D} {pos p : Pos}
/-! ### x or y, both new lists -/
theorem vo_one {op} (h : VO X B Γ E a ma) : VO X B Γ E (.BoolOp op [a] pos) ma := pe_one h
theorem vo_or (ha : VO X B Γ E a ma) (hb : VO X B Γ E (.BoolOp .Or (b :: rest) pos) mb) : VO X B Γ E (.BoolOp .Or (a :: b :: rest) pos) (mOrV ma mb) :=
  PE.imp (pe_orT ha hb) fun σ H Q ⟨F, ρ, r, h⟩ => ⟨F, ρ, r, (Res.bind h).mono (fun x ρ1 h1 v H1 F1 r1 g1 q1 => by
    obtain ⟨k, e, h2⟩ := Res.of (Res.bind h1)
    obtain ⟨c, rfl, oa, nf, hn⟩ := q1
    have tru : TruV X.K (.ref c) H1 k := by
      cases oa with
      | lst q qa => exact .inl ⟨_, .inl (.inl q), by rw [dqall_empty qa]; exact (Option.some.inj e).symm⟩
      | dicK q qa => cases e
      | dicT q qa => cases e
    refine ⟨k, tru, ?_⟩
    cases k with
    | false => exact ⟨F1, ρ1, r1, (show Res (mb ρ1) _ _ from h2).mono (fun y ρ2 h2 v2 H2 F2 r2 g2 q2 => h2 v2 H2 F2 r2 (g1.trans g2) (by
        obtain ⟨c', e', oa', nf', hn'⟩ := q2
        exact ⟨c', e', oa', nf', g1.none0 r1 hn'⟩)) (fun _ _ _ k => k.grow g1)⟩
    | true => exact h2 (.ref c) H1 F1 r1 g1 ⟨c, rfl, oa, nf, hn⟩) (fun _ _ _ k => k)⟩

/-! ### xs[::-1], a list -/
def gRev : D → Option D
  | .list xs => some (.list xs.reverse)
  | _ => none
theorem ve_rev {k : Nat} {p1 p2 p3 : Pos} (he : VE X B Γ E e ma) : VE X B Γ E (.Subscript e (.Slice none none (some (.UnaryOp .USub (.Constant (.int 1) k p1) p2)) p3) pos) (m1 gRev ma) :=
  PE.imp (pe_revL he) fun σ H Q ⟨F, ρ, r, h⟩ => ⟨F, ρ, r, (Res.bind h).mono (fun x ρ1 h1 v1 H1 F1 r1 g1 q1 => by
    obtain ⟨d, e, h3⟩ := Res.of h1
    cases x with
    | list xs =>
      cases e
      obtain ⟨c, vs, rfl, ha, qa⟩ := dq_sqL q1
      refine ⟨c, vs, rfl, ha, fun q nq => ?_⟩
      have ex := Ext.alloc (o := .lst vs.reverse) r1.trk nq
      exact h3 (.ref q) _ _ (r1.to ex) (g1.trans ex.kp) (.lst (.inr rfl) upd_same (qa.reverse.grow (ex.grow r1.trk)))
    | _ => cases e) (fun _ _ _ k => k)⟩

/-! ### a dict of the text with text keys and text values -/
structure KD (K : PySem.W.Frag) (w : World) (mg : Str → Option Value) (x : Str) (kvs : List (Str × Str)) : Prop where
  ex : ∃ d es n, mg x = some (.ref d) ∧ KDict K w d es n ∧ ∀ z, match kvs.lookup z with
    | some v => ∃ t, PySem.W.nsIn K d z = some (some (.str v t))
    | none => PySem.W.nsIn K d z = some none
def gKin (kvs : List (Str × Str)) : D → Option D
  | .str z => some (.bool (kvs.lookup z).isSome)
  | _ => none
def gKix (kvs : List (Str × Str)) : D → Option D
  | .str z => (kvs.lookup z).map .str
  | _ => none
theorem kin {x : Str} {px : Pos} {kvs : List (Str × Str)} (D : KD X.K X.w X.mg x kvs) (hg : Gl X x) (ha : VE X B Γ E a ma) (hdb : (x == ("__debug__" : Str)) = false := by decide) (hm : behindInMarks .In (.Name x px) = false := by rfl) :
    ∃ d es n, ∃ (D' : KDict X.K X.w d es n) (hd : X.mg x = some (.ref d)), (∀ z, match kvs.lookup z with
    | some v => ∃ t, PySem.W.nsIn X.K d z = some (some (.str v t))
    | none => PySem.W.nsIn X.K d z = some none) := by
  obtain ⟨d, es, n, h1, h2, h3⟩ := D.ex
  exact ⟨d, es, n, h2, h1, h3⟩
theorem kin_r {d : Addr} {kvs : List (Str × Str)} {H : Hp} {v : V} {x k : D} {F : Fz} (hz : ∀ z, match kvs.lookup z with
    | some v => ∃ t, PySem.W.nsIn X.K d z = some (some (.str v t))
    | none => PySem.W.nsIn X.K d z = some none) (q : Dq X.K F H v x) (e : gKin kvs x = some k) : ∃ (z : Str) (r : Option Value), v = .str z ∧ PySem.W.nsIn X.K d z = some r ∧ k = .bool r.isSome := by
  cases x with
  | str z =>
    cases dq_str q
    have h := hz z
    cases e2 : kvs.lookup z with
    | none =>
      rw [e2] at h
      refine ⟨z, none, rfl, h, ?_⟩
      have : some (PyData.bool (kvs.lookup z).isSome) = some k := e
      rw [e2] at this
      exact (Option.some.inj this).symm
    | some v =>
      rw [e2] at h
      obtain ⟨t, h⟩ := h
      refine ⟨z, _, rfl, h, ?_⟩
      have : some (PyData.bool (kvs.lookup z).isSome) = some k := e
      rw [e2] at this
      exact (Option.some.inj this).symm
  | _ => cases e
theorem ve_kin {x : Str} {px : Pos} {kvs : List (Str × Str)} (D : KD X.K X.w X.mg x kvs) (hg : Gl X x) (ha : VE X B Γ E a ma) (hdb : (x == ("__debug__" : Str)) = false := by decide) (hm : behindInMarks .In (.Name x px) = false := by rfl) : VE X B Γ E (.Compare a [.In] [.Name x px] pos) (m1 (gKin kvs) ma) := by
  obtain ⟨d, es, n, hd, hD, hz⟩ := D.ex
  refine PE.imp (pe_cmpR (op_in_kd hD) ha (pe_glob (v := .ref d) hg hd rfl hdb) hm) fun σ H Q ⟨F, ρ, r, h⟩ => ⟨F, ρ, r, (Res.bind h).mono (fun x ρ1 h1 v1 H1 F1 r1 g1 q1 => ?_) (fun _ _ _ k => k)⟩
  obtain ⟨k, e, h3⟩ := Res.of h1
  obtain ⟨z, r, rfl, e2, rfl⟩ := kin_r hz q1 e
  exact ⟨z, r, rfl, rfl, e2, h3 _ H1 F1 r1 g1 (.bl _)⟩
theorem vt_kin {x : Str} {px : Pos} {kvs : List (Str × Str)} (D : KD X.K X.w X.mg x kvs) (hg : Gl X x) (ha : VE X B Γ E a ma) (hdb : (x == ("__debug__" : Str)) = false := by decide) (hm : behindInMarks .In (.Name x px) = false := by rfl) : VT X B Γ E (.Compare a [.In] [.Name x px] pos) (mTruth (m1 (gKin kvs) ma)) := by
  obtain ⟨d, es, n, hd, hD, hz⟩ := D.ex
  refine PT.imp (pt_cmpR (op_in_kd hD) ha (pe_glob (v := .ref d) hg hd rfl hdb) hm) fun σ H Q ⟨F, ρ, r, h⟩ => ⟨F, ρ, r, (Res.bind (Res.bind h)).mono (fun x ρ1 h1 v1 H1 F1 r1 g1 q1 => ?_) (fun _ _ _ k => k)⟩
  obtain ⟨k, e, h3⟩ := Res.of h1
  obtain ⟨z, r, rfl, e2, rfl⟩ := kin_r hz q1 e
  obtain ⟨k2, e4, h4⟩ := Res.of h3
  cases e4
  exact ⟨z, r, rfl, rfl, e2, _, rfl, h4 _ H1 F1 r1 g1 rfl⟩

/-! ### f(k = e, ..) -/
structure VKw (X : Cx) (B : Eb) (Γ : Gm) (E : Wish) (kws : List Keyword) (m : M (List D)) : Prop where
  pk : PK X kws (tVs X.K B Γ E m)
  len : ∀ ρ ds ρ', m ρ = .ok (ds, ρ') → ds.length = kws.length
theorem PK.imp {kws : List Keyword} {t t' : TA} (h : PK X kws t) (i : ∀ σ H Q, t' σ H Q → t σ H Q) : PK X kws t' := ⟨fun p pins s σ H Q I q => h.run p pins s σ H Q I (i σ H Q q)⟩
variable {kws : List Keyword} {ms : M (List D)}
theorem vk_nil : VKw X B Γ E [] mNil := ⟨PK.imp pk_nil fun σ H Q ⟨F, ρ, r, h⟩ => h [] H F r .refl .nil, fun ρ ds ρ' h => by cases h; rfl⟩
theorem vk_cons {nm : Option Str} {kpos : Pos} (ha : VE X B Γ E e ma) (hr : VKw X B Γ E kws ms) : VKw X B Γ E (⟨nm, e, kpos⟩ :: kws) (mCons ma ms) := by
  refine ⟨PK.imp (pk_cons ha hr.pk) fun σ H Q ⟨F, ρ, r, h⟩ => ?_, fun ρ ds ρ' h => ?_⟩
  · refine ⟨F, ρ, r, (Res.bind h).mono (fun x ρ1 h1 v1 H1 F1 r1 g1 q1 => ⟨F1, ρ1, r1, (Res.bind h1).mono (fun y ρ2 h2 v2 H2 F2 r2 g2 q2 => h2 _ H2 F2 r2 (g1.trans g2) (.cons (q1.grow (g2.g r1)) q2)) (fun _ _ _ k => k.grow g1)⟩) (fun _ _ _ k => k)⟩
  · unfold mCons M.bind at h
    cases e1 : ma ρ with
    | stuck => rw [e1] at h; cases h
    | exc c fs ρ1 => rw [e1] at h; cases h
    | ok p =>
      rw [e1] at h
      cases e2 : ms p.2 with
      | stuck => simp only [R.bind, e2] at h; cases h
      | exc c fs ρ1 => simp only [R.bind, e2] at h; cases h
      | ok q =>
        simp only [R.bind, e2, M.pure] at h
        cases h
        show q.1.length + 1 = kws.length + 1
        rw [hr.len p.2 q.1 q.2 e2]
/-- the arguments by the places ix of the written ones -/
def pick {α : Type} (ix : List Nat) (l : List α) : List α := ix.filterMap fun i => l[i]?
def mCallK (f : Fn) (ix : List Nat) (m : M (List D)) : M D := fun ρ => (m ρ).bind fun p => match f (pick ix p.1) with
  | .ok q => if q.2 = [] then .ok (q.1, p.2) else .stuck
  | .exc c fs _ => .exc c fs p.2
  | .stuck => .stuck
theorem pick_len {α : Type} {n : Nat} {l : List α} (hl : l.length = n) : ∀ {ix : List Nat}, (∀ i ∈ ix, i < n) → (pick ix l).length = ix.length
  | [], _ => rfl
  | i :: ix, h => by
    have hi : i < l.length := by rw [hl]; exact h i (List.mem_cons_self ..)
    unfold pick
    rw [List.filterMap_cons_some (List.getElem?_eq_getElem hi), List.length_cons]
    exact congrArg (· + 1) (pick_len hl fun j hj => h j (List.mem_cons_of_mem _ hj))
theorem pick_vals {vs : List V} {us : List Value} (r : Vals vs us) : ∀ (ix : List Nat), Vals (pick ix vs) (pick ix us)
  | [] => .nil
  | i :: ix => by
    unfold pick
    cases e : vs[i]? with
    | none =>
      rw [List.filterMap_cons_none e, List.filterMap_cons_none (r.none_of e)]
      exact pick_vals r ix
    | some v =>
      obtain ⟨u, hu, rv⟩ := r.get e
      rw [List.filterMap_cons_some e, List.filterMap_cons_some hu]
      exact .cons rv (pick_vals r ix)
theorem pick_dq {K : PySem.W.Frag} {F : Fz} {H : Hp} {vs : List V} {ds : List D} (r : DqAll K F H vs ds) : ∀ (ix : List Nat), DqAll K F H (pick ix vs) (pick ix ds)
  | [] => .nil
  | i :: ix => by
    unfold pick
    cases e : vs[i]? with
    | none =>
      have e2 : ds[i]? = none := by
        have := List.getElem?_eq_none_iff.mp e
        exact List.getElem?_eq_none_iff.mpr (by rw [← r.length]; exact this)
      rw [List.filterMap_cons_none e, List.filterMap_cons_none e2]
      exact pick_dq r ix
    | some v =>
      obtain ⟨u, hu, rv⟩ := r.get' e
      rw [List.filterMap_cons_some e, List.filterMap_cons_some hu]
      exact .cons rv (pick_dq r ix)
theorem args_dat {K : PySem.W.Frag} {F : Fz} {H : Hp} : ∀ {vs : List V} {ds : List D} {n : Nat}, DqAll K F H vs ds → vs.length = n → ArgsAt K F H (List.replicate n false) vs ds ∧ mAs (List.replicate n false) vs = []
  | _, _, 0, .nil, _ => ⟨.nil, rfl⟩
  | _, _, n + 1, .nil, h => by cases h
  | _, _, 0, .cons _ _, h => by cases h
  | v :: vs, _, n + 1, .cons q r, h => by
    obtain ⟨h1, h2⟩ := args_dat r (Nat.succ.inj h)
    refine ⟨.dat q h1, ?_⟩
    cases v <;> exact h2
variable {Ek : XK} {k : Nat} {x : Str} {st : Stmt} {ps ks : List Str} {fn : Fn} {es : List Expr}
theorem callk {n : Nat} {ix : List Nat} {F : Fz} {H : Hp} {F1 : Fz} {H1 : Hp} {ρ ρ1 : Env} {σ : St} {vs : List V} {ds : List D} {Q : VK} (r : Rel X.K Γ F ρ σ H) (r1 : Rel X.K Γ F1 ρ1 σ H1) (k1 : Kp Γ.O σ F H F1 H1) (q : DqAll X.K F1 H1 vs ds) (hl : vs.length = n) (hix : ∀ i ∈ ix, i < n)
    (h : Res (match fn (pick ix ds) with
      | .ok q => if q.2 = [] then .ok (q.1, ρ1) else .stuck
      | .exc c fs _ => .exc c fs ρ1
      | .stuck => (.stuck : R (D × Env))) (fun d ρ' => ∀ v H' F', Rel X.K Γ F' ρ' σ H' → Kp Γ.O σ F H F' H' → Dq X.K F' H' v d → Q v H') (Kex X.K B Γ (fun _ => Ek) σ F H)) : spV X.K B (List.replicate ix.length false) false fn (pick ix vs) H1 Q Ek := by
  obtain ⟨a1, a2⟩ := args_dat (pick_dq q ix) (pick_len hl hix)
  refine ⟨F1, pick ix ds, r1.trk, a1, by rw [a2]; exact .nil, ?_⟩
  cases e3 : fn (pick ix ds) with
  | stuck => rw [e3] at h; exact h.elim
  | exc c fs ρ' =>
    rw [e3] at h
    exact ⟨a2, fun H' F' od ex xa => h F' H' od (r1.to ex) (k1.trans ex.kp) xa⟩
  | ok p =>
    rw [e3] at h
    intro v H' F' fr out res
    rw [a2] at fr out
    have ex := fr.ext
    cases eo : p.2 with
    | nil =>
      simp only [if_pos eo] at h
      exact h v H' F' (r1.to ex) (k1.trans ex.kp) res
    | cons d ds' =>
      rw [eo] at out
      cases out
theorem ve_doK0 {n : Nat} {ix : List Nat} (c : Cal X.prog X.w X.K X.mg X.base B k x st ps (List.replicate ix.length false) false fn) (hr : Room k X.A) (hx : Passes (L2.CX X.prog X.w) X Ek) (hkw : VKw X B (G.w Ps O) (fun _ => Ek) kws ms) (hn : kws.length = n) (hkn : ks.length = n)
    (hb : ∀ (kV doc pm : Value) (an : Option Addr) (cdv ct : Value) (ws : List Value), ws.length = n → bindArgs (PySem.W.fnOf x x (defArgs st) (defBody st) (defScope st) .none kV doc pm an cdv ct) ⟨[], ks.zip ws⟩ = pure (ps.zip (pick ix ws)))
    (hix : ∀ i ∈ ix, i < n := by decide) (hg : Gl X x := by rfl) (hall : (backToKw pos (keywordEach kws X.env)).all (·.1.isSome) = true := by rfl) (hks : (backToKw pos (keywordEach kws X.env)).filterMap (·.1) = ks := by rfl) (hdb : (x == ("__debug__" : Str)) = false := by decide)
    (hpl : ((backTo pos (starEach [] X.env)).any (·.1) || (backToKw pos (keywordEach kws X.env)).any (·.1.isNone)) = false := by rfl) : VE X B (G.w Ps O) (fun _ => Ek) (.Call (.Name x p) [] kws pos) (mCallK fn ix ms) := by
  obtain ⟨a, fd, h1, h2, h3, h4⟩ := c.ex
  have kb : KBn X.K fd ps 0 ks (fun us ws => pick ix ws) (fun vs zs => pick ix zs) := by
    refine ⟨fun s us ws kin lu lw => ?_, fun rv rz => pick_vals rz ix⟩
    obtain ⟨oc, od, dV, kV, doc, pm, an, cdv, ct, osl, rfl, lk, hcd, hdf, _⟩ := h3.ex
    have e0 : us = [] := List.length_eq_zero_iff.mp lu
    subst e0
    rcases hdf with ⟨_, rfl⟩ | ⟨z, _⟩
    · exact .of_eq (hb kV doc pm an cdv ct ws (by rw [lw, hkn]))
    · exact absurd rfl z
  refine ⟨fun pins s σ H Q I h => ?_⟩
  obtain ⟨F, ρ, r, h⟩ := h
  refine wpAny_Call_Name_kw (ld_glob I hg h2 ?_ hdb)
  refine PySem.W.callWith_KW0 (h₀ := X.base) I.ok.mod.kin h3.kp hall ?_ hpl
  have hh : tVs X.K B (G.w Ps O) (fun _ => Ek) ms σ H (fun zs H2 => zs.length = n ∧ spV X.K B (List.replicate ix.length false) false fn (pick ix zs) H2 Q Ek) := by
    refine ⟨F, ρ, r, ?_⟩
    unfold mCallK at h
    cases e1 : ms ρ with
    | stuck => rw [e1] at h; exact h.elim
    | exc c fs ρ' => rw [e1] at h; exact h
    | ok q =>
      obtain ⟨ds, ρ1⟩ := q
      rw [e1] at h
      intro vs H1 F1 r1 k1 q1
      have hl : vs.length = n := by rw [q1.length, hkw.len ρ ds ρ1 e1, hn]
      exact ⟨hl, callk r r1 k1 q1 hl hix h⟩
  refine thn (hkw.pk.run pos pins s σ H _ I hh) fun ws s2 ⟨zs, H2, I2, rz, l2, q2⟩ => ⟨I2.kIn, ?_⟩
  rw [hks]
  exact run_fnN (us := []) (vs := []) h1 hr kb hx I2 .nil rz rfl (by rw [l2, hkn]) q2
def mApp2 (ma mk : M (List D)) : M (List D) := ma.bind fun xs => mk.bind fun ys => M.pure (xs ++ ys)
theorem ve_doK {n : Nat} {ix : List Nat} {mp : M (List D)} (c : Cal X.prog X.w X.K X.mg X.base B k x st ps (List.replicate ix.length false) false fn) (hr : Room k X.A) (hx : Passes (L2.CX X.prog X.w) X Ek) (ha : VA X B (G.w Ps O) (fun _ => Ek) (e :: es) mp) (hkw : VKw X B (G.w Ps O) (fun _ => Ek) kws ms) {np : Nat} (hnp : (e :: es).length = np) (hn : kws.length = n) (hkn : ks.length = n)
    (hb : ∀ (kV doc pm : Value) (an : Option Addr) (cdv ct : Value) (us ws : List Value), us.length = np → ws.length = n → bindArgs (PySem.W.fnOf x x (defArgs st) (defBody st) (defScope st) .none kV doc pm an cdv ct) ⟨us, ks.zip ws⟩ = pure (ps.zip (pick ix (us ++ ws))))
    (hix : ∀ i ∈ ix, i < np + n := by decide) (hg : Gl X x := by rfl) (hall : (backToKw pos (keywordEach kws X.env)).all (·.1.isSome) = true := by rfl) (hks : (backToKw pos (keywordEach kws X.env)).filterMap (·.1) = ks := by rfl) (hdb : (x == ("__debug__" : Str)) = false := by decide)
    (he : starEach (e :: es) X.env = (false, eval e X.env) :: starEach es X.env := by rfl) (hpl : ((backTo pos (starEach (e :: es) X.env)).any (·.1) || (backToKw pos (keywordEach kws X.env)).any (·.1.isNone)) = false := by rfl) :
    VE X B (G.w Ps O) (fun _ => Ek) (.Call (.Name x p) (e :: es) kws pos) (mCallK fn ix (mApp2 mp ms)) := by
  obtain ⟨a, fd, h1, h2, h3, h4⟩ := c.ex
  have kb : KBn X.K fd ps np ks (fun us ws => pick ix (us ++ ws)) (fun vs zs => pick ix (vs ++ zs)) := by
    refine ⟨fun s us ws kin lu lw => ?_, fun rv rz => pick_vals (rv.append rz) ix⟩
    obtain ⟨oc, od, dV, kV, doc, pm, an, cdv, ct, osl, rfl, lk, hcd, hdf, _⟩ := h3.ex
    rcases hdf with ⟨_, rfl⟩ | ⟨z, _⟩
    · exact .of_eq (hb kV doc pm an cdv ct us ws lu (by rw [lw, hkn]))
    · exact absurd rfl z
  refine PE.imp (pe_callN h1 hr hg h2 h3.kp kb hx ha.pa hkw.pk hall hks hdb he hpl) fun σ H Q ⟨F, ρ, r, h⟩ => ⟨F, ρ, r, ?_⟩
  unfold mCallK mApp2 M.bind at h
  cases e1 : mp ρ with
  | stuck => rw [e1] at h; exact h.elim
  | exc c fs ρ' => rw [e1] at h; exact h
  | ok q =>
    obtain ⟨ds, ρ1⟩ := q
    rw [e1] at h
    intro vs H1 F1 r1 k1 q1
    refine ⟨F1, ρ1, r1, ?_⟩
    cases e2 : ms ρ1 with
    | stuck => simp only [R.bind, e2] at h; exact h.elim
    | exc c fs ρ' => simp only [R.bind, e2] at h; exact Kex.grow (show Kex X.K B (G.w Ps O) (fun _ => Ek) σ F H c fs ρ' from h) k1
    | ok q2 =>
      obtain ⟨ds2, ρ2⟩ := q2
      simp only [R.bind, e2, M.pure] at h
      intro ws H2 F2 r2 k2 q2
      have l1 : vs.length = np := by rw [q1.length, ha.len ρ ds ρ1 e1, hnp]
      have l2 : ws.length = n := by rw [q2.length, hkw.len ρ1 ds2 ρ2 e2, hn]
      exact ⟨l1, by rw [l2, hkn], callk r r2 (k1.trans k2) ((q1.grow (k2.g r1)).append q2) (by rw [List.length_append, l1, l2]) hix h⟩
end
end VL
end

section
set_option Elab.async false
set_option linter.all false
set_option maxRecDepth 100000
set_option maxHeartbeats 4000000
namespace VL
open PySem PySem.Spec PyProof.Rows L2
set_option autoImplicit false

theorem walk_V {l : PySem.W.OpenLaw} {n k : Nat} {q : Program} {loose : List Str} {XP : (Str → Option Value) → Heap → Prop} {YP : World → Heap → Prop} {d : DefRec} {x : Str}
    (hn : l.most = some n) (hn2 : n ≤ sizeLine) (hdf : d.params.defaults = []) (hr : Room k callerA)
    (F : ∀ (w : World) (mg : Str → Option Value) (fa : Addr) (h : Heap), YP w h → h.Ns mainGlobals mg → mg d.name = some (.ref fa) →
      ∃ (K : PySem.W.Frag) (fd : FuncData) (sp : Sp), K.In h ∧ (∀ (s : Shared) (u : Value), BindsTo s fd ⟨[u], []⟩ [(x, u)]) ∧
        (∀ (H : Hp) (a : Addr) (ns : List Int), ns.length ≤ n → Only H → SqL K H a (ns.map V.int) → sp [.ref a] H (fun v _ => v = .bl true) fun _ _ _ => False) ∧
        ∀ base : Heap, K.In base → base.Ns mainGlobals mg → FnOk l.prog w K mg base (L2.CX l.prog w) k fa fd [x] sp) :
    PySem.W.WalkO q loose XP YP l.row.toRowW d [] (fun f vs => PySem.call f vs) := by
  refine Att.attach_call hn hdf fun w s₀ s₁ mg mb fa o pm cd doc a vs ns G Y ho hd hcd hmg hobj hints hlen hg => ?_
  obtain ⟨K, fd, sp, KX, hb, hsp, hF⟩ := F w mg fa _ Y G.T.g hmg
  refine law_call KX G.T.g G.T.b G.T.builtins G.T.nolimit hg hobj hints (Nat.le_trans hlen hn2) hr hF hb (fun H hO hS => hsp H a ns hlen hO hS) fun H e s' hc => ?_
  obtain ⟨_, _, _, _, _, _, _, _, _, _, _, _, z⟩ := hc
  exact z
/-- the law's promise at the script -/
theorem law_sp {K : PySem.W.Frag} {B : Eb} {f : Fn} {H : Hp} {a : Addr} {ns : List Int} (h : f [scr (ns.map .int)] = .ok (.bool true, [])) (hS : SqL K H a (ns.map V.int)) : spV K B [false] false f [.ref a] H (fun v _ => v = .bl true) fun _ _ _ => False := by
  have q : DqAll K (fun b => ∃ o, H b = some o) H (ns.map V.int) (ns.map .int) := by
    induction ns with
    | nil => exact .nil
    | cons n ns ih =>
      clear h hS
      rw [List.map_cons, List.map_cons]
      refine .cons (.int n) ?_
      have : ∀ ms : List Int, DqAll K (fun b => ∃ o, H b = some o) H (ms.map V.int) (ms.map .int) := by
        intro ms
        induction ms with
        | nil => exact .nil
        | cons m ms ih => exact .cons (.int m) ih
      exact this ns
  refine ⟨fun b => ∃ o, H b = some o, [scr (ns.map .int)], fun b hb => hb, .dat (.scr ?_ q) .nil, .nil, ?_⟩
  · rcases hS with hS | hS
    · refine .inl ⟨?_, hS⟩
      rcases hS with hS | ⟨o, hS⟩
      · exact ⟨_, hS⟩
      · exact ⟨_, hS⟩
    · exact .inr hS
  · rw [h]
    intro v H' F' _ _ r
    exact dq_bl r
/-- a text's dict, from what the head tells -/
theorem KD.of {K : PySem.W.Frag} {w : World} {mg : Str → Option Value} {x : Str} {kvs : List (Str × Str)} {es : Array DictEntry} {n : Nat} (hm : mg x = some (.ref (He.ga K x))) (hD : KDict K w (He.ga K x) es n)
    (hk : ∀ e ∈ es.toList, ∃ z t, e.key = .str z t ∧ (kvs.lookup z).isSome = true) (hv : He.valsB K (He.ga K x) (kvs.map fun p => (p.1, He.Dv.str p.2)) = true) : KD K w mg x kvs := by
  refine ⟨He.ga K x, es, n, hm, hD, fun z => ?_⟩
  cases e : kvs.lookup z with
  | some v =>
    have hmem : (z, v) ∈ kvs := PySem.mem_of_lookup e
    obtain ⟨u, hu, r⟩ := He.valsB_ok hv (q := (z, He.Dv.str v)) (List.mem_map.mpr ⟨(z, v), hmem, rfl⟩)
    obtain ⟨t, rfl⟩ := (show ∃ t, u = Value.str v t from r)
    exact ⟨t, hu⟩
  | none =>
    unfold PySem.W.nsIn
    rw [hD.at_]
    have hf : es.toList.find? (·.key.isStr z) = none := by
      rw [List.find?_eq_none]
      intro en hen
      obtain ⟨y, t, hy, hs⟩ := hk en hen
      rw [hy]
      intro hc
      have : y = z := by
        have hc' : (Value.str y t).isStr z = true := hc
        simpa [Value.isStr] using hc'
      subst this
      rw [e] at hs
      cases hs
    have hr : es.toList.any (·.refKey) = false := by
      rw [List.any_eq_false]
      intro en hen
      obtain ⟨y, t, hy, _⟩ := hk en hen
      simp [DictEntry.refKey, hy]
    simp only [hf, hr]
    rfl
theorem dicW_keys {K : PySem.W.Frag} {a : Addr} {l : List (Option (Str × Int))} {es : Array DictEntry} {n : Nat} (h : He.dicW K a = some l) (q : K.lookup a = some ⟨.type "dict", none, .dict es n, #[]⟩) : es.toList.map He.keyOf = l := by
  unfold He.dicW at h
  rw [q] at h
  simp only at h
  split at h
  · exact Option.some.inj h
  · cases h
theorem tabK {fa : List He.Fa} {fn : List He.DefD} {ts : List He.Tab} {w : World} {K : PySem.W.Frag} (c : He.SaysT fa fn ts w K) (i : Nat) {t : He.Tab} (h : ts[i]? = some t) : ∃ es n, KDict K w (t.1 K) es n ∧ ∀ e ∈ es.toList, ∃ z u, e.key = .str z u ∧ z ∈ t.2 := by
  obtain ⟨es, n, hD⟩ := c.tab i h
  refine ⟨es, n, hD, fun e he => ?_⟩
  have e1 : ts.map (fun t => He.dicW K (t.1 K)) = ts.map fun t => some (He.keysIn w.params t.2) := congrArg (fun z : He.AlT => z.2) c
  have e2 : (ts.map fun t => He.dicW K (t.1 K))[i]? = (ts.map fun t => some (He.keysIn w.params t.2))[i]? := by rw [e1]
  rw [List.getElem?_map, List.getElem?_map, h] at e2
  have e3 := dicW_keys (Option.some.inj e2) hD.at_
  have hm : He.keyOf e ∈ He.keysIn w.params t.2 := by rw [← e3]; exact List.mem_map.mpr ⟨e, he, rfl⟩
  obtain ⟨k, hk, hke⟩ := List.mem_map.mp hm
  unfold He.keyOf at hke
  split at hke
  · next x u hx =>
    have := Option.some.inj hke
    refine ⟨x, u, hx, ?_⟩
    have e4 : k = x := congrArg Prod.fst this
    rw [← e4]; exact hk
  · cases hke
end VL
end

section
set_option Elab.async false
set_option linter.all false
set_option maxRecDepth 100000
set_option maxHeartbeats 4000000
namespace VL
open PySem PySem.Spec PyProof.Rows L2
set_option autoImplicit false
/-! ### the operations at known kinds -/
theorem beq_dec (i j : Int) : (i == j) = decide (i = j) := by by_cases h : i = j <;> simp [h]
theorem okc_int (i j : Int) : okc (.int i) (.int j) = true := by simp [okc, PyData.plain, PyData.depth]
theorem okl_int (i j : Int) : okl (.int i) (.int j) = true := by simp [okl, okc_int, PySem.W.alike, isN]
theorem gEq_int (i j : Int) : gEq (.int i) (.int j) = some (.bool (decide (i = j))) := by
  unfold gEq; rw [if_pos (okc_int i j)]; simp only [PyData.eqv]; rw [beq_dec]
theorem gNe_int (i j : Int) : gNe (.int i) (.int j) = some (.bool (!decide (i = j))) := by
  unfold gNe; rw [if_pos (okc_int i j)]; simp only [PyData.eqv]; rw [beq_dec]
theorem gLt_int (i j : Int) : gLt (.int i) (.int j) = some (.bool (decide (i < j))) := by
  unfold gLt; rw [if_pos (okl_int i j), PySem.W.dataLt_int]
theorem gGt_int (i j : Int) : gGt (.int i) (.int j) = some (.bool (decide (j < i))) := by
  unfold gGt; rw [if_pos (okl_int i j), PySem.W.dataLt_int]
theorem gLe_int (i j : Int) : gLe (.int i) (.int j) = some (.bool (decide (i ≤ j))) := by
  unfold gLe; rw [if_pos (okl_int i j), PySem.W.dataLt_int, PySem.W.not_lt_int]
theorem gGe_int (i j : Int) : gGe (.int i) (.int j) = some (.bool (decide (j ≤ i))) := by
  unfold gGe; rw [if_pos (okl_int i j), PySem.W.dataLt_int, PySem.W.not_lt_int]
theorem gAdd_int (i j : Int) : gAdd (.int i) (.int j) = some (.int (i + j)) := rfl
theorem gSub_int (i j : Int) : gSub (.int i) (.int j) = some (.int (i - j)) := rfl
theorem gMul_l (i j : Int) (h : -(2 ^ 64) < i ∧ i < 2 ^ 64) : gMul (.int i) (.int j) = some (.int (i * j)) := if_pos (.inl h)
theorem gMul_r (i j : Int) (h : -(2 ^ 64) < j ∧ j < 2 ^ 64) : gMul (.int i) (.int j) = some (.int (i * j)) := if_pos (.inr h)
theorem gMod_int (i j : Int) (h : 0 < j) : gMod (.int i) (.int j) = some (.int (i % j)) := if_pos h
theorem gFdv_int (i j : Int) (h : 0 < j ∧ j < 1073741824) : gFdv (.int i) (.int j) = some (.int (i / j)) := if_pos h
theorem cInt_int (i : Int) : cInt [.int i] = some (.int i) := rfl
theorem cInt_bool (b : Bool) : cInt [.bool b] = some (.int (if b then 1 else 0)) := rfl
end VL
end

section
set_option Elab.async false
set_option linter.all false
set_option maxRecDepth 100000
set_option maxHeartbeats 4000000
namespace VL
open PySem PySem.Spec PyProof.Rows L2
set_option autoImplicit false
/-! ### what a run answers, and what is wanted of it -/
def wR {α : Type} (r : R α) (Q : α → Prop) : Prop := match r with
  | .ok a => Q a
  | _ => False
theorem wR_ok {α : Type} (a : α) (Q : α → Prop) : wR (.ok a) Q ↔ Q a := Iff.rfl
theorem wR_bind {α β : Type} (r : R α) (k : α → R β) (Q : β → Prop) : wR (r.bind k) Q ↔ wR r (fun a => wR (k a) Q) := by
  cases r <;> exact Iff.rfl
theorem wR_of {α : Type} (o : Option α) (Q : α → Prop) : wR (R.of o) Q ↔ ∃ a, o = some a ∧ Q a := by
  cases o with
  | none => exact ⟨fun h => h.elim, fun ⟨_, h, _⟩ => by cases h⟩
  | some a => exact ⟨fun h => ⟨a, rfl, h⟩, fun ⟨_, h, q⟩ => by cases h; exact q⟩
theorem wR_mono {α : Type} {r : R α} {Q Q' : α → Prop} (h : wR r Q) (i : ∀ a, Q a → Q' a) : wR r Q' := by
  cases r with
  | ok a => exact i a h
  | exc c fs ρ => exact h
  | stuck => exact h
theorem wR_get {α : Type} {r : R α} {Q : α → Prop} (h : wR r Q) : ∃ a, r = .ok a ∧ Q a := by
  cases r with
  | ok a => exact ⟨a, rfl, h⟩
  | exc c fs ρ => exact h.elim
  | stuck => exact h.elim
theorem wR_callF (f : Fn) (sl : List Sl) (m : M (List D)) (ρ : Env) (Q : D × Env → Prop) : wR (mCallF f sl m ρ) Q ↔ wR (m ρ) (fun p => ∃ full, fill sl p.1 p.2 = some full ∧ wR (f full) (fun q => ∃ ρ', put sl q.2 p.2 = some ρ' ∧ Q (q.1, ρ'))) := by
  unfold mCallF
  rw [wR_bind]
  cases m ρ with
  | exc c fs ρ1 => exact Iff.rfl
  | stuck => exact Iff.rfl
  | ok p =>
    simp only [wR_ok]
    cases e : fill sl p.1 p.2 with
    | none => exact ⟨fun h => h.elim, fun ⟨_, h, _⟩ => by cases h⟩
    | some full =>
      constructor
      · intro h
        refine ⟨full, rfl, ?_⟩
        cases e2 : f full with
        | exc c fs ρ1 => simp only [e2] at h; split at h <;> exact h.elim
        | stuck => simp only [e2] at h; exact h.elim
        | ok q =>
          simp only [e2] at h
          cases e3 : put sl q.2 p.2 with
          | none => simp only [e3] at h; exact h.elim
          | some ρ' => simp only [e3] at h; exact ⟨ρ', e3, h⟩
      · rintro ⟨_, h1, h2⟩
        cases h1
        cases e2 : f full with
        | exc c fs ρ1 => rw [e2] at h2; exact h2.elim
        | stuck => rw [e2] at h2; exact h2.elim
        | ok q =>
          rw [e2] at h2
          obtain ⟨ρ', h3, h4⟩ := h2
          simp only [e2, h3]
          exact h4
theorem wR_runF {ro : Bool} {n : Nat} {Ps : List Nat} {m : M Fl} {ds : List D} {Q : D × List D → Prop} (h : wR (m (startE n ds)) (fun p => ∃ d, p.1 = .rt d ∧ ∃ es, outs Ps p.2 = some es ∧ Q (d, es))) : wR (runF ro n Ps m ds) Q := by
  unfold runF
  cases e : m (startE n ds) with
  | exc c fs ρ1 => rw [e] at h; exact h.elim
  | stuck => rw [e] at h; exact h.elim
  | ok p =>
    rw [e] at h
    obtain ⟨d, h1, es, h2, h3⟩ := h
    simp only [h1, h2]
    exact h3
/-! ### loops -/
theorem wR_for {t : Tg} {mb : M Fl} (I : Nat → Env → Prop) : ∀ {ds : List D} {k : Nat} {ρ : Env} {Q : Fl × Env → Prop}, I k ρ →
    (∀ j d ρ, j < k + ds.length → I j ρ → d ∈ ds → ∃ ρ1, bindT t d ρ = some ρ1 ∧ wR (mb ρ1) (fun p => p.1 = .nx ∧ I (j + 1) p.2)) → (∀ ρ', I (k + ds.length) ρ' → Q (.nx, ρ')) → wR (forL t mb ds ρ) Q
  | [], k, ρ, Q, h0, hs, hq => hq ρ h0
  | d :: ds, k, ρ, Q, h0, hs, hq => by
    obtain ⟨ρ1, e, h1⟩ := hs k d ρ (by simp only [List.length_cons]; omega) h0 (List.mem_cons_self ..)
    unfold forL
    simp only [e]
    rw [wR_bind]
    refine wR_mono h1 fun p hp => ?_
    simp only [hp.1]
    refine wR_for I hp.2 (fun j d' ρ' hj hI hm => hs j d' ρ' (by simp only [List.length_cons]; omega) hI (List.mem_cons_of_mem _ hm)) fun ρ' h' => hq ρ' ?_
    rw [List.length_cons]
    have e2 : k + (ds.length + 1) = k + 1 + ds.length := by omega
    rw [e2]
    exact h'
theorem wR_sbind {α β : Type} (r : R α) (k : α → R β) (Q : β → Prop) : wR (r.sbind k) Q ↔ wR r (fun a => wR (k a) Q) := by
  cases r <;> exact Iff.rfl
/-- a comprehension without a test: I holds of the number of turns and of what is gathered -/
theorem wR_lc {t : Tg} {own : List Nat} {me : M D} (I : List D → Env → Prop) : ∀ {ds acc : List D} {ρ : Env} {Q : List D × Env → Prop}, I acc ρ →
    (∀ d acc ρ, I acc ρ → d ∈ ds → ∃ ρ1, bindT t d ρ = some ρ1 ∧ wR (me ρ1) (fun p => I (acc ++ [p.1]) (wipeE p.2 own))) → (∀ acc' ρ', acc'.length = acc.length + ds.length → I acc' ρ' → Q (acc', ρ')) → wR (lcL t own (M.pure true) me ds acc ρ) Q
  | [], acc, ρ, Q, h0, hs, hq => hq acc ρ rfl h0
  | d :: ds, acc, ρ, Q, h0, hs, hq => by
    obtain ⟨ρ1, e, h1⟩ := hs d acc ρ h0 (List.mem_cons_self ..)
    unfold lcL
    simp only [e]
    rw [wR_sbind]
    show wR ((me ρ1).sbind _) Q
    rw [wR_sbind]
    refine wR_mono h1 fun p hp => ?_
    refine wR_lc I hp (fun d' acc' ρ' hI hm => hs d' acc' ρ' hI (List.mem_cons_of_mem _ hm)) fun acc' ρ' hl h' => hq acc' ρ' ?_ h'
    rw [hl, List.length_append, List.length_cons]
    simp only [List.length_cons, List.length_nil]
    omega
/-- a comprehension that reads: the answers by g, the tests by c -/
theorem lcL_map {t : Tg} {own : List Nat} {mt : M Bool} {me : M D} {c : D → Bool} {g : D → D} {ρ : Env} : ∀ {ds acc : List D},
    (∀ d ∈ ds, ∃ ρ1 ρ2 ρ3, bindT t d ρ = some ρ1 ∧ mt ρ1 = .ok (c d, ρ2) ∧ (c d = false → wipeE ρ2 own = ρ) ∧ (c d = true → me ρ2 = .ok (g d, ρ3) ∧ wipeE ρ3 own = ρ)) → lcL t own mt me ds acc ρ = .ok (acc ++ (ds.filter c).map g, ρ)
  | [], acc, h => by unfold lcL; simp [M.pure]
  | d :: ds, acc, h => by
    obtain ⟨ρ1, ρ2, ρ3, e1, e2, e3, e4⟩ := h d (List.mem_cons_self ..)
    have ih := fun acc => lcL_map (t := t) (own := own) (mt := mt) (me := me) (c := c) (g := g) (ρ := ρ) (ds := ds) (acc := acc) fun d' hd => h d' (List.mem_cons_of_mem _ hd)
    unfold lcL
    simp only [e1, e2, R.sbind]
    cases hc : c d with
    | false =>
      rw [if_neg (by decide), e3 hc, ih, List.filter_cons_of_neg (by rw [hc]; decide)]
    | true =>
      obtain ⟨e5, e6⟩ := e4 hc
      rw [if_pos rfl, e5]
      simp only [R.sbind]
      rw [e6, ih, List.filter_cons_of_pos hc, List.map_cons, List.append_assoc, List.singleton_append]
end VL
end

section
set_option Elab.async false
set_option linter.all false
set_option maxRecDepth 100000
set_option maxHeartbeats 4000000
namespace VL
open PySem PySem.Spec PyProof.Rows L2
set_option autoImplicit false
abbrev XE := Nat → List D → Env → Prop
abbrev E0 : XE := fun _ _ _ => False
def popI (ds : List D) : D → Option (D × List D)
  | .int k => if -(2 ^ 63) ≤ k ∧ k < 2 ^ 63 then (seqIndex? k ds.length).bind fun j => (ds[j]?).map fun d => (d, ds.eraseIdx j) else none
  | _ => none
def setI (ds : List D) (d : D) : D → Option (List D)
  | .int k => (ixN ds.length k).map fun j => ds.set j d
  | _ => none
namespace P0
/-! ### what is wanted of a run, forwards -/
def wX {α : Type} (r : R α) (Q : α → Prop) (E : XE) : Prop := match r with
  | .ok a => Q a
  | .exc c fs ρ => E c fs ρ
  | .stuck => False
def wM {α : Type} (m : M α) (ρ : Env) (Q : α → Env → Prop) (E : XE) : Prop := wX (m ρ) (fun p => Q p.1 p.2) E
def wO {α : Type} (o : Option α) (Q : α → Prop) : Prop := match o with
  | some a => Q a
  | none => False
def wIf (b : Bool) (P Q : Prop) : Prop := if b = true then P else Q
def wF (f : Fl) (P : Prop) (K : Fl → Prop) : Prop := match f with
  | .nx => P
  | f => K f
section
variable {α β : Type} {Q : α → Prop} {E : XE} {ρ : Env}
theorem wX_ok (a : α) : wX (.ok a) Q E = Q a := rfl
theorem wX_exc (c : Nat) (fs : List D) (ρ : Env) : wX (.exc c fs ρ : R α) Q E = E c fs ρ := rfl
theorem wX_mono {r : R α} {Q' : α → Prop} {E' : XE} (h : wX r Q E) (i : ∀ a, Q a → Q' a) (j : ∀ c fs ρ, E c fs ρ → E' c fs ρ) : wX r Q' E' := by
  cases r with
  | ok a => exact i a h
  | exc c fs ρ => exact j c fs ρ h
  | stuck => exact h
theorem wX_imp {r : R α} {Q' : α → Prop} {E' : XE} (h : wX r Q E0) (i : ∀ a, Q a → Q' a) : wX r Q' E' := wX_mono h i fun _ _ _ h => h.elim
theorem wX_eq {r : R α} {a : α} (h : wX r (fun b => b = a) E0) : r = .ok a := by
  cases r with
  | ok b => exact congrArg _ h
  | exc c fs ρ => exact h.elim
  | stuck => exact h.elim
theorem wX_get {r : R α} (h : wX r Q E0) : ∃ a, r = .ok a ∧ Q a := by
  cases r with
  | ok b => exact ⟨b, rfl, h⟩
  | exc c fs ρ => exact h.elim
  | stuck => exact h.elim
theorem wX_bind (r : R α) (k : α → R β) (Q : β → Prop) : wX (r.bind k) Q E = wX r (fun a => wX (k a) Q E) E := by cases r <;> rfl
theorem wX_sbind (r : R α) (k : α → R β) (Q : β → Prop) : wX (r.sbind k) Q E = wX r (fun a => wX (k a) Q E) E0 := by cases r <;> rfl
theorem wO_some (a : α) : wO (some a) Q = Q a := rfl
theorem wO_map (o : Option β) (g : β → α) : wO (o.map g) Q = wO o (fun b => Q (g b)) := by cases o <;> rfl
theorem wO_bind (o : Option β) (g : β → Option α) : wO (o.bind g) Q = wO o (fun b => wO (g b) Q) := by cases o <;> rfl
theorem wO_ite (c : Prop) [Decidable c] (a : α) : wO (if c then some a else none) Q = (c ∧ Q a) := by
  by_cases h : c
  · rw [if_pos h]; exact propext ⟨fun q => ⟨h, q⟩, fun q => q.2⟩
  · rw [if_neg h]; exact propext ⟨fun q => q.elim, fun q => h q.1⟩
theorem wX_of (o : Option α) : wX (R.of o) Q E = wO o Q := by cases o <;> rfl
theorem wIf_true (P Q : Prop) : wIf true P Q = P := rfl
theorem wIf_false (P Q : Prop) : wIf false P Q = Q := by simp [wIf]
theorem wIf_not (b : Bool) (P Q : Prop) : wIf (!b) P Q = wIf b Q P := by cases b <;> simp [wIf]
theorem wIf_in {b : Bool} {P Q : Prop} (h1 : b = true → P) (h2 : b = false → Q) : wIf b P Q := by
  cases b
  · rw [wIf_false]; exact h2 rfl
  · rw [wIf_true]; exact h1 rfl
theorem wIf_dec {c : Prop} [Decidable c] {P Q : Prop} (h1 : c → P) (h2 : ¬ c → Q) : wIf (decide c) P Q := wIf_in (fun h => h1 (of_decide_eq_true h)) (fun h => h2 (of_decide_eq_false h))
theorem wF_nx (P : Prop) (K : Fl → Prop) : wF .nx P K = P := rfl
theorem wF_rt (d : D) (P : Prop) (K : Fl → Prop) : wF (.rt d) P K = K (.rt d) := rfl
theorem wF_bk (P : Prop) (K : Fl → Prop) : wF .bk P K = K .bk := rfl
theorem wF_ct (P : Prop) (K : Fl → Prop) : wF .ct P K = K .ct := rfl
end
/-! ### the combinators -/
section
variable {α β : Type} {E : XE} {ρ : Env} {m ma mb mc : M D} {ml : M (List D)} {t : M Bool}
theorem w_pure {Q : α → Env → Prop} (a : α) : wM (M.pure a) ρ Q E = Q a ρ := rfl
theorem w_bind {Q : β → Env → Prop} (m : M α) (f : α → M β) : wM (m.bind f) ρ Q E = wM m ρ (fun a ρ1 => wM (f a) ρ1 Q E) E := by
  unfold wM M.bind; rw [wX_bind]
theorem w_of {Q : α → Env → Prop} (o : Option α) : wM (M.of o) ρ Q E = wO o (fun a => Q a ρ) := by cases o <;> rfl
theorem wM_mono {m : M α} {Q Q' : α → Env → Prop} {E E' : XE} (h : wM m ρ Q E) (i : ∀ a ρ, Q a ρ → Q' a ρ) (j : ∀ c fs ρ, E c fs ρ → E' c fs ρ) : wM m ρ Q' E' := wX_mono h (fun p hp => i p.1 p.2 hp) j
theorem wM_imp {m : M α} {Q Q' : α → Env → Prop} {E' : XE} (h : wM m ρ Q E0) (i : ∀ a ρ, Q a ρ → Q' a ρ) : wM m ρ Q' E' := wM_mono h i fun _ _ _ h => h.elim
theorem wO_none {Q : α → Prop} : wO (none : Option α) Q = False := rfl
theorem wO_get {Q : α → Prop} {o : Option α} (h : wO o Q) : ∃ a, o = some a ∧ Q a := by
  cases o with
  | none => exact h.elim
  | some a => exact ⟨a, rfl, h⟩
theorem w_m1 {Q : D → Env → Prop} (g : D → Option D) : wM (m1 g m) ρ Q E = wM m ρ (fun x ρ1 => wO (g x) fun d => Q d ρ1) E := by unfold m1; simp only [w_bind, w_of]
theorem w_m2 {Q : D → Env → Prop} (g : D → D → Option D) : wM (m2 g ma mb) ρ Q E = wM ma ρ (fun x ρ1 => wM mb ρ1 (fun y ρ2 => wO (g x y) fun d => Q d ρ2) E) E := by unfold m2; simp only [w_bind, w_of]
theorem w_var {Q : D → Env → Prop} (i : Nat) : wM (mVar i) ρ Q E = wO (ρ[i]?) fun o => wO o fun d => Q d ρ := by
  unfold wM mVar
  cases ρ[i]? with
  | none => rfl
  | some o => cases o <;> rfl
theorem w_c {Q : D → Env → Prop} (d : D) : wM (mC d) ρ Q E = Q d ρ := rfl
theorem w_truth {Q : Bool → Env → Prop} : wM (mTruth m) ρ Q E = wM m ρ (fun d ρ1 => wO (dTruth d) fun b => Q b ρ1) E := by unfold mTruth; simp only [w_bind, w_of]
theorem w_ite {Q : α → Env → Prop} (b : Bool) (m m' : M α) : wM (if b = true then m else m') ρ Q E = wIf b (wM m ρ Q E) (wM m' ρ Q E) := by cases b <;> simp [wIf]
theorem w_and {Q : Bool → Env → Prop} (a b : M Bool) : wM (mAnd a b) ρ Q E = wM a ρ (fun x ρ1 => wIf x (wM b ρ1 Q E) (Q false ρ1)) E := by unfold mAnd; simp only [w_bind, w_ite, w_pure]
theorem w_or {Q : Bool → Env → Prop} (a b : M Bool) : wM (mOr a b) ρ Q E = wM a ρ (fun x ρ1 => wIf x (Q true ρ1) (wM b ρ1 Q E)) E := by unfold mOr; simp only [w_bind, w_ite, w_pure]
theorem w_not {Q : Bool → Env → Prop} (a : M Bool) : wM (mNot a) ρ Q E = wM a ρ (fun x ρ1 => Q (!x) ρ1) E := by unfold mNot; simp only [w_bind, w_pure]
theorem w_andV {Q : D → Env → Prop} : wM (mAndV ma mb) ρ Q E = wM ma ρ (fun x ρ1 => wO (dTruth x) fun c => wIf c (wM mb ρ1 Q E) (Q x ρ1)) E := by unfold mAndV; simp only [w_bind, w_ite, w_pure, w_of]
theorem w_orV {Q : D → Env → Prop} : wM (mOrV ma mb) ρ Q E = wM ma ρ (fun x ρ1 => wO (dTruth x) fun c => wIf c (Q x ρ1) (wM mb ρ1 Q E)) E := by unfold mOrV; simp only [w_bind, w_ite, w_pure, w_of]
theorem w_notV {Q : D → Env → Prop} : wM (mNotV m) ρ Q E = wM m ρ (fun x ρ1 => wO (dTruth x) fun c => Q (.bool (!c)) ρ1) E := by unfold mNotV; simp only [w_bind, w_pure, w_of]
theorem w_if {Q : D → Env → Prop} (c : M Bool) : wM (mIf c ma mb) ρ Q E = wM c ρ (fun x ρ1 => wIf x (wM ma ρ1 Q E) (wM mb ρ1 Q E)) E := by unfold mIf; simp only [w_bind, w_ite]
theorem w_nil {Q : List D → Env → Prop} : wM mNil ρ Q E = Q [] ρ := rfl
theorem w_cons {Q : List D → Env → Prop} : wM (mCons m ml) ρ Q E = wM m ρ (fun x ρ1 => wM ml ρ1 (fun xs ρ2 => Q (x :: xs) ρ2) E) E := by unfold mCons; simp only [w_bind, w_pure]
theorem w_tup {Q : D → Env → Prop} : wM (mTup ml) ρ Q E = wM ml ρ (fun ds ρ1 => Q (.tuple ds) ρ1) E := by unfold mTup; simp only [w_bind, w_pure]
theorem w_lst {Q : D → Env → Prop} : wM (mLst ml) ρ Q E = wM ml ρ (fun ds ρ1 => Q (.list ds) ρ1) E := by unfold mLst; simp only [w_bind, w_pure]
theorem w_call {Q : D → Env → Prop} (g : List D → Option D) : wM (mCall g ml) ρ Q E = wM ml ρ (fun ds ρ1 => wO (g ds) fun d => Q d ρ1) E := by unfold mCall; simp only [w_bind, w_of]
theorem w_nx {Q : Fl → Env → Prop} : wM mNx ρ Q E = Q .nx ρ := rfl
theorem w_seq {Q : Fl → Env → Prop} (a b : M Fl) : wM (mSeq a b) ρ Q E = wM a ρ (fun f ρ1 => wF f (wM b ρ1 Q E) fun f => Q f ρ1) E := by
  unfold mSeq
  rw [w_bind]
  congr 1
  funext f ρ1
  cases f <;> rfl
theorem w_drop {Q : Fl → Env → Prop} : wM (mDrop m) ρ Q E = wM m ρ (fun _ ρ1 => Q .nx ρ1) E := by unfold mDrop; simp only [w_bind, w_pure]
theorem w_ret {Q : Fl → Env → Prop} : wM (mRet m) ρ Q E = wM m ρ (fun d ρ1 => Q (.rt d) ρ1) E := by unfold mRet; simp only [w_bind, w_pure]
theorem w_set {Q : Fl → Env → Prop} (i : Nat) : wM (mSet i m) ρ Q E = wM m ρ (fun d ρ1 => Q .nx (ρ1.set i (some d))) E := by unfold mSet; rw [w_bind]; rfl
theorem w_ifS {Q : Fl → Env → Prop} (a b : M Fl) : wM (mIfS t a b) ρ Q E = wM t ρ (fun x ρ1 => wIf x (wM a ρ1 Q E) (wM b ρ1 Q E)) E := by unfold mIfS; simp only [w_bind, w_ite]
theorem w_slot {Q : List D → Env → Prop} (i : Nat) : wM (mSlot i ml) ρ Q E = wO (ρ[i]?) fun o => wO o fun _ => wM ml ρ Q E := by
  unfold wM mSlot
  cases ρ[i]? with
  | none => rfl
  | some o => cases o <;> rfl
theorem w_callF {Q : D → Env → Prop} (f : Fn) (sl : List Sl) : wM (mCallF f sl ml) ρ Q E = wM ml ρ (fun ds ρ1 => wO (fill sl ds ρ1) fun full => wX (f full) (fun q => wO (put sl q.2 ρ1) fun ρ' => Q q.1 ρ') fun c fs _ => sl.all (fun s => !s.m) = true ∧ E c fs ρ1) E := by
  unfold wM mCallF
  rw [wX_bind]
  congr 1
  funext p
  try dsimp only
  cases fill sl p.1 p.2 with
  | none => rfl
  | some full =>
    simp only [wO_some]
    cases f full with
    | stuck => rfl
    | ok q =>
      simp only [wX_ok]
      cases put sl q.2 p.2 <;> rfl
    | exc c fs ρ' =>
      simp only [wX_exc]
      by_cases h : sl.all (fun s => !s.m) = true
      · simp only [if_pos h, wX_exc]; exact propext ⟨fun q => ⟨h, q⟩, fun q => q.2⟩
      · simp only [if_neg h]; exact propext ⟨fun q => q.elim, fun q => h q.1⟩
theorem w_callK {Q : D → Env → Prop} (f : Fn) (ix : List Nat) : wM (mCallK f ix ml) ρ Q E = wM ml ρ (fun ds ρ1 => wX (f (pick ix ds)) (fun q => q.2 = [] ∧ Q q.1 ρ1) fun c fs _ => E c fs ρ1) E := by
  unfold wM mCallK
  rw [wX_bind]
  congr 1
  funext p
  try dsimp only
  cases f (pick ix p.1) with
  | stuck => rfl
  | ok q =>
    obtain ⟨d, l⟩ := q
    cases l with
    | nil => simp only [wX_ok, if_true, true_and]
    | cons x l => simp only [wX_ok, reduceCtorEq, if_false, false_and]; rfl
  | exc c fs ρ' => rfl
theorem w_app2 {Q : List D → Env → Prop} (mk : M (List D)) : wM (mApp2 ml mk) ρ Q E = wM ml ρ (fun xs ρ1 => wM mk ρ1 (fun ys ρ2 => Q (xs ++ ys) ρ2) E) E := by unfold mApp2; simp only [w_bind, w_pure]
theorem w_part {Q : Option Int → Env → Prop} : wM (mPart m) ρ Q E = wM m ρ (fun d ρ1 => wO (match d with | .int i => some i | _ => none) fun i => Q (some i) ρ1) E := by
  unfold mPart
  rw [w_bind]
  congr 1
  funext d ρ1
  cases d <;> rfl
theorem w_noPart {Q : Option Int → Env → Prop} : wM mNoPart ρ Q E = Q none ρ := rfl
theorem w_sl {Q : D → Env → Prop} (g : D → Option Int → Option Int → Option D) (l h : M (Option Int)) : wM (mSl g m l h) ρ Q E = wM m ρ (fun x ρ1 => wM l ρ1 (fun l ρ2 => wM h ρ2 (fun h ρ3 => wO (g x l h) fun d => Q d ρ3) E) E) E := by unfold mSl; simp only [w_bind, w_of]
theorem w_seqOf {Q : List D → Env → Prop} : wM (mSeqOf m) ρ Q E = wM m ρ (fun d ρ1 => wO (dSeq d) fun ds => Q ds ρ1) E := by unfold mSeqOf; simp only [w_bind, w_of]
theorem w_rng {Q : List D → Env → Prop} (g : List D → Option (List D)) : wM (mRng g ml) ρ Q E = wM ml ρ (fun ds ρ1 => wO (g ds) fun xs => Q xs ρ1) E := by unfold mRng; simp only [w_bind, w_of]
theorem w_for {Q : Fl → Env → Prop} (tg : Tg) (mb : M Fl) : wM (mFor tg ml mb) ρ Q E = wM ml ρ (fun ds ρ1 => wM (forL tg mb ds) ρ1 Q E) E := by unfold mFor; rw [w_bind]
theorem w_forL_nil {Q : Fl → Env → Prop} (tg : Tg) (mb : M Fl) : wM (forL tg mb []) ρ Q E = Q .nx ρ := rfl
theorem w_forL_cons {Q : Fl → Env → Prop} (tg : Tg) (mb : M Fl) (d : D) (ds : List D) : wM (forL tg mb (d :: ds)) ρ Q E = wO (bindT tg d ρ) fun ρ1 => wM mb ρ1 (fun f ρ2 => match f with
    | .nx => wM (forL tg mb ds) ρ2 Q E
    | .ct => wM (forL tg mb ds) ρ2 Q E
    | .bk => Q .nx ρ2
    | .rt d => Q (.rt d) ρ2) E := by
  have e : forL tg mb (d :: ds) ρ = match bindT tg d ρ with
    | none => .stuck
    | some ρ1 => (mb ρ1).bind fun p => match p.1 with
      | .nx => forL tg mb ds p.2
      | .ct => forL tg mb ds p.2
      | .bk => .ok (.nx, p.2)
      | .rt d => .ok (.rt d, p.2) := rfl
  show wX (forL tg mb (d :: ds) ρ) _ _ = _
  rw [e]
  cases bindT tg d ρ with
  | none => rfl
  | some ρ1 =>
    simp only [wO_some]
    rw [wX_bind]
    show _ = wX (mb ρ1) _ E
    congr 1
    funext p
    obtain ⟨f, ρ2⟩ := p
    cases f <;> rfl
theorem w_lc {Q : D → Env → Prop} (tg : Tg) (own : List Nat) (mt : M Bool) : wM (mLc tg own ml mt m) ρ Q E = wM ml ρ (fun ds ρ1 => ds.length ≤ sizeLine ∧ wM (lcL tg own mt m ds []) (wipeE ρ1 own) (fun ys ρ2 => Q (.list ys) (backE ρ1 own ρ2)) E0) E := by
  unfold wM mLc
  rw [wX_bind]
  congr 1
  funext p
  try dsimp only
  by_cases h : p.1.length ≤ sizeLine
  · simp only [h, if_true, true_and]
    rw [wX_sbind]
    rfl
  · simp only [h, if_false, false_and]; rfl
theorem w_lcL_nil {Q : List D → Env → Prop} (tg : Tg) (own : List Nat) (mt : M Bool) (acc : List D) : wM (lcL tg own mt m [] acc) ρ Q E = Q acc ρ := rfl
theorem w_lcL_cons {Q : List D → Env → Prop} (tg : Tg) (own : List Nat) (mt : M Bool) (d : D) (ds acc : List D) : wM (lcL tg own mt m (d :: ds) acc) ρ Q E = wO (bindT tg d ρ) fun ρ1 => wM mt ρ1 (fun b ρ2 => wIf b (wM m ρ2 (fun x ρ3 => wM (lcL tg own mt m ds (acc ++ [x])) (wipeE ρ3 own) Q E) E0) (wM (lcL tg own mt m ds acc) (wipeE ρ2 own) Q E)) E0 := by
  have e : lcL tg own mt m (d :: ds) acc ρ = match bindT tg d ρ with
    | none => .stuck
    | some ρ1 => (mt ρ1).sbind fun q => if q.1 = true then (m q.2).sbind fun p => lcL tg own mt m ds (acc ++ [p.1]) (wipeE p.2 own) else lcL tg own mt m ds acc (wipeE q.2 own) := rfl
  show wX (lcL tg own mt m (d :: ds) acc ρ) _ _ = _
  rw [e]
  cases bindT tg d ρ with
  | none => rfl
  | some ρ1 =>
    simp only [wO_some]
    rw [wX_sbind]
    show _ = wX (mt ρ1) _ E0
    congr 1
    funext p
    obtain ⟨b, ρ2⟩ := p
    cases b with
    | false => simp only [wIf_false, Bool.false_eq_true, if_false]; rfl
    | true => simp only [wIf_true, if_true]; rw [wX_sbind]; rfl
theorem w_app {Q : D → Env → Prop} (i : Nat) : wM (mApp i m) ρ Q E = wO (lstAt ρ i) fun _ => wM m ρ (fun d ρ1 => wO (lstAt ρ1 i) fun ds => ds.length < sizeLine ∧ Q .none (ρ1.set i (some (.list (ds ++ [d]))))) E := by
  unfold wM mApp
  cases lstAt ρ i with
  | none => rfl
  | some _ =>
    simp only [wO_some]
    rw [wX_bind]
    congr 1
    funext p
    try dsimp only
    cases lstAt p.2 i with
    | none => rfl
    | some ds =>
      simp only [wO_some]
      by_cases h : ds.length < sizeLine
      · simp only [h, if_true, true_and]; rfl
      · simp only [h, if_false, false_and]; rfl
theorem w_ixO {Q : D → Env → Prop} (i : Nat) : wM (mIxO i m) ρ Q E = wO (lstAt ρ i) fun _ => wM m ρ (fun d ρ1 => wO (lstAt ρ1 i) fun ds => wO (gIx (.list ds) d) fun d => Q d ρ1) E := by
  unfold wM mIxO
  cases lstAt ρ i with
  | none => rfl
  | some _ =>
    simp only [wO_some]
    rw [wX_bind]
    congr 1
    funext p
    obtain ⟨d, ρ1⟩ := p
    try dsimp only
    cases h : lstAt ρ1 i with
    | none => cases d <;> simp only [h] <;> rfl
    | some ds =>
      cases d <;> simp only [h, wO_some] <;> try rfl
      next k => simp only [gIx]; cases atI ds k <;> rfl
theorem w_lenO {Q : D → Env → Prop} (i : Nat) : wM (mLenO i) ρ Q E = wO (lstAt ρ i) fun ds => Q (.int ds.length) ρ := by
  unfold wM mLenO
  cases lstAt ρ i <;> rfl
theorem w_popAt {Q : D → Env → Prop} (i : Nat) : wM (mPopAt i m) ρ Q E = wO (lstAt ρ i) fun _ => wM m ρ (fun d ρ1 => wO (lstAt ρ1 i) fun ds => wO (popI ds d) fun p => Q p.1 (ρ1.set i (some (.list p.2)))) E := by
  unfold wM mPopAt
  cases lstAt ρ i with
  | none => rfl
  | some _ =>
    simp only [wO_some]
    rw [wX_bind]
    congr 1
    funext p
    obtain ⟨d, ρ1⟩ := p
    try dsimp only
    cases h : lstAt ρ1 i with
    | none => cases d <;> simp only [h] <;> rfl
    | some ds =>
      cases d <;> simp only [h, wO_some] <;> try rfl
      next k =>
        unfold popI
        by_cases c : -(2 ^ 63) ≤ k ∧ k < 2 ^ 63
        · simp only [if_pos c]
          cases seqIndex? k ds.length with
          | none => rfl
          | some j => simp only [Option.bind_some]; cases ds[j]? <;> rfl
        · simp only [if_neg c]; rfl
theorem w_setIx {Q : Fl → Env → Prop} (i : Nat) : wM (mSetIx i ma mb) ρ Q E = wM ma ρ (fun d ρ1 => wO (lstAt ρ1 i) fun _ => wM mb ρ1 (fun k ρ2 => wO (lstAt ρ2 i) fun ds => wO (setI ds d k) fun l => Q .nx (ρ2.set i (some (.list l)))) E) E := by
  unfold wM mSetIx
  rw [wX_bind]
  congr 1
  funext p
  try dsimp only
  cases lstAt p.2 i with
  | none => rfl
  | some _ =>
    simp only [wO_some]
    rw [wX_bind]
    congr 1
    funext q
    obtain ⟨d, ρ1⟩ := q
    try dsimp only
    cases h : lstAt ρ1 i with
    | none => cases d <;> simp only [h] <;> rfl
    | some ds =>
      cases d <;> simp only [h, wO_some] <;> try rfl
      next k => simp only [setI]; cases ixN ds.length k <;> rfl
theorem w_aug {Q : Fl → Env → Prop} (g : Int → Int → Int) (i : Nat) : wM (mAug g i m) ρ Q E = wO (ρ[i]?) fun o => wO o fun k => wO (match k with | .int k => some k | _ => none) fun k => wM m ρ (fun d ρ1 => wO (match d with | .int j => some j | _ => none) fun j => Q .nx (ρ1.set i (some (.int (g k j))))) E := by
  unfold wM mAug
  cases ρ[i]? with
  | none => rfl
  | some o =>
    cases o with
    | none => rfl
    | some k =>
      cases k <;> try rfl
      simp only [wO_some]
      rw [wX_bind]
      congr 1
      funext q
      obtain ⟨d, ρ1⟩ := q
      cases d <;> rfl
theorem w_par2 {Q : Fl → Env → Prop} (i j : Nat) : wM (mPar [i, j] (mCons ma (mCons mb mNil))) ρ Q E = wM ma ρ (fun x ρ1 => wM mb ρ1 (fun y ρ2 => Q .nx ((ρ2.set i (some x)).set j (some y))) E) E := by unfold mPar; simp only [w_bind, w_cons, w_nil]; rfl
theorem w_par3 {Q : Fl → Env → Prop} (i j k : Nat) : wM (mPar [i, j, k] (mCons ma (mCons mb (mCons mc mNil)))) ρ Q E = wM ma ρ (fun x ρ1 => wM mb ρ1 (fun y ρ2 => wM mc ρ2 (fun z ρ3 => Q .nx (((ρ3.set i (some x)).set j (some y)).set k (some z))) E) E) E := by unfold mPar; simp only [w_bind, w_cons, w_nil]; rfl
theorem w_mbind {Q : Fl → Env → Prop} (tg : Tg) : wM (mBind tg m) ρ Q E = wM m ρ (fun d ρ1 => wO (bindT tg d ρ1) fun ρ2 => Q .nx ρ2) E := by
  unfold mBind
  rw [w_bind]
  congr 1
  funext d ρ1
  unfold wM
  try dsimp only
  cases bindT tg d ρ1 <;> rfl
theorem w_chain {Q : D → Env → Prop} (g g' : D → D → Option D) : wM (mChain g g' ma mb mc) ρ Q E = wM ma ρ (fun x ρ1 => wM mb ρ1 (fun y ρ2 => wO (g x y) fun k => wO (match k with | .bool b => some b | _ => none) fun b => wIf b (wM mc ρ2 (fun z ρ3 => wO (g' y z) fun d => Q d ρ3) E) (Q (.bool false) ρ2)) E) E := by
  unfold mChain
  simp only [w_bind, w_of]
  congr 1
  funext x ρ1
  congr 1
  funext y ρ2
  congr 1
  funext k
  cases k with
  | bool b =>
    cases b
    · simp only [wO_some, wIf_false, w_pure]
    · simp only [wO_some, wIf_true, w_bind, w_of]
  | _ => rfl
theorem wX_runF {ro : Bool} {n : Nat} {Ps : List Nat} {m : M Fl} {ds : List D} {Q : D × List D → Prop} : wX (runF ro n Ps m ds) Q E = wM m (startE n ds) (fun f ρ => match f with
    | .rt d => wO (outs Ps ρ) fun es => Q (d, es)
    | .nx => ro = false ∧ wO (outs Ps ρ) fun es => Q (.none, es)
    | _ => False) (fun c fs _ => Ps = [] ∧ E c fs []) := by
  unfold runF wM
  cases m (startE n ds) with
  | stuck => rfl
  | exc c fs ρ =>
    by_cases h : Ps = []
    · simp only [h, if_true, wX_exc, true_and]
    · simp only [h, if_false, false_and]; rfl
  | ok p =>
    obtain ⟨f, ρ⟩ := p
    simp only [wX_ok]
    cases f with
    | rt d => cases h : outs Ps ρ <;> simp only [h] <;> rfl
    | nx =>
      cases ro with
      | true => simp only [if_true, Bool.true_eq_false, false_and]; rfl
      | false => cases h : outs Ps ρ <;> simp [h, wO, wX]
    | bk => rfl
    | ct => rfl
end
end P0
end VL
end

section
set_option Elab.async false
set_option linter.all false
set_option maxRecDepth 100000
set_option maxHeartbeats 4000000
namespace VL
open PySem PySem.Spec PyProof.Rows L2
set_option autoImplicit false
/-- holds an argument fast: what a type hangs on is not gone into -/
inductive Hd {α : Sort _} {β : Sort _} {γ : Sort _} (a : α) (b : β) (c : γ) : Type
  | mk
@[irreducible] def wX {α : Type} (r : R α) (Q : α → Prop) (E : XE) (_ : Hd () Q E := .mk) : Prop := P0.wX r Q E
@[irreducible] def wM {α : Type} (m : M α) (ρ : Env) (Q : α → Env → Prop) (E : XE) (_ : Hd m Q E := .mk) : Prop := P0.wM m ρ Q E
@[irreducible] def wO {α : Type} (o : Option α) (Q : α → Prop) (_ : Hd () () Q := .mk) : Prop := P0.wO o Q
@[irreducible] def wIf (b : Bool) (P Q : Prop) (_ : Hd () P Q := .mk) : Prop := P0.wIf b P Q
@[irreducible] def wF (f : Fl) (P : Prop) (K : Fl → Prop) (_ : Hd () P K := .mk) : Prop := P0.wF f P K
section
variable {α β : Type} {Q : α → Prop} {E : XE} {ρ : Env}
theorem wX_ok (a : α) : wX (.ok a) Q E = Q a := by with_unfolding_all first | exact P0.wX_ok | exact P0.wX_ok .. | (apply P0.wX_ok <;> assumption)
theorem wX_exc (c : Nat) (fs : List D) (ρ : Env) : wX (.exc c fs ρ : R α) Q E = E c fs ρ := by with_unfolding_all first | exact P0.wX_exc | exact P0.wX_exc .. | (apply P0.wX_exc <;> assumption)
theorem wX_mono {r : R α} {Q' : α → Prop} {E' : XE} (h : wX r Q E) (i : ∀ a, Q a → Q' a) (j : ∀ c fs ρ, E c fs ρ → E' c fs ρ) : wX r Q' E' := by with_unfolding_all first | exact P0.wX_mono | exact P0.wX_mono .. | (apply P0.wX_mono <;> assumption)
theorem wX_imp {r : R α} {Q' : α → Prop} {E' : XE} (h : wX r Q E0) (i : ∀ a, Q a → Q' a) : wX r Q' E' := by with_unfolding_all first | exact P0.wX_imp | exact P0.wX_imp .. | (apply P0.wX_imp <;> assumption)
theorem wX_eq {r : R α} {a : α} (h : wX r (fun b => b = a) E0) : r = .ok a := by with_unfolding_all first | exact P0.wX_eq | exact P0.wX_eq .. | (apply P0.wX_eq <;> assumption)
theorem wX_get {r : R α} (h : wX r Q E0) : ∃ a, r = .ok a ∧ Q a := by with_unfolding_all first | exact P0.wX_get | exact P0.wX_get .. | (apply P0.wX_get <;> assumption)
theorem wX_bind (r : R α) (k : α → R β) (Q : β → Prop) : wX (r.bind k) Q E = wX r (fun a => wX (k a) Q E) E := by with_unfolding_all first | exact P0.wX_bind | exact P0.wX_bind .. | (apply P0.wX_bind <;> assumption)
theorem wX_sbind (r : R α) (k : α → R β) (Q : β → Prop) : wX (r.sbind k) Q E = wX r (fun a => wX (k a) Q E) E0 := by with_unfolding_all first | exact P0.wX_sbind | exact P0.wX_sbind .. | (apply P0.wX_sbind <;> assumption)
theorem wO_some (a : α) : wO (some a) Q = Q a := by with_unfolding_all first | exact P0.wO_some | exact P0.wO_some .. | (apply P0.wO_some <;> assumption)
theorem wO_map (o : Option β) (g : β → α) : wO (o.map g) Q = wO o (fun b => Q (g b)) := by with_unfolding_all first | exact P0.wO_map | exact P0.wO_map .. | (apply P0.wO_map <;> assumption)
theorem wO_bind (o : Option β) (g : β → Option α) : wO (o.bind g) Q = wO o (fun b => wO (g b) Q) := by with_unfolding_all first | exact P0.wO_bind | exact P0.wO_bind .. | (apply P0.wO_bind <;> assumption)
theorem wO_ite (c : Prop) [Decidable c] (a : α) : wO (if c then some a else none) Q = (c ∧ Q a) := by with_unfolding_all first | exact P0.wO_ite | exact P0.wO_ite .. | (apply P0.wO_ite <;> assumption)
theorem wX_of (o : Option α) : wX (R.of o) Q E = wO o Q := by with_unfolding_all first | exact P0.wX_of | exact P0.wX_of .. | (apply P0.wX_of <;> assumption)
theorem wIf_true (P Q : Prop) : wIf true P Q = P := by with_unfolding_all first | exact P0.wIf_true | exact P0.wIf_true .. | (apply P0.wIf_true <;> assumption)
theorem wIf_false (P Q : Prop) : wIf false P Q = Q := by with_unfolding_all first | exact P0.wIf_false | exact P0.wIf_false .. | (apply P0.wIf_false <;> assumption)
theorem wIf_not (b : Bool) (P Q : Prop) : wIf (!b) P Q = wIf b Q P := by with_unfolding_all first | exact P0.wIf_not | exact P0.wIf_not .. | (apply P0.wIf_not <;> assumption)
theorem wIf_in {b : Bool} {P Q : Prop} (h1 : b = true → P) (h2 : b = false → Q) : wIf b P Q := by with_unfolding_all first | exact P0.wIf_in | exact P0.wIf_in .. | (apply P0.wIf_in <;> assumption)
theorem wIf_dec {c : Prop} [Decidable c] {P Q : Prop} (h1 : c → P) (h2 : ¬ c → Q) : wIf (decide c) P Q := by with_unfolding_all first | exact P0.wIf_dec | exact P0.wIf_dec .. | (apply P0.wIf_dec <;> assumption)
theorem wF_nx (P : Prop) (K : Fl → Prop) : wF .nx P K = P := by with_unfolding_all first | exact P0.wF_nx | exact P0.wF_nx .. | (apply P0.wF_nx <;> assumption)
theorem wF_rt (d : D) (P : Prop) (K : Fl → Prop) : wF (.rt d) P K = K (.rt d) := by with_unfolding_all first | exact P0.wF_rt | exact P0.wF_rt .. | (apply P0.wF_rt <;> assumption)
theorem wF_bk (P : Prop) (K : Fl → Prop) : wF .bk P K = K .bk := by with_unfolding_all first | exact P0.wF_bk | exact P0.wF_bk .. | (apply P0.wF_bk <;> assumption)
theorem wF_ct (P : Prop) (K : Fl → Prop) : wF .ct P K = K .ct := by with_unfolding_all first | exact P0.wF_ct | exact P0.wF_ct .. | (apply P0.wF_ct <;> assumption)
end
/-! ### the combinators -/
section
variable {α β : Type} {E : XE} {ρ : Env} {m ma mb mc : M D} {ml : M (List D)} {t : M Bool}
theorem w_pure {Q : α → Env → Prop} (a : α) : wM (M.pure a) ρ Q E = Q a ρ := by with_unfolding_all first | exact P0.w_pure | exact P0.w_pure .. | (apply P0.w_pure <;> assumption)
theorem w_bind {Q : β → Env → Prop} (m : M α) (f : α → M β) : wM (m.bind f) ρ Q E = wM m ρ (fun a ρ1 => wM (f a) ρ1 Q E) E := by with_unfolding_all first | exact P0.w_bind | exact P0.w_bind .. | (apply P0.w_bind <;> assumption)
theorem w_of {Q : α → Env → Prop} (o : Option α) : wM (M.of o) ρ Q E = wO o (fun a => Q a ρ) := by with_unfolding_all first | exact P0.w_of | exact P0.w_of .. | (apply P0.w_of <;> assumption)
theorem wM_mono {m : M α} {Q Q' : α → Env → Prop} {E E' : XE} (h : wM m ρ Q E) (i : ∀ a ρ, Q a ρ → Q' a ρ) (j : ∀ c fs ρ, E c fs ρ → E' c fs ρ) : wM m ρ Q' E' := by with_unfolding_all first | exact P0.wM_mono | exact P0.wM_mono .. | (apply P0.wM_mono <;> assumption)
theorem wM_imp {m : M α} {Q Q' : α → Env → Prop} {E' : XE} (h : wM m ρ Q E0) (i : ∀ a ρ, Q a ρ → Q' a ρ) : wM m ρ Q' E' := by with_unfolding_all first | exact P0.wM_imp | exact P0.wM_imp .. | (apply P0.wM_imp <;> assumption)
theorem wO_none {Q : α → Prop} : wO (none : Option α) Q = False := by with_unfolding_all first | exact P0.wO_none | exact P0.wO_none .. | (apply P0.wO_none <;> assumption)
theorem wO_get {Q : α → Prop} {o : Option α} (h : wO o Q) : ∃ a, o = some a ∧ Q a := by with_unfolding_all first | exact P0.wO_get | exact P0.wO_get .. | (apply P0.wO_get <;> assumption)
theorem w_m1 {Q : D → Env → Prop} (g : D → Option D) : wM (m1 g m) ρ Q E = wM m ρ (fun x ρ1 => wO (g x) fun d => Q d ρ1) E := by with_unfolding_all first | exact P0.w_m1 | exact P0.w_m1 .. | (apply P0.w_m1 <;> assumption)
theorem w_m2 {Q : D → Env → Prop} (g : D → D → Option D) : wM (m2 g ma mb) ρ Q E = wM ma ρ (fun x ρ1 => wM mb ρ1 (fun y ρ2 => wO (g x y) fun d => Q d ρ2) E) E := by with_unfolding_all first | exact P0.w_m2 | exact P0.w_m2 .. | (apply P0.w_m2 <;> assumption)
theorem w_var {Q : D → Env → Prop} (i : Nat) : wM (mVar i) ρ Q E = wO (ρ[i]?) fun o => wO o fun d => Q d ρ := by with_unfolding_all first | exact P0.w_var | exact P0.w_var .. | (apply P0.w_var <;> assumption)
theorem w_c {Q : D → Env → Prop} (d : D) : wM (mC d) ρ Q E = Q d ρ := by with_unfolding_all first | exact P0.w_c | exact P0.w_c .. | (apply P0.w_c <;> assumption)
theorem w_truth {Q : Bool → Env → Prop} : wM (mTruth m) ρ Q E = wM m ρ (fun d ρ1 => wO (dTruth d) fun b => Q b ρ1) E := by with_unfolding_all first | exact P0.w_truth | exact P0.w_truth .. | (apply P0.w_truth <;> assumption)
theorem w_ite {Q : α → Env → Prop} (b : Bool) (m m' : M α) : wM (if b = true then m else m') ρ Q E = wIf b (wM m ρ Q E) (wM m' ρ Q E) := by with_unfolding_all first | exact P0.w_ite | exact P0.w_ite .. | (apply P0.w_ite <;> assumption)
theorem w_and {Q : Bool → Env → Prop} (a b : M Bool) : wM (mAnd a b) ρ Q E = wM a ρ (fun x ρ1 => wIf x (wM b ρ1 Q E) (Q false ρ1)) E := by with_unfolding_all first | exact P0.w_and | exact P0.w_and .. | (apply P0.w_and <;> assumption)
theorem w_or {Q : Bool → Env → Prop} (a b : M Bool) : wM (mOr a b) ρ Q E = wM a ρ (fun x ρ1 => wIf x (Q true ρ1) (wM b ρ1 Q E)) E := by with_unfolding_all first | exact P0.w_or | exact P0.w_or .. | (apply P0.w_or <;> assumption)
theorem w_not {Q : Bool → Env → Prop} (a : M Bool) : wM (mNot a) ρ Q E = wM a ρ (fun x ρ1 => Q (!x) ρ1) E := by with_unfolding_all first | exact P0.w_not | exact P0.w_not .. | (apply P0.w_not <;> assumption)
theorem w_andV {Q : D → Env → Prop} : wM (mAndV ma mb) ρ Q E = wM ma ρ (fun x ρ1 => wO (dTruth x) fun c => wIf c (wM mb ρ1 Q E) (Q x ρ1)) E := by with_unfolding_all first | exact P0.w_andV | exact P0.w_andV .. | (apply P0.w_andV <;> assumption)
theorem w_orV {Q : D → Env → Prop} : wM (mOrV ma mb) ρ Q E = wM ma ρ (fun x ρ1 => wO (dTruth x) fun c => wIf c (Q x ρ1) (wM mb ρ1 Q E)) E := by with_unfolding_all first | exact P0.w_orV | exact P0.w_orV .. | (apply P0.w_orV <;> assumption)
theorem w_notV {Q : D → Env → Prop} : wM (mNotV m) ρ Q E = wM m ρ (fun x ρ1 => wO (dTruth x) fun c => Q (.bool (!c)) ρ1) E := by with_unfolding_all first | exact P0.w_notV | exact P0.w_notV .. | (apply P0.w_notV <;> assumption)
theorem w_if {Q : D → Env → Prop} (c : M Bool) : wM (mIf c ma mb) ρ Q E = wM c ρ (fun x ρ1 => wIf x (wM ma ρ1 Q E) (wM mb ρ1 Q E)) E := by with_unfolding_all first | exact P0.w_if | exact P0.w_if .. | (apply P0.w_if <;> assumption)
theorem w_nil {Q : List D → Env → Prop} : wM mNil ρ Q E = Q [] ρ := by with_unfolding_all first | exact P0.w_nil | exact P0.w_nil .. | (apply P0.w_nil <;> assumption)
theorem w_cons {Q : List D → Env → Prop} : wM (mCons m ml) ρ Q E = wM m ρ (fun x ρ1 => wM ml ρ1 (fun xs ρ2 => Q (x :: xs) ρ2) E) E := by with_unfolding_all first | exact P0.w_cons | exact P0.w_cons .. | (apply P0.w_cons <;> assumption)
theorem w_tup {Q : D → Env → Prop} : wM (mTup ml) ρ Q E = wM ml ρ (fun ds ρ1 => Q (.tuple ds) ρ1) E := by with_unfolding_all first | exact P0.w_tup | exact P0.w_tup .. | (apply P0.w_tup <;> assumption)
theorem w_lst {Q : D → Env → Prop} : wM (mLst ml) ρ Q E = wM ml ρ (fun ds ρ1 => Q (.list ds) ρ1) E := by with_unfolding_all first | exact P0.w_lst | exact P0.w_lst .. | (apply P0.w_lst <;> assumption)
theorem w_call {Q : D → Env → Prop} (g : List D → Option D) : wM (mCall g ml) ρ Q E = wM ml ρ (fun ds ρ1 => wO (g ds) fun d => Q d ρ1) E := by with_unfolding_all first | exact P0.w_call | exact P0.w_call .. | (apply P0.w_call <;> assumption)
theorem w_nx {Q : Fl → Env → Prop} : wM mNx ρ Q E = Q .nx ρ := by with_unfolding_all first | exact P0.w_nx | exact P0.w_nx .. | (apply P0.w_nx <;> assumption)
theorem w_seq {Q : Fl → Env → Prop} (a b : M Fl) : wM (mSeq a b) ρ Q E = wM a ρ (fun f ρ1 => wF f (wM b ρ1 Q E) fun f => Q f ρ1) E := by with_unfolding_all first | exact P0.w_seq | exact P0.w_seq .. | (apply P0.w_seq <;> assumption)
theorem w_drop {Q : Fl → Env → Prop} : wM (mDrop m) ρ Q E = wM m ρ (fun _ ρ1 => Q .nx ρ1) E := by with_unfolding_all first | exact P0.w_drop | exact P0.w_drop .. | (apply P0.w_drop <;> assumption)
theorem w_ret {Q : Fl → Env → Prop} : wM (mRet m) ρ Q E = wM m ρ (fun d ρ1 => Q (.rt d) ρ1) E := by with_unfolding_all first | exact P0.w_ret | exact P0.w_ret .. | (apply P0.w_ret <;> assumption)
theorem w_set {Q : Fl → Env → Prop} (i : Nat) : wM (mSet i m) ρ Q E = wM m ρ (fun d ρ1 => Q .nx (ρ1.set i (some d))) E := by with_unfolding_all first | exact P0.w_set | exact P0.w_set .. | (apply P0.w_set <;> assumption)
theorem w_ifS {Q : Fl → Env → Prop} (a b : M Fl) : wM (mIfS t a b) ρ Q E = wM t ρ (fun x ρ1 => wIf x (wM a ρ1 Q E) (wM b ρ1 Q E)) E := by with_unfolding_all first | exact P0.w_ifS | exact P0.w_ifS .. | (apply P0.w_ifS <;> assumption)
theorem w_slot {Q : List D → Env → Prop} (i : Nat) : wM (mSlot i ml) ρ Q E = wO (ρ[i]?) fun o => wO o fun _ => wM ml ρ Q E := by with_unfolding_all first | exact P0.w_slot | exact P0.w_slot .. | (apply P0.w_slot <;> assumption)
theorem w_callF {Q : D → Env → Prop} (f : Fn) (sl : List Sl) : wM (mCallF f sl ml) ρ Q E = wM ml ρ (fun ds ρ1 => wO (fill sl ds ρ1) fun full => wX (f full) (fun q => wO (put sl q.2 ρ1) fun ρ' => Q q.1 ρ') fun c fs _ => sl.all (fun s => !s.m) = true ∧ E c fs ρ1) E := by with_unfolding_all first | exact P0.w_callF | exact P0.w_callF .. | (apply P0.w_callF <;> assumption)
theorem w_callK {Q : D → Env → Prop} (f : Fn) (ix : List Nat) : wM (mCallK f ix ml) ρ Q E = wM ml ρ (fun ds ρ1 => wX (f (pick ix ds)) (fun q => q.2 = [] ∧ Q q.1 ρ1) fun c fs _ => E c fs ρ1) E := by with_unfolding_all first | exact P0.w_callK | exact P0.w_callK .. | (apply P0.w_callK <;> assumption)
theorem w_app2 {Q : List D → Env → Prop} (mk : M (List D)) : wM (mApp2 ml mk) ρ Q E = wM ml ρ (fun xs ρ1 => wM mk ρ1 (fun ys ρ2 => Q (xs ++ ys) ρ2) E) E := by with_unfolding_all first | exact P0.w_app2 | exact P0.w_app2 .. | (apply P0.w_app2 <;> assumption)
theorem w_part {Q : Option Int → Env → Prop} : wM (mPart m) ρ Q E = wM m ρ (fun d ρ1 => wO (match d with | .int i => some i | _ => none) fun i => Q (some i) ρ1) E := by with_unfolding_all first | exact P0.w_part | exact P0.w_part .. | (apply P0.w_part <;> assumption)
theorem w_noPart {Q : Option Int → Env → Prop} : wM mNoPart ρ Q E = Q none ρ := by with_unfolding_all first | exact P0.w_noPart | exact P0.w_noPart .. | (apply P0.w_noPart <;> assumption)
theorem w_sl {Q : D → Env → Prop} (g : D → Option Int → Option Int → Option D) (l h : M (Option Int)) : wM (mSl g m l h) ρ Q E = wM m ρ (fun x ρ1 => wM l ρ1 (fun l ρ2 => wM h ρ2 (fun h ρ3 => wO (g x l h) fun d => Q d ρ3) E) E) E := by with_unfolding_all first | exact P0.w_sl | exact P0.w_sl .. | (apply P0.w_sl <;> assumption)
theorem w_seqOf {Q : List D → Env → Prop} : wM (mSeqOf m) ρ Q E = wM m ρ (fun d ρ1 => wO (dSeq d) fun ds => Q ds ρ1) E := by with_unfolding_all first | exact P0.w_seqOf | exact P0.w_seqOf .. | (apply P0.w_seqOf <;> assumption)
theorem w_rng {Q : List D → Env → Prop} (g : List D → Option (List D)) : wM (mRng g ml) ρ Q E = wM ml ρ (fun ds ρ1 => wO (g ds) fun xs => Q xs ρ1) E := by with_unfolding_all first | exact P0.w_rng | exact P0.w_rng .. | (apply P0.w_rng <;> assumption)
theorem w_for {Q : Fl → Env → Prop} (tg : Tg) (mb : M Fl) : wM (mFor tg ml mb) ρ Q E = wM ml ρ (fun ds ρ1 => wM (forL tg mb ds) ρ1 Q E) E := by with_unfolding_all first | exact P0.w_for | exact P0.w_for .. | (apply P0.w_for <;> assumption)
theorem w_forL_nil {Q : Fl → Env → Prop} (tg : Tg) (mb : M Fl) : wM (forL tg mb []) ρ Q E = Q .nx ρ := by with_unfolding_all first | exact P0.w_forL_nil | exact P0.w_forL_nil .. | (apply P0.w_forL_nil <;> assumption)
theorem w_forL_cons {Q : Fl → Env → Prop} (tg : Tg) (mb : M Fl) (d : D) (ds : List D) : wM (forL tg mb (d :: ds)) ρ Q E = wO (bindT tg d ρ) fun ρ1 => wM mb ρ1 (fun f ρ2 => match f with
    | .nx => wM (forL tg mb ds) ρ2 Q E
    | .ct => wM (forL tg mb ds) ρ2 Q E
    | .bk => Q .nx ρ2
    | .rt d => Q (.rt d) ρ2) E := by with_unfolding_all first | exact P0.w_forL_cons | exact P0.w_forL_cons .. | (apply P0.w_forL_cons <;> assumption)
theorem w_lc {Q : D → Env → Prop} (tg : Tg) (own : List Nat) (mt : M Bool) : wM (mLc tg own ml mt m) ρ Q E = wM ml ρ (fun ds ρ1 => ds.length ≤ sizeLine ∧ wM (lcL tg own mt m ds []) (wipeE ρ1 own) (fun ys ρ2 => Q (.list ys) (backE ρ1 own ρ2)) E0) E := by with_unfolding_all first | exact P0.w_lc | exact P0.w_lc .. | (apply P0.w_lc <;> assumption)
theorem w_lcL_nil {Q : List D → Env → Prop} (tg : Tg) (own : List Nat) (mt : M Bool) (acc : List D) : wM (lcL tg own mt m [] acc) ρ Q E = Q acc ρ := by with_unfolding_all first | exact P0.w_lcL_nil | exact P0.w_lcL_nil .. | (apply P0.w_lcL_nil <;> assumption)
theorem w_lcL_cons {Q : List D → Env → Prop} (tg : Tg) (own : List Nat) (mt : M Bool) (d : D) (ds acc : List D) : wM (lcL tg own mt m (d :: ds) acc) ρ Q E = wO (bindT tg d ρ) fun ρ1 => wM mt ρ1 (fun b ρ2 => wIf b (wM m ρ2 (fun x ρ3 => wM (lcL tg own mt m ds (acc ++ [x])) (wipeE ρ3 own) Q E) E0) (wM (lcL tg own mt m ds acc) (wipeE ρ2 own) Q E)) E0 := by with_unfolding_all first | exact P0.w_lcL_cons | exact P0.w_lcL_cons .. | (apply P0.w_lcL_cons <;> assumption)
theorem w_app {Q : D → Env → Prop} (i : Nat) : wM (mApp i m) ρ Q E = wO (lstAt ρ i) fun _ => wM m ρ (fun d ρ1 => wO (lstAt ρ1 i) fun ds => ds.length < sizeLine ∧ Q .none (ρ1.set i (some (.list (ds ++ [d]))))) E := by with_unfolding_all first | exact P0.w_app | exact P0.w_app .. | (apply P0.w_app <;> assumption)
theorem w_ixO {Q : D → Env → Prop} (i : Nat) : wM (mIxO i m) ρ Q E = wO (lstAt ρ i) fun _ => wM m ρ (fun d ρ1 => wO (lstAt ρ1 i) fun ds => wO (gIx (.list ds) d) fun d => Q d ρ1) E := by with_unfolding_all first | exact P0.w_ixO | exact P0.w_ixO .. | (apply P0.w_ixO <;> assumption)
theorem w_lenO {Q : D → Env → Prop} (i : Nat) : wM (mLenO i) ρ Q E = wO (lstAt ρ i) fun ds => Q (.int ds.length) ρ := by with_unfolding_all first | exact P0.w_lenO | exact P0.w_lenO .. | (apply P0.w_lenO <;> assumption)
theorem w_popAt {Q : D → Env → Prop} (i : Nat) : wM (mPopAt i m) ρ Q E = wO (lstAt ρ i) fun _ => wM m ρ (fun d ρ1 => wO (lstAt ρ1 i) fun ds => wO (popI ds d) fun p => Q p.1 (ρ1.set i (some (.list p.2)))) E := by with_unfolding_all first | exact P0.w_popAt | exact P0.w_popAt .. | (apply P0.w_popAt <;> assumption)
theorem w_setIx {Q : Fl → Env → Prop} (i : Nat) : wM (mSetIx i ma mb) ρ Q E = wM ma ρ (fun d ρ1 => wO (lstAt ρ1 i) fun _ => wM mb ρ1 (fun k ρ2 => wO (lstAt ρ2 i) fun ds => wO (setI ds d k) fun l => Q .nx (ρ2.set i (some (.list l)))) E) E := by with_unfolding_all first | exact P0.w_setIx | exact P0.w_setIx .. | (apply P0.w_setIx <;> assumption)
theorem w_aug {Q : Fl → Env → Prop} (g : Int → Int → Int) (i : Nat) : wM (mAug g i m) ρ Q E = wO (ρ[i]?) fun o => wO o fun k => wO (match k with | .int k => some k | _ => none) fun k => wM m ρ (fun d ρ1 => wO (match d with | .int j => some j | _ => none) fun j => Q .nx (ρ1.set i (some (.int (g k j))))) E := by with_unfolding_all first | exact P0.w_aug | exact P0.w_aug .. | (apply P0.w_aug <;> assumption)
theorem w_par2 {Q : Fl → Env → Prop} (i j : Nat) : wM (mPar [i, j] (mCons ma (mCons mb mNil))) ρ Q E = wM ma ρ (fun x ρ1 => wM mb ρ1 (fun y ρ2 => Q .nx ((ρ2.set i (some x)).set j (some y))) E) E := by with_unfolding_all first | exact P0.w_par2 | exact P0.w_par2 .. | (apply P0.w_par2 <;> assumption)
theorem w_par3 {Q : Fl → Env → Prop} (i j k : Nat) : wM (mPar [i, j, k] (mCons ma (mCons mb (mCons mc mNil)))) ρ Q E = wM ma ρ (fun x ρ1 => wM mb ρ1 (fun y ρ2 => wM mc ρ2 (fun z ρ3 => Q .nx (((ρ3.set i (some x)).set j (some y)).set k (some z))) E) E) E := by with_unfolding_all first | exact P0.w_par3 | exact P0.w_par3 .. | (apply P0.w_par3 <;> assumption)
theorem w_mbind {Q : Fl → Env → Prop} (tg : Tg) : wM (mBind tg m) ρ Q E = wM m ρ (fun d ρ1 => wO (bindT tg d ρ1) fun ρ2 => Q .nx ρ2) E := by with_unfolding_all first | exact P0.w_mbind | exact P0.w_mbind .. | (apply P0.w_mbind <;> assumption)
theorem w_chain {Q : D → Env → Prop} (g g' : D → D → Option D) : wM (mChain g g' ma mb mc) ρ Q E = wM ma ρ (fun x ρ1 => wM mb ρ1 (fun y ρ2 => wO (g x y) fun k => wO (match k with | .bool b => some b | _ => none) fun b => wIf b (wM mc ρ2 (fun z ρ3 => wO (g' y z) fun d => Q d ρ3) E) (Q (.bool false) ρ2)) E) E := by with_unfolding_all first | exact P0.w_chain | exact P0.w_chain .. | (apply P0.w_chain <;> assumption)
theorem wX_runF {ro : Bool} {n : Nat} {Ps : List Nat} {m : M Fl} {ds : List D} {Q : D × List D → Prop} : wX (runF ro n Ps m ds) Q E = wM m (startE n ds) (fun f ρ => match f with
    | .rt d => wO (outs Ps ρ) fun es => Q (d, es)
    | .nx => ro = false ∧ wO (outs Ps ρ) fun es => Q (.none, es)
    | _ => False) (fun c fs _ => Ps = [] ∧ E c fs []) := by with_unfolding_all first | exact P0.wX_runF | exact P0.wX_runF .. | (apply P0.wX_runF <;> assumption)
end
end VL
end

section
set_option Elab.async false
set_option linter.all false
set_option maxRecDepth 100000
set_option maxHeartbeats 4000000
namespace VL
open PySem PySem.Spec PyProof.Rows L2
set_option autoImplicit false
section
variable {xs ys : List D} {ρ : Env} {i j : Int} {b : Bool} {s : Str} {d : D} {n : Nat}
theorem lstAt_0 : lstAt (some (.list xs) :: ρ) 0 = some xs := rfl
theorem lstAt_s {o : Option D} : lstAt (o :: ρ) (n + 1) = lstAt ρ n := rfl
theorem cLst_l : cLst [.list xs] = some (.list xs) := rfl
theorem cLst_t : cLst [.tuple xs] = some (.list xs) := rfl
theorem cTup_l : cTup [.list xs] = some (.tuple xs) := rfl
theorem cTup_t : cTup [.tuple xs] = some (.tuple xs) := rfl
theorem cLen_l : cLen [.list xs] = some (.int xs.length) := rfl
theorem cLen_t : cLen [.tuple xs] = some (.int xs.length) := rfl
theorem cLen_s : cLen [.str s] = if s.length ≤ sizeLine then some (.int s.length) else none := rfl
theorem cInt_i : cInt [.int i] = some (.int i) := rfl
theorem cInt_b : cInt [.bool b] = some (.int (if b then 1 else 0)) := rfl
theorem cAbs_i : cAbs [.int i] = some (.int (if i < 0 then -i else i)) := rfl
theorem cMin2_i : cMin2 [.int i, .int j] = some (.int (if j < i then j else i)) := rfl
theorem cMax2_i : cMax2 [.int i, .int j] = some (.int (if j > i then j else i)) := rfl
theorem gNeg_i : gNeg (.int i) = some (.int (-i)) := rfl
theorem gIx_l : gIx (.list xs) (.int i) = atI xs i := rfl
theorem gIx_t : gIx (.tuple xs) (.int i) = atI xs i := rfl
theorem setI_i : setI xs d (.int i) = (ixN xs.length i).map fun j => xs.set j d := rfl
theorem popI_i (h : -(2 ^ 63) ≤ i ∧ i < 2 ^ 63) : popI xs (.int i) = (seqIndex? i xs.length).bind fun j => (xs[j]?).map fun d => (d, xs.eraseIdx j) := if_pos h
theorem dSeq_l : dSeq (.list xs) = some xs := rfl
theorem dSeq_t : dSeq (.tuple xs) = some xs := rfl
theorem dSeq_s : dSeq (.str s) = some (s.cps.toList.map fun c => .str ⟨#[c]⟩) := rfl
theorem cEnum_l : cEnum [.list xs] = some (enumL 0 xs) := rfl
theorem cZip_l : cZip [.list xs, .list ys] = some (zipL xs ys) := rfl
theorem cZip_t : cZip [.tuple xs, .tuple ys] = some (zipL xs ys) := rfl
theorem tr_b : dTruth (.bool b) = some b := rfl
theorem tr_i : dTruth (.int i) = some (i != 0) := rfl
theorem tr_l : dTruth (.list xs) = some (!xs.isEmpty) := rfl
theorem tr_t : dTruth (.tuple xs) = some (!xs.isEmpty) := rfl
theorem tr_n : dTruth .none = some false := rfl
theorem gIs_n : gIs d .none = some (.bool (isN d)) := rfl
theorem gIsn_n : gIsn d .none = some (.bool (!isN d)) := rfl
theorem gSl_l {lo hi : Option Int} : gSl (.list xs) lo hi = some (.list (cutD xs lo hi)) := rfl
theorem gSl_t {lo hi : Option Int} : gSl (.tuple xs) lo hi = some (.tuple (cutD xs lo hi)) := rfl
theorem gSl_scr {lo hi : Option Int} : gSl (scr xs) lo hi = some (.list (cutD xs lo hi)) := rfl
theorem sizeLine_ge : 100000 ≤ sizeLine := by rw [PySem.sizeLine_eq]; omega
theorem gAdd_l (h : xs.length + ys.length ≤ 100000) : gAdd (.list xs) (.list ys) = some (.list (xs ++ ys)) := if_pos (Nat.le_trans h sizeLine_ge)
theorem gAdd_t (h : xs.length + ys.length ≤ 100000) : gAdd (.tuple xs) (.tuple ys) = some (.tuple (xs ++ ys)) := if_pos (Nat.le_trans h sizeLine_ge)
theorem le_size (h : n ≤ 100000) : n ≤ sizeLine := Nat.le_trans h sizeLine_ge
theorem le_sizeP (h : n ≤ 100000) : (n ≤ sizeLine) = True := eq_true (le_size h)
theorem lt_sizeP (h : n < 100000) : (n < sizeLine) = True := eq_true (Nat.lt_of_lt_of_le h sizeLine_ge)
theorem gPow_i (h : 0 ≤ j ∧ j ≤ 1000000 ∧ i.natAbs < 2 ^ 64) : gPow (.int i) (.int j) = some (.int (i ^ j.toNat)) := if_pos h
/-! isinstance -/
def kindS : D → String
  | .none => "NoneType"
  | .bool _ => "bool"
  | .int _ => "int"
  | .str _ => "str"
  | .list _ => "list"
  | .tuple _ => "tuple"
  | .dict _ => "dict"
end
end VL
end

section
set_option Elab.async false
set_option linter.all false
namespace VL
open PySem
section
variable {b : Bool} {i : Int} {s : Str} {xs : List D}
theorem isi_int_non : gIsi "int" .none = some (.bool false) := rfl
theorem isi_int_bl : gIsi "int" (.bool b) = some (.bool true) := rfl
theorem isi_int_int : gIsi "int" (.int i) = some (.bool true) := rfl
theorem isi_int_str : gIsi "int" (.str s) = some (.bool false) := rfl
theorem isi_int_lst : gIsi "int" (.list xs) = some (.bool false) := rfl
theorem isi_int_tup : gIsi "int" (.tuple xs) = some (.bool false) := rfl
theorem isi_str_non : gIsi "str" .none = some (.bool false) := rfl
theorem isi_str_bl : gIsi "str" (.bool b) = some (.bool false) := rfl
theorem isi_str_int : gIsi "str" (.int i) = some (.bool false) := rfl
theorem isi_str_str : gIsi "str" (.str s) = some (.bool true) := rfl
theorem isi_str_lst : gIsi "str" (.list xs) = some (.bool false) := rfl
theorem isi_str_tup : gIsi "str" (.tuple xs) = some (.bool false) := rfl
theorem isi_bool_non : gIsi "bool" .none = some (.bool false) := rfl
theorem isi_bool_bl : gIsi "bool" (.bool b) = some (.bool true) := rfl
theorem isi_bool_int : gIsi "bool" (.int i) = some (.bool false) := rfl
theorem isi_bool_str : gIsi "bool" (.str s) = some (.bool false) := rfl
theorem isi_bool_lst : gIsi "bool" (.list xs) = some (.bool false) := rfl
theorem isi_bool_tup : gIsi "bool" (.tuple xs) = some (.bool false) := rfl
theorem isi_list_non : gIsi "list" .none = some (.bool false) := rfl
theorem isi_list_bl : gIsi "list" (.bool b) = some (.bool false) := rfl
theorem isi_list_int : gIsi "list" (.int i) = some (.bool false) := rfl
theorem isi_list_str : gIsi "list" (.str s) = some (.bool false) := rfl
theorem isi_list_lst : gIsi "list" (.list xs) = some (.bool true) := rfl
theorem isi_list_tup : gIsi "list" (.tuple xs) = some (.bool false) := rfl
theorem isi_tuple_non : gIsi "tuple" .none = some (.bool false) := rfl
theorem isi_tuple_bl : gIsi "tuple" (.bool b) = some (.bool false) := rfl
theorem isi_tuple_int : gIsi "tuple" (.int i) = some (.bool false) := rfl
theorem isi_tuple_str : gIsi "tuple" (.str s) = some (.bool false) := rfl
theorem isi_tuple_lst : gIsi "tuple" (.list xs) = some (.bool false) := rfl
theorem isi_tuple_tup : gIsi "tuple" (.tuple xs) = some (.bool true) := rfl
theorem isi_dict_non : gIsi "dict" .none = some (.bool false) := rfl
theorem isi_dict_bl : gIsi "dict" (.bool b) = some (.bool false) := rfl
theorem isi_dict_int : gIsi "dict" (.int i) = some (.bool false) := rfl
theorem isi_dict_str : gIsi "dict" (.str s) = some (.bool false) := rfl
theorem isi_dict_lst : gIsi "dict" (.list xs) = some (.bool false) := rfl
theorem isi_dict_tup : gIsi "dict" (.tuple xs) = some (.bool false) := rfl
theorem isi_list_tuple_non : gIsi2 "list" "tuple" .none = some (.bool false) := rfl
theorem isi_list_tuple_bl : gIsi2 "list" "tuple" (.bool b) = some (.bool false) := rfl
theorem isi_list_tuple_int : gIsi2 "list" "tuple" (.int i) = some (.bool false) := rfl
theorem isi_list_tuple_str : gIsi2 "list" "tuple" (.str s) = some (.bool false) := rfl
theorem isi_list_tuple_lst : gIsi2 "list" "tuple" (.list xs) = some (.bool true) := rfl
theorem isi_list_tuple_tup : gIsi2 "list" "tuple" (.tuple xs) = some (.bool true) := rfl
theorem isi_bool_str_non : gIsi2 "bool" "str" .none = some (.bool false) := rfl
theorem isi_bool_str_bl : gIsi2 "bool" "str" (.bool b) = some (.bool true) := rfl
theorem isi_bool_str_int : gIsi2 "bool" "str" (.int i) = some (.bool false) := rfl
theorem isi_bool_str_str : gIsi2 "bool" "str" (.str s) = some (.bool true) := rfl
theorem isi_bool_str_lst : gIsi2 "bool" "str" (.list xs) = some (.bool false) := rfl
theorem isi_bool_str_tup : gIsi2 "bool" "str" (.tuple xs) = some (.bool false) := rfl
end
end VL
end

section
set_option Elab.async false
set_option linter.all false
set_option maxRecDepth 100000
set_option maxHeartbeats 4000000
namespace VL
open PySem PySem.Spec PyProof.Rows L2
set_option autoImplicit false
/-! ### sets of ints and texts -/
def keyM (v : Value) : Key := match v with
  | .int k _ => .inl k
  | .str x _ => .inr x
  | _ => .inl 0
def GoodM (P : Program) (w : World) (e : Int × Value) : Prop := (mixKind P w).is (keyM e.2) e.2 = true ∧ e.1 = (mixKind P w).hash (keyM e.2) ∧ e.2.scannable = true
abbrev ksOf (es : Array (Int × Value)) : List Key := es.toList.map fun e => keyM e.2
/-- at a lies a set whose members are S -/
def SetM (P : Program) (w : World) (h : Heap) (a : Addr) (S : List Key) : Prop :=
  ∃ o es ep t, h.get? a = some o ∧ o.ExactSet ∧ o.data = .set es ep t ∧ ((∀ e ∈ es.toList, GoodM P w e) ∧ (ksOf es).Nodup ∧ (∀ k, k ∈ S ↔ k ∈ ksOf es) ∧ es.size < scanBound) ∧ t.fits es.size = true ∧ Ris t.place.toList ∧ (w.params.followText "set-order" = true ∨ t.led = true)
section
variable {P : Program} {w : World} {A : Around} {E : Value → Shared → Prop} {s : Shared} {a : Addr} {S : List Key}
theorem keyM_is {k : Key} {v : Value} (h : (mixKind P w).is k v = true) : keyM v = k := by
  rcases keyIs_shape (show keyIs k v = true from h) with ⟨i, t, rfl, rfl⟩ | ⟨x, t, rfl, rfl⟩ <;> rfl
theorem keyM_scan {k : Key} {v : Value} (h : (mixKind P w).is k v = true) : v.scannable = true := by
  rcases keyIs_shape (show keyIs k v = true from h) with ⟨i, t, rfl, rfl⟩ | ⟨x, t, rfl, rfl⟩ <;> rfl
theorem goodM_of {k : Key} {v : Value} (h : (mixKind P w).is k v = true) : GoodM P w ((mixKind P w).hash k, v) := by
  have e := keyM_is h
  refine ⟨?_, ?_, keyM_scan h⟩
  · show (mixKind P w).is (keyM v) v = true; rw [e]; exact h
  · show (mixKind P w).hash k = (mixKind P w).hash (keyM v); rw [e]
theorem elemsM {l : List (Int × Value)} (g : ∀ e ∈ l, GoodM P w e) : ElemsOf (mixKind P w) l := fun e he => ⟨⟨keyM e.2, (g e he).1, (g e he).2.1⟩, (g e he).2.2⟩
theorem SetM.at {h h' : Heap} (R : SetM P w h a S) (k : ∀ o, h.get? a = some o → h'.get? a = some o) : SetM P w h' a S := by
  obtain ⟨o, es, ep, t, ho, r⟩ := R
  exact ⟨o, es, ep, t, k o ho, r⟩
theorem SetM.congr {h : Heap} {S' : List Key} (R : SetM P w h a S) (e : ∀ k, k ∈ S' ↔ k ∈ S) : SetM P w h a S' := by
  obtain ⟨o, es, ep, t, ho, h1, h2, ⟨h3, h4, h5, h6⟩, r⟩ := R
  exact ⟨o, es, ep, t, ho, h1, h2, ⟨h3, h4, fun k => (e k).trans (h5 k), h6⟩, r⟩
/-- what is laid, maybe laid anew -/
theorem layM {g : Bool → Sem Unit} (hg : ∀ (b : Bool) (s₁ : Shared) (Q' : Unit → Shared → Prop), Q' () s₁ → wpAny (model P w) A (g b) Q' E s₁) {o : Obj} {es : Array (Int × Value)} {ep : Nat} {t : SetTable} (ho : s.heap.get? a = some o) (hex : o.ExactSet) (hd : o.data = .set es ep t)
    {es1 : Array (Int × Value)} {t2 : SetTable} (H : (∀ e ∈ es1.toList, GoodM P w e) ∧ (ksOf es1).Nodup ∧ (∀ k, k ∈ S ↔ k ∈ ksOf es1) ∧ es1.size < scanBound) (hf2 : t2.fits es1.size = true) (hr : Ris t2.place.toList) (hl : w.params.followText "set-order" = true ∨ t2.led = true) {wasDummy : Bool} {R : Option Bool → Shared → Prop}
    (hR : ∀ h', Heap.SameBut a s.heap h' → SetM P w h' a S → R (some true) { s with heap := h' }) :
    wpAny (model P w) A (do
        storeSet a es1 t2
        if (!wasDummy && t2.tooFull) = true then do
            g (relayAll t2 es1 (SetTable.grown es1.size)).2.2
            storeSet a (relayAll t2 es1 (SetTable.grown es1.size)).1 (relayAll t2 es1 (SetTable.grown es1.size)).2.1
            pure (some true)
          else pure (some true)) R E s := by
  obtain ⟨H1, H2, H3, H4⟩ := H
  have z1 : es1.size ≤ sizeLine := fits_of_scanBound H4
  refine wpAny_bind (wpAny_storeSet_of ho hd ?_ z1)
  have o1 := store_at (es' := es1) (t' := t2) ho hd
  have b1 := Heap.SameBut.update s.heap a (Obj.putSet es1 t2)
  by_cases hc : (!wasDummy && t2.tooFull) = true
  · rw [if_pos hc]
    have q1 := relayAll_perm t2 es1 (SetTable.grown es1.size)
    have q2 := relayAll_fits t2 es1 (SetTable.grown es1.size)
    have q3 := relayAll_ris t2 es1 (SetTable.grown es1.size)
    have q4 := relayAll_led t2 es1 (SetTable.grown es1.size)
    revert q1 q2 q3 q4
    generalize relayAll t2 es1 (SetTable.grown es1.size) = Z
    obtain ⟨es2, t3, gave⟩ := Z
    intro q1 q2 q3 q4
    have n2 : es2.size = es1.size := by
      have := q1.length_eq
      rwa [Array.length_toList, Array.length_toList] at this
    have H4' : es2.size < scanBound := by omega
    refine wpAny_bind (hg _ _ _ (wpAny_bind (wpAny_storeSet_of o1 rfl ?_ (fits_of_scanBound H4'))))
    refine wpAny_pure (hR _ (b1.trans (Heap.SameBut.update _ a _)) ⟨_, es2, _, t3, store_at (es' := es2) (t' := t3) o1 rfl, hex, rfl, ⟨fun e he => H1 e (q1.mem_iff.mp he), (q1.map _).nodup_iff.mpr H2, fun k => (H3 k).trans (q1.map _).mem_iff.symm, H4'⟩, q2, q3, ?_⟩)
    exact hl.imp id fun z => q4.trans z
  · rw [if_neg hc]
    exact wpAny_pure (hR _ b1 ⟨_, es1, _, t2, o1, hex, rfl, ⟨H1, H2, H3, H4⟩, hf2, hr, hl⟩)
/-- one more -/
theorem addM {k : Key} {v : Value} {Q : Bool → Shared → Prop} (hv : (mixKind P w).is k v = true) (R : SetM P w s.heap a S) (room : S.length + 1 < scanBound) (nd : S.Nodup)
    (hQ1 : k ∈ S → ∀ h', Heap.SameBut a s.heap h' → SetM P w h' a S → Q false { s with heap := h' }) (hQ2 : k ∉ S → ∀ h', Heap.SameBut a s.heap h' → SetM P w h' a (k :: S) → Q true { s with heap := h' }) :
    wpAny (model P w) A (setAddHashed a v ((mixKind P w).hash k)) Q E s := by
  obtain ⟨o, es, ep, t, ho, hex, hd, ⟨H1, H2, H3, H4⟩, hf, hr, hl⟩ := R
  have sc : v.scannable = true := keyM_scan hv
  have el : ElemsOf (mixKind P w) es.toList := elemsM H1
  have pm : S.Perm (ksOf es) := (List.perm_ext_iff_of_nodup nd H2).mpr H3
  have sz : es.size = S.length := by
    rw [pm.length_eq, List.length_map, Array.length_toList]
  unfold setAddHashed setAddHashedIn
  refine wpAny_holding (wpAny_bind (wpAny_setState_of ho hd hf ?_))
  dsimp only
  rw [byScan_of sc H4 el]
  simp only [↓reduceIte]
  unfold setAddByScan
  refine wpAny_bind (wpAny_bind (wpAny_rule (wpAny_bind (wpAny_setScan_of hv ho hd hf el ?_))))
  cases hfi : List.findIdx? (fun e => (mixKind P w).is k e.2) es.toList with
  | some j =>
    dsimp only
    obtain ⟨hj, pj, _⟩ := List.findIdx?_eq_some_iff_getElem.mp hfi
    have hin : k ∈ S := (H3 k).mpr (List.mem_map.mpr ⟨es.toList[j], List.getElem_mem hj, keyM_is pj⟩)
    have q := hQ1 hin s.heap (Heap.SameBut.refl a s.heap)
    exact wpAny_pure (wpAny_pure (q ⟨o, es, ep, t, ho, hex, hd, ⟨H1, H2, H3, H4⟩, hf, hr, hl⟩))
  | none =>
    dsimp only
    have hnk : k ∉ ksOf es := fun z => by
      obtain ⟨e, he, q⟩ := List.mem_map.mp z
      have c := List.findIdx?_eq_none_iff.mp hfi e he
      have g := (H1 e he).1
      rw [q, c] at g
      cases g
    have hno : k ∉ S := fun z => hnk ((H3 k).mp z)
    have hgw : ∀ (b : Bool) {s₁ : Shared} {Q' : Unit → Shared → Prop}, Q' () s₁ → wpAny (model P w) A (match b with | true => rule "set.scan.the-table-gave-way" | false => pure ()) Q' E s₁ :=
      fun b s₁ Q' q => by cases b <;> first | exact wpAny_pure q | exact wpAny_rule q
    have p1 := layNew_perm t es ((mixKind P w).hash k) v
    have p2 := layNew_fits t es ((mixKind P w).hash k) v
    have p3 := layNew_ris t es ((mixKind P w).hash k) v hr
    have p4 := layNew_led t es ((mixKind P w).hash k) v
    generalize layNew t es ((mixKind P w).hash k) v = Z at p1 p2 p3 p4 ⊢
    obtain ⟨es1, t1, wasDummy, gave⟩ := Z
    dsimp only at p1 p2 p3 p4 ⊢
    rw [Array.toList_push] at p1
    have pc : es1.toList.Perm (((mixKind P w).hash k, v) :: es.toList) := p1.trans (List.perm_append_singleton _ _)
    have pk : (ksOf es1).Perm (k :: ksOf es) := by
      have := pc.map fun e => keyM e.2
      rw [List.map_cons, show keyM ((mixKind P w).hash k, v).2 = k from keyM_is hv] at this
      exact this
    have G1 : ∀ e ∈ es1.toList, GoodM P w e := fun e he => by
      rcases List.mem_cons.mp (pc.mem_iff.mp he) with z | z
      · rw [z]; exact goodM_of hv
      · exact H1 e z
    have G2 : (ksOf es1).Nodup := pk.nodup_iff.mpr (List.nodup_cons.mpr ⟨hnk, H2⟩)
    have G3 : ∀ i, i ∈ (k :: S) ↔ i ∈ ksOf es1 := fun i => by
      rw [pk.mem_iff, List.mem_cons, List.mem_cons, H3 i]
    have G4 : es1.size < scanBound := by
      have := pc.length_eq
      rw [Array.length_toList, List.length_cons, Array.length_toList] at this
      omega
    have G5 : w.params.followText "set-order" = true ∨ t1.led = true := hl.imp id fun z => p4.trans z
    have fin := hQ2 hno
    refine wpAny_bind (hgw _ ?_)
    split
    · refine wpAny_bind ?_
      rw [hashByValue_scannable 8 sc]
      refine wpAny_pure ?_
      refine layM (S := k :: S) ?_ ho hex hd ⟨G1, G2, G3, G4⟩ ?_ ?_ ?_ ?_
      · intro b s₁ Q' q; cases b <;> first | exact wpAny_pure q | exact wpAny_rule q
      · first | (split <;> first | exact p2 | exact SetTable.fits_plain_off p2) | exact p2
      · first | (split <;> exact p3) | exact p3
      · first | (split <;> exact G5) | exact G5
      · intro h' sb r; dsimp only; exact wpAny_pure (fin h' sb r)
    · refine wpAny_bind (wpAny_pure ?_)
      simp only [↓reduceIte]
      refine layM (S := k :: S) ?_ ho hex hd ⟨G1, G2, G3, G4⟩ p2 p3 G5 ?_
      · intro b s₁ Q' q; cases b <;> first | exact wpAny_pure q | exact wpAny_rule q
      · intro h' sb r; dsimp only; exact wpAny_pure (fin h' sb r)
end
end VL
end

section
set_option Elab.async false
set_option linter.all false
set_option maxRecDepth 100000
set_option maxHeartbeats 4000000
namespace VL
open PySem PySem.Spec PyProof.Rows L2
set_option autoImplicit false
/-! ### set(xs), by a theory of its members -/
abbrev Sub0 (h0 h : Heap) : Prop := ∀ b o, h0.get? b = some o → h.get? b = some o
/-- how members of sets are: R h0 h a ks says that at a lies (in h) the set of ks, whose values lie in h0; is h0 k v that v is the key k -/
structure SetTh (P : Program) (w : World) (ok : Around → Prop) (κ : Type) where
  R : Heap → Heap → Addr → List κ → Prop
  is : Heap → κ → Value → Prop
  most : Nat
  frame : ∀ {h0 h h' : Heap} {a : Addr} {ks : List κ}, R h0 h a ks → (∀ o, h.get? a = some o → h'.get? a = some o) → Sub0 h0 h' → R h0 h' a ks
  new : ∀ {h0 h : Heap} {a : Addr}, h.get? a = some { cls := .type "set", dict := none, data := .set #[] 0 (.fresh 0 0 (!w.params.followText "set-order")) } → R h0 h a []
  add : ∀ {A : Around} {E : Value → Shared → Prop} {s : Shared} {a : Addr} {ks : List κ} {k : κ} {v : Value} {Q : Bool → Shared → Prop} {h0 : Heap}, ok A → Sub0 h0 s.heap → h0.get? a = none → R h0 s.heap a ks → is h0 k v → ks.Nodup → ks.length + 1 < most →
    (∀ b h' tk ks', s.toks ≤ tk → Heap.SameBut a s.heap h' → R h0 h' a ks' → ks'.Nodup → (∀ x, x ∈ ks' ↔ x = k ∨ x ∈ ks) → ks'.length ≤ ks.length + 1 → Q b { s with heap := h', toks := tk }) → wpAny (model P w) A (setAdd a v) Q E s
section
variable {P : Program} {w : World} {A : Around} {E : Value → Shared → Prop} {s : Shared} {ok : Around → Prop} {κ : Type}
theorem loopA (T : SetTh P w ok κ) {I : Addr} {fp wr : List Addr} {G : Array GenState → Array GenState → Prop} {n : Nat} {Pv : Nat → Value → Prop} {St : Nat → Shared → Prop} {Z : Result → Shared → Prop} (hok : ok A.in1) (W : WalksS P w A.in1 I fp wr G n Pv St) (S : Addr) (hSf : S ∉ fp) (h0 : Heap) (hS0 : h0.get? S = none) (hw0 : ∀ b o, h0.get? b = some o → b ∉ wr)
    (ks : List κ) (hn : n = ks.length) (hb : ks.length + 1 < T.most) (hval : ∀ i v, Pv i v → ∃ k, ks[i]? = some k ∧ T.is h0 k v) :
    ∀ (q i : Nat) (s : Shared), n - i = q → i ≤ n → St i s → Sub0 h0 s.heap → (∃ m : List κ, m.Nodup ∧ m.length ≤ i ∧ (∀ x, x ∈ m ↔ x ∈ ks.take i) ∧ T.R h0 s.heap S m) →
      (∀ s' m, Moved (S :: wr) G s s' → m.Nodup → m.length ≤ n → (∀ x, x ∈ m ↔ x ∈ ks) → T.R h0 s'.heap S m → Z (.ok (.ret .none)) s') →
      codeAny (model P w) A (.builtin "set.update.loop" ⟨[.ref S, .ref I], []⟩) Z s := by
  have nw : S ∉ wr := fun h => hSf (W.sub _ h)
  have sub : ∀ b ∈ wr, b ∈ S :: wr := fun b hb => List.mem_cons_of_mem _ hb
  have olds : ∀ {s s' : Shared}, Moved wr G s s' → Sub0 h0 s.heap → Sub0 h0 s'.heap := fun mv hold b o e => mv.heap b o (hw0 b o e) (hold b o e)
  intro q
  induction q with
  | zero =>
    rintro i s hq hi hst hold ⟨m, m1, m2, m3, m4⟩ hZ
    obtain rfl : i = n := by omega
    refine codeAny_builtin F.entry_set_update_loop ?_
    rw [Around.under_plainId F.plain_set_update_loop _]
    show wpAny _ A.in1 (pyNext (.ref I) >>= _) _ _ s
    refine wpAny_bind (W.done s _ _ hst fun s' mv => ?_)
    show wpAny _ A.in1 (ret Value.none) _ _ s'
    rw [List.take_of_length_le (by omega)] at m3
    exact wpAny_pure (hZ s' m (mv.mono sub) m1 m2 m3 (T.frame m4 (fun o e => mv.heap S o nw e) (olds mv hold)))
  | succ q ih =>
    rintro i s hq hi hst hold ⟨m, m1, m2, m3, m4⟩ hZ
    have hlt : i < n := by omega
    refine codeAny_builtin F.entry_set_update_loop ?_
    rw [Around.under_plainId F.plain_set_update_loop _]
    show wpAny _ A.in1 (pyNext (.ref I) >>= _) _ _ s
    refine wpAny_bind (W.item i s _ _ hlt hst fun v s' hP hst' mv => ?_)
    obtain ⟨k, hk, hv⟩ := hval i v hP
    show wpAny _ A.in1 (holding [v] (setAdd S v) >>= _) _ _ s'
    refine wpAny_bind (wpAny_holding ?_)
    have hold' := olds mv hold
    refine T.add hok hold' hS0 (T.frame m4 (fun o e => mv.heap S o nw e) hold') hv m1 (by omega) fun b h' tk m' htk hsb r1 r2 r3 r4 => ?_
    have hm3 : ∀ x, x ∈ m' ↔ x ∈ ks.take (i + 1) := fun x => by
      rw [r3 x, m3 x, List.take_add_one, hk, List.mem_append]
      simp only [Option.toList, List.mem_singleton]
      exact Or.comm
    have keep : ∀ b o, b ≠ S → s'.heap.get? b = some o → h'.get? b = some o := fun b o hne e => by rw [hsb.2 b hne]; exact e
    refine wpAny_pure ⟨plainId_quiet F.plain_set_update_loop _, ih (i + 1) _ (by omega) hlt (W.frame _ s' _ _ hst' htk fun b hb o e => keep b o (fun h : b = S => hSf (by rw [← h]; exact hb)) e) (fun b o e => keep b o (fun h : b = S => by rw [h, hS0] at e; cases e) (hold' b o e)) ⟨m', r2, by omega, hm3, r1⟩ fun s'' m'' mv'' => ?_⟩
    refine hZ s'' m'' (Moved.trans W.gtrans ((mv.mono sub).then_heap htk fun b o hb e => ?_) mv'')
    exact keep b o (fun h : b = S => hb (by rw [h]; exact List.mem_cons_self)) e
end
end VL
end

section
set_option Elab.async false
set_option linter.all false
set_option maxRecDepth 100000
set_option maxHeartbeats 8000000
namespace VL
open PySem PySem.Spec PyProof.Rows L2
set_option autoImplicit false
section
variable {P : Program} {w : World} {A : Around} {E : Value → Shared → Prop} {s : Shared} {ok : Around → Prop} {κ : Type}
abbrev newS (w : World) : Obj := { cls := .type "set", dict := none, data := .set #[] 0 (.fresh 0 0 (!w.params.followText "set-order")) }
/-- what set(xs) hands on -/
def AfterSet (T : SetTh P w ok κ) (s : Shared) (ks : List κ) (Q : Value → Shared → Prop) : Prop :=
  ∀ (h' : Heap) (tk : Nat) (m : List κ), m.Nodup → m.length ≤ ks.length → (∀ x, x ∈ m ↔ x ∈ ks) → T.R s.heap h' s.heap.objs.size m → Sub0 s.heap h' → Q (.ref s.heap.objs.size) { s with heap := h', toks := tk }
theorem call_setA (T : SetTh P w ok κ) {l : Addr} {items : Array Value} (ks : List κ) {Q : Value → Shared → Prop} (hh : A.handled = none) (hok : ok A.in1.in1.in1) (hl : s.heap.IsList l items) (hn : items.size = ks.length) (hb : ks.length + 1 < T.most) (hval : ∀ (i : Nat) (v : Value), items[i]? = some v → ∃ k, ks[i]? = some k ∧ T.is s.heap k v)
    (h : AfterSet T s ks Q) : wpAny (model P w) A (call (.type "set") [.ref l]) Q E s := by
  obtain ⟨c, tl, hmro⟩ := F.called_set.mro
  have hmade := F.called_set.made
  have hsub := F.called_set.sub
  refine wpAny_call (codeAny_of_tree ?_)
  show wpAny _ _ (callAny (.type "set") _) _ _ _
  refine wpAny_pure ⟨Code.quiet_builtin _ (by decide +kernel), codeAny_builtin F.entry_type_call ?_⟩
  rw [Around.under_plain (weight_type_call_type "set" [.ref l] []) rfl]
  have h1 := F.called_set.notType
  have h2 := F.called_set.canCreate
  have hct := F.typeCall_set_1 (.ref l)
  repeat (any_goals (first | assumption | wp_step))
  refine codeAny_mono (code_set_led1 (.ref l) (E := E) (Q₁ := fun obj s₁ => obj = .ref s.heap.objs.size ∧ s₁ = { s with heap := s.heap.push (newS w) }) ⟨rfl, rfl⟩) fun r s₁ hr => ?_
  cases r with
  | error e => exact hr
  | ok fl =>
    cases fl with
    | ret obj =>
      obtain ⟨rfl, rfl⟩ := hr
      have hS : (s.heap.push (newS w)).get? s.heap.objs.size = some (newS w) := Heap.get?_push_size _ rfl
      have hT : Shared.TypeIs { s with heap := s.heap.push (newS w) } (.ref s.heap.objs.size) "set" := ⟨_, hS, rfl⟩
      have hli := F.called_set.init.lookup
      have hbi := F.called_set.init.bind (.ref s.heap.objs.size)
      repeat (any_goals (first | assumption | wp_step))
      refine codeAny_mono (codeAny_call_builtin (R := wants (fun r s₂ => r = .none ∧ ∃ h' tk m, s₂ = { s with heap := h', toks := tk } ∧ m.Nodup ∧ m.length ≤ ks.length ∧ (∀ x, x ∈ m ↔ x ∈ ks) ∧ T.R s.heap h' s.heap.objs.size m ∧ Sub0 s.heap h') E) F.called_set.init.plain F.entry_set_init (check_set_init_1 hT ?_)) fun r₂ s₂ hr₂ => ?_
      · have z1 : (s.heap.push (newS w)).objs.size = s.heap.objs.size + 1 := Heap.size_push ..
        have h3 : A.in1.in1.in1.handled = none := by simp [hh]
        have old : ∀ b o, s.heap.get? b = some o → b < s.heap.objs.size := fun b o e => Heap.lt_size e
        have s0 : s.heap.get? s.heap.objs.size = none := by
          cases e : s.heap.get? s.heap.objs.size with
          | none => rfl
          | some o => exact absurd (Heap.lt_size e) (Nat.lt_irrefl _)
        obtain ⟨ol, hol, hcl, nl, hdl⟩ := hl
        obtain ⟨ocls, odict, odata, oslots⟩ := ol
        simp only at hcl hdl
        subst hcl hdl
        have hol' : (s.heap.push (newS w)).get? l = some { cls := .type "list", dict := odict, data := .seq items nl, slots := oslots } := Heap.get?_push_of_some _ hol
        have hsls := F.sub_list_set
        have hslf := F.sub_list_frozenset
        have hne : (Value.type "list" == Value.type "dict") = false := by decide
        have hl1 : (s.heap.push (newS w)).IsList l items := ⟨_, hol', rfl, nl, rfl⟩
        unfold Builtin.«set.__init__» noKeywords Builtin.Frozenset.updateFrom
        generalize hPI : pyIter = PI
        wp_walk
        subst hPI
        refine wpAny_pyIter_list hl1 ?_
        refine wpAny_bind (wpAny_runValue ?_)
        have lt := old l _ hol
        have neI : l ≠ (s.heap.push (newS w)).objs.size := by rw [z1]; exact Nat.ne_of_lt (Nat.lt_succ_of_lt lt)
        have sf : s.heap.objs.size ∉ [(s.heap.push (newS w)).objs.size, l] := by
          rw [z1]
          simp only [List.mem_cons, List.not_mem_nil, or_false, not_or]
          exact ⟨Nat.ne_of_lt (Nat.lt_succ_self _), Nat.ne_of_gt lt⟩
        refine loopA T hok ((Walks.list h3 _ l neI items).toS) s.heap.objs.size sf s.heap s0 ?hw ks hn hb hval (items.size - 0) 0 _ (by omega) (Nat.zero_le _) ⟨⟨_, Heap.get?_push_size _ rfl, rfl, rfl⟩, (hl1.push _)⟩ ?hold ?hS0 ?hR
        case hw =>
          intro b o e hm
          rw [List.mem_singleton.mp hm, z1] at e
          exact absurd (Heap.lt_size e) (by simp)
        case hold => exact fun b o e => Heap.get?_push_of_some _ (Heap.get?_push_of_some _ e)
        case hS0 => exact ⟨[], List.nodup_nil, Nat.le_refl _, fun x => by simp, T.new (Heap.get?_push_of_some _ hS)⟩
        case hR =>
          intro s' m mv m1 m2 m3 m4
          obtain ⟨h', g2, d', tk', os'⟩ := s'
          have eg : g2 = s.gens := mv.gens
          have ed : d' = s.drawn := mv.drawn
          have eo : os' = s.os := mv.os
          subst eg ed eo
          show wpAny _ _ _ _ _ _
          refine wpAny_pure ?_
          show wpAny _ _ (ret Value.none) _ _ _
          rw [hn] at m2
          refine wpAny_pure ⟨rfl, h', tk', m, rfl, m1, m2, m3, m4, fun b o e => ?_⟩
          have lb := old b o e
          refine mv.heap b o (fun hm => ?_) (Heap.get?_push_of_some _ (Heap.get?_push_of_some _ e))
          rcases List.mem_cons.mp hm with q | q
          · exact absurd lb (by rw [q]; exact Nat.lt_irrefl _)
          · rw [List.mem_singleton.mp q, z1] at lb
            exact absurd lb (by simp)
      · cases r₂ with
        | error e => exact hr₂
        | ok fl₂ =>
          cases fl₂ with
          | ret r =>
            obtain ⟨rfl, h', tk, m, rfl, m1, m2, m3, m4, m5⟩ := hr₂
            repeat (any_goals (first | assumption | wp_step))
            exact h _ _ _ m1 m2 m3 m4 m5
          | _ => exact hr₂.elim
    | _ => exact hr.elim
end
end VL
end

section
set_option Elab.async false
set_option linter.all false
set_option maxRecDepth 100000
set_option maxHeartbeats 4000000
namespace VL
open PySem PySem.Spec PyProof.Rows L2
set_option autoImplicit false
section
variable {P : Program} {w : World} {A : Around} {E : Value → Shared → Prop} {s : Shared}
def mixTh (P : Program) (w : World) : SetTh P w (fun _ => True) Key where
  R := fun _ h a ks => SetM P w h a ks
  is := fun _ k v => (mixKind P w).is k v = true
  most := scanBound
  frame := fun r k _ => r.at k
  new := fun {h0 h a} e => ⟨_, #[], 0, _, e, ⟨rfl, rfl, rfl⟩, rfl, ⟨(fun e he => by simp at he), List.nodup_nil, (fun k => Iff.rfl), by decide⟩, by rfl, List.Pairwise.nil, by
    show _ ∨ (!w.params.followText "set-order") = true
    cases w.params.followText "set-order"
    · exact .inr rfl
    · exact .inl rfl⟩
  add := fun {A E s a ks k v Q h0} _ _ _ R hv nd room hq => by
    unfold setAdd
    refine wpAny_holding (wpAny_bind ((mixKind P w).pyHash hv ?_))
    refine addM (s := { s with toks := s.toks + 1 }) hv R room nd (fun hin h' sb r => ?_) fun hno h' sb r => ?_
    · exact hq false h' (s.toks + 1) ks (Nat.le_succ _) sb r nd (fun x => ⟨.inr, fun z => z.elim (fun e => e ▸ hin) id⟩) (Nat.le_succ _)
    · exact hq true h' (s.toks + 1) (k :: ks) (Nat.le_succ _) sb r (List.nodup_cons.mpr ⟨hno, nd⟩) (fun x => List.mem_cons) (Nat.le_refl _)
/-! ### sorted of it -/
theorem perm_keys {α β : Type} {R : α → β → Prop} : ∀ {as as' : List α}, as'.Perm as → ∀ {bs : List β}, PySem.W.EachIs R as bs → ∃ bs', bs'.Perm bs ∧ PySem.W.EachIs R as' bs' := by
  intro as as' p
  induction p with
  | nil => intro bs h; exact ⟨bs, List.Perm.refl _, h⟩
  | cons x p ih =>
    intro bs h
    cases h with
    | cons r t =>
      obtain ⟨bs', q1, q2⟩ := ih t
      exact ⟨_ :: bs', q1.cons _, .cons r q2⟩
  | swap x y l =>
    intro bs h
    cases h with
    | cons r t =>
      cases t with
      | cons r' t' => exact ⟨_, List.Perm.swap _ _ _, .cons r' (.cons r t')⟩
  | trans p1 p2 ih1 ih2 =>
    intro bs h
    obtain ⟨b1, q1, q2⟩ := ih2 h
    obtain ⟨b2, q3, q4⟩ := ih1 q2
    exact ⟨b2, q3.trans q1, q4⟩
theorem readsM {h : Heap} {k : Key} {v : Value} (hv : (mixKind P w).is k v = true) : Reads h v (keyD k) [] := by
  rcases keyIs_shape (show keyIs k v = true from hv) with ⟨i, t, rfl, rfl⟩ | ⟨x, t, rfl, rfl⟩
  · exact .int i t
  · exact .str x t
theorem eachM : ∀ {l : List (Int × Value)}, (∀ e ∈ l, GoodM P w e) → PySem.W.EachIs (fun v k => (mixKind P w).is k v = true) (l.map (·.2)) (l.map fun e => keyM e.2)
  | [], _ => .nil
  | e :: l, g => .cons (g e (List.mem_cons_self ..)).1 (eachM fun x hx => g x (List.mem_cons_of_mem _ hx))
theorem sorted_setM {a : Addr} {S : List Key} {Q : Value → Shared → Prop} (hh : A.handled = none) (R : SetM P w s.heap a S) (nd : S.Nodup) (hal : PySem.W.AllAlike (S.map keyD)) (hk : PySem.W.Sortable (S.map keyD)) (hu : A.units + 150 < cLine)
    (hQ : ∀ (s' : Shared) (p : Addr) (out : List Value) (c : Nat) (ks : List Key), Sub0 s.heap s'.heap → s'.gens = s.gens → s'.os = s.os → s.heap.objs.size ≤ p → s'.heap.get? p = some (seqObj "list" out.toArray c) → ks.Perm S → PySem.W.EachIs (fun v k => (mixKind P w).is k v = true) out (ks.mergeSort (PySem.W.dataLe false keyD)) → Q (.ref p) s') :
    wpAny (model P w) A (call (.builtin "sorted") [.ref a]) Q E s := by
  obtain ⟨o, es, ep, t, ho, hex, hd, ⟨H1, H2, H3, H4⟩, hf, hr, hl⟩ := R
  have pS : (ksOf es).Perm S := ((List.perm_ext_iff_of_nodup nd H2).mpr H3).symm
  refine Calls.call_function_entry kind_sorted plain_sorted entry_sorted (args_sorted1 _) ?_
  unfold Builtin.«sorted»
  refine wpAny_bind (m := checkCount "sorted" 1 1 _) (wpAny_pure ?_)
  refine wpAny_bind (collect_set (A := A.in1) hh ⟨o, ho, hex.1, hd⟩ hf H4 hr hl fun s1 vs k1 hz g1 o1 pm => ?_)
  obtain ⟨ks, q1, q2⟩ := perm_keys pm (eachM H1)
  have pk : ks.Perm S := q1.trans pS
  have hvl : vs.length ≤ sizeLine := by
    rw [pm.length_eq, List.length_map, Array.length_toList]
    exact fits_of_scanBound H4
  have hkl : ks.length = vs.length := (q2.length).symm
  refine wpAny_bind (wpAny_newList ?_ hvl)
  have hoL : (s1.heap.push (seqObj "list" vs.toArray 0)).get? s1.heap.objs.size = some (seqObj "list" vs.toArray 0) := Heap.get?_push_size _ rfl
  have mem : ∀ d, d ∈ ks.map keyD → d ∈ S.map keyD := fun d hd => (pk.map keyD).mem_iff.mp hd
  refine wpAny_bind (wpAny_holding (PySem.W.list_sort_data (bs := ks) (enc := keyD) (R := fun v k => (mixKind P w).is k v = true) (vs := vs) hoL q2 (q2.mono fun v k hv => ⟨[], readsM hv, by simp⟩) (fun d hd d' hd' => hal d (mem d hd) d' (mem d' hd')) ?_ (by rw [hkl]; exact hvl) (fun b hb => ?_) fun out hlen ho' => ?_))
  · rcases hk with hk | hk
    · exact .inl fun d hd => hk d (mem d hd)
    · exact .inr fun d hd => hk d (mem d hd)
  · have : (keyD b).depth ≤ 1 := by cases b <;> simp [keyD, PyData.depth]
    show A.in1.units + 1 + _ < _
    have e : A.in1.units = A.units + 1 := rfl
    omega
  · obtain ⟨c, hc⟩ := sortedHeap_at (vs := vs) (out := out.toArray) hoL
    refine wpAny_pure ⟨_, rfl, hQ _ s1.heap.objs.size out c ks (fun b u e => ?_) g1 o1 hz hc pk ho'⟩
    have q := k1 b u e
    have lt := Heap.lt_size q
    show (sortedHeap (s1.heap.push (seqObj "list" vs.toArray 0)) s1.heap.objs.size vs out.toArray).get? b = some u
    rw [sortedHeap_old (Nat.ne_of_lt lt) (by rw [size_push']; exact Nat.lt_succ_of_lt lt)]
    exact Heap.get?_push_of_some _ q
end
end VL
end

section
set_option Elab.async false
set_option linter.all false
set_option maxRecDepth 100000
set_option maxHeartbeats 4000000
namespace VL
open PySem PySem.Spec PyProof.Rows L2
set_option autoImplicit false
theorem bootSorted : bootBuiltins "sorted" = some (.builtin "sorted") := by decide +kernel
/-- sorted(set(xs)), xs a list of keys -/
def tSSet (K : PySem.W.Frag) (ta : TE) : TE := fun σ H Q => ta σ H fun x H1 => ∃ (l : Addr) (ks : List Key), x = .ref l ∧ SqL K H1 l (ks.map kV) ∧ ks.length + 1 < scanBound ∧ PySem.W.AllAlike (ks.map keyD) ∧ PySem.W.Sortable (ks.map keyD) ∧
  ∀ (m : List Key) (p : Addr), m.Nodup → (∀ x, x ∈ m ↔ x ∈ ks) → H1 p = none → Q (.ref p) (upd H1 p (.lst ((m.mergeSort (PySem.W.dataLe false keyD)).map kV)))
section
variable {X : Cx}
theorem keys_of_vals : ∀ {ks : List Key} {us : List Value}, Vals (ks.map kV) us → PySem.W.EachIs (fun v k => (mixKind X.prog X.w).is k v = true) us ks
  | [], _, .nil => .nil
  | k :: ks, _, .cons r t => .cons (kV_is r) (keys_of_vals t)
theorem vals_of_keys : ∀ {us : List Value} {ks : List Key}, PySem.W.EachIs (fun v k => (mixKind X.prog X.w).is k v = true) us ks → Vals (ks.map kV) us
  | _, _, .nil => .nil
  | _, _, .cons (b := k) r t => by
    refine .cons ?_ (vals_of_keys t)
    rcases keyIs_shape r with ⟨i, t, rfl, rfl⟩ | ⟨x, t, rfl, rfl⟩
    · exact ⟨t, rfl⟩
    · exact ⟨t, rfl⟩
theorem each_get {α β : Type} {R : α → β → Prop} : ∀ {as : List α} {bs : List β} {i : Nat} {a : α}, PySem.W.EachIs R as bs → as[i]? = some a → ∃ b, bs[i]? = some b ∧ R a b
  | _, _, _, _, .nil, e => by simp at e
  | _, _, 0, _, .cons r _, e => by simp at e; subst e; exact ⟨_, rfl, r⟩
  | _, _, i + 1, _, .cons _ t, e => by
    obtain ⟨b, h1, h2⟩ := each_get (i := i) t (by simpa using e)
    exact ⟨b, by simpa using h1, h2⟩
theorem pe_sset {a : Expr} {ta : TE} {p p2 q pos : Pos} (hc : X.calm = true) (hu : X.A.units + 150 < cLine) (hg : Gl X "sorted") (hm : X.mg "sorted" = none) (hg2 : Gl X "set") (hm2 : X.mg "set" = none) (ha : PE X a ta)
    (na : starEach [a] X.env = (false, eval a X.env) :: starEach [] X.env := by rfl) : PE X (.Call (.Name "sorted" p) [.Call (.Name "set" p2) [a] [] q] [] pos) (tSSet X.K ta) := by
  refine ⟨fun pins s σ H Q I h => ?_⟩
  refine Call_ (ld_blt I hg hm bootSorted ?_)
  refine PyProof.Rows.callWith_builtin1 (PyProof.Rows.args_cons ?_ rfl) rfl rfl
  refine Call_ (ld_blt I hg2 hm2 boot_set ?_)
  refine PyProof.Rows.callWith_type1 (PyProof.Rows.args_cons (thn (ha.run pins s σ H _ I h) fun v s1 ⟨x, H1, I1, r1, q1⟩ => PyProof.Rows.args_nil ?_) na) na rfl
  obtain ⟨l, ks, rfl, hq, hb, hal, hk, fin⟩ := q1
  cases r1
  obtain ⟨its, r, pl, hz⟩ := I1.list hq
  have ek := keys_of_vals (X := X) r
  refine call_setA (mixTh X.prog X.w) (items := its.toArray) ks (I1.ok.hd hc) trivial pl.isList (by rw [List.size_toArray]; exact ek.length) hb (fun i v hv => each_get ek (by simpa using hv)) ?_
  intro h' tk m m1 m2 m3 m4 m5
  refine PyProof.Rows.args_nil ?_
  have I2 : Inv X pins σ H1 { s1 with heap := h', toks := tk } := I1.kept fun b o e => m5 b o e
  have mk : ∀ d, d ∈ m.map keyD → d ∈ ks.map keyD := fun d hd => by
    obtain ⟨x, hx, rfl⟩ := List.mem_map.mp hd
    exact List.mem_map.mpr ⟨x, (m3 x).mp hx, rfl⟩
  refine sorted_setM (s := { s1 with heap := h', toks := tk }) (I1.ok.hd hc) m4 m1 (fun d hd d' hd' => hal d (mk d hd) d' (mk d' hd')) (hk.imp (fun z d hd => z d (mk d hd)) (fun z d hd => z d (mk d hd))) hu ?_
  intro s' pp out c ms k1 g o1 hp hget pm eo
  have lm : ms.length < scanBound := by rw [pm.length_eq]; omega
  have hn : H1 pp = none := I2.hok.fresh hp
  have vo := vals_of_keys (X := X) eo
  have hlen : ((ms.mergeSort (PySem.W.dataLe false keyD)).map kV).length ≤ sizeLine := by
    rw [List.length_map, List.length_mergeSort]
    exact fits_of_scanBound lm
  have J : Inv X pins σ (upd H1 pp (.lst ((ms.mergeSort (PySem.W.dataLe false keyD)).map kV))) { ({ s1 with heap := h', toks := tk } : Shared) with heap := s'.heap, gens := s'.gens, drawn := s'.drawn, toks := s'.toks } :=
    I2.call (ch := []) (Un.laid k1 hp hn) (I2.hok.laid k1 hp ⟨hlen, out, c, vo, hget⟩) (by rw [g]; exact I2.bare) (fun _ z => nomatch z)
  have e : s' = { ({ s1 with heap := h', toks := tk } : Shared) with heap := s'.heap, gens := s'.gens, drawn := s'.drawn, toks := s'.toks } := by
    cases s'
    cases s1
    cases o1
    rfl
  rw [e]
  exact ⟨.ref pp, _, J, rfl, fin ms pp (pm.nodup_iff.mpr m1) (fun x => (pm.mem_iff).trans (m3 x)) hn⟩
end
end VL
end

section
set_option Elab.async false
set_option linter.all false
set_option maxRecDepth 100000
set_option maxHeartbeats 4000000
namespace VL
open PySem PySem.Spec PyProof.Rows L2
set_option autoImplicit false
def dedupD : List D → List D
  | [] => []
  | x :: xs => if (dedupD xs).any (fun y => PyData.eqv y x) = true then dedupD xs else x :: dedupD xs
def isStrD : D → Bool
  | .str _ => true
  | _ => false
def isIntD : D → Bool
  | .int _ => true
  | _ => false
def okSet (xs : List D) : Bool := (xs.all isStrD || xs.all isIntD) && decide (xs.length < 4000)
def gSSet : D → Option D
  | .list xs => if okSet xs = true then some (.list (sortD (dedupD xs))) else none
  | _ => none
/-! ### sorts of the same things -/
theorem dle_total : PySem.W.TotalLe dle := PySem.W.sortLe_total (PyProof.Rows.listOrd PyProof.Rows.itemOrd) false fun b => PySem.W.keyToks b
theorem sortD_pw (l : List D) : (sortD l).Pairwise (fun a b => dle a b = true) := by
  induction l with
  | nil => exact .nil
  | cons x xs ih => exact insL_sorted dle_total ih
theorem insL_permD (x : D) : ∀ l : List D, (insL dle x l).Perm (x :: l)
  | [] => List.Perm.refl _
  | y :: l => by
    unfold insL
    by_cases h : dle x y = true
    · rw [if_pos h]
    · rw [if_neg h]
      exact ((insL_permD x l).cons y).trans (List.Perm.swap x y l)
theorem sortD_permD : ∀ l : List D, (sortD l).Perm l
  | [] => List.Perm.refl _
  | x :: l => (insL_permD x _).trans ((sortD_permD l).cons x)
theorem sortD_same {l l' : List D} (p : l.Perm l') (anti : ∀ a ∈ l, ∀ b ∈ l, dle a b = true → dle b a = true → a = b) : sortD l = sortD l' :=
  List.Perm.eq_of_pairwise (le := fun a b => dle a b = true) (fun a b ha hb h1 h2 => anti a ((sortD_permD l).mem_iff.mp ha) b (p.mem_iff.mpr ((sortD_permD l').mem_iff.mp hb)) h1 h2) (sortD_pw l) (sortD_pw l') ((sortD_permD l).trans (p.trans (sortD_permD l').symm))
theorem dedup_mem {l : List D} (he : ∀ x ∈ l, ∀ y ∈ l, PyData.eqv x y = true → x = y) : ∀ x, x ∈ dedupD l ↔ x ∈ l := by
  induction l with
  | nil => exact fun x => Iff.rfl
  | cons z l ih =>
    intro x
    have ih' := ih fun x hx y hy => he x (List.mem_cons_of_mem _ hx) y (List.mem_cons_of_mem _ hy)
    unfold dedupD
    by_cases h : (dedupD l).any (fun y => PyData.eqv y z) = true
    · rw [if_pos h, ih' x]
      obtain ⟨y, hy, e⟩ := List.any_eq_true.mp h
      have hyl := (ih' y).mp hy
      have ez := he y (List.mem_cons_of_mem _ hyl) z (List.mem_cons_self ..) e
      exact ⟨fun q => List.mem_cons_of_mem _ q, fun q => by
        rcases List.mem_cons.mp q with rfl | q
        · exact ez ▸ hyl
        · exact q⟩
    · rw [if_neg h, List.mem_cons, List.mem_cons, ih' x]
theorem dedup_nodup {l : List D} (hr : ∀ x ∈ l, PyData.eqv x x = true) (he : ∀ x ∈ l, ∀ y ∈ l, PyData.eqv x y = true → x = y) : (dedupD l).Nodup := by
  induction l with
  | nil => exact List.nodup_nil
  | cons z l ih =>
    have hr' : ∀ x ∈ l, PyData.eqv x x = true := fun x hx => hr x (List.mem_cons_of_mem _ hx)
    have he' : ∀ x ∈ l, ∀ y ∈ l, PyData.eqv x y = true → x = y := fun x hx y hy => he x (List.mem_cons_of_mem _ hx) y (List.mem_cons_of_mem _ hy)
    unfold dedupD
    by_cases h : (dedupD l).any (fun y => PyData.eqv y z) = true
    · rw [if_pos h]; exact ih hr' he'
    · rw [if_neg h]
      refine List.nodup_cons.mpr ⟨fun hz => h (List.any_eq_true.mpr ⟨z, hz, hr z (List.mem_cons_self ..)⟩), ih hr' he'⟩
theorem keyD_inj {a b : Key} (h : keyD a = keyD b) : a = b := by
  cases a <;> cases b <;> simp [keyD] at h <;> rw [h]
theorem dle_int (i j : Int) : dle (.int i) (.int j) = decide (i ≤ j) := by unfold dle; rw [PySem.W.dataLt_int, PySem.W.not_lt_int]
theorem dle_str (a b : Str) : dle (.str a) (.str b) = decide (a.cps.toList ≤ b.cps.toList) := congrFun (congrFun (PySem.W.dataLe_str (fun x : Str => x)) a) b
theorem str_ext {a b : Str} (h : a.cps.toList = b.cps.toList) : a = b := by
  obtain ⟨a⟩ := a
  obtain ⟨b⟩ := b
  have : a = b := Array.toList_inj.mp h
  rw [this]
/-- one kind of keys -/
theorem okSet_keys {xs : List D} (h : okSet xs = true) : xs.length < 4000 ∧ ((∃ ss : List Str, xs = ss.map .str) ∨ ∃ is : List Int, xs = is.map .int) := by
  unfold okSet at h
  rw [Bool.and_eq_true, Bool.or_eq_true, decide_eq_true_eq] at h
  refine ⟨h.2, h.1.imp (fun q => ?_) (fun q => ?_)⟩
  · rw [List.all_eq_true] at q
    clear h
    induction xs with
    | nil => exact ⟨[], rfl⟩
    | cons x xs ih =>
      obtain ⟨ss, e⟩ := ih fun y hy => q y (List.mem_cons_of_mem _ hy)
      have hx := q x (List.mem_cons_self ..)
      cases x <;> first | cases hx | skip
      next s => exact ⟨s :: ss, by rw [e]; rfl⟩
  · rw [List.all_eq_true] at q
    clear h
    induction xs with
    | nil => exact ⟨[], rfl⟩
    | cons x xs ih =>
      obtain ⟨ss, e⟩ := ih fun y hy => q y (List.mem_cons_of_mem _ hy)
      have hx := q x (List.mem_cons_self ..)
      cases x <;> first | cases hx | skip
      next s => exact ⟨s :: ss, by rw [e]; rfl⟩
structure OneKind (xs : List D) : Prop where
  refl : ∀ x ∈ xs, PyData.eqv x x = true
  eq : ∀ x ∈ xs, ∀ y ∈ xs, PyData.eqv x y = true → x = y
  anti : ∀ a ∈ xs, ∀ b ∈ xs, dle a b = true → dle b a = true → a = b
  alike : PySem.W.AllAlike xs
  srt : PySem.W.Sortable xs
theorem oneKind_strs (ss : List Str) : OneKind (ss.map .str) := by
  have all : ∀ {Pr : D → Prop}, (∀ s, Pr (.str s)) → ∀ x ∈ ss.map PyData.str, Pr x := fun h x hx => by
    obtain ⟨s, _, rfl⟩ := List.mem_map.mp hx
    exact h s
  refine ⟨all fun s => ?_, all fun a => all fun b h => ?_, all fun a => all fun b h1 h2 => ?_, fun x hx => ?_, .inr (all fun s => ⟨?_, ?_⟩)⟩
  · simp [PyData.eqv]
  · have : (a == b) = true := by simpa [PyData.eqv] using h
    rw [beq_iff_eq.mp this]
  · rw [dle_str, decide_eq_true_eq] at h1 h2
    rw [str_ext (List.le_antisymm h1 h2)]
  · exact (all (Pr := fun x => ∀ y, y ∈ ss.map PyData.str → PySem.W.alike x y = true) fun a => all fun b => rfl) x hx
  · exact fun z => nomatch z
  · exact fun xs z => nomatch z
theorem oneKind_ints (ss : List Int) : OneKind (ss.map .int) := by
  have all : ∀ {Pr : D → Prop}, (∀ s, Pr (.int s)) → ∀ x ∈ ss.map PyData.int, Pr x := fun h x hx => by
    obtain ⟨s, _, rfl⟩ := List.mem_map.mp hx
    exact h s
  refine ⟨all fun s => ?_, all fun a => all fun b h => ?_, all fun a => all fun b h1 h2 => ?_, fun x hx => ?_, .inr (all fun s => ⟨?_, ?_⟩)⟩
  · simp [PyData.eqv]
  · have : (a == b) = true := by simpa [PyData.eqv] using h
    rw [beq_iff_eq.mp this]
  · rw [dle_int, decide_eq_true_eq] at h1 h2
    rw [Int.le_antisymm h1 h2]
  · exact (all (Pr := fun x => ∀ y, y ∈ ss.map PyData.int → PySem.W.alike x y = true) fun a => all fun b => rfl) x hx
  · exact fun z => nomatch z
  · exact fun xs z => nomatch z
theorem sset_data {ks m : List Key} (o : OneKind (ks.map keyD)) (m1 : m.Nodup) (m2 : ∀ x, x ∈ m ↔ x ∈ ks) : (m.mergeSort (PySem.W.dataLe false keyD)).map keyD = sortD (dedupD (ks.map keyD)) := by
  have e1 : (m.mergeSort (PySem.W.dataLe false keyD)).map keyD = (m.map keyD).mergeSort (PySem.W.dataLe false id) := List.map_mergeSort fun a _ b _ => rfl
  rw [e1, ← sortD_eq]
  have mem : ∀ x, x ∈ m.map keyD ↔ x ∈ ks.map keyD := fun x => by
    constructor
    · intro h
      obtain ⟨k, hk, rfl⟩ := List.mem_map.mp h
      exact List.mem_map.mpr ⟨k, (m2 k).mp hk, rfl⟩
    · intro h
      obtain ⟨k, hk, rfl⟩ := List.mem_map.mp h
      exact List.mem_map.mpr ⟨k, (m2 k).mpr hk, rfl⟩
  refine sortD_same ?_ fun a ha b hb => o.anti a ((mem a).mp ha) b ((mem b).mp hb)
  have nd : (m.map keyD).Nodup := List.Pairwise.map keyD (fun a b hne e => hne (keyD_inj e)) m1
  exact (List.perm_ext_iff_of_nodup nd (dedup_nodup o.refl o.eq)).mpr fun x => (mem x).trans (dedup_mem o.eq x).symm
section
variable {X : Cx} {B : Eb} {Γ : Gm} {E : Wish} {a : Expr} {ma : M D} {p p2 q pos : Pos}
theorem dqall_keys {K : PySem.W.Frag} {F : Fz} {H : Hp} : ∀ {ks : List Key} {vs : List V}, DqAll K F H vs (ks.map keyD) → vs = ks.map kV
  | [], _, .nil => rfl
  | .inl i :: ks, _, .cons q r => by rw [dqall_keys r, dq_int q]; rfl
  | .inr x :: ks, _, .cons q r => by rw [dqall_keys r, dq_str q]; rfl
theorem keys_dqall {K : PySem.W.Frag} {F : Fz} {H : Hp} : ∀ (ks : List Key), DqAll K F H (ks.map kV) (ks.map keyD)
  | [] => .nil
  | .inl i :: ks => .cons (.int i) (keys_dqall ks)
  | .inr x :: ks => .cons (.str x) (keys_dqall ks)
theorem vo_sset (hc : X.calm = true) (hu : X.A.units + 150 < cLine) (hg : Gl X "sorted") (hm : X.mg "sorted" = none) (hg2 : Gl X "set") (hm2 : X.mg "set" = none) (ha : VE X B Γ E a ma)
    (na : starEach [a] X.env = (false, eval a X.env) :: starEach [] X.env := by rfl) : VO X B Γ E (.Call (.Name "sorted" p) [.Call (.Name "set" p2) [a] [] q] [] pos) (m1 gSSet ma) :=
  PE.imp (pe_sset hc hu hg hm hg2 hm2 ha na) fun σ H Q ⟨F, ρ, r, h⟩ => ⟨F, ρ, r, (Res.bind h).mono (fun d ρ1 h1 v H1 F1 r1 g1 q1 => by
    obtain ⟨d2, e, h2⟩ := Res.of h1
    cases d with
    | list xs =>
      obtain ⟨c, rfl⟩ := ite_some e
      obtain ⟨l, vs, rfl, hs, qa⟩ := dq_sqL q1
      obtain ⟨hl, hk⟩ := okSet_keys c
      have go : ∀ ks : List Key, xs = ks.map keyD → OneKind xs → ∃ (l' : Addr) (ks : List Key), V.ref l = .ref l' ∧ SqL X.K H1 l' (ks.map kV) ∧ ks.length + 1 < scanBound ∧ PySem.W.AllAlike (ks.map keyD) ∧ PySem.W.Sortable (ks.map keyD) ∧ ∀ (m : List Key) (p : Addr), m.Nodup → (∀ x, x ∈ m ↔ x ∈ ks) → H1 p = none → Q (.ref p) (upd H1 p (.lst ((m.mergeSort (PySem.W.dataLe false keyD)).map kV))) := by
        intro ks hx o
        subst hx
        rw [dqall_keys qa] at hs
        rw [List.length_map] at hl
        refine ⟨l, ks, rfl, hs, by unfold scanBound; omega, o.alike, o.srt, fun m pp m1 m2 np => ?_⟩
        have ex := Ext.laid (o := .lst ((m.mergeSort (PySem.W.dataLe false keyD)).map kV)) r1.trk np
        refine h2 (.ref pp) _ _ (r1.to ex) (g1.trans ex.kp) ⟨pp, rfl, ?_, r1.nf np, g1.none0 r1 np⟩
        have qd := keys_dqall (K := X.K) (F := F1) (H := upd H1 pp (.lst ((m.mergeSort (PySem.W.dataLe false keyD)).map kV))) (m.mergeSort (PySem.W.dataLe false keyD))
        rw [sset_data o m1 m2] at qd
        exact .lst upd_same qd
      rcases hk with ⟨ss, hss⟩ | ⟨is, his⟩
      · exact go (ss.map Sum.inr) (by rw [hss, List.map_map]; rfl) (by rw [hss]; exact oneKind_strs ss)
      · exact go (is.map Sum.inl) (by rw [his, List.map_map]; rfl) (by rw [his]; exact oneKind_ints is)
    | _ => cases e) (fun _ _ _ k => k)⟩
end
end VL
end

section
set_option Elab.async false
set_option linter.all false
set_option maxRecDepth 100000
set_option maxHeartbeats 4000000
namespace VL
open PySem PySem.Spec PyProof.Rows L2
set_option autoImplicit false
section
variable {X : Cx} {B : Eb} {Γ : Gm} {E : Wish} {a b e : Expr} {es : List Expr} {ma mb : M D} {ms : M (List D)} {pos p : Pos}
/-! ### displays with stars -/
def VAs (X : Cx) (B : Eb) (Γ : Gm) (E : Wish) (es : List Expr) (m : M (List D)) : Prop := PA X es (tVs X.K B Γ E m)
def dItems : D → Option (List D)
  | .list xs => some xs
  | .tuple xs => some xs
  | _ => none
def mStar (a : M D) (r : M (List D)) : M (List D) := a.bind fun x => (M.of (dItems x)).bind fun xs => r.bind fun ys => M.pure (xs ++ ys)
theorem vas_nil : VAs X B Γ E [] mNil := va_nil.pa
theorem vas_cons (ha : VE X B Γ E e ma) (hr : VAs X B Γ E es ms) (hs : starEach (e :: es) X.env = (false, eval e X.env) :: starEach es X.env := by rfl) : VAs X B Γ E (e :: es) (mCons ma ms) :=
  PA.imp (pa_cons ha hr hs) fun σ H Q ⟨F, ρ, r, h⟩ => ⟨F, ρ, r, (Res.bind h).mono (fun x ρ1 h1 v1 H1 F1 r1 g1 q1 => ⟨F1, ρ1, r1, (Res.bind h1).mono (fun y ρ2 h2 v2 H2 F2 r2 g2 q2 => h2 _ H2 F2 r2 (g1.trans g2) (.cons (q1.grow (g2.g r1)) q2)) (fun _ _ _ k => k.grow g1)⟩) (fun _ _ _ k => k)⟩
theorem vas_star (ha : VE X B Γ E e ma) (hr : VAs X B Γ E es ms) (hs : starEach (.Starred e p :: es) X.env = (true, eval e X.env) :: starEach es X.env := by rfl) : VAs X B Γ E (.Starred e p :: es) (mStar ma ms) :=
  PA.imp (StX.pa_star ha hr hs) fun σ H Q ⟨F, ρ, r, h⟩ => ⟨F, ρ, r, (Res.bind h).mono (fun x ρ1 h1 v1 H1 F1 r1 g1 q1 => by
    obtain ⟨xs, e1, h2⟩ := Res.of (Res.bind h1)
    have go : ∀ vs : List V, DqAll X.K F1 H1 vs xs → tVs X.K B Γ E ms σ H1 (fun ys H2 => Q (vs ++ ys) H2) := fun vs qa => ⟨F1, ρ1, r1, (Res.bind h2).mono (fun y ρ2 h3 v2 H2 F2 r2 g2 q2 => h3 _ H2 F2 r2 (g1.trans g2) ((qa.grow (g2.g r1)).append q2)) (fun _ _ _ k => k.grow g1)⟩
    cases x with
    | list ys =>
      cases e1
      obtain ⟨l, vs, rfl, hs, qa⟩ := dq_sqL q1
      exact ⟨l, vs, rfl, .inr hs, go vs qa⟩
    | tuple ys =>
      cases e1
      obtain ⟨l, vs, rfl, hs, qa⟩ := dq_sqT q1
      exact ⟨l, vs, rfl, .inl hs, go vs qa⟩
    | _ => cases e1) (fun _ _ _ k => k)⟩
def mTupS (m : M (List D)) : M D := m.bind fun ds => (M.of (if ds.length ≤ sizeLine then some () else none)).bind fun _ => M.pure (.tuple ds)
def mLstS (m : M (List D)) : M D := m.bind fun ds => (M.of (if ds.length ≤ sizeLine then some () else none)).bind fun _ => M.pure (.list ds)
theorem ve_tupS {x1} (h : VAs X B Γ E es ms) : VE X B Γ E (.Tuple es x1 pos) (mTupS ms) :=
  PE.imp (pe_tup h) fun σ H Q ⟨F, ρ, r, hq⟩ => ⟨F, ρ, r, (Res.bind hq).mono (fun x ρ1 h1 v H1 F1 r1 g1 q1 => by
    obtain ⟨_, e1, h2⟩ := Res.of (Res.bind h1)
    obtain ⟨c, _⟩ := ite_some e1
    refine ⟨by rw [q1.length]; exact c, fun p np => ?_⟩
    have ex := Ext.alloc (o := .tup v) r1.trk np
    exact h2 (.ref p) _ _ (r1.to ex) (g1.trans ex.kp) (.tup (.inr rfl) upd_same (q1.grow (ex.grow r1.trk)))) (fun _ _ _ k => k)⟩
theorem vo_lstS (h : VAs X B Γ E es ms) : VO X B Γ E (.List es pos) (mLstS ms) :=
  PE.imp (pe_lst h) fun σ H Q ⟨F, ρ, r, hq⟩ => ⟨F, ρ, r, (Res.bind hq).mono (fun x ρ1 h1 v H1 F1 r1 g1 q1 => by
    obtain ⟨_, e1, h2⟩ := Res.of (Res.bind h1)
    obtain ⟨c, _⟩ := ite_some e1
    refine ⟨by rw [q1.length]; exact c, fun p np => ?_⟩
    have ex := Ext.laid (o := .lst v) r1.trk np
    exact h2 (.ref p) _ _ (r1.to ex) (g1.trans ex.kp) ⟨p, rfl, .lst upd_same (q1.grow (ex.grow r1.trk)), r1.nf np, g1.none0 r1 np⟩) (fun _ _ _ k => k)⟩
/-! ### two lists put together: a new one -/
def gCat : D → D → Option D
  | .list xs, .list ys => if xs.length + ys.length ≤ sizeLine then some (.list (xs ++ ys)) else none
  | _, _ => none
theorem vo_cat (ha : VE X B Γ E a ma) (hb : VE X B Γ E b mb) : VO X B Γ E (.BinOp a .Add b pos) (m2 gCat ma mb) :=
  PE.imp (pe_op op_cat ha hb) fun σ H Q ⟨F, ρ, r, h⟩ => ⟨F, ρ, r, (Res.bind h).mono (fun x ρ1 h1 v1 H1 F1 r1 g1 q1 => ⟨F1, ρ1, r1, (Res.bind h1).mono (fun y ρ2 h2 v2 H2 F2 r2 g2 q2 => by
    obtain ⟨d, e, h3⟩ := Res.of h2
    cases x with
    | list xs =>
      cases y with
      | list ys =>
        obtain ⟨c, rfl⟩ := ite_some e
        obtain ⟨l, vs, rfl, ha, qa⟩ := dq_lst (q1.grow (g2.g r1))
        obtain ⟨k, ws, rfl, hb, qb⟩ := dq_lst q2
        refine ⟨l, k, vs, ws, rfl, rfl, ha, hb, by rw [qa.length, qb.length]; exact c, fun p np => ?_⟩
        have ex := Ext.laid (o := .lst (vs ++ ws)) r2.trk np
        exact h3 (.ref p) _ _ (r2.to ex) ((g1.trans g2).trans ex.kp) ⟨p, rfl, .lst upd_same ((qa.append qb).grow (ex.grow r2.trk)), r2.nf np, (g1.trans g2).none0 r2 np⟩
      | _ => cases e
    | _ => cases e) (fun _ _ _ k => k.grow g1)⟩) (fun _ _ _ k => k)⟩
/-! ### sum, max, min of a list of ints -/
def intsD : List D → Option (List Int)
  | [] => some []
  | .int i :: r => (intsD r).map (i :: ·)
  | _ => none
theorem intsD_ok {K : PySem.W.Frag} {F : Fz} {H : Hp} : ∀ {vs : List V} {ds : List D} {is : List Int}, DqAll K F H vs ds → intsD ds = some is → vs = is.map V.int
  | _, _, _, .nil, e => by cases e; rfl
  | _, _, _, .cons q r, e => by
    cases q with
    | int b =>
      obtain ⟨l, h, rfl⟩ := Option.map_eq_some_iff.mp (show (intsD _).map (b :: ·) = some _ from e)
      rw [List.map_cons, intsD_ok r h]
    | _ => cases e
def maxI : List Int → Int
  | [] => 0
  | [x] => x
  | x :: y :: r => max x (maxI (y :: r))
def minI : List Int → Int
  | [] => 0
  | [x] => x
  | x :: y :: r => min x (minI (y :: r))
def cSum : List D → Option D
  | [.list xs] => (intsD xs).map fun is => .int is.sum
  | _ => none
def cMaxL : List D → Option D
  | [.list xs] => (intsD xs).bind fun is => if is = [] then none else some (.int (maxI is))
  | _ => none
def cMinL : List D → Option D
  | [.list xs] => (intsD xs).bind fun is => if is = [] then none else some (.int (minI is))
  | _ => none
theorem maxI_ge : ∀ {l : List Int} {y : Int}, y ∈ l → y ≤ maxI l
  | [x], y, h => by rw [List.mem_singleton.mp h]; exact Int.le_refl _
  | x :: z :: r, y, h => by
    rcases List.mem_cons.mp h with e | h
    · rw [e]; exact Int.le_max_left _ _
    · exact Int.le_trans (maxI_ge h) (Int.le_max_right _ _)
theorem minI_le : ∀ {l : List Int} {y : Int}, y ∈ l → minI l ≤ y
  | [x], y, h => by rw [List.mem_singleton.mp h]; exact Int.le_refl _
  | x :: z :: r, y, h => by
    rcases List.mem_cons.mp h with e | h
    · rw [e]; exact Int.min_le_left _ _
    · exact Int.le_trans (Int.min_le_right _ _) (minI_le h)
theorem maxI_mem : ∀ {l : List Int}, l ≠ [] → maxI l ∈ l
  | [x], _ => List.mem_singleton.mpr rfl
  | x :: z :: r, _ => by
    show max x (maxI (z :: r)) ∈ _
    rcases Int.le_total x (maxI (z :: r)) with h | h
    · rw [Int.max_eq_right h]; exact List.mem_cons_of_mem _ (maxI_mem (by simp))
    · rw [Int.max_eq_left h]; exact List.mem_cons_self ..
theorem minI_mem : ∀ {l : List Int}, l ≠ [] → minI l ∈ l
  | [x], _ => List.mem_singleton.mpr rfl
  | x :: z :: r, _ => by
    show min x (minI (z :: r)) ∈ _
    rcases Int.le_total x (minI (z :: r)) with h | h
    · rw [Int.min_eq_left h]; exact List.mem_cons_self ..
    · rw [Int.min_eq_right h]; exact List.mem_cons_of_mem _ (minI_mem (by simp))
theorem call_sumV (hc : X.calm = true) : CallR X (.builtin "sum") (rVs X.K cSum) := CallR.imp (cr_sum hc) fun xs H Q ⟨F, ds, d, t, q, e, gv⟩ => by
  match ds, e with
  | [.list ys], e =>
    obtain ⟨is, h, rfl⟩ := Option.map_eq_some_iff.mp (show (intsD ys).map (fun is => PyData.int is.sum) = some d from e)
    obtain ⟨v, rfl, q'⟩ := q.one
    obtain ⟨a, vs, rfl, ha, qa⟩ := dq_sqL q'
    rw [intsD_ok qa h] at ha
    exact ⟨a, is, rfl, ha, gv.here t (.int _)⟩
theorem call_maxLV (hc : X.calm = true) : CallR X (.builtin "max") (rVs X.K cMaxL) := CallR.imp (cr_max hc) fun xs H Q ⟨F, ds, d, t, q, e, gv⟩ => by
  match ds, e with
  | [.list ys], e =>
    obtain ⟨is, h, e2⟩ := Option.bind_eq_some_iff.mp (show (intsD ys).bind (fun is => if is = [] then none else some (PyData.int (maxI is))) = some d from e)
    obtain ⟨v, rfl, q'⟩ := q.one
    obtain ⟨a, vs, rfl, ha, qa⟩ := dq_sqL q'
    rw [intsD_ok qa h] at ha
    by_cases c : is = []
    · rw [if_pos c] at e2; cases e2
    · rw [if_neg c] at e2
      cases e2
      refine ⟨a, is, rfl, ha, List.length_pos_iff.mpr c, fun m h1 h2 => ?_⟩
      rw [Int.le_antisymm (maxI_ge h1) (h2 _ (maxI_mem c))]
      exact gv.here t (.int _)
theorem call_minLV (hc : X.calm = true) : CallR X (.builtin "min") (rVs X.K cMinL) := CallR.imp (cr_min hc) fun xs H Q ⟨F, ds, d, t, q, e, gv⟩ => by
  match ds, e with
  | [.list ys], e =>
    obtain ⟨is, h, e2⟩ := Option.bind_eq_some_iff.mp (show (intsD ys).bind (fun is => if is = [] then none else some (PyData.int (minI is))) = some d from e)
    obtain ⟨v, rfl, q'⟩ := q.one
    obtain ⟨a, vs, rfl, ha, qa⟩ := dq_sqL q'
    rw [intsD_ok qa h] at ha
    by_cases c : is = []
    · rw [if_pos c] at e2; cases e2
    · rw [if_neg c] at e2
      cases e2
      refine ⟨a, is, rfl, ha, List.length_pos_iff.mpr c, fun m h1 h2 => ?_⟩
      rw [Int.le_antisymm (h2 _ (minI_mem c)) (minI_le h1)]
      exact gv.here t (.int _)
end
end VL
end

section
set_option Elab.async false
set_option linter.all false
set_option maxRecDepth 100000
set_option maxHeartbeats 4000000
namespace VL
open PySem PySem.Spec PyProof.Rows L2
set_option autoImplicit false
section
variable {X : Cx} {B : Eb} {Γ : Gm} {E : Wish} {a b e : Expr} {ma mb me : M D} {pos p : Pos}
/-! ### a text's dict read -/
theorem ve_kix {x : Str} {px : Pos} {kvs : List (Str × Str)} (D : KD X.K X.w X.mg x kvs) (hg : Gl X x) (ha : VE X B Γ E a ma) (hs : PlainIx a) (hdb : (x == ("__debug__" : Str)) = false := by decide) : VE X B Γ E (.Subscript (.Name x px) a pos) (m1 (gKix kvs) ma) := by
  obtain ⟨d, es, n, hd, hD, hz⟩ := D.ex
  refine PE.imp (pe_ix ix_kdict (pe_glob (v := .ref d) hg hd rfl hdb) ha hs) fun σ H Q ⟨F, ρ, r, h⟩ => ⟨F, ρ, r, (Res.bind h).mono (fun y ρ1 h1 v1 H1 F1 r1 g1 q1 => ?_) (fun _ _ _ k => k)⟩
  obtain ⟨k, e, h3⟩ := Res.of h1
  cases y with
  | str z =>
    obtain ⟨v, e2, rfl⟩ := Option.map_eq_some_iff.mp (show (kvs.lookup z).map PyData.str = some k from e)
    have hz' := hz z
    rw [e2] at hz'
    obtain ⟨t, ht⟩ := hz'
    exact ⟨d, z, .str v, rfl, dq_str q1, ⟨es, n, _, hD.at_, hD.lit, ht, ⟨t, rfl⟩⟩, h3 _ H1 F1 r1 g1 (.str v)⟩
  | _ => cases e
/-! ### x, *y = a tuple -/
/-- what is left of a tuple's walk, gathered; the heap does not shrink -/
theorem rest_tuple {P : Program} {w : World} {A : Around} {E : Value → Shared → Prop} {s : Shared} {I l : Addr} {items : Array Value} {k : Nat} {Q : List Value → Shared → Prop} (hh : A.handled = none) (hne : l ≠ I) (hk : k ≤ items.size) (it : IsTupIter s.heap I l k) (hl : IsTup s.heap l items) (hz : items.size ≤ sizeLine)
    (hQ : ∀ h' tk, s.heap.objs.size ≤ h'.objs.size → (∀ b o, b ≠ I → s.heap.get? b = some o → h'.get? b = some o) → Q (items.toList.drop k) { s with heap := h', toks := tk }) : wpAny (model P w) A (collect (.ref I)) Q E s := by
  have W := (PySem.W.kun_shift (Walks.tuple (prog := P) (w := w) (A := A.in1) hh I l hne items) hk).toS
  obtain ⟨oi, hoi, _⟩ := id it
  obtain ⟨ol, hol, _⟩ := id hl
  have lI := Heap.lt_size hoi
  have ll := Heap.lt_size hol
  have nS : s.heap.objs.size ∉ [I, l] := by
    intro hm
    rcases List.mem_cons.mp hm with q | q
    · rw [← q] at lI; exact absurd lI (Nat.lt_irrefl _)
    · rw [← List.mem_singleton.mp q] at ll; exact absurd ll (Nat.lt_irrefl _)
  have nI : s.heap.objs.size ≠ I := fun q => nS (by rw [q]; exact List.mem_cons_self ..)
  unfold collect
  refine wpAny_bind (wpAny_runValue (codeAny_builtin F.entry_proto_collect ?_))
  rw [Around.under_plainId F.plain_proto_collect _]
  show wpAny _ A.in1 (newList [] >>= fun l => again (.builtin "list.__iadd__" ⟨[l, .ref I], []⟩)) _ _ s
  refine wpAny_bind (wpAny_newObj_type (wpAny_pure ⟨plainId_quiet F.plain_list_iadd _, codeAny_builtin F.entry_list_iadd ?_⟩))
  rw [Around.under_plainId F.plain_list_iadd _]
  have st : IsTupIter (s.heap.push { cls := .type "list", data := .seq ([] : List Value).toArray }) I l (k + 0) ∧ IsTup (s.heap.push { cls := .type "list", data := .seq ([] : List Value).toArray }) l items := ⟨by
    obtain ⟨o, ho, r⟩ := it
    exact ⟨o, Heap.get?_push_of_some _ ho, r⟩, hl.push _⟩
  have oS : (s.heap.push { cls := .type "list", data := .seq ([] : List Value).toArray }).get? s.heap.objs.size = some { cls := .type "list", data := .seq ([] : List Value).toArray } := Heap.get?_push_size _ rfl
  have tI : Shared.TypeIs { s with heap := s.heap.push { cls := .type "list", data := .seq ([] : List Value).toArray } } (.ref I) "tuple_iterator" := st.1.typeIs
  have e1 : Builtin.List.listSameRef (.ref s.heap.objs.size) (.ref I) = false := by simp [Builtin.List.listSameRef, nI]
  show wpAny _ A.in1 (Builtin.List.listExtendWith (.ref s.heap.objs.size) (.ref I) (.ref s.heap.objs.size)) _ _ _
  unfold Builtin.List.listExtendWith
  refine wpAny_bind (wpAny_typeOf tI ?_)
  rw [if_neg (by rw [e1]; decide)]
  refine wpAny_bind (W.self 0 _ _ _ st ?_)
  refine wpAny_bind (wpAny_holding ?_)
  unfold Builtin.List.listLengthHint
  refine wpAny_bind (wpAny_specialOf tI F.nolen_tu ?_)
  show wpAny _ A.in1 (specialOf (Value.ref I) (Str.ofString "__length_hint__") >>= _) _ _ _
  refine wpAny_bind (wpAny_specialOf tI F.hint_tu ?_)
  (generalize hid : ("tuple_iterator.__length_hint__" : String) = id0; (fail_if_success (clear hid id0)); wp_delta; rw [show splitId id0 = some ("tuple_iterator", "__length_hint__") from by subst hid; decide +kernel]; subst hid)
  refine wpAny_bind (wpAny_isInstance (b := true) tI (by rw [isSubtype_type]; kernel_rfl) (wpAny_pure ?_))
  rw [if_neg (by decide)]
  refine wpAny_pure ⟨plainId_quiet F.plain_extend_loop _, codeAny_extend_loopS W (by omega) _ nS _ (items.size - k) 0 _ _ _ rfl (Nat.zero_le _) st oS (ItemsOf.nil _) fun s' acc' c' hm hS' hacc => ?_⟩
  show wpAny _ A (load s.heap.objs.size >>= _) _ _ s'
  refine wpAny_bind (wpAny_load hS' (wpAny_pure ?_))
  show Q acc'.toList s'
  rw [PySem.W.kun_acc hk hacc]
  obtain ⟨h', g', d', t', o'⟩ := s'
  have m2 : g' = s.gens := hm.gens
  have m3 : d' = s.drawn := hm.drawn
  have m4 : o' = s.os := hm.os
  subst m2 m3 m4
  refine hQ h' t' (Nat.le_of_lt (Heap.lt_size hS')) fun b o hb q => hm.heap b o (fun z => ?_) (Heap.get?_push_of_some _ q)
  rcases List.mem_cons.mp z with z | z
  · have := Heap.lt_size q
    rw [z] at this
    exact absurd this (Nat.lt_irrefl _)
  · exact hb (List.mem_singleton.mp z)
theorem unpack_star {P : Program} {w : World} {A : Around} {E : Value → Shared → Prop} {s : Shared} {l : Addr} {items : Array Value} {Q : List Value → Shared → Prop} (hl : IsTup s.heap l items) (hh : A.handled = none) (h1 : 1 ≤ items.size) (hz : items.size ≤ sizeLine)
    (h : ∀ (D : Addr) (h' : Heap) (tk : Nat), s.heap.objs.size ≤ D → (∀ b o, s.heap.get? b = some o → h'.get? b = some o) → h'.get? D = some (seqObj "list" (items.toList.drop 1).toArray 0) → Q (items.toList.take 1 ++ [.ref D]) { s with heap := h', toks := tk }) : wpAny (model P w) A (unpackItems (.ref l) 2 (some 1)) Q E s := by
  have hll : l < s.heap.objs.size := by obtain ⟨o, ho, _⟩ := hl; exact Heap.lt_size ho
  have hlt : l ≠ s.heap.objs.size := Nat.ne_of_lt hll
  unfold unpackItems
  refine wpAny_bind ?_
  unfold notIterableAtAll
  refine wpAny_bind (wpAny_specialOf hl.typeIs slot_tuple_iter.lookup (wpAny_pure ?_))
  simp only [Bool.false_eq_true, if_false]
  refine wpAny_bind (wpAny_holding (iter_tuple hl ?_))
  refine wpAny_bind (wpAny_holding (draw_tuple hlt 1 0 _ _ ⟨_, Heap.get?_push_size _ rfl, rfl, rfl⟩ (hl.push _) (by omega) fun h₁ it sb => ?_))
  have hl₁ : IsTup h₁ l items := (hl.push _).extBut sb.extBut hlt
  rw [Nat.zero_add] at it
  have z1 : h₁.objs.size = s.heap.objs.size + 1 := sb.1.trans (Heap.size_push ..)
  rw [List.drop_zero]
  have fl : (items.toList.take 1).length = 1 := by rw [List.length_take, Array.length_toList]; omega
  rw [if_neg (show ¬ ((items.toList.take 1).length < 1) by rw [fl]; omega)]
  refine wpAny_bind (wpAny_holding (rest_tuple (s := { s with heap := h₁ }) hh hlt h1 it hl₁ hz fun h₂ tk ge hk => ?_))
  show wpAny _ _ (if (items.toList.drop 1).length < 0 then _ else _) _ _ _
  rw [if_neg (Nat.not_lt_zero _)]
  show wpAny _ _ (newList ((items.toList.drop 1).take ((items.toList.drop 1).length - 0)) >>= fun d => pure (items.toList.take 1 ++ [d] ++ (items.toList.drop 1).drop ((items.toList.drop 1).length - 0))) _ _ _
  rw [Nat.sub_zero, List.take_length, List.drop_length]
  have keep : ∀ b o, s.heap.get? b = some o → h₂.get? b = some o := fun b o q => hk b o (Nat.ne_of_lt (Heap.lt_size q)) (sb.extBut b o (Nat.ne_of_lt (Heap.lt_size q)) (Heap.get?_push_of_some _ q))
  refine wpAny_bind (wpAny_newList ?_ (by rw [List.length_drop, Array.length_toList]; omega))
  rw [List.append_nil]
  refine wpAny_pure (h h₂.objs.size _ tk ?_ (fun b o q => Heap.get?_push_of_some _ (keep b o q)) (Heap.get?_push_size _ rfl))
  have ge' : h₁.objs.size ≤ h₂.objs.size := ge
  rw [z1] at ge'
  exact Nat.le_of_succ_le ge'
def gStar (K : PySem.W.Frag) (t1 t2 : TG) : TG := fun v σ H Q => ∃ a x xs, v = .ref a ∧ SqT K H a (x :: xs) ∧ ∀ Da, H Da = none → t1 x σ (upd H Da (.lst xs)) fun σ1 H1 => t2 (.ref Da) σ1 H1 Q
theorem pg_star2 {e1 e2 : Expr} {k : Nat} {ps : Pos} {t1 t2 : TG} (hc : X.calm = true) (h1 : PG X e1 t1) (h2 : PG X e2 t2) (hn : (assignEach [e1, .Starred e2 ps] X.env).length = 2 := by rfl) (hst : (assignEach [e1, .Starred e2 ps] X.env).findIdx? (·.1) = some 1 := by rfl) (hm : (assignEach [e1, .Starred e2 ps] X.env).map (·.2) = [assign e1 X.env, assign e2 X.env] := by rfl) :
    PG X (.Tuple [e1, .Starred e2 ps] k pos) (gStar X.K t1 t2) := by
  refine ⟨fun pins s σ H v u Q I r hw => ?_⟩
  obtain ⟨a, x, xs, rfl, hq, hw⟩ := hw
  cases r
  obtain ⟨its, rv, ht, hz⟩ := I.tuple hq
  rw [assign_Tuple]
  refine wpAny_bind (wpAny_standAt ?_)
  unfold unpack
  rw [hn, hst, hm]
  have hlen : its.length = xs.length + 1 := by rw [← rv.length]; rfl
  refine wpAny_bind (wpAny_holding (unpack_star (s := s) ht (I.ok.hd hc) (by rw [List.size_toArray]; omega) (by rw [List.size_toArray, hlen]; exact hz) fun Da h' tk ge old hD => ?_))
  cases rv with
  | @cons _ u0 _ us r0 rs =>
    have hnone : H Da = none := I.hok.fresh ge
    have J : Inv X pins σ (upd H Da (.lst xs)) { s with heap := h', toks := tk } := I.laid (t' := tk) old ge ⟨by have : xs.length + 1 ≤ sizeLine := hz; omega, us, 0, rs, by simpa using hD⟩
    refine assignInOrder_cons (thn (h1.run pins _ σ _ _ _ _ J r0 (hw Da hnone)) fun _ s1 ⟨σ1, H1, I1, q1⟩ => ?_)
    refine assignInOrder_cons (thn (h2.run pins s1 σ1 H1 (.ref Da) _ Q I1 (rfl : RelV (.ref Da) (.ref Da)) q1) fun _ s2 ⟨σ2, H2, I2, q2⟩ => ?_)
    exact assignInOrder_nil ⟨σ2, H2, I2, q2⟩
end
section
variable {X : Cx} {B : Eb} {G : Gd} {Ps O On Ol : List Nat} {E : Wish} {ro : Bool} {e e1 e2 : Expr} {me : M D} {pos : Pos} {k : Nat} {ps : Pos}
def starT (i j : Tg) (d : D) (ρ : Env) : Option Env := match d with
  | .tuple (x :: xs) => (bindT i x ρ).bind (bindT j (.list xs))
  | _ => none
def mStar2 (i j : Tg) (me : M D) : M Fl := me.bind fun d ρ => match starT i j d ρ with
  | some ρ' => .ok (.nx, ρ')
  | none => .stuck
theorem vs_star2 {i j : Tg} (hc : X.calm = true) (he : VE X B (G.w Ps O) E e me) (h1 : VG X (G.w Ps O) e1 i) (h2 : VG X (G.w Ps O) e2 j) (hn : (assignEach [e1, .Starred e2 ps] X.env).length = 2 := by rfl) (hst : (assignEach [e1, .Starred e2 ps] X.env).findIdx? (·.1) = some 1 := by rfl) (hm : (assignEach [e1, .Starred e2 ps] X.env).map (·.2) = [assign e1 X.env, assign e2 X.env] := by rfl)
    {kp : Pos} (hs : swapsWithSole [.Tuple [e1, .Starred e2 ps] k kp] e pos.line X.env = pure false := by rfl) (hw : swappedStores [.Tuple [e1, .Starred e2 ps] k kp] e X.env = pure none := by rfl) (ht : (assignEach [.Tuple [e1, .Starred e2 ps] k kp] X.env).map (·.2) = [assign (.Tuple [e1, .Starred e2 ps] k kp) X.env] := by rfl) :
    VS X B G Ps E ro O O Ol (.Assign [.Tuple [e1, .Starred e2 ps] k kp] e pos) (mStar2 i j me) :=
  PS.imp (ps_asg he (pg_star2 hc h1 h2 hn hst hm) hs hw ht) fun N σ H ⟨F, ρ, r, h⟩ => ⟨F, ρ, r, (Res.bind h).mono (fun d ρ1 h1 v H1 F1 r1 k1 q1 => by
    cases e1 : starT i j d ρ1 with
    | none => simp only [e1] at h1; exact h1.elim
    | some ρ2 =>
      simp only [e1] at h1
      cases d with
      | tuple ds =>
        cases ds with
        | nil => cases e1
        | cons x xs =>
          obtain ⟨ρa, ea, eb⟩ := Option.bind_eq_some_iff.mp (show (bindT i x ρ1).bind (bindT j (.list xs)) = some ρ2 from e1)
          obtain ⟨a, vs, rfl, hs, qa⟩ := dq_sqT q1
          cases qa with
          | @cons v0 vs0 _ _ q0 qs =>
            refine ⟨a, v0, vs0, rfl, hs, fun Da hD => ?_⟩
            have ex := Ext.alloc (o := .lst vs0) r1.trk hD
            have g := ex.grow r1.trk
            refine ⟨_, ρ1, x, ρa, r1.to ex, q0.grow g, ea, fun σ1 ra sa => ⟨_, ρa, .list xs, ρ2, ra, .lst (.inr rfl) upd_same (qs.grow g), eb, fun σ2 rb sb => ?_⟩⟩
            exact h1 σ2 _ _ rb (((k1.g r)).trans g)
      | _ => cases e1) (fun _ _ _ k => k.ex r)⟩
end
end VL
end

section
set_option Elab.async false
set_option linter.all false
set_option maxRecDepth 100000
set_option maxHeartbeats 4000000
namespace VL
open PySem PySem.Spec PyProof.Rows L2
set_option autoImplicit false
/-- i, i - 1, .. (n of them) -/
def rngDn (i : Int) (n : Nat) : List D := (List.range n).map fun k => .int (i + (k : Nat) * (-1))
theorem itc {K : PySem.W.Frag} {F : Fz} {H : Hp} {lo : Int} {n : Nat} : ItV K F H (Itc lo (-1) n) (rngDn lo n) := by
  refine ⟨fun i d F' H' g t hd => ?_, fun F' H' g t => ?_⟩
  · unfold rngDn at hd
    rw [List.getElem?_map] at hd
    obtain ⟨k, h1, rfl⟩ := Option.map_eq_some_iff.mp hd
    obtain ⟨w, h2⟩ := List.getElem?_eq_some_iff.mp h1
    rw [List.length_range] at w
    rw [List.getElem_range] at h2
    subst h2
    refine ⟨w, fun x H'' y => ?_⟩
    obtain ⟨rfl, rfl⟩ := y
    exact ⟨F', .refl t, .int _⟩
  · show n ≤ _
    unfold rngDn
    rw [List.length_map, List.length_range]
    exact Nat.le_refl _
def rng3 : List D → Option (List D)
  | [.int i, .int j, .int c] => if (decide (c = -1) && lim62 i && lim62 j) = true then some (rngDn i (i - j).toNat) else none
  | _ => none
section
variable {X : Cx} {B : Eb} {Γ : Gm} {E : Wish} {a b c tg : Expr} {ms : M (List D)} {p pos : Pos}
theorem vi_range3 (hg : Gl X "range") (hm : X.mg "range" = none) (ha : VA X B Γ E [a, b, c] ms) (hs : starEach [a, b, c] X.env = (false, eval a X.env) :: starEach [b, c] X.env := by rfl) (hpl : (backTo pos (starEach [b, c] X.env)).any (·.1) = false := by rfl) :
    VI X B Γ E tg (.Call (.Name "range" p) [a, b, c] [] pos) (mRng rng3 ms) :=
  PI.imp (pi_range3 hg hm ha.pa hs hpl) fun σ H Q ⟨F, ρ, r, h⟩ => ⟨F, ρ, r, (Res.bind h).mono (fun ds ρ1 h1 v H1 F1 r1 g1 q1 => by
    obtain ⟨l, e, h2⟩ := Res.of h1
    match ds, e with
    | [.int i, .int j, .int k], e =>
      obtain ⟨cc, rfl⟩ := ite_some e
      rw [Bool.and_eq_true, Bool.and_eq_true, decide_eq_true_eq] at cc
      obtain ⟨⟨ck, ci⟩, cj⟩ := cc
      subst ck
      obtain ⟨c1, c2⟩ := lim62_ok ci
      obtain ⟨c3, c4⟩ := lim62_ok cj
      cases q1 with
      | cons q r =>
        obtain ⟨w, w', rfl, q', q''⟩ := r.two
        cases dq_int q
        cases dq_int q'
        cases dq_int q''
        exact ⟨i, j, -1, (i - j).toNat, rfl, RgC.neg c1 c2 c3 c4, h2 _ H1 F1 r1 g1 itc⟩) (fun _ _ _ k => k)⟩
end
end VL
end

section
set_option Elab.async false
set_option linter.all false
set_option maxRecDepth 100000
set_option maxHeartbeats 4000000
namespace VL
open PySem PySem.Spec PyProof.Rows L2
set_option autoImplicit false
section
variable {P : Program} {w : World} {A : Around} {E : Value → Shared → Prop} {s : Shared}
/-- a slice taken from behind -/
theorem sliceApplied_back {sl : Addr} {vl vu vs : Value} {n : Nat} {Q : Int × Int × Nat → Shared → Prop} (hs : s.heap.IsSliceOf sl vl vu vs) (pl : IsPart vl none) (pu : IsPart vu none) (ps : IsPart vs (some (-1))) (h : Q ((n : Int) - 1, -1, n) s) :
    wpAny (model P w) A (Builtin.Slice.sliceApplied (.ref sl) (pure (n : Int))) Q E s := by
  obtain ⟨os, hos, hcs, hds⟩ := id hs
  unfold Builtin.Slice.sliceApplied Builtin.Slice.sliceFields
  refine wpAny_bind (wpAny_bind (wpAny_field hos hds (x := vl) rfl (wpAny_bind (wpAny_field hos hds (x := vu) rfl (wpAny_bind (wpAny_field hos hds (x := vs) rfl (wpAny_pure ?_)))))))
  refine wpAny_bind (HT.slicePart_ ps ?_)
  show wpAny _ _ (if ((-1 : Int) == 0) = true then _ else _) _ _ s
  rw [if_neg (by decide)]
  refine wpAny_bind (HT.slicePart_ pl (wpAny_bind (HT.slicePart_ pu (wpAny_bind (wpAny_pure ?_)))))
  show wpAny _ _ (match Builtin.Slice.sliceAdjust none none (-1) (n : Int) with | (lo, hi) => pure (lo, (-1 : Int), Builtin.Slice.slicePlaces lo hi (-1))) _ _ s
  have e1 : Builtin.Slice.sliceAdjust none none (-1) (n : Int) = ((n : Int) - 1, -1) := rfl
  rw [e1]
  show wpAny _ _ (pure ((n : Int) - 1, (-1 : Int), Builtin.Slice.slicePlaces ((n : Int) - 1) (-1) (-1))) _ _ s
  have e2 : Builtin.Slice.slicePlaces ((n : Int) - 1) (-1) (-1) = n := by
    unfold Builtin.Slice.slicePlaces
    rw [if_neg (by decide)]
    by_cases c : (n : Int) - 1 > -1
    · rw [if_pos c]
      simp only [Int.neg_neg, Int.ediv_one]
      omega
    · rw [if_neg c]
      have : n = 0 := by omega
      subst this
      rfl
  rw [e2]
  exact wpAny_pure h
theorem pick_back (xs : Array Value) : ((List.range xs.size).filterMap fun (m : Nat) => xs[(((xs.size : Int) - 1) + (m : Int) * (-1)).toNat]?) = xs.toList.reverse := by
  have e : ((List.range xs.size).filterMap fun (m : Nat) => xs[(((xs.size : Int) - 1) + (m : Int) * (-1)).toNat]?) = ((List.range xs.size).map fun k => xs.size - 1 - k).filterMap (xs[·]?) := by
    rw [List.filterMap_map]
    have gen : ∀ l : List Nat, (∀ m ∈ l, m < xs.size) → l.filterMap (fun (m : Nat) => xs[(((xs.size : Int) - 1) + (m : Int) * (-1)).toNat]?) = l.filterMap ((fun x => xs[x]?) ∘ fun k => xs.size - 1 - k) := by
      intro l
      induction l with
      | nil => intro _; rfl
      | cons m l ih =>
        intro h
        have hm := h m (List.mem_cons_self ..)
        have e : (((xs.size : Int) - 1) + (m : Int) * (-1)).toNat = xs.size - 1 - m := by omega
        rw [List.filterMap_cons, List.filterMap_cons, ih fun x hx => h x (List.mem_cons_of_mem _ hx), e]
        rfl
    exact gen _ fun m hm => List.mem_range.mp hm
  rw [e, PySem.W.krv_range, List.filterMap_reverse, PySem.W.krv_all]
theorem getItem_tuple_back {t sl : Addr} {items : Array Value} {vl vu vs : Value} {Q : Value → Shared → Prop} (ht : IsTup s.heap t items) (hs : s.heap.IsSliceOf sl vl vu vs) (pl : IsPart vl none) (pu : IsPart vu none) (ps : IsPart vs (some (-1)))
    (h : Q (.ref s.heap.objs.size) { s with heap := s.heap.push { cls := .type "tuple", data := .seq items.toList.reverse.toArray } }) (hsz : items.size ≤ sizeLine) : wpAny (model P w) A (getItem (.ref t) (.ref sl)) Q E s := by
  have hz : sizeOk (.seq items.toList.reverse.toArray) := by
    show items.toList.reverse.toArray.size ≤ sizeLine
    rw [List.size_toArray, List.length_reverse, Array.length_toList]
    exact hsz
  obtain ⟨os, hos, hcs, hds⟩ := id hs
  have hTs : s.TypeIs (.ref sl) "slice" := ⟨os, hos, hcs⟩
  unfold getItem
  try with_reducible refine wpAny_holding ?_
  first | refine wpAny_bind (wpAny_pure ?_) | skip
  refine wpAny_bind (wpAny_sequenceKey ht.typeIs (by decide) ?_)
  refine wpAny_bind (wpAny_callSpecial?_slot (name := Str.ofString "__getitem__") ht.typeIs PyProof.Rows.slot_tuple_getitem (wpAny_call_entry PyProof.Rows.slot_tuple_getitem ht.typeIs entry_tuple_getitem ?_ (args_tuple_getitem _ _)))
  show wpAny _ _ (Builtin.Tuple.tupleItemsOf (.ref t) >>= _) _ _ s
  refine wpAny_bind (tupleItemsOf_ ht (wpAny_bind (wpAny_typeOf hTs ?_)))
  rw [if_pos (by decide)]
  refine wpAny_bind (sliceApplied_back hs pl pu ps ?_)
  show wpAny _ _ (if ((items.size : Int) - 1 == 0 && (-1 : Int) == 1 && items.size == items.size) = true then _ else _) _ _ s
  rw [if_neg (by simp)]
  rw [pick_back]
  first
    | exact wpAny_bind (m := Builtin.Tuple.tupleExact _) (wpAny_newObj_type (wpAny_pure ⟨_, rfl, wpAny_pure h⟩) hz)
    | exact wpAny_bind (m := Builtin.Tuple.tupleExact _) (wpAny_newObj_type (wpAny_bind (wpAny_pure (wpAny_pure ⟨_, rfl, wpAny_pure h⟩))) hz)
    | exact wpAny_bind (wpAny_bind (m := Builtin.Tuple.tupleExact _) (wpAny_newObj_type (wpAny_pure (wpAny_pure ⟨_, rfl, wpAny_pure h⟩)) hz))
    | exact wpAny_bind (wpAny_bind (m := Builtin.Tuple.tupleExact _) (wpAny_newObj_type (wpAny_pure ⟨_, rfl, wpAny_pure h⟩) hz))
end
/-- t[::-1] of a tuple -/
def tRevT (K : PySem.W.Frag) (te : TE) : TE := fun σ H Q => te σ H fun x H1 => ∃ a xs, x = .ref a ∧ SqT K H1 a xs ∧ ∀ p, H1 p = none → Q (.ref p) (upd H1 p (.tup xs.reverse))
section
variable {X : Cx}
theorem pe_revT {e : Expr} {te : TE} {k : Nat} {p1 p2 p3 pos : Pos} (he : PE X e te) : PE X (.Subscript e (.Slice none none (some (.UnaryOp .USub (.Constant (.int 1) k p1) p2)) p3) pos) (tRevT X.K te) := by
  refine ⟨fun pins s σ H Q I h => ?_⟩
  refine Subscript_ (thn (he.run pins s σ H _ I h) fun v s1 ⟨x, H1, I1, r1, a, xs, ex, hx, q⟩ => ?_)
  subst ex
  cases r1
  have hst : PO X (some (.UnaryOp .USub (.Constant (.int 1) k p1) p2)) (tPart (tUn (rU fun i => .int (-i)) (tC (.int 1)))) := po_some (pe_un un_neg pe_int)
  refine wpAny_Slice (thn (po_none.run pins s1 σ H1 (fun o H2 => o = none ∧ H2 = H1) I1 ⟨rfl, rfl⟩) fun vl s2 ⟨l, H2, I2, pl, el, e2⟩ => ?_)
  subst el e2
  refine thn (po_none.run pins s2 σ H2 (fun o H3 => o = none ∧ H3 = H2) I2 ⟨rfl, rfl⟩) fun vu s3 ⟨u, H3, I3, pu, eu, e3⟩ => ?_
  subst eu e3
  refine thn (hst.run pins s3 σ H3 (fun o H4 => o = some (-1) ∧ H4 = H3) I3 ⟨1, rfl, -1, rfl, rfl, rfl⟩) fun vs s4 ⟨o, H4, I4, ps, eo, e4⟩ => ?_
  subst eo e4
  have I5 : Inv X pins σ H4 { s4 with heap := s4.heap.push { cls := .type "slice", data := .fields #[vl, vu, vs] } } := I4.kept (t' := s4.toks) fun b ob q => Heap.get?_push_of_some _ q
  obtain ⟨its, r, ht, hz⟩ := I5.tuple hx
  have hlen := r.length
  show wpAny (model X.prog X.w) X.A (subscriptTail e (.Slice none none (some (.UnaryOp .USub (.Constant (.int 1) k p1) p2)) p3) (.ref a) (.ref s4.heap.objs.size)) (EP X pins σ Q) X.xe { s4 with heap := s4.heap.push { cls := .type "slice", data := .fields #[vl, vu, vs] } }
  refine tail_any (ops := [.ref a, .ref s4.heap.objs.size]) ht.typeIs (PyProof.Rows.slot_tuple_getitem.lookup) ?_ (by with_unfolding_all rfl)
  refine getItem_tuple_back ht (Heap.IsSliceOf.new _ vl vu vs) pl pu ps ?_ (by rw [List.size_toArray]; omega)
  refine ⟨.ref _, _, I5.laid (t' := s4.toks) (o := .tup xs.reverse) (fun b ob q => Heap.get?_push_of_some _ q) (Nat.le_refl _) ?_, rfl, q _ (I5.hok.fresh (Nat.le_refl _))⟩
  exact ⟨by rw [List.length_reverse]; exact hz, _, r.reverse, IsTup.new _ _⟩
variable {B : Eb} {Γ : Gm} {E : Wish} {e : Expr} {ma : M D} {pos : Pos}
def gRevA : D → Option D
  | .list xs => some (.list xs.reverse)
  | .tuple xs => some (.tuple xs.reverse)
  | _ => none
theorem ve_revA {k : Nat} {p1 p2 p3 : Pos} (he : VE X B Γ E e ma) : VE X B Γ E (.Subscript e (.Slice none none (some (.UnaryOp .USub (.Constant (.int 1) k p1) p2)) p3) pos) (m1 gRevA ma) :=
  PE.imp (PE.or (pe_revL he) (pe_revT he)) fun σ H Q ⟨F, ρ, r, h⟩ => by
    have h' := Res.bind h
    cases hm : ma ρ with
    | stuck => rw [hm] at h'; exact h'.elim
    | exc c fs ρ' => rw [hm] at h'; exact .inl ⟨F, ρ, r, by rw [hm]; exact h'⟩
    | ok q =>
      obtain ⟨d, ρ1⟩ := q
      rw [hm] at h'
      have h2 : Res (M.of (gRevA d) ρ1) (fun d ρ' => ∀ v H' F', Rel X.K Γ F' ρ' σ H' → Kp Γ.O σ F H F' H' → Dq X.K F' H' v d → Q v H') (Kex X.K B Γ E σ F H) := h'
      obtain ⟨d2, e2, h3⟩ := Res.of h2
      cases d with
      | list xs =>
        cases e2
        refine .inl ⟨F, ρ, r, ?_⟩
        rw [hm]
        intro v H1 F1 r1 g1 q1
        obtain ⟨a, vs, rfl, hs, qa⟩ := dq_sqL q1
        refine ⟨a, vs, rfl, hs, fun p np => ?_⟩
        have ex := Ext.alloc (o := .lst vs.reverse) r1.trk np
        exact h3 (.ref p) _ _ (r1.to ex) (g1.trans ex.kp) (.lst (.inr rfl) upd_same ((qa.reverse).grow (ex.grow r1.trk)))
      | tuple xs =>
        cases e2
        refine .inr ⟨F, ρ, r, ?_⟩
        rw [hm]
        intro v H1 F1 r1 g1 q1
        obtain ⟨a, vs, rfl, hs, qa⟩ := dq_sqT q1
        refine ⟨a, vs, rfl, hs, fun p np => ?_⟩
        have ex := Ext.alloc (o := .tup vs.reverse) r1.trk np
        exact h3 (.ref p) _ _ (r1.to ex) (g1.trans ex.kp) (.tup (.inr rfl) upd_same ((qa.reverse).grow (ex.grow r1.trk)))
      | _ => cases e2
end
end VL
end

section
set_option Elab.async false
set_option linter.all false
set_option maxRecDepth 100000
set_option maxHeartbeats 4000000
namespace VL
open PySem PySem.Spec PyProof.Rows L2
set_option autoImplicit false
namespace P0
section
variable {α β : Type} {E : XE} {ρ : Env} {m ma mb mc : M D} {ml : M (List D)} {t : M Bool}
theorem w_star {Q : List D → Env → Prop} : wM (mStar m ml) ρ Q E = wM m ρ (fun x ρ1 => wO (dItems x) fun xs => wM ml ρ1 (fun ys ρ2 => Q (xs ++ ys) ρ2) E) E := by unfold mStar; simp only [w_bind, w_of, w_pure]
theorem w_tupS {Q : D → Env → Prop} : wM (mTupS ml) ρ Q E = wM ml ρ (fun ds ρ1 => ds.length ≤ sizeLine ∧ Q (.tuple ds) ρ1) E := by unfold mTupS; simp only [w_bind, w_of, w_pure, wO_ite]
theorem w_lstS {Q : D → Env → Prop} : wM (mLstS ml) ρ Q E = wM ml ρ (fun ds ρ1 => ds.length ≤ sizeLine ∧ Q (.list ds) ρ1) E := by unfold mLstS; simp only [w_bind, w_of, w_pure, wO_ite]
theorem w_star2 {Q : Fl → Env → Prop} (i j : Tg) : wM (mStar2 i j m) ρ Q E = wM m ρ (fun d ρ1 => wO (starT i j d ρ1) fun ρ2 => Q .nx ρ2) E := by
  unfold mStar2
  rw [w_bind]
  congr 1
  funext d ρ1
  unfold wM
  try dsimp only
  cases starT i j d ρ1 <;> rfl
end
end P0
end VL
end

section
set_option Elab.async false
set_option linter.all false
set_option maxRecDepth 100000
set_option maxHeartbeats 4000000
namespace VL
open PySem PySem.Spec PyProof.Rows L2
set_option autoImplicit false
section
variable {α β : Type} {E : XE} {ρ : Env} {m ma mb mc : M D} {ml : M (List D)} {t : M Bool}
theorem w_star {Q : List D → Env → Prop} : wM (mStar m ml) ρ Q E = wM m ρ (fun x ρ1 => wO (dItems x) fun xs => wM ml ρ1 (fun ys ρ2 => Q (xs ++ ys) ρ2) E) E := by with_unfolding_all first | exact P0.w_star | exact P0.w_star .. | (apply P0.w_star <;> assumption)
theorem w_tupS {Q : D → Env → Prop} : wM (mTupS ml) ρ Q E = wM ml ρ (fun ds ρ1 => ds.length ≤ sizeLine ∧ Q (.tuple ds) ρ1) E := by with_unfolding_all first | exact P0.w_tupS | exact P0.w_tupS .. | (apply P0.w_tupS <;> assumption)
theorem w_lstS {Q : D → Env → Prop} : wM (mLstS ml) ρ Q E = wM ml ρ (fun ds ρ1 => ds.length ≤ sizeLine ∧ Q (.list ds) ρ1) E := by with_unfolding_all first | exact P0.w_lstS | exact P0.w_lstS .. | (apply P0.w_lstS <;> assumption)
theorem w_star2 {Q : Fl → Env → Prop} (i j : Tg) : wM (mStar2 i j m) ρ Q E = wM m ρ (fun d ρ1 => wO (starT i j d ρ1) fun ρ2 => Q .nx ρ2) E := by with_unfolding_all first | exact P0.w_star2 | exact P0.w_star2 .. | (apply P0.w_star2 <;> assumption)
end
end VL
namespace VL
open PySem
section
variable {xs ys : List D} {i j : Int} {ρ : Env} {x : D}
theorem dItems_l : dItems (.list xs) = some xs := rfl
theorem dItems_t : dItems (.tuple xs) = some xs := rfl
theorem gCat_l (h : xs.length + ys.length ≤ 100000) : gCat (.list xs) (.list ys) = some (.list (xs ++ ys)) := if_pos (Nat.le_trans h sizeLine_ge)
theorem starT_c {a b : Tg} : starT a b (.tuple (x :: xs)) ρ = (bindT a x ρ).bind (bindT b (.list xs)) := rfl
theorem gRev_ll : gRevA (.list xs) = some (.list xs.reverse) := rfl
theorem gRev_tt : gRevA (.tuple xs) = some (.tuple xs.reverse) := rfl
theorem bindT_nm (i : Nat) (d : D) : bindT (.nm i) d ρ = some (List.set ρ i (some d)) := rfl
theorem bindT_tt (ts : List Tg) (ds : List D) : bindT (.tp ts) (.tuple ds) ρ = bindTs ts ds ρ := rfl
theorem bindT_tl (ts : List Tg) (ds : List D) : bindT (.tp ts) (.list ds) ρ = bindTs ts ds ρ := rfl
theorem bindTs_n : bindTs [] [] ρ = some ρ := rfl
theorem bindTs_c (t : Tg) (ts : List Tg) (d : D) (ds : List D) : bindTs (t :: ts) (d :: ds) ρ = (bindT t d ρ).bind fun ρ1 => bindTs ts ds ρ1 := rfl
end
end VL
end

section
set_option Elab.async false
set_option linter.all false
set_option maxRecDepth 100000
namespace LL
open PySem VL
def f_is_number : Fn := runF false 1 [] ((mRet (mAndV (m1 (gIsi "int") (mVar 0)) (mNotV (m1 (gIsi "bool") (mVar 0))))))
def f_is_name : Fn := runF false 2 [] ((mRet (mAndV (m1 (gIsi "str") (mVar 0)) (mAndV (mChain gLe gLe (mC (.int 1)) (mCall cLen (mCons (mVar 0) mNil)) (mC (.int 8))) (mCall cAll (mCons (mLc (.nm 1) [1] (mSeqOf (mVar 0)) (M.pure true) (m2 gIn (mVar 1) (mC (.str "abcdefghijklmnopqrstuvwxyz")))) mNil))))))
def f__law_take : Fn := runF false 6 [0] ((mSeq (mIfS (mTruth (m2 gGt (mIxO 0 (mC (.int 0))) (mC (.int 0))))
  (mSeq (mSet 2 (m2 gMod (mCall cInt (mCons (mIxO 0 (mC (.int 0))) mNil)) (mVar 1)))
  (mSeq (mSetIx 0 (m2 gFdv (mIxO 0 (mC (.int 0))) (mVar 1)) (mC (.int 0)))
  (mRet (mVar 2))))
  mNx)
  (mSeq (mSetIx 0 (m2 gAdd (mIxO 0 (mC (.int 2))) (mC (.int 1))) (mC (.int 2)))
  (mSeq (mSet 3 (m2 gMod (mCall cInt (mCons (m2 gMul (m2 gAdd (mIxO 0 (mC (.int 1))) (m2 gMul (mC (.int 48271)) (mIxO 0 (mC (.int 2))))) (m2 gAdd (mC (.int 39373)) (mIxO 0 (mC (.int 2))))) mNil)) (mC (.int 2147483647))))
  (mSeq (mSet 4 (m2 gAdd (m2 gMod (mCall cInt (mCons (mVar 3) mNil)) (mC (.int 40009))) (mC (.int 7))))
  (mSeq (mSet 5 (m2 gMod (mCall cInt (mCons (m2 gMul (m2 gAdd (m2 gAdd (mVar 3) (mIxO 0 (mC (.int 2)))) (m2 gFdv (mIxO 0 (mC (.int 1))) (mC (.int 1000003)))) (mVar 4)) mNil)) (mC (.int 2147483629))))
  (mRet (m2 gMod (mCall cInt (mCons (m2 gFdv (m2 gMod (mCall cInt (mCons (m2 gAdd (m2 gMul (mVar 5) (mC (.int 48271))) (mVar 3)) mNil)) (mC (.int 2147483587))) (mC (.int 64))) mNil)) (mVar 1)))))))))
def f__law_cells : Fn := runF false 6 [] ((mSeq (mSet 2 (mOrV (mCall cLst (mCons (mSl gSl (mVar 0) mNoPart (mPart (mVar 1))) mNil)) (mLst (mCons (mC (.int 0)) mNil))))
  (mSeq (mFor (.tp [(.nm 3), (.nm 4)]) (mRng cEnum (mCons (mSl gSl (mVar 0) (mPart (mVar 1)) (mPart (mC (.int 63)))) mNil))
  (mSeq (mSet 5 (m2 gMod (mCall cInt (mCons (mVar 3) mNil)) (mVar 1)))
  (mSetIx 2 (m2 gAdd (mIxO 2 (mVar 5)) (m2 gMul (mVar 4) (m2 gAdd (mVar 3) (mC (.int 2))))) (mVar 5))))
  (mRet (mVar 2)))))
def f__law_of : Fn := runF false 2 [0] ((mRet (m2 gIx (mVar 1) (mCallF f__law_take [.slot 0, .dat] (mSlot 0 (mCons (mCall cLen (mCons (mVar 1) mNil)) mNil))))))
def f__law_pick : Fn := runF false 6 [0] ((mSeq (mPar [3, 4] (mCons (mCall cLst (mCons (mVar 1) mNil)) (mCons (mLst mNil) mNil)))
  (mSeq (mFor (.nm 5) (mRng rng1 (mCons (mCall cMin2 (mCons (mVar 2) (mCons (mLenO 3) mNil))) mNil))
  (mDrop (mApp 4 (mPopAt 3 (mCallF f__law_take [.slot 0, .dat] (mSlot 0 (mCons (mLenO 3) mNil)))))))
  (mRet (mVar 4)))))
def f__law_same : Nat → Fn
  | 0 => fun _ => .stuck
  | n + 1 => runF false 5 [] ((mSeq (mIfS (mTruth (m1 (gIsi2 "list" "tuple") (mVar 1)))
  (mSeq (mIfS (mOr (mTruth (m2 gNe (m1 (gIsi "list") (mVar 0)) (m1 (gIsi "list") (mVar 1)))) (mTruth (m2 gNe (m1 (gIsi "tuple") (mVar 0)) (m1 (gIsi "tuple") (mVar 1)))))
  (mRet (mC (.bool false)))
  mNx)
  (mRet (mAndV (m2 gEq (mCall cLen (mCons (mVar 0) mNil)) (mCall cLen (mCons (mVar 1) mNil))) (mCall cAll (mCons (mLc (.tp [(.nm 3), (.nm 4)]) [3, 4] (mRng cZip (mCons (mVar 0) (mCons (mVar 1) mNil))) (M.pure true) (mCallF (f__law_same n) [.dat, .dat] (mCons (mVar 3) (mCons (mVar 4) mNil)))) mNil)))))
  mNx)
  (mSeq (mIfS (mTruth (m1 (gIsi "dict") (mVar 1)))
  (mSeq (mIfS (mOr (mNot (mTruth (m1 (gIsi "dict") (mVar 0)))) (mTruth (m2 gNe (mCall cSort (mCons (mVar 0) mNil)) (mCall cSort (mCons (mVar 1) mNil)))))
  (mRet (mC (.bool false)))
  mNx)
  (mRet (mCall cAll (mCons (mLc (.nm 2) [2] (mSeqOf (mVar 1)) (M.pure true) (mCallF (f__law_same n) [.dat, .dat] (mCons (m2 gIx (mVar 0) (mVar 2)) (mCons (m2 gIx (mVar 1) (mVar 2)) mNil)))) mNil))))
  mNx)
  (mSeq (mIfS (mOr (mTruth (m2 gIs (mVar 1) (mC .none))) (mTruth (m1 (gIsi2 "bool" "str") (mVar 1))))
  (mRet (mAndV (m2 gEq (mVar 0) (mVar 1)) (mAndV (m2 gEq (m1 (gIsi "bool") (mVar 0)) (m1 (gIsi "bool") (mVar 1))) (m2 gEq (m2 gIs (mVar 0) (mC .none)) (m2 gIs (mVar 1) (mC .none))))))
  mNx)
  (mRet (mAndV (m1 (gIsi "int") (mVar 0)) (mAndV (mNotV (m1 (gIsi "bool") (mVar 0))) (m2 gEq (mVar 0) (mVar 1)))))))))
def f__law_tags : Fn := runF false 3 [0] ((mSeq (mSet 2 (mLst (mCons (mC (.str "a")) (mCons (mC (.str "b")) (mCons (mC (.str "cap")) (mCons (mC (.str "floor")) (mCons (mC (.str "start")) (mCons (mC (.str "nought")) (mCons (mC (.str "x")) (mCons (mC (.str "yy")) (mCons (mC (.str "abcdefgh")) mNil)))))))))))
  (mRet (mCall cTup (mCons (mCall cSort (mCons (mCallF f__law_pick [.slot 0, .dat, .dat] (mSlot 0 (mCons (mVar 2) (mCons (mVar 1) mNil)))) mNil)) mNil)))))
def f__law_is_tag : Fn := runF false 3 [] ((mSeq (mSet 1 (mC (.str "abcdefghijklmnopqrstuvwxyz")))
  (mSeq (mIfS (mNot (mTruth (m1 (gIsi "str") (mVar 0))))
  (mRet (mC (.bool false)))
  mNx)
  (mRet (mAndV (mChain gLe gLe (mC (.int 1)) (mCall cLen (mCons (mVar 0) mNil)) (mC (.int 8))) (m2 gEq (mLc (.nm 2) [2] (mSeqOf (mVar 0)) (mTruth (m2 gNin (mVar 2) (mVar 1))) (mVar 2)) (mLst mNil)))))))
def f_set_of : Fn := runF false 1 [] ((mRet (mCall cTup (mCons (m1 gSSet (mVar 0)) mNil))))
def f__law_lists : Nat → Fn
  | 0 => fun _ => .stuck
  | n + 1 => runF false 2 [] ((mRet (mIf (mTruth (m1 (gIsi2 "list" "tuple") (mVar 0))) (mLc (.nm 1) [1] (mSeqOf (mVar 0)) (M.pure true) (mCallF (f__law_lists n) [.dat] (mCons (mVar 1) mNil))) (mVar 0))))
def f_tupled : Nat → Fn
  | 0 => fun _ => .stuck
  | n + 1 => runF false 2 [] ((mRet (mIf (mTruth (m1 (gIsi2 "list" "tuple") (mVar 0))) (mCall cTup (mCons (mLc (.nm 1) [1] (mSeqOf (mVar 0)) (M.pure true) (mCallF (f_tupled n) [.dat] (mCons (mVar 1) mNil))) mNil)) (mVar 0))))
def f_is_step : Fn := runF false 1 [] ((mSeq (mIfS (mOr (mNot (mTruth (m1 (gIsi "tuple") (mVar 0)))) (mOr (mTruth (m2 gNin (mCall cLen (mCons (mVar 0) mNil)) (mTup (mCons (mC (.int 2)) (mCons (mC (.int 3)) mNil))))) (mNot (mTruth (m1 (gIsi "str") (m2 gIx (mVar 0) (mC (.int 0))))))))
  (mRet (mC (.bool false)))
  mNx)
  (mSeq (mIfS (mTruth (m2 gEq (mCall cLen (mCons (mVar 0) mNil)) (mC (.int 2))))
  (mRet (mAndV (m2 gEq (m2 gIx (mVar 0) (mC (.int 0))) (mC (.str "up"))) (mCallF f_is_number [.dat] (mCons (m2 gIx (mVar 0) (mC (.int 1))) mNil))))
  mNx)
  (mRet (mAndV (m1 (gKin [("most", "least"), ("least", "most")]) (m2 gIx (mVar 0) (mC (.int 0)))) (mAndV (mCallF f_is_name [.dat] (mCons (m2 gIx (mVar 0) (mC (.int 1))) mNil)) (mCallF f_is_number [.dat] (mCons (m2 gIx (mVar 0) (mC (.int 2))) mNil))))))))
def f_is_list : Fn := runF false 2 [] ((mRet (mAndV (m1 (gIsi "tuple") (mVar 0)) (mCall cAll (mCons (mLc (.nm 1) [1] (mSeqOf (mVar 0)) (M.pure true) (mCallF f_is_step [.dat] (mCons (mVar 1) mNil))) mNil)))))
def f__law_box_v8 : Fn := runF true 3 [] ((mSeq (mSet 2 (mIf (mTruth (m2 gLt (mVar 1) (mCall cLen (mCons (mVar 0) mNil)))) (m2 gIx (mVar 0) (mVar 1)) (mC (.int 0))))
  (mRet (mLst (mCons (m2 gMul (mCall cAbs (mCons (mVar 2) mNil)) (mCall cInt (mCons (m2 gGe (mCall cAbs (mCons (mVar 2) mNil)) (m2 gPow (mC (.int 10)) (mC (.int 18)))) mNil))) (mCons (m2 gAdd (m2 gAdd (m2 gMod (mCall cInt (mCons (mVar 2) mNil)) (mC (.int 2305843009213693951))) (m2 gMul (mC (.int 39373)) (mVar 1))) (mC (.int 992))) (mCons (mC (.int 0)) mNil)))))))
def f__law_deed : Fn := runF false 5 [0] ((mSeq (mPar [3, 4] (mCons (mCallF f__law_take [.slot 0, .dat] (mSlot 0 (mCons (mC (.int 3)) mNil))) (mCons (m2 gSub (mCallF f__law_take [.slot 0, .dat] (mSlot 0 (mCons (m2 gAdd (m2 gMul (mC (.int 2)) (mVar 2)) (mC (.int 1))) mNil))) (mVar 2)) mNil)))
  (mSeq (mIfS (mTruth (m2 gEq (mVar 3) (mC (.int 0))))
  (mRet (mTup (mCons (mC (.str "up")) (mCons (mVar 4) mNil))))
  mNx)
  (mRet (mTup (mCons (m2 gIx (mLst (mCons (mC (.str "most")) (mCons (mC (.str "least")) mNil))) (m2 gSub (mVar 3) (mC (.int 1)))) (mCons (mCallF f__law_of [.slot 0, .dat] (mSlot 0 (mCons (mVar 1) mNil))) (mCons (mVar 4) mNil))))))))
def f__law_row : Fn := runF false 5 [0] ((mRet (mCall cTup (mCons (mLc (.nm 4) [4] (mRng rng1 (mCons (mCallF f__law_take [.slot 0, .dat] (mSlot 0 (mCons (m2 gAdd (mVar 2) (mC (.int 1))) mNil))) mNil)) (M.pure true) (mCallF f__law_deed [.slot 0, .dat, .dat] (mSlot 0 (mCons (mVar 1) (mCons (mVar 3) mNil))))) mNil))))
def f__law_is_deed : Fn := runF false 1 [] ((mSeq (mIfS (mOr (mNot (mTruth (m1 (gIsi "tuple") (mVar 0)))) (mOr (mTruth (m2 gLt (mCall cLen (mCons (mVar 0) mNil)) (mC (.int 2)))) (mOr (mTruth (m2 gGt (mCall cLen (mCons (mVar 0) mNil)) (mC (.int 3)))) (mNot (mTruth (m1 (gIsi "str") (m2 gIx (mVar 0) (mC (.int 0)))))))))
  (mRet (mC (.bool false)))
  mNx)
  (mSeq (mIfS (mOr (mNot (mTruth (m1 (gIsi "int") (m2 gIx (mVar 0) (m1 gNeg (mC (.int 1))))))) (mTruth (m1 (gIsi "bool") (m2 gIx (mVar 0) (m1 gNeg (mC (.int 1)))))))
  (mRet (mC (.bool false)))
  mNx)
  (mSeq (mIfS (mTruth (m2 gEq (mCall cLen (mCons (mVar 0) mNil)) (mC (.int 2))))
  (mRet (m2 gEq (m2 gIx (mVar 0) (mC (.int 0))) (mC (.str "up"))))
  mNx)
  (mRet (mAndV (m2 gIn (m2 gIx (mVar 0) (mC (.int 0))) (mLst (mCons (mC (.str "most")) (mCons (mC (.str "least")) mNil)))) (mCallF f__law_is_tag [.dat] (mCons (m2 gIx (mVar 0) (mC (.int 1))) mNil))))))))
def f__law_spoilt_v2 : Nat → Fn
  | 0 => fun _ => .stuck
  | n + 1 => runF false 7 [0] ((mSeq (mSet 3 (mLst (mCons (mC (.int 0)) (mCons (mC (.int 1)) (mCons (m1 gNeg (mC (.int 1))) (mCons (mC .none) (mCons (mC (.bool true)) (mCons (mC (.bool false)) (mCons (mTup mNil) (mCons (mC (.str "a")) (mCons (mC (.str "up")) (mCons (mC (.str "most")) (mCons (mC (.str "Up")) (mCons (mTup (mCons (mC (.str "up")) (mCons (mC (.int 1)) mNil))) (mCons (mTup (mCons (mC (.str "least")) (mCons (mC (.str "a")) (mCons (mC (.int 1)) mNil)))) (mCons (mLst (mCons (mC (.str "up")) (mCons (mC (.int 1)) mNil))) (mCons (mLst mNil) mNil)))))))))))))))))
  (mSeq (mSet 3 (m2 gAdd (mVar 3) (mLst (mCons (mC (.str "abcdefghi")) (mCons (m2 gPow (mC (.int 10)) (mC (.int 41))) mNil)))))
  (mSeq (mIfS (mOr (mTruth (m2 gEq (mVar 2) (mC (.int 0)))) (mOr (mNot (mTruth (m1 (gIsi2 "list" "tuple") (mVar 1)))) (mTruth (m2 gEq (mCall cLen (mCons (mVar 1) mNil)) (mC (.int 0))))))
  (mRet (mCallF f__law_of [.slot 0, .dat] (mSlot 0 (mCons (mVar 3) mNil))))
  mNx)
  (mSeq (mPar [4, 5] (mCons (mCallF f__law_take [.slot 0, .dat] (mSlot 0 (mCons (mC (.int 7)) mNil))) (mCons (mCallF f__law_take [.slot 0, .dat] (mSlot 0 (mCons (mCall cLen (mCons (mVar 1) mNil)) mNil))) mNil)))
  (mSeq (mSet 6 (mCall cLst (mCons (mVar 1) mNil)))
  (mSeq (mIfS (mTruth (m2 gEq (mVar 4) (mC (.int 0))))
  (mRet (mCall cLst (mCons (mVar 1) mNil)))
  mNx)
  (mSeq (mIfS (mTruth (m2 gEq (mVar 4) (mC (.int 1))))
  (mRet (mCall cTup (mCons (m2 gAdd (mSl gSl (mVar 6) mNoPart (mPart (mVar 5))) (mSl gSl (mVar 6) (mPart (m2 gAdd (mVar 5) (mC (.int 1)))) mNoPart)) mNil)))
  mNx)
  (mSeq (mIfS (mTruth (m2 gEq (mVar 4) (mC (.int 2))))
  (mRet (mCall cTup (mCons (m2 gAdd (mSl gSl (mVar 6) mNoPart (mPart (m2 gAdd (mVar 5) (mC (.int 1))))) (mSl gSl (mVar 6) (mPart (mVar 5)) mNoPart)) mNil)))
  mNx)
  (mSeq (mIfS (mTruth (m2 gEq (mVar 4) (mC (.int 3))))
  (mRet (mCall cTup (mCons (m2 gAdd (m2 gAdd (mSl gSl (mVar 6) mNoPart (mPart (mVar 5))) (mLst (mCons (mCallF f__law_of [.slot 0, .dat] (mSlot 0 (mCons (mVar 3) mNil))) mNil))) (mSl gSl (mVar 6) (mPart (mVar 5)) mNoPart)) mNil)))
  mNx)
  (mSeq (mIfS (mTruth (m2 gEq (mVar 4) (mC (.int 4))))
  (mRet (mCall cTup (mCons (m1 gRevA (mVar 6)) mNil)))
  mNx)
  (mSeq (mSetIx 6 (mCallF (f__law_spoilt_v2 n) [.slot 0, .dat, .dat] (mSlot 0 (mCons (mIxO 6 (mVar 5)) (mCons (m2 gSub (mVar 2) (mC (.int 1))) mNil)))) (mVar 5))
  (mRet (mCall cTup (mCons (mVar 6) mNil)))))))))))))))
def f__law_hand_right_v8 : Fn := runF false 7 [] ((mSeq (mSet 0 (mLst (mCons (mTup (mCons (mC (.str "up")) (mCons (mC (.int 0)) mNil))) (mCons (mTup (mCons (mC (.str "up")) (mCons (m1 gNeg (m2 gPow (mC (.int 10)) (mC (.int 41)))) mNil))) (mCons (mTup (mCons (mC (.str "most")) (mCons (mC (.str "cap")) (mCons (mC (.int 3)) mNil)))) (mCons (mTup (mCons (mC (.str "least")) (mCons (mC (.str "nought")) (mCons (m1 gNeg (mC (.int 1))) mNil)))) (mCons (mTup (mCons (mC (.str "most")) (mCons (mC (.str "start")) (mCons (mC (.int 0)) mNil)))) mNil)))))))
  (mSeq (mDrop (mApp 0 (mTup (mCons (mC (.str "least")) (mCons (mC (.str "abcdefgh")) (mCons (mC (.int 1)) mNil))))))
  (mSeq (mSet 1 (mLst (mCons (mTup (mCons (mC (.str "up")) mNil)) (mCons (mTup (mCons (mC (.str "up")) (mCons (mC (.str "a")) mNil))) (mCons (mTup (mCons (mC (.str "up")) (mCons (mC (.bool true)) mNil))) (mCons (mTup (mCons (mC (.str "up")) (mCons (mC (.str "a")) (mCons (mC (.int 1)) mNil)))) (mCons (mTup (mCons (mC (.str "most")) (mCons (mC (.int 1)) mNil))) (mCons (mTup (mCons (mC (.str "most")) (mCons (mC (.str "cap")) mNil))) mNil))))))))
  (mSeq (mSet 1 (m2 gAdd (mVar 1) (mLst (mCons (mTup (mCons (mC (.str "most")) (mCons (mC (.str "cap")) (mCons (mC (.bool true)) mNil)))) (mCons (mTup (mCons (mC (.str "most")) (mCons (mC (.str "cap")) (mCons (mC .none) mNil)))) mNil)))))
  (mSeq (mSet 1 (m2 gAdd (mVar 1) (mLst (mCons (mTup (mCons (mC (.str "most")) (mCons (mC (.str "Cap")) (mCons (mC (.int 1)) mNil)))) (mCons (mTup (mCons (mC (.str "most")) (mCons (mC (.str "")) (mCons (mC (.int 1)) mNil)))) (mCons (mTup (mCons (mC (.str "least")) (mCons (mC (.str "abcdefghi")) (mCons (mC (.int 1)) mNil)))) (mCons (mTup (mCons (mC (.str "least")) (mCons (mC (.int 1)) (mCons (mC (.int 1)) mNil)))) mNil)))))))
  (mSeq (mSet 1 (m2 gAdd (mVar 1) (mLst (mCons (mTup (mCons (mC (.str "least")) (mCons (mC (.str "a")) (mCons (mC (.int 1)) (mCons (mC (.int 1)) mNil))))) (mCons (mTup (mCons (mC (.str "less")) (mCons (mC (.str "a")) (mCons (mC (.int 1)) mNil)))) mNil)))))
  (mSeq (mSet 1 (m2 gAdd (mVar 1) (mLst (mCons (mLst (mCons (mC (.str "up")) (mCons (mC (.int 1)) mNil))) (mCons (mTup (mCons (mC (.str "Up")) (mCons (mC (.int 1)) mNil))) (mCons (mTup (mCons (mC (.int 1)) (mCons (mC (.int 1)) mNil))) (mCons (mTup (mCons (mTup mNil) (mCons (mC (.int 1)) mNil))) (mCons (mC (.str "up")) (mCons (mC .none) (mCons (mC (.int 0)) (mCons (mTup mNil) (mCons (mC (.bool true)) (mCons (mTup (mCons (mC (.str "up")) (mCons (mTup (mCons (mC (.int 1)) mNil)) mNil))) mNil)))))))))))))
  (mSeq (mSet 1 (m2 gAdd (mVar 1) (mLst (mCons (mTup (mCons (mC (.str "most")) (mCons (mTup (mCons (mC (.str "a")) mNil)) (mCons (mC (.int 1)) mNil)))) (mCons (mTup (mCons (mC (.str "most")) (mCons (mC (.str "a")) (mCons (mC (.str "1")) mNil)))) mNil)))))
  (mSeq (mSet 2 (m2 gAdd (mLc (.nm 6) [6] (mSeqOf (m2 gAdd (mVar 0) (mVar 1))) (M.pure true) (mCallF f_is_step [.dat] (mCons (mVar 6) mNil))) (mLst (mCons (mCallK f_is_step [0] (mCons (mTup (mCons (mC (.str "up")) (mCons (mC (.int 1)) mNil))) mNil)) mNil))))
  (mSeq (mSet 3 (m2 gAdd (m2 gAdd (m2 gMul (mLst (mCons (mC (.bool true)) mNil)) (mCall cLen (mCons (mVar 0) mNil))) (m2 gMul (mLst (mCons (mC (.bool false)) mNil)) (mCall cLen (mCons (mVar 1) mNil)))) (mLst (mCons (mC (.bool true)) mNil))))
  (mSeq (mSet 4 (mLst (mCons (mTup mNil) (mCons (mCall cTup (mCons (mVar 0) mNil)) (mCons (m2 gMul (mTup (mCons (mTup (mCons (mC (.str "up")) (mCons (mC (.int 1)) mNil))) mNil)) (mC (.int 25))) (mCons (mTup (mCons (mTup (mCons (mC (.str "most")) (mCons (mC (.str "a")) (mCons (mC (.int 1)) mNil)))) (mCons (mTup (mCons (mC (.str "most")) (mCons (mC (.str "a")) (mCons (mC (.int 1)) mNil)))) mNil))) mNil))))))
  (mSeq (mSet 5 (mLst (mCons (mTup (mCons (mC (.str "up")) (mCons (mC (.int 1)) mNil))) (mCons (mLst (mCons (mTup (mCons (mC (.str "up")) (mCons (mC (.int 1)) mNil))) mNil)) (mCons (mTup (mCons (mLst (mCons (mC (.str "up")) (mCons (mC (.int 1)) mNil))) mNil)) (mCons (mTup (mCons (mTup mNil) mNil)) (mCons (mTup (mCons (mC .none) mNil)) (mCons (mC .none) (mCons (mC (.int 0)) (mCons (mC (.str "")) (mCons (mC (.str "up")) (mCons (mC (.bool true)) (mCons (mTup (mCons (mC (.str "up")) mNil)) mNil)))))))))))))
  (mSeq (mSet 5 (m2 gAdd (mVar 5) (mLst (mCons (mTup (mCons (mTup (mCons (mC (.str "up")) (mCons (mC (.int 1)) mNil))) (mCons (mTup (mCons (mC (.str "up")) (mCons (mC (.bool true)) mNil))) mNil))) (mCons (mLst mNil) (mCons (mTup (mCons (mTup (mCons (mTup (mCons (mC (.str "up")) (mCons (mC (.int 1)) mNil))) mNil)) mNil)) mNil))))))
  (mSeq (mSet 2 (m2 gAdd (m2 gAdd (mVar 2) (mLc (.nm 6) [6] (mSeqOf (m2 gAdd (mVar 4) (mVar 5))) (M.pure true) (mCallF f_is_list [.dat] (mCons (mVar 6) mNil)))) (mLst (mCons (mCallK f_is_list [0] (mCons (m2 gIx (mVar 4) (mC (.int 1))) mNil)) mNil))))
  (mRet (mCallF (f__law_same 16) [.dat, .dat] (mCons (mVar 2) (mCons (m2 gAdd (m2 gAdd (m2 gAdd (mVar 3) (m2 gMul (mLst (mCons (mC (.bool true)) mNil)) (mCall cLen (mCons (mVar 4) mNil)))) (m2 gMul (mLst (mCons (mC (.bool false)) mNil)) (mCall cLen (mCons (mVar 5) mNil)))) (mLst (mCons (mC (.bool true)) mNil))) mNil)))))))))))))))))))
def f__law_right_v8 : Fn := runF false 5 [0] ((mSeq (mFor (.nm 1) (mRng rng1 (mCons (mC (.int 30)) mNil))
  (mSeq (mSet 2 (mCallF f__law_row [.slot 0, .dat, .dat, .dat] (mSlot 0 (mCons (mCallF f__law_tags [.slot 0, .dat] (mSlot 0 (mCons (mC (.int 3)) mNil))) (mCons (mC (.int 5)) (mCons (mC (.int 9)) mNil))))))
  (mSeq (mIfS (mTruth (m2 gGt (mCallF f__law_take [.slot 0, .dat] (mSlot 0 (mCons (mC (.int 4)) mNil))) (mC (.int 0))))
  (mSet 2 (mCallF (f__law_spoilt_v2 16) [.slot 0, .dat, .dat] (mSlot 0 (mCons (mVar 2) (mCons (m2 gAdd (mC (.int 1)) (mCallF f__law_take [.slot 0, .dat] (mSlot 0 (mCons (mC (.int 3)) mNil)))) mNil)))))
  mNx)
  (mSeq (mSet 3 (mAndV (m1 (gIsi "tuple") (mVar 2)) (m2 gEq (mLc (.nm 4) [4] (mSeqOf (mCall cLst (mCons (mVar 2) mNil))) (mNot (mTruth (mCallF f__law_is_deed [.dat] (mCons (mVar 4) mNil)))) (mVar 4)) (mLst mNil))))
  (mSeq (mIfS (mNot (mTruth (mCallF (f__law_same 16) [.dat, .dat] (mCons (mCallF f_is_list [.dat] (mCons (mVar 2) mNil)) (mCons (mVar 3) mNil)))))
  (mRet (mC (.bool false)))
  mNx)
  (mSeq (mSet 4 (mCallF (f__law_spoilt_v2 16) [.slot 0, .dat, .dat] (mSlot 0 (mCons (mCallF f__law_deed [.slot 0, .dat, .dat] (mSlot 0 (mCons (mLst (mCons (mC (.str "a")) (mCons (mC (.str "nought")) mNil))) (mCons (mC (.int 9)) mNil)))) (mCons (mCallF f__law_take [.slot 0, .dat] (mSlot 0 (mCons (mC (.int 3)) mNil))) mNil)))))
  (mIfS (mNot (mTruth (mCallF (f__law_same 16) [.dat, .dat] (mCons (mCallF f_is_step [.dat] (mCons (mVar 4) mNil)) (mCons (mCallF f__law_is_deed [.dat] (mCons (mVar 4) mNil)) mNil)))))
  (mRet (mC (.bool false)))
  mNx)))))))
  (mRet (mC (.bool true)))))
def f_law_v8 : Fn := runF false 3 [] ((mSeq (mIfS (mNot (mTruth (mCallF f__law_hand_right_v8 [] mNil)))
  (mRet (mC (.bool false)))
  mNx)
  (mSeq (mSet 1 (mCallF f__law_cells [.dat, .dat] (mCons (mVar 0) (mCons (mC (.int 3)) mNil))))
  (mRet (mCall cAll (mCons (mLc (.nm 2) [2] (mRng rng1 (mCons (mCall cLen (mCons (mVar 1) mNil)) mNil)) (M.pure true) (mCallF f__law_right_v8 [.tmp] (mCons (mCallF f__law_box_v8 [.dat, .dat] (mCons (mVar 1) (mCons (mVar 2) mNil))) mNil))) mNil))))))
def f_names_in : Fn := runF false 2 [] ((mRet (mCallF f_set_of [.dat] (mCons (mLc (.nm 1) [1] (mSeqOf (mVar 0)) (mTruth (m2 gNe (m2 gIx (mVar 1) (mC (.int 0))) (mC (.str "up")))) (m2 gIx (mVar 1) (mC (.int 1)))) mNil))))
def f_all_ups : Fn := runF false 2 [] ((mRet (mCall cSum (mCons (mLc (.nm 1) [1] (mSeqOf (mVar 0)) (mTruth (m2 gEq (m2 gIx (mVar 1) (mC (.int 0))) (mC (.str "up")))) (m2 gIx (mVar 1) (mC (.int 1)))) mNil))))
def f_terms : Fn := runF false 4 [] ((mSeq (mPar [1, 2] (mCons (mLst mNil) (mCons (mC (.int 0)) mNil)))
  (mSeq (mFor (.nm 3) (mSeqOf (m1 gRevA (mCallF (f_tupled 16) [.dat] (mCons (mVar 0) mNil))))
  (mIfS (mTruth (m2 gEq (m2 gIx (mVar 3) (mC (.int 0))) (mC (.str "up"))))
  (mAug (fun i j => i + j) 2 (m2 gIx (mVar 3) (mC (.int 1))))
  (mDrop (mApp 1 (mTup (mCons (m2 gIx (mVar 3) (mC (.int 0))) (mCons (m2 gIx (mVar 3) (mC (.int 1))) (mCons (m2 gAdd (m2 gIx (mVar 3) (mC (.int 2))) (mVar 2)) mNil))))))))
  (mRet (mTupS (mCons (mTup (mCons (mC (.str "start")) (mCons (mC (.str "start")) (mCons (mVar 2) mNil)))) (mStar (m1 gRevA (mVar 1)) mNil)))))))
def f_leveled : Fn := runF false 3 [] ((mSeq (mStar2 (.nm 1) (.nm 2) (mCallF f_terms [.dat] (mCons (mVar 0) mNil)))
  (mRet (mTupS (mCons (mTup (mCons (mC (.str "up")) (mCons (m2 gIx (mVar 1) (mC (.int 2))) mNil))) (mStar (mVar 2) mNil))))))
def f_moved : Fn := runF false 2 [] ((mRet (mTupS (mStar (mCallF (f_tupled 16) [.dat] (mCons (mVar 0) mNil)) (mCons (mTup (mCons (mC (.str "up")) (mCons (mVar 1) mNil))) mNil)))))
def f_put_behind : Fn := runF false 2 [] ((mRet (mTupS (mStar (mCallF (f_tupled 16) [.dat] (mCons (mVar 0) mNil)) (mStar (mCallF (f_tupled 16) [.dat] (mCons (mVar 1) mNil)) mNil)))))
def f_opposite : Fn := runF false 3 [] ((mSeq (mSet 1 (mLst mNil))
  (mSeq (mFor (.nm 2) (mSeqOf (mCallF (f_tupled 16) [.dat] (mCons (mVar 0) mNil)))
  (mDrop (mApp 1 (mIf (mTruth (m2 gEq (m2 gIx (mVar 2) (mC (.int 0))) (mC (.str "up")))) (mTup (mCons (mC (.str "up")) (mCons (m1 gNeg (m2 gIx (mVar 2) (mC (.int 1)))) mNil))) (mTup (mCons (m1 (gKix [("most", "least"), ("least", "most")]) (m2 gIx (mVar 2) (mC (.int 0)))) (mCons (m2 gIx (mVar 2) (mC (.int 1))) (mCons (m1 gNeg (m2 gIx (mVar 2) (mC (.int 2)))) mNil))))))))
  (mRet (mCall cTup (mCons (mVar 1) mNil))))))
def f__law_box_v9 : Fn := runF true 3 [] ((mSeq (mSet 2 (mIf (mTruth (m2 gLt (mVar 1) (mCall cLen (mCons (mVar 0) mNil)))) (m2 gIx (mVar 0) (mVar 1)) (mC (.int 0))))
  (mRet (mLst (mCons (m2 gMul (mCall cAbs (mCons (mVar 2) mNil)) (mCall cInt (mCons (m2 gGe (mCall cAbs (mCons (mVar 2) mNil)) (m2 gPow (mC (.int 10)) (mC (.int 18)))) mNil))) (mCons (m2 gAdd (m2 gAdd (m2 gMod (mCall cInt (mCons (mVar 2) mNil)) (mC (.int 2305843009213693951))) (m2 gMul (mC (.int 39373)) (mVar 1))) (mC (.int 1015))) (mCons (mC (.int 0)) mNil)))))))
def f__law_terms : Fn := runF false 4 [] ((mSeq (mPar [1, 2] (mCons (mLst mNil) (mCons (mC (.int 0)) mNil)))
  (mSeq (mFor (.nm 3) (mRng rng3 (mCons (m2 gSub (mCall cLen (mCons (mVar 0) mNil)) (mC (.int 1))) (mCons (m1 gNeg (mC (.int 1))) (mCons (m1 gNeg (mC (.int 1))) mNil))))
  (mIfS (mTruth (m2 gEq (m2 gIx (m2 gIx (mVar 0) (mVar 3)) (mC (.int 0))) (mC (.str "up"))))
  (mSet 2 (m2 gAdd (mVar 2) (m2 gIx (m2 gIx (mVar 0) (mVar 3)) (mC (.int 1)))))
  (mDrop (mApp 1 (mTup (mCons (mVar 3) (mCons (m2 gIx (m2 gIx (mVar 0) (mVar 3)) (mC (.int 0))) (mCons (m2 gIx (m2 gIx (mVar 0) (mVar 3)) (mC (.int 1))) (mCons (m2 gAdd (m2 gIx (m2 gIx (mVar 0) (mVar 3)) (mC (.int 2))) (mVar 2)) mNil)))))))))
  (mRet (m2 gAdd (mLst (mCons (mTup (mCons (m1 gNeg (mC (.int 1))) (mCons (mC (.str "start")) (mCons (mC (.str "start")) (mCons (mVar 2) mNil))))) mNil)) (m1 gRevA (mVar 1)))))))
def f__law_about : Fn := runF false 3 [] ((mSeq (mSet 1 (mLst mNil))
  (mSeq (mFor (.nm 2) (mSeqOf (mVar 0))
  (mIfS (mTruth (m2 gEq (m2 gIx (mVar 2) (mC (.int 0))) (mC (.str "up"))))
  (mDrop (mApp 1 (mTup (mCons (mC (.str "up")) (mCons (m2 gSub (mC (.int 0)) (m2 gIx (mVar 2) (mC (.int 1)))) mNil)))))
  (mDrop (mApp 1 (mTup (mCons (mIf (mTruth (m2 gEq (m2 gIx (mVar 2) (mC (.int 0))) (mC (.str "most")))) (mC (.str "least")) (mC (.str "most"))) (mCons (m2 gIx (mVar 2) (mC (.int 1))) (mCons (m2 gSub (mC (.int 0)) (m2 gIx (mVar 2) (mC (.int 2)))) mNil))))))))
  (mRet (mCall cTup (mCons (mVar 1) mNil))))))
def f__law_hand_right_v9 : Fn := runF false 6 [] ((mSeq (mBind (.tp [(.nm 0), (.nm 1)]) (mTup (mCons (mTup (mCons (mTup (mCons (mC (.str "up")) (mCons (mC (.int 50)) mNil))) (mCons (mTup (mCons (mC (.str "most")) (mCons (mC (.str "cap")) (mCons (mC (.int 0)) mNil)))) (mCons (mTup (mCons (mC (.str "up")) (mCons (m1 gNeg (mC (.int 5))) mNil))) (mCons (mTup (mCons (mC (.str "least")) (mCons (mC (.str "floor")) (mCons (mC (.int 2)) mNil)))) mNil))))) (mCons (m2 gPow (mC (.int 10)) (mC (.int 38))) mNil))))
  (mSeq (mSet 2 (mLst (mCons (mCallF f_names_in [.dat] (mCons (mVar 0) mNil)) (mCons (mCallF f_names_in [.dat] (mCons (mTup mNil) mNil)) (mCons (mCallF f_names_in [.dat] (mCons (mTup (mCons (mTup (mCons (mC (.str "up")) (mCons (mC (.int 3)) mNil))) mNil)) mNil)) mNil)))))
  (mSeq (mDrop (mApp 2 (mCallF f_names_in [.dat] (mCons (mTup (mCons (mTup (mCons (mC (.str "most")) (mCons (mC (.str "b")) (mCons (mC (.int 1)) mNil)))) (mCons (mTup (mCons (mC (.str "least")) (mCons (mC (.str "a")) (mCons (mC (.int 1)) mNil)))) (mCons (mTup (mCons (mC (.str "most")) (mCons (mC (.str "b")) (mCons (mC (.int 2)) mNil)))) mNil)))) mNil))))
  (mSeq (mSet 3 (mLst (mCons (mTup (mCons (mC (.str "cap")) (mCons (mC (.str "floor")) mNil))) (mCons (mTup mNil) (mCons (mTup mNil) (mCons (mTup (mCons (mC (.str "a")) (mCons (mC (.str "b")) mNil))) mNil))))))
  (mSeq (mSet 2 (m2 gCat (mVar 2) (mLst (mCons (mCallF f_all_ups [.dat] (mCons (mVar 0) mNil)) (mCons (mCallF f_all_ups [.dat] (mCons (mTup mNil) mNil)) (mCons (mCallF f_all_ups [.dat] (mCons (mTup (mCons (mTup (mCons (mC (.str "most")) (mCons (mC (.str "a")) (mCons (mC (.int 7)) mNil)))) mNil)) mNil)) mNil))))))
  (mSeq (mSet 2 (m2 gCat (mVar 2) (mLst (mCons (mCallF f_all_ups [.dat] (mCons (mLst (mCons (mLst (mCons (mC (.str "up")) (mCons (mVar 1) mNil))) (mCons (mLst (mCons (mC (.str "up")) (mCons (m2 gSub (mC (.int 1)) (mVar 1)) mNil))) mNil))) mNil)) (mCons (mCallF f_terms [.dat] (mCons (mVar 0) mNil)) mNil)))))
  (mSeq (mSet 3 (m2 gCat (mVar 3) (mLst (mCons (mC (.int 45)) (mCons (mC (.int 0)) (mCons (mC (.int 0)) (mCons (mC (.int 1)) (mCons (mTup (mCons (mTup (mCons (mC (.str "start")) (mCons (mC (.str "start")) (mCons (mC (.int 45)) mNil)))) (mCons (mTup (mCons (mC (.str "most")) (mCons (mC (.str "cap")) (mCons (m1 gNeg (mC (.int 5))) mNil)))) (mCons (mTup (mCons (mC (.str "least")) (mCons (mC (.str "floor")) (mCons (mC (.int 2)) mNil)))) mNil)))) mNil))))))))
  (mSeq (mSet 2 (m2 gCat (mVar 2) (mLst (mCons (mCallF f_terms [.dat] (mCons (mTup mNil) mNil)) (mCons (mCallF f_terms [.dat] (mCons (mTup (mCons (mTup (mCons (mC (.str "most")) (mCons (mC (.str "start")) (mCons (mC (.int 0)) mNil)))) (mCons (mTup (mCons (mC (.str "up")) (mCons (mC (.int 2)) mNil))) (mCons (mTup (mCons (mC (.str "up")) (mCons (mC (.int 3)) mNil))) (mCons (mTup (mCons (mC (.str "most")) (mCons (mC (.str "start")) (mCons (mC (.int 0)) mNil)))) mNil))))) mNil)) mNil)))))
  (mSeq (mDrop (mApp 2 (mCallF f_terms [.dat] (mCons (mCallF (f__law_lists 16) [.dat] (mCons (mVar 0) mNil)) mNil))))
  (mSeq (mSet 3 (m2 gCat (mVar 3) (mLst (mCons (mTup (mCons (mTup (mCons (mC (.str "start")) (mCons (mC (.str "start")) (mCons (mC (.int 0)) mNil)))) mNil)) (mCons (mTup (mCons (mTup (mCons (mC (.str "start")) (mCons (mC (.str "start")) (mCons (mC (.int 5)) mNil)))) (mCons (mTup (mCons (mC (.str "most")) (mCons (mC (.str "start")) (mCons (mC (.int 5)) mNil)))) (mCons (mTup (mCons (mC (.str "most")) (mCons (mC (.str "start")) (mCons (mC (.int 0)) mNil)))) mNil)))) mNil)))))
  (mSeq (mDrop (mApp 3 (mIxO 3 (m2 gAdd (mC (.int 4)) (mC (.int 4))))))
  (mSeq (mSet 2 (m2 gCat (mVar 2) (mLst (mCons (mCallF f_leveled [.dat] (mCons (mVar 0) mNil)) (mCons (mCallF f_leveled [.dat] (mCons (mTup mNil) mNil)) (mCons (mCallF f_leveled [.dat] (mCons (mLst (mCons (mLst (mCons (mC (.str "up")) (mCons (mC (.int 2)) mNil))) mNil)) mNil)) (mCons (mCallK f_leveled [0] (mCons (mCallF (f__law_lists 16) [.dat] (mCons (mVar 0) mNil)) mNil)) mNil)))))))
  (mSeq (mSet 3 (m2 gCat (mVar 3) (mLst (mCons (mTup (mCons (mTup (mCons (mC (.str "up")) (mCons (mC (.int 45)) mNil))) (mCons (mTup (mCons (mC (.str "most")) (mCons (mC (.str "cap")) (mCons (m1 gNeg (mC (.int 5))) mNil)))) (mCons (mTup (mCons (mC (.str "least")) (mCons (mC (.str "floor")) (mCons (mC (.int 2)) mNil)))) mNil)))) (mCons (mTup (mCons (mTup (mCons (mC (.str "up")) (mCons (mC (.int 0)) mNil))) mNil)) (mCons (mTup (mCons (mTup (mCons (mC (.str "up")) (mCons (mC (.int 2)) mNil))) mNil)) mNil))))))
  (mSeq (mDrop (mApp 3 (mIxO 3 (m2 gSub (mLenO 3) (mC (.int 3))))))
  (mSeq (mSet 2 (m2 gCat (mVar 2) (mLst (mCons (mCallF f_opposite [.dat] (mCons (mVar 0) mNil)) (mCons (mCallF f_opposite [.dat] (mCons (mTup mNil) mNil)) (mCons (mCallF f_opposite [.dat] (mCons (mCallF (f__law_lists 16) [.dat] (mCons (mVar 0) mNil)) mNil)) (mCons (mCallF f_moved [.dat, .dat] (mCons (mTup mNil) (mCons (mC (.int 3)) mNil))) mNil)))))))
  (mSeq (mDrop (mApp 2 (mCallK f_moved [1, 0] (mCons (m1 gNeg (mVar 1)) (mCons (mLst (mCons (mLst (mCons (mC (.str "up")) (mCons (mC (.int 1)) mNil))) mNil)) mNil)))))
  (mSeq (mSet 3 (m2 gCat (mVar 3) (mLst (mCons (mTup (mCons (mTup (mCons (mC (.str "up")) (mCons (m1 gNeg (mC (.int 50))) mNil))) (mCons (mTup (mCons (mC (.str "least")) (mCons (mC (.str "cap")) (mCons (mC (.int 0)) mNil)))) (mCons (mTup (mCons (mC (.str "up")) (mCons (mC (.int 5)) mNil))) (mCons (mTup (mCons (mC (.str "most")) (mCons (mC (.str "floor")) (mCons (m1 gNeg (mC (.int 2))) mNil)))) mNil))))) (mCons (mTup mNil) mNil)))))
  (mSeq (mSet 3 (m2 gCat (mVar 3) (mLst (mCons (m2 gIx (mVar 3) (m2 gSub (mCall cLen (mCons (mVar 3) mNil)) (mC (.int 2)))) (mCons (mTup (mCons (mTup (mCons (mC (.str "up")) (mCons (mC (.int 3)) mNil))) mNil)) (mCons (mTup (mCons (mTup (mCons (mC (.str "up")) (mCons (mC (.int 1)) mNil))) (mCons (mTup (mCons (mC (.str "up")) (mCons (m2 gSub (mC (.int 0)) (mVar 1)) mNil))) mNil))) mNil))))))
  (mSeq (mSet 2 (m2 gCat (mVar 2) (mLst (mCons (mCallF f_put_behind [.dat, .dat] (mCons (mTup (mCons (mTup (mCons (mC (.str "up")) (mCons (mC (.int 1)) mNil))) mNil)) (mCons (mTup (mCons (mTup (mCons (mC (.str "most")) (mCons (mC (.str "a")) (mCons (mC (.int 0)) mNil)))) mNil)) mNil))) (mCons (mCallF f_put_behind [.dat, .dat] (mCons (mTup mNil) (mCons (mTup mNil) mNil))) mNil)))))
  (mSeq (mDrop (mApp 2 (mCallK f_put_behind [1, 0] (mCons (mLst (mCons (mLst (mCons (mC (.str "up")) (mCons (mC (.int 2)) mNil))) mNil)) (mCons (mCallF (f__law_lists 16) [.dat] (mCons (mVar 0) mNil)) mNil)))))
  (mSeq (mSet 3 (m2 gCat (mVar 3) (mLst (mCons (mTup (mCons (mTup (mCons (mC (.str "up")) (mCons (mC (.int 1)) mNil))) (mCons (mTup (mCons (mC (.str "most")) (mCons (mC (.str "a")) (mCons (mC (.int 0)) mNil)))) mNil))) (mCons (mTup mNil) (mCons (m2 gAdd (mVar 0) (mTup (mCons (mTup (mCons (mC (.str "up")) (mCons (mC (.int 2)) mNil))) mNil))) mNil))))))
  (mSeq (mSet 4 (mCall cTup (mCons (mLc (.nm 5) [5] (mRng rng1 (mCons (mC (.int 24)) mNil)) (M.pure true) (mIf (mTruth (m2 gEq (m2 gMod (mCall cInt (mCons (mVar 5) mNil)) (mC (.int 2))) (mC (.int 0)))) (mTup (mCons (mC (.str "up")) (mCons (mVar 1) mNil))) (mTup (mCons (mC (.str "most")) (mCons (mC (.str "a")) (mCons (mVar 5) mNil)))))) mNil)))
  (mSeq (mSet 2 (m2 gCat (mVar 2) (mLst (mCons (m2 gIx (mCallF f_terms [.dat] (mCons (mVar 4) mNil)) (mC (.int 0))) (mCons (m2 gIx (mCallF f_terms [.dat] (mCons (mVar 4) mNil)) (mC (.int 1))) (mCons (m2 gIx (mCallF f_terms [.dat] (mCons (mVar 4) mNil)) (mC (.int 12))) (mCons (mCallF f_all_ups [.dat] (mCons (mVar 4) mNil)) (mCons (mCall cLen (mCons (mCallF f_leveled [.dat] (mCons (mVar 4) mNil)) mNil)) mNil))))))))
  (mSeq (mSet 3 (m2 gCat (mVar 3) (mLst (mCons (mTup (mCons (mC (.str "start")) (mCons (mC (.str "start")) (mCons (m2 gMul (mC (.int 12)) (mVar 1)) mNil)))) (mCons (mTup (mCons (mC (.str "most")) (mCons (mC (.str "a")) (mCons (m2 gAdd (m2 gMul (mC (.int 11)) (mVar 1)) (mC (.int 1))) mNil)))) (mCons (mTup (mCons (mC (.str "most")) (mCons (mC (.str "a")) (mCons (mC (.int 23)) mNil)))) mNil))))))
  (mRet (mCallF (f__law_same 16) [.dat, .dat] (mCons (mVar 2) (mCons (m2 gAdd (mVar 3) (mLst (mCons (m2 gMul (mC (.int 12)) (mVar 1)) (mCons (mC (.int 13)) mNil)))) mNil)))))))))))))))))))))))))))))
def f__law_right_v9 : Fn := runF false 12 [0] ((mSeq (mFor (.nm 1) (mRng rng1 (mCons (mC (.int 15)) mNil))
  (mSeq (mSet 2 (mCallF f__law_tags [.slot 0, .dat] (mSlot 0 (mCons (mC (.int 4)) mNil))))
  (mSeq (mPar [3, 4, 5] (mCons (mCallF f__law_row [.slot 0, .dat, .dat, .dat] (mSlot 0 (mCons (mVar 2) (mCons (mC (.int 9)) (mCons (mC (.int 9)) mNil))))) (mCons (mCallF f__law_row [.slot 0, .dat, .dat, .dat] (mSlot 0 (mCons (mVar 2) (mCons (mC (.int 5)) (mCons (mC (.int 9)) mNil))))) (mCons (m2 gSub (mCallF f__law_take [.slot 0, .dat] (mSlot 0 (mCons (mC (.int 9)) mNil))) (mC (.int 4))) mNil))))
  (mSeq (mPar [6, 7] (mCons (mCallF (f__law_lists 16) [.dat] (mCons (mVar 3) mNil)) (mCons (mCallF (f__law_lists 16) [.dat] (mCons (mVar 4) mNil)) mNil)))
  (mSeq (mSet 8 (mCallF f__law_terms [.dat] (mCons (mVar 3) mNil)))
  (mSeq (mSet 9 (mLst (mCons (mCallF f_names_in [.dat] (mCons (mVar 3) mNil)) (mCons (mCallF f_all_ups [.dat] (mCons (mVar 6) mNil)) (mCons (mCallF f_terms [.dat] (mCons (mVar 3) mNil)) (mCons (mCallF f_leveled [.dat] (mCons (mVar 6) mNil)) (mCons (mCallF f_opposite [.dat] (mCons (mVar 3) mNil)) (mCons (mCallF f_moved [.dat, .dat] (mCons (mVar 6) (mCons (mVar 5) mNil))) mNil))))))))
  (mSeq (mDrop (mApp 9 (mCallF f_put_behind [.dat, .dat] (mCons (mVar 3) (mCons (mVar 7) mNil)))))
  (mSeq (mSet 10 (mLst (mCons (mCall cTup (mCons (m1 gSSet (mLc (.nm 11) [11] (mSeqOf (mSl gSl (mVar 8) (mPart (mC (.int 1))) mNoPart)) (M.pure true) (m2 gIx (mVar 11) (mC (.int 2))))) mNil)) (mCons (m2 gIx (m2 gIx (mVar 8) (mC (.int 0))) (mC (.int 3))) (mCons (mCall cTup (mCons (mLc (.nm 11) [11] (mSeqOf (mVar 8)) (M.pure true) (mSl gSl (mVar 11) (mPart (mC (.int 1))) mNoPart)) mNil)) mNil)))))
  (mSeq (mDrop (mApp 10 (m2 gAdd (mTup (mCons (mTup (mCons (mC (.str "up")) (mCons (m2 gIx (m2 gIx (mVar 8) (mC (.int 0))) (mC (.int 3))) mNil))) mNil)) (mCall cTup (mCons (mLc (.nm 11) [11] (mSeqOf (mSl gSl (mVar 8) (mPart (mC (.int 1))) mNoPart)) (M.pure true) (mSl gSl (mVar 11) (mPart (mC (.int 1))) mNoPart)) mNil)))))
  (mSeq (mSet 10 (m2 gCat (mVar 10) (mLst (mCons (mCallF f__law_about [.dat] (mCons (mVar 3) mNil)) (mCons (m2 gAdd (mVar 3) (mTup (mCons (mTup (mCons (mC (.str "up")) (mCons (mVar 5) mNil))) mNil))) mNil)))))
  (mSeq (mSet 10 (m2 gCat (mVar 10) (mLst (mCons (m2 gAdd (mVar 3) (mVar 4)) (mCons (mVar 3) (mCons (mCallF (f__law_lists 16) [.dat] (mCons (mVar 3) mNil)) (mCons (mCallF (f__law_lists 16) [.dat] (mCons (mVar 4) mNil)) mNil)))))))
  (mIfS (mNot (mTruth (mCallF (f__law_same 16) [.dat, .dat] (mCons (m2 gAdd (mVar 9) (mLst (mCons (mCallF f_opposite [.dat] (mCons (mCallF f_opposite [.dat] (mCons (mVar 6) mNil)) mNil)) (mCons (mVar 6) (mCons (mVar 7) mNil))))) (mCons (mVar 10) mNil)))))
  (mRet (mC (.bool false)))
  mNx))))))))))))
  (mRet (mC (.bool true)))))
def f_law_v9 : Fn := runF false 3 [] ((mSeq (mIfS (mNot (mTruth (mCallF f__law_hand_right_v9 [] mNil)))
  (mRet (mC (.bool false)))
  mNx)
  (mSeq (mSet 1 (mCallF f__law_cells [.dat, .dat] (mCons (mVar 0) (mCons (mC (.int 3)) mNil))))
  (mRet (mCall cAll (mCons (mLc (.nm 2) [2] (mRng rng1 (mCons (mCall cLen (mCons (mVar 1) mNil)) mNil)) (M.pure true) (mCallF f__law_right_v9 [.tmp] (mCons (mCallF f__law_box_v9 [.dat, .dat] (mCons (mVar 1) (mCons (mVar 2) mNil))) mNil))) mNil))))))
end LL
end

section
set_option Elab.async false
set_option linter.all false
set_option maxRecDepth 100000
set_option maxHeartbeats 4000000
namespace K08
open PySem PySem.Spec PyProof.Rows L2 VL LL
def topS (i : Nat) : Stmt := PySem.Challenge.pw_lastlimit_k08_what_lists_tell.main.body.getD i (.Pass ⟨0, 0, 0, 0⟩)
abbrev kd_OTHER_KIND : List (Str × Str) := [("most", "least"), ("least", "most")]
structure Txt (K : PySem.W.Frag) (w : World) (mg : Str → Option Value) : Prop where
  b_abs : mg "abs" = none
  b_all : mg "all" = none
  b_bool : mg "bool" = none
  b_dict : mg "dict" = none
  b_enumerate : mg "enumerate" = none
  b_int : mg "int" = none
  b_isinstance : mg "isinstance" = none
  b_len : mg "len" = none
  b_list : mg "list" = none
  b_min : mg "min" = none
  b_range : mg "range" = none
  b_set : mg "set" = none
  b_sorted : mg "sorted" = none
  b_str : mg "str" = none
  b_sum : mg "sum" = none
  b_tuple : mg "tuple" = none
  b_zip : mg "zip" = none
  g_START : ∃ t, mg "START" = some (.str "start" t)
  g_UP : ∃ t, mg "UP" = some (.str "up" t)
  d_OTHER_KIND : KD K w mg "OTHER_KIND" kd_OTHER_KIND
abbrev s_tupled : Stmt := topS 2
abbrev N_tupled : List Str := ["thing", "part"]
theorem sc_tupled : FnScope N_tupled ["thing"] (defScope s_tupled) := ⟨rfl, rfl, rfl, by decide +kernel, rfl, by decide +kernel, by decide +kernel⟩
theorem ok_tupled {P : Program} {w : World} {K : PySem.W.Frag} {mg : Str → Option Value} {base : Heap} {B : Eb} (T : Txt K w mg)  {a_tupled : Addr} {fd_tupled : FuncData} (F_tupled : FunD K "tupled" "tupled" (defArgs s_tupled) (defBody s_tupled) (defScope s_tupled) [] [] a_tupled fd_tupled) (hm_tupled : mg "tupled" = some (.ref a_tupled)) : ∀ n, Cal P w K mg base B (1 + n) "tupled" s_tupled ["thing"] [false] false (f_tupled n)
  | 0 => cal_stk F_tupled hm_tupled rfl (fun _ _ _ _ _ _ us hl => match us, hl with | [_], _ => rfl)
  | n + 1 => by
    obtain c_tupled := ok_tupled (P := P) (w := w) (base := base) (B := B) T  F_tupled hm_tupled n
    exact cal_ok (On := []) (N := N_tupled) (ms := [false]) (n := 2) (Ps := []) rfl rfl rfl F_tupled hm_tupled sc_tupled rfl (fun _ _ _ _ _ _ us hl => match us, hl with | [_], _ => rfl) (fun cdv A outer s H E G hr => (vss_one (vs_ret (ve_if (vt_of (ve_isi2 (T := "list") (U := "tuple") (vv 0) rfl T.b_isinstance rfl T.b_list (by decide +kernel) rfl T.b_tuple (by decide +kernel))) (ve_callTy call_tupV rfl T.b_tuple (by decide +kernel) (va_cons (vo_e (vo_lc (own := [("part", 1)]) rfl sc_tupled.nd (vi_seq (vv 0)) (blkOk_by (own := [("part", 1)]) (N := N_tupled) (sc := defScope s_tupled) (by decide +kernel)) (fun _ _ _ _ _ => (vg_nm (i := 1) rfl sc_tupled.nd rfl (Or.inl rfl))) (fun _ _ _ _ _ => vts_nil) (fun _ _ _ _ _ => (ve_do c_tupled hr passL (vm_cons (vv 1) vm_nil))))) va_nil)) (vv 0)))))
abbrev s_set_of : Stmt := topS 3
abbrev N_set_of : List Str := ["things"]
theorem sc_set_of : FnScope N_set_of ["things"] (defScope s_set_of) := ⟨rfl, rfl, rfl, by decide +kernel, rfl, by decide +kernel, by decide +kernel⟩
theorem ok_set_of {P : Program} {w : World} {K : PySem.W.Frag} {mg : Str → Option Value} {base : Heap} {B : Eb} (T : Txt K w mg)  {a_set_of : Addr} {fd_set_of : FuncData} (F_set_of : FunD K "set_of" "set_of" (defArgs s_set_of) (defBody s_set_of) (defScope s_set_of) [] [] a_set_of fd_set_of) (hm_set_of : mg "set_of" = some (.ref a_set_of)) : Cal P w K mg base B 1 "set_of" s_set_of ["things"] [false] false f_set_of :=
  cal_ok (On := []) (N := N_set_of) (ms := [false]) (n := 1) (Ps := []) rfl rfl rfl F_set_of hm_set_of sc_set_of rfl (fun _ _ _ _ _ _ us hl => match us, hl with | [_], _ => rfl) (fun cdv A outer s H E G hr => (vss_one (vs_ret (ve_callTy call_tupV rfl T.b_tuple (by decide +kernel) (va_cons (vo_e (vo_sset rfl (huR hr) rfl T.b_sorted rfl T.b_set (vv 0))) va_nil)))))
abbrev s_names_in : Stmt := topS 9
abbrev N_names_in : List Str := ["steps", "step"]
theorem sc_names_in : FnScope N_names_in ["steps"] (defScope s_names_in) := ⟨rfl, rfl, rfl, by decide +kernel, rfl, by decide +kernel, by decide +kernel⟩
theorem ok_names_in {P : Program} {w : World} {K : PySem.W.Frag} {mg : Str → Option Value} {base : Heap} {B : Eb} (T : Txt K w mg) (c_set_of : Cal P w K mg base B 1 "set_of" s_set_of ["things"] [false] false f_set_of) {a_names_in : Addr} {fd_names_in : FuncData} (F_names_in : FunD K "names_in" "names_in" (defArgs s_names_in) (defBody s_names_in) (defScope s_names_in) [] [] a_names_in fd_names_in) (hm_names_in : mg "names_in" = some (.ref a_names_in)) : Cal P w K mg base B 2 "names_in" s_names_in ["steps"] [false] false f_names_in :=
  cal_ok (On := []) (N := N_names_in) (ms := [false]) (n := 2) (Ps := []) rfl rfl rfl F_names_in hm_names_in sc_names_in rfl (fun _ _ _ _ _ _ us hl => match us, hl with | [_], _ => rfl) (fun cdv A outer s H E G hr => (vss_one (vs_ret (ve_do c_set_of (hr.mono (by decide)) lets (vm_cons (vo_e (vo_lc (own := [("step", 1)]) rfl sc_names_in.nd (vi_seq (vv 0)) (blkOk_by (own := [("step", 1)]) (N := N_names_in) (sc := defScope s_names_in) (by decide +kernel)) (fun _ _ _ _ _ => (vg_nm (i := 1) rfl sc_names_in.nd rfl (Or.inl rfl))) (fun _ _ _ _ _ => (vts_one (vt_cmp (op_neV (huR hr)) gNe_b (ve_ix ix_V (vv 1) ve_int (fun _ _ => rfl)) (ve_gstr rfl T.g_UP.choose_spec) (nomark _)))) (fun _ _ _ _ _ => (ve_ix ix_V (vv 1) ve_int (fun _ _ => rfl))))) vm_nil)))))
abbrev s_all_ups : Stmt := topS 10
abbrev N_all_ups : List Str := ["steps", "step"]
theorem sc_all_ups : FnScope N_all_ups ["steps"] (defScope s_all_ups) := ⟨rfl, rfl, rfl, by decide +kernel, rfl, by decide +kernel, by decide +kernel⟩
theorem ok_all_ups {P : Program} {w : World} {K : PySem.W.Frag} {mg : Str → Option Value} {base : Heap} {B : Eb} (T : Txt K w mg)  {a_all_ups : Addr} {fd_all_ups : FuncData} (F_all_ups : FunD K "all_ups" "all_ups" (defArgs s_all_ups) (defBody s_all_ups) (defScope s_all_ups) [] [] a_all_ups fd_all_ups) (hm_all_ups : mg "all_ups" = some (.ref a_all_ups)) : Cal P w K mg base B 1 "all_ups" s_all_ups ["steps"] [false] false f_all_ups :=
  cal_ok (On := []) (N := N_all_ups) (ms := [false]) (n := 2) (Ps := []) rfl rfl rfl F_all_ups hm_all_ups sc_all_ups rfl (fun _ _ _ _ _ _ us hl => match us, hl with | [_], _ => rfl) (fun cdv A outer s H E G hr => (vss_one (vs_ret (ve_callB (call_sumV rfl) rfl T.b_sum (by decide +kernel) (va_cons (vo_e (vo_lc (own := [("step", 1)]) rfl sc_all_ups.nd (vi_seq (vv 0)) (blkOk_by (own := [("step", 1)]) (N := N_all_ups) (sc := defScope s_all_ups) (by decide +kernel)) (fun _ _ _ _ _ => (vg_nm (i := 1) rfl sc_all_ups.nd rfl (Or.inl rfl))) (fun _ _ _ _ _ => (vts_one (vt_cmp (op_eqV (huR hr)) gEq_b (ve_ix ix_V (vv 1) ve_int (fun _ _ => rfl)) (ve_gstr rfl T.g_UP.choose_spec) (nomark _)))) (fun _ _ _ _ _ => (ve_ix ix_V (vv 1) ve_int (fun _ _ => rfl))))) va_nil)))))
abbrev s_terms : Stmt := topS 11
abbrev N_terms : List Str := ["steps", "found", "later", "step"]
theorem sc_terms : FnScope N_terms ["steps"] (defScope s_terms) := ⟨rfl, rfl, rfl, by decide +kernel, rfl, by decide +kernel, by decide +kernel⟩
theorem ok_terms {P : Program} {w : World} {K : PySem.W.Frag} {mg : Str → Option Value} {base : Heap} {B : Eb} (T : Txt K w mg) (c_tupled : Cal P w K mg base B 17 "tupled" s_tupled ["thing"] [false] false (f_tupled 16)) {a_terms : Addr} {fd_terms : FuncData} (F_terms : FunD K "terms" "terms" (defArgs s_terms) (defBody s_terms) (defScope s_terms) [] [] a_terms fd_terms) (hm_terms : mg "terms" = some (.ref a_terms)) : Cal P w K mg base B 18 "terms" s_terms ["steps"] [false] false f_terms :=
  cal_ok (On := []) (N := N_terms) (ms := [false]) (n := 4) (Ps := []) rfl rfl rfl F_terms hm_terms sc_terms rfl (fun _ _ _ _ _ _ us hl => match us, hl with | [_], _ => rfl) (fun cdv A outer s H E G hr => (vss_cons (vs_par2 (i := 1) (j := 2) (O1 := [1]) (O2 := [1]) (s1 := .tmp) (s2 := .dat) rfl rfl rfl sc_terms.nd rfl rfl (by decide) rfl rfl (vmt (vo_lst va_nil) (vm_cons ve_int vm_nil)))
  (vss_cons (vs_for letsOwn rfl (vi_seq (ve_revA (ve_do c_tupled (hr.mono (by decide)) lets (vm_cons (vv 0) vm_nil)))) (vg_nm (i := 3) rfl sc_terms.nd rfl (Or.inl rfl))
  (vss_one (vs_if (On := [1]) (vt_cmp (op_eqV (huR hr)) gEq_b (ve_ix ix_V (vv 3) ve_int (fun _ _ => rfl)) (ve_gstr rfl T.g_UP.choose_spec) (nomark _))
  (vss_one (vs_aug (i := 2) rfl sc_terms.nd rfl (Or.inl rfl) (ve_ix ix_V (vv 3) ve_int (fun _ _ => rfl)) ip_add))
  (vss_one (vs_expr (ve_append (i := 1) (ve_tup (va_cons (ve_ix ix_V (vv 3) ve_int (fun _ _ => rfl)) (va_cons (ve_ix ix_V (vv 3) ve_int (fun _ _ => rfl)) (va_cons (ve_op op_addV (ve_ix ix_V (vv 3) ve_int (fun _ _ => rfl)) (vv 2)) va_nil))))))))))
  (vss_one (vs_frz (O1 := []) (vs_ret (ve_tupS (vas_cons (ve_tup (va_cons (ve_gstr rfl T.g_START.choose_spec) (va_cons (ve_gstr rfl T.g_START.choose_spec) (va_cons (vv 2) va_nil)))) (vas_star (ve_revA (vv 1)) vas_nil)))))))))
abbrev s_leveled : Stmt := topS 12
abbrev N_leveled : List Str := ["steps", "first", "rest"]
theorem sc_leveled : FnScope N_leveled ["steps"] (defScope s_leveled) := ⟨rfl, rfl, rfl, by decide +kernel, rfl, by decide +kernel, by decide +kernel⟩
theorem ok_leveled {P : Program} {w : World} {K : PySem.W.Frag} {mg : Str → Option Value} {base : Heap} {B : Eb} (T : Txt K w mg) (c_terms : Cal P w K mg base B 18 "terms" s_terms ["steps"] [false] false f_terms) {a_leveled : Addr} {fd_leveled : FuncData} (F_leveled : FunD K "leveled" "leveled" (defArgs s_leveled) (defBody s_leveled) (defScope s_leveled) [] [] a_leveled fd_leveled) (hm_leveled : mg "leveled" = some (.ref a_leveled)) : Cal P w K mg base B 19 "leveled" s_leveled ["steps"] [false] false f_leveled :=
  cal_ok (On := []) (N := N_leveled) (ms := [false]) (n := 3) (Ps := []) rfl rfl rfl F_leveled hm_leveled sc_leveled rfl (fun _ _ _ _ _ _ us hl => match us, hl with | [_], _ => rfl) (fun cdv A outer s H E G hr => (vss_cons (vs_star2 rfl (ve_do c_terms (hr.mono (by decide)) lets (vm_cons (vv 0) vm_nil)) (vg_nm (i := 1) rfl sc_leveled.nd rfl (Or.inl rfl)) (vg_nm (i := 2) rfl sc_leveled.nd rfl (Or.inl rfl)))
  (vss_one (vs_ret (ve_tupS (vas_cons (ve_tup (va_cons (ve_gstr rfl T.g_UP.choose_spec) (va_cons (ve_ix ix_V (vv 1) ve_int (fun _ _ => rfl)) va_nil))) (vas_star (vv 2) vas_nil)))))))
abbrev s_moved : Stmt := topS 13
abbrev N_moved : List Str := ["steps", "number"]
theorem sc_moved : FnScope N_moved ["steps", "number"] (defScope s_moved) := ⟨rfl, rfl, rfl, by decide +kernel, rfl, by decide +kernel, by decide +kernel⟩
theorem ok_moved {P : Program} {w : World} {K : PySem.W.Frag} {mg : Str → Option Value} {base : Heap} {B : Eb} (T : Txt K w mg) (c_tupled : Cal P w K mg base B 17 "tupled" s_tupled ["thing"] [false] false (f_tupled 16)) {a_moved : Addr} {fd_moved : FuncData} (F_moved : FunD K "moved" "moved" (defArgs s_moved) (defBody s_moved) (defScope s_moved) [] [] a_moved fd_moved) (hm_moved : mg "moved" = some (.ref a_moved)) : Cal P w K mg base B 18 "moved" s_moved ["steps", "number"] [false, false] false f_moved :=
  cal_ok (On := []) (N := N_moved) (ms := [false, false]) (n := 2) (Ps := []) rfl rfl rfl F_moved hm_moved sc_moved rfl (fun _ _ _ _ _ _ us hl => match us, hl with | [_, _], _ => rfl) (fun cdv A outer s H E G hr => (vss_one (vs_ret (ve_tupS (vas_star (ve_do c_tupled (hr.mono (by decide)) lets (vm_cons (vv 0) vm_nil)) (vas_cons (ve_tup (va_cons (ve_gstr rfl T.g_UP.choose_spec) (va_cons (vv 1) va_nil))) vas_nil))))))
abbrev s_put_behind : Stmt := topS 14
abbrev N_put_behind : List Str := ["one", "other"]
theorem sc_put_behind : FnScope N_put_behind ["one", "other"] (defScope s_put_behind) := ⟨rfl, rfl, rfl, by decide +kernel, rfl, by decide +kernel, by decide +kernel⟩
theorem ok_put_behind {P : Program} {w : World} {K : PySem.W.Frag} {mg : Str → Option Value} {base : Heap} {B : Eb} (T : Txt K w mg) (c_tupled : Cal P w K mg base B 17 "tupled" s_tupled ["thing"] [false] false (f_tupled 16)) {a_put_behind : Addr} {fd_put_behind : FuncData} (F_put_behind : FunD K "put_behind" "put_behind" (defArgs s_put_behind) (defBody s_put_behind) (defScope s_put_behind) [] [] a_put_behind fd_put_behind) (hm_put_behind : mg "put_behind" = some (.ref a_put_behind)) : Cal P w K mg base B 18 "put_behind" s_put_behind ["one", "other"] [false, false] false f_put_behind :=
  cal_ok (On := []) (N := N_put_behind) (ms := [false, false]) (n := 2) (Ps := []) rfl rfl rfl F_put_behind hm_put_behind sc_put_behind rfl (fun _ _ _ _ _ _ us hl => match us, hl with | [_, _], _ => rfl) (fun cdv A outer s H E G hr => (vss_one (vs_ret (ve_tupS (vas_star (ve_do c_tupled (hr.mono (by decide)) lets (vm_cons (vv 0) vm_nil)) (vas_star (ve_do c_tupled (hr.mono (by decide)) lets (vm_cons (vv 1) vm_nil)) vas_nil))))))
abbrev s_opposite : Stmt := topS 15
abbrev N_opposite : List Str := ["steps", "found", "step"]
theorem sc_opposite : FnScope N_opposite ["steps"] (defScope s_opposite) := ⟨rfl, rfl, rfl, by decide +kernel, rfl, by decide +kernel, by decide +kernel⟩
theorem ok_opposite {P : Program} {w : World} {K : PySem.W.Frag} {mg : Str → Option Value} {base : Heap} {B : Eb} (T : Txt K w mg) (c_tupled : Cal P w K mg base B 17 "tupled" s_tupled ["thing"] [false] false (f_tupled 16)) {a_opposite : Addr} {fd_opposite : FuncData} (F_opposite : FunD K "opposite" "opposite" (defArgs s_opposite) (defBody s_opposite) (defScope s_opposite) [] [] a_opposite fd_opposite) (hm_opposite : mg "opposite" = some (.ref a_opposite)) : Cal P w K mg base B 18 "opposite" s_opposite ["steps"] [false] false f_opposite :=
  cal_ok (On := []) (N := N_opposite) (ms := [false]) (n := 3) (Ps := []) rfl rfl rfl F_opposite hm_opposite sc_opposite rfl (fun _ _ _ _ _ _ us hl => match us, hl with | [_], _ => rfl) (fun cdv A outer s H E G hr => (vss_cons (vs_setO (i := 1) sc_opposite.nd rfl (Or.inl rfl) (vo_lst va_nil))
  (vss_cons (vs_for letsOwn rfl (vi_seq (ve_do c_tupled (hr.mono (by decide)) lets (vm_cons (vv 0) vm_nil))) (vg_nm (i := 2) rfl sc_opposite.nd rfl (Or.inl rfl))
  (vss_one (vs_expr (ve_append (i := 1) (ve_if (vt_cmp (op_eqV (huR hr)) gEq_b (ve_ix ix_V (vv 2) ve_int (fun _ _ => rfl)) (ve_gstr rfl T.g_UP.choose_spec) (nomark _)) (ve_tup (va_cons (ve_gstr rfl T.g_UP.choose_spec) (va_cons (ve_neg (ve_ix ix_V (vv 2) ve_int (fun _ _ => rfl))) va_nil))) (ve_tup (va_cons (ve_kix T.d_OTHER_KIND rfl (ve_ix ix_V (vv 2) ve_int (fun _ _ => rfl)) (fun _ _ => rfl)) (va_cons (ve_ix ix_V (vv 2) ve_int (fun _ _ => rfl)) (va_cons (ve_neg (ve_ix ix_V (vv 2) ve_int (fun _ _ => rfl))) va_nil)))))))))
  (vss_one (vs_frz (O1 := []) (vs_ret (ve_callTy call_tupV rfl T.b_tuple (by decide +kernel) (va_cons (vv 1) va_nil))))))))
abbrev s__law_box : Stmt := topS 17
abbrev N__law_box : List Str := ["_law_script", "_law_k", "_law_great_so"]
theorem sc__law_box : FnScope N__law_box ["_law_script", "_law_k"] (defScope s__law_box) := ⟨rfl, rfl, rfl, by decide +kernel, rfl, by decide +kernel, by decide +kernel⟩
theorem ok__law_box {P : Program} {w : World} {K : PySem.W.Frag} {mg : Str → Option Value} {base : Heap} {B : Eb} (T : Txt K w mg)  {a__law_box : Addr} {fd__law_box : FuncData} (F__law_box : FunD K "_law_box" "_law_box" (defArgs s__law_box) (defBody s__law_box) (defScope s__law_box) [] [] a__law_box fd__law_box) (hm__law_box : mg "_law_box" = some (.ref a__law_box)) : Cal P w K mg base B 1 "_law_box" s__law_box ["_law_script", "_law_k"] [false, false] true f__law_box_v9 :=
  cal_ok (On := []) (N := N__law_box) (ms := [false, false]) (n := 3) (Ps := []) rfl rfl rfl F__law_box hm__law_box sc__law_box rfl (fun _ _ _ _ _ _ us hl => match us, hl with | [_, _], _ => rfl) (fun cdv A outer s H E G hr => (vss_cons (vs_set (i := 2) (O1 := []) rfl sc__law_box.nd rfl (Or.inl rfl) (ve_if (vt_cmp (op_ltV (huR hr)) gLt_b (vv 1) (ve_callB call_lenV rfl T.b_len PySem.boot_len (va_cons (vv 0) va_nil)) (nomark _)) (ve_ix ix_V (vv 0) (vv 1) (fun _ _ => rfl)) ve_int))
  (vss_one (vs_retO (vo_lst (va_cons (ve_op op_mulV (ve_callB call_absV rfl T.b_abs (by decide +kernel) (va_cons (vv 2) va_nil)) (ve_callTy call_intV rfl T.b_int PyProof.Rows.boot_int (va_cons (ve_cmp (op_geV (huR hr)) (ve_callB call_absV rfl T.b_abs (by decide +kernel) (va_cons (vv 2) va_nil)) (ve_op op_powV ve_int ve_int) (nomark _)) va_nil))) (va_cons (ve_op op_addV (ve_op op_addV (ve_op op_modV (ve_callTy call_intV rfl T.b_int PyProof.Rows.boot_int (va_cons (vv 2) va_nil)) ve_int) (ve_op op_mulV ve_int (vv 1))) ve_int) (va_cons ve_int va_nil))))))))
abbrev s__law_take : Stmt := topS 18
abbrev N__law_take : List Str := ["_law_box_here", "_law_top_so", "_law_digit_so", "_law_once", "_law_far", "_law_twice"]
theorem sc__law_take : FnScope N__law_take ["_law_box_here", "_law_top_so"] (defScope s__law_take) := ⟨rfl, rfl, rfl, by decide +kernel, rfl, by decide +kernel, by decide +kernel⟩
theorem ok__law_take {P : Program} {w : World} {K : PySem.W.Frag} {mg : Str → Option Value} {base : Heap} {B : Eb} (T : Txt K w mg)  {a__law_take : Addr} {fd__law_take : FuncData} (F__law_take : FunD K "_law_take" "_law_take" (defArgs s__law_take) (defBody s__law_take) (defScope s__law_take) [] [] a__law_take fd__law_take) (hm__law_take : mg "_law_take" = some (.ref a__law_take)) : Cal P w K mg base B 1 "_law_take" s__law_take ["_law_box_here", "_law_top_so"] [true, false] false f__law_take :=
  cal_ok (On := []) (N := N__law_take) (ms := [true, false]) (n := 6) (Ps := [0]) rfl rfl rfl F__law_take hm__law_take sc__law_take rfl (fun _ _ _ _ _ _ us hl => match us, hl with | [_, _], _ => rfl) (fun cdv A outer s H E G hr => (vss_cons (vs_if (On := [0]) (vt_cmp (op_gtV (huR hr)) gGt_b (ve_ixO (i := 0) ve_int (fun _ _ => rfl)) ve_int (nomark _))
  (vss_cons (vs_set (i := 2) (O1 := [0]) rfl sc__law_take.nd rfl (Or.inl rfl) (ve_op op_modV (ve_callTy call_intV rfl T.b_int PyProof.Rows.boot_int (va_cons (ve_ixO (i := 0) ve_int (fun _ _ => rfl)) va_nil)) (vv 1)))
  (vss_cons (vs_setIx (i := 0) (ve_op op_fdvV (ve_ixO (i := 0) ve_int (fun _ _ => rfl)) (vv 1)) ve_int)
  (vss_one (vs_ret (vv 2)))))
  vss_nil)
  (vss_cons (vs_setIx (i := 0) (ve_op op_addV (ve_ixO (i := 0) ve_int (fun _ _ => rfl)) ve_int) ve_int)
  (vss_cons (vs_set (i := 3) (O1 := [0]) rfl sc__law_take.nd rfl (Or.inl rfl) (ve_op op_modV (ve_callTy call_intV rfl T.b_int PyProof.Rows.boot_int (va_cons (ve_op op_mulV (ve_op op_addV (ve_ixO (i := 0) ve_int (fun _ _ => rfl)) (ve_op op_mulV ve_int (ve_ixO (i := 0) ve_int (fun _ _ => rfl)))) (ve_op op_addV ve_int (ve_ixO (i := 0) ve_int (fun _ _ => rfl)))) va_nil)) ve_int))
  (vss_cons (vs_set (i := 4) (O1 := [0]) rfl sc__law_take.nd rfl (Or.inl rfl) (ve_op op_addV (ve_op op_modV (ve_callTy call_intV rfl T.b_int PyProof.Rows.boot_int (va_cons (vv 3) va_nil)) ve_int) ve_int))
  (vss_cons (vs_set (i := 5) (O1 := [0]) rfl sc__law_take.nd rfl (Or.inl rfl) (ve_op op_modV (ve_callTy call_intV rfl T.b_int PyProof.Rows.boot_int (va_cons (ve_op op_mulV (ve_op op_addV (ve_op op_addV (vv 3) (ve_ixO (i := 0) ve_int (fun _ _ => rfl))) (ve_op op_fdvV (ve_ixO (i := 0) ve_int (fun _ _ => rfl)) ve_int)) (vv 4)) va_nil)) ve_int))
  (vss_one (vs_ret (ve_op op_modV (ve_callTy call_intV rfl T.b_int PyProof.Rows.boot_int (va_cons (ve_op op_fdvV (ve_op op_modV (ve_callTy call_intV rfl T.b_int PyProof.Rows.boot_int (va_cons (ve_op op_addV (ve_op op_mulV (vv 5) ve_int) (vv 3)) va_nil)) ve_int) ve_int) va_nil)) (vv 1))))))))))
abbrev s__law_cells : Stmt := topS 19
abbrev N__law_cells : List Str := ["_law_script", "_law_most", "_law_cells_here", "_law_k", "_law_great_so", "_law_at_so"]
theorem sc__law_cells : FnScope N__law_cells ["_law_script", "_law_most"] (defScope s__law_cells) := ⟨rfl, rfl, rfl, by decide +kernel, rfl, by decide +kernel, by decide +kernel⟩
theorem ok__law_cells {P : Program} {w : World} {K : PySem.W.Frag} {mg : Str → Option Value} {base : Heap} {B : Eb} (T : Txt K w mg)  {a__law_cells : Addr} {fd__law_cells : FuncData} (F__law_cells : FunD K "_law_cells" "_law_cells" (defArgs s__law_cells) (defBody s__law_cells) (defScope s__law_cells) [] [] a__law_cells fd__law_cells) (hm__law_cells : mg "_law_cells" = some (.ref a__law_cells)) : Cal P w K mg base B 1 "_law_cells" s__law_cells ["_law_script", "_law_most"] [false, false] false f__law_cells :=
  cal_ok (On := []) (N := N__law_cells) (ms := [false, false]) (n := 6) (Ps := []) rfl rfl rfl F__law_cells hm__law_cells sc__law_cells rfl (fun _ _ _ _ _ _ us hl => match us, hl with | [_, _], _ => rfl) (fun cdv A outer s H E G hr => (vss_cons (vs_setO (i := 2) sc__law_cells.nd rfl (Or.inl rfl) (vo_or (vo_list rfl T.b_list (va_cons (ve_slice (vv 0) vp_none (vp_some (vv 1))) va_nil)) (vo_one (vo_lst (va_cons ve_int va_nil)))))
  (vss_cons (vs_for letsOwn rfl (vi_enum rfl T.b_enumerate (va_cons (ve_slice (vv 0) (vp_some (vv 1)) (vp_some ve_int)) va_nil)) (vg_tup rfl (vgs_cons (vg_nm (i := 3) rfl sc__law_cells.nd rfl (Or.inl rfl)) (vgs_cons (vg_nm (i := 4) rfl sc__law_cells.nd rfl (Or.inl rfl)) vgs_nil)))
  (vss_cons (vs_set (i := 5) (O1 := [2]) rfl sc__law_cells.nd rfl (Or.inl rfl) (ve_op op_modV (ve_callTy call_intV rfl T.b_int PyProof.Rows.boot_int (va_cons (vv 3) va_nil)) (vv 1)))
  (vss_one (vs_setIx (i := 2) (ve_op op_addV (ve_ixO (i := 2) (vv 5) (fun _ _ => rfl)) (ve_op op_mulV (vv 4) (ve_op op_addV (vv 3) ve_int))) (vv 5)))))
  (vss_one (vs_frz (O1 := []) (vs_ret (vv 2)))))))
abbrev s__law_of : Stmt := topS 20
abbrev N__law_of : List Str := ["_law_box_here", "_law_some"]
theorem sc__law_of : FnScope N__law_of ["_law_box_here", "_law_some"] (defScope s__law_of) := ⟨rfl, rfl, rfl, by decide +kernel, rfl, by decide +kernel, by decide +kernel⟩
theorem ok__law_of {P : Program} {w : World} {K : PySem.W.Frag} {mg : Str → Option Value} {base : Heap} {B : Eb} (T : Txt K w mg) (c__law_take : Cal P w K mg base B 1 "_law_take" s__law_take ["_law_box_here", "_law_top_so"] [true, false] false f__law_take) {a__law_of : Addr} {fd__law_of : FuncData} (F__law_of : FunD K "_law_of" "_law_of" (defArgs s__law_of) (defBody s__law_of) (defScope s__law_of) [] [] a__law_of fd__law_of) (hm__law_of : mg "_law_of" = some (.ref a__law_of)) : Cal P w K mg base B 2 "_law_of" s__law_of ["_law_box_here", "_law_some"] [true, false] false f__law_of :=
  cal_ok (On := []) (N := N__law_of) (ms := [true, false]) (n := 2) (Ps := [0]) rfl rfl rfl F__law_of hm__law_of sc__law_of rfl (fun _ _ _ _ _ _ us hl => match us, hl with | [_, _], _ => rfl) (fun cdv A outer s H E G hr => (vss_one (vs_ret (ve_ix ix_V (vv 1) (ve_do c__law_take (hr.mono (by decide)) lets (vm_slot (i := 0) (vm_cons (ve_callB call_lenV rfl T.b_len PySem.boot_len (va_cons (vv 1) va_nil)) vm_nil))) (fun _ _ => rfl)))))
abbrev s__law_pick : Stmt := topS 21
abbrev N__law_pick : List Str := ["_law_box_here", "_law_pool", "_law_size_so", "_law_rest", "_law_some", "_law_turn"]
theorem sc__law_pick : FnScope N__law_pick ["_law_box_here", "_law_pool", "_law_size_so"] (defScope s__law_pick) := ⟨rfl, rfl, rfl, by decide +kernel, rfl, by decide +kernel, by decide +kernel⟩
theorem ok__law_pick {P : Program} {w : World} {K : PySem.W.Frag} {mg : Str → Option Value} {base : Heap} {B : Eb} (T : Txt K w mg) (c__law_take : Cal P w K mg base B 1 "_law_take" s__law_take ["_law_box_here", "_law_top_so"] [true, false] false f__law_take) {a__law_pick : Addr} {fd__law_pick : FuncData} (F__law_pick : FunD K "_law_pick" "_law_pick" (defArgs s__law_pick) (defBody s__law_pick) (defScope s__law_pick) [] [] a__law_pick fd__law_pick) (hm__law_pick : mg "_law_pick" = some (.ref a__law_pick)) : Cal P w K mg base B 2 "_law_pick" s__law_pick ["_law_box_here", "_law_pool", "_law_size_so"] [true, false, false] false f__law_pick :=
  cal_ok (On := []) (N := N__law_pick) (ms := [true, false, false]) (n := 6) (Ps := [0]) rfl rfl rfl F__law_pick hm__law_pick sc__law_pick rfl (fun _ _ _ _ _ _ us hl => match us, hl with | [_, _, _], _ => rfl) (fun cdv A outer s H E G hr => (vss_cons (vs_par2 (i := 3) (j := 4) (O1 := [3, 0]) (O2 := [4, 3, 0]) (s1 := .tmp) (s2 := .tmp) rfl rfl rfl sc__law_pick.nd rfl rfl (by decide) rfl rfl (vmt (vo_list rfl T.b_list (va_cons (vv 1) va_nil)) (vmt (vo_lst va_nil) vm_nil)))
  (vss_cons (vs_for letsOwn rfl (vi_range1 rfl T.b_range (va_cons (ve_callB (call_min2V rfl) rfl T.b_min (by decide +kernel) (va_cons (vv 2) (va_cons (ve_lenO (i := 3) rfl T.b_len) va_nil))) va_nil)) (vg_nm (i := 5) rfl sc__law_pick.nd rfl (Or.inl rfl))
  (vss_one (vs_expr (ve_append (i := 4) (ve_popAt (i := 3) (ve_do c__law_take (hr.mono (by decide)) lets (vm_slot (i := 0) (vm_cons (ve_lenO (i := 3) rfl T.b_len) vm_nil))))))))
  (vss_one (vs_frz (O1 := [3, 0]) (vs_ret (vv 4)))))))
abbrev s__law_lists : Stmt := topS 22
abbrev N__law_lists : List Str := ["_law_matter", "_law_bit"]
theorem sc__law_lists : FnScope N__law_lists ["_law_matter"] (defScope s__law_lists) := ⟨rfl, rfl, rfl, by decide +kernel, rfl, by decide +kernel, by decide +kernel⟩
theorem ok__law_lists {P : Program} {w : World} {K : PySem.W.Frag} {mg : Str → Option Value} {base : Heap} {B : Eb} (T : Txt K w mg)  {a__law_lists : Addr} {fd__law_lists : FuncData} (F__law_lists : FunD K "_law_lists" "_law_lists" (defArgs s__law_lists) (defBody s__law_lists) (defScope s__law_lists) [] [] a__law_lists fd__law_lists) (hm__law_lists : mg "_law_lists" = some (.ref a__law_lists)) : ∀ n, Cal P w K mg base B (1 + n) "_law_lists" s__law_lists ["_law_matter"] [false] false (f__law_lists n)
  | 0 => cal_stk F__law_lists hm__law_lists rfl (fun _ _ _ _ _ _ us hl => match us, hl with | [_], _ => rfl)
  | n + 1 => by
    obtain c__law_lists := ok__law_lists (P := P) (w := w) (base := base) (B := B) T  F__law_lists hm__law_lists n
    exact cal_ok (On := []) (N := N__law_lists) (ms := [false]) (n := 2) (Ps := []) rfl rfl rfl F__law_lists hm__law_lists sc__law_lists rfl (fun _ _ _ _ _ _ us hl => match us, hl with | [_], _ => rfl) (fun cdv A outer s H E G hr => (vss_one (vs_ret (ve_if (vt_of (ve_isi2 (T := "list") (U := "tuple") (vv 0) rfl T.b_isinstance rfl T.b_list (by decide +kernel) rfl T.b_tuple (by decide +kernel))) (vo_e (vo_lc (own := [("_law_bit", 1)]) rfl sc__law_lists.nd (vi_seq (vv 0)) (blkOk_by (own := [("_law_bit", 1)]) (N := N__law_lists) (sc := defScope s__law_lists) (by decide +kernel)) (fun _ _ _ _ _ => (vg_nm (i := 1) rfl sc__law_lists.nd rfl (Or.inl rfl))) (fun _ _ _ _ _ => vts_nil) (fun _ _ _ _ _ => (ve_do c__law_lists hr passL (vm_cons (vv 1) vm_nil))))) (vv 0)))))
abbrev s__law_same : Stmt := topS 23
abbrev N__law_same : List Str := ["_law_got", "_law_due", "_law_own", "_law_mine", "_law_its"]
theorem sc__law_same : FnScope N__law_same ["_law_got", "_law_due"] (defScope s__law_same) := ⟨rfl, rfl, rfl, by decide +kernel, rfl, by decide +kernel, by decide +kernel⟩
theorem ok__law_same {P : Program} {w : World} {K : PySem.W.Frag} {mg : Str → Option Value} {base : Heap} {B : Eb} (T : Txt K w mg)  {a__law_same : Addr} {fd__law_same : FuncData} (F__law_same : FunD K "_law_same" "_law_same" (defArgs s__law_same) (defBody s__law_same) (defScope s__law_same) [] [] a__law_same fd__law_same) (hm__law_same : mg "_law_same" = some (.ref a__law_same)) : ∀ n, Cal P w K mg base B (1 + n) "_law_same" s__law_same ["_law_got", "_law_due"] [false, false] false (f__law_same n)
  | 0 => cal_stk F__law_same hm__law_same rfl (fun _ _ _ _ _ _ us hl => match us, hl with | [_, _], _ => rfl)
  | n + 1 => by
    obtain c__law_same := ok__law_same (P := P) (w := w) (base := base) (B := B) T  F__law_same hm__law_same n
    exact cal_ok (On := []) (N := N__law_same) (ms := [false, false]) (n := 5) (Ps := []) rfl rfl rfl F__law_same hm__law_same sc__law_same rfl (fun _ _ _ _ _ _ us hl => match us, hl with | [_, _], _ => rfl) (fun cdv A outer s H E G hr => (vss_cons (vs_if (On := []) (vt_of (ve_isi2 (T := "list") (U := "tuple") (vv 1) rfl T.b_isinstance rfl T.b_list (by decide +kernel) rfl T.b_tuple (by decide +kernel)))
  (vss_cons (vs_if (On := []) (VW.t (vw_or (vt_cmp (op_neV (huR hr)) gNe_b (ve_isi (T := "list") (vv 0) rfl T.b_isinstance rfl T.b_list (by decide +kernel)) (ve_isi (T := "list") (vv 1) rfl T.b_isinstance rfl T.b_list (by decide +kernel)) (nomark _)) (vw_or1 (vt_cmp (op_neV (huR hr)) gNe_b (ve_isi (T := "tuple") (vv 0) rfl T.b_isinstance rfl T.b_tuple (by decide +kernel)) (ve_isi (T := "tuple") (vv 1) rfl T.b_isinstance rfl T.b_tuple (by decide +kernel)) (nomark _)))))
  (vss_one (vs_ret ve_bl))
  vss_nil)
  (vss_one (vs_ret (ve_and (ve_cmp (op_eqV (huR hr)) (ve_callB call_lenV rfl T.b_len PySem.boot_len (va_cons (vv 0) va_nil)) (ve_callB call_lenV rfl T.b_len PySem.boot_len (va_cons (vv 1) va_nil)) (nomark _)) (ve_one (ve_callB (call_allV rfl) rfl T.b_all (by decide +kernel) (va_cons (vo_e (vo_lc (own := [("_law_mine", 3), ("_law_its", 4)]) rfl sc__law_same.nd (vi_zip rfl T.b_zip (va_cons (vv 0) (va_cons (vv 1) va_nil))) (blkOk_by (own := [("_law_mine", 3), ("_law_its", 4)]) (N := N__law_same) (sc := defScope s__law_same) (by decide +kernel)) (fun _ _ _ _ _ => (vg_tup rfl (vgs_cons (vg_nm (i := 3) rfl sc__law_same.nd rfl (Or.inl rfl)) (vgs_cons (vg_nm (i := 4) rfl sc__law_same.nd rfl (Or.inl rfl)) vgs_nil)))) (fun _ _ _ _ _ => vts_nil) (fun _ _ _ _ _ => (ve_do c__law_same hr passL (vm_cons (vv 3) (vm_cons (vv 4) vm_nil)))))) va_nil)))))))
  vss_nil)
  (vss_cons (vs_if (On := []) (vt_of (ve_isi (T := "dict") (vv 1) rfl T.b_isinstance rfl T.b_dict (by decide +kernel)))
  (vss_cons (vs_if (On := []) (VW.t (vw_or (vt_not (vt_of (ve_isi (T := "dict") (vv 0) rfl T.b_isinstance rfl T.b_dict (by decide +kernel)))) (vw_or1 (vt_cmp (op_neV (huR hr)) gNe_b (vo_e (vo_sorted (huR hr) rfl T.b_sorted (va_cons (vv 0) va_nil))) (vo_e (vo_sorted (huR hr) rfl T.b_sorted (va_cons (vv 1) va_nil))) (nomark _)))))
  (vss_one (vs_ret ve_bl))
  vss_nil)
  (vss_one (vs_ret (ve_callB (call_allV rfl) rfl T.b_all (by decide +kernel) (va_cons (vo_e (vo_lc (own := [("_law_own", 2)]) rfl sc__law_same.nd (vi_seq (vv 1)) (blkOk_by (own := [("_law_own", 2)]) (N := N__law_same) (sc := defScope s__law_same) (by decide +kernel)) (fun _ _ _ _ _ => (vg_nm (i := 2) rfl sc__law_same.nd rfl (Or.inl rfl))) (fun _ _ _ _ _ => vts_nil) (fun _ _ _ _ _ => (ve_do c__law_same hr passL (vm_cons (ve_ix ix_V (vv 0) (vv 2) (fun _ _ => rfl)) (vm_cons (ve_ix ix_V (vv 1) (vv 2) (fun _ _ => rfl)) vm_nil)))))) va_nil)))))
  vss_nil)
  (vss_cons (vs_if (On := []) (VW.t (vw_or (vt_cmp op_isV gIs_b (vv 1) ve_non (nomark _)) (vw_or1 (vt_of (ve_isi2 (T := "bool") (U := "str") (vv 1) rfl T.b_isinstance rfl T.b_bool (by decide +kernel) rfl T.b_str (by decide +kernel))))))
  (vss_one (vs_ret (ve_and (ve_cmp (op_eqV (huR hr)) (vv 0) (vv 1) (nomark _)) (ve_and (ve_cmp (op_eqV (huR hr)) (ve_isi (T := "bool") (vv 0) rfl T.b_isinstance rfl T.b_bool (by decide +kernel)) (ve_isi (T := "bool") (vv 1) rfl T.b_isinstance rfl T.b_bool (by decide +kernel)) (nomark _)) (ve_one (ve_cmp (op_eqV (huR hr)) (ve_cmp op_isV (vv 0) ve_non (nomark _)) (ve_cmp op_isV (vv 1) ve_non (nomark _)) (nomark _)))))))
  vss_nil)
  (vss_one (vs_ret (ve_and (ve_isi (T := "int") (vv 0) rfl T.b_isinstance rfl T.b_int (by decide +kernel)) (ve_and (ve_not (ve_isi (T := "bool") (vv 0) rfl T.b_isinstance rfl T.b_bool (by decide +kernel))) (ve_one (ve_cmp (op_eqV (huR hr)) (vv 0) (vv 1) (nomark _)))))))))))
abbrev s__law_tags : Stmt := topS 24
abbrev N__law_tags : List Str := ["_law_box_here", "_law_many_so", "_law_pool"]
theorem sc__law_tags : FnScope N__law_tags ["_law_box_here", "_law_many_so"] (defScope s__law_tags) := ⟨rfl, rfl, rfl, by decide +kernel, rfl, by decide +kernel, by decide +kernel⟩
theorem ok__law_tags {P : Program} {w : World} {K : PySem.W.Frag} {mg : Str → Option Value} {base : Heap} {B : Eb} (T : Txt K w mg) (c__law_pick : Cal P w K mg base B 2 "_law_pick" s__law_pick ["_law_box_here", "_law_pool", "_law_size_so"] [true, false, false] false f__law_pick) {a__law_tags : Addr} {fd__law_tags : FuncData} (F__law_tags : FunD K "_law_tags" "_law_tags" (defArgs s__law_tags) (defBody s__law_tags) (defScope s__law_tags) [] [] a__law_tags fd__law_tags) (hm__law_tags : mg "_law_tags" = some (.ref a__law_tags)) : Cal P w K mg base B 3 "_law_tags" s__law_tags ["_law_box_here", "_law_many_so"] [true, false] false f__law_tags :=
  cal_ok (On := []) (N := N__law_tags) (ms := [true, false]) (n := 3) (Ps := [0]) rfl rfl rfl F__law_tags hm__law_tags sc__law_tags rfl (fun _ _ _ _ _ _ us hl => match us, hl with | [_, _], _ => rfl) (fun cdv A outer s H E G hr => (vss_cons (vs_set (i := 2) (O1 := [0]) rfl sc__law_tags.nd rfl (Or.inl rfl) (vo_e (vo_lst (va_cons ve_str (va_cons ve_str (va_cons ve_str (va_cons ve_str (va_cons ve_str (va_cons ve_str (va_cons ve_str (va_cons ve_str (va_cons ve_str va_nil))))))))))))
  (vss_one (vs_ret (ve_callTy call_tupV rfl T.b_tuple (by decide +kernel) (va_cons (vo_e (vo_sorted (huR hr) rfl T.b_sorted (va_cons (ve_do c__law_pick (hr.mono (by decide)) lets (vm_slot (i := 0) (vm_cons (vv 2) (vm_cons (vv 1) vm_nil)))) va_nil))) va_nil))))))
abbrev s__law_deed : Stmt := topS 25
abbrev N__law_deed : List Str := ["_law_box_here", "_law_tags_here", "_law_wide_so", "_law_way_so", "_law_much"]
theorem sc__law_deed : FnScope N__law_deed ["_law_box_here", "_law_tags_here", "_law_wide_so"] (defScope s__law_deed) := ⟨rfl, rfl, rfl, by decide +kernel, rfl, by decide +kernel, by decide +kernel⟩
theorem ok__law_deed {P : Program} {w : World} {K : PySem.W.Frag} {mg : Str → Option Value} {base : Heap} {B : Eb} (T : Txt K w mg) (c__law_of : Cal P w K mg base B 2 "_law_of" s__law_of ["_law_box_here", "_law_some"] [true, false] false f__law_of) (c__law_take : Cal P w K mg base B 1 "_law_take" s__law_take ["_law_box_here", "_law_top_so"] [true, false] false f__law_take) {a__law_deed : Addr} {fd__law_deed : FuncData} (F__law_deed : FunD K "_law_deed" "_law_deed" (defArgs s__law_deed) (defBody s__law_deed) (defScope s__law_deed) [] [] a__law_deed fd__law_deed) (hm__law_deed : mg "_law_deed" = some (.ref a__law_deed)) : Cal P w K mg base B 3 "_law_deed" s__law_deed ["_law_box_here", "_law_tags_here", "_law_wide_so"] [true, false, false] false f__law_deed :=
  cal_ok (On := []) (N := N__law_deed) (ms := [true, false, false]) (n := 5) (Ps := [0]) rfl rfl rfl F__law_deed hm__law_deed sc__law_deed rfl (fun _ _ _ _ _ _ us hl => match us, hl with | [_, _, _], _ => rfl) (fun cdv A outer s H E G hr => (vss_cons (vs_par2 (i := 3) (j := 4) (O1 := [0]) (O2 := [0]) (s1 := .dat) (s2 := .dat) rfl rfl rfl sc__law_deed.nd rfl rfl (by decide) rfl rfl (vm_cons (ve_do c__law_take (hr.mono (by decide)) lets (vm_slot (i := 0) (vm_cons ve_int vm_nil))) (vm_cons (ve_op op_subV (ve_do c__law_take (hr.mono (by decide)) lets (vm_slot (i := 0) (vm_cons (ve_op op_addV (ve_op op_mulV ve_int (vv 2)) ve_int) vm_nil))) (vv 2)) vm_nil)))
  (vss_cons (vs_if (On := [0]) (vt_cmp (op_eqV (huR hr)) gEq_b (vv 3) ve_int (nomark _))
  (vss_one (vs_ret (ve_tup (va_cons ve_str (va_cons (vv 4) va_nil)))))
  vss_nil)
  (vss_one (vs_ret (ve_tup (va_cons (ve_ix ix_V (vo_e (vo_lst (va_cons ve_str (va_cons ve_str va_nil)))) (ve_op op_subV (vv 3) ve_int) (fun _ _ => rfl)) (va_cons (ve_do c__law_of (hr.mono (by decide)) lets (vm_slot (i := 0) (vm_cons (vv 1) vm_nil))) (va_cons (vv 4) va_nil)))))))))
abbrev s__law_row : Stmt := topS 26
abbrev N__law_row : List Str := ["_law_box_here", "_law_tags_here", "_law_most", "_law_wide_so", "_law_turn"]
theorem sc__law_row : FnScope N__law_row ["_law_box_here", "_law_tags_here", "_law_most", "_law_wide_so"] (defScope s__law_row) := ⟨rfl, rfl, rfl, by decide +kernel, rfl, by decide +kernel, by decide +kernel⟩
theorem ok__law_row {P : Program} {w : World} {K : PySem.W.Frag} {mg : Str → Option Value} {base : Heap} {B : Eb} (T : Txt K w mg) (c__law_deed : Cal P w K mg base B 3 "_law_deed" s__law_deed ["_law_box_here", "_law_tags_here", "_law_wide_so"] [true, false, false] false f__law_deed) (c__law_take : Cal P w K mg base B 1 "_law_take" s__law_take ["_law_box_here", "_law_top_so"] [true, false] false f__law_take) {a__law_row : Addr} {fd__law_row : FuncData} (F__law_row : FunD K "_law_row" "_law_row" (defArgs s__law_row) (defBody s__law_row) (defScope s__law_row) [] [] a__law_row fd__law_row) (hm__law_row : mg "_law_row" = some (.ref a__law_row)) : Cal P w K mg base B 4 "_law_row" s__law_row ["_law_box_here", "_law_tags_here", "_law_most", "_law_wide_so"] [true, false, false, false] false f__law_row :=
  cal_ok (On := []) (N := N__law_row) (ms := [true, false, false, false]) (n := 5) (Ps := [0]) rfl rfl rfl F__law_row hm__law_row sc__law_row rfl (fun _ _ _ _ _ _ us hl => match us, hl with | [_, _, _, _], _ => rfl) (fun cdv A outer s H E G hr => (vss_one (vs_ret (ve_callTy call_tupV rfl T.b_tuple (by decide +kernel) (va_cons (vo_e (vo_lc (own := [("_law_turn", 4)]) rfl sc__law_row.nd (vi_range1 rfl T.b_range (va_cons (ve_do c__law_take (hr.mono (by decide)) lets (vm_slot (i := 0) (vm_cons (ve_op op_addV (vv 2) ve_int) vm_nil))) va_nil)) (blkOk_by (own := [("_law_turn", 4)]) (N := N__law_row) (sc := defScope s__law_row) (by decide +kernel)) (fun _ _ _ _ _ => (vg_nm (i := 4) rfl sc__law_row.nd rfl (Or.inl rfl))) (fun _ _ _ _ _ => vts_nil) (fun _ _ _ _ _ => (ve_do c__law_deed (hr.mono (by decide)) passL (vm_slot (i := 0) (vm_cons (vv 1) (vm_cons (vv 3) vm_nil))))))) va_nil)))))
abbrev s__law_terms : Stmt := topS 27
abbrev N__law_terms : List Str := ["_law_row_here", "_law_found", "_law_later", "_law_k"]
theorem sc__law_terms : FnScope N__law_terms ["_law_row_here"] (defScope s__law_terms) := ⟨rfl, rfl, rfl, by decide +kernel, rfl, by decide +kernel, by decide +kernel⟩
theorem ok__law_terms {P : Program} {w : World} {K : PySem.W.Frag} {mg : Str → Option Value} {base : Heap} {B : Eb} (T : Txt K w mg)  {a__law_terms : Addr} {fd__law_terms : FuncData} (F__law_terms : FunD K "_law_terms" "_law_terms" (defArgs s__law_terms) (defBody s__law_terms) (defScope s__law_terms) [] [] a__law_terms fd__law_terms) (hm__law_terms : mg "_law_terms" = some (.ref a__law_terms)) : Cal P w K mg base B 1 "_law_terms" s__law_terms ["_law_row_here"] [false] false f__law_terms :=
  cal_ok (On := []) (N := N__law_terms) (ms := [false]) (n := 4) (Ps := []) rfl rfl rfl F__law_terms hm__law_terms sc__law_terms rfl (fun _ _ _ _ _ _ us hl => match us, hl with | [_], _ => rfl) (fun cdv A outer s H E G hr => (vss_cons (vs_par2 (i := 1) (j := 2) (O1 := [1]) (O2 := [1]) (s1 := .tmp) (s2 := .dat) rfl rfl rfl sc__law_terms.nd rfl rfl (by decide) rfl rfl (vmt (vo_lst va_nil) (vm_cons ve_int vm_nil)))
  (vss_cons (vs_for letsOwn rfl (vi_range3 rfl T.b_range (va_cons (ve_op op_subV (ve_callB call_lenV rfl T.b_len PySem.boot_len (va_cons (vv 0) va_nil)) ve_int) (va_cons (ve_neg ve_int) (va_cons (ve_neg ve_int) va_nil)))) (vg_nm (i := 3) rfl sc__law_terms.nd rfl (Or.inl rfl))
  (vss_one (vs_if (On := [1]) (vt_cmp (op_eqV (huR hr)) gEq_b (ve_ix ix_V (ve_ix ix_V (vv 0) (vv 3) (fun _ _ => rfl)) ve_int (fun _ _ => rfl)) ve_str (nomark _))
  (vss_one (vs_set (i := 2) (O1 := [1]) rfl sc__law_terms.nd rfl (Or.inl rfl) (ve_op op_addV (vv 2) (ve_ix ix_V (ve_ix ix_V (vv 0) (vv 3) (fun _ _ => rfl)) ve_int (fun _ _ => rfl)))))
  (vss_one (vs_expr (ve_append (i := 1) (ve_tup (va_cons (vv 3) (va_cons (ve_ix ix_V (ve_ix ix_V (vv 0) (vv 3) (fun _ _ => rfl)) ve_int (fun _ _ => rfl)) (va_cons (ve_ix ix_V (ve_ix ix_V (vv 0) (vv 3) (fun _ _ => rfl)) ve_int (fun _ _ => rfl)) (va_cons (ve_op op_addV (ve_ix ix_V (ve_ix ix_V (vv 0) (vv 3) (fun _ _ => rfl)) ve_int (fun _ _ => rfl)) (vv 2)) va_nil)))))))))))
  (vss_one (vs_frz (O1 := []) (vs_ret (ve_op op_addV (vo_e (vo_lst (va_cons (ve_tup (va_cons (ve_neg ve_int) (va_cons ve_str (va_cons ve_str (va_cons (vv 2) va_nil))))) va_nil))) (ve_revA (vv 1)))))))))
abbrev s__law_about : Stmt := topS 28
abbrev N__law_about : List Str := ["_law_row_here", "_law_found", "_law_deed_here"]
theorem sc__law_about : FnScope N__law_about ["_law_row_here"] (defScope s__law_about) := ⟨rfl, rfl, rfl, by decide +kernel, rfl, by decide +kernel, by decide +kernel⟩
theorem ok__law_about {P : Program} {w : World} {K : PySem.W.Frag} {mg : Str → Option Value} {base : Heap} {B : Eb} (T : Txt K w mg)  {a__law_about : Addr} {fd__law_about : FuncData} (F__law_about : FunD K "_law_about" "_law_about" (defArgs s__law_about) (defBody s__law_about) (defScope s__law_about) [] [] a__law_about fd__law_about) (hm__law_about : mg "_law_about" = some (.ref a__law_about)) : Cal P w K mg base B 1 "_law_about" s__law_about ["_law_row_here"] [false] false f__law_about :=
  cal_ok (On := []) (N := N__law_about) (ms := [false]) (n := 3) (Ps := []) rfl rfl rfl F__law_about hm__law_about sc__law_about rfl (fun _ _ _ _ _ _ us hl => match us, hl with | [_], _ => rfl) (fun cdv A outer s H E G hr => (vss_cons (vs_setO (i := 1) sc__law_about.nd rfl (Or.inl rfl) (vo_lst va_nil))
  (vss_cons (vs_for letsOwn rfl (vi_seq (vv 0)) (vg_nm (i := 2) rfl sc__law_about.nd rfl (Or.inl rfl))
  (vss_one (vs_if (On := [1]) (vt_cmp (op_eqV (huR hr)) gEq_b (ve_ix ix_V (vv 2) ve_int (fun _ _ => rfl)) ve_str (nomark _))
  (vss_one (vs_expr (ve_append (i := 1) (ve_tup (va_cons ve_str (va_cons (ve_op op_subV ve_int (ve_ix ix_V (vv 2) ve_int (fun _ _ => rfl))) va_nil))))))
  (vss_one (vs_expr (ve_append (i := 1) (ve_tup (va_cons (ve_if (vt_cmp (op_eqV (huR hr)) gEq_b (ve_ix ix_V (vv 2) ve_int (fun _ _ => rfl)) ve_str (nomark _)) ve_str ve_str) (va_cons (ve_ix ix_V (vv 2) ve_int (fun _ _ => rfl)) (va_cons (ve_op op_subV ve_int (ve_ix ix_V (vv 2) ve_int (fun _ _ => rfl))) va_nil))))))))))
  (vss_one (vs_frz (O1 := []) (vs_ret (ve_callTy call_tupV rfl T.b_tuple (by decide +kernel) (va_cons (vv 1) va_nil))))))))
abbrev s__law_hand_right : Stmt := topS 29
abbrev N__law_hand_right : List Str := ["_law_price", "_law_far", "_law_got", "_law_due", "_law_long", "_law_k"]
theorem sc__law_hand_right : FnScope N__law_hand_right [] (defScope s__law_hand_right) := ⟨rfl, rfl, rfl, by decide +kernel, rfl, by decide +kernel, by decide +kernel⟩
theorem ok__law_hand_right {P : Program} {w : World} {K : PySem.W.Frag} {mg : Str → Option Value} {base : Heap} {B : Eb} (T : Txt K w mg) (c__law_lists : Cal P w K mg base B 17 "_law_lists" s__law_lists ["_law_matter"] [false] false (f__law_lists 16)) (c__law_same : Cal P w K mg base B 17 "_law_same" s__law_same ["_law_got", "_law_due"] [false, false] false (f__law_same 16)) (c_all_ups : Cal P w K mg base B 1 "all_ups" s_all_ups ["steps"] [false] false f_all_ups) (c_leveled : Cal P w K mg base B 19 "leveled" s_leveled ["steps"] [false] false f_leveled) (c_moved : Cal P w K mg base B 18 "moved" s_moved ["steps", "number"] [false, false] false f_moved) (c_names_in : Cal P w K mg base B 2 "names_in" s_names_in ["steps"] [false] false f_names_in) (c_opposite : Cal P w K mg base B 18 "opposite" s_opposite ["steps"] [false] false f_opposite) (c_put_behind : Cal P w K mg base B 18 "put_behind" s_put_behind ["one", "other"] [false, false] false f_put_behind) (c_terms : Cal P w K mg base B 18 "terms" s_terms ["steps"] [false] false f_terms) {a__law_hand_right : Addr} {fd__law_hand_right : FuncData} (F__law_hand_right : FunD K "_law_hand_right" "_law_hand_right" (defArgs s__law_hand_right) (defBody s__law_hand_right) (defScope s__law_hand_right) [] [] a__law_hand_right fd__law_hand_right) (hm__law_hand_right : mg "_law_hand_right" = some (.ref a__law_hand_right)) : Cal P w K mg base B 20 "_law_hand_right" s__law_hand_right [] [] false f__law_hand_right_v9 :=
  cal_ok (On := []) (N := N__law_hand_right) (ms := []) (n := 6) (Ps := []) rfl rfl rfl F__law_hand_right hm__law_hand_right sc__law_hand_right rfl (fun _ _ _ _ _ _ us hl => match us, hl with | [], _ => rfl) (fun cdv A outer s H E G hr => (vss_cons (vs_asg (ve_tup (va_cons (ve_tup (va_cons (ve_tup (va_cons ve_str (va_cons ve_int va_nil))) (va_cons (ve_tup (va_cons ve_str (va_cons ve_str (va_cons ve_int va_nil)))) (va_cons (ve_tup (va_cons ve_str (va_cons (ve_neg ve_int) va_nil))) (va_cons (ve_tup (va_cons ve_str (va_cons ve_str (va_cons ve_int va_nil)))) va_nil))))) (va_cons (ve_op op_powV ve_int ve_int) va_nil))) (vg_tup rfl (vgs_cons (vg_nm (i := 0) rfl sc__law_hand_right.nd rfl (Or.inl rfl)) (vgs_cons (vg_nm (i := 1) rfl sc__law_hand_right.nd rfl (Or.inr rfl)) vgs_nil))))
  (vss_cons (vs_setO (i := 2) sc__law_hand_right.nd rfl (Or.inl rfl) (vo_lst (va_cons (ve_do c_names_in (hr.mono (by decide)) lets (vm_cons (vv 0) vm_nil)) (va_cons (ve_do c_names_in (hr.mono (by decide)) lets (vm_cons (ve_tup va_nil) vm_nil)) (va_cons (ve_do c_names_in (hr.mono (by decide)) lets (vm_cons (ve_tup (va_cons (ve_tup (va_cons ve_str (va_cons ve_int va_nil))) va_nil)) vm_nil)) va_nil)))))
  (vss_cons (vs_expr (ve_append (i := 2) (ve_do c_names_in (hr.mono (by decide)) lets (vm_cons (ve_tup (va_cons (ve_tup (va_cons ve_str (va_cons ve_str (va_cons ve_int va_nil)))) (va_cons (ve_tup (va_cons ve_str (va_cons ve_str (va_cons ve_int va_nil)))) (va_cons (ve_tup (va_cons ve_str (va_cons ve_str (va_cons ve_int va_nil)))) va_nil)))) vm_nil))))
  (vss_cons (vs_setO (i := 3) sc__law_hand_right.nd rfl (Or.inl rfl) (vo_lst (va_cons (ve_tup (va_cons ve_str (va_cons ve_str va_nil))) (va_cons (ve_tup va_nil) (va_cons (ve_tup va_nil) (va_cons (ve_tup (va_cons ve_str (va_cons ve_str va_nil))) va_nil))))))
  (vss_cons (vs_frz (O1 := [3]) (vs_setO (i := 2) sc__law_hand_right.nd rfl (Or.inl rfl) (vo_cat (vv 2) (vo_e (vo_lst (va_cons (ve_do c_all_ups (hr.mono (by decide)) lets (vm_cons (vv 0) vm_nil)) (va_cons (ve_do c_all_ups (hr.mono (by decide)) lets (vm_cons (ve_tup va_nil) vm_nil)) (va_cons (ve_do c_all_ups (hr.mono (by decide)) lets (vm_cons (ve_tup (va_cons (ve_tup (va_cons ve_str (va_cons ve_str (va_cons ve_int va_nil)))) va_nil)) vm_nil)) va_nil))))))))
  (vss_cons (vs_frz (O1 := [3]) (vs_setO (i := 2) sc__law_hand_right.nd rfl (Or.inl rfl) (vo_cat (vv 2) (vo_e (vo_lst (va_cons (ve_do c_all_ups (hr.mono (by decide)) lets (vm_cons (vo_e (vo_lst (va_cons (vo_e (vo_lst (va_cons ve_str (va_cons (vv 1) va_nil)))) (va_cons (vo_e (vo_lst (va_cons ve_str (va_cons (ve_op op_subV ve_int (vv 1)) va_nil)))) va_nil)))) vm_nil)) (va_cons (ve_do c_terms (hr.mono (by decide)) lets (vm_cons (vv 0) vm_nil)) va_nil)))))))
  (vss_cons (vs_frz (O1 := [2]) (vs_setO (i := 3) sc__law_hand_right.nd rfl (Or.inl rfl) (vo_cat (vv 3) (vo_e (vo_lst (va_cons ve_int (va_cons ve_int (va_cons ve_int (va_cons ve_int (va_cons (ve_tup (va_cons (ve_tup (va_cons ve_str (va_cons ve_str (va_cons ve_int va_nil)))) (va_cons (ve_tup (va_cons ve_str (va_cons ve_str (va_cons (ve_neg ve_int) va_nil)))) (va_cons (ve_tup (va_cons ve_str (va_cons ve_str (va_cons ve_int va_nil)))) va_nil)))) va_nil))))))))))
  (vss_cons (vs_frz (O1 := [3]) (vs_setO (i := 2) sc__law_hand_right.nd rfl (Or.inl rfl) (vo_cat (vv 2) (vo_e (vo_lst (va_cons (ve_do c_terms (hr.mono (by decide)) lets (vm_cons (ve_tup va_nil) vm_nil)) (va_cons (ve_do c_terms (hr.mono (by decide)) lets (vm_cons (ve_tup (va_cons (ve_tup (va_cons ve_str (va_cons ve_str (va_cons ve_int va_nil)))) (va_cons (ve_tup (va_cons ve_str (va_cons ve_int va_nil))) (va_cons (ve_tup (va_cons ve_str (va_cons ve_int va_nil))) (va_cons (ve_tup (va_cons ve_str (va_cons ve_str (va_cons ve_int va_nil)))) va_nil))))) vm_nil)) va_nil)))))))
  (vss_cons (vs_expr (ve_append (i := 2) (ve_do c_terms (hr.mono (by decide)) lets (vm_cons (ve_do c__law_lists (hr.mono (by decide)) lets (vm_cons (vv 0) vm_nil)) vm_nil))))
  (vss_cons (vs_frz (O1 := [2]) (vs_setO (i := 3) sc__law_hand_right.nd rfl (Or.inl rfl) (vo_cat (vv 3) (vo_e (vo_lst (va_cons (ve_tup (va_cons (ve_tup (va_cons ve_str (va_cons ve_str (va_cons ve_int va_nil)))) va_nil)) (va_cons (ve_tup (va_cons (ve_tup (va_cons ve_str (va_cons ve_str (va_cons ve_int va_nil)))) (va_cons (ve_tup (va_cons ve_str (va_cons ve_str (va_cons ve_int va_nil)))) (va_cons (ve_tup (va_cons ve_str (va_cons ve_str (va_cons ve_int va_nil)))) va_nil)))) va_nil)))))))
  (vss_cons (vs_expr (ve_append (i := 3) (ve_ixO (i := 3) (ve_op op_addV ve_int ve_int) (fun _ _ => rfl))))
  (vss_cons (vs_frz (O1 := [3]) (vs_setO (i := 2) sc__law_hand_right.nd rfl (Or.inl rfl) (vo_cat (vv 2) (vo_e (vo_lst (va_cons (ve_do c_leveled (hr.mono (by decide)) lets (vm_cons (vv 0) vm_nil)) (va_cons (ve_do c_leveled (hr.mono (by decide)) lets (vm_cons (ve_tup va_nil) vm_nil)) (va_cons (ve_do c_leveled (hr.mono (by decide)) lets (vm_cons (vo_e (vo_lst (va_cons (vo_e (vo_lst (va_cons ve_str (va_cons ve_int va_nil)))) va_nil))) vm_nil)) (va_cons (ve_doK0 (n := 1) (ix := [0]) (ks := ["steps"]) c_leveled (hr.mono (by decide)) lets (vk_cons (ve_do c__law_lists (hr.mono (by decide)) lets (vm_cons (vv 0) vm_nil)) vk_nil) rfl rfl (fun _ _ _ _ _ _ ws hl => match ws, hl with | [_], _ => rfl)) va_nil)))))))))
  (vss_cons (vs_frz (O1 := [2]) (vs_setO (i := 3) sc__law_hand_right.nd rfl (Or.inl rfl) (vo_cat (vv 3) (vo_e (vo_lst (va_cons (ve_tup (va_cons (ve_tup (va_cons ve_str (va_cons ve_int va_nil))) (va_cons (ve_tup (va_cons ve_str (va_cons ve_str (va_cons (ve_neg ve_int) va_nil)))) (va_cons (ve_tup (va_cons ve_str (va_cons ve_str (va_cons ve_int va_nil)))) va_nil)))) (va_cons (ve_tup (va_cons (ve_tup (va_cons ve_str (va_cons ve_int va_nil))) va_nil)) (va_cons (ve_tup (va_cons (ve_tup (va_cons ve_str (va_cons ve_int va_nil))) va_nil)) va_nil))))))))
  (vss_cons (vs_expr (ve_append (i := 3) (ve_ixO (i := 3) (ve_op op_subV (ve_lenO (i := 3) rfl T.b_len) ve_int) (fun _ _ => rfl))))
  (vss_cons (vs_frz (O1 := [3]) (vs_setO (i := 2) sc__law_hand_right.nd rfl (Or.inl rfl) (vo_cat (vv 2) (vo_e (vo_lst (va_cons (ve_do c_opposite (hr.mono (by decide)) lets (vm_cons (vv 0) vm_nil)) (va_cons (ve_do c_opposite (hr.mono (by decide)) lets (vm_cons (ve_tup va_nil) vm_nil)) (va_cons (ve_do c_opposite (hr.mono (by decide)) lets (vm_cons (ve_do c__law_lists (hr.mono (by decide)) lets (vm_cons (vv 0) vm_nil)) vm_nil)) (va_cons (ve_do c_moved (hr.mono (by decide)) lets (vm_cons (ve_tup va_nil) (vm_cons ve_int vm_nil))) va_nil)))))))))
  (vss_cons (vs_expr (ve_append (i := 2) (ve_doK0 (n := 2) (ix := [1, 0]) (ks := ["number", "steps"]) c_moved (hr.mono (by decide)) lets (vk_cons (ve_neg (vv 1)) (vk_cons (vo_e (vo_lst (va_cons (vo_e (vo_lst (va_cons ve_str (va_cons ve_int va_nil)))) va_nil))) vk_nil)) rfl rfl (fun _ _ _ _ _ _ ws hl => match ws, hl with | [_, _], _ => rfl))))
  (vss_cons (vs_frz (O1 := [2]) (vs_setO (i := 3) sc__law_hand_right.nd rfl (Or.inl rfl) (vo_cat (vv 3) (vo_e (vo_lst (va_cons (ve_tup (va_cons (ve_tup (va_cons ve_str (va_cons (ve_neg ve_int) va_nil))) (va_cons (ve_tup (va_cons ve_str (va_cons ve_str (va_cons ve_int va_nil)))) (va_cons (ve_tup (va_cons ve_str (va_cons ve_int va_nil))) (va_cons (ve_tup (va_cons ve_str (va_cons ve_str (va_cons (ve_neg ve_int) va_nil)))) va_nil))))) (va_cons (ve_tup va_nil) va_nil)))))))
  (vss_cons (vs_frz (O1 := [2]) (vs_setO (i := 3) sc__law_hand_right.nd rfl (Or.inl rfl) (vo_cat (vv 3) (vo_e (vo_lst (va_cons (ve_ix ix_V (vv 3) (ve_op op_subV (ve_callB call_lenV rfl T.b_len PySem.boot_len (va_cons (vv 3) va_nil)) ve_int) (fun _ _ => rfl)) (va_cons (ve_tup (va_cons (ve_tup (va_cons ve_str (va_cons ve_int va_nil))) va_nil)) (va_cons (ve_tup (va_cons (ve_tup (va_cons ve_str (va_cons ve_int va_nil))) (va_cons (ve_tup (va_cons ve_str (va_cons (ve_op op_subV ve_int (vv 1)) va_nil))) va_nil))) va_nil))))))))
  (vss_cons (vs_frz (O1 := [3]) (vs_setO (i := 2) sc__law_hand_right.nd rfl (Or.inl rfl) (vo_cat (vv 2) (vo_e (vo_lst (va_cons (ve_do c_put_behind (hr.mono (by decide)) lets (vm_cons (ve_tup (va_cons (ve_tup (va_cons ve_str (va_cons ve_int va_nil))) va_nil)) (vm_cons (ve_tup (va_cons (ve_tup (va_cons ve_str (va_cons ve_str (va_cons ve_int va_nil)))) va_nil)) vm_nil))) (va_cons (ve_do c_put_behind (hr.mono (by decide)) lets (vm_cons (ve_tup va_nil) (vm_cons (ve_tup va_nil) vm_nil))) va_nil)))))))
  (vss_cons (vs_expr (ve_append (i := 2) (ve_doK0 (n := 2) (ix := [1, 0]) (ks := ["other", "one"]) c_put_behind (hr.mono (by decide)) lets (vk_cons (vo_e (vo_lst (va_cons (vo_e (vo_lst (va_cons ve_str (va_cons ve_int va_nil)))) va_nil))) (vk_cons (ve_do c__law_lists (hr.mono (by decide)) lets (vm_cons (vv 0) vm_nil)) vk_nil)) rfl rfl (fun _ _ _ _ _ _ ws hl => match ws, hl with | [_, _], _ => rfl))))
  (vss_cons (vs_frz (O1 := [2]) (vs_setO (i := 3) sc__law_hand_right.nd rfl (Or.inl rfl) (vo_cat (vv 3) (vo_e (vo_lst (va_cons (ve_tup (va_cons (ve_tup (va_cons ve_str (va_cons ve_int va_nil))) (va_cons (ve_tup (va_cons ve_str (va_cons ve_str (va_cons ve_int va_nil)))) va_nil))) (va_cons (ve_tup va_nil) (va_cons (ve_op op_addV (vv 0) (ve_tup (va_cons (ve_tup (va_cons ve_str (va_cons ve_int va_nil))) va_nil))) va_nil))))))))
  (vss_cons (vs_set (i := 4) (O1 := [3, 2]) rfl sc__law_hand_right.nd rfl (Or.inl rfl) (ve_callTy call_tupV rfl T.b_tuple (by decide +kernel) (va_cons (vo_e (vo_lc (own := [("_law_k", 5)]) rfl sc__law_hand_right.nd (vi_range1 rfl T.b_range (va_cons ve_int va_nil)) (blkOk_by (own := [("_law_k", 5)]) (N := N__law_hand_right) (sc := defScope s__law_hand_right) (by decide +kernel)) (fun _ _ _ _ _ => (vg_nm (i := 5) rfl sc__law_hand_right.nd rfl (Or.inl rfl))) (fun _ _ _ _ _ => vts_nil) (fun _ _ _ _ _ => (ve_if (vt_cmp (op_eqV (huR hr)) gEq_b (ve_op op_modV (ve_callTy call_intV rfl T.b_int PyProof.Rows.boot_int (va_cons (vv 5) va_nil)) ve_int) ve_int (nomark _)) (ve_tup (va_cons ve_str (va_cons (vv 1) va_nil))) (ve_tup (va_cons ve_str (va_cons ve_str (va_cons (vv 5) va_nil)))))))) va_nil)))
  (vss_cons (vs_frz (O1 := [3]) (vs_setO (i := 2) sc__law_hand_right.nd rfl (Or.inl rfl) (vo_cat (vv 2) (vo_e (vo_lst (va_cons (ve_ix ix_V (ve_do c_terms (hr.mono (by decide)) lets (vm_cons (vv 4) vm_nil)) ve_int (fun _ _ => rfl)) (va_cons (ve_ix ix_V (ve_do c_terms (hr.mono (by decide)) lets (vm_cons (vv 4) vm_nil)) ve_int (fun _ _ => rfl)) (va_cons (ve_ix ix_V (ve_do c_terms (hr.mono (by decide)) lets (vm_cons (vv 4) vm_nil)) ve_int (fun _ _ => rfl)) (va_cons (ve_do c_all_ups (hr.mono (by decide)) lets (vm_cons (vv 4) vm_nil)) (va_cons (ve_callB call_lenV rfl T.b_len PySem.boot_len (va_cons (ve_do c_leveled (hr.mono (by decide)) lets (vm_cons (vv 4) vm_nil)) va_nil)) va_nil))))))))))
  (vss_cons (vs_frz (O1 := [2]) (vs_setO (i := 3) sc__law_hand_right.nd rfl (Or.inl rfl) (vo_cat (vv 3) (vo_e (vo_lst (va_cons (ve_tup (va_cons ve_str (va_cons ve_str (va_cons (ve_op op_mulV ve_int (vv 1)) va_nil)))) (va_cons (ve_tup (va_cons ve_str (va_cons ve_str (va_cons (ve_op op_addV (ve_op op_mulV ve_int (vv 1)) ve_int) va_nil)))) (va_cons (ve_tup (va_cons ve_str (va_cons ve_str (va_cons ve_int va_nil)))) va_nil))))))))
  (vss_one (vs_frz (O1 := []) (vs_ret (ve_do c__law_same (hr.mono (by decide)) lets (vm_cons (vv 2) (vm_cons (ve_op op_addV (vv 3) (vo_e (vo_lst (va_cons (ve_op op_mulV ve_int (vv 1)) (va_cons ve_int va_nil))))) vm_nil)))))))))))))))))))))))))))))))
abbrev s__law_right : Stmt := topS 30
abbrev N__law_right : List Str := ["_law_box_here", "_law_turn", "_law_tags_here", "_law_row_here", "_law_other_so", "_law_much", "_law_soft", "_law_mild", "_law_bits", "_law_got", "_law_due", "_law_own"]
theorem sc__law_right : FnScope N__law_right ["_law_box_here"] (defScope s__law_right) := ⟨rfl, rfl, rfl, by decide +kernel, rfl, by decide +kernel, by decide +kernel⟩
theorem ok__law_right {P : Program} {w : World} {K : PySem.W.Frag} {mg : Str → Option Value} {base : Heap} {B : Eb} (T : Txt K w mg) (c__law_about : Cal P w K mg base B 1 "_law_about" s__law_about ["_law_row_here"] [false] false f__law_about) (c__law_lists : Cal P w K mg base B 17 "_law_lists" s__law_lists ["_law_matter"] [false] false (f__law_lists 16)) (c__law_row : Cal P w K mg base B 4 "_law_row" s__law_row ["_law_box_here", "_law_tags_here", "_law_most", "_law_wide_so"] [true, false, false, false] false f__law_row) (c__law_same : Cal P w K mg base B 17 "_law_same" s__law_same ["_law_got", "_law_due"] [false, false] false (f__law_same 16)) (c__law_tags : Cal P w K mg base B 3 "_law_tags" s__law_tags ["_law_box_here", "_law_many_so"] [true, false] false f__law_tags) (c__law_take : Cal P w K mg base B 1 "_law_take" s__law_take ["_law_box_here", "_law_top_so"] [true, false] false f__law_take) (c__law_terms : Cal P w K mg base B 1 "_law_terms" s__law_terms ["_law_row_here"] [false] false f__law_terms) (c_all_ups : Cal P w K mg base B 1 "all_ups" s_all_ups ["steps"] [false] false f_all_ups) (c_leveled : Cal P w K mg base B 19 "leveled" s_leveled ["steps"] [false] false f_leveled) (c_moved : Cal P w K mg base B 18 "moved" s_moved ["steps", "number"] [false, false] false f_moved) (c_names_in : Cal P w K mg base B 2 "names_in" s_names_in ["steps"] [false] false f_names_in) (c_opposite : Cal P w K mg base B 18 "opposite" s_opposite ["steps"] [false] false f_opposite) (c_put_behind : Cal P w K mg base B 18 "put_behind" s_put_behind ["one", "other"] [false, false] false f_put_behind) (c_terms : Cal P w K mg base B 18 "terms" s_terms ["steps"] [false] false f_terms) {a__law_right : Addr} {fd__law_right : FuncData} (F__law_right : FunD K "_law_right" "_law_right" (defArgs s__law_right) (defBody s__law_right) (defScope s__law_right) [] [] a__law_right fd__law_right) (hm__law_right : mg "_law_right" = some (.ref a__law_right)) : Cal P w K mg base B 20 "_law_right" s__law_right ["_law_box_here"] [true] false f__law_right_v9 :=
  cal_ok (On := []) (N := N__law_right) (ms := [true]) (n := 12) (Ps := [0]) rfl rfl rfl F__law_right hm__law_right sc__law_right rfl (fun _ _ _ _ _ _ us hl => match us, hl with | [_], _ => rfl) (fun cdv A outer s H E G hr => (vss_cons (vs_for letsOwn rfl (vi_range1 rfl T.b_range (va_cons ve_int va_nil)) (vg_nm (i := 1) rfl sc__law_right.nd rfl (Or.inl rfl))
  (vss_cons (vs_set (i := 2) (O1 := [0]) rfl sc__law_right.nd rfl (Or.inl rfl) (ve_do c__law_tags (hr.mono (by decide)) lets (vm_slot (i := 0) (vm_cons ve_int vm_nil))))
  (vss_cons (vs_par3 (i := 3) (j := 4) (l := 5) (O1 := [0]) (O2 := [0]) (O3 := [0]) (s1 := .dat) (s2 := .dat) (s3 := .dat) rfl rfl rfl rfl sc__law_right.nd rfl rfl rfl (by decide) (by decide) (by decide) rfl rfl rfl (vm_cons (ve_do c__law_row (hr.mono (by decide)) lets (vm_slot (i := 0) (vm_cons (vv 2) (vm_cons ve_int (vm_cons ve_int vm_nil))))) (vm_cons (ve_do c__law_row (hr.mono (by decide)) lets (vm_slot (i := 0) (vm_cons (vv 2) (vm_cons ve_int (vm_cons ve_int vm_nil))))) (vm_cons (ve_op op_subV (ve_do c__law_take (hr.mono (by decide)) lets (vm_slot (i := 0) (vm_cons ve_int vm_nil))) ve_int) vm_nil))))
  (vss_cons (vs_par2 (i := 6) (j := 7) (O1 := [0]) (O2 := [0]) (s1 := .dat) (s2 := .dat) rfl rfl rfl sc__law_right.nd rfl rfl (by decide) rfl rfl (vm_cons (ve_do c__law_lists (hr.mono (by decide)) lets (vm_cons (vv 3) vm_nil)) (vm_cons (ve_do c__law_lists (hr.mono (by decide)) lets (vm_cons (vv 4) vm_nil)) vm_nil)))
  (vss_cons (vs_set (i := 8) (O1 := [0]) rfl sc__law_right.nd rfl (Or.inl rfl) (ve_do c__law_terms (hr.mono (by decide)) lets (vm_cons (vv 3) vm_nil)))
  (vss_cons (vs_setO (i := 9) sc__law_right.nd rfl (Or.inl rfl) (vo_lst (va_cons (ve_do c_names_in (hr.mono (by decide)) lets (vm_cons (vv 3) vm_nil)) (va_cons (ve_do c_all_ups (hr.mono (by decide)) lets (vm_cons (vv 6) vm_nil)) (va_cons (ve_do c_terms (hr.mono (by decide)) lets (vm_cons (vv 3) vm_nil)) (va_cons (ve_do c_leveled (hr.mono (by decide)) lets (vm_cons (vv 6) vm_nil)) (va_cons (ve_do c_opposite (hr.mono (by decide)) lets (vm_cons (vv 3) vm_nil)) (va_cons (ve_do c_moved (hr.mono (by decide)) lets (vm_cons (vv 6) (vm_cons (vv 5) vm_nil))) va_nil))))))))
  (vss_cons (vs_expr (ve_append (i := 9) (ve_do c_put_behind (hr.mono (by decide)) lets (vm_cons (vv 3) (vm_cons (vv 7) vm_nil)))))
  (vss_cons (vs_setO (i := 10) sc__law_right.nd rfl (Or.inl rfl) (vo_lst (va_cons (ve_callTy call_tupV rfl T.b_tuple (by decide +kernel) (va_cons (vo_e (vo_sset rfl (huR hr) rfl T.b_sorted rfl T.b_set (vo_e (vo_lc (own := [("_law_own", 11)]) rfl sc__law_right.nd (vi_seq (ve_slice (vv 8) (vp_some ve_int) vp_none)) (blkOk_by (own := [("_law_own", 11)]) (N := N__law_right) (sc := defScope s__law_right) (by decide +kernel)) (fun _ _ _ _ _ => (vg_nm (i := 11) rfl sc__law_right.nd rfl (Or.inl rfl))) (fun _ _ _ _ _ => vts_nil) (fun _ _ _ _ _ => (ve_ix ix_V (vv 11) ve_int (fun _ _ => rfl))))))) va_nil)) (va_cons (ve_ix ix_V (ve_ix ix_V (vv 8) ve_int (fun _ _ => rfl)) ve_int (fun _ _ => rfl)) (va_cons (ve_callTy call_tupV rfl T.b_tuple (by decide +kernel) (va_cons (vo_e (vo_lc (own := [("_law_own", 11)]) rfl sc__law_right.nd (vi_seq (vv 8)) (blkOk_by (own := [("_law_own", 11)]) (N := N__law_right) (sc := defScope s__law_right) (by decide +kernel)) (fun _ _ _ _ _ => (vg_nm (i := 11) rfl sc__law_right.nd rfl (Or.inl rfl))) (fun _ _ _ _ _ => vts_nil) (fun _ _ _ _ _ => (ve_slice (vv 11) (vp_some ve_int) vp_none)))) va_nil)) va_nil)))))
  (vss_cons (vs_expr (ve_append (i := 10) (ve_op op_addV (ve_tup (va_cons (ve_tup (va_cons ve_str (va_cons (ve_ix ix_V (ve_ix ix_V (vv 8) ve_int (fun _ _ => rfl)) ve_int (fun _ _ => rfl)) va_nil))) va_nil)) (ve_callTy call_tupV rfl T.b_tuple (by decide +kernel) (va_cons (vo_e (vo_lc (own := [("_law_own", 11)]) rfl sc__law_right.nd (vi_seq (ve_slice (vv 8) (vp_some ve_int) vp_none)) (blkOk_by (own := [("_law_own", 11)]) (N := N__law_right) (sc := defScope s__law_right) (by decide +kernel)) (fun _ _ _ _ _ => (vg_nm (i := 11) rfl sc__law_right.nd rfl (Or.inl rfl))) (fun _ _ _ _ _ => vts_nil) (fun _ _ _ _ _ => (ve_slice (vv 11) (vp_some ve_int) vp_none)))) va_nil)))))
  (vss_cons (vs_frz (O1 := [9, 0]) (vs_setO (i := 10) sc__law_right.nd rfl (Or.inl rfl) (vo_cat (vv 10) (vo_e (vo_lst (va_cons (ve_do c__law_about (hr.mono (by decide)) lets (vm_cons (vv 3) vm_nil)) (va_cons (ve_op op_addV (vv 3) (ve_tup (va_cons (ve_tup (va_cons ve_str (va_cons (vv 5) va_nil))) va_nil))) va_nil)))))))
  (vss_cons (vs_frz (O1 := [9, 0]) (vs_setO (i := 10) sc__law_right.nd rfl (Or.inl rfl) (vo_cat (vv 10) (vo_e (vo_lst (va_cons (ve_op op_addV (vv 3) (vv 4)) (va_cons (vv 3) (va_cons (ve_do c__law_lists (hr.mono (by decide)) lets (vm_cons (vv 3) vm_nil)) (va_cons (ve_do c__law_lists (hr.mono (by decide)) lets (vm_cons (vv 4) vm_nil)) va_nil)))))))))
  (vss_one (vs_frz (O1 := [0]) (vs_if (On := [0]) (vt_not (vt_of (ve_do c__law_same (hr.mono (by decide)) lets (vm_cons (ve_op op_addV (vv 9) (vo_e (vo_lst (va_cons (ve_do c_opposite (hr.mono (by decide)) lets (vm_cons (ve_do c_opposite (hr.mono (by decide)) lets (vm_cons (vv 6) vm_nil)) vm_nil)) (va_cons (vv 6) (va_cons (vv 7) va_nil)))))) (vm_cons (vv 10) vm_nil)))))
  (vss_one (vs_ret ve_bl))
  vss_nil))))))))))))))
  (vss_one (vs_ret ve_bl))))
abbrev s_law : Stmt := topS 31
abbrev N_law : List Str := ["_law_script", "_law_cells_here", "_law_k"]
theorem sc_law : FnScope N_law ["_law_script"] (defScope s_law) := ⟨rfl, rfl, rfl, by decide +kernel, rfl, by decide +kernel, by decide +kernel⟩
theorem ok_law {P : Program} {w : World} {K : PySem.W.Frag} {mg : Str → Option Value} {base : Heap} {B : Eb} (T : Txt K w mg) (c__law_box : Cal P w K mg base B 1 "_law_box" s__law_box ["_law_script", "_law_k"] [false, false] true f__law_box_v9) (c__law_cells : Cal P w K mg base B 1 "_law_cells" s__law_cells ["_law_script", "_law_most"] [false, false] false f__law_cells) (c__law_hand_right : Cal P w K mg base B 20 "_law_hand_right" s__law_hand_right [] [] false f__law_hand_right_v9) (c__law_right : Cal P w K mg base B 20 "_law_right" s__law_right ["_law_box_here"] [true] false f__law_right_v9) {a_law : Addr} {fd_law : FuncData} (F_law : FunD K "law" "law" (defArgs s_law) (defBody s_law) (defScope s_law) [] [] a_law fd_law) (hm_law : mg "law" = some (.ref a_law)) : Cal P w K mg base B 21 "law" s_law ["_law_script"] [false] false f_law_v9 :=
  cal_ok (On := []) (N := N_law) (ms := [false]) (n := 3) (Ps := []) rfl rfl rfl F_law hm_law sc_law rfl (fun _ _ _ _ _ _ us hl => match us, hl with | [_], _ => rfl) (fun cdv A outer s H E G hr => (vss_cons (vs_if (On := []) (vt_not (vt_of (ve_do0 c__law_hand_right (hr.mono (by decide)) lets)))
  (vss_one (vs_ret ve_bl))
  vss_nil)
  (vss_cons (vs_set (i := 1) (O1 := []) rfl sc_law.nd rfl (Or.inr rfl) (ve_do c__law_cells (hr.mono (by decide)) lets (vm_cons (vv 0) (vm_cons ve_int vm_nil))))
  (vss_one (vs_ret (ve_callB (call_allV rfl) rfl T.b_all (by decide +kernel) (va_cons (vo_e (vo_lc (own := [("_law_k", 2)]) rfl sc_law.nd (vi_range1 rfl T.b_range (va_cons (ve_callB call_lenV rfl T.b_len PySem.boot_len (va_cons (vv 1) va_nil)) va_nil)) (blkOk_by (own := [("_law_k", 2)]) (N := N_law) (sc := defScope s_law) (by decide +kernel)) (fun _ _ _ _ _ => (vg_nm (i := 2) rfl sc_law.nd rfl (Or.inl rfl))) (fun _ _ _ _ _ => vts_nil) (fun _ _ _ _ _ => (ve_do c__law_right (hr.mono (by decide)) passL (vmt (vo_do c__law_box (hr.mono (by decide)) passL (vm_cons (vv 1) (vm_cons (vv 2) vm_nil))) vm_nil))))) va_nil)))))))
end K08
end

section
set_option Elab.async false
set_option linter.all false
set_option maxRecDepth 100000
set_option maxHeartbeats 0
namespace K08
open PySem PySem.Spec PyProof.Rows L2 VL LL
/-! ### the head -/
def d_tupled : He.DefD := ⟨("tupled", none), "tupled", "tupled", defArgs s_tupled, defBody s_tupled, defScope s_tupled, [], []⟩
def d_set_of : He.DefD := ⟨("set_of", none), "set_of", "set_of", defArgs s_set_of, defBody s_set_of, defScope s_set_of, [], []⟩
def d_names_in : He.DefD := ⟨("names_in", none), "names_in", "names_in", defArgs s_names_in, defBody s_names_in, defScope s_names_in, [], []⟩
def d_all_ups : He.DefD := ⟨("all_ups", none), "all_ups", "all_ups", defArgs s_all_ups, defBody s_all_ups, defScope s_all_ups, [], []⟩
def d_terms : He.DefD := ⟨("terms", none), "terms", "terms", defArgs s_terms, defBody s_terms, defScope s_terms, [], []⟩
def d_leveled : He.DefD := ⟨("leveled", none), "leveled", "leveled", defArgs s_leveled, defBody s_leveled, defScope s_leveled, [], []⟩
def d_moved : He.DefD := ⟨("moved", none), "moved", "moved", defArgs s_moved, defBody s_moved, defScope s_moved, [], []⟩
def d_put_behind : He.DefD := ⟨("put_behind", none), "put_behind", "put_behind", defArgs s_put_behind, defBody s_put_behind, defScope s_put_behind, [], []⟩
def d_opposite : He.DefD := ⟨("opposite", none), "opposite", "opposite", defArgs s_opposite, defBody s_opposite, defScope s_opposite, [], []⟩
def d__law_box : He.DefD := ⟨("_law_box", none), "_law_box", "_law_box", defArgs s__law_box, defBody s__law_box, defScope s__law_box, [], []⟩
def d__law_take : He.DefD := ⟨("_law_take", none), "_law_take", "_law_take", defArgs s__law_take, defBody s__law_take, defScope s__law_take, [], []⟩
def d__law_cells : He.DefD := ⟨("_law_cells", none), "_law_cells", "_law_cells", defArgs s__law_cells, defBody s__law_cells, defScope s__law_cells, [], []⟩
def d__law_of : He.DefD := ⟨("_law_of", none), "_law_of", "_law_of", defArgs s__law_of, defBody s__law_of, defScope s__law_of, [], []⟩
def d__law_pick : He.DefD := ⟨("_law_pick", none), "_law_pick", "_law_pick", defArgs s__law_pick, defBody s__law_pick, defScope s__law_pick, [], []⟩
def d__law_lists : He.DefD := ⟨("_law_lists", none), "_law_lists", "_law_lists", defArgs s__law_lists, defBody s__law_lists, defScope s__law_lists, [], []⟩
def d__law_same : He.DefD := ⟨("_law_same", none), "_law_same", "_law_same", defArgs s__law_same, defBody s__law_same, defScope s__law_same, [], []⟩
def d__law_tags : He.DefD := ⟨("_law_tags", none), "_law_tags", "_law_tags", defArgs s__law_tags, defBody s__law_tags, defScope s__law_tags, [], []⟩
def d__law_deed : He.DefD := ⟨("_law_deed", none), "_law_deed", "_law_deed", defArgs s__law_deed, defBody s__law_deed, defScope s__law_deed, [], []⟩
def d__law_row : He.DefD := ⟨("_law_row", none), "_law_row", "_law_row", defArgs s__law_row, defBody s__law_row, defScope s__law_row, [], []⟩
def d__law_terms : He.DefD := ⟨("_law_terms", none), "_law_terms", "_law_terms", defArgs s__law_terms, defBody s__law_terms, defScope s__law_terms, [], []⟩
def d__law_about : He.DefD := ⟨("_law_about", none), "_law_about", "_law_about", defArgs s__law_about, defBody s__law_about, defScope s__law_about, [], []⟩
def d__law_hand_right : He.DefD := ⟨("_law_hand_right", none), "_law_hand_right", "_law_hand_right", defArgs s__law_hand_right, defBody s__law_hand_right, defScope s__law_hand_right, [], []⟩
def d__law_right : He.DefD := ⟨("_law_right", none), "_law_right", "_law_right", defArgs s__law_right, defBody s__law_right, defScope s__law_right, [], []⟩
def d_law : He.DefD := ⟨("law", none), "law", "law", defArgs s_law, defBody s_law, defScope s_law, [], []⟩
def hfn : List He.DefD := [d_tupled, d_set_of, d_names_in, d_all_ups, d_terms, d_leveled, d_moved, d_put_behind, d_opposite, d__law_box, d__law_take, d__law_cells, d__law_of, d__law_pick, d__law_lists, d__law_same, d__law_tags, d__law_deed, d__law_row, d__law_terms, d__law_about, d__law_hand_right, d__law_right, d_law]
def hfa : List He.Fa := [.glo "tupled", .glo "set_of", .glo "names_in", .glo "all_ups", .glo "terms", .glo "leveled", .glo "moved", .glo "put_behind", .glo "opposite", .glo "_law_box", .glo "_law_take", .glo "_law_cells", .glo "_law_of", .glo "_law_pick", .glo "_law_lists", .glo "_law_same", .glo "_law_tags", .glo "_law_deed", .glo "_law_row", .glo "_law_terms", .glo "_law_about", .glo "_law_hand_right", .glo "_law_right", .glo "law", .free "abs", .free "all", .free "bool", .free "dict", .free "enumerate", .free "int", .free "isinstance", .free "len", .free "list", .free "min", .free "range", .free "set", .free "sorted", .free "str", .free "sum", .free "tuple", .free "zip", .str "START" "start", .str "UP" "up", .glo "OTHER_KIND"]
def hts : List He.Tab := [(fun K => He.ga K "OTHER_KIND", ["most", "least"])]
def hex (K : PySem.W.Frag) : Bool := He.valsB K (He.ga K "OTHER_KIND") [("most", .str "least"), ("least", .str "most")]
abbrev hR : PySem.W.OpenRow := PySem.W.OpenLaw.row PySem.Challenge.rw_lastlimit_k08_what_lists_tell
abbrev hk : PySem.W.Hook := He.hookX 4 hfa hfn hts [] hex
def hob (s : PySem.W.SharedT) : He.AlX := He.obsX 4 hfa hfn hts [] hex (HandSHeadRun.getT s)
theorem hob_eq (s : PySem.W.SharedT) : hob s = hk.obs s.abs := He.obsX_eq (HandSHeadRun.getT_eq s)
def hn0 : List Str := ["START", "tupled", "set_of", "UP", "MOST", "LEAST", "OTHER_KIND", "names_in", "all_ups", "terms", "leveled", "moved", "put_behind", "opposite", "_law_box", "_law_take", "_law_cells", "_law_of", "_law_pick", "_law_lists", "_law_same", "_law_tags", "_law_deed", "_law_row", "_law_terms", "_law_about", "_law_hand_right", "_law_right"]
def hnames : List Str := hn0
theorem hrun (w : World) : HandSHeadRun.RunEq hR (PySem.W.view hR.prog [31]) hk hob 1500 hnames w :=
  PySem.W.byRow2 "special-get-raises" (P := fun w => HandSHeadRun.RunEq hR (PySem.W.view hR.prog [31]) hk hob 1500 hnames w) (fun w => by intro os; kernel_rfl) (fun w => by intro os; kernel_rfl) w
abbrev B0 : Eb := ⟨fun _ => 0, fun _ => []⟩
theorem txt {K : PySem.W.Frag} {w : World} {h : Heap} {mg : Str → Option Value} (X : K.In h) (G : h.Ns mainGlobals mg) (c : He.SaysX hfa hfn hts [] hex w h K) : Txt K w mg where
  b_abs := He.free_ok X G (c.t.d.fact 24 (f := .free "abs") rfl)
  b_all := He.free_ok X G (c.t.d.fact 25 (f := .free "all") rfl)
  b_bool := He.free_ok X G (c.t.d.fact 26 (f := .free "bool") rfl)
  b_dict := He.free_ok X G (c.t.d.fact 27 (f := .free "dict") rfl)
  b_enumerate := He.free_ok X G (c.t.d.fact 28 (f := .free "enumerate") rfl)
  b_int := He.free_ok X G (c.t.d.fact 29 (f := .free "int") rfl)
  b_isinstance := He.free_ok X G (c.t.d.fact 30 (f := .free "isinstance") rfl)
  b_len := He.free_ok X G (c.t.d.fact 31 (f := .free "len") rfl)
  b_list := He.free_ok X G (c.t.d.fact 32 (f := .free "list") rfl)
  b_min := He.free_ok X G (c.t.d.fact 33 (f := .free "min") rfl)
  b_range := He.free_ok X G (c.t.d.fact 34 (f := .free "range") rfl)
  b_set := He.free_ok X G (c.t.d.fact 35 (f := .free "set") rfl)
  b_sorted := He.free_ok X G (c.t.d.fact 36 (f := .free "sorted") rfl)
  b_str := He.free_ok X G (c.t.d.fact 37 (f := .free "str") rfl)
  b_sum := He.free_ok X G (c.t.d.fact 38 (f := .free "sum") rfl)
  b_tuple := He.free_ok X G (c.t.d.fact 39 (f := .free "tuple") rfl)
  b_zip := He.free_ok X G (c.t.d.fact 40 (f := .free "zip") rfl)
  g_START := He.str_ok X G (c.t.d.fact 41 (f := .str "START" "start") rfl)
  g_UP := He.str_ok X G (c.t.d.fact 42 (f := .str "UP" "up") rfl)
  d_OTHER_KIND := by
    obtain ⟨es, n, hD, hk⟩ := tabK c.t 0 (t := (fun K => He.ga K "OTHER_KIND", ["most", "least"])) rfl
    refine KD.of (He.glo_ok X G (c.t.d.fact 43 (f := .glo "OTHER_KIND") rfl)) hD (fun e he => ?_) ?_
    · obtain ⟨z, u, h1, h2⟩ := hk e he
      refine ⟨z, u, h1, ?_⟩
      have key : ∀ z ∈ (["most", "least"] : List Str), (kd_OTHER_KIND.lookup z).isSome = true := by decide +kernel
      exact key z h2
    · have m := c.more
      unfold hex at m
      try simp only [Bool.and_eq_true] at m
      exact m
theorem facts {w : World} {K : PySem.W.Frag} {h : Heap} {mg : Str → Option Value} (X : K.In h) (G : h.Ns mainGlobals mg) (c : He.SaysX hfa hfn hts [] hex w h K) (base : Heap) : Cal PySem.Challenge.pw_lastlimit_k08_what_lists_tell w K mg base B0 21 "law" s_law ["_law_script"] [false] false f_law_v9 := by
  have T := txt X G c
  obtain ⟨fd_tupled, F_tupled⟩ := c.t.d.def_ 0 (d := d_tupled) rfl
  have m_tupled := He.glo_ok X G (c.t.d.fact 0 (f := .glo "tupled") rfl)
  obtain ⟨fd_set_of, F_set_of⟩ := c.t.d.def_ 1 (d := d_set_of) rfl
  have m_set_of := He.glo_ok X G (c.t.d.fact 1 (f := .glo "set_of") rfl)
  obtain ⟨fd_names_in, F_names_in⟩ := c.t.d.def_ 2 (d := d_names_in) rfl
  have m_names_in := He.glo_ok X G (c.t.d.fact 2 (f := .glo "names_in") rfl)
  obtain ⟨fd_all_ups, F_all_ups⟩ := c.t.d.def_ 3 (d := d_all_ups) rfl
  have m_all_ups := He.glo_ok X G (c.t.d.fact 3 (f := .glo "all_ups") rfl)
  obtain ⟨fd_terms, F_terms⟩ := c.t.d.def_ 4 (d := d_terms) rfl
  have m_terms := He.glo_ok X G (c.t.d.fact 4 (f := .glo "terms") rfl)
  obtain ⟨fd_leveled, F_leveled⟩ := c.t.d.def_ 5 (d := d_leveled) rfl
  have m_leveled := He.glo_ok X G (c.t.d.fact 5 (f := .glo "leveled") rfl)
  obtain ⟨fd_moved, F_moved⟩ := c.t.d.def_ 6 (d := d_moved) rfl
  have m_moved := He.glo_ok X G (c.t.d.fact 6 (f := .glo "moved") rfl)
  obtain ⟨fd_put_behind, F_put_behind⟩ := c.t.d.def_ 7 (d := d_put_behind) rfl
  have m_put_behind := He.glo_ok X G (c.t.d.fact 7 (f := .glo "put_behind") rfl)
  obtain ⟨fd_opposite, F_opposite⟩ := c.t.d.def_ 8 (d := d_opposite) rfl
  have m_opposite := He.glo_ok X G (c.t.d.fact 8 (f := .glo "opposite") rfl)
  obtain ⟨fd__law_box, F__law_box⟩ := c.t.d.def_ 9 (d := d__law_box) rfl
  have m__law_box := He.glo_ok X G (c.t.d.fact 9 (f := .glo "_law_box") rfl)
  obtain ⟨fd__law_take, F__law_take⟩ := c.t.d.def_ 10 (d := d__law_take) rfl
  have m__law_take := He.glo_ok X G (c.t.d.fact 10 (f := .glo "_law_take") rfl)
  obtain ⟨fd__law_cells, F__law_cells⟩ := c.t.d.def_ 11 (d := d__law_cells) rfl
  have m__law_cells := He.glo_ok X G (c.t.d.fact 11 (f := .glo "_law_cells") rfl)
  obtain ⟨fd__law_of, F__law_of⟩ := c.t.d.def_ 12 (d := d__law_of) rfl
  have m__law_of := He.glo_ok X G (c.t.d.fact 12 (f := .glo "_law_of") rfl)
  obtain ⟨fd__law_pick, F__law_pick⟩ := c.t.d.def_ 13 (d := d__law_pick) rfl
  have m__law_pick := He.glo_ok X G (c.t.d.fact 13 (f := .glo "_law_pick") rfl)
  obtain ⟨fd__law_lists, F__law_lists⟩ := c.t.d.def_ 14 (d := d__law_lists) rfl
  have m__law_lists := He.glo_ok X G (c.t.d.fact 14 (f := .glo "_law_lists") rfl)
  obtain ⟨fd__law_same, F__law_same⟩ := c.t.d.def_ 15 (d := d__law_same) rfl
  have m__law_same := He.glo_ok X G (c.t.d.fact 15 (f := .glo "_law_same") rfl)
  obtain ⟨fd__law_tags, F__law_tags⟩ := c.t.d.def_ 16 (d := d__law_tags) rfl
  have m__law_tags := He.glo_ok X G (c.t.d.fact 16 (f := .glo "_law_tags") rfl)
  obtain ⟨fd__law_deed, F__law_deed⟩ := c.t.d.def_ 17 (d := d__law_deed) rfl
  have m__law_deed := He.glo_ok X G (c.t.d.fact 17 (f := .glo "_law_deed") rfl)
  obtain ⟨fd__law_row, F__law_row⟩ := c.t.d.def_ 18 (d := d__law_row) rfl
  have m__law_row := He.glo_ok X G (c.t.d.fact 18 (f := .glo "_law_row") rfl)
  obtain ⟨fd__law_terms, F__law_terms⟩ := c.t.d.def_ 19 (d := d__law_terms) rfl
  have m__law_terms := He.glo_ok X G (c.t.d.fact 19 (f := .glo "_law_terms") rfl)
  obtain ⟨fd__law_about, F__law_about⟩ := c.t.d.def_ 20 (d := d__law_about) rfl
  have m__law_about := He.glo_ok X G (c.t.d.fact 20 (f := .glo "_law_about") rfl)
  obtain ⟨fd__law_hand_right, F__law_hand_right⟩ := c.t.d.def_ 21 (d := d__law_hand_right) rfl
  have m__law_hand_right := He.glo_ok X G (c.t.d.fact 21 (f := .glo "_law_hand_right") rfl)
  obtain ⟨fd__law_right, F__law_right⟩ := c.t.d.def_ 22 (d := d__law_right) rfl
  have m__law_right := He.glo_ok X G (c.t.d.fact 22 (f := .glo "_law_right") rfl)
  obtain ⟨fd_law, F_law⟩ := c.t.d.def_ 23 (d := d_law) rfl
  have m_law := He.glo_ok X G (c.t.d.fact 23 (f := .glo "law") rfl)
  obtain c_tupled := ok_tupled (P := PySem.Challenge.pw_lastlimit_k08_what_lists_tell) (w := w) (base := base) (B := B0) T  F_tupled m_tupled 16
  obtain c_set_of := ok_set_of (P := PySem.Challenge.pw_lastlimit_k08_what_lists_tell) (w := w) (base := base) (B := B0) T  F_set_of m_set_of
  obtain c_names_in := ok_names_in (P := PySem.Challenge.pw_lastlimit_k08_what_lists_tell) (w := w) (base := base) (B := B0) T c_set_of F_names_in m_names_in
  obtain c_all_ups := ok_all_ups (P := PySem.Challenge.pw_lastlimit_k08_what_lists_tell) (w := w) (base := base) (B := B0) T  F_all_ups m_all_ups
  obtain c_terms := ok_terms (P := PySem.Challenge.pw_lastlimit_k08_what_lists_tell) (w := w) (base := base) (B := B0) T c_tupled F_terms m_terms
  obtain c_leveled := ok_leveled (P := PySem.Challenge.pw_lastlimit_k08_what_lists_tell) (w := w) (base := base) (B := B0) T c_terms F_leveled m_leveled
  obtain c_moved := ok_moved (P := PySem.Challenge.pw_lastlimit_k08_what_lists_tell) (w := w) (base := base) (B := B0) T c_tupled F_moved m_moved
  obtain c_put_behind := ok_put_behind (P := PySem.Challenge.pw_lastlimit_k08_what_lists_tell) (w := w) (base := base) (B := B0) T c_tupled F_put_behind m_put_behind
  obtain c_opposite := ok_opposite (P := PySem.Challenge.pw_lastlimit_k08_what_lists_tell) (w := w) (base := base) (B := B0) T c_tupled F_opposite m_opposite
  obtain c__law_box := ok__law_box (P := PySem.Challenge.pw_lastlimit_k08_what_lists_tell) (w := w) (base := base) (B := B0) T  F__law_box m__law_box
  obtain c__law_take := ok__law_take (P := PySem.Challenge.pw_lastlimit_k08_what_lists_tell) (w := w) (base := base) (B := B0) T  F__law_take m__law_take
  obtain c__law_cells := ok__law_cells (P := PySem.Challenge.pw_lastlimit_k08_what_lists_tell) (w := w) (base := base) (B := B0) T  F__law_cells m__law_cells
  obtain c__law_of := ok__law_of (P := PySem.Challenge.pw_lastlimit_k08_what_lists_tell) (w := w) (base := base) (B := B0) T c__law_take F__law_of m__law_of
  obtain c__law_pick := ok__law_pick (P := PySem.Challenge.pw_lastlimit_k08_what_lists_tell) (w := w) (base := base) (B := B0) T c__law_take F__law_pick m__law_pick
  obtain c__law_lists := ok__law_lists (P := PySem.Challenge.pw_lastlimit_k08_what_lists_tell) (w := w) (base := base) (B := B0) T  F__law_lists m__law_lists 16
  obtain c__law_same := ok__law_same (P := PySem.Challenge.pw_lastlimit_k08_what_lists_tell) (w := w) (base := base) (B := B0) T  F__law_same m__law_same 16
  obtain c__law_tags := ok__law_tags (P := PySem.Challenge.pw_lastlimit_k08_what_lists_tell) (w := w) (base := base) (B := B0) T c__law_pick F__law_tags m__law_tags
  obtain c__law_deed := ok__law_deed (P := PySem.Challenge.pw_lastlimit_k08_what_lists_tell) (w := w) (base := base) (B := B0) T c__law_of c__law_take F__law_deed m__law_deed
  obtain c__law_row := ok__law_row (P := PySem.Challenge.pw_lastlimit_k08_what_lists_tell) (w := w) (base := base) (B := B0) T c__law_deed c__law_take F__law_row m__law_row
  obtain c__law_terms := ok__law_terms (P := PySem.Challenge.pw_lastlimit_k08_what_lists_tell) (w := w) (base := base) (B := B0) T  F__law_terms m__law_terms
  obtain c__law_about := ok__law_about (P := PySem.Challenge.pw_lastlimit_k08_what_lists_tell) (w := w) (base := base) (B := B0) T  F__law_about m__law_about
  obtain c__law_hand_right := ok__law_hand_right (P := PySem.Challenge.pw_lastlimit_k08_what_lists_tell) (w := w) (base := base) (B := B0) T c__law_lists c__law_same c_all_ups c_leveled c_moved c_names_in c_opposite c_put_behind c_terms F__law_hand_right m__law_hand_right
  obtain c__law_right := ok__law_right (P := PySem.Challenge.pw_lastlimit_k08_what_lists_tell) (w := w) (base := base) (B := B0) T c__law_about c__law_lists c__law_row c__law_same c__law_tags c__law_take c__law_terms c_all_ups c_leveled c_moved c_names_in c_opposite c_put_behind c_terms F__law_right m__law_right
  obtain c_law := ok_law (P := PySem.Challenge.pw_lastlimit_k08_what_lists_tell) (w := w) (base := base) (B := B0) T c__law_box c__law_cells c__law_hand_right c__law_right F_law m_law
  exact c_law
end K08
end

section
set_option Elab.async false
set_option linter.all false
set_option maxRecDepth 100000
set_option maxHeartbeats 1000000
namespace VL
open PySem
/-! ### loops -/
theorem w_forI {tg : Tg} {mb : M Fl} {E : XE} (I : Nat → Env → Prop) {Q : Fl → Env → Prop} : ∀ {ds : List D} {k : Nat} {ρ : Env}, I k ρ →
    (∀ j d ρ, ds[j]? = some d → I (k + j) ρ → wO (bindT tg d ρ) fun ρ1 => wM mb ρ1 (fun f ρ2 => match f with
      | .nx => I (k + j + 1) ρ2
      | .ct => I (k + j + 1) ρ2
      | .bk => Q .nx ρ2
      | .rt d => Q (.rt d) ρ2) E) → (∀ ρ', I (k + ds.length) ρ' → Q .nx ρ') → wM (forL tg mb ds) ρ Q E
  | [], k, ρ, h0, hs, hq => by rw [w_forL_nil]; exact hq ρ h0
  | d :: ds, k, ρ, h0, hs, hq => by
    rw [w_forL_cons]
    obtain ⟨ρ1, e1, h1⟩ := wO_get (hs 0 d ρ rfl h0)
    rw [e1, wO_some]
    have go : ∀ ρ2, I (k + 1) ρ2 → wM (forL tg mb ds) ρ2 Q E := fun ρ2 h2 => w_forI (k := k + 1) I h2 (fun j d' ρ' hj hi => by
      have := hs (j + 1) d' ρ' (by simpa using hj) (by rw [show k + (j + 1) = k + 1 + j by omega]; exact hi)
      rw [show k + (j + 1) = k + 1 + j by omega] at this
      exact this) fun ρ' h' => hq ρ' (by rw [List.length_cons, show k + (ds.length + 1) = k + 1 + ds.length by omega]; exact h')
    refine wM_mono h1 (fun f ρ2 hp => ?_) fun _ _ _ h => h
    cases f with
    | nx => exact go ρ2 hp
    | ct => exact go ρ2 hp
    | bk => exact hp
    | rt d => exact hp
/-- a comprehension, by what holds of what is gathered -/
theorem w_lcI {tg : Tg} {own : List Nat} {mt : M Bool} {me : M D} {E : XE} (I : Nat → List D → Env → Prop) {Q : List D → Env → Prop} : ∀ {ds acc : List D} {k : Nat} {ρ : Env}, I k acc ρ →
    (∀ j d acc ρ, ds[j]? = some d → I (k + j) acc ρ → wO (bindT tg d ρ) fun ρ1 => wM mt ρ1 (fun b ρ2 => wIf b (wM me ρ2 (fun x ρ3 => I (k + j + 1) (acc ++ [x]) (wipeE ρ3 own)) E0) (I (k + j + 1) acc (wipeE ρ2 own))) E0) →
    (∀ acc' ρ', I (k + ds.length) acc' ρ' → Q acc' ρ') → wM (lcL tg own mt me ds acc) ρ Q E
  | [], acc, k, ρ, h0, hs, hq => by rw [w_lcL_nil]; exact hq acc ρ h0
  | d :: ds, acc, k, ρ, h0, hs, hq => by
    rw [w_lcL_cons]
    obtain ⟨ρ1, e1, h1⟩ := wO_get (hs 0 d acc ρ rfl h0)
    rw [e1, wO_some]
    have go : ∀ acc2 ρ2, I (k + 1) acc2 ρ2 → wM (lcL tg own mt me ds acc2) ρ2 Q E := fun acc2 ρ2 h2 => w_lcI (k := k + 1) I h2 (fun j d' acc' ρ' hj hi => by
      have := hs (j + 1) d' acc' ρ' (by simpa using hj) (by rw [show k + (j + 1) = k + 1 + j by omega]; exact hi)
      rw [show k + (j + 1) = k + 1 + j by omega] at this
      exact this) fun acc' ρ' h' => hq acc' ρ' (by rw [List.length_cons, show k + (ds.length + 1) = k + 1 + ds.length by omega]; exact h')
    refine wM_imp h1 fun b ρ2 hp => ?_
    cases b with
    | false => rw [wIf_false] at hp ⊢; exact go _ _ hp
    | true =>
      rw [wIf_true] at hp ⊢
      exact wM_imp hp fun x ρ3 hq => go _ _ hq
/-- a comprehension that reads -/
theorem w_lcP {tg : Tg} {own : List Nat} {mt : M Bool} {me : M D} {E : XE} (c : D → Bool) (g : D → D) {Q : List D → Env → Prop} {ds acc : List D} {ρ : Env}
    (hs : ∀ d ∈ ds, wO (bindT tg d ρ) fun ρ1 => wM mt ρ1 (fun b ρ2 => b = c d ∧ wIf b (wM me ρ2 (fun x ρ3 => x = g d ∧ wipeE ρ3 own = ρ) E0) (wipeE ρ2 own = ρ)) E0)
    (hq : Q (acc ++ (ds.filter c).map g) ρ) : wM (lcL tg own mt me ds acc) ρ Q E := by
  refine w_lcI (k := 0) (fun j a ρ' => ρ' = ρ ∧ a = acc ++ ((ds.take j).filter c).map g) ⟨rfl, by simp⟩ ?_ ?_
  · rintro j d a ρ' hj ⟨rfl, rfl⟩
    have hm : d ∈ ds := List.mem_of_getElem? hj
    have ht : ds.take (j + 1) = ds.take j ++ [d] := by rw [List.take_add_one, hj]; rfl
    rw [Nat.zero_add, ht]
    obtain ⟨ρ1, e1, h⟩ := wO_get (hs d hm)
    rw [e1, wO_some]
    refine wM_imp h fun b ρ2 hp => ?_
    obtain ⟨e, hp⟩ := hp
    have e' : b = c d := e
    cases b with
    | false =>
      rw [wIf_false] at hp ⊢
      exact ⟨hp, by rw [List.filter_append, List.filter_cons_of_neg (by rw [← e']; decide)]; simp⟩
    | true =>
      rw [wIf_true] at hp ⊢
      refine wM_imp hp fun x ρ3 hq => ⟨hq.2, ?_⟩
      rw [List.filter_append, List.filter_cons_of_pos (by rw [← e']), hq.1]
      simp
  · rintro a ρ' ⟨rfl, rfl⟩
    rw [Nat.zero_add, List.take_length]
    exact hq
/-- the same without a test -/
theorem w_lcM {tg : Tg} {own : List Nat} {me : M D} {E : XE} (g : D → D) {Q : List D → Env → Prop} {ds acc : List D} {ρ : Env}
    (hs : ∀ d ∈ ds, wO (bindT tg d ρ) fun ρ1 => wM me ρ1 (fun x ρ3 => x = g d ∧ wipeE ρ3 own = ρ) E0)
    (hq : Q (acc ++ ds.map g) ρ) : wM (lcL tg own (M.pure true) me ds acc) ρ Q E := by
  refine w_lcP (fun _ => true) g (fun d hd => ?_) (by rw [List.filter_eq_self.mpr fun _ _ => rfl]; exact hq)
  obtain ⟨ρ1, e1, h⟩ := wO_get (hs d hd)
  rw [e1, wO_some, w_pure]
  exact ⟨rfl, by rw [wIf_true]; exact h⟩
theorem bools_map : ∀ (l : List Bool), bools (l.map PyData.bool) = some l
  | [] => rfl
  | b :: l => by rw [List.map_cons, bools, bools_map l]; rfl
theorem cAll_map (l : List Bool) : cAll [.list (l.map PyData.bool)] = some (.bool (l.all id)) := by
  show (bools _).map _ = _
  rw [bools_map]; rfl
theorem cAny_map (l : List Bool) : cAny [.list (l.map PyData.bool)] = some (.bool (l.any id)) := by
  show (bools _).map _ = _
  rw [bools_map]; rfl
theorem cAll_mb (ds : List D) (c : D → Bool) : cAll [.list (ds.map fun d => .bool (c d))] = some (.bool (ds.all c)) := by
  rw [show ds.map (fun d => PyData.bool (c d)) = (ds.map c).map PyData.bool by rw [List.map_map]; rfl, cAll_map, List.all_map]; rfl
theorem cAny_mb (ds : List D) (c : D → Bool) : cAny [.list (ds.map fun d => .bool (c d))] = some (.bool (ds.any c)) := by
  rw [show ds.map (fun d => PyData.bool (c d)) = (ds.map c).map PyData.bool by rw [List.map_map]; rfl, cAny_map, List.any_map]; rfl
/-- [e for x in xs if t] -/
theorem w_comp {tg : Tg} {own : List Nat} {ml : M (List D)} {mt : M Bool} {me : M D} {ρ : Env} {Q : D → Env → Prop} {E : XE} (c : D → Bool) (g : D → D)
    (h : wM ml ρ (fun ds ρ1 => ds.length ≤ sizeLine ∧ (∀ d ∈ ds, wO (bindT tg d (wipeE ρ1 own)) fun ρ2 => wM mt ρ2 (fun b ρ3 => b = c d ∧ wIf b (wM me ρ3 (fun x ρ4 => x = g d ∧ wipeE ρ4 own = wipeE ρ1 own) E0) (wipeE ρ3 own = wipeE ρ1 own)) E0) ∧ Q (.list ((ds.filter c).map g)) (backE ρ1 own (wipeE ρ1 own))) E) :
    wM (mLc tg own ml mt me) ρ Q E := by
  rw [w_lc]
  refine wM_mono h (fun ds ρ1 hp => ?_) fun _ _ _ h => h
  obtain ⟨h1, h2, h3⟩ := hp
  exact ⟨h1, w_lcP c g h2 (by rw [List.nil_append]; exact h3)⟩
/-- [e for x in xs] -/
theorem w_map {tg : Tg} {own : List Nat} {ml : M (List D)} {me : M D} {ρ : Env} {Q : D → Env → Prop} {E : XE} (g : D → D)
    (h : wM ml ρ (fun ds ρ1 => ds.length ≤ sizeLine ∧ (∀ d ∈ ds, wO (bindT tg d (wipeE ρ1 own)) fun ρ2 => wM me ρ2 (fun x ρ4 => x = g d ∧ wipeE ρ4 own = wipeE ρ1 own) E0) ∧ Q (.list (ds.map g)) (backE ρ1 own (wipeE ρ1 own))) E) :
    wM (mLc tg own ml (M.pure true) me) ρ Q E := by
  rw [w_lc]
  refine wM_mono h (fun ds ρ1 hp => ?_) fun _ _ _ h => h
  obtain ⟨h1, h2, h3⟩ := hp
  exact ⟨h1, w_lcM g h2 (by rw [List.nil_append]; exact h3)⟩
/-! ### the box of draws -/
def Bx (n : Nat) (d : D) : Prop := ∃ a b c : Int, d = .list [.int a, .int b, .int c] ∧ 0 ≤ a ∧ 0 ≤ b ∧ b < 2 ^ 62 ∧ 0 ≤ c ∧ c ≤ n
theorem Bx.mono {n n' : Nat} {d : D} (h : Bx n d) (l : n ≤ n') : Bx n' d := by
  obtain ⟨a, b, c, h1, h2, h3, h4, h5, h6⟩ := h
  exact ⟨a, b, c, h1, h2, h3, h4, h5, by omega⟩
theorem atI0 (a b c : D) : L2.atI [a, b, c] 0 = some a := rfl
theorem atI1 (a b c : D) : L2.atI [a, b, c] 1 = some b := rfl
theorem atI2 (a b c : D) : L2.atI [a, b, c] 2 = some c := rfl
theorem ixN0 : L2.ixN 3 0 = some 0 := rfl
theorem ixN2 : L2.ixN 3 2 = some 2 := rfl
theorem atI_nat {α : Type} {xs : List α} {i : Nat} {x : α} (h : xs[i]? = some x) : L2.atI xs (i : Int) = some x := by
  have hl : i < xs.length := (List.getElem?_eq_some_iff.mp h).1
  unfold L2.atI L2.ixN
  have e := (List.getElem?_eq_some_iff.mp h).2
  simp [hl, e]
theorem perm_erase {α : Type} : ∀ {l : List α} {i : Nat} (h : i < l.length), (l[i] :: l.eraseIdx i).Perm l
  | x :: l, 0, h => List.Perm.refl _
  | x :: l, i + 1, h => by
    have hi : i < l.length := by simpa using h
    exact (List.Perm.swap x l[i] _).trans ((perm_erase hi).cons x)
theorem seqIndex_nat {i n : Nat} (h : i < n) : seqIndex? (i : Int) n = some i := by
  unfold seqIndex?
  have e : ¬ ((i : Int) < 0) := by omega
  simp only [e, if_false]
  simp
  omega
end VL
namespace LL
open PySem VL
theorem take_sp {n : Nat} {d : D} {t : Int} (h : Bx n d) (hn : n < 2 ^ 60) (h0 : 0 < t) (h1 : t < 1073741824) :
    wX (f__law_take [d, .int t]) (fun p => ∃ i : Nat, p.1 = .int i ∧ (i : Int) < t ∧ ∃ d', p.2 = [d'] ∧ Bx (n + 1) d') E0 := by
  obtain ⟨a, b, c, rfl, ha, hb, hb2, hc, hc2⟩ := h
  unfold f__law_take
  (simp (disch := first | omega | (simp only [List.length_cons, List.length_nil, List.length_append, List.length_map, List.length_take, List.length_drop, List.length_reverse, List.length_set]; omega) | decide) only [atI0, atI1, atI2, ixN0, ixN2, wX_ok, wX_exc, wO_some, wO_ite, wIf_true, wIf_false, wIf_not, wF_nx, wF_rt, wF_bk, wF_ct, w_pure, w_bind, w_of, w_m1, w_m2, w_var, w_c, w_truth, w_ite, w_and, w_or, w_not, w_andV, w_orV, w_notV, w_if, w_nil, w_cons, w_tup, w_lst, w_call, w_nx, w_seq, w_drop, w_ret, w_set, w_ifS, w_slot, w_callF, w_callK, w_app2, w_part, w_noPart, w_sl, w_seqOf, w_rng, w_for, w_forL_nil, w_app, w_ixO, w_lenO, w_popAt, w_setIx, w_aug, w_par2, w_par3, w_mbind, w_chain, wX_runF, VL.fill, VL.put, outs, startE, wipeE, backE, bindT_nm, bindT_tt, bindT_tl, bindTs_n, bindTs_c, VL.pick, List.filterMap_cons, List.filterMap_nil, List.map_cons, List.map_nil, List.length_cons, List.length_nil, List.replicate, List.cons_append, List.nil_append, List.getElem?_cons_zero, List.getElem?_cons_succ, List.set_cons_zero, List.set_cons_succ, Option.map_some, Option.bind_some, Option.getD_some, Nat.reduceSub, Nat.reduceAdd, Int.cast_ofNat_Int, Int.reduceLT, Int.reduceLE, Int.reduceNeg, Int.reduceEq, gEq_int, gNe_int, gLt_int, gGt_int, gLe_int, gGe_int, gAdd_int, gSub_int, gMul_l, gMul_r, gMod_int, gFdv_int, gNeg_i, cInt_i, cInt_b, cAbs_i, cLen_l, cLen_t, cTup_l, cTup_t, cLst_l, cLst_t, gIx_l, gIx_t, setI_i, popI_i, gSl_l, gSl_t, gSl_scr, dSeq_l, dSeq_t, dSeq_s, cMin2_i, cMax2_i, cEnum_l, cZip_l, cZip_t, tr_b, tr_i, tr_l, tr_t, tr_n, gIs_n, gIsn_n, isN, lstAt_0, lstAt_s, gAdd_l, gAdd_t, le_sizeP, lt_sizeP, gPow_i, cAll_mb, cAny_mb, w_star, w_tupS, w_lstS, w_star2, dItems_l, dItems_t, gCat_l, starT_c, gRev_ll, gRev_tt, true_and, and_true, Bool.not_true, Bool.not_false, decide_true, decide_false, isi_int_non, isi_int_bl, isi_int_int, isi_int_str, isi_int_lst, isi_int_tup, isi_str_non, isi_str_bl, isi_str_int, isi_str_str, isi_str_lst, isi_str_tup, isi_bool_non, isi_bool_bl, isi_bool_int, isi_bool_str, isi_bool_lst, isi_bool_tup, isi_list_non, isi_list_bl, isi_list_int, isi_list_str, isi_list_lst, isi_list_tup, isi_tuple_non, isi_tuple_bl, isi_tuple_int, isi_tuple_str, isi_tuple_lst, isi_tuple_tup, isi_dict_non, isi_dict_bl, isi_dict_int, isi_dict_str, isi_dict_lst, isi_dict_tup, isi_list_tuple_non, isi_list_tuple_bl, isi_list_tuple_int, isi_list_tuple_str, isi_list_tuple_lst, isi_list_tuple_tup, isi_bool_str_non, isi_bool_str_bl, isi_bool_str_int, isi_bool_str_str, isi_bool_str_lst, isi_bool_str_tup])
  refine wIf_dec (fun h => ?_) fun h => ?_
  · (simp (disch := first | omega | (simp only [List.length_cons, List.length_nil, List.length_append, List.length_map, List.length_take, List.length_drop, List.length_reverse, List.length_set]; omega) | decide) only [atI0, atI1, atI2, ixN0, ixN2, wX_ok, wX_exc, wO_some, wO_ite, wIf_true, wIf_false, wIf_not, wF_nx, wF_rt, wF_bk, wF_ct, w_pure, w_bind, w_of, w_m1, w_m2, w_var, w_c, w_truth, w_ite, w_and, w_or, w_not, w_andV, w_orV, w_notV, w_if, w_nil, w_cons, w_tup, w_lst, w_call, w_nx, w_seq, w_drop, w_ret, w_set, w_ifS, w_slot, w_callF, w_callK, w_app2, w_part, w_noPart, w_sl, w_seqOf, w_rng, w_for, w_forL_nil, w_app, w_ixO, w_lenO, w_popAt, w_setIx, w_aug, w_par2, w_par3, w_mbind, w_chain, wX_runF, VL.fill, VL.put, outs, startE, wipeE, backE, bindT_nm, bindT_tt, bindT_tl, bindTs_n, bindTs_c, VL.pick, List.filterMap_cons, List.filterMap_nil, List.map_cons, List.map_nil, List.length_cons, List.length_nil, List.replicate, List.cons_append, List.nil_append, List.getElem?_cons_zero, List.getElem?_cons_succ, List.set_cons_zero, List.set_cons_succ, Option.map_some, Option.bind_some, Option.getD_some, Nat.reduceSub, Nat.reduceAdd, Int.cast_ofNat_Int, Int.reduceLT, Int.reduceLE, Int.reduceNeg, Int.reduceEq, gEq_int, gNe_int, gLt_int, gGt_int, gLe_int, gGe_int, gAdd_int, gSub_int, gMul_l, gMul_r, gMod_int, gFdv_int, gNeg_i, cInt_i, cInt_b, cAbs_i, cLen_l, cLen_t, cTup_l, cTup_t, cLst_l, cLst_t, gIx_l, gIx_t, setI_i, popI_i, gSl_l, gSl_t, gSl_scr, dSeq_l, dSeq_t, dSeq_s, cMin2_i, cMax2_i, cEnum_l, cZip_l, cZip_t, tr_b, tr_i, tr_l, tr_t, tr_n, gIs_n, gIsn_n, isN, lstAt_0, lstAt_s, gAdd_l, gAdd_t, le_sizeP, lt_sizeP, gPow_i, cAll_mb, cAny_mb, w_star, w_tupS, w_lstS, w_star2, dItems_l, dItems_t, gCat_l, starT_c, gRev_ll, gRev_tt, true_and, and_true, Bool.not_true, Bool.not_false, decide_true, decide_false, isi_int_non, isi_int_bl, isi_int_int, isi_int_str, isi_int_lst, isi_int_tup, isi_str_non, isi_str_bl, isi_str_int, isi_str_str, isi_str_lst, isi_str_tup, isi_bool_non, isi_bool_bl, isi_bool_int, isi_bool_str, isi_bool_lst, isi_bool_tup, isi_list_non, isi_list_bl, isi_list_int, isi_list_str, isi_list_lst, isi_list_tup, isi_tuple_non, isi_tuple_bl, isi_tuple_int, isi_tuple_str, isi_tuple_lst, isi_tuple_tup, isi_dict_non, isi_dict_bl, isi_dict_int, isi_dict_str, isi_dict_lst, isi_dict_tup, isi_list_tuple_non, isi_list_tuple_bl, isi_list_tuple_int, isi_list_tuple_str, isi_list_tuple_lst, isi_list_tuple_tup, isi_bool_str_non, isi_bool_str_bl, isi_bool_str_int, isi_bool_str_str, isi_bool_str_lst, isi_bool_str_tup])
    have p1 := Int.emod_nonneg a (Int.ne_of_gt h0)
    have p2 := Int.emod_lt_of_pos a h0
    exact ⟨(a % t).toNat, by rw [Int.toNat_of_nonneg p1], by omega, _, rfl, a / t, b, c, rfl, Int.ediv_nonneg ha (Int.le_of_lt h0), hb, hb2, hc, by omega⟩
  · (simp (disch := first | omega | (simp only [List.length_cons, List.length_nil, List.length_append, List.length_map, List.length_take, List.length_drop, List.length_reverse, List.length_set]; omega) | decide) only [atI0, atI1, atI2, ixN0, ixN2, wX_ok, wX_exc, wO_some, wO_ite, wIf_true, wIf_false, wIf_not, wF_nx, wF_rt, wF_bk, wF_ct, w_pure, w_bind, w_of, w_m1, w_m2, w_var, w_c, w_truth, w_ite, w_and, w_or, w_not, w_andV, w_orV, w_notV, w_if, w_nil, w_cons, w_tup, w_lst, w_call, w_nx, w_seq, w_drop, w_ret, w_set, w_ifS, w_slot, w_callF, w_callK, w_app2, w_part, w_noPart, w_sl, w_seqOf, w_rng, w_for, w_forL_nil, w_app, w_ixO, w_lenO, w_popAt, w_setIx, w_aug, w_par2, w_par3, w_mbind, w_chain, wX_runF, VL.fill, VL.put, outs, startE, wipeE, backE, bindT_nm, bindT_tt, bindT_tl, bindTs_n, bindTs_c, VL.pick, List.filterMap_cons, List.filterMap_nil, List.map_cons, List.map_nil, List.length_cons, List.length_nil, List.replicate, List.cons_append, List.nil_append, List.getElem?_cons_zero, List.getElem?_cons_succ, List.set_cons_zero, List.set_cons_succ, Option.map_some, Option.bind_some, Option.getD_some, Nat.reduceSub, Nat.reduceAdd, Int.cast_ofNat_Int, Int.reduceLT, Int.reduceLE, Int.reduceNeg, Int.reduceEq, gEq_int, gNe_int, gLt_int, gGt_int, gLe_int, gGe_int, gAdd_int, gSub_int, gMul_l, gMul_r, gMod_int, gFdv_int, gNeg_i, cInt_i, cInt_b, cAbs_i, cLen_l, cLen_t, cTup_l, cTup_t, cLst_l, cLst_t, gIx_l, gIx_t, setI_i, popI_i, gSl_l, gSl_t, gSl_scr, dSeq_l, dSeq_t, dSeq_s, cMin2_i, cMax2_i, cEnum_l, cZip_l, cZip_t, tr_b, tr_i, tr_l, tr_t, tr_n, gIs_n, gIsn_n, isN, lstAt_0, lstAt_s, gAdd_l, gAdd_t, le_sizeP, lt_sizeP, gPow_i, cAll_mb, cAny_mb, w_star, w_tupS, w_lstS, w_star2, dItems_l, dItems_t, gCat_l, starT_c, gRev_ll, gRev_tt, true_and, and_true, Bool.not_true, Bool.not_false, decide_true, decide_false, isi_int_non, isi_int_bl, isi_int_int, isi_int_str, isi_int_lst, isi_int_tup, isi_str_non, isi_str_bl, isi_str_int, isi_str_str, isi_str_lst, isi_str_tup, isi_bool_non, isi_bool_bl, isi_bool_int, isi_bool_str, isi_bool_lst, isi_bool_tup, isi_list_non, isi_list_bl, isi_list_int, isi_list_str, isi_list_lst, isi_list_tup, isi_tuple_non, isi_tuple_bl, isi_tuple_int, isi_tuple_str, isi_tuple_lst, isi_tuple_tup, isi_dict_non, isi_dict_bl, isi_dict_int, isi_dict_str, isi_dict_lst, isi_dict_tup, isi_list_tuple_non, isi_list_tuple_bl, isi_list_tuple_int, isi_list_tuple_str, isi_list_tuple_lst, isi_list_tuple_tup, isi_bool_str_non, isi_bool_str_bl, isi_bool_str_int, isi_bool_str_str, isi_bool_str_lst, isi_bool_str_tup])
    generalize (_ : Int) / 64 = z
    have p1 := Int.emod_nonneg z (Int.ne_of_gt h0)
    have p2 := Int.emod_lt_of_pos z h0
    exact ⟨(z % t).toNat, by rw [Int.toNat_of_nonneg p1], by omega, _, rfl, a, b, c + 1, rfl, ha, hb, hb2, by omega, by omega⟩
theorem of_sp {n : Nat} {d pool : D} {xs : List D} (hx : pool = .list xs ∨ pool = .tuple xs) (h : Bx n d) (hn : n < 2 ^ 60) (h0 : xs ≠ []) (h1 : xs.length < 1073741824) :
    wX (f__law_of [d, pool]) (fun p => p.1 ∈ xs ∧ ∃ d', p.2 = [d'] ∧ Bx (n + 1) d') E0 := by
  unfold f__law_of
  have hp : 0 < xs.length := List.length_pos_iff.mpr h0
  have hc : cLen [pool] = some (.int xs.length) := by rcases hx with rfl | rfl <;> rfl
  have hg : ∀ i : Int, gIx pool (.int i) = L2.atI xs i := by rcases hx with rfl | rfl <;> exact fun _ => rfl
  (simp (disch := first | omega | (simp only [List.length_cons, List.length_nil, List.length_append, List.length_map, List.length_take, List.length_drop, List.length_reverse, List.length_set]; omega) | decide) only [hc, wX_ok, wX_exc, wO_some, wO_ite, wIf_true, wIf_false, wIf_not, wF_nx, wF_rt, wF_bk, wF_ct, w_pure, w_bind, w_of, w_m1, w_m2, w_var, w_c, w_truth, w_ite, w_and, w_or, w_not, w_andV, w_orV, w_notV, w_if, w_nil, w_cons, w_tup, w_lst, w_call, w_nx, w_seq, w_drop, w_ret, w_set, w_ifS, w_slot, w_callF, w_callK, w_app2, w_part, w_noPart, w_sl, w_seqOf, w_rng, w_for, w_forL_nil, w_app, w_ixO, w_lenO, w_popAt, w_setIx, w_aug, w_par2, w_par3, w_mbind, w_chain, wX_runF, VL.fill, VL.put, outs, startE, wipeE, backE, bindT_nm, bindT_tt, bindT_tl, bindTs_n, bindTs_c, VL.pick, List.filterMap_cons, List.filterMap_nil, List.map_cons, List.map_nil, List.length_cons, List.length_nil, List.replicate, List.cons_append, List.nil_append, List.getElem?_cons_zero, List.getElem?_cons_succ, List.set_cons_zero, List.set_cons_succ, Option.map_some, Option.bind_some, Option.getD_some, Nat.reduceSub, Nat.reduceAdd, Int.cast_ofNat_Int, Int.reduceLT, Int.reduceLE, Int.reduceNeg, Int.reduceEq, gEq_int, gNe_int, gLt_int, gGt_int, gLe_int, gGe_int, gAdd_int, gSub_int, gMul_l, gMul_r, gMod_int, gFdv_int, gNeg_i, cInt_i, cInt_b, cAbs_i, cLen_l, cLen_t, cTup_l, cTup_t, cLst_l, cLst_t, gIx_l, gIx_t, setI_i, popI_i, gSl_l, gSl_t, gSl_scr, dSeq_l, dSeq_t, dSeq_s, cMin2_i, cMax2_i, cEnum_l, cZip_l, cZip_t, tr_b, tr_i, tr_l, tr_t, tr_n, gIs_n, gIsn_n, isN, lstAt_0, lstAt_s, gAdd_l, gAdd_t, le_sizeP, lt_sizeP, gPow_i, cAll_mb, cAny_mb, w_star, w_tupS, w_lstS, w_star2, dItems_l, dItems_t, gCat_l, starT_c, gRev_ll, gRev_tt, true_and, and_true, Bool.not_true, Bool.not_false, decide_true, decide_false, isi_int_non, isi_int_bl, isi_int_int, isi_int_str, isi_int_lst, isi_int_tup, isi_str_non, isi_str_bl, isi_str_int, isi_str_str, isi_str_lst, isi_str_tup, isi_bool_non, isi_bool_bl, isi_bool_int, isi_bool_str, isi_bool_lst, isi_bool_tup, isi_list_non, isi_list_bl, isi_list_int, isi_list_str, isi_list_lst, isi_list_tup, isi_tuple_non, isi_tuple_bl, isi_tuple_int, isi_tuple_str, isi_tuple_lst, isi_tuple_tup, isi_dict_non, isi_dict_bl, isi_dict_int, isi_dict_str, isi_dict_lst, isi_dict_tup, isi_list_tuple_non, isi_list_tuple_bl, isi_list_tuple_int, isi_list_tuple_str, isi_list_tuple_lst, isi_list_tuple_tup, isi_bool_str_non, isi_bool_str_bl, isi_bool_str_int, isi_bool_str_str, isi_bool_str_lst, isi_bool_str_tup])
  refine wX_imp (take_sp h hn (by omega) (by omega)) ?_
  rintro ⟨_, _⟩ ⟨i, rfl, hi, d', rfl, hb⟩
  have hi' : i < xs.length := by omega
  (simp (disch := first | omega | (simp only [List.length_cons, List.length_nil, List.length_append, List.length_map, List.length_take, List.length_drop, List.length_reverse, List.length_set]; omega) | decide) only [hg, atI_nat (List.getElem?_eq_getElem hi'), wX_ok, wX_exc, wO_some, wO_ite, wIf_true, wIf_false, wIf_not, wF_nx, wF_rt, wF_bk, wF_ct, w_pure, w_bind, w_of, w_m1, w_m2, w_var, w_c, w_truth, w_ite, w_and, w_or, w_not, w_andV, w_orV, w_notV, w_if, w_nil, w_cons, w_tup, w_lst, w_call, w_nx, w_seq, w_drop, w_ret, w_set, w_ifS, w_slot, w_callF, w_callK, w_app2, w_part, w_noPart, w_sl, w_seqOf, w_rng, w_for, w_forL_nil, w_app, w_ixO, w_lenO, w_popAt, w_setIx, w_aug, w_par2, w_par3, w_mbind, w_chain, wX_runF, VL.fill, VL.put, outs, startE, wipeE, backE, bindT_nm, bindT_tt, bindT_tl, bindTs_n, bindTs_c, VL.pick, List.filterMap_cons, List.filterMap_nil, List.map_cons, List.map_nil, List.length_cons, List.length_nil, List.replicate, List.cons_append, List.nil_append, List.getElem?_cons_zero, List.getElem?_cons_succ, List.set_cons_zero, List.set_cons_succ, Option.map_some, Option.bind_some, Option.getD_some, Nat.reduceSub, Nat.reduceAdd, Int.cast_ofNat_Int, Int.reduceLT, Int.reduceLE, Int.reduceNeg, Int.reduceEq, gEq_int, gNe_int, gLt_int, gGt_int, gLe_int, gGe_int, gAdd_int, gSub_int, gMul_l, gMul_r, gMod_int, gFdv_int, gNeg_i, cInt_i, cInt_b, cAbs_i, cLen_l, cLen_t, cTup_l, cTup_t, cLst_l, cLst_t, gIx_l, gIx_t, setI_i, popI_i, gSl_l, gSl_t, gSl_scr, dSeq_l, dSeq_t, dSeq_s, cMin2_i, cMax2_i, cEnum_l, cZip_l, cZip_t, tr_b, tr_i, tr_l, tr_t, tr_n, gIs_n, gIsn_n, isN, lstAt_0, lstAt_s, gAdd_l, gAdd_t, le_sizeP, lt_sizeP, gPow_i, cAll_mb, cAny_mb, w_star, w_tupS, w_lstS, w_star2, dItems_l, dItems_t, gCat_l, starT_c, gRev_ll, gRev_tt, true_and, and_true, Bool.not_true, Bool.not_false, decide_true, decide_false, isi_int_non, isi_int_bl, isi_int_int, isi_int_str, isi_int_lst, isi_int_tup, isi_str_non, isi_str_bl, isi_str_int, isi_str_str, isi_str_lst, isi_str_tup, isi_bool_non, isi_bool_bl, isi_bool_int, isi_bool_str, isi_bool_lst, isi_bool_tup, isi_list_non, isi_list_bl, isi_list_int, isi_list_str, isi_list_lst, isi_list_tup, isi_tuple_non, isi_tuple_bl, isi_tuple_int, isi_tuple_str, isi_tuple_lst, isi_tuple_tup, isi_dict_non, isi_dict_bl, isi_dict_int, isi_dict_str, isi_dict_lst, isi_dict_tup, isi_list_tuple_non, isi_list_tuple_bl, isi_list_tuple_int, isi_list_tuple_str, isi_list_tuple_lst, isi_list_tuple_tup, isi_bool_str_non, isi_bool_str_bl, isi_bool_str_int, isi_bool_str_str, isi_bool_str_lst, isi_bool_str_tup])
  exact ⟨List.getElem_mem hi', d', rfl, hb⟩
theorem pick_sp {n : Nat} {d pool : D} {xs : List D} {m : Int} (hx : pool = .list xs ∨ pool = .tuple xs) (h : Bx n d) (hn : n + xs.length < 2 ^ 60) (h1 : xs.length < 1000000) (hm : 0 ≤ m) :
    wX (f__law_pick [d, pool, .int m]) (fun p => ∃ ys zs, p.1 = .list ys ∧ (ys ++ zs).Perm xs ∧ ys.length = min m.toNat xs.length ∧ ∃ d', p.2 = [d'] ∧ Bx (n + xs.length) d') E0 := by
  unfold f__law_pick
  have hc : cLst [pool] = some (.list xs) := by rcases hx with rfl | rfl <;> rfl
  (simp (disch := first | omega | (simp only [List.length_cons, List.length_nil, List.length_append, List.length_map, List.length_take, List.length_drop, List.length_reverse, List.length_set]; omega) | decide) only [hc, wX_ok, wX_exc, wO_some, wO_ite, wIf_true, wIf_false, wIf_not, wF_nx, wF_rt, wF_bk, wF_ct, w_pure, w_bind, w_of, w_m1, w_m2, w_var, w_c, w_truth, w_ite, w_and, w_or, w_not, w_andV, w_orV, w_notV, w_if, w_nil, w_cons, w_tup, w_lst, w_call, w_nx, w_seq, w_drop, w_ret, w_set, w_ifS, w_slot, w_callF, w_callK, w_app2, w_part, w_noPart, w_sl, w_seqOf, w_rng, w_for, w_forL_nil, w_app, w_ixO, w_lenO, w_popAt, w_setIx, w_aug, w_par2, w_par3, w_mbind, w_chain, wX_runF, VL.fill, VL.put, outs, startE, wipeE, backE, bindT_nm, bindT_tt, bindT_tl, bindTs_n, bindTs_c, VL.pick, List.filterMap_cons, List.filterMap_nil, List.map_cons, List.map_nil, List.length_cons, List.length_nil, List.replicate, List.cons_append, List.nil_append, List.getElem?_cons_zero, List.getElem?_cons_succ, List.set_cons_zero, List.set_cons_succ, Option.map_some, Option.bind_some, Option.getD_some, Nat.reduceSub, Nat.reduceAdd, Int.cast_ofNat_Int, Int.reduceLT, Int.reduceLE, Int.reduceNeg, Int.reduceEq, gEq_int, gNe_int, gLt_int, gGt_int, gLe_int, gGe_int, gAdd_int, gSub_int, gMul_l, gMul_r, gMod_int, gFdv_int, gNeg_i, cInt_i, cInt_b, cAbs_i, cLen_l, cLen_t, cTup_l, cTup_t, cLst_l, cLst_t, gIx_l, gIx_t, setI_i, popI_i, gSl_l, gSl_t, gSl_scr, dSeq_l, dSeq_t, dSeq_s, cMin2_i, cMax2_i, cEnum_l, cZip_l, cZip_t, tr_b, tr_i, tr_l, tr_t, tr_n, gIs_n, gIsn_n, isN, lstAt_0, lstAt_s, gAdd_l, gAdd_t, le_sizeP, lt_sizeP, gPow_i, cAll_mb, cAny_mb, w_star, w_tupS, w_lstS, w_star2, dItems_l, dItems_t, gCat_l, starT_c, gRev_ll, gRev_tt, true_and, and_true, Bool.not_true, Bool.not_false, decide_true, decide_false, isi_int_non, isi_int_bl, isi_int_int, isi_int_str, isi_int_lst, isi_int_tup, isi_str_non, isi_str_bl, isi_str_int, isi_str_str, isi_str_lst, isi_str_tup, isi_bool_non, isi_bool_bl, isi_bool_int, isi_bool_str, isi_bool_lst, isi_bool_tup, isi_list_non, isi_list_bl, isi_list_int, isi_list_str, isi_list_lst, isi_list_tup, isi_tuple_non, isi_tuple_bl, isi_tuple_int, isi_tuple_str, isi_tuple_lst, isi_tuple_tup, isi_dict_non, isi_dict_bl, isi_dict_int, isi_dict_str, isi_dict_lst, isi_dict_tup, isi_list_tuple_non, isi_list_tuple_bl, isi_list_tuple_int, isi_list_tuple_str, isi_list_tuple_lst, isi_list_tuple_tup, isi_bool_str_non, isi_bool_str_bl, isi_bool_str_int, isi_bool_str_str, isi_bool_str_lst, isi_bool_str_tup])
  have hr : rng1 [.int (if (xs.length : Int) < m then (xs.length : Int) else m)] = some (rng 0 (min m.toNat xs.length)) := by
    unfold rng1
    have e : lim62 (if (xs.length : Int) < m then (xs.length : Int) else m) = true := by
      unfold lim62
      simp only [Bool.and_eq_true, decide_eq_true_eq]
      split <;> omega
    simp only [e, if_true]
    congr 2
    split <;> omega
  (simp (disch := first | omega | (simp only [List.length_cons, List.length_nil, List.length_append, List.length_map, List.length_take, List.length_drop, List.length_reverse, List.length_set]; omega) | decide) only [hr, wX_ok, wX_exc, wO_some, wO_ite, wIf_true, wIf_false, wIf_not, wF_nx, wF_rt, wF_bk, wF_ct, w_pure, w_bind, w_of, w_m1, w_m2, w_var, w_c, w_truth, w_ite, w_and, w_or, w_not, w_andV, w_orV, w_notV, w_if, w_nil, w_cons, w_tup, w_lst, w_call, w_nx, w_seq, w_drop, w_ret, w_set, w_ifS, w_slot, w_callF, w_callK, w_app2, w_part, w_noPart, w_sl, w_seqOf, w_rng, w_for, w_forL_nil, w_app, w_ixO, w_lenO, w_popAt, w_setIx, w_aug, w_par2, w_par3, w_mbind, w_chain, wX_runF, VL.fill, VL.put, outs, startE, wipeE, backE, bindT_nm, bindT_tt, bindT_tl, bindTs_n, bindTs_c, VL.pick, List.filterMap_cons, List.filterMap_nil, List.map_cons, List.map_nil, List.length_cons, List.length_nil, List.replicate, List.cons_append, List.nil_append, List.getElem?_cons_zero, List.getElem?_cons_succ, List.set_cons_zero, List.set_cons_succ, Option.map_some, Option.bind_some, Option.getD_some, Nat.reduceSub, Nat.reduceAdd, Int.cast_ofNat_Int, Int.reduceLT, Int.reduceLE, Int.reduceNeg, Int.reduceEq, gEq_int, gNe_int, gLt_int, gGt_int, gLe_int, gGe_int, gAdd_int, gSub_int, gMul_l, gMul_r, gMod_int, gFdv_int, gNeg_i, cInt_i, cInt_b, cAbs_i, cLen_l, cLen_t, cTup_l, cTup_t, cLst_l, cLst_t, gIx_l, gIx_t, setI_i, popI_i, gSl_l, gSl_t, gSl_scr, dSeq_l, dSeq_t, dSeq_s, cMin2_i, cMax2_i, cEnum_l, cZip_l, cZip_t, tr_b, tr_i, tr_l, tr_t, tr_n, gIs_n, gIsn_n, isN, lstAt_0, lstAt_s, gAdd_l, gAdd_t, le_sizeP, lt_sizeP, gPow_i, cAll_mb, cAny_mb, w_star, w_tupS, w_lstS, w_star2, dItems_l, dItems_t, gCat_l, starT_c, gRev_ll, gRev_tt, true_and, and_true, Bool.not_true, Bool.not_false, decide_true, decide_false, isi_int_non, isi_int_bl, isi_int_int, isi_int_str, isi_int_lst, isi_int_tup, isi_str_non, isi_str_bl, isi_str_int, isi_str_str, isi_str_lst, isi_str_tup, isi_bool_non, isi_bool_bl, isi_bool_int, isi_bool_str, isi_bool_lst, isi_bool_tup, isi_list_non, isi_list_bl, isi_list_int, isi_list_str, isi_list_lst, isi_list_tup, isi_tuple_non, isi_tuple_bl, isi_tuple_int, isi_tuple_str, isi_tuple_lst, isi_tuple_tup, isi_dict_non, isi_dict_bl, isi_dict_int, isi_dict_str, isi_dict_lst, isi_dict_tup, isi_list_tuple_non, isi_list_tuple_bl, isi_list_tuple_int, isi_list_tuple_str, isi_list_tuple_lst, isi_list_tuple_tup, isi_bool_str_non, isi_bool_str_bl, isi_bool_str_int, isi_bool_str_str, isi_bool_str_lst, isi_bool_str_tup])
  have hlen : (rng 0 (min m.toNat xs.length)).length = min m.toNat xs.length := by unfold rng; simp
  refine w_forI (k := 0) (fun k ρ => ∃ d' rest some' t, ρ = [some d', some pool, some (.int m), some (.list rest), some (.list some'), t] ∧ Bx (n + k) d' ∧ (some' ++ rest).Perm xs ∧ some'.length = k) ⟨d, xs, [], none, rfl, h, List.Perm.refl _, rfl⟩ ?_ ?_
  · rintro j e ρ hj ⟨d', rest, some', t, rfl, hb, hp, hk⟩
    have hjl : j < min m.toNat xs.length := by rw [← hlen]; exact (List.getElem?_eq_some_iff.mp hj).1
    have hl := hp.length_eq
    rw [List.length_append] at hl
    rw [Nat.zero_add] at hk hb
    (simp (disch := first | omega | (simp only [List.length_cons, List.length_nil, List.length_append, List.length_map, List.length_take, List.length_drop, List.length_reverse, List.length_set]; omega) | decide) only [wX_ok, wX_exc, wO_some, wO_ite, wIf_true, wIf_false, wIf_not, wF_nx, wF_rt, wF_bk, wF_ct, w_pure, w_bind, w_of, w_m1, w_m2, w_var, w_c, w_truth, w_ite, w_and, w_or, w_not, w_andV, w_orV, w_notV, w_if, w_nil, w_cons, w_tup, w_lst, w_call, w_nx, w_seq, w_drop, w_ret, w_set, w_ifS, w_slot, w_callF, w_callK, w_app2, w_part, w_noPart, w_sl, w_seqOf, w_rng, w_for, w_forL_nil, w_app, w_ixO, w_lenO, w_popAt, w_setIx, w_aug, w_par2, w_par3, w_mbind, w_chain, wX_runF, VL.fill, VL.put, outs, startE, wipeE, backE, bindT_nm, bindT_tt, bindT_tl, bindTs_n, bindTs_c, VL.pick, List.filterMap_cons, List.filterMap_nil, List.map_cons, List.map_nil, List.length_cons, List.length_nil, List.replicate, List.cons_append, List.nil_append, List.getElem?_cons_zero, List.getElem?_cons_succ, List.set_cons_zero, List.set_cons_succ, Option.map_some, Option.bind_some, Option.getD_some, Nat.reduceSub, Nat.reduceAdd, Int.cast_ofNat_Int, Int.reduceLT, Int.reduceLE, Int.reduceNeg, Int.reduceEq, gEq_int, gNe_int, gLt_int, gGt_int, gLe_int, gGe_int, gAdd_int, gSub_int, gMul_l, gMul_r, gMod_int, gFdv_int, gNeg_i, cInt_i, cInt_b, cAbs_i, cLen_l, cLen_t, cTup_l, cTup_t, cLst_l, cLst_t, gIx_l, gIx_t, setI_i, popI_i, gSl_l, gSl_t, gSl_scr, dSeq_l, dSeq_t, dSeq_s, cMin2_i, cMax2_i, cEnum_l, cZip_l, cZip_t, tr_b, tr_i, tr_l, tr_t, tr_n, gIs_n, gIsn_n, isN, lstAt_0, lstAt_s, gAdd_l, gAdd_t, le_sizeP, lt_sizeP, gPow_i, cAll_mb, cAny_mb, w_star, w_tupS, w_lstS, w_star2, dItems_l, dItems_t, gCat_l, starT_c, gRev_ll, gRev_tt, true_and, and_true, Bool.not_true, Bool.not_false, decide_true, decide_false, isi_int_non, isi_int_bl, isi_int_int, isi_int_str, isi_int_lst, isi_int_tup, isi_str_non, isi_str_bl, isi_str_int, isi_str_str, isi_str_lst, isi_str_tup, isi_bool_non, isi_bool_bl, isi_bool_int, isi_bool_str, isi_bool_lst, isi_bool_tup, isi_list_non, isi_list_bl, isi_list_int, isi_list_str, isi_list_lst, isi_list_tup, isi_tuple_non, isi_tuple_bl, isi_tuple_int, isi_tuple_str, isi_tuple_lst, isi_tuple_tup, isi_dict_non, isi_dict_bl, isi_dict_int, isi_dict_str, isi_dict_lst, isi_dict_tup, isi_list_tuple_non, isi_list_tuple_bl, isi_list_tuple_int, isi_list_tuple_str, isi_list_tuple_lst, isi_list_tuple_tup, isi_bool_str_non, isi_bool_str_bl, isi_bool_str_int, isi_bool_str_str, isi_bool_str_lst, isi_bool_str_tup])
    refine wX_imp (take_sp (t := rest.length) hb (by omega) (by omega) (by omega)) ?_
    rintro ⟨_, _⟩ ⟨i, rfl, hi, d2, rfl, hb2⟩
    have hi' : i < rest.length := by omega
    have c : -(2 ^ 63) ≤ (i : Int) ∧ (i : Int) < 2 ^ 63 := by omega
    (simp (disch := first | omega | (simp only [List.length_cons, List.length_nil, List.length_append, List.length_map, List.length_take, List.length_drop, List.length_reverse, List.length_set]; omega) | decide) only [if_pos c, seqIndex_nat hi', List.getElem?_eq_getElem hi', wX_ok, wX_exc, wO_some, wO_ite, wIf_true, wIf_false, wIf_not, wF_nx, wF_rt, wF_bk, wF_ct, w_pure, w_bind, w_of, w_m1, w_m2, w_var, w_c, w_truth, w_ite, w_and, w_or, w_not, w_andV, w_orV, w_notV, w_if, w_nil, w_cons, w_tup, w_lst, w_call, w_nx, w_seq, w_drop, w_ret, w_set, w_ifS, w_slot, w_callF, w_callK, w_app2, w_part, w_noPart, w_sl, w_seqOf, w_rng, w_for, w_forL_nil, w_app, w_ixO, w_lenO, w_popAt, w_setIx, w_aug, w_par2, w_par3, w_mbind, w_chain, wX_runF, VL.fill, VL.put, outs, startE, wipeE, backE, bindT_nm, bindT_tt, bindT_tl, bindTs_n, bindTs_c, VL.pick, List.filterMap_cons, List.filterMap_nil, List.map_cons, List.map_nil, List.length_cons, List.length_nil, List.replicate, List.cons_append, List.nil_append, List.getElem?_cons_zero, List.getElem?_cons_succ, List.set_cons_zero, List.set_cons_succ, Option.map_some, Option.bind_some, Option.getD_some, Nat.reduceSub, Nat.reduceAdd, Int.cast_ofNat_Int, Int.reduceLT, Int.reduceLE, Int.reduceNeg, Int.reduceEq, gEq_int, gNe_int, gLt_int, gGt_int, gLe_int, gGe_int, gAdd_int, gSub_int, gMul_l, gMul_r, gMod_int, gFdv_int, gNeg_i, cInt_i, cInt_b, cAbs_i, cLen_l, cLen_t, cTup_l, cTup_t, cLst_l, cLst_t, gIx_l, gIx_t, setI_i, popI_i, gSl_l, gSl_t, gSl_scr, dSeq_l, dSeq_t, dSeq_s, cMin2_i, cMax2_i, cEnum_l, cZip_l, cZip_t, tr_b, tr_i, tr_l, tr_t, tr_n, gIs_n, gIsn_n, isN, lstAt_0, lstAt_s, gAdd_l, gAdd_t, le_sizeP, lt_sizeP, gPow_i, cAll_mb, cAny_mb, w_star, w_tupS, w_lstS, w_star2, dItems_l, dItems_t, gCat_l, starT_c, gRev_ll, gRev_tt, true_and, and_true, Bool.not_true, Bool.not_false, decide_true, decide_false, isi_int_non, isi_int_bl, isi_int_int, isi_int_str, isi_int_lst, isi_int_tup, isi_str_non, isi_str_bl, isi_str_int, isi_str_str, isi_str_lst, isi_str_tup, isi_bool_non, isi_bool_bl, isi_bool_int, isi_bool_str, isi_bool_lst, isi_bool_tup, isi_list_non, isi_list_bl, isi_list_int, isi_list_str, isi_list_lst, isi_list_tup, isi_tuple_non, isi_tuple_bl, isi_tuple_int, isi_tuple_str, isi_tuple_lst, isi_tuple_tup, isi_dict_non, isi_dict_bl, isi_dict_int, isi_dict_str, isi_dict_lst, isi_dict_tup, isi_list_tuple_non, isi_list_tuple_bl, isi_list_tuple_int, isi_list_tuple_str, isi_list_tuple_lst, isi_list_tuple_tup, isi_bool_str_non, isi_bool_str_bl, isi_bool_str_int, isi_bool_str_str, isi_bool_str_lst, isi_bool_str_tup])
    refine ⟨by rw [PySem.sizeLine_eq]; omega, d2, _, _, _, rfl, ?_, ?_, ?_⟩
    · rw [Nat.zero_add]; exact hb2
    · refine List.Perm.trans ?_ hp
      rw [List.append_assoc]
      exact List.Perm.append_left _ (perm_erase hi')
    · rw [List.length_append, hk]; simp
  · rintro ρ' ⟨d', rest, some', t, rfl, hb, hp, hk⟩
    rw [Nat.zero_add, hlen] at hk hb
    (simp (disch := first | omega | (simp only [List.length_cons, List.length_nil, List.length_append, List.length_map, List.length_take, List.length_drop, List.length_reverse, List.length_set]; omega) | decide) only [wX_ok, wX_exc, wO_some, wO_ite, wIf_true, wIf_false, wIf_not, wF_nx, wF_rt, wF_bk, wF_ct, w_pure, w_bind, w_of, w_m1, w_m2, w_var, w_c, w_truth, w_ite, w_and, w_or, w_not, w_andV, w_orV, w_notV, w_if, w_nil, w_cons, w_tup, w_lst, w_call, w_nx, w_seq, w_drop, w_ret, w_set, w_ifS, w_slot, w_callF, w_callK, w_app2, w_part, w_noPart, w_sl, w_seqOf, w_rng, w_for, w_forL_nil, w_app, w_ixO, w_lenO, w_popAt, w_setIx, w_aug, w_par2, w_par3, w_mbind, w_chain, wX_runF, VL.fill, VL.put, outs, startE, wipeE, backE, bindT_nm, bindT_tt, bindT_tl, bindTs_n, bindTs_c, VL.pick, List.filterMap_cons, List.filterMap_nil, List.map_cons, List.map_nil, List.length_cons, List.length_nil, List.replicate, List.cons_append, List.nil_append, List.getElem?_cons_zero, List.getElem?_cons_succ, List.set_cons_zero, List.set_cons_succ, Option.map_some, Option.bind_some, Option.getD_some, Nat.reduceSub, Nat.reduceAdd, Int.cast_ofNat_Int, Int.reduceLT, Int.reduceLE, Int.reduceNeg, Int.reduceEq, gEq_int, gNe_int, gLt_int, gGt_int, gLe_int, gGe_int, gAdd_int, gSub_int, gMul_l, gMul_r, gMod_int, gFdv_int, gNeg_i, cInt_i, cInt_b, cAbs_i, cLen_l, cLen_t, cTup_l, cTup_t, cLst_l, cLst_t, gIx_l, gIx_t, setI_i, popI_i, gSl_l, gSl_t, gSl_scr, dSeq_l, dSeq_t, dSeq_s, cMin2_i, cMax2_i, cEnum_l, cZip_l, cZip_t, tr_b, tr_i, tr_l, tr_t, tr_n, gIs_n, gIsn_n, isN, lstAt_0, lstAt_s, gAdd_l, gAdd_t, le_sizeP, lt_sizeP, gPow_i, cAll_mb, cAny_mb, w_star, w_tupS, w_lstS, w_star2, dItems_l, dItems_t, gCat_l, starT_c, gRev_ll, gRev_tt, true_and, and_true, Bool.not_true, Bool.not_false, decide_true, decide_false, isi_int_non, isi_int_bl, isi_int_int, isi_int_str, isi_int_lst, isi_int_tup, isi_str_non, isi_str_bl, isi_str_int, isi_str_str, isi_str_lst, isi_str_tup, isi_bool_non, isi_bool_bl, isi_bool_int, isi_bool_str, isi_bool_lst, isi_bool_tup, isi_list_non, isi_list_bl, isi_list_int, isi_list_str, isi_list_lst, isi_list_tup, isi_tuple_non, isi_tuple_bl, isi_tuple_int, isi_tuple_str, isi_tuple_lst, isi_tuple_tup, isi_dict_non, isi_dict_bl, isi_dict_int, isi_dict_str, isi_dict_lst, isi_dict_tup, isi_list_tuple_non, isi_list_tuple_bl, isi_list_tuple_int, isi_list_tuple_str, isi_list_tuple_lst, isi_list_tuple_tup, isi_bool_str_non, isi_bool_str_bl, isi_bool_str_int, isi_bool_str_str, isi_bool_str_lst, isi_bool_str_tup])
    exact ⟨some', rest, rfl, hp, hk, d', rfl, hb.mono (by omega)⟩
/-! the numbers of the script -/
theorem cut_to {α : Type} (xs : List α) (k : Nat) : cutD xs none (some (k : Int)) = xs.take k := by
  unfold cutD
  rw [HT.sIx_nat, HT.sIx_none, List.drop_zero, Nat.sub_zero]
  rw [List.take_eq_take_iff]; omega
theorem cut_from {α : Type} (xs : List α) (k : Nat) : cutD xs (some (k : Int)) none = xs.drop k := by
  unfold cutD
  rw [HT.sIx_nat, HT.sIx_none]
  by_cases h : k ≤ xs.length
  · rw [Nat.min_eq_left h, List.take_of_length_le (by rw [List.length_drop]; omega)]
  · rw [Nat.min_eq_right (by omega), List.drop_of_length_le (by omega), List.drop_of_length_le (by omega)]; simp
theorem cut_mid {α : Type} (xs : List α) (a b : Nat) : cutD xs (some (a : Int)) (some (b : Int)) = (xs.drop a).take (b - a) := by
  unfold cutD
  rw [HT.sIx_nat, HT.sIx_nat]
  by_cases h : a ≤ xs.length
  · rw [Nat.min_eq_left h, List.take_eq_take_iff, List.length_drop]; omega
  · rw [Nat.min_eq_right (by omega : xs.length ≤ a), List.drop_of_length_le (by omega), List.drop_of_length_le (by omega)]; simp
theorem cut_mid63 {α : Type} (xs : List α) (a : Nat) : cutD xs (some (a : Int)) (some 63) = (xs.drop a).take (63 - a) := cut_mid xs a 63
theorem ixN_nat {i n : Nat} (h : i < n) : L2.ixN n (i : Int) = some i := by
  unfold L2.ixN
  rw [if_pos (by omega), if_pos (by omega)]
  simp
theorem cells_loop {ns ms : List Int} {m : Nat} {Q : Fl → VL.Env → Prop} {E : XE} (hl : ns.length ≤ 63) (hm : 0 < m ∧ m < 10) (h2 : ms.length ≤ m) (h3 : ms.length < m → ns.drop m = []) (hq : ∀ ms' : List Int, ∀ x y z, ms'.length = ms.length → Q .nx [some (scr (ns.map .int)), some (.int m), some (.list (ms'.map .int)), x, y, z]) :
    wM (forL (.tp [(.nm 3), (.nm 4)]) (mSeq (mSet 5 (m2 gMod (mCall cInt (mCons (mVar 3) mNil)) (mVar 1)))
  (mSetIx 2 (m2 gAdd (mIxO 2 (mVar 5)) (m2 gMul (mVar 4) (m2 gAdd (mVar 3) (mC (.int 2))))) (mVar 5))) (enumL 0 (((ns.map .int).drop m).take (63 - m)))) [some (scr (ns.map .int)), some (.int m), some (.list (ms.map .int)), none, none, none] Q E := by
    refine w_forI (k := 0) (fun k ρ => ∃ ms' : List Int, ∃ x y z, ρ = [some (scr (ns.map .int)), some (.int m), some (.list (ms'.map .int)), x, y, z] ∧ ms'.length = ms.length) ⟨ms, _, _, _, rfl, rfl⟩ ?_ ?_
    · rintro j d ρ hj ⟨ms', x, y, z, rfl, hlen⟩
      obtain ⟨e, he, rfl⟩ := enumL_get hj
      rw [Nat.zero_add]
      have hj63 : j < 63 := by
        have := (List.getElem?_eq_some_iff.mp he).1
        rw [List.length_take, List.length_drop, List.length_map] at this
        omega
      obtain ⟨i, rfl⟩ : ∃ i, e = .int i := by
        have hmem := List.mem_of_getElem? he
        have := List.mem_of_mem_drop (List.mem_of_mem_take hmem)
        obtain ⟨i, _, rfl⟩ := List.mem_map.mp this
        exact ⟨i, rfl⟩
      have hmm : ms.length = m := by
        rcases Nat.lt_or_ge ms.length m with c | c
        · have hd := h3 c
          rw [← List.map_drop, hd] at he
          simp at he
        · omega
      have hjm : j % m < ms'.length := by rw [hlen, hmm]; exact Nat.mod_lt _ hm.1
      have em : (j : Int) % (m : Int) = ((j % m : Nat) : Int) := by omega
      have hg : (ms'.map PyData.int)[j % m]? = some (.int ms'[j % m]) := by rw [List.getElem?_map, List.getElem?_eq_getElem hjm]; rfl
      have hix : L2.ixN (ms'.map PyData.int).length ((j % m : Nat) : Int) = some (j % m) := ixN_nat (by rw [List.length_map]; exact hjm)
      (simp (disch := first | omega | (simp only [List.length_cons, List.length_nil, List.length_append, List.length_map, List.length_take, List.length_drop, List.length_reverse, List.length_set]; omega) | decide) only [em, atI_nat hg, hix, wX_ok, wX_exc, wO_some, wO_ite, wIf_true, wIf_false, wIf_not, wF_nx, wF_rt, wF_bk, wF_ct, w_pure, w_bind, w_of, w_m1, w_m2, w_var, w_c, w_truth, w_ite, w_and, w_or, w_not, w_andV, w_orV, w_notV, w_if, w_nil, w_cons, w_tup, w_lst, w_call, w_nx, w_seq, w_drop, w_ret, w_set, w_ifS, w_slot, w_callF, w_callK, w_app2, w_part, w_noPart, w_sl, w_seqOf, w_rng, w_for, w_forL_nil, w_app, w_ixO, w_lenO, w_popAt, w_setIx, w_aug, w_par2, w_par3, w_mbind, w_chain, wX_runF, VL.fill, VL.put, outs, startE, wipeE, backE, bindT_nm, bindT_tt, bindT_tl, bindTs_n, bindTs_c, VL.pick, List.filterMap_cons, List.filterMap_nil, List.map_cons, List.map_nil, List.length_cons, List.length_nil, List.replicate, List.cons_append, List.nil_append, List.getElem?_cons_zero, List.getElem?_cons_succ, List.set_cons_zero, List.set_cons_succ, Option.map_some, Option.bind_some, Option.getD_some, Nat.reduceSub, Nat.reduceAdd, Int.cast_ofNat_Int, Int.reduceLT, Int.reduceLE, Int.reduceNeg, Int.reduceEq, gEq_int, gNe_int, gLt_int, gGt_int, gLe_int, gGe_int, gAdd_int, gSub_int, gMul_l, gMul_r, gMod_int, gFdv_int, gNeg_i, cInt_i, cInt_b, cAbs_i, cLen_l, cLen_t, cTup_l, cTup_t, cLst_l, cLst_t, gIx_l, gIx_t, setI_i, popI_i, gSl_l, gSl_t, gSl_scr, dSeq_l, dSeq_t, dSeq_s, cMin2_i, cMax2_i, cEnum_l, cZip_l, cZip_t, tr_b, tr_i, tr_l, tr_t, tr_n, gIs_n, gIsn_n, isN, lstAt_0, lstAt_s, gAdd_l, gAdd_t, le_sizeP, lt_sizeP, gPow_i, cAll_mb, cAny_mb, w_star, w_tupS, w_lstS, w_star2, dItems_l, dItems_t, gCat_l, starT_c, gRev_ll, gRev_tt, true_and, and_true, Bool.not_true, Bool.not_false, decide_true, decide_false, isi_int_non, isi_int_bl, isi_int_int, isi_int_str, isi_int_lst, isi_int_tup, isi_str_non, isi_str_bl, isi_str_int, isi_str_str, isi_str_lst, isi_str_tup, isi_bool_non, isi_bool_bl, isi_bool_int, isi_bool_str, isi_bool_lst, isi_bool_tup, isi_list_non, isi_list_bl, isi_list_int, isi_list_str, isi_list_lst, isi_list_tup, isi_tuple_non, isi_tuple_bl, isi_tuple_int, isi_tuple_str, isi_tuple_lst, isi_tuple_tup, isi_dict_non, isi_dict_bl, isi_dict_int, isi_dict_str, isi_dict_lst, isi_dict_tup, isi_list_tuple_non, isi_list_tuple_bl, isi_list_tuple_int, isi_list_tuple_str, isi_list_tuple_lst, isi_list_tuple_tup, isi_bool_str_non, isi_bool_str_bl, isi_bool_str_int, isi_bool_str_str, isi_bool_str_lst, isi_bool_str_tup])
      exact ⟨ms'.set (j % m) (ms'[j % m] + i * ((j : Int) + 2)), some (.int j), some (.int i), some (.int ((j % m : Nat) : Int)), by rw [List.map_set], by rw [List.length_set]; exact hlen⟩
    · rintro ρ' ⟨ms', x, y, z, rfl, hlen⟩
      exact hq ms' x y z hlen
theorem cells_sp {ns : List Int} (hl : ns.length ≤ 63) {m : Nat} (hm : 0 < m ∧ m < 10) : wX (f__law_cells [scr (ns.map .int), .int m]) (fun p => p.2 = [] ∧ ∃ ms : List Int, p.1 = .list (ms.map .int) ∧ ms ≠ [] ∧ ms.length ≤ m) E0 := by
  unfold f__law_cells
  (simp (disch := first | omega | (simp only [List.length_cons, List.length_nil, List.length_append, List.length_map, List.length_take, List.length_drop, List.length_reverse, List.length_set]; omega) | decide) only [cut_to, wX_ok, wX_exc, wO_some, wO_ite, wIf_true, wIf_false, wIf_not, wF_nx, wF_rt, wF_bk, wF_ct, w_pure, w_bind, w_of, w_m1, w_m2, w_var, w_c, w_truth, w_ite, w_and, w_or, w_not, w_andV, w_orV, w_notV, w_if, w_nil, w_cons, w_tup, w_lst, w_call, w_nx, w_seq, w_drop, w_ret, w_set, w_ifS, w_slot, w_callF, w_callK, w_app2, w_part, w_noPart, w_sl, w_seqOf, w_rng, w_for, w_forL_nil, w_app, w_ixO, w_lenO, w_popAt, w_setIx, w_aug, w_par2, w_par3, w_mbind, w_chain, wX_runF, VL.fill, VL.put, outs, startE, wipeE, backE, bindT_nm, bindT_tt, bindT_tl, bindTs_n, bindTs_c, VL.pick, List.filterMap_cons, List.filterMap_nil, List.map_cons, List.map_nil, List.length_cons, List.length_nil, List.replicate, List.cons_append, List.nil_append, List.getElem?_cons_zero, List.getElem?_cons_succ, List.set_cons_zero, List.set_cons_succ, Option.map_some, Option.bind_some, Option.getD_some, Nat.reduceSub, Nat.reduceAdd, Int.cast_ofNat_Int, Int.reduceLT, Int.reduceLE, Int.reduceNeg, Int.reduceEq, gEq_int, gNe_int, gLt_int, gGt_int, gLe_int, gGe_int, gAdd_int, gSub_int, gMul_l, gMul_r, gMod_int, gFdv_int, gNeg_i, cInt_i, cInt_b, cAbs_i, cLen_l, cLen_t, cTup_l, cTup_t, cLst_l, cLst_t, gIx_l, gIx_t, setI_i, popI_i, gSl_l, gSl_t, gSl_scr, dSeq_l, dSeq_t, dSeq_s, cMin2_i, cMax2_i, cEnum_l, cZip_l, cZip_t, tr_b, tr_i, tr_l, tr_t, tr_n, gIs_n, gIsn_n, isN, lstAt_0, lstAt_s, gAdd_l, gAdd_t, le_sizeP, lt_sizeP, gPow_i, cAll_mb, cAny_mb, w_star, w_tupS, w_lstS, w_star2, dItems_l, dItems_t, gCat_l, starT_c, gRev_ll, gRev_tt, true_and, and_true, Bool.not_true, Bool.not_false, decide_true, decide_false, isi_int_non, isi_int_bl, isi_int_int, isi_int_str, isi_int_lst, isi_int_tup, isi_str_non, isi_str_bl, isi_str_int, isi_str_str, isi_str_lst, isi_str_tup, isi_bool_non, isi_bool_bl, isi_bool_int, isi_bool_str, isi_bool_lst, isi_bool_tup, isi_list_non, isi_list_bl, isi_list_int, isi_list_str, isi_list_lst, isi_list_tup, isi_tuple_non, isi_tuple_bl, isi_tuple_int, isi_tuple_str, isi_tuple_lst, isi_tuple_tup, isi_dict_non, isi_dict_bl, isi_dict_int, isi_dict_str, isi_dict_lst, isi_dict_tup, isi_list_tuple_non, isi_list_tuple_bl, isi_list_tuple_int, isi_list_tuple_str, isi_list_tuple_lst, isi_list_tuple_tup, isi_bool_str_non, isi_bool_str_bl, isi_bool_str_int, isi_bool_str_str, isi_bool_str_lst, isi_bool_str_tup])
  cases ns with
  | nil =>
    have e0 : (List.map PyData.int ([] : List Int)).take m = [] := by simp
    rw [e0, List.isEmpty_nil]
    generalize hL : ([] : List Int) = L at hl ⊢
    (simp (disch := first | omega | (simp only [List.length_cons, List.length_nil, List.length_append, List.length_map, List.length_take, List.length_drop, List.length_reverse, List.length_set]; omega) | decide) only [cut_mid63, wX_ok, wX_exc, wO_some, wO_ite, wIf_true, wIf_false, wIf_not, wF_nx, wF_rt, wF_bk, wF_ct, w_pure, w_bind, w_of, w_m1, w_m2, w_var, w_c, w_truth, w_ite, w_and, w_or, w_not, w_andV, w_orV, w_notV, w_if, w_nil, w_cons, w_tup, w_lst, w_call, w_nx, w_seq, w_drop, w_ret, w_set, w_ifS, w_slot, w_callF, w_callK, w_app2, w_part, w_noPart, w_sl, w_seqOf, w_rng, w_for, w_forL_nil, w_app, w_ixO, w_lenO, w_popAt, w_setIx, w_aug, w_par2, w_par3, w_mbind, w_chain, wX_runF, VL.fill, VL.put, outs, startE, wipeE, backE, bindT_nm, bindT_tt, bindT_tl, bindTs_n, bindTs_c, VL.pick, List.filterMap_cons, List.filterMap_nil, List.map_cons, List.map_nil, List.length_cons, List.length_nil, List.replicate, List.cons_append, List.nil_append, List.getElem?_cons_zero, List.getElem?_cons_succ, List.set_cons_zero, List.set_cons_succ, Option.map_some, Option.bind_some, Option.getD_some, Nat.reduceSub, Nat.reduceAdd, Int.cast_ofNat_Int, Int.reduceLT, Int.reduceLE, Int.reduceNeg, Int.reduceEq, gEq_int, gNe_int, gLt_int, gGt_int, gLe_int, gGe_int, gAdd_int, gSub_int, gMul_l, gMul_r, gMod_int, gFdv_int, gNeg_i, cInt_i, cInt_b, cAbs_i, cLen_l, cLen_t, cTup_l, cTup_t, cLst_l, cLst_t, gIx_l, gIx_t, setI_i, popI_i, gSl_l, gSl_t, gSl_scr, dSeq_l, dSeq_t, dSeq_s, cMin2_i, cMax2_i, cEnum_l, cZip_l, cZip_t, tr_b, tr_i, tr_l, tr_t, tr_n, gIs_n, gIsn_n, isN, lstAt_0, lstAt_s, gAdd_l, gAdd_t, le_sizeP, lt_sizeP, gPow_i, cAll_mb, cAny_mb, w_star, w_tupS, w_lstS, w_star2, dItems_l, dItems_t, gCat_l, starT_c, gRev_ll, gRev_tt, true_and, and_true, Bool.not_true, Bool.not_false, decide_true, decide_false, isi_int_non, isi_int_bl, isi_int_int, isi_int_str, isi_int_lst, isi_int_tup, isi_str_non, isi_str_bl, isi_str_int, isi_str_str, isi_str_lst, isi_str_tup, isi_bool_non, isi_bool_bl, isi_bool_int, isi_bool_str, isi_bool_lst, isi_bool_tup, isi_list_non, isi_list_bl, isi_list_int, isi_list_str, isi_list_lst, isi_list_tup, isi_tuple_non, isi_tuple_bl, isi_tuple_int, isi_tuple_str, isi_tuple_lst, isi_tuple_tup, isi_dict_non, isi_dict_bl, isi_dict_int, isi_dict_str, isi_dict_lst, isi_dict_tup, isi_list_tuple_non, isi_list_tuple_bl, isi_list_tuple_int, isi_list_tuple_str, isi_list_tuple_lst, isi_list_tuple_tup, isi_bool_str_non, isi_bool_str_bl, isi_bool_str_int, isi_bool_str_str, isi_bool_str_lst, isi_bool_str_tup])
    refine cells_loop (ms := [0]) hl hm (by simp; omega) (fun _ => by rw [← hL]; simp) fun ms' x y z hlen => ?_
    (simp (disch := first | omega | (simp only [List.length_cons, List.length_nil, List.length_append, List.length_map, List.length_take, List.length_drop, List.length_reverse, List.length_set]; omega) | decide) only [wX_ok, wX_exc, wO_some, wO_ite, wIf_true, wIf_false, wIf_not, wF_nx, wF_rt, wF_bk, wF_ct, w_pure, w_bind, w_of, w_m1, w_m2, w_var, w_c, w_truth, w_ite, w_and, w_or, w_not, w_andV, w_orV, w_notV, w_if, w_nil, w_cons, w_tup, w_lst, w_call, w_nx, w_seq, w_drop, w_ret, w_set, w_ifS, w_slot, w_callF, w_callK, w_app2, w_part, w_noPart, w_sl, w_seqOf, w_rng, w_for, w_forL_nil, w_app, w_ixO, w_lenO, w_popAt, w_setIx, w_aug, w_par2, w_par3, w_mbind, w_chain, wX_runF, VL.fill, VL.put, outs, startE, wipeE, backE, bindT_nm, bindT_tt, bindT_tl, bindTs_n, bindTs_c, VL.pick, List.filterMap_cons, List.filterMap_nil, List.map_cons, List.map_nil, List.length_cons, List.length_nil, List.replicate, List.cons_append, List.nil_append, List.getElem?_cons_zero, List.getElem?_cons_succ, List.set_cons_zero, List.set_cons_succ, Option.map_some, Option.bind_some, Option.getD_some, Nat.reduceSub, Nat.reduceAdd, Int.cast_ofNat_Int, Int.reduceLT, Int.reduceLE, Int.reduceNeg, Int.reduceEq, gEq_int, gNe_int, gLt_int, gGt_int, gLe_int, gGe_int, gAdd_int, gSub_int, gMul_l, gMul_r, gMod_int, gFdv_int, gNeg_i, cInt_i, cInt_b, cAbs_i, cLen_l, cLen_t, cTup_l, cTup_t, cLst_l, cLst_t, gIx_l, gIx_t, setI_i, popI_i, gSl_l, gSl_t, gSl_scr, dSeq_l, dSeq_t, dSeq_s, cMin2_i, cMax2_i, cEnum_l, cZip_l, cZip_t, tr_b, tr_i, tr_l, tr_t, tr_n, gIs_n, gIsn_n, isN, lstAt_0, lstAt_s, gAdd_l, gAdd_t, le_sizeP, lt_sizeP, gPow_i, cAll_mb, cAny_mb, w_star, w_tupS, w_lstS, w_star2, dItems_l, dItems_t, gCat_l, starT_c, gRev_ll, gRev_tt, true_and, and_true, Bool.not_true, Bool.not_false, decide_true, decide_false, isi_int_non, isi_int_bl, isi_int_int, isi_int_str, isi_int_lst, isi_int_tup, isi_str_non, isi_str_bl, isi_str_int, isi_str_str, isi_str_lst, isi_str_tup, isi_bool_non, isi_bool_bl, isi_bool_int, isi_bool_str, isi_bool_lst, isi_bool_tup, isi_list_non, isi_list_bl, isi_list_int, isi_list_str, isi_list_lst, isi_list_tup, isi_tuple_non, isi_tuple_bl, isi_tuple_int, isi_tuple_str, isi_tuple_lst, isi_tuple_tup, isi_dict_non, isi_dict_bl, isi_dict_int, isi_dict_str, isi_dict_lst, isi_dict_tup, isi_list_tuple_non, isi_list_tuple_bl, isi_list_tuple_int, isi_list_tuple_str, isi_list_tuple_lst, isi_list_tuple_tup, isi_bool_str_non, isi_bool_str_bl, isi_bool_str_int, isi_bool_str_str, isi_bool_str_lst, isi_bool_str_tup])
    simp only [List.length_cons, List.length_nil] at hlen
    exact ⟨ms', rfl, fun h => by rw [h, ← hL] at hlen; simp at hlen, by omega⟩
  | cons a ns =>
    obtain ⟨m', rfl⟩ : ∃ m', m = m' + 1 := ⟨m - 1, by omega⟩
    have e2 : ((a :: ns).map PyData.int).take (m' + 1) = (((a :: ns).take (m' + 1)).map .int) := by rw [List.map_take]
    rw [e2]
    have e3 : (((a :: ns).take (m' + 1)).map PyData.int).isEmpty = false := by simp
    rw [e3]
    generalize hL : a :: ns = L at *
    (simp (disch := first | omega | (simp only [List.length_cons, List.length_nil, List.length_append, List.length_map, List.length_take, List.length_drop, List.length_reverse, List.length_set]; omega) | decide) only [cut_mid63, wX_ok, wX_exc, wO_some, wO_ite, wIf_true, wIf_false, wIf_not, wF_nx, wF_rt, wF_bk, wF_ct, w_pure, w_bind, w_of, w_m1, w_m2, w_var, w_c, w_truth, w_ite, w_and, w_or, w_not, w_andV, w_orV, w_notV, w_if, w_nil, w_cons, w_tup, w_lst, w_call, w_nx, w_seq, w_drop, w_ret, w_set, w_ifS, w_slot, w_callF, w_callK, w_app2, w_part, w_noPart, w_sl, w_seqOf, w_rng, w_for, w_forL_nil, w_app, w_ixO, w_lenO, w_popAt, w_setIx, w_aug, w_par2, w_par3, w_mbind, w_chain, wX_runF, VL.fill, VL.put, outs, startE, wipeE, backE, bindT_nm, bindT_tt, bindT_tl, bindTs_n, bindTs_c, VL.pick, List.filterMap_cons, List.filterMap_nil, List.map_cons, List.map_nil, List.length_cons, List.length_nil, List.replicate, List.cons_append, List.nil_append, List.getElem?_cons_zero, List.getElem?_cons_succ, List.set_cons_zero, List.set_cons_succ, Option.map_some, Option.bind_some, Option.getD_some, Nat.reduceSub, Nat.reduceAdd, Int.cast_ofNat_Int, Int.reduceLT, Int.reduceLE, Int.reduceNeg, Int.reduceEq, gEq_int, gNe_int, gLt_int, gGt_int, gLe_int, gGe_int, gAdd_int, gSub_int, gMul_l, gMul_r, gMod_int, gFdv_int, gNeg_i, cInt_i, cInt_b, cAbs_i, cLen_l, cLen_t, cTup_l, cTup_t, cLst_l, cLst_t, gIx_l, gIx_t, setI_i, popI_i, gSl_l, gSl_t, gSl_scr, dSeq_l, dSeq_t, dSeq_s, cMin2_i, cMax2_i, cEnum_l, cZip_l, cZip_t, tr_b, tr_i, tr_l, tr_t, tr_n, gIs_n, gIsn_n, isN, lstAt_0, lstAt_s, gAdd_l, gAdd_t, le_sizeP, lt_sizeP, gPow_i, cAll_mb, cAny_mb, w_star, w_tupS, w_lstS, w_star2, dItems_l, dItems_t, gCat_l, starT_c, gRev_ll, gRev_tt, true_and, and_true, Bool.not_true, Bool.not_false, decide_true, decide_false, isi_int_non, isi_int_bl, isi_int_int, isi_int_str, isi_int_lst, isi_int_tup, isi_str_non, isi_str_bl, isi_str_int, isi_str_str, isi_str_lst, isi_str_tup, isi_bool_non, isi_bool_bl, isi_bool_int, isi_bool_str, isi_bool_lst, isi_bool_tup, isi_list_non, isi_list_bl, isi_list_int, isi_list_str, isi_list_lst, isi_list_tup, isi_tuple_non, isi_tuple_bl, isi_tuple_int, isi_tuple_str, isi_tuple_lst, isi_tuple_tup, isi_dict_non, isi_dict_bl, isi_dict_int, isi_dict_str, isi_dict_lst, isi_dict_tup, isi_list_tuple_non, isi_list_tuple_bl, isi_list_tuple_int, isi_list_tuple_str, isi_list_tuple_lst, isi_list_tuple_tup, isi_bool_str_non, isi_bool_str_bl, isi_bool_str_int, isi_bool_str_str, isi_bool_str_lst, isi_bool_str_tup])
    refine cells_loop (ms := L.take (m' + 1)) hl hm (by rw [List.length_take]; omega) (fun h => by rw [List.length_take] at h; rw [List.drop_eq_nil_iff]; omega) fun ms' x y z hlen => ?_
    (simp (disch := first | omega | (simp only [List.length_cons, List.length_nil, List.length_append, List.length_map, List.length_take, List.length_drop, List.length_reverse, List.length_set]; omega) | decide) only [wX_ok, wX_exc, wO_some, wO_ite, wIf_true, wIf_false, wIf_not, wF_nx, wF_rt, wF_bk, wF_ct, w_pure, w_bind, w_of, w_m1, w_m2, w_var, w_c, w_truth, w_ite, w_and, w_or, w_not, w_andV, w_orV, w_notV, w_if, w_nil, w_cons, w_tup, w_lst, w_call, w_nx, w_seq, w_drop, w_ret, w_set, w_ifS, w_slot, w_callF, w_callK, w_app2, w_part, w_noPart, w_sl, w_seqOf, w_rng, w_for, w_forL_nil, w_app, w_ixO, w_lenO, w_popAt, w_setIx, w_aug, w_par2, w_par3, w_mbind, w_chain, wX_runF, VL.fill, VL.put, outs, startE, wipeE, backE, bindT_nm, bindT_tt, bindT_tl, bindTs_n, bindTs_c, VL.pick, List.filterMap_cons, List.filterMap_nil, List.map_cons, List.map_nil, List.length_cons, List.length_nil, List.replicate, List.cons_append, List.nil_append, List.getElem?_cons_zero, List.getElem?_cons_succ, List.set_cons_zero, List.set_cons_succ, Option.map_some, Option.bind_some, Option.getD_some, Nat.reduceSub, Nat.reduceAdd, Int.cast_ofNat_Int, Int.reduceLT, Int.reduceLE, Int.reduceNeg, Int.reduceEq, gEq_int, gNe_int, gLt_int, gGt_int, gLe_int, gGe_int, gAdd_int, gSub_int, gMul_l, gMul_r, gMod_int, gFdv_int, gNeg_i, cInt_i, cInt_b, cAbs_i, cLen_l, cLen_t, cTup_l, cTup_t, cLst_l, cLst_t, gIx_l, gIx_t, setI_i, popI_i, gSl_l, gSl_t, gSl_scr, dSeq_l, dSeq_t, dSeq_s, cMin2_i, cMax2_i, cEnum_l, cZip_l, cZip_t, tr_b, tr_i, tr_l, tr_t, tr_n, gIs_n, gIsn_n, isN, lstAt_0, lstAt_s, gAdd_l, gAdd_t, le_sizeP, lt_sizeP, gPow_i, cAll_mb, cAny_mb, w_star, w_tupS, w_lstS, w_star2, dItems_l, dItems_t, gCat_l, starT_c, gRev_ll, gRev_tt, true_and, and_true, Bool.not_true, Bool.not_false, decide_true, decide_false, isi_int_non, isi_int_bl, isi_int_int, isi_int_str, isi_int_lst, isi_int_tup, isi_str_non, isi_str_bl, isi_str_int, isi_str_str, isi_str_lst, isi_str_tup, isi_bool_non, isi_bool_bl, isi_bool_int, isi_bool_str, isi_bool_lst, isi_bool_tup, isi_list_non, isi_list_bl, isi_list_int, isi_list_str, isi_list_lst, isi_list_tup, isi_tuple_non, isi_tuple_bl, isi_tuple_int, isi_tuple_str, isi_tuple_lst, isi_tuple_tup, isi_dict_non, isi_dict_bl, isi_dict_int, isi_dict_str, isi_dict_lst, isi_dict_tup, isi_list_tuple_non, isi_list_tuple_bl, isi_list_tuple_int, isi_list_tuple_str, isi_list_tuple_lst, isi_list_tuple_tup, isi_bool_str_non, isi_bool_str_bl, isi_bool_str_int, isi_bool_str_str, isi_bool_str_lst, isi_bool_str_tup])
    rw [List.length_take] at hlen
    refine ⟨ms', rfl, fun h => ?_, by omega⟩
    subst h
    rw [← hL] at hlen
    simp at hlen
/-! ### NAMEs, STEPs, LISTs that are drawn -/
theorem map_of {α β : Type} {f : α → β} : ∀ {ys : List β}, (∀ y ∈ ys, ∃ x, y = f x) → ∃ xs : List α, ys = xs.map f
  | [], _ => ⟨[], rfl⟩
  | y :: ys, h => by
    obtain ⟨x, rfl⟩ := h y (List.mem_cons_self ..)
    obtain ⟨xs, rfl⟩ := map_of fun z hz => h z (List.mem_cons_of_mem _ hz)
    exact ⟨x :: xs, rfl⟩
theorem insL_map {α β : Type} (f : α → β) (le : β → β → Bool) (x : α) : ∀ l : List α, insL le (f x) (l.map f) = (insL (fun a b => le (f a) (f b)) x l).map f
  | [] => rfl
  | y :: l => by
    rw [List.map_cons]
    unfold insL
    by_cases h : le (f x) (f y) = true
    · rw [if_pos h, if_pos h]; rfl
    · rw [if_neg h, if_neg h, insL_map f le x l]; rfl
theorem isort_map {α β : Type} (f : α → β) (le : β → β → Bool) : ∀ l : List α, isort le (l.map f) = (isort (fun a b => le (f a) (f b)) l).map f
  | [] => rfl
  | x :: l => by rw [List.map_cons]; unfold isort; rw [isort_map f le l, insL_map]
theorem insL_perm {α : Type} (le : α → α → Bool) (x : α) : ∀ l : List α, (insL le x l).Perm (x :: l)
  | [] => List.Perm.refl _
  | y :: l => by
    unfold insL
    by_cases h : le x y = true
    · rw [if_pos h]
    · rw [if_neg h]
      exact ((insL_perm le x l).cons y).trans (List.Perm.swap x y l)
theorem isort_perm {α : Type} (le : α → α → Bool) : ∀ l : List α, (isort le l).Perm l
  | [] => List.Perm.refl _
  | x :: l => (insL_perm le x _).trans ((isort_perm le l).cons x)
def leS (a b : Str) : Bool := dle (.str a) (.str b)
def sortS (l : List Str) : List Str := isort leS l
theorem sortD_strs (l : List Str) : sortD (l.map .str) = (sortS l).map .str := isort_map PyData.str dle l
theorem sortOk_strs (l : List Str) : sortOk (l.map .str) = true := by
  unfold sortOk
  have h1 : PyData.plainAll (l.map PyData.str) = true := by
    induction l with
    | nil => rfl
    | cons x l ih => rw [List.map_cons, PyData.plainAll, ih]; rfl
  have h2 : allAlike (l.map PyData.str) = true := by
    unfold allAlike
    rw [List.all_eq_true]
    intro x hx
    obtain ⟨a, _, rfl⟩ := List.mem_map.mp hx
    rw [List.all_eq_true]
    intro y hy
    obtain ⟨b, _, rfl⟩ := List.mem_map.mp hy
    rfl
  have h3 : (l.map PyData.str).all isOth = true := by
    rw [List.all_eq_true]
    intro x hx
    obtain ⟨a, _, rfl⟩ := List.mem_map.mp hx
    rfl
  have h4 : ((l.map PyData.str).all fun x => decide (x.depth ≤ 100)) = true := by
    rw [List.all_eq_true]
    intro x hx
    obtain ⟨a, _, rfl⟩ := List.mem_map.mp hx
    rfl
  rw [h1, h2, h3, h4]
  simp
theorem cSort_strs (l : List Str) : cSort [.list (l.map .str)] = some (.list ((sortS l).map .str)) := by
  show (if sortOk (l.map .str) = true then some (PyData.list (sortD (l.map .str))) else none) = _
  rw [if_pos (sortOk_strs l), sortD_strs]
def strOf : D → Str
  | .str s => s
  | _ => ""
def poolS : List Str := ["a", "b", "cap", "floor", "start", "nought", "x", "yy", "abcdefgh"]
theorem tags_sp {n : Nat} {d : D} {m : Int} (h : Bx n d) (hn : n + 9 < 2 ^ 60) (hm : 0 ≤ m) :
    wX (f__law_tags [d, .int m]) (fun p => ∃ ts rest : List Str, p.1 = .tuple ((sortS ts).map .str) ∧ (ts ++ rest).Perm poolS ∧ ts.length = min m.toNat 9 ∧ ∃ d', p.2 = [d'] ∧ Bx (n + 9) d') E0 := by
  unfold f__law_tags
  (simp (disch := first | omega | (simp only [List.length_cons, List.length_nil, List.length_append, List.length_map, List.length_take, List.length_drop, List.length_reverse, List.length_set]; omega) | decide) only [wX_ok, wX_exc, wO_some, wO_ite, wIf_true, wIf_false, wIf_not, wF_nx, wF_rt, wF_bk, wF_ct, w_pure, w_bind, w_of, w_m1, w_m2, w_var, w_c, w_truth, w_ite, w_and, w_or, w_not, w_andV, w_orV, w_notV, w_if, w_nil, w_cons, w_tup, w_lst, w_call, w_nx, w_seq, w_drop, w_ret, w_set, w_ifS, w_slot, w_callF, w_callK, w_app2, w_part, w_noPart, w_sl, w_seqOf, w_rng, w_for, w_forL_nil, w_app, w_ixO, w_lenO, w_popAt, w_setIx, w_aug, w_par2, w_par3, w_mbind, w_chain, wX_runF, VL.fill, VL.put, outs, startE, wipeE, backE, bindT_nm, bindT_tt, bindT_tl, bindTs_n, bindTs_c, VL.pick, List.filterMap_cons, List.filterMap_nil, List.map_cons, List.map_nil, List.length_cons, List.length_nil, List.replicate, List.cons_append, List.nil_append, List.getElem?_cons_zero, List.getElem?_cons_succ, List.set_cons_zero, List.set_cons_succ, Option.map_some, Option.bind_some, Option.getD_some, Nat.reduceSub, Nat.reduceAdd, Int.cast_ofNat_Int, Int.reduceLT, Int.reduceLE, Int.reduceNeg, Int.reduceEq, gEq_int, gNe_int, gLt_int, gGt_int, gLe_int, gGe_int, gAdd_int, gSub_int, gMul_l, gMul_r, gMod_int, gFdv_int, gNeg_i, cInt_i, cInt_b, cAbs_i, cLen_l, cLen_t, cTup_l, cTup_t, cLst_l, cLst_t, gIx_l, gIx_t, setI_i, popI_i, gSl_l, gSl_t, gSl_scr, dSeq_l, dSeq_t, dSeq_s, cMin2_i, cMax2_i, cEnum_l, cZip_l, cZip_t, tr_b, tr_i, tr_l, tr_t, tr_n, gIs_n, gIsn_n, isN, lstAt_0, lstAt_s, gAdd_l, gAdd_t, le_sizeP, lt_sizeP, gPow_i, cAll_mb, cAny_mb, w_star, w_tupS, w_lstS, w_star2, dItems_l, dItems_t, gCat_l, starT_c, gRev_ll, gRev_tt, true_and, and_true, Bool.not_true, Bool.not_false, decide_true, decide_false, isi_int_non, isi_int_bl, isi_int_int, isi_int_str, isi_int_lst, isi_int_tup, isi_str_non, isi_str_bl, isi_str_int, isi_str_str, isi_str_lst, isi_str_tup, isi_bool_non, isi_bool_bl, isi_bool_int, isi_bool_str, isi_bool_lst, isi_bool_tup, isi_list_non, isi_list_bl, isi_list_int, isi_list_str, isi_list_lst, isi_list_tup, isi_tuple_non, isi_tuple_bl, isi_tuple_int, isi_tuple_str, isi_tuple_lst, isi_tuple_tup, isi_dict_non, isi_dict_bl, isi_dict_int, isi_dict_str, isi_dict_lst, isi_dict_tup, isi_list_tuple_non, isi_list_tuple_bl, isi_list_tuple_int, isi_list_tuple_str, isi_list_tuple_lst, isi_list_tuple_tup, isi_bool_str_non, isi_bool_str_bl, isi_bool_str_int, isi_bool_str_str, isi_bool_str_lst, isi_bool_str_tup])
  have hpool : [PyData.str "a", .str "b", .str "cap", .str "floor", .str "start", .str "nought", .str "x", .str "yy", .str "abcdefgh"] = poolS.map .str := rfl
  refine wX_imp (pick_sp (.inl rfl) h (by simpa using hn) (by simp) hm) ?_
  rintro ⟨_, _⟩ ⟨ys, zs, rfl, hp, hlen, d', rfl, hb⟩
  have hall : ∀ y ∈ ys ++ zs, ∃ x : Str, y = PyData.str x := fun y hy => by
    have := hp.mem_iff.mp hy
    rw [hpool] at this
    obtain ⟨x, _, rfl⟩ := List.mem_map.mp this
    exact ⟨x, rfl⟩
  obtain ⟨ts, rfl⟩ := map_of fun y hy => hall y (List.mem_append_left _ hy)
  obtain ⟨rest, rfl⟩ := map_of fun y hy => hall y (List.mem_append_right _ hy)
  (simp (disch := first | omega | (simp only [List.length_cons, List.length_nil, List.length_append, List.length_map, List.length_take, List.length_drop, List.length_reverse, List.length_set]; omega) | decide) only [cSort_strs, wX_ok, wX_exc, wO_some, wO_ite, wIf_true, wIf_false, wIf_not, wF_nx, wF_rt, wF_bk, wF_ct, w_pure, w_bind, w_of, w_m1, w_m2, w_var, w_c, w_truth, w_ite, w_and, w_or, w_not, w_andV, w_orV, w_notV, w_if, w_nil, w_cons, w_tup, w_lst, w_call, w_nx, w_seq, w_drop, w_ret, w_set, w_ifS, w_slot, w_callF, w_callK, w_app2, w_part, w_noPart, w_sl, w_seqOf, w_rng, w_for, w_forL_nil, w_app, w_ixO, w_lenO, w_popAt, w_setIx, w_aug, w_par2, w_par3, w_mbind, w_chain, wX_runF, VL.fill, VL.put, outs, startE, wipeE, backE, bindT_nm, bindT_tt, bindT_tl, bindTs_n, bindTs_c, VL.pick, List.filterMap_cons, List.filterMap_nil, List.map_cons, List.map_nil, List.length_cons, List.length_nil, List.replicate, List.cons_append, List.nil_append, List.getElem?_cons_zero, List.getElem?_cons_succ, List.set_cons_zero, List.set_cons_succ, Option.map_some, Option.bind_some, Option.getD_some, Nat.reduceSub, Nat.reduceAdd, Int.cast_ofNat_Int, Int.reduceLT, Int.reduceLE, Int.reduceNeg, Int.reduceEq, gEq_int, gNe_int, gLt_int, gGt_int, gLe_int, gGe_int, gAdd_int, gSub_int, gMul_l, gMul_r, gMod_int, gFdv_int, gNeg_i, cInt_i, cInt_b, cAbs_i, cLen_l, cLen_t, cTup_l, cTup_t, cLst_l, cLst_t, gIx_l, gIx_t, setI_i, popI_i, gSl_l, gSl_t, gSl_scr, dSeq_l, dSeq_t, dSeq_s, cMin2_i, cMax2_i, cEnum_l, cZip_l, cZip_t, tr_b, tr_i, tr_l, tr_t, tr_n, gIs_n, gIsn_n, isN, lstAt_0, lstAt_s, gAdd_l, gAdd_t, le_sizeP, lt_sizeP, gPow_i, cAll_mb, cAny_mb, w_star, w_tupS, w_lstS, w_star2, dItems_l, dItems_t, gCat_l, starT_c, gRev_ll, gRev_tt, true_and, and_true, Bool.not_true, Bool.not_false, decide_true, decide_false, isi_int_non, isi_int_bl, isi_int_int, isi_int_str, isi_int_lst, isi_int_tup, isi_str_non, isi_str_bl, isi_str_int, isi_str_str, isi_str_lst, isi_str_tup, isi_bool_non, isi_bool_bl, isi_bool_int, isi_bool_str, isi_bool_lst, isi_bool_tup, isi_list_non, isi_list_bl, isi_list_int, isi_list_str, isi_list_lst, isi_list_tup, isi_tuple_non, isi_tuple_bl, isi_tuple_int, isi_tuple_str, isi_tuple_lst, isi_tuple_tup, isi_dict_non, isi_dict_bl, isi_dict_int, isi_dict_str, isi_dict_lst, isi_dict_tup, isi_list_tuple_non, isi_list_tuple_bl, isi_list_tuple_int, isi_list_tuple_str, isi_list_tuple_lst, isi_list_tuple_tup, isi_bool_str_non, isi_bool_str_bl, isi_bool_str_int, isi_bool_str_str, isi_bool_str_lst, isi_bool_str_tup])
  refine ⟨ts, rest, rfl, ?_, ?_, d', rfl, hb⟩
  · rw [hpool, ← List.map_append] at hp
    have inj : ∀ (l l' : List Str), (l.map PyData.str).Perm (l'.map PyData.str) → l.Perm l' := fun l l' hh => by
      have := hh.map strOf
      rw [List.map_map, List.map_map, show strOf ∘ PyData.str = id from rfl, List.map_id, List.map_id] at this
      exact this
    exact inj _ _ hp
  · rw [List.length_map] at hlen
    exact hlen
inductive Stp where
  | up (n : Int)
  | most (x : Str) (n : Int)
  | least (x : Str) (n : Int)
def stpD : Stp → D
  | .up n => .tuple [.str "up", .int n]
  | .most x n => .tuple [.str "most", .str x, .int n]
  | .least x n => .tuple [.str "least", .str x, .int n]
def Stp.num : Stp → Int
  | .up n => n
  | .most _ n => n
  | .least _ n => n
def Stp.nam : Stp → List Str
  | .up _ => []
  | .most x _ => [x]
  | .least x _ => [x]
theorem deed_sp {n : Nat} {d tags : D} {ts : List Str} {w : Int} (hx : tags = .list (ts.map .str) ∨ tags = .tuple (ts.map .str)) (h : Bx n d) (hn : n + 3 < 2 ^ 60) (h0 : ts ≠ []) (h1 : ts.length < 1000000) (hw : 0 ≤ w ∧ w < 100000000) :
    wX (f__law_deed [d, tags, .int w]) (fun p => ∃ st : Stp, p.1 = stpD st ∧ -w ≤ st.num ∧ st.num ≤ w ∧ (∀ x ∈ st.nam, x ∈ ts) ∧ ∃ d', p.2 = [d'] ∧ Bx (n + 3) d') E0 := by
  unfold f__law_deed
  (simp (disch := first | omega | (simp only [List.length_cons, List.length_nil, List.length_append, List.length_map, List.length_take, List.length_drop, List.length_reverse, List.length_set]; omega) | decide) only [wX_ok, wX_exc, wO_some, wO_ite, wIf_true, wIf_false, wIf_not, wF_nx, wF_rt, wF_bk, wF_ct, w_pure, w_bind, w_of, w_m1, w_m2, w_var, w_c, w_truth, w_ite, w_and, w_or, w_not, w_andV, w_orV, w_notV, w_if, w_nil, w_cons, w_tup, w_lst, w_call, w_nx, w_seq, w_drop, w_ret, w_set, w_ifS, w_slot, w_callF, w_callK, w_app2, w_part, w_noPart, w_sl, w_seqOf, w_rng, w_for, w_forL_nil, w_app, w_ixO, w_lenO, w_popAt, w_setIx, w_aug, w_par2, w_par3, w_mbind, w_chain, wX_runF, VL.fill, VL.put, outs, startE, wipeE, backE, bindT_nm, bindT_tt, bindT_tl, bindTs_n, bindTs_c, VL.pick, List.filterMap_cons, List.filterMap_nil, List.map_cons, List.map_nil, List.length_cons, List.length_nil, List.replicate, List.cons_append, List.nil_append, List.getElem?_cons_zero, List.getElem?_cons_succ, List.set_cons_zero, List.set_cons_succ, Option.map_some, Option.bind_some, Option.getD_some, Nat.reduceSub, Nat.reduceAdd, Int.cast_ofNat_Int, Int.reduceLT, Int.reduceLE, Int.reduceNeg, Int.reduceEq, gEq_int, gNe_int, gLt_int, gGt_int, gLe_int, gGe_int, gAdd_int, gSub_int, gMul_l, gMul_r, gMod_int, gFdv_int, gNeg_i, cInt_i, cInt_b, cAbs_i, cLen_l, cLen_t, cTup_l, cTup_t, cLst_l, cLst_t, gIx_l, gIx_t, setI_i, popI_i, gSl_l, gSl_t, gSl_scr, dSeq_l, dSeq_t, dSeq_s, cMin2_i, cMax2_i, cEnum_l, cZip_l, cZip_t, tr_b, tr_i, tr_l, tr_t, tr_n, gIs_n, gIsn_n, isN, lstAt_0, lstAt_s, gAdd_l, gAdd_t, le_sizeP, lt_sizeP, gPow_i, cAll_mb, cAny_mb, w_star, w_tupS, w_lstS, w_star2, dItems_l, dItems_t, gCat_l, starT_c, gRev_ll, gRev_tt, true_and, and_true, Bool.not_true, Bool.not_false, decide_true, decide_false, isi_int_non, isi_int_bl, isi_int_int, isi_int_str, isi_int_lst, isi_int_tup, isi_str_non, isi_str_bl, isi_str_int, isi_str_str, isi_str_lst, isi_str_tup, isi_bool_non, isi_bool_bl, isi_bool_int, isi_bool_str, isi_bool_lst, isi_bool_tup, isi_list_non, isi_list_bl, isi_list_int, isi_list_str, isi_list_lst, isi_list_tup, isi_tuple_non, isi_tuple_bl, isi_tuple_int, isi_tuple_str, isi_tuple_lst, isi_tuple_tup, isi_dict_non, isi_dict_bl, isi_dict_int, isi_dict_str, isi_dict_lst, isi_dict_tup, isi_list_tuple_non, isi_list_tuple_bl, isi_list_tuple_int, isi_list_tuple_str, isi_list_tuple_lst, isi_list_tuple_tup, isi_bool_str_non, isi_bool_str_bl, isi_bool_str_int, isi_bool_str_str, isi_bool_str_lst, isi_bool_str_tup])
  refine wX_imp (take_sp h (by omega) (by decide) (by decide)) ?_
  rintro ⟨_, _⟩ ⟨k, rfl, hk, d1, rfl, hb1⟩
  (simp (disch := first | omega | (simp only [List.length_cons, List.length_nil, List.length_append, List.length_map, List.length_take, List.length_drop, List.length_reverse, List.length_set]; omega) | decide) only [wX_ok, wX_exc, wO_some, wO_ite, wIf_true, wIf_false, wIf_not, wF_nx, wF_rt, wF_bk, wF_ct, w_pure, w_bind, w_of, w_m1, w_m2, w_var, w_c, w_truth, w_ite, w_and, w_or, w_not, w_andV, w_orV, w_notV, w_if, w_nil, w_cons, w_tup, w_lst, w_call, w_nx, w_seq, w_drop, w_ret, w_set, w_ifS, w_slot, w_callF, w_callK, w_app2, w_part, w_noPart, w_sl, w_seqOf, w_rng, w_for, w_forL_nil, w_app, w_ixO, w_lenO, w_popAt, w_setIx, w_aug, w_par2, w_par3, w_mbind, w_chain, wX_runF, VL.fill, VL.put, outs, startE, wipeE, backE, bindT_nm, bindT_tt, bindT_tl, bindTs_n, bindTs_c, VL.pick, List.filterMap_cons, List.filterMap_nil, List.map_cons, List.map_nil, List.length_cons, List.length_nil, List.replicate, List.cons_append, List.nil_append, List.getElem?_cons_zero, List.getElem?_cons_succ, List.set_cons_zero, List.set_cons_succ, Option.map_some, Option.bind_some, Option.getD_some, Nat.reduceSub, Nat.reduceAdd, Int.cast_ofNat_Int, Int.reduceLT, Int.reduceLE, Int.reduceNeg, Int.reduceEq, gEq_int, gNe_int, gLt_int, gGt_int, gLe_int, gGe_int, gAdd_int, gSub_int, gMul_l, gMul_r, gMod_int, gFdv_int, gNeg_i, cInt_i, cInt_b, cAbs_i, cLen_l, cLen_t, cTup_l, cTup_t, cLst_l, cLst_t, gIx_l, gIx_t, setI_i, popI_i, gSl_l, gSl_t, gSl_scr, dSeq_l, dSeq_t, dSeq_s, cMin2_i, cMax2_i, cEnum_l, cZip_l, cZip_t, tr_b, tr_i, tr_l, tr_t, tr_n, gIs_n, gIsn_n, isN, lstAt_0, lstAt_s, gAdd_l, gAdd_t, le_sizeP, lt_sizeP, gPow_i, cAll_mb, cAny_mb, w_star, w_tupS, w_lstS, w_star2, dItems_l, dItems_t, gCat_l, starT_c, gRev_ll, gRev_tt, true_and, and_true, Bool.not_true, Bool.not_false, decide_true, decide_false, isi_int_non, isi_int_bl, isi_int_int, isi_int_str, isi_int_lst, isi_int_tup, isi_str_non, isi_str_bl, isi_str_int, isi_str_str, isi_str_lst, isi_str_tup, isi_bool_non, isi_bool_bl, isi_bool_int, isi_bool_str, isi_bool_lst, isi_bool_tup, isi_list_non, isi_list_bl, isi_list_int, isi_list_str, isi_list_lst, isi_list_tup, isi_tuple_non, isi_tuple_bl, isi_tuple_int, isi_tuple_str, isi_tuple_lst, isi_tuple_tup, isi_dict_non, isi_dict_bl, isi_dict_int, isi_dict_str, isi_dict_lst, isi_dict_tup, isi_list_tuple_non, isi_list_tuple_bl, isi_list_tuple_int, isi_list_tuple_str, isi_list_tuple_lst, isi_list_tuple_tup, isi_bool_str_non, isi_bool_str_bl, isi_bool_str_int, isi_bool_str_str, isi_bool_str_lst, isi_bool_str_tup])
  refine wX_imp (take_sp hb1 (by omega) (by omega) (by omega)) ?_
  rintro ⟨_, _⟩ ⟨j, rfl, hj, d2, rfl, hb2⟩
  (simp (disch := first | omega | (simp only [List.length_cons, List.length_nil, List.length_append, List.length_map, List.length_take, List.length_drop, List.length_reverse, List.length_set]; omega) | decide) only [wX_ok, wX_exc, wO_some, wO_ite, wIf_true, wIf_false, wIf_not, wF_nx, wF_rt, wF_bk, wF_ct, w_pure, w_bind, w_of, w_m1, w_m2, w_var, w_c, w_truth, w_ite, w_and, w_or, w_not, w_andV, w_orV, w_notV, w_if, w_nil, w_cons, w_tup, w_lst, w_call, w_nx, w_seq, w_drop, w_ret, w_set, w_ifS, w_slot, w_callF, w_callK, w_app2, w_part, w_noPart, w_sl, w_seqOf, w_rng, w_for, w_forL_nil, w_app, w_ixO, w_lenO, w_popAt, w_setIx, w_aug, w_par2, w_par3, w_mbind, w_chain, wX_runF, VL.fill, VL.put, outs, startE, wipeE, backE, bindT_nm, bindT_tt, bindT_tl, bindTs_n, bindTs_c, VL.pick, List.filterMap_cons, List.filterMap_nil, List.map_cons, List.map_nil, List.length_cons, List.length_nil, List.replicate, List.cons_append, List.nil_append, List.getElem?_cons_zero, List.getElem?_cons_succ, List.set_cons_zero, List.set_cons_succ, Option.map_some, Option.bind_some, Option.getD_some, Nat.reduceSub, Nat.reduceAdd, Int.cast_ofNat_Int, Int.reduceLT, Int.reduceLE, Int.reduceNeg, Int.reduceEq, gEq_int, gNe_int, gLt_int, gGt_int, gLe_int, gGe_int, gAdd_int, gSub_int, gMul_l, gMul_r, gMod_int, gFdv_int, gNeg_i, cInt_i, cInt_b, cAbs_i, cLen_l, cLen_t, cTup_l, cTup_t, cLst_l, cLst_t, gIx_l, gIx_t, setI_i, popI_i, gSl_l, gSl_t, gSl_scr, dSeq_l, dSeq_t, dSeq_s, cMin2_i, cMax2_i, cEnum_l, cZip_l, cZip_t, tr_b, tr_i, tr_l, tr_t, tr_n, gIs_n, gIsn_n, isN, lstAt_0, lstAt_s, gAdd_l, gAdd_t, le_sizeP, lt_sizeP, gPow_i, cAll_mb, cAny_mb, w_star, w_tupS, w_lstS, w_star2, dItems_l, dItems_t, gCat_l, starT_c, gRev_ll, gRev_tt, true_and, and_true, Bool.not_true, Bool.not_false, decide_true, decide_false, isi_int_non, isi_int_bl, isi_int_int, isi_int_str, isi_int_lst, isi_int_tup, isi_str_non, isi_str_bl, isi_str_int, isi_str_str, isi_str_lst, isi_str_tup, isi_bool_non, isi_bool_bl, isi_bool_int, isi_bool_str, isi_bool_lst, isi_bool_tup, isi_list_non, isi_list_bl, isi_list_int, isi_list_str, isi_list_lst, isi_list_tup, isi_tuple_non, isi_tuple_bl, isi_tuple_int, isi_tuple_str, isi_tuple_lst, isi_tuple_tup, isi_dict_non, isi_dict_bl, isi_dict_int, isi_dict_str, isi_dict_lst, isi_dict_tup, isi_list_tuple_non, isi_list_tuple_bl, isi_list_tuple_int, isi_list_tuple_str, isi_list_tuple_lst, isi_list_tuple_tup, isi_bool_str_non, isi_bool_str_bl, isi_bool_str_int, isi_bool_str_str, isi_bool_str_lst, isi_bool_str_tup])
  refine wIf_dec (fun hk0 => ?_) fun hk0 => ?_
  · (simp (disch := first | omega | (simp only [List.length_cons, List.length_nil, List.length_append, List.length_map, List.length_take, List.length_drop, List.length_reverse, List.length_set]; omega) | decide) only [wX_ok, wX_exc, wO_some, wO_ite, wIf_true, wIf_false, wIf_not, wF_nx, wF_rt, wF_bk, wF_ct, w_pure, w_bind, w_of, w_m1, w_m2, w_var, w_c, w_truth, w_ite, w_and, w_or, w_not, w_andV, w_orV, w_notV, w_if, w_nil, w_cons, w_tup, w_lst, w_call, w_nx, w_seq, w_drop, w_ret, w_set, w_ifS, w_slot, w_callF, w_callK, w_app2, w_part, w_noPart, w_sl, w_seqOf, w_rng, w_for, w_forL_nil, w_app, w_ixO, w_lenO, w_popAt, w_setIx, w_aug, w_par2, w_par3, w_mbind, w_chain, wX_runF, VL.fill, VL.put, outs, startE, wipeE, backE, bindT_nm, bindT_tt, bindT_tl, bindTs_n, bindTs_c, VL.pick, List.filterMap_cons, List.filterMap_nil, List.map_cons, List.map_nil, List.length_cons, List.length_nil, List.replicate, List.cons_append, List.nil_append, List.getElem?_cons_zero, List.getElem?_cons_succ, List.set_cons_zero, List.set_cons_succ, Option.map_some, Option.bind_some, Option.getD_some, Nat.reduceSub, Nat.reduceAdd, Int.cast_ofNat_Int, Int.reduceLT, Int.reduceLE, Int.reduceNeg, Int.reduceEq, gEq_int, gNe_int, gLt_int, gGt_int, gLe_int, gGe_int, gAdd_int, gSub_int, gMul_l, gMul_r, gMod_int, gFdv_int, gNeg_i, cInt_i, cInt_b, cAbs_i, cLen_l, cLen_t, cTup_l, cTup_t, cLst_l, cLst_t, gIx_l, gIx_t, setI_i, popI_i, gSl_l, gSl_t, gSl_scr, dSeq_l, dSeq_t, dSeq_s, cMin2_i, cMax2_i, cEnum_l, cZip_l, cZip_t, tr_b, tr_i, tr_l, tr_t, tr_n, gIs_n, gIsn_n, isN, lstAt_0, lstAt_s, gAdd_l, gAdd_t, le_sizeP, lt_sizeP, gPow_i, cAll_mb, cAny_mb, w_star, w_tupS, w_lstS, w_star2, dItems_l, dItems_t, gCat_l, starT_c, gRev_ll, gRev_tt, true_and, and_true, Bool.not_true, Bool.not_false, decide_true, decide_false, isi_int_non, isi_int_bl, isi_int_int, isi_int_str, isi_int_lst, isi_int_tup, isi_str_non, isi_str_bl, isi_str_int, isi_str_str, isi_str_lst, isi_str_tup, isi_bool_non, isi_bool_bl, isi_bool_int, isi_bool_str, isi_bool_lst, isi_bool_tup, isi_list_non, isi_list_bl, isi_list_int, isi_list_str, isi_list_lst, isi_list_tup, isi_tuple_non, isi_tuple_bl, isi_tuple_int, isi_tuple_str, isi_tuple_lst, isi_tuple_tup, isi_dict_non, isi_dict_bl, isi_dict_int, isi_dict_str, isi_dict_lst, isi_dict_tup, isi_list_tuple_non, isi_list_tuple_bl, isi_list_tuple_int, isi_list_tuple_str, isi_list_tuple_lst, isi_list_tuple_tup, isi_bool_str_non, isi_bool_str_bl, isi_bool_str_int, isi_bool_str_str, isi_bool_str_lst, isi_bool_str_tup])
    exact ⟨.up (j - w), rfl, by show -w ≤ (j : Int) - w; omega, by show (j : Int) - w ≤ w; omega, (fun x hx => by cases hx), d2, rfl, hb2.mono (by omega)⟩
  · have hk2 : k = 1 ∨ k = 2 := by omega
    have e0 : L2.atI [PyData.str "most", PyData.str "least"] (1 - 1) = some (.str "most") := rfl
    have e1 : L2.atI [PyData.str "most", PyData.str "least"] (2 - 1) = some (.str "least") := rfl
    have fin : ∀ p : D × List D, p.1 ∈ ts.map PyData.str ∧ (∃ d', p.2 = [d'] ∧ Bx (n + 1 + 1 + 1) d') → ∃ x d', p = (.str x, [d']) ∧ x ∈ ts ∧ Bx (n + 3) d' := by
      rintro ⟨a, b⟩ ⟨hm, d', rfl, hb⟩
      obtain ⟨x, hx, rfl⟩ := List.mem_map.mp hm
      exact ⟨x, d', rfl, hx, hb⟩
    rcases hk2 with rfl | rfl
    · (simp (disch := first | omega | (simp only [List.length_cons, List.length_nil, List.length_append, List.length_map, List.length_take, List.length_drop, List.length_reverse, List.length_set]; omega) | decide) only [e0, wX_ok, wX_exc, wO_some, wO_ite, wIf_true, wIf_false, wIf_not, wF_nx, wF_rt, wF_bk, wF_ct, w_pure, w_bind, w_of, w_m1, w_m2, w_var, w_c, w_truth, w_ite, w_and, w_or, w_not, w_andV, w_orV, w_notV, w_if, w_nil, w_cons, w_tup, w_lst, w_call, w_nx, w_seq, w_drop, w_ret, w_set, w_ifS, w_slot, w_callF, w_callK, w_app2, w_part, w_noPart, w_sl, w_seqOf, w_rng, w_for, w_forL_nil, w_app, w_ixO, w_lenO, w_popAt, w_setIx, w_aug, w_par2, w_par3, w_mbind, w_chain, wX_runF, VL.fill, VL.put, outs, startE, wipeE, backE, bindT_nm, bindT_tt, bindT_tl, bindTs_n, bindTs_c, VL.pick, List.filterMap_cons, List.filterMap_nil, List.map_cons, List.map_nil, List.length_cons, List.length_nil, List.replicate, List.cons_append, List.nil_append, List.getElem?_cons_zero, List.getElem?_cons_succ, List.set_cons_zero, List.set_cons_succ, Option.map_some, Option.bind_some, Option.getD_some, Nat.reduceSub, Nat.reduceAdd, Int.cast_ofNat_Int, Int.reduceLT, Int.reduceLE, Int.reduceNeg, Int.reduceEq, gEq_int, gNe_int, gLt_int, gGt_int, gLe_int, gGe_int, gAdd_int, gSub_int, gMul_l, gMul_r, gMod_int, gFdv_int, gNeg_i, cInt_i, cInt_b, cAbs_i, cLen_l, cLen_t, cTup_l, cTup_t, cLst_l, cLst_t, gIx_l, gIx_t, setI_i, popI_i, gSl_l, gSl_t, gSl_scr, dSeq_l, dSeq_t, dSeq_s, cMin2_i, cMax2_i, cEnum_l, cZip_l, cZip_t, tr_b, tr_i, tr_l, tr_t, tr_n, gIs_n, gIsn_n, isN, lstAt_0, lstAt_s, gAdd_l, gAdd_t, le_sizeP, lt_sizeP, gPow_i, cAll_mb, cAny_mb, w_star, w_tupS, w_lstS, w_star2, dItems_l, dItems_t, gCat_l, starT_c, gRev_ll, gRev_tt, true_and, and_true, Bool.not_true, Bool.not_false, decide_true, decide_false, isi_int_non, isi_int_bl, isi_int_int, isi_int_str, isi_int_lst, isi_int_tup, isi_str_non, isi_str_bl, isi_str_int, isi_str_str, isi_str_lst, isi_str_tup, isi_bool_non, isi_bool_bl, isi_bool_int, isi_bool_str, isi_bool_lst, isi_bool_tup, isi_list_non, isi_list_bl, isi_list_int, isi_list_str, isi_list_lst, isi_list_tup, isi_tuple_non, isi_tuple_bl, isi_tuple_int, isi_tuple_str, isi_tuple_lst, isi_tuple_tup, isi_dict_non, isi_dict_bl, isi_dict_int, isi_dict_str, isi_dict_lst, isi_dict_tup, isi_list_tuple_non, isi_list_tuple_bl, isi_list_tuple_int, isi_list_tuple_str, isi_list_tuple_lst, isi_list_tuple_tup, isi_bool_str_non, isi_bool_str_bl, isi_bool_str_int, isi_bool_str_str, isi_bool_str_lst, isi_bool_str_tup])
      refine wX_imp (of_sp hx hb2 (by omega) (by simpa using h0) (by simp; omega)) fun p hp => ?_
      obtain ⟨x, d', rfl, hx', hb⟩ := fin p hp
      (simp (disch := first | omega | (simp only [List.length_cons, List.length_nil, List.length_append, List.length_map, List.length_take, List.length_drop, List.length_reverse, List.length_set]; omega) | decide) only [wX_ok, wX_exc, wO_some, wO_ite, wIf_true, wIf_false, wIf_not, wF_nx, wF_rt, wF_bk, wF_ct, w_pure, w_bind, w_of, w_m1, w_m2, w_var, w_c, w_truth, w_ite, w_and, w_or, w_not, w_andV, w_orV, w_notV, w_if, w_nil, w_cons, w_tup, w_lst, w_call, w_nx, w_seq, w_drop, w_ret, w_set, w_ifS, w_slot, w_callF, w_callK, w_app2, w_part, w_noPart, w_sl, w_seqOf, w_rng, w_for, w_forL_nil, w_app, w_ixO, w_lenO, w_popAt, w_setIx, w_aug, w_par2, w_par3, w_mbind, w_chain, wX_runF, VL.fill, VL.put, outs, startE, wipeE, backE, bindT_nm, bindT_tt, bindT_tl, bindTs_n, bindTs_c, VL.pick, List.filterMap_cons, List.filterMap_nil, List.map_cons, List.map_nil, List.length_cons, List.length_nil, List.replicate, List.cons_append, List.nil_append, List.getElem?_cons_zero, List.getElem?_cons_succ, List.set_cons_zero, List.set_cons_succ, Option.map_some, Option.bind_some, Option.getD_some, Nat.reduceSub, Nat.reduceAdd, Int.cast_ofNat_Int, Int.reduceLT, Int.reduceLE, Int.reduceNeg, Int.reduceEq, gEq_int, gNe_int, gLt_int, gGt_int, gLe_int, gGe_int, gAdd_int, gSub_int, gMul_l, gMul_r, gMod_int, gFdv_int, gNeg_i, cInt_i, cInt_b, cAbs_i, cLen_l, cLen_t, cTup_l, cTup_t, cLst_l, cLst_t, gIx_l, gIx_t, setI_i, popI_i, gSl_l, gSl_t, gSl_scr, dSeq_l, dSeq_t, dSeq_s, cMin2_i, cMax2_i, cEnum_l, cZip_l, cZip_t, tr_b, tr_i, tr_l, tr_t, tr_n, gIs_n, gIsn_n, isN, lstAt_0, lstAt_s, gAdd_l, gAdd_t, le_sizeP, lt_sizeP, gPow_i, cAll_mb, cAny_mb, w_star, w_tupS, w_lstS, w_star2, dItems_l, dItems_t, gCat_l, starT_c, gRev_ll, gRev_tt, true_and, and_true, Bool.not_true, Bool.not_false, decide_true, decide_false, isi_int_non, isi_int_bl, isi_int_int, isi_int_str, isi_int_lst, isi_int_tup, isi_str_non, isi_str_bl, isi_str_int, isi_str_str, isi_str_lst, isi_str_tup, isi_bool_non, isi_bool_bl, isi_bool_int, isi_bool_str, isi_bool_lst, isi_bool_tup, isi_list_non, isi_list_bl, isi_list_int, isi_list_str, isi_list_lst, isi_list_tup, isi_tuple_non, isi_tuple_bl, isi_tuple_int, isi_tuple_str, isi_tuple_lst, isi_tuple_tup, isi_dict_non, isi_dict_bl, isi_dict_int, isi_dict_str, isi_dict_lst, isi_dict_tup, isi_list_tuple_non, isi_list_tuple_bl, isi_list_tuple_int, isi_list_tuple_str, isi_list_tuple_lst, isi_list_tuple_tup, isi_bool_str_non, isi_bool_str_bl, isi_bool_str_int, isi_bool_str_str, isi_bool_str_lst, isi_bool_str_tup])
      exact ⟨.most x (j - w), rfl, by show -w ≤ (j : Int) - w; omega, by show (j : Int) - w ≤ w; omega, (fun y hy => by rw [List.mem_singleton.mp hy]; exact hx'), d', rfl, hb⟩
    · (simp (disch := first | omega | (simp only [List.length_cons, List.length_nil, List.length_append, List.length_map, List.length_take, List.length_drop, List.length_reverse, List.length_set]; omega) | decide) only [e1, wX_ok, wX_exc, wO_some, wO_ite, wIf_true, wIf_false, wIf_not, wF_nx, wF_rt, wF_bk, wF_ct, w_pure, w_bind, w_of, w_m1, w_m2, w_var, w_c, w_truth, w_ite, w_and, w_or, w_not, w_andV, w_orV, w_notV, w_if, w_nil, w_cons, w_tup, w_lst, w_call, w_nx, w_seq, w_drop, w_ret, w_set, w_ifS, w_slot, w_callF, w_callK, w_app2, w_part, w_noPart, w_sl, w_seqOf, w_rng, w_for, w_forL_nil, w_app, w_ixO, w_lenO, w_popAt, w_setIx, w_aug, w_par2, w_par3, w_mbind, w_chain, wX_runF, VL.fill, VL.put, outs, startE, wipeE, backE, bindT_nm, bindT_tt, bindT_tl, bindTs_n, bindTs_c, VL.pick, List.filterMap_cons, List.filterMap_nil, List.map_cons, List.map_nil, List.length_cons, List.length_nil, List.replicate, List.cons_append, List.nil_append, List.getElem?_cons_zero, List.getElem?_cons_succ, List.set_cons_zero, List.set_cons_succ, Option.map_some, Option.bind_some, Option.getD_some, Nat.reduceSub, Nat.reduceAdd, Int.cast_ofNat_Int, Int.reduceLT, Int.reduceLE, Int.reduceNeg, Int.reduceEq, gEq_int, gNe_int, gLt_int, gGt_int, gLe_int, gGe_int, gAdd_int, gSub_int, gMul_l, gMul_r, gMod_int, gFdv_int, gNeg_i, cInt_i, cInt_b, cAbs_i, cLen_l, cLen_t, cTup_l, cTup_t, cLst_l, cLst_t, gIx_l, gIx_t, setI_i, popI_i, gSl_l, gSl_t, gSl_scr, dSeq_l, dSeq_t, dSeq_s, cMin2_i, cMax2_i, cEnum_l, cZip_l, cZip_t, tr_b, tr_i, tr_l, tr_t, tr_n, gIs_n, gIsn_n, isN, lstAt_0, lstAt_s, gAdd_l, gAdd_t, le_sizeP, lt_sizeP, gPow_i, cAll_mb, cAny_mb, w_star, w_tupS, w_lstS, w_star2, dItems_l, dItems_t, gCat_l, starT_c, gRev_ll, gRev_tt, true_and, and_true, Bool.not_true, Bool.not_false, decide_true, decide_false, isi_int_non, isi_int_bl, isi_int_int, isi_int_str, isi_int_lst, isi_int_tup, isi_str_non, isi_str_bl, isi_str_int, isi_str_str, isi_str_lst, isi_str_tup, isi_bool_non, isi_bool_bl, isi_bool_int, isi_bool_str, isi_bool_lst, isi_bool_tup, isi_list_non, isi_list_bl, isi_list_int, isi_list_str, isi_list_lst, isi_list_tup, isi_tuple_non, isi_tuple_bl, isi_tuple_int, isi_tuple_str, isi_tuple_lst, isi_tuple_tup, isi_dict_non, isi_dict_bl, isi_dict_int, isi_dict_str, isi_dict_lst, isi_dict_tup, isi_list_tuple_non, isi_list_tuple_bl, isi_list_tuple_int, isi_list_tuple_str, isi_list_tuple_lst, isi_list_tuple_tup, isi_bool_str_non, isi_bool_str_bl, isi_bool_str_int, isi_bool_str_str, isi_bool_str_lst, isi_bool_str_tup])
      refine wX_imp (of_sp hx hb2 (by omega) (by simpa using h0) (by simp; omega)) fun p hp => ?_
      obtain ⟨x, d', rfl, hx', hb⟩ := fin p hp
      (simp (disch := first | omega | (simp only [List.length_cons, List.length_nil, List.length_append, List.length_map, List.length_take, List.length_drop, List.length_reverse, List.length_set]; omega) | decide) only [wX_ok, wX_exc, wO_some, wO_ite, wIf_true, wIf_false, wIf_not, wF_nx, wF_rt, wF_bk, wF_ct, w_pure, w_bind, w_of, w_m1, w_m2, w_var, w_c, w_truth, w_ite, w_and, w_or, w_not, w_andV, w_orV, w_notV, w_if, w_nil, w_cons, w_tup, w_lst, w_call, w_nx, w_seq, w_drop, w_ret, w_set, w_ifS, w_slot, w_callF, w_callK, w_app2, w_part, w_noPart, w_sl, w_seqOf, w_rng, w_for, w_forL_nil, w_app, w_ixO, w_lenO, w_popAt, w_setIx, w_aug, w_par2, w_par3, w_mbind, w_chain, wX_runF, VL.fill, VL.put, outs, startE, wipeE, backE, bindT_nm, bindT_tt, bindT_tl, bindTs_n, bindTs_c, VL.pick, List.filterMap_cons, List.filterMap_nil, List.map_cons, List.map_nil, List.length_cons, List.length_nil, List.replicate, List.cons_append, List.nil_append, List.getElem?_cons_zero, List.getElem?_cons_succ, List.set_cons_zero, List.set_cons_succ, Option.map_some, Option.bind_some, Option.getD_some, Nat.reduceSub, Nat.reduceAdd, Int.cast_ofNat_Int, Int.reduceLT, Int.reduceLE, Int.reduceNeg, Int.reduceEq, gEq_int, gNe_int, gLt_int, gGt_int, gLe_int, gGe_int, gAdd_int, gSub_int, gMul_l, gMul_r, gMod_int, gFdv_int, gNeg_i, cInt_i, cInt_b, cAbs_i, cLen_l, cLen_t, cTup_l, cTup_t, cLst_l, cLst_t, gIx_l, gIx_t, setI_i, popI_i, gSl_l, gSl_t, gSl_scr, dSeq_l, dSeq_t, dSeq_s, cMin2_i, cMax2_i, cEnum_l, cZip_l, cZip_t, tr_b, tr_i, tr_l, tr_t, tr_n, gIs_n, gIsn_n, isN, lstAt_0, lstAt_s, gAdd_l, gAdd_t, le_sizeP, lt_sizeP, gPow_i, cAll_mb, cAny_mb, w_star, w_tupS, w_lstS, w_star2, dItems_l, dItems_t, gCat_l, starT_c, gRev_ll, gRev_tt, true_and, and_true, Bool.not_true, Bool.not_false, decide_true, decide_false, isi_int_non, isi_int_bl, isi_int_int, isi_int_str, isi_int_lst, isi_int_tup, isi_str_non, isi_str_bl, isi_str_int, isi_str_str, isi_str_lst, isi_str_tup, isi_bool_non, isi_bool_bl, isi_bool_int, isi_bool_str, isi_bool_lst, isi_bool_tup, isi_list_non, isi_list_bl, isi_list_int, isi_list_str, isi_list_lst, isi_list_tup, isi_tuple_non, isi_tuple_bl, isi_tuple_int, isi_tuple_str, isi_tuple_lst, isi_tuple_tup, isi_dict_non, isi_dict_bl, isi_dict_int, isi_dict_str, isi_dict_lst, isi_dict_tup, isi_list_tuple_non, isi_list_tuple_bl, isi_list_tuple_int, isi_list_tuple_str, isi_list_tuple_lst, isi_list_tuple_tup, isi_bool_str_non, isi_bool_str_bl, isi_bool_str_int, isi_bool_str_str, isi_bool_str_lst, isi_bool_str_tup])
      exact ⟨.least x (j - w), rfl, by show -w ≤ (j : Int) - w; omega, by show (j : Int) - w ≤ w; omega, (fun y hy => by rw [List.mem_singleton.mp hy]; exact hx'), d', rfl, hb⟩
theorem rng1_nat {k : Nat} (h : k < 2 ^ 60) : rng1 [.int (k : Int)] = some (rng 0 k) := by
  unfold rng1
  have e : lim62 (k : Int) = true := by
    unfold lim62
    simp only [Bool.and_eq_true, decide_eq_true_eq]
    omega
  simp only [e, if_true, Int.toNat_natCast]
theorem rng_len (i : Int) (k : Nat) : (rng i k).length = k := by unfold rng; simp
theorem rng_get {i : Int} {k j : Nat} {d : D} (h : (rng i k)[j]? = some d) : j < k ∧ d = .int (i + (j : Nat)) := by
  have hl : j < k := by
    have := (List.getElem?_eq_some_iff.mp h).1
    rw [rng_len] at this; exact this
  refine ⟨hl, ?_⟩
  unfold rng at h
  rw [List.getElem?_map, List.getElem?_range hl] at h
  exact (Option.some.inj h).symm
theorem row_sp {n : Nat} {d tags : D} {ts : List Str} {m : Nat} {w : Int} (hx : tags = .list (ts.map .str) ∨ tags = .tuple (ts.map .str)) (h : Bx n d) (hn : n + (3 * m + 1) < 2 ^ 60) (h0 : ts ≠ []) (h1 : ts.length < 1000000) (hw : 0 ≤ w ∧ w < 100000000) (hm : m < 1000) :
    wX (f__law_row [d, tags, .int m, .int w]) (fun p => ∃ sts : List Stp, p.1 = .tuple (sts.map stpD) ∧ sts.length ≤ m ∧ (∀ st ∈ sts, -w ≤ st.num ∧ st.num ≤ w ∧ ∀ x ∈ st.nam, x ∈ ts) ∧ ∃ d', p.2 = [d'] ∧ Bx (n + (3 * m + 1)) d') E0 := by
  unfold f__law_row
  (simp (disch := first | omega | (simp only [List.length_cons, List.length_nil, List.length_append, List.length_map, List.length_take, List.length_drop, List.length_reverse, List.length_set]; omega) | decide) only [wX_ok, wX_exc, wO_some, wO_ite, wIf_true, wIf_false, wIf_not, wF_nx, wF_rt, wF_bk, wF_ct, w_pure, w_bind, w_of, w_m1, w_m2, w_var, w_c, w_truth, w_ite, w_and, w_or, w_not, w_andV, w_orV, w_notV, w_if, w_nil, w_cons, w_tup, w_lst, w_call, w_nx, w_seq, w_drop, w_ret, w_set, w_ifS, w_slot, w_callF, w_callK, w_app2, w_part, w_noPart, w_sl, w_seqOf, w_rng, w_for, w_forL_nil, w_app, w_ixO, w_lenO, w_popAt, w_setIx, w_aug, w_par2, w_par3, w_mbind, w_chain, wX_runF, VL.fill, VL.put, outs, startE, wipeE, backE, bindT_nm, bindT_tt, bindT_tl, bindTs_n, bindTs_c, VL.pick, List.filterMap_cons, List.filterMap_nil, List.map_cons, List.map_nil, List.length_cons, List.length_nil, List.replicate, List.cons_append, List.nil_append, List.getElem?_cons_zero, List.getElem?_cons_succ, List.set_cons_zero, List.set_cons_succ, Option.map_some, Option.bind_some, Option.getD_some, Nat.reduceSub, Nat.reduceAdd, Int.cast_ofNat_Int, Int.reduceLT, Int.reduceLE, Int.reduceNeg, Int.reduceEq, gEq_int, gNe_int, gLt_int, gGt_int, gLe_int, gGe_int, gAdd_int, gSub_int, gMul_l, gMul_r, gMod_int, gFdv_int, gNeg_i, cInt_i, cInt_b, cAbs_i, cLen_l, cLen_t, cTup_l, cTup_t, cLst_l, cLst_t, gIx_l, gIx_t, setI_i, popI_i, gSl_l, gSl_t, gSl_scr, dSeq_l, dSeq_t, dSeq_s, cMin2_i, cMax2_i, cEnum_l, cZip_l, cZip_t, tr_b, tr_i, tr_l, tr_t, tr_n, gIs_n, gIsn_n, isN, lstAt_0, lstAt_s, gAdd_l, gAdd_t, le_sizeP, lt_sizeP, gPow_i, cAll_mb, cAny_mb, w_star, w_tupS, w_lstS, w_star2, dItems_l, dItems_t, gCat_l, starT_c, gRev_ll, gRev_tt, true_and, and_true, Bool.not_true, Bool.not_false, decide_true, decide_false, isi_int_non, isi_int_bl, isi_int_int, isi_int_str, isi_int_lst, isi_int_tup, isi_str_non, isi_str_bl, isi_str_int, isi_str_str, isi_str_lst, isi_str_tup, isi_bool_non, isi_bool_bl, isi_bool_int, isi_bool_str, isi_bool_lst, isi_bool_tup, isi_list_non, isi_list_bl, isi_list_int, isi_list_str, isi_list_lst, isi_list_tup, isi_tuple_non, isi_tuple_bl, isi_tuple_int, isi_tuple_str, isi_tuple_lst, isi_tuple_tup, isi_dict_non, isi_dict_bl, isi_dict_int, isi_dict_str, isi_dict_lst, isi_dict_tup, isi_list_tuple_non, isi_list_tuple_bl, isi_list_tuple_int, isi_list_tuple_str, isi_list_tuple_lst, isi_list_tuple_tup, isi_bool_str_non, isi_bool_str_bl, isi_bool_str_int, isi_bool_str_str, isi_bool_str_lst, isi_bool_str_tup])
  rw [w_lc]
  (simp (disch := first | omega | (simp only [List.length_cons, List.length_nil, List.length_append, List.length_map, List.length_take, List.length_drop, List.length_reverse, List.length_set]; omega) | decide) only [wX_ok, wX_exc, wO_some, wO_ite, wIf_true, wIf_false, wIf_not, wF_nx, wF_rt, wF_bk, wF_ct, w_pure, w_bind, w_of, w_m1, w_m2, w_var, w_c, w_truth, w_ite, w_and, w_or, w_not, w_andV, w_orV, w_notV, w_if, w_nil, w_cons, w_tup, w_lst, w_call, w_nx, w_seq, w_drop, w_ret, w_set, w_ifS, w_slot, w_callF, w_callK, w_app2, w_part, w_noPart, w_sl, w_seqOf, w_rng, w_for, w_forL_nil, w_app, w_ixO, w_lenO, w_popAt, w_setIx, w_aug, w_par2, w_par3, w_mbind, w_chain, wX_runF, VL.fill, VL.put, outs, startE, wipeE, backE, bindT_nm, bindT_tt, bindT_tl, bindTs_n, bindTs_c, VL.pick, List.filterMap_cons, List.filterMap_nil, List.map_cons, List.map_nil, List.length_cons, List.length_nil, List.replicate, List.cons_append, List.nil_append, List.getElem?_cons_zero, List.getElem?_cons_succ, List.set_cons_zero, List.set_cons_succ, Option.map_some, Option.bind_some, Option.getD_some, Nat.reduceSub, Nat.reduceAdd, Int.cast_ofNat_Int, Int.reduceLT, Int.reduceLE, Int.reduceNeg, Int.reduceEq, gEq_int, gNe_int, gLt_int, gGt_int, gLe_int, gGe_int, gAdd_int, gSub_int, gMul_l, gMul_r, gMod_int, gFdv_int, gNeg_i, cInt_i, cInt_b, cAbs_i, cLen_l, cLen_t, cTup_l, cTup_t, cLst_l, cLst_t, gIx_l, gIx_t, setI_i, popI_i, gSl_l, gSl_t, gSl_scr, dSeq_l, dSeq_t, dSeq_s, cMin2_i, cMax2_i, cEnum_l, cZip_l, cZip_t, tr_b, tr_i, tr_l, tr_t, tr_n, gIs_n, gIsn_n, isN, lstAt_0, lstAt_s, gAdd_l, gAdd_t, le_sizeP, lt_sizeP, gPow_i, cAll_mb, cAny_mb, w_star, w_tupS, w_lstS, w_star2, dItems_l, dItems_t, gCat_l, starT_c, gRev_ll, gRev_tt, true_and, and_true, Bool.not_true, Bool.not_false, decide_true, decide_false, isi_int_non, isi_int_bl, isi_int_int, isi_int_str, isi_int_lst, isi_int_tup, isi_str_non, isi_str_bl, isi_str_int, isi_str_str, isi_str_lst, isi_str_tup, isi_bool_non, isi_bool_bl, isi_bool_int, isi_bool_str, isi_bool_lst, isi_bool_tup, isi_list_non, isi_list_bl, isi_list_int, isi_list_str, isi_list_lst, isi_list_tup, isi_tuple_non, isi_tuple_bl, isi_tuple_int, isi_tuple_str, isi_tuple_lst, isi_tuple_tup, isi_dict_non, isi_dict_bl, isi_dict_int, isi_dict_str, isi_dict_lst, isi_dict_tup, isi_list_tuple_non, isi_list_tuple_bl, isi_list_tuple_int, isi_list_tuple_str, isi_list_tuple_lst, isi_list_tuple_tup, isi_bool_str_non, isi_bool_str_bl, isi_bool_str_int, isi_bool_str_str, isi_bool_str_lst, isi_bool_str_tup])
  refine wX_imp (take_sp h (by omega) (by omega) (by omega)) ?_
  rintro ⟨_, _⟩ ⟨k, rfl, hk, d1, rfl, hb1⟩
  (simp (disch := first | omega | (simp only [List.length_cons, List.length_nil, List.length_append, List.length_map, List.length_take, List.length_drop, List.length_reverse, List.length_set]; omega) | decide) only [rng1_nat (k := k) (by omega), rng_len, wX_ok, wX_exc, wO_some, wO_ite, wIf_true, wIf_false, wIf_not, wF_nx, wF_rt, wF_bk, wF_ct, w_pure, w_bind, w_of, w_m1, w_m2, w_var, w_c, w_truth, w_ite, w_and, w_or, w_not, w_andV, w_orV, w_notV, w_if, w_nil, w_cons, w_tup, w_lst, w_call, w_nx, w_seq, w_drop, w_ret, w_set, w_ifS, w_slot, w_callF, w_callK, w_app2, w_part, w_noPart, w_sl, w_seqOf, w_rng, w_for, w_forL_nil, w_app, w_ixO, w_lenO, w_popAt, w_setIx, w_aug, w_par2, w_par3, w_mbind, w_chain, wX_runF, VL.fill, VL.put, outs, startE, wipeE, backE, bindT_nm, bindT_tt, bindT_tl, bindTs_n, bindTs_c, VL.pick, List.filterMap_cons, List.filterMap_nil, List.map_cons, List.map_nil, List.length_cons, List.length_nil, List.replicate, List.cons_append, List.nil_append, List.getElem?_cons_zero, List.getElem?_cons_succ, List.set_cons_zero, List.set_cons_succ, Option.map_some, Option.bind_some, Option.getD_some, Nat.reduceSub, Nat.reduceAdd, Int.cast_ofNat_Int, Int.reduceLT, Int.reduceLE, Int.reduceNeg, Int.reduceEq, gEq_int, gNe_int, gLt_int, gGt_int, gLe_int, gGe_int, gAdd_int, gSub_int, gMul_l, gMul_r, gMod_int, gFdv_int, gNeg_i, cInt_i, cInt_b, cAbs_i, cLen_l, cLen_t, cTup_l, cTup_t, cLst_l, cLst_t, gIx_l, gIx_t, setI_i, popI_i, gSl_l, gSl_t, gSl_scr, dSeq_l, dSeq_t, dSeq_s, cMin2_i, cMax2_i, cEnum_l, cZip_l, cZip_t, tr_b, tr_i, tr_l, tr_t, tr_n, gIs_n, gIsn_n, isN, lstAt_0, lstAt_s, gAdd_l, gAdd_t, le_sizeP, lt_sizeP, gPow_i, cAll_mb, cAny_mb, w_star, w_tupS, w_lstS, w_star2, dItems_l, dItems_t, gCat_l, starT_c, gRev_ll, gRev_tt, true_and, and_true, Bool.not_true, Bool.not_false, decide_true, decide_false, isi_int_non, isi_int_bl, isi_int_int, isi_int_str, isi_int_lst, isi_int_tup, isi_str_non, isi_str_bl, isi_str_int, isi_str_str, isi_str_lst, isi_str_tup, isi_bool_non, isi_bool_bl, isi_bool_int, isi_bool_str, isi_bool_lst, isi_bool_tup, isi_list_non, isi_list_bl, isi_list_int, isi_list_str, isi_list_lst, isi_list_tup, isi_tuple_non, isi_tuple_bl, isi_tuple_int, isi_tuple_str, isi_tuple_lst, isi_tuple_tup, isi_dict_non, isi_dict_bl, isi_dict_int, isi_dict_str, isi_dict_lst, isi_dict_tup, isi_list_tuple_non, isi_list_tuple_bl, isi_list_tuple_int, isi_list_tuple_str, isi_list_tuple_lst, isi_list_tuple_tup, isi_bool_str_non, isi_bool_str_bl, isi_bool_str_int, isi_bool_str_str, isi_bool_str_lst, isi_bool_str_tup])
  refine w_lcI (k := 0) (fun j acc ρ => ∃ d' sts, ρ = [some d', some tags, some (.int m), some (.int w), none] ∧ Bx (n + 1 + 3 * j) d' ∧ acc = sts.map stpD ∧ sts.length = j ∧ ∀ st ∈ sts, -w ≤ st.num ∧ st.num ≤ w ∧ ∀ x ∈ st.nam, x ∈ ts) ⟨d1, [], rfl, hb1, rfl, rfl, (fun x hx => by cases hx)⟩ ?_ ?_
  · rintro j e acc ρ hj ⟨d', sts, rfl, hb, rfl, hl, ha⟩
    obtain ⟨hjk, rfl⟩ := rng_get hj
    (simp (disch := first | omega | (simp only [List.length_cons, List.length_nil, List.length_append, List.length_map, List.length_take, List.length_drop, List.length_reverse, List.length_set]; omega) | decide) only [wX_ok, wX_exc, wO_some, wO_ite, wIf_true, wIf_false, wIf_not, wF_nx, wF_rt, wF_bk, wF_ct, w_pure, w_bind, w_of, w_m1, w_m2, w_var, w_c, w_truth, w_ite, w_and, w_or, w_not, w_andV, w_orV, w_notV, w_if, w_nil, w_cons, w_tup, w_lst, w_call, w_nx, w_seq, w_drop, w_ret, w_set, w_ifS, w_slot, w_callF, w_callK, w_app2, w_part, w_noPart, w_sl, w_seqOf, w_rng, w_for, w_forL_nil, w_app, w_ixO, w_lenO, w_popAt, w_setIx, w_aug, w_par2, w_par3, w_mbind, w_chain, wX_runF, VL.fill, VL.put, outs, startE, wipeE, backE, bindT_nm, bindT_tt, bindT_tl, bindTs_n, bindTs_c, VL.pick, List.filterMap_cons, List.filterMap_nil, List.map_cons, List.map_nil, List.length_cons, List.length_nil, List.replicate, List.cons_append, List.nil_append, List.getElem?_cons_zero, List.getElem?_cons_succ, List.set_cons_zero, List.set_cons_succ, Option.map_some, Option.bind_some, Option.getD_some, Nat.reduceSub, Nat.reduceAdd, Int.cast_ofNat_Int, Int.reduceLT, Int.reduceLE, Int.reduceNeg, Int.reduceEq, gEq_int, gNe_int, gLt_int, gGt_int, gLe_int, gGe_int, gAdd_int, gSub_int, gMul_l, gMul_r, gMod_int, gFdv_int, gNeg_i, cInt_i, cInt_b, cAbs_i, cLen_l, cLen_t, cTup_l, cTup_t, cLst_l, cLst_t, gIx_l, gIx_t, setI_i, popI_i, gSl_l, gSl_t, gSl_scr, dSeq_l, dSeq_t, dSeq_s, cMin2_i, cMax2_i, cEnum_l, cZip_l, cZip_t, tr_b, tr_i, tr_l, tr_t, tr_n, gIs_n, gIsn_n, isN, lstAt_0, lstAt_s, gAdd_l, gAdd_t, le_sizeP, lt_sizeP, gPow_i, cAll_mb, cAny_mb, w_star, w_tupS, w_lstS, w_star2, dItems_l, dItems_t, gCat_l, starT_c, gRev_ll, gRev_tt, true_and, and_true, Bool.not_true, Bool.not_false, decide_true, decide_false, isi_int_non, isi_int_bl, isi_int_int, isi_int_str, isi_int_lst, isi_int_tup, isi_str_non, isi_str_bl, isi_str_int, isi_str_str, isi_str_lst, isi_str_tup, isi_bool_non, isi_bool_bl, isi_bool_int, isi_bool_str, isi_bool_lst, isi_bool_tup, isi_list_non, isi_list_bl, isi_list_int, isi_list_str, isi_list_lst, isi_list_tup, isi_tuple_non, isi_tuple_bl, isi_tuple_int, isi_tuple_str, isi_tuple_lst, isi_tuple_tup, isi_dict_non, isi_dict_bl, isi_dict_int, isi_dict_str, isi_dict_lst, isi_dict_tup, isi_list_tuple_non, isi_list_tuple_bl, isi_list_tuple_int, isi_list_tuple_str, isi_list_tuple_lst, isi_list_tuple_tup, isi_bool_str_non, isi_bool_str_bl, isi_bool_str_int, isi_bool_str_str, isi_bool_str_lst, isi_bool_str_tup])
    refine wX_imp (deed_sp hx hb (by omega) h0 h1 hw) ?_
    rintro ⟨_, _⟩ ⟨st, rfl, s1, s2, s3, d2, rfl, hb2⟩
    (simp (disch := first | omega | (simp only [List.length_cons, List.length_nil, List.length_append, List.length_map, List.length_take, List.length_drop, List.length_reverse, List.length_set]; omega) | decide) only [wX_ok, wX_exc, wO_some, wO_ite, wIf_true, wIf_false, wIf_not, wF_nx, wF_rt, wF_bk, wF_ct, w_pure, w_bind, w_of, w_m1, w_m2, w_var, w_c, w_truth, w_ite, w_and, w_or, w_not, w_andV, w_orV, w_notV, w_if, w_nil, w_cons, w_tup, w_lst, w_call, w_nx, w_seq, w_drop, w_ret, w_set, w_ifS, w_slot, w_callF, w_callK, w_app2, w_part, w_noPart, w_sl, w_seqOf, w_rng, w_for, w_forL_nil, w_app, w_ixO, w_lenO, w_popAt, w_setIx, w_aug, w_par2, w_par3, w_mbind, w_chain, wX_runF, VL.fill, VL.put, outs, startE, wipeE, backE, bindT_nm, bindT_tt, bindT_tl, bindTs_n, bindTs_c, VL.pick, List.filterMap_cons, List.filterMap_nil, List.map_cons, List.map_nil, List.length_cons, List.length_nil, List.replicate, List.cons_append, List.nil_append, List.getElem?_cons_zero, List.getElem?_cons_succ, List.set_cons_zero, List.set_cons_succ, Option.map_some, Option.bind_some, Option.getD_some, Nat.reduceSub, Nat.reduceAdd, Int.cast_ofNat_Int, Int.reduceLT, Int.reduceLE, Int.reduceNeg, Int.reduceEq, gEq_int, gNe_int, gLt_int, gGt_int, gLe_int, gGe_int, gAdd_int, gSub_int, gMul_l, gMul_r, gMod_int, gFdv_int, gNeg_i, cInt_i, cInt_b, cAbs_i, cLen_l, cLen_t, cTup_l, cTup_t, cLst_l, cLst_t, gIx_l, gIx_t, setI_i, popI_i, gSl_l, gSl_t, gSl_scr, dSeq_l, dSeq_t, dSeq_s, cMin2_i, cMax2_i, cEnum_l, cZip_l, cZip_t, tr_b, tr_i, tr_l, tr_t, tr_n, gIs_n, gIsn_n, isN, lstAt_0, lstAt_s, gAdd_l, gAdd_t, le_sizeP, lt_sizeP, gPow_i, cAll_mb, cAny_mb, w_star, w_tupS, w_lstS, w_star2, dItems_l, dItems_t, gCat_l, starT_c, gRev_ll, gRev_tt, true_and, and_true, Bool.not_true, Bool.not_false, decide_true, decide_false, isi_int_non, isi_int_bl, isi_int_int, isi_int_str, isi_int_lst, isi_int_tup, isi_str_non, isi_str_bl, isi_str_int, isi_str_str, isi_str_lst, isi_str_tup, isi_bool_non, isi_bool_bl, isi_bool_int, isi_bool_str, isi_bool_lst, isi_bool_tup, isi_list_non, isi_list_bl, isi_list_int, isi_list_str, isi_list_lst, isi_list_tup, isi_tuple_non, isi_tuple_bl, isi_tuple_int, isi_tuple_str, isi_tuple_lst, isi_tuple_tup, isi_dict_non, isi_dict_bl, isi_dict_int, isi_dict_str, isi_dict_lst, isi_dict_tup, isi_list_tuple_non, isi_list_tuple_bl, isi_list_tuple_int, isi_list_tuple_str, isi_list_tuple_lst, isi_list_tuple_tup, isi_bool_str_non, isi_bool_str_bl, isi_bool_str_int, isi_bool_str_str, isi_bool_str_lst, isi_bool_str_tup])
    refine ⟨d2, sts ++ [st], rfl, hb2.mono (by omega), by rw [List.map_append]; rfl, by rw [List.length_append, hl]; rfl, fun z hz => ?_⟩
    rcases List.mem_append.mp hz with hz | hz
    · exact ha z hz
    · rw [List.mem_singleton.mp hz]; exact ⟨s1, s2, s3⟩
  · rintro acc ρ ⟨d', sts, rfl, hb, rfl, hl, ha⟩
    rw [rng_len] at hl hb
    (simp (disch := first | omega | (simp only [List.length_cons, List.length_nil, List.length_append, List.length_map, List.length_take, List.length_drop, List.length_reverse, List.length_set]; omega) | decide) only [wX_ok, wX_exc, wO_some, wO_ite, wIf_true, wIf_false, wIf_not, wF_nx, wF_rt, wF_bk, wF_ct, w_pure, w_bind, w_of, w_m1, w_m2, w_var, w_c, w_truth, w_ite, w_and, w_or, w_not, w_andV, w_orV, w_notV, w_if, w_nil, w_cons, w_tup, w_lst, w_call, w_nx, w_seq, w_drop, w_ret, w_set, w_ifS, w_slot, w_callF, w_callK, w_app2, w_part, w_noPart, w_sl, w_seqOf, w_rng, w_for, w_forL_nil, w_app, w_ixO, w_lenO, w_popAt, w_setIx, w_aug, w_par2, w_par3, w_mbind, w_chain, wX_runF, VL.fill, VL.put, outs, startE, wipeE, backE, bindT_nm, bindT_tt, bindT_tl, bindTs_n, bindTs_c, VL.pick, List.filterMap_cons, List.filterMap_nil, List.map_cons, List.map_nil, List.length_cons, List.length_nil, List.replicate, List.cons_append, List.nil_append, List.getElem?_cons_zero, List.getElem?_cons_succ, List.set_cons_zero, List.set_cons_succ, Option.map_some, Option.bind_some, Option.getD_some, Nat.reduceSub, Nat.reduceAdd, Int.cast_ofNat_Int, Int.reduceLT, Int.reduceLE, Int.reduceNeg, Int.reduceEq, gEq_int, gNe_int, gLt_int, gGt_int, gLe_int, gGe_int, gAdd_int, gSub_int, gMul_l, gMul_r, gMod_int, gFdv_int, gNeg_i, cInt_i, cInt_b, cAbs_i, cLen_l, cLen_t, cTup_l, cTup_t, cLst_l, cLst_t, gIx_l, gIx_t, setI_i, popI_i, gSl_l, gSl_t, gSl_scr, dSeq_l, dSeq_t, dSeq_s, cMin2_i, cMax2_i, cEnum_l, cZip_l, cZip_t, tr_b, tr_i, tr_l, tr_t, tr_n, gIs_n, gIsn_n, isN, lstAt_0, lstAt_s, gAdd_l, gAdd_t, le_sizeP, lt_sizeP, gPow_i, cAll_mb, cAny_mb, w_star, w_tupS, w_lstS, w_star2, dItems_l, dItems_t, gCat_l, starT_c, gRev_ll, gRev_tt, true_and, and_true, Bool.not_true, Bool.not_false, decide_true, decide_false, isi_int_non, isi_int_bl, isi_int_int, isi_int_str, isi_int_lst, isi_int_tup, isi_str_non, isi_str_bl, isi_str_int, isi_str_str, isi_str_lst, isi_str_tup, isi_bool_non, isi_bool_bl, isi_bool_int, isi_bool_str, isi_bool_lst, isi_bool_tup, isi_list_non, isi_list_bl, isi_list_int, isi_list_str, isi_list_lst, isi_list_tup, isi_tuple_non, isi_tuple_bl, isi_tuple_int, isi_tuple_str, isi_tuple_lst, isi_tuple_tup, isi_dict_non, isi_dict_bl, isi_dict_int, isi_dict_str, isi_dict_lst, isi_dict_tup, isi_list_tuple_non, isi_list_tuple_bl, isi_list_tuple_int, isi_list_tuple_str, isi_list_tuple_lst, isi_list_tuple_tup, isi_bool_str_non, isi_bool_str_bl, isi_bool_str_int, isi_bool_str_str, isi_bool_str_lst, isi_bool_str_tup])
    exact ⟨sts, rfl, by omega, ha, d', rfl, hb.mono (by omega)⟩
end LL
end

section
set_option Elab.async false
set_option linter.all false
set_option maxRecDepth 100000
set_option maxHeartbeats 1000000
namespace LL
open PySem VL
/-! ### things of all kinds -/
inductive Sz (n : Nat) : D → Prop
  | non : Sz n .none
  | bl (b : Bool) : Sz n (.bool b)
  | int (i : Int) : Sz n (.int i)
  | str {s : Str} (h : s.length ≤ 100) : Sz n (.str s)
  | lst {xs : List D} (h : xs.length ≤ n) (a : ∀ x ∈ xs, Sz n x) : Sz n (.list xs)
  | tup {xs : List D} (h : xs.length ≤ n) (a : ∀ x ∈ xs, Sz n x) : Sz n (.tuple xs)
theorem plainAll_of : ∀ {xs : List D}, (∀ x ∈ xs, x.plain = true) → PyData.plainAll xs = true
  | [], _ => rfl
  | x :: xs, h => by rw [PyData.plainAll, h x (List.mem_cons_self ..), plainAll_of fun y hy => h y (List.mem_cons_of_mem _ hy)]; rfl
theorem Sz.plain {n : Nat} : ∀ {d : D}, Sz n d → d.plain = true
  | _, .non => rfl
  | _, .bl _ => rfl
  | _, .int _ => rfl
  | _, .str _ => rfl
  | _, .lst _ a => plainAll_of fun x hx => (a x hx).plain
  | _, .tup _ a => plainAll_of fun x hx => (a x hx).plain
theorem Sz.mono {n m : Nat} (l : n ≤ m) : ∀ {d : D}, Sz n d → Sz m d
  | _, .non => .non
  | _, .bl b => .bl b
  | _, .int i => .int i
  | _, .str h => .str h
  | _, .lst h a => .lst (Nat.le_trans h l) fun x hx => (a x hx).mono l
  | _, .tup h a => .tup (Nat.le_trans h l) fun x hx => (a x hx).mono l
def isNum : D → Bool
  | .int _ => true
  | _ => false
theorem is_number_eq {n : Nat} {d : D} (h : Sz n d) : f_is_number [d] = .ok (.bool (isNum d), []) := by
  cases h <;> rfl
def inS (c : Nat) : Bool := !(Builtin.Str.occurrences "abcdefghijklmnopqrstuvwxyz" ⟨#[c]⟩ 0 26 1).isEmpty
theorem gIn_let (c : Nat) : gIn (.str ⟨#[c]⟩) (.str "abcdefghijklmnopqrstuvwxyz") = some (.bool (inS c)) := rfl
theorem gNin_let (c : Nat) : gNin (.str ⟨#[c]⟩) (.str "abcdefghijklmnopqrstuvwxyz") = some (.bool (!inS c)) := rfl
def isNam (s : Str) : Bool := decide (1 ≤ s.length) && decide (s.length ≤ 8) && s.cps.toList.all inS
def isName : D → Bool
  | .str s => isNam s
  | _ => false
theorem is_name_eq {n : Nat} {d : D} (h : Sz n d) : f_is_name [d] = .ok (.bool (isName d), []) := by
  cases h with
  | @str s h =>
    apply wX_eq
    unfold f_is_name
    (simp (disch := first | omega | (simp only [List.length_cons, List.length_nil, List.length_append, List.length_map, List.length_take, List.length_drop, List.length_reverse, List.length_set]; omega) | decide) only [cLen_s, wX_ok, wX_exc, wO_some, wO_ite, wIf_true, wIf_false, wIf_not, wF_nx, wF_rt, wF_bk, wF_ct, w_pure, w_bind, w_of, w_m1, w_m2, w_var, w_c, w_truth, w_ite, w_and, w_or, w_not, w_andV, w_orV, w_notV, w_if, w_nil, w_cons, w_tup, w_lst, w_call, w_nx, w_seq, w_drop, w_ret, w_set, w_ifS, w_slot, w_callF, w_callK, w_app2, w_part, w_noPart, w_sl, w_seqOf, w_rng, w_for, w_forL_nil, w_app, w_ixO, w_lenO, w_popAt, w_setIx, w_aug, w_par2, w_par3, w_mbind, w_chain, wX_runF, VL.fill, VL.put, outs, startE, wipeE, backE, bindT_nm, bindT_tt, bindT_tl, bindTs_n, bindTs_c, VL.pick, List.filterMap_cons, List.filterMap_nil, List.map_cons, List.map_nil, List.length_cons, List.length_nil, List.replicate, List.cons_append, List.nil_append, List.getElem?_cons_zero, List.getElem?_cons_succ, List.set_cons_zero, List.set_cons_succ, Option.map_some, Option.bind_some, Option.getD_some, Nat.reduceSub, Nat.reduceAdd, Int.cast_ofNat_Int, Int.reduceLT, Int.reduceLE, Int.reduceNeg, Int.reduceEq, gEq_int, gNe_int, gLt_int, gGt_int, gLe_int, gGe_int, gAdd_int, gSub_int, gMul_l, gMul_r, gMod_int, gFdv_int, gNeg_i, cInt_i, cInt_b, cAbs_i, cLen_l, cLen_t, cTup_l, cTup_t, cLst_l, cLst_t, gIx_l, gIx_t, setI_i, popI_i, gSl_l, gSl_t, gSl_scr, dSeq_l, dSeq_t, dSeq_s, cMin2_i, cMax2_i, cEnum_l, cZip_l, cZip_t, tr_b, tr_i, tr_l, tr_t, tr_n, gIs_n, gIsn_n, isN, lstAt_0, lstAt_s, gAdd_l, gAdd_t, le_sizeP, lt_sizeP, gPow_i, cAll_mb, cAny_mb, w_star, w_tupS, w_lstS, w_star2, dItems_l, dItems_t, gCat_l, starT_c, gRev_ll, gRev_tt, true_and, and_true, Bool.not_true, Bool.not_false, decide_true, decide_false, isi_int_non, isi_int_bl, isi_int_int, isi_int_str, isi_int_lst, isi_int_tup, isi_str_non, isi_str_bl, isi_str_int, isi_str_str, isi_str_lst, isi_str_tup, isi_bool_non, isi_bool_bl, isi_bool_int, isi_bool_str, isi_bool_lst, isi_bool_tup, isi_list_non, isi_list_bl, isi_list_int, isi_list_str, isi_list_lst, isi_list_tup, isi_tuple_non, isi_tuple_bl, isi_tuple_int, isi_tuple_str, isi_tuple_lst, isi_tuple_tup, isi_dict_non, isi_dict_bl, isi_dict_int, isi_dict_str, isi_dict_lst, isi_dict_tup, isi_list_tuple_non, isi_list_tuple_bl, isi_list_tuple_int, isi_list_tuple_str, isi_list_tuple_lst, isi_list_tuple_tup, isi_bool_str_non, isi_bool_str_bl, isi_bool_str_int, isi_bool_str_str, isi_bool_str_lst, isi_bool_str_tup])
    refine wIf_dec (fun h1 => ?_) fun h1 => ?_
    · (simp (disch := first | omega | (simp only [List.length_cons, List.length_nil, List.length_append, List.length_map, List.length_take, List.length_drop, List.length_reverse, List.length_set]; omega) | decide) only [wX_ok, wX_exc, wO_some, wO_ite, wIf_true, wIf_false, wIf_not, wF_nx, wF_rt, wF_bk, wF_ct, w_pure, w_bind, w_of, w_m1, w_m2, w_var, w_c, w_truth, w_ite, w_and, w_or, w_not, w_andV, w_orV, w_notV, w_if, w_nil, w_cons, w_tup, w_lst, w_call, w_nx, w_seq, w_drop, w_ret, w_set, w_ifS, w_slot, w_callF, w_callK, w_app2, w_part, w_noPart, w_sl, w_seqOf, w_rng, w_for, w_forL_nil, w_app, w_ixO, w_lenO, w_popAt, w_setIx, w_aug, w_par2, w_par3, w_mbind, w_chain, wX_runF, VL.fill, VL.put, outs, startE, wipeE, backE, bindT_nm, bindT_tt, bindT_tl, bindTs_n, bindTs_c, VL.pick, List.filterMap_cons, List.filterMap_nil, List.map_cons, List.map_nil, List.length_cons, List.length_nil, List.replicate, List.cons_append, List.nil_append, List.getElem?_cons_zero, List.getElem?_cons_succ, List.set_cons_zero, List.set_cons_succ, Option.map_some, Option.bind_some, Option.getD_some, Nat.reduceSub, Nat.reduceAdd, Int.cast_ofNat_Int, Int.reduceLT, Int.reduceLE, Int.reduceNeg, Int.reduceEq, gEq_int, gNe_int, gLt_int, gGt_int, gLe_int, gGe_int, gAdd_int, gSub_int, gMul_l, gMul_r, gMod_int, gFdv_int, gNeg_i, cInt_i, cInt_b, cAbs_i, cLen_l, cLen_t, cTup_l, cTup_t, cLst_l, cLst_t, gIx_l, gIx_t, setI_i, popI_i, gSl_l, gSl_t, gSl_scr, dSeq_l, dSeq_t, dSeq_s, cMin2_i, cMax2_i, cEnum_l, cZip_l, cZip_t, tr_b, tr_i, tr_l, tr_t, tr_n, gIs_n, gIsn_n, isN, lstAt_0, lstAt_s, gAdd_l, gAdd_t, le_sizeP, lt_sizeP, gPow_i, cAll_mb, cAny_mb, w_star, w_tupS, w_lstS, w_star2, dItems_l, dItems_t, gCat_l, starT_c, gRev_ll, gRev_tt, true_and, and_true, Bool.not_true, Bool.not_false, decide_true, decide_false, isi_int_non, isi_int_bl, isi_int_int, isi_int_str, isi_int_lst, isi_int_tup, isi_str_non, isi_str_bl, isi_str_int, isi_str_str, isi_str_lst, isi_str_tup, isi_bool_non, isi_bool_bl, isi_bool_int, isi_bool_str, isi_bool_lst, isi_bool_tup, isi_list_non, isi_list_bl, isi_list_int, isi_list_str, isi_list_lst, isi_list_tup, isi_tuple_non, isi_tuple_bl, isi_tuple_int, isi_tuple_str, isi_tuple_lst, isi_tuple_tup, isi_dict_non, isi_dict_bl, isi_dict_int, isi_dict_str, isi_dict_lst, isi_dict_tup, isi_list_tuple_non, isi_list_tuple_bl, isi_list_tuple_int, isi_list_tuple_str, isi_list_tuple_lst, isi_list_tuple_tup, isi_bool_str_non, isi_bool_str_bl, isi_bool_str_int, isi_bool_str_str, isi_bool_str_lst, isi_bool_str_tup])
      refine wIf_dec (fun h2 => ?_) fun h2 => ?_
      · (simp (disch := first | omega | (simp only [List.length_cons, List.length_nil, List.length_append, List.length_map, List.length_take, List.length_drop, List.length_reverse, List.length_set]; omega) | decide) only [wX_ok, wX_exc, wO_some, wO_ite, wIf_true, wIf_false, wIf_not, wF_nx, wF_rt, wF_bk, wF_ct, w_pure, w_bind, w_of, w_m1, w_m2, w_var, w_c, w_truth, w_ite, w_and, w_or, w_not, w_andV, w_orV, w_notV, w_if, w_nil, w_cons, w_tup, w_lst, w_call, w_nx, w_seq, w_drop, w_ret, w_set, w_ifS, w_slot, w_callF, w_callK, w_app2, w_part, w_noPart, w_sl, w_seqOf, w_rng, w_for, w_forL_nil, w_app, w_ixO, w_lenO, w_popAt, w_setIx, w_aug, w_par2, w_par3, w_mbind, w_chain, wX_runF, VL.fill, VL.put, outs, startE, wipeE, backE, bindT_nm, bindT_tt, bindT_tl, bindTs_n, bindTs_c, VL.pick, List.filterMap_cons, List.filterMap_nil, List.map_cons, List.map_nil, List.length_cons, List.length_nil, List.replicate, List.cons_append, List.nil_append, List.getElem?_cons_zero, List.getElem?_cons_succ, List.set_cons_zero, List.set_cons_succ, Option.map_some, Option.bind_some, Option.getD_some, Nat.reduceSub, Nat.reduceAdd, Int.cast_ofNat_Int, Int.reduceLT, Int.reduceLE, Int.reduceNeg, Int.reduceEq, gEq_int, gNe_int, gLt_int, gGt_int, gLe_int, gGe_int, gAdd_int, gSub_int, gMul_l, gMul_r, gMod_int, gFdv_int, gNeg_i, cInt_i, cInt_b, cAbs_i, cLen_l, cLen_t, cTup_l, cTup_t, cLst_l, cLst_t, gIx_l, gIx_t, setI_i, popI_i, gSl_l, gSl_t, gSl_scr, dSeq_l, dSeq_t, dSeq_s, cMin2_i, cMax2_i, cEnum_l, cZip_l, cZip_t, tr_b, tr_i, tr_l, tr_t, tr_n, gIs_n, gIsn_n, isN, lstAt_0, lstAt_s, gAdd_l, gAdd_t, le_sizeP, lt_sizeP, gPow_i, cAll_mb, cAny_mb, w_star, w_tupS, w_lstS, w_star2, dItems_l, dItems_t, gCat_l, starT_c, gRev_ll, gRev_tt, true_and, and_true, Bool.not_true, Bool.not_false, decide_true, decide_false, isi_int_non, isi_int_bl, isi_int_int, isi_int_str, isi_int_lst, isi_int_tup, isi_str_non, isi_str_bl, isi_str_int, isi_str_str, isi_str_lst, isi_str_tup, isi_bool_non, isi_bool_bl, isi_bool_int, isi_bool_str, isi_bool_lst, isi_bool_tup, isi_list_non, isi_list_bl, isi_list_int, isi_list_str, isi_list_lst, isi_list_tup, isi_tuple_non, isi_tuple_bl, isi_tuple_int, isi_tuple_str, isi_tuple_lst, isi_tuple_tup, isi_dict_non, isi_dict_bl, isi_dict_int, isi_dict_str, isi_dict_lst, isi_dict_tup, isi_list_tuple_non, isi_list_tuple_bl, isi_list_tuple_int, isi_list_tuple_str, isi_list_tuple_lst, isi_list_tuple_tup, isi_bool_str_non, isi_bool_str_bl, isi_bool_str_int, isi_bool_str_str, isi_bool_str_lst, isi_bool_str_tup])
        refine w_map (fun d => .bool (match d with | .str z => inS (z.cps.getD 0 0) | _ => false)) ?_
        (simp (disch := first | omega | (simp only [List.length_cons, List.length_nil, List.length_append, List.length_map, List.length_take, List.length_drop, List.length_reverse, List.length_set]; omega) | decide) only [wX_ok, wX_exc, wO_some, wO_ite, wIf_true, wIf_false, wIf_not, wF_nx, wF_rt, wF_bk, wF_ct, w_pure, w_bind, w_of, w_m1, w_m2, w_var, w_c, w_truth, w_ite, w_and, w_or, w_not, w_andV, w_orV, w_notV, w_if, w_nil, w_cons, w_tup, w_lst, w_call, w_nx, w_seq, w_drop, w_ret, w_set, w_ifS, w_slot, w_callF, w_callK, w_app2, w_part, w_noPart, w_sl, w_seqOf, w_rng, w_for, w_forL_nil, w_app, w_ixO, w_lenO, w_popAt, w_setIx, w_aug, w_par2, w_par3, w_mbind, w_chain, wX_runF, VL.fill, VL.put, outs, startE, wipeE, backE, bindT_nm, bindT_tt, bindT_tl, bindTs_n, bindTs_c, VL.pick, List.filterMap_cons, List.filterMap_nil, List.map_cons, List.map_nil, List.length_cons, List.length_nil, List.replicate, List.cons_append, List.nil_append, List.getElem?_cons_zero, List.getElem?_cons_succ, List.set_cons_zero, List.set_cons_succ, Option.map_some, Option.bind_some, Option.getD_some, Nat.reduceSub, Nat.reduceAdd, Int.cast_ofNat_Int, Int.reduceLT, Int.reduceLE, Int.reduceNeg, Int.reduceEq, gEq_int, gNe_int, gLt_int, gGt_int, gLe_int, gGe_int, gAdd_int, gSub_int, gMul_l, gMul_r, gMod_int, gFdv_int, gNeg_i, cInt_i, cInt_b, cAbs_i, cLen_l, cLen_t, cTup_l, cTup_t, cLst_l, cLst_t, gIx_l, gIx_t, setI_i, popI_i, gSl_l, gSl_t, gSl_scr, dSeq_l, dSeq_t, dSeq_s, cMin2_i, cMax2_i, cEnum_l, cZip_l, cZip_t, tr_b, tr_i, tr_l, tr_t, tr_n, gIs_n, gIsn_n, isN, lstAt_0, lstAt_s, gAdd_l, gAdd_t, le_sizeP, lt_sizeP, gPow_i, cAll_mb, cAny_mb, w_star, w_tupS, w_lstS, w_star2, dItems_l, dItems_t, gCat_l, starT_c, gRev_ll, gRev_tt, true_and, and_true, Bool.not_true, Bool.not_false, decide_true, decide_false, isi_int_non, isi_int_bl, isi_int_int, isi_int_str, isi_int_lst, isi_int_tup, isi_str_non, isi_str_bl, isi_str_int, isi_str_str, isi_str_lst, isi_str_tup, isi_bool_non, isi_bool_bl, isi_bool_int, isi_bool_str, isi_bool_lst, isi_bool_tup, isi_list_non, isi_list_bl, isi_list_int, isi_list_str, isi_list_lst, isi_list_tup, isi_tuple_non, isi_tuple_bl, isi_tuple_int, isi_tuple_str, isi_tuple_lst, isi_tuple_tup, isi_dict_non, isi_dict_bl, isi_dict_int, isi_dict_str, isi_dict_lst, isi_dict_tup, isi_list_tuple_non, isi_list_tuple_bl, isi_list_tuple_int, isi_list_tuple_str, isi_list_tuple_lst, isi_list_tuple_tup, isi_bool_str_non, isi_bool_str_bl, isi_bool_str_int, isi_bool_str_str, isi_bool_str_lst, isi_bool_str_tup])
        have hlet : s.cps.toList.length ≤ sizeLine := le_size (by show s.length ≤ _; omega)
        refine ⟨by rw [List.length_map]; exact hlet, ?_, ?_⟩
        · intro d hd
          obtain ⟨c, _, rfl⟩ := List.mem_map.mp hd
          (simp (disch := first | omega | (simp only [List.length_cons, List.length_nil, List.length_append, List.length_map, List.length_take, List.length_drop, List.length_reverse, List.length_set]; omega) | decide) only [gIn_let, wX_ok, wX_exc, wO_some, wO_ite, wIf_true, wIf_false, wIf_not, wF_nx, wF_rt, wF_bk, wF_ct, w_pure, w_bind, w_of, w_m1, w_m2, w_var, w_c, w_truth, w_ite, w_and, w_or, w_not, w_andV, w_orV, w_notV, w_if, w_nil, w_cons, w_tup, w_lst, w_call, w_nx, w_seq, w_drop, w_ret, w_set, w_ifS, w_slot, w_callF, w_callK, w_app2, w_part, w_noPart, w_sl, w_seqOf, w_rng, w_for, w_forL_nil, w_app, w_ixO, w_lenO, w_popAt, w_setIx, w_aug, w_par2, w_par3, w_mbind, w_chain, wX_runF, VL.fill, VL.put, outs, startE, wipeE, backE, bindT_nm, bindT_tt, bindT_tl, bindTs_n, bindTs_c, VL.pick, List.filterMap_cons, List.filterMap_nil, List.map_cons, List.map_nil, List.length_cons, List.length_nil, List.replicate, List.cons_append, List.nil_append, List.getElem?_cons_zero, List.getElem?_cons_succ, List.set_cons_zero, List.set_cons_succ, Option.map_some, Option.bind_some, Option.getD_some, Nat.reduceSub, Nat.reduceAdd, Int.cast_ofNat_Int, Int.reduceLT, Int.reduceLE, Int.reduceNeg, Int.reduceEq, gEq_int, gNe_int, gLt_int, gGt_int, gLe_int, gGe_int, gAdd_int, gSub_int, gMul_l, gMul_r, gMod_int, gFdv_int, gNeg_i, cInt_i, cInt_b, cAbs_i, cLen_l, cLen_t, cTup_l, cTup_t, cLst_l, cLst_t, gIx_l, gIx_t, setI_i, popI_i, gSl_l, gSl_t, gSl_scr, dSeq_l, dSeq_t, dSeq_s, cMin2_i, cMax2_i, cEnum_l, cZip_l, cZip_t, tr_b, tr_i, tr_l, tr_t, tr_n, gIs_n, gIsn_n, isN, lstAt_0, lstAt_s, gAdd_l, gAdd_t, le_sizeP, lt_sizeP, gPow_i, cAll_mb, cAny_mb, w_star, w_tupS, w_lstS, w_star2, dItems_l, dItems_t, gCat_l, starT_c, gRev_ll, gRev_tt, true_and, and_true, Bool.not_true, Bool.not_false, decide_true, decide_false, isi_int_non, isi_int_bl, isi_int_int, isi_int_str, isi_int_lst, isi_int_tup, isi_str_non, isi_str_bl, isi_str_int, isi_str_str, isi_str_lst, isi_str_tup, isi_bool_non, isi_bool_bl, isi_bool_int, isi_bool_str, isi_bool_lst, isi_bool_tup, isi_list_non, isi_list_bl, isi_list_int, isi_list_str, isi_list_lst, isi_list_tup, isi_tuple_non, isi_tuple_bl, isi_tuple_int, isi_tuple_str, isi_tuple_lst, isi_tuple_tup, isi_dict_non, isi_dict_bl, isi_dict_int, isi_dict_str, isi_dict_lst, isi_dict_tup, isi_list_tuple_non, isi_list_tuple_bl, isi_list_tuple_int, isi_list_tuple_str, isi_list_tuple_lst, isi_list_tuple_tup, isi_bool_str_non, isi_bool_str_bl, isi_bool_str_int, isi_bool_str_str, isi_bool_str_lst, isi_bool_str_tup])
          rfl
        · rw [List.all_map]
          show _ = (PyData.bool (isNam s), [])
          unfold isNam
          rw [decide_eq_true (by omega : 1 ≤ s.length), decide_eq_true (by omega : s.length ≤ 8)]
          rfl
      · (simp (disch := first | omega | (simp only [List.length_cons, List.length_nil, List.length_append, List.length_map, List.length_take, List.length_drop, List.length_reverse, List.length_set]; omega) | decide) only [wX_ok, wX_exc, wO_some, wO_ite, wIf_true, wIf_false, wIf_not, wF_nx, wF_rt, wF_bk, wF_ct, w_pure, w_bind, w_of, w_m1, w_m2, w_var, w_c, w_truth, w_ite, w_and, w_or, w_not, w_andV, w_orV, w_notV, w_if, w_nil, w_cons, w_tup, w_lst, w_call, w_nx, w_seq, w_drop, w_ret, w_set, w_ifS, w_slot, w_callF, w_callK, w_app2, w_part, w_noPart, w_sl, w_seqOf, w_rng, w_for, w_forL_nil, w_app, w_ixO, w_lenO, w_popAt, w_setIx, w_aug, w_par2, w_par3, w_mbind, w_chain, wX_runF, VL.fill, VL.put, outs, startE, wipeE, backE, bindT_nm, bindT_tt, bindT_tl, bindTs_n, bindTs_c, VL.pick, List.filterMap_cons, List.filterMap_nil, List.map_cons, List.map_nil, List.length_cons, List.length_nil, List.replicate, List.cons_append, List.nil_append, List.getElem?_cons_zero, List.getElem?_cons_succ, List.set_cons_zero, List.set_cons_succ, Option.map_some, Option.bind_some, Option.getD_some, Nat.reduceSub, Nat.reduceAdd, Int.cast_ofNat_Int, Int.reduceLT, Int.reduceLE, Int.reduceNeg, Int.reduceEq, gEq_int, gNe_int, gLt_int, gGt_int, gLe_int, gGe_int, gAdd_int, gSub_int, gMul_l, gMul_r, gMod_int, gFdv_int, gNeg_i, cInt_i, cInt_b, cAbs_i, cLen_l, cLen_t, cTup_l, cTup_t, cLst_l, cLst_t, gIx_l, gIx_t, setI_i, popI_i, gSl_l, gSl_t, gSl_scr, dSeq_l, dSeq_t, dSeq_s, cMin2_i, cMax2_i, cEnum_l, cZip_l, cZip_t, tr_b, tr_i, tr_l, tr_t, tr_n, gIs_n, gIsn_n, isN, lstAt_0, lstAt_s, gAdd_l, gAdd_t, le_sizeP, lt_sizeP, gPow_i, cAll_mb, cAny_mb, w_star, w_tupS, w_lstS, w_star2, dItems_l, dItems_t, gCat_l, starT_c, gRev_ll, gRev_tt, true_and, and_true, Bool.not_true, Bool.not_false, decide_true, decide_false, isi_int_non, isi_int_bl, isi_int_int, isi_int_str, isi_int_lst, isi_int_tup, isi_str_non, isi_str_bl, isi_str_int, isi_str_str, isi_str_lst, isi_str_tup, isi_bool_non, isi_bool_bl, isi_bool_int, isi_bool_str, isi_bool_lst, isi_bool_tup, isi_list_non, isi_list_bl, isi_list_int, isi_list_str, isi_list_lst, isi_list_tup, isi_tuple_non, isi_tuple_bl, isi_tuple_int, isi_tuple_str, isi_tuple_lst, isi_tuple_tup, isi_dict_non, isi_dict_bl, isi_dict_int, isi_dict_str, isi_dict_lst, isi_dict_tup, isi_list_tuple_non, isi_list_tuple_bl, isi_list_tuple_int, isi_list_tuple_str, isi_list_tuple_lst, isi_list_tuple_tup, isi_bool_str_non, isi_bool_str_bl, isi_bool_str_int, isi_bool_str_str, isi_bool_str_lst, isi_bool_str_tup])
        show _ = (PyData.bool (isNam s), [])
        unfold isNam
        rw [decide_eq_false (by omega : ¬ (s.length ≤ 8)), decide_eq_false h2]
        simp
    · (simp (disch := first | omega | (simp only [List.length_cons, List.length_nil, List.length_append, List.length_map, List.length_take, List.length_drop, List.length_reverse, List.length_set]; omega) | decide) only [wX_ok, wX_exc, wO_some, wO_ite, wIf_true, wIf_false, wIf_not, wF_nx, wF_rt, wF_bk, wF_ct, w_pure, w_bind, w_of, w_m1, w_m2, w_var, w_c, w_truth, w_ite, w_and, w_or, w_not, w_andV, w_orV, w_notV, w_if, w_nil, w_cons, w_tup, w_lst, w_call, w_nx, w_seq, w_drop, w_ret, w_set, w_ifS, w_slot, w_callF, w_callK, w_app2, w_part, w_noPart, w_sl, w_seqOf, w_rng, w_for, w_forL_nil, w_app, w_ixO, w_lenO, w_popAt, w_setIx, w_aug, w_par2, w_par3, w_mbind, w_chain, wX_runF, VL.fill, VL.put, outs, startE, wipeE, backE, bindT_nm, bindT_tt, bindT_tl, bindTs_n, bindTs_c, VL.pick, List.filterMap_cons, List.filterMap_nil, List.map_cons, List.map_nil, List.length_cons, List.length_nil, List.replicate, List.cons_append, List.nil_append, List.getElem?_cons_zero, List.getElem?_cons_succ, List.set_cons_zero, List.set_cons_succ, Option.map_some, Option.bind_some, Option.getD_some, Nat.reduceSub, Nat.reduceAdd, Int.cast_ofNat_Int, Int.reduceLT, Int.reduceLE, Int.reduceNeg, Int.reduceEq, gEq_int, gNe_int, gLt_int, gGt_int, gLe_int, gGe_int, gAdd_int, gSub_int, gMul_l, gMul_r, gMod_int, gFdv_int, gNeg_i, cInt_i, cInt_b, cAbs_i, cLen_l, cLen_t, cTup_l, cTup_t, cLst_l, cLst_t, gIx_l, gIx_t, setI_i, popI_i, gSl_l, gSl_t, gSl_scr, dSeq_l, dSeq_t, dSeq_s, cMin2_i, cMax2_i, cEnum_l, cZip_l, cZip_t, tr_b, tr_i, tr_l, tr_t, tr_n, gIs_n, gIsn_n, isN, lstAt_0, lstAt_s, gAdd_l, gAdd_t, le_sizeP, lt_sizeP, gPow_i, cAll_mb, cAny_mb, w_star, w_tupS, w_lstS, w_star2, dItems_l, dItems_t, gCat_l, starT_c, gRev_ll, gRev_tt, true_and, and_true, Bool.not_true, Bool.not_false, decide_true, decide_false, isi_int_non, isi_int_bl, isi_int_int, isi_int_str, isi_int_lst, isi_int_tup, isi_str_non, isi_str_bl, isi_str_int, isi_str_str, isi_str_lst, isi_str_tup, isi_bool_non, isi_bool_bl, isi_bool_int, isi_bool_str, isi_bool_lst, isi_bool_tup, isi_list_non, isi_list_bl, isi_list_int, isi_list_str, isi_list_lst, isi_list_tup, isi_tuple_non, isi_tuple_bl, isi_tuple_int, isi_tuple_str, isi_tuple_lst, isi_tuple_tup, isi_dict_non, isi_dict_bl, isi_dict_int, isi_dict_str, isi_dict_lst, isi_dict_tup, isi_list_tuple_non, isi_list_tuple_bl, isi_list_tuple_int, isi_list_tuple_str, isi_list_tuple_lst, isi_list_tuple_tup, isi_bool_str_non, isi_bool_str_bl, isi_bool_str_int, isi_bool_str_str, isi_bool_str_lst, isi_bool_str_tup])
      show _ = (PyData.bool (isNam s), [])
      unfold isNam
      rw [decide_eq_false (by omega : ¬ (1 ≤ s.length))]
      simp
  | _ => rfl
theorem gEq_str (a b : Str) : gEq (.str a) (.str b) = some (.bool (a == b)) := rfl
theorem gNin_23 (k : Int) : gNin (.int k) (.tuple [.int 2, .int 3]) = some (.bool (!(2 == k || (3 == k || false)))) := rfl
theorem gIn_ml (s : Str) : gIn (.str s) (.list [.str "most", .str "least"]) = some (.bool ("most" == s || ("least" == s || false))) := rfl
def isLim (s : Str) : Bool := "most" == s || ("least" == s || false)
theorem gKin_k (s : Str) : gKin [("most", "least"), ("least", "most")] (.str s) = some (.bool (isLim s)) := by
  show some (PyData.bool _) = _
  unfold isLim
  by_cases h1 : s = "most"
  · subst h1; rfl
  · by_cases h2 : s = "least"
    · subst h2; rfl
    · have e1 : (s == Str.ofString "most") = false := by simpa using h1
      have e2 : (s == Str.ofString "least") = false := by simpa using h2
      have e3 : (Str.ofString "most" == s) = false := by simpa using fun h => h1 h.symm
      have e4 : (Str.ofString "least" == s) = false := by simpa using fun h => h2 h.symm
      rw [e3, e4]
      simp only [List.lookup, e1, e2]
      rfl
def stepB : D → Bool
  | .tuple [.str s, x] => s == "up" && isNum x
  | .tuple [.str s, x, y] => isLim s && (isName x && isNum y)
  | _ => false
theorem at0 {α : Type} (a : α) (l : List α) : L2.atI (a :: l) 0 = some a := by
  have := atI_nat (xs := a :: l) (i := 0) (x := a) rfl
  exact this
theorem at1 {α : Type} (a b : α) (l : List α) : L2.atI (a :: b :: l) 1 = some b := atI_nat (xs := a :: b :: l) (i := 1) (x := b) rfl
theorem at2 {α : Type} (a b c : α) (l : List α) : L2.atI (a :: b :: c :: l) 2 = some c := atI_nat (xs := a :: b :: c :: l) (i := 2) (x := c) rfl
theorem atm2 {α : Type} (a b : α) : L2.atI [a, b] (-1) = some b := rfl
theorem atm3 {α : Type} (a b c : α) : L2.atI [a, b, c] (-1) = some c := rfl
theorem e22 : (2 == (2 : Int)) = true := rfl
theorem e23 : (2 == (3 : Int)) = false := rfl
theorem e33 : (3 == (3 : Int)) = true := rfl
theorem long23 (t : Nat) : gNin (.int ((t + 1 + 1 + 1 + 1 : Nat) : Int)) (.tuple [.int 2, .int 3]) = some (.bool true) := by
  rw [gNin_23]
  have h2 : (2 == ((t + 1 + 1 + 1 + 1 : Nat) : Int)) = false := by simp; omega
  have h3 : (3 == ((t + 1 + 1 + 1 + 1 : Nat) : Int)) = false := by simp; omega
  rw [h2, h3]; rfl
theorem is_step_eq {n : Nat} {d : D} (h : Sz n d) : f_is_step [d] = .ok (.bool (stepB d), []) := by
  cases h with
  | @tup xs hl ha =>
    match xs, ha with
    | [], _ => rfl
    | [a], _ => cases a <;> rfl
    | [a, b], ha =>
      have za := ha a (by simp)
      have zb := ha b (by simp)
      cases za with
      | @str s hs =>
        apply wX_eq
        unfold f_is_step
        (simp (disch := first | omega | (simp only [List.length_cons, List.length_nil, List.length_append, List.length_map, List.length_take, List.length_drop, List.length_reverse, List.length_set]; omega) | decide) only [gNin_23, at0, at1, gEq_str, is_number_eq zb, e22, Bool.true_or, wX_ok, wX_exc, wO_some, wO_ite, wIf_true, wIf_false, wIf_not, wF_nx, wF_rt, wF_bk, wF_ct, w_pure, w_bind, w_of, w_m1, w_m2, w_var, w_c, w_truth, w_ite, w_and, w_or, w_not, w_andV, w_orV, w_notV, w_if, w_nil, w_cons, w_tup, w_lst, w_call, w_nx, w_seq, w_drop, w_ret, w_set, w_ifS, w_slot, w_callF, w_callK, w_app2, w_part, w_noPart, w_sl, w_seqOf, w_rng, w_for, w_forL_nil, w_app, w_ixO, w_lenO, w_popAt, w_setIx, w_aug, w_par2, w_par3, w_mbind, w_chain, wX_runF, VL.fill, VL.put, outs, startE, wipeE, backE, bindT_nm, bindT_tt, bindT_tl, bindTs_n, bindTs_c, VL.pick, List.filterMap_cons, List.filterMap_nil, List.map_cons, List.map_nil, List.length_cons, List.length_nil, List.replicate, List.cons_append, List.nil_append, List.getElem?_cons_zero, List.getElem?_cons_succ, List.set_cons_zero, List.set_cons_succ, Option.map_some, Option.bind_some, Option.getD_some, Nat.reduceSub, Nat.reduceAdd, Int.cast_ofNat_Int, Int.reduceLT, Int.reduceLE, Int.reduceNeg, Int.reduceEq, gEq_int, gNe_int, gLt_int, gGt_int, gLe_int, gGe_int, gAdd_int, gSub_int, gMul_l, gMul_r, gMod_int, gFdv_int, gNeg_i, cInt_i, cInt_b, cAbs_i, cLen_l, cLen_t, cTup_l, cTup_t, cLst_l, cLst_t, gIx_l, gIx_t, setI_i, popI_i, gSl_l, gSl_t, gSl_scr, dSeq_l, dSeq_t, dSeq_s, cMin2_i, cMax2_i, cEnum_l, cZip_l, cZip_t, tr_b, tr_i, tr_l, tr_t, tr_n, gIs_n, gIsn_n, isN, lstAt_0, lstAt_s, gAdd_l, gAdd_t, le_sizeP, lt_sizeP, gPow_i, cAll_mb, cAny_mb, w_star, w_tupS, w_lstS, w_star2, dItems_l, dItems_t, gCat_l, starT_c, gRev_ll, gRev_tt, true_and, and_true, Bool.not_true, Bool.not_false, decide_true, decide_false, isi_int_non, isi_int_bl, isi_int_int, isi_int_str, isi_int_lst, isi_int_tup, isi_str_non, isi_str_bl, isi_str_int, isi_str_str, isi_str_lst, isi_str_tup, isi_bool_non, isi_bool_bl, isi_bool_int, isi_bool_str, isi_bool_lst, isi_bool_tup, isi_list_non, isi_list_bl, isi_list_int, isi_list_str, isi_list_lst, isi_list_tup, isi_tuple_non, isi_tuple_bl, isi_tuple_int, isi_tuple_str, isi_tuple_lst, isi_tuple_tup, isi_dict_non, isi_dict_bl, isi_dict_int, isi_dict_str, isi_dict_lst, isi_dict_tup, isi_list_tuple_non, isi_list_tuple_bl, isi_list_tuple_int, isi_list_tuple_str, isi_list_tuple_lst, isi_list_tuple_tup, isi_bool_str_non, isi_bool_str_bl, isi_bool_str_int, isi_bool_str_str, isi_bool_str_lst, isi_bool_str_tup])
        refine wIf_in (fun h => ?_) fun h => ?_
        · (simp (disch := first | omega | (simp only [List.length_cons, List.length_nil, List.length_append, List.length_map, List.length_take, List.length_drop, List.length_reverse, List.length_set]; omega) | decide) only [is_number_eq zb, at1, wX_ok, wX_exc, wO_some, wO_ite, wIf_true, wIf_false, wIf_not, wF_nx, wF_rt, wF_bk, wF_ct, w_pure, w_bind, w_of, w_m1, w_m2, w_var, w_c, w_truth, w_ite, w_and, w_or, w_not, w_andV, w_orV, w_notV, w_if, w_nil, w_cons, w_tup, w_lst, w_call, w_nx, w_seq, w_drop, w_ret, w_set, w_ifS, w_slot, w_callF, w_callK, w_app2, w_part, w_noPart, w_sl, w_seqOf, w_rng, w_for, w_forL_nil, w_app, w_ixO, w_lenO, w_popAt, w_setIx, w_aug, w_par2, w_par3, w_mbind, w_chain, wX_runF, VL.fill, VL.put, outs, startE, wipeE, backE, bindT_nm, bindT_tt, bindT_tl, bindTs_n, bindTs_c, VL.pick, List.filterMap_cons, List.filterMap_nil, List.map_cons, List.map_nil, List.length_cons, List.length_nil, List.replicate, List.cons_append, List.nil_append, List.getElem?_cons_zero, List.getElem?_cons_succ, List.set_cons_zero, List.set_cons_succ, Option.map_some, Option.bind_some, Option.getD_some, Nat.reduceSub, Nat.reduceAdd, Int.cast_ofNat_Int, Int.reduceLT, Int.reduceLE, Int.reduceNeg, Int.reduceEq, gEq_int, gNe_int, gLt_int, gGt_int, gLe_int, gGe_int, gAdd_int, gSub_int, gMul_l, gMul_r, gMod_int, gFdv_int, gNeg_i, cInt_i, cInt_b, cAbs_i, cLen_l, cLen_t, cTup_l, cTup_t, cLst_l, cLst_t, gIx_l, gIx_t, setI_i, popI_i, gSl_l, gSl_t, gSl_scr, dSeq_l, dSeq_t, dSeq_s, cMin2_i, cMax2_i, cEnum_l, cZip_l, cZip_t, tr_b, tr_i, tr_l, tr_t, tr_n, gIs_n, gIsn_n, isN, lstAt_0, lstAt_s, gAdd_l, gAdd_t, le_sizeP, lt_sizeP, gPow_i, cAll_mb, cAny_mb, w_star, w_tupS, w_lstS, w_star2, dItems_l, dItems_t, gCat_l, starT_c, gRev_ll, gRev_tt, true_and, and_true, Bool.not_true, Bool.not_false, decide_true, decide_false, isi_int_non, isi_int_bl, isi_int_int, isi_int_str, isi_int_lst, isi_int_tup, isi_str_non, isi_str_bl, isi_str_int, isi_str_str, isi_str_lst, isi_str_tup, isi_bool_non, isi_bool_bl, isi_bool_int, isi_bool_str, isi_bool_lst, isi_bool_tup, isi_list_non, isi_list_bl, isi_list_int, isi_list_str, isi_list_lst, isi_list_tup, isi_tuple_non, isi_tuple_bl, isi_tuple_int, isi_tuple_str, isi_tuple_lst, isi_tuple_tup, isi_dict_non, isi_dict_bl, isi_dict_int, isi_dict_str, isi_dict_lst, isi_dict_tup, isi_list_tuple_non, isi_list_tuple_bl, isi_list_tuple_int, isi_list_tuple_str, isi_list_tuple_lst, isi_list_tuple_tup, isi_bool_str_non, isi_bool_str_bl, isi_bool_str_int, isi_bool_str_str, isi_bool_str_lst, isi_bool_str_tup])
          show _ = (PyData.bool (s == "up" && isNum b), [])
          rw [h]; rfl
        · (simp (disch := first | omega | (simp only [List.length_cons, List.length_nil, List.length_append, List.length_map, List.length_take, List.length_drop, List.length_reverse, List.length_set]; omega) | decide) only [wX_ok, wX_exc, wO_some, wO_ite, wIf_true, wIf_false, wIf_not, wF_nx, wF_rt, wF_bk, wF_ct, w_pure, w_bind, w_of, w_m1, w_m2, w_var, w_c, w_truth, w_ite, w_and, w_or, w_not, w_andV, w_orV, w_notV, w_if, w_nil, w_cons, w_tup, w_lst, w_call, w_nx, w_seq, w_drop, w_ret, w_set, w_ifS, w_slot, w_callF, w_callK, w_app2, w_part, w_noPart, w_sl, w_seqOf, w_rng, w_for, w_forL_nil, w_app, w_ixO, w_lenO, w_popAt, w_setIx, w_aug, w_par2, w_par3, w_mbind, w_chain, wX_runF, VL.fill, VL.put, outs, startE, wipeE, backE, bindT_nm, bindT_tt, bindT_tl, bindTs_n, bindTs_c, VL.pick, List.filterMap_cons, List.filterMap_nil, List.map_cons, List.map_nil, List.length_cons, List.length_nil, List.replicate, List.cons_append, List.nil_append, List.getElem?_cons_zero, List.getElem?_cons_succ, List.set_cons_zero, List.set_cons_succ, Option.map_some, Option.bind_some, Option.getD_some, Nat.reduceSub, Nat.reduceAdd, Int.cast_ofNat_Int, Int.reduceLT, Int.reduceLE, Int.reduceNeg, Int.reduceEq, gEq_int, gNe_int, gLt_int, gGt_int, gLe_int, gGe_int, gAdd_int, gSub_int, gMul_l, gMul_r, gMod_int, gFdv_int, gNeg_i, cInt_i, cInt_b, cAbs_i, cLen_l, cLen_t, cTup_l, cTup_t, cLst_l, cLst_t, gIx_l, gIx_t, setI_i, popI_i, gSl_l, gSl_t, gSl_scr, dSeq_l, dSeq_t, dSeq_s, cMin2_i, cMax2_i, cEnum_l, cZip_l, cZip_t, tr_b, tr_i, tr_l, tr_t, tr_n, gIs_n, gIsn_n, isN, lstAt_0, lstAt_s, gAdd_l, gAdd_t, le_sizeP, lt_sizeP, gPow_i, cAll_mb, cAny_mb, w_star, w_tupS, w_lstS, w_star2, dItems_l, dItems_t, gCat_l, starT_c, gRev_ll, gRev_tt, true_and, and_true, Bool.not_true, Bool.not_false, decide_true, decide_false, isi_int_non, isi_int_bl, isi_int_int, isi_int_str, isi_int_lst, isi_int_tup, isi_str_non, isi_str_bl, isi_str_int, isi_str_str, isi_str_lst, isi_str_tup, isi_bool_non, isi_bool_bl, isi_bool_int, isi_bool_str, isi_bool_lst, isi_bool_tup, isi_list_non, isi_list_bl, isi_list_int, isi_list_str, isi_list_lst, isi_list_tup, isi_tuple_non, isi_tuple_bl, isi_tuple_int, isi_tuple_str, isi_tuple_lst, isi_tuple_tup, isi_dict_non, isi_dict_bl, isi_dict_int, isi_dict_str, isi_dict_lst, isi_dict_tup, isi_list_tuple_non, isi_list_tuple_bl, isi_list_tuple_int, isi_list_tuple_str, isi_list_tuple_lst, isi_list_tuple_tup, isi_bool_str_non, isi_bool_str_bl, isi_bool_str_int, isi_bool_str_str, isi_bool_str_lst, isi_bool_str_tup])
          show _ = (PyData.bool (s == "up" && isNum b), [])
          rw [h]; rfl
      | _ => rfl
    | [a, b, c], ha =>
      have za := ha a (by simp)
      have zb := ha b (by simp)
      have zc := ha c (by simp)
      cases za with
      | @str s hs =>
        apply wX_eq
        unfold f_is_step
        (simp (disch := first | omega | (simp only [List.length_cons, List.length_nil, List.length_append, List.length_map, List.length_take, List.length_drop, List.length_reverse, List.length_set]; omega) | decide) only [gNin_23, at0, at1, at2, gKin_k, e23, e33, Bool.true_or, Bool.false_or, wX_ok, wX_exc, wO_some, wO_ite, wIf_true, wIf_false, wIf_not, wF_nx, wF_rt, wF_bk, wF_ct, w_pure, w_bind, w_of, w_m1, w_m2, w_var, w_c, w_truth, w_ite, w_and, w_or, w_not, w_andV, w_orV, w_notV, w_if, w_nil, w_cons, w_tup, w_lst, w_call, w_nx, w_seq, w_drop, w_ret, w_set, w_ifS, w_slot, w_callF, w_callK, w_app2, w_part, w_noPart, w_sl, w_seqOf, w_rng, w_for, w_forL_nil, w_app, w_ixO, w_lenO, w_popAt, w_setIx, w_aug, w_par2, w_par3, w_mbind, w_chain, wX_runF, VL.fill, VL.put, outs, startE, wipeE, backE, bindT_nm, bindT_tt, bindT_tl, bindTs_n, bindTs_c, VL.pick, List.filterMap_cons, List.filterMap_nil, List.map_cons, List.map_nil, List.length_cons, List.length_nil, List.replicate, List.cons_append, List.nil_append, List.getElem?_cons_zero, List.getElem?_cons_succ, List.set_cons_zero, List.set_cons_succ, Option.map_some, Option.bind_some, Option.getD_some, Nat.reduceSub, Nat.reduceAdd, Int.cast_ofNat_Int, Int.reduceLT, Int.reduceLE, Int.reduceNeg, Int.reduceEq, gEq_int, gNe_int, gLt_int, gGt_int, gLe_int, gGe_int, gAdd_int, gSub_int, gMul_l, gMul_r, gMod_int, gFdv_int, gNeg_i, cInt_i, cInt_b, cAbs_i, cLen_l, cLen_t, cTup_l, cTup_t, cLst_l, cLst_t, gIx_l, gIx_t, setI_i, popI_i, gSl_l, gSl_t, gSl_scr, dSeq_l, dSeq_t, dSeq_s, cMin2_i, cMax2_i, cEnum_l, cZip_l, cZip_t, tr_b, tr_i, tr_l, tr_t, tr_n, gIs_n, gIsn_n, isN, lstAt_0, lstAt_s, gAdd_l, gAdd_t, le_sizeP, lt_sizeP, gPow_i, cAll_mb, cAny_mb, w_star, w_tupS, w_lstS, w_star2, dItems_l, dItems_t, gCat_l, starT_c, gRev_ll, gRev_tt, true_and, and_true, Bool.not_true, Bool.not_false, decide_true, decide_false, isi_int_non, isi_int_bl, isi_int_int, isi_int_str, isi_int_lst, isi_int_tup, isi_str_non, isi_str_bl, isi_str_int, isi_str_str, isi_str_lst, isi_str_tup, isi_bool_non, isi_bool_bl, isi_bool_int, isi_bool_str, isi_bool_lst, isi_bool_tup, isi_list_non, isi_list_bl, isi_list_int, isi_list_str, isi_list_lst, isi_list_tup, isi_tuple_non, isi_tuple_bl, isi_tuple_int, isi_tuple_str, isi_tuple_lst, isi_tuple_tup, isi_dict_non, isi_dict_bl, isi_dict_int, isi_dict_str, isi_dict_lst, isi_dict_tup, isi_list_tuple_non, isi_list_tuple_bl, isi_list_tuple_int, isi_list_tuple_str, isi_list_tuple_lst, isi_list_tuple_tup, isi_bool_str_non, isi_bool_str_bl, isi_bool_str_int, isi_bool_str_str, isi_bool_str_lst, isi_bool_str_tup])
        refine wIf_in (fun h => ?_) fun h => ?_
        · (simp (disch := first | omega | (simp only [List.length_cons, List.length_nil, List.length_append, List.length_map, List.length_take, List.length_drop, List.length_reverse, List.length_set]; omega) | decide) only [is_name_eq zb, at1, wX_ok, wX_exc, wO_some, wO_ite, wIf_true, wIf_false, wIf_not, wF_nx, wF_rt, wF_bk, wF_ct, w_pure, w_bind, w_of, w_m1, w_m2, w_var, w_c, w_truth, w_ite, w_and, w_or, w_not, w_andV, w_orV, w_notV, w_if, w_nil, w_cons, w_tup, w_lst, w_call, w_nx, w_seq, w_drop, w_ret, w_set, w_ifS, w_slot, w_callF, w_callK, w_app2, w_part, w_noPart, w_sl, w_seqOf, w_rng, w_for, w_forL_nil, w_app, w_ixO, w_lenO, w_popAt, w_setIx, w_aug, w_par2, w_par3, w_mbind, w_chain, wX_runF, VL.fill, VL.put, outs, startE, wipeE, backE, bindT_nm, bindT_tt, bindT_tl, bindTs_n, bindTs_c, VL.pick, List.filterMap_cons, List.filterMap_nil, List.map_cons, List.map_nil, List.length_cons, List.length_nil, List.replicate, List.cons_append, List.nil_append, List.getElem?_cons_zero, List.getElem?_cons_succ, List.set_cons_zero, List.set_cons_succ, Option.map_some, Option.bind_some, Option.getD_some, Nat.reduceSub, Nat.reduceAdd, Int.cast_ofNat_Int, Int.reduceLT, Int.reduceLE, Int.reduceNeg, Int.reduceEq, gEq_int, gNe_int, gLt_int, gGt_int, gLe_int, gGe_int, gAdd_int, gSub_int, gMul_l, gMul_r, gMod_int, gFdv_int, gNeg_i, cInt_i, cInt_b, cAbs_i, cLen_l, cLen_t, cTup_l, cTup_t, cLst_l, cLst_t, gIx_l, gIx_t, setI_i, popI_i, gSl_l, gSl_t, gSl_scr, dSeq_l, dSeq_t, dSeq_s, cMin2_i, cMax2_i, cEnum_l, cZip_l, cZip_t, tr_b, tr_i, tr_l, tr_t, tr_n, gIs_n, gIsn_n, isN, lstAt_0, lstAt_s, gAdd_l, gAdd_t, le_sizeP, lt_sizeP, gPow_i, cAll_mb, cAny_mb, w_star, w_tupS, w_lstS, w_star2, dItems_l, dItems_t, gCat_l, starT_c, gRev_ll, gRev_tt, true_and, and_true, Bool.not_true, Bool.not_false, decide_true, decide_false, isi_int_non, isi_int_bl, isi_int_int, isi_int_str, isi_int_lst, isi_int_tup, isi_str_non, isi_str_bl, isi_str_int, isi_str_str, isi_str_lst, isi_str_tup, isi_bool_non, isi_bool_bl, isi_bool_int, isi_bool_str, isi_bool_lst, isi_bool_tup, isi_list_non, isi_list_bl, isi_list_int, isi_list_str, isi_list_lst, isi_list_tup, isi_tuple_non, isi_tuple_bl, isi_tuple_int, isi_tuple_str, isi_tuple_lst, isi_tuple_tup, isi_dict_non, isi_dict_bl, isi_dict_int, isi_dict_str, isi_dict_lst, isi_dict_tup, isi_list_tuple_non, isi_list_tuple_bl, isi_list_tuple_int, isi_list_tuple_str, isi_list_tuple_lst, isi_list_tuple_tup, isi_bool_str_non, isi_bool_str_bl, isi_bool_str_int, isi_bool_str_str, isi_bool_str_lst, isi_bool_str_tup])
          refine wIf_in (fun h2 => ?_) fun h2 => ?_
          · (simp (disch := first | omega | (simp only [List.length_cons, List.length_nil, List.length_append, List.length_map, List.length_take, List.length_drop, List.length_reverse, List.length_set]; omega) | decide) only [is_number_eq zc, at2, wX_ok, wX_exc, wO_some, wO_ite, wIf_true, wIf_false, wIf_not, wF_nx, wF_rt, wF_bk, wF_ct, w_pure, w_bind, w_of, w_m1, w_m2, w_var, w_c, w_truth, w_ite, w_and, w_or, w_not, w_andV, w_orV, w_notV, w_if, w_nil, w_cons, w_tup, w_lst, w_call, w_nx, w_seq, w_drop, w_ret, w_set, w_ifS, w_slot, w_callF, w_callK, w_app2, w_part, w_noPart, w_sl, w_seqOf, w_rng, w_for, w_forL_nil, w_app, w_ixO, w_lenO, w_popAt, w_setIx, w_aug, w_par2, w_par3, w_mbind, w_chain, wX_runF, VL.fill, VL.put, outs, startE, wipeE, backE, bindT_nm, bindT_tt, bindT_tl, bindTs_n, bindTs_c, VL.pick, List.filterMap_cons, List.filterMap_nil, List.map_cons, List.map_nil, List.length_cons, List.length_nil, List.replicate, List.cons_append, List.nil_append, List.getElem?_cons_zero, List.getElem?_cons_succ, List.set_cons_zero, List.set_cons_succ, Option.map_some, Option.bind_some, Option.getD_some, Nat.reduceSub, Nat.reduceAdd, Int.cast_ofNat_Int, Int.reduceLT, Int.reduceLE, Int.reduceNeg, Int.reduceEq, gEq_int, gNe_int, gLt_int, gGt_int, gLe_int, gGe_int, gAdd_int, gSub_int, gMul_l, gMul_r, gMod_int, gFdv_int, gNeg_i, cInt_i, cInt_b, cAbs_i, cLen_l, cLen_t, cTup_l, cTup_t, cLst_l, cLst_t, gIx_l, gIx_t, setI_i, popI_i, gSl_l, gSl_t, gSl_scr, dSeq_l, dSeq_t, dSeq_s, cMin2_i, cMax2_i, cEnum_l, cZip_l, cZip_t, tr_b, tr_i, tr_l, tr_t, tr_n, gIs_n, gIsn_n, isN, lstAt_0, lstAt_s, gAdd_l, gAdd_t, le_sizeP, lt_sizeP, gPow_i, cAll_mb, cAny_mb, w_star, w_tupS, w_lstS, w_star2, dItems_l, dItems_t, gCat_l, starT_c, gRev_ll, gRev_tt, true_and, and_true, Bool.not_true, Bool.not_false, decide_true, decide_false, isi_int_non, isi_int_bl, isi_int_int, isi_int_str, isi_int_lst, isi_int_tup, isi_str_non, isi_str_bl, isi_str_int, isi_str_str, isi_str_lst, isi_str_tup, isi_bool_non, isi_bool_bl, isi_bool_int, isi_bool_str, isi_bool_lst, isi_bool_tup, isi_list_non, isi_list_bl, isi_list_int, isi_list_str, isi_list_lst, isi_list_tup, isi_tuple_non, isi_tuple_bl, isi_tuple_int, isi_tuple_str, isi_tuple_lst, isi_tuple_tup, isi_dict_non, isi_dict_bl, isi_dict_int, isi_dict_str, isi_dict_lst, isi_dict_tup, isi_list_tuple_non, isi_list_tuple_bl, isi_list_tuple_int, isi_list_tuple_str, isi_list_tuple_lst, isi_list_tuple_tup, isi_bool_str_non, isi_bool_str_bl, isi_bool_str_int, isi_bool_str_str, isi_bool_str_lst, isi_bool_str_tup])
            show _ = (PyData.bool (isLim s && (isName b && isNum c)), [])
            rw [h, h2]; rfl
          · (simp (disch := first | omega | (simp only [List.length_cons, List.length_nil, List.length_append, List.length_map, List.length_take, List.length_drop, List.length_reverse, List.length_set]; omega) | decide) only [wX_ok, wX_exc, wO_some, wO_ite, wIf_true, wIf_false, wIf_not, wF_nx, wF_rt, wF_bk, wF_ct, w_pure, w_bind, w_of, w_m1, w_m2, w_var, w_c, w_truth, w_ite, w_and, w_or, w_not, w_andV, w_orV, w_notV, w_if, w_nil, w_cons, w_tup, w_lst, w_call, w_nx, w_seq, w_drop, w_ret, w_set, w_ifS, w_slot, w_callF, w_callK, w_app2, w_part, w_noPart, w_sl, w_seqOf, w_rng, w_for, w_forL_nil, w_app, w_ixO, w_lenO, w_popAt, w_setIx, w_aug, w_par2, w_par3, w_mbind, w_chain, wX_runF, VL.fill, VL.put, outs, startE, wipeE, backE, bindT_nm, bindT_tt, bindT_tl, bindTs_n, bindTs_c, VL.pick, List.filterMap_cons, List.filterMap_nil, List.map_cons, List.map_nil, List.length_cons, List.length_nil, List.replicate, List.cons_append, List.nil_append, List.getElem?_cons_zero, List.getElem?_cons_succ, List.set_cons_zero, List.set_cons_succ, Option.map_some, Option.bind_some, Option.getD_some, Nat.reduceSub, Nat.reduceAdd, Int.cast_ofNat_Int, Int.reduceLT, Int.reduceLE, Int.reduceNeg, Int.reduceEq, gEq_int, gNe_int, gLt_int, gGt_int, gLe_int, gGe_int, gAdd_int, gSub_int, gMul_l, gMul_r, gMod_int, gFdv_int, gNeg_i, cInt_i, cInt_b, cAbs_i, cLen_l, cLen_t, cTup_l, cTup_t, cLst_l, cLst_t, gIx_l, gIx_t, setI_i, popI_i, gSl_l, gSl_t, gSl_scr, dSeq_l, dSeq_t, dSeq_s, cMin2_i, cMax2_i, cEnum_l, cZip_l, cZip_t, tr_b, tr_i, tr_l, tr_t, tr_n, gIs_n, gIsn_n, isN, lstAt_0, lstAt_s, gAdd_l, gAdd_t, le_sizeP, lt_sizeP, gPow_i, cAll_mb, cAny_mb, w_star, w_tupS, w_lstS, w_star2, dItems_l, dItems_t, gCat_l, starT_c, gRev_ll, gRev_tt, true_and, and_true, Bool.not_true, Bool.not_false, decide_true, decide_false, isi_int_non, isi_int_bl, isi_int_int, isi_int_str, isi_int_lst, isi_int_tup, isi_str_non, isi_str_bl, isi_str_int, isi_str_str, isi_str_lst, isi_str_tup, isi_bool_non, isi_bool_bl, isi_bool_int, isi_bool_str, isi_bool_lst, isi_bool_tup, isi_list_non, isi_list_bl, isi_list_int, isi_list_str, isi_list_lst, isi_list_tup, isi_tuple_non, isi_tuple_bl, isi_tuple_int, isi_tuple_str, isi_tuple_lst, isi_tuple_tup, isi_dict_non, isi_dict_bl, isi_dict_int, isi_dict_str, isi_dict_lst, isi_dict_tup, isi_list_tuple_non, isi_list_tuple_bl, isi_list_tuple_int, isi_list_tuple_str, isi_list_tuple_lst, isi_list_tuple_tup, isi_bool_str_non, isi_bool_str_bl, isi_bool_str_int, isi_bool_str_str, isi_bool_str_lst, isi_bool_str_tup])
            show _ = (PyData.bool (isLim s && (isName b && isNum c)), [])
            rw [h, h2]; rfl
        · (simp (disch := first | omega | (simp only [List.length_cons, List.length_nil, List.length_append, List.length_map, List.length_take, List.length_drop, List.length_reverse, List.length_set]; omega) | decide) only [wX_ok, wX_exc, wO_some, wO_ite, wIf_true, wIf_false, wIf_not, wF_nx, wF_rt, wF_bk, wF_ct, w_pure, w_bind, w_of, w_m1, w_m2, w_var, w_c, w_truth, w_ite, w_and, w_or, w_not, w_andV, w_orV, w_notV, w_if, w_nil, w_cons, w_tup, w_lst, w_call, w_nx, w_seq, w_drop, w_ret, w_set, w_ifS, w_slot, w_callF, w_callK, w_app2, w_part, w_noPart, w_sl, w_seqOf, w_rng, w_for, w_forL_nil, w_app, w_ixO, w_lenO, w_popAt, w_setIx, w_aug, w_par2, w_par3, w_mbind, w_chain, wX_runF, VL.fill, VL.put, outs, startE, wipeE, backE, bindT_nm, bindT_tt, bindT_tl, bindTs_n, bindTs_c, VL.pick, List.filterMap_cons, List.filterMap_nil, List.map_cons, List.map_nil, List.length_cons, List.length_nil, List.replicate, List.cons_append, List.nil_append, List.getElem?_cons_zero, List.getElem?_cons_succ, List.set_cons_zero, List.set_cons_succ, Option.map_some, Option.bind_some, Option.getD_some, Nat.reduceSub, Nat.reduceAdd, Int.cast_ofNat_Int, Int.reduceLT, Int.reduceLE, Int.reduceNeg, Int.reduceEq, gEq_int, gNe_int, gLt_int, gGt_int, gLe_int, gGe_int, gAdd_int, gSub_int, gMul_l, gMul_r, gMod_int, gFdv_int, gNeg_i, cInt_i, cInt_b, cAbs_i, cLen_l, cLen_t, cTup_l, cTup_t, cLst_l, cLst_t, gIx_l, gIx_t, setI_i, popI_i, gSl_l, gSl_t, gSl_scr, dSeq_l, dSeq_t, dSeq_s, cMin2_i, cMax2_i, cEnum_l, cZip_l, cZip_t, tr_b, tr_i, tr_l, tr_t, tr_n, gIs_n, gIsn_n, isN, lstAt_0, lstAt_s, gAdd_l, gAdd_t, le_sizeP, lt_sizeP, gPow_i, cAll_mb, cAny_mb, w_star, w_tupS, w_lstS, w_star2, dItems_l, dItems_t, gCat_l, starT_c, gRev_ll, gRev_tt, true_and, and_true, Bool.not_true, Bool.not_false, decide_true, decide_false, isi_int_non, isi_int_bl, isi_int_int, isi_int_str, isi_int_lst, isi_int_tup, isi_str_non, isi_str_bl, isi_str_int, isi_str_str, isi_str_lst, isi_str_tup, isi_bool_non, isi_bool_bl, isi_bool_int, isi_bool_str, isi_bool_lst, isi_bool_tup, isi_list_non, isi_list_bl, isi_list_int, isi_list_str, isi_list_lst, isi_list_tup, isi_tuple_non, isi_tuple_bl, isi_tuple_int, isi_tuple_str, isi_tuple_lst, isi_tuple_tup, isi_dict_non, isi_dict_bl, isi_dict_int, isi_dict_str, isi_dict_lst, isi_dict_tup, isi_list_tuple_non, isi_list_tuple_bl, isi_list_tuple_int, isi_list_tuple_str, isi_list_tuple_lst, isi_list_tuple_tup, isi_bool_str_non, isi_bool_str_bl, isi_bool_str_int, isi_bool_str_str, isi_bool_str_lst, isi_bool_str_tup])
          show _ = (PyData.bool (isLim s && (isName b && isNum c)), [])
          rw [h]; rfl
      | _ => rfl
    | a :: b :: c :: e :: t, ha =>
      apply wX_eq
      unfold f_is_step
      (simp (disch := first | omega | (simp only [List.length_cons, List.length_nil, List.length_append, List.length_map, List.length_take, List.length_drop, List.length_reverse, List.length_set]; omega) | decide) only [long23, wX_ok, wX_exc, wO_some, wO_ite, wIf_true, wIf_false, wIf_not, wF_nx, wF_rt, wF_bk, wF_ct, w_pure, w_bind, w_of, w_m1, w_m2, w_var, w_c, w_truth, w_ite, w_and, w_or, w_not, w_andV, w_orV, w_notV, w_if, w_nil, w_cons, w_tup, w_lst, w_call, w_nx, w_seq, w_drop, w_ret, w_set, w_ifS, w_slot, w_callF, w_callK, w_app2, w_part, w_noPart, w_sl, w_seqOf, w_rng, w_for, w_forL_nil, w_app, w_ixO, w_lenO, w_popAt, w_setIx, w_aug, w_par2, w_par3, w_mbind, w_chain, wX_runF, VL.fill, VL.put, outs, startE, wipeE, backE, bindT_nm, bindT_tt, bindT_tl, bindTs_n, bindTs_c, VL.pick, List.filterMap_cons, List.filterMap_nil, List.map_cons, List.map_nil, List.length_cons, List.length_nil, List.replicate, List.cons_append, List.nil_append, List.getElem?_cons_zero, List.getElem?_cons_succ, List.set_cons_zero, List.set_cons_succ, Option.map_some, Option.bind_some, Option.getD_some, Nat.reduceSub, Nat.reduceAdd, Int.cast_ofNat_Int, Int.reduceLT, Int.reduceLE, Int.reduceNeg, Int.reduceEq, gEq_int, gNe_int, gLt_int, gGt_int, gLe_int, gGe_int, gAdd_int, gSub_int, gMul_l, gMul_r, gMod_int, gFdv_int, gNeg_i, cInt_i, cInt_b, cAbs_i, cLen_l, cLen_t, cTup_l, cTup_t, cLst_l, cLst_t, gIx_l, gIx_t, setI_i, popI_i, gSl_l, gSl_t, gSl_scr, dSeq_l, dSeq_t, dSeq_s, cMin2_i, cMax2_i, cEnum_l, cZip_l, cZip_t, tr_b, tr_i, tr_l, tr_t, tr_n, gIs_n, gIsn_n, isN, lstAt_0, lstAt_s, gAdd_l, gAdd_t, le_sizeP, lt_sizeP, gPow_i, cAll_mb, cAny_mb, w_star, w_tupS, w_lstS, w_star2, dItems_l, dItems_t, gCat_l, starT_c, gRev_ll, gRev_tt, true_and, and_true, Bool.not_true, Bool.not_false, decide_true, decide_false, isi_int_non, isi_int_bl, isi_int_int, isi_int_str, isi_int_lst, isi_int_tup, isi_str_non, isi_str_bl, isi_str_int, isi_str_str, isi_str_lst, isi_str_tup, isi_bool_non, isi_bool_bl, isi_bool_int, isi_bool_str, isi_bool_lst, isi_bool_tup, isi_list_non, isi_list_bl, isi_list_int, isi_list_str, isi_list_lst, isi_list_tup, isi_tuple_non, isi_tuple_bl, isi_tuple_int, isi_tuple_str, isi_tuple_lst, isi_tuple_tup, isi_dict_non, isi_dict_bl, isi_dict_int, isi_dict_str, isi_dict_lst, isi_dict_tup, isi_list_tuple_non, isi_list_tuple_bl, isi_list_tuple_int, isi_list_tuple_str, isi_list_tuple_lst, isi_list_tuple_tup, isi_bool_str_non, isi_bool_str_bl, isi_bool_str_int, isi_bool_str_str, isi_bool_str_lst, isi_bool_str_tup])
      cases a <;> rfl
  | _ => rfl
def listB : D → Bool
  | .tuple xs => xs.all stepB
  | _ => false
theorem is_list_eq {n : Nat} (hn : n ≤ 1000) {d : D} (h : Sz n d) : f_is_list [d] = .ok (.bool (listB d), []) := by
  cases h with
  | @tup xs hl ha =>
    apply wX_eq
    unfold f_is_list
    (simp (disch := first | omega | (simp only [List.length_cons, List.length_nil, List.length_append, List.length_map, List.length_take, List.length_drop, List.length_reverse, List.length_set]; omega) | decide) only [wX_ok, wX_exc, wO_some, wO_ite, wIf_true, wIf_false, wIf_not, wF_nx, wF_rt, wF_bk, wF_ct, w_pure, w_bind, w_of, w_m1, w_m2, w_var, w_c, w_truth, w_ite, w_and, w_or, w_not, w_andV, w_orV, w_notV, w_if, w_nil, w_cons, w_tup, w_lst, w_call, w_nx, w_seq, w_drop, w_ret, w_set, w_ifS, w_slot, w_callF, w_callK, w_app2, w_part, w_noPart, w_sl, w_seqOf, w_rng, w_for, w_forL_nil, w_app, w_ixO, w_lenO, w_popAt, w_setIx, w_aug, w_par2, w_par3, w_mbind, w_chain, wX_runF, VL.fill, VL.put, outs, startE, wipeE, backE, bindT_nm, bindT_tt, bindT_tl, bindTs_n, bindTs_c, VL.pick, List.filterMap_cons, List.filterMap_nil, List.map_cons, List.map_nil, List.length_cons, List.length_nil, List.replicate, List.cons_append, List.nil_append, List.getElem?_cons_zero, List.getElem?_cons_succ, List.set_cons_zero, List.set_cons_succ, Option.map_some, Option.bind_some, Option.getD_some, Nat.reduceSub, Nat.reduceAdd, Int.cast_ofNat_Int, Int.reduceLT, Int.reduceLE, Int.reduceNeg, Int.reduceEq, gEq_int, gNe_int, gLt_int, gGt_int, gLe_int, gGe_int, gAdd_int, gSub_int, gMul_l, gMul_r, gMod_int, gFdv_int, gNeg_i, cInt_i, cInt_b, cAbs_i, cLen_l, cLen_t, cTup_l, cTup_t, cLst_l, cLst_t, gIx_l, gIx_t, setI_i, popI_i, gSl_l, gSl_t, gSl_scr, dSeq_l, dSeq_t, dSeq_s, cMin2_i, cMax2_i, cEnum_l, cZip_l, cZip_t, tr_b, tr_i, tr_l, tr_t, tr_n, gIs_n, gIsn_n, isN, lstAt_0, lstAt_s, gAdd_l, gAdd_t, le_sizeP, lt_sizeP, gPow_i, cAll_mb, cAny_mb, w_star, w_tupS, w_lstS, w_star2, dItems_l, dItems_t, gCat_l, starT_c, gRev_ll, gRev_tt, true_and, and_true, Bool.not_true, Bool.not_false, decide_true, decide_false, isi_int_non, isi_int_bl, isi_int_int, isi_int_str, isi_int_lst, isi_int_tup, isi_str_non, isi_str_bl, isi_str_int, isi_str_str, isi_str_lst, isi_str_tup, isi_bool_non, isi_bool_bl, isi_bool_int, isi_bool_str, isi_bool_lst, isi_bool_tup, isi_list_non, isi_list_bl, isi_list_int, isi_list_str, isi_list_lst, isi_list_tup, isi_tuple_non, isi_tuple_bl, isi_tuple_int, isi_tuple_str, isi_tuple_lst, isi_tuple_tup, isi_dict_non, isi_dict_bl, isi_dict_int, isi_dict_str, isi_dict_lst, isi_dict_tup, isi_list_tuple_non, isi_list_tuple_bl, isi_list_tuple_int, isi_list_tuple_str, isi_list_tuple_lst, isi_list_tuple_tup, isi_bool_str_non, isi_bool_str_bl, isi_bool_str_int, isi_bool_str_str, isi_bool_str_lst, isi_bool_str_tup])
    refine w_map (fun d => .bool (stepB d)) ?_
    (simp (disch := first | omega | (simp only [List.length_cons, List.length_nil, List.length_append, List.length_map, List.length_take, List.length_drop, List.length_reverse, List.length_set]; omega) | decide) only [wX_ok, wX_exc, wO_some, wO_ite, wIf_true, wIf_false, wIf_not, wF_nx, wF_rt, wF_bk, wF_ct, w_pure, w_bind, w_of, w_m1, w_m2, w_var, w_c, w_truth, w_ite, w_and, w_or, w_not, w_andV, w_orV, w_notV, w_if, w_nil, w_cons, w_tup, w_lst, w_call, w_nx, w_seq, w_drop, w_ret, w_set, w_ifS, w_slot, w_callF, w_callK, w_app2, w_part, w_noPart, w_sl, w_seqOf, w_rng, w_for, w_forL_nil, w_app, w_ixO, w_lenO, w_popAt, w_setIx, w_aug, w_par2, w_par3, w_mbind, w_chain, wX_runF, VL.fill, VL.put, outs, startE, wipeE, backE, bindT_nm, bindT_tt, bindT_tl, bindTs_n, bindTs_c, VL.pick, List.filterMap_cons, List.filterMap_nil, List.map_cons, List.map_nil, List.length_cons, List.length_nil, List.replicate, List.cons_append, List.nil_append, List.getElem?_cons_zero, List.getElem?_cons_succ, List.set_cons_zero, List.set_cons_succ, Option.map_some, Option.bind_some, Option.getD_some, Nat.reduceSub, Nat.reduceAdd, Int.cast_ofNat_Int, Int.reduceLT, Int.reduceLE, Int.reduceNeg, Int.reduceEq, gEq_int, gNe_int, gLt_int, gGt_int, gLe_int, gGe_int, gAdd_int, gSub_int, gMul_l, gMul_r, gMod_int, gFdv_int, gNeg_i, cInt_i, cInt_b, cAbs_i, cLen_l, cLen_t, cTup_l, cTup_t, cLst_l, cLst_t, gIx_l, gIx_t, setI_i, popI_i, gSl_l, gSl_t, gSl_scr, dSeq_l, dSeq_t, dSeq_s, cMin2_i, cMax2_i, cEnum_l, cZip_l, cZip_t, tr_b, tr_i, tr_l, tr_t, tr_n, gIs_n, gIsn_n, isN, lstAt_0, lstAt_s, gAdd_l, gAdd_t, le_sizeP, lt_sizeP, gPow_i, cAll_mb, cAny_mb, w_star, w_tupS, w_lstS, w_star2, dItems_l, dItems_t, gCat_l, starT_c, gRev_ll, gRev_tt, true_and, and_true, Bool.not_true, Bool.not_false, decide_true, decide_false, isi_int_non, isi_int_bl, isi_int_int, isi_int_str, isi_int_lst, isi_int_tup, isi_str_non, isi_str_bl, isi_str_int, isi_str_str, isi_str_lst, isi_str_tup, isi_bool_non, isi_bool_bl, isi_bool_int, isi_bool_str, isi_bool_lst, isi_bool_tup, isi_list_non, isi_list_bl, isi_list_int, isi_list_str, isi_list_lst, isi_list_tup, isi_tuple_non, isi_tuple_bl, isi_tuple_int, isi_tuple_str, isi_tuple_lst, isi_tuple_tup, isi_dict_non, isi_dict_bl, isi_dict_int, isi_dict_str, isi_dict_lst, isi_dict_tup, isi_list_tuple_non, isi_list_tuple_bl, isi_list_tuple_int, isi_list_tuple_str, isi_list_tuple_lst, isi_list_tuple_tup, isi_bool_str_non, isi_bool_str_bl, isi_bool_str_int, isi_bool_str_str, isi_bool_str_lst, isi_bool_str_tup])
    refine ⟨fun d hd => ?_, rfl⟩
    (simp (disch := first | omega | (simp only [List.length_cons, List.length_nil, List.length_append, List.length_map, List.length_take, List.length_drop, List.length_reverse, List.length_set]; omega) | decide) only [is_step_eq (ha d hd), wX_ok, wX_exc, wO_some, wO_ite, wIf_true, wIf_false, wIf_not, wF_nx, wF_rt, wF_bk, wF_ct, w_pure, w_bind, w_of, w_m1, w_m2, w_var, w_c, w_truth, w_ite, w_and, w_or, w_not, w_andV, w_orV, w_notV, w_if, w_nil, w_cons, w_tup, w_lst, w_call, w_nx, w_seq, w_drop, w_ret, w_set, w_ifS, w_slot, w_callF, w_callK, w_app2, w_part, w_noPart, w_sl, w_seqOf, w_rng, w_for, w_forL_nil, w_app, w_ixO, w_lenO, w_popAt, w_setIx, w_aug, w_par2, w_par3, w_mbind, w_chain, wX_runF, VL.fill, VL.put, outs, startE, wipeE, backE, bindT_nm, bindT_tt, bindT_tl, bindTs_n, bindTs_c, VL.pick, List.filterMap_cons, List.filterMap_nil, List.map_cons, List.map_nil, List.length_cons, List.length_nil, List.replicate, List.cons_append, List.nil_append, List.getElem?_cons_zero, List.getElem?_cons_succ, List.set_cons_zero, List.set_cons_succ, Option.map_some, Option.bind_some, Option.getD_some, Nat.reduceSub, Nat.reduceAdd, Int.cast_ofNat_Int, Int.reduceLT, Int.reduceLE, Int.reduceNeg, Int.reduceEq, gEq_int, gNe_int, gLt_int, gGt_int, gLe_int, gGe_int, gAdd_int, gSub_int, gMul_l, gMul_r, gMod_int, gFdv_int, gNeg_i, cInt_i, cInt_b, cAbs_i, cLen_l, cLen_t, cTup_l, cTup_t, cLst_l, cLst_t, gIx_l, gIx_t, setI_i, popI_i, gSl_l, gSl_t, gSl_scr, dSeq_l, dSeq_t, dSeq_s, cMin2_i, cMax2_i, cEnum_l, cZip_l, cZip_t, tr_b, tr_i, tr_l, tr_t, tr_n, gIs_n, gIsn_n, isN, lstAt_0, lstAt_s, gAdd_l, gAdd_t, le_sizeP, lt_sizeP, gPow_i, cAll_mb, cAny_mb, w_star, w_tupS, w_lstS, w_star2, dItems_l, dItems_t, gCat_l, starT_c, gRev_ll, gRev_tt, true_and, and_true, Bool.not_true, Bool.not_false, decide_true, decide_false, isi_int_non, isi_int_bl, isi_int_int, isi_int_str, isi_int_lst, isi_int_tup, isi_str_non, isi_str_bl, isi_str_int, isi_str_str, isi_str_lst, isi_str_tup, isi_bool_non, isi_bool_bl, isi_bool_int, isi_bool_str, isi_bool_lst, isi_bool_tup, isi_list_non, isi_list_bl, isi_list_int, isi_list_str, isi_list_lst, isi_list_tup, isi_tuple_non, isi_tuple_bl, isi_tuple_int, isi_tuple_str, isi_tuple_lst, isi_tuple_tup, isi_dict_non, isi_dict_bl, isi_dict_int, isi_dict_str, isi_dict_lst, isi_dict_tup, isi_list_tuple_non, isi_list_tuple_bl, isi_list_tuple_int, isi_list_tuple_str, isi_list_tuple_lst, isi_list_tuple_tup, isi_bool_str_non, isi_bool_str_bl, isi_bool_str_int, isi_bool_str_str, isi_bool_str_lst, isi_bool_str_tup])
  | _ => rfl
/-! ### the law's own look -/
theorem gEq_nil {xs : List D} (h : PyData.plainAll xs = true) : gEq (.list xs) (.list []) = some (.bool xs.isEmpty) := by
  unfold gEq
  rw [if_pos]
  · cases xs <;> simp [PyData.eqv, PyData.eqvAll]
  · unfold okc
    have e : (PyData.list xs).plain = true := h
    rw [e, show (PyData.list []).plain = true from rfl]
    have : (PyData.list []).depth ≤ 100 := by decide
    simp
    omega
def notLet : D → Bool
  | .str z => !inS (z.cps.getD 0 0)
  | _ => false
theorem isEmpty_let (l : List Nat) : (List.filter notLet (List.map (fun c => PyData.str { cps := #[c] }) l)).isEmpty = l.all inS := by
  induction l with
  | nil => rfl
  | cons c l ih =>
    rw [List.map_cons, List.all_cons, ← ih]
    cases h : inS c with
    | true => rw [List.filter_cons_of_neg (by show ¬ ((!inS c) = true); rw [h]; decide)]; rfl
    | false => rw [List.filter_cons_of_pos (by show (!inS c) = true; rw [h]; rfl)]; rfl
theorem is_tag_eq {n : Nat} {d : D} (h : Sz n d) : f__law_is_tag [d] = .ok (.bool (isName d), []) := by
  cases h with
  | @str s h =>
    apply wX_eq
    unfold f__law_is_tag
    (simp (disch := first | omega | (simp only [List.length_cons, List.length_nil, List.length_append, List.length_map, List.length_take, List.length_drop, List.length_reverse, List.length_set]; omega) | decide) only [cLen_s, wX_ok, wX_exc, wO_some, wO_ite, wIf_true, wIf_false, wIf_not, wF_nx, wF_rt, wF_bk, wF_ct, w_pure, w_bind, w_of, w_m1, w_m2, w_var, w_c, w_truth, w_ite, w_and, w_or, w_not, w_andV, w_orV, w_notV, w_if, w_nil, w_cons, w_tup, w_lst, w_call, w_nx, w_seq, w_drop, w_ret, w_set, w_ifS, w_slot, w_callF, w_callK, w_app2, w_part, w_noPart, w_sl, w_seqOf, w_rng, w_for, w_forL_nil, w_app, w_ixO, w_lenO, w_popAt, w_setIx, w_aug, w_par2, w_par3, w_mbind, w_chain, wX_runF, VL.fill, VL.put, outs, startE, wipeE, backE, bindT_nm, bindT_tt, bindT_tl, bindTs_n, bindTs_c, VL.pick, List.filterMap_cons, List.filterMap_nil, List.map_cons, List.map_nil, List.length_cons, List.length_nil, List.replicate, List.cons_append, List.nil_append, List.getElem?_cons_zero, List.getElem?_cons_succ, List.set_cons_zero, List.set_cons_succ, Option.map_some, Option.bind_some, Option.getD_some, Nat.reduceSub, Nat.reduceAdd, Int.cast_ofNat_Int, Int.reduceLT, Int.reduceLE, Int.reduceNeg, Int.reduceEq, gEq_int, gNe_int, gLt_int, gGt_int, gLe_int, gGe_int, gAdd_int, gSub_int, gMul_l, gMul_r, gMod_int, gFdv_int, gNeg_i, cInt_i, cInt_b, cAbs_i, cLen_l, cLen_t, cTup_l, cTup_t, cLst_l, cLst_t, gIx_l, gIx_t, setI_i, popI_i, gSl_l, gSl_t, gSl_scr, dSeq_l, dSeq_t, dSeq_s, cMin2_i, cMax2_i, cEnum_l, cZip_l, cZip_t, tr_b, tr_i, tr_l, tr_t, tr_n, gIs_n, gIsn_n, isN, lstAt_0, lstAt_s, gAdd_l, gAdd_t, le_sizeP, lt_sizeP, gPow_i, cAll_mb, cAny_mb, w_star, w_tupS, w_lstS, w_star2, dItems_l, dItems_t, gCat_l, starT_c, gRev_ll, gRev_tt, true_and, and_true, Bool.not_true, Bool.not_false, decide_true, decide_false, isi_int_non, isi_int_bl, isi_int_int, isi_int_str, isi_int_lst, isi_int_tup, isi_str_non, isi_str_bl, isi_str_int, isi_str_str, isi_str_lst, isi_str_tup, isi_bool_non, isi_bool_bl, isi_bool_int, isi_bool_str, isi_bool_lst, isi_bool_tup, isi_list_non, isi_list_bl, isi_list_int, isi_list_str, isi_list_lst, isi_list_tup, isi_tuple_non, isi_tuple_bl, isi_tuple_int, isi_tuple_str, isi_tuple_lst, isi_tuple_tup, isi_dict_non, isi_dict_bl, isi_dict_int, isi_dict_str, isi_dict_lst, isi_dict_tup, isi_list_tuple_non, isi_list_tuple_bl, isi_list_tuple_int, isi_list_tuple_str, isi_list_tuple_lst, isi_list_tuple_tup, isi_bool_str_non, isi_bool_str_bl, isi_bool_str_int, isi_bool_str_str, isi_bool_str_lst, isi_bool_str_tup])
    refine wIf_dec (fun h1 => ?_) fun h1 => ?_
    · (simp (disch := first | omega | (simp only [List.length_cons, List.length_nil, List.length_append, List.length_map, List.length_take, List.length_drop, List.length_reverse, List.length_set]; omega) | decide) only [wX_ok, wX_exc, wO_some, wO_ite, wIf_true, wIf_false, wIf_not, wF_nx, wF_rt, wF_bk, wF_ct, w_pure, w_bind, w_of, w_m1, w_m2, w_var, w_c, w_truth, w_ite, w_and, w_or, w_not, w_andV, w_orV, w_notV, w_if, w_nil, w_cons, w_tup, w_lst, w_call, w_nx, w_seq, w_drop, w_ret, w_set, w_ifS, w_slot, w_callF, w_callK, w_app2, w_part, w_noPart, w_sl, w_seqOf, w_rng, w_for, w_forL_nil, w_app, w_ixO, w_lenO, w_popAt, w_setIx, w_aug, w_par2, w_par3, w_mbind, w_chain, wX_runF, VL.fill, VL.put, outs, startE, wipeE, backE, bindT_nm, bindT_tt, bindT_tl, bindTs_n, bindTs_c, VL.pick, List.filterMap_cons, List.filterMap_nil, List.map_cons, List.map_nil, List.length_cons, List.length_nil, List.replicate, List.cons_append, List.nil_append, List.getElem?_cons_zero, List.getElem?_cons_succ, List.set_cons_zero, List.set_cons_succ, Option.map_some, Option.bind_some, Option.getD_some, Nat.reduceSub, Nat.reduceAdd, Int.cast_ofNat_Int, Int.reduceLT, Int.reduceLE, Int.reduceNeg, Int.reduceEq, gEq_int, gNe_int, gLt_int, gGt_int, gLe_int, gGe_int, gAdd_int, gSub_int, gMul_l, gMul_r, gMod_int, gFdv_int, gNeg_i, cInt_i, cInt_b, cAbs_i, cLen_l, cLen_t, cTup_l, cTup_t, cLst_l, cLst_t, gIx_l, gIx_t, setI_i, popI_i, gSl_l, gSl_t, gSl_scr, dSeq_l, dSeq_t, dSeq_s, cMin2_i, cMax2_i, cEnum_l, cZip_l, cZip_t, tr_b, tr_i, tr_l, tr_t, tr_n, gIs_n, gIsn_n, isN, lstAt_0, lstAt_s, gAdd_l, gAdd_t, le_sizeP, lt_sizeP, gPow_i, cAll_mb, cAny_mb, w_star, w_tupS, w_lstS, w_star2, dItems_l, dItems_t, gCat_l, starT_c, gRev_ll, gRev_tt, true_and, and_true, Bool.not_true, Bool.not_false, decide_true, decide_false, isi_int_non, isi_int_bl, isi_int_int, isi_int_str, isi_int_lst, isi_int_tup, isi_str_non, isi_str_bl, isi_str_int, isi_str_str, isi_str_lst, isi_str_tup, isi_bool_non, isi_bool_bl, isi_bool_int, isi_bool_str, isi_bool_lst, isi_bool_tup, isi_list_non, isi_list_bl, isi_list_int, isi_list_str, isi_list_lst, isi_list_tup, isi_tuple_non, isi_tuple_bl, isi_tuple_int, isi_tuple_str, isi_tuple_lst, isi_tuple_tup, isi_dict_non, isi_dict_bl, isi_dict_int, isi_dict_str, isi_dict_lst, isi_dict_tup, isi_list_tuple_non, isi_list_tuple_bl, isi_list_tuple_int, isi_list_tuple_str, isi_list_tuple_lst, isi_list_tuple_tup, isi_bool_str_non, isi_bool_str_bl, isi_bool_str_int, isi_bool_str_str, isi_bool_str_lst, isi_bool_str_tup])
      refine wIf_dec (fun h2 => ?_) fun h2 => ?_
      · (simp (disch := first | omega | (simp only [List.length_cons, List.length_nil, List.length_append, List.length_map, List.length_take, List.length_drop, List.length_reverse, List.length_set]; omega) | decide) only [wX_ok, wX_exc, wO_some, wO_ite, wIf_true, wIf_false, wIf_not, wF_nx, wF_rt, wF_bk, wF_ct, w_pure, w_bind, w_of, w_m1, w_m2, w_var, w_c, w_truth, w_ite, w_and, w_or, w_not, w_andV, w_orV, w_notV, w_if, w_nil, w_cons, w_tup, w_lst, w_call, w_nx, w_seq, w_drop, w_ret, w_set, w_ifS, w_slot, w_callF, w_callK, w_app2, w_part, w_noPart, w_sl, w_seqOf, w_rng, w_for, w_forL_nil, w_app, w_ixO, w_lenO, w_popAt, w_setIx, w_aug, w_par2, w_par3, w_mbind, w_chain, wX_runF, VL.fill, VL.put, outs, startE, wipeE, backE, bindT_nm, bindT_tt, bindT_tl, bindTs_n, bindTs_c, VL.pick, List.filterMap_cons, List.filterMap_nil, List.map_cons, List.map_nil, List.length_cons, List.length_nil, List.replicate, List.cons_append, List.nil_append, List.getElem?_cons_zero, List.getElem?_cons_succ, List.set_cons_zero, List.set_cons_succ, Option.map_some, Option.bind_some, Option.getD_some, Nat.reduceSub, Nat.reduceAdd, Int.cast_ofNat_Int, Int.reduceLT, Int.reduceLE, Int.reduceNeg, Int.reduceEq, gEq_int, gNe_int, gLt_int, gGt_int, gLe_int, gGe_int, gAdd_int, gSub_int, gMul_l, gMul_r, gMod_int, gFdv_int, gNeg_i, cInt_i, cInt_b, cAbs_i, cLen_l, cLen_t, cTup_l, cTup_t, cLst_l, cLst_t, gIx_l, gIx_t, setI_i, popI_i, gSl_l, gSl_t, gSl_scr, dSeq_l, dSeq_t, dSeq_s, cMin2_i, cMax2_i, cEnum_l, cZip_l, cZip_t, tr_b, tr_i, tr_l, tr_t, tr_n, gIs_n, gIsn_n, isN, lstAt_0, lstAt_s, gAdd_l, gAdd_t, le_sizeP, lt_sizeP, gPow_i, cAll_mb, cAny_mb, w_star, w_tupS, w_lstS, w_star2, dItems_l, dItems_t, gCat_l, starT_c, gRev_ll, gRev_tt, true_and, and_true, Bool.not_true, Bool.not_false, decide_true, decide_false, isi_int_non, isi_int_bl, isi_int_int, isi_int_str, isi_int_lst, isi_int_tup, isi_str_non, isi_str_bl, isi_str_int, isi_str_str, isi_str_lst, isi_str_tup, isi_bool_non, isi_bool_bl, isi_bool_int, isi_bool_str, isi_bool_lst, isi_bool_tup, isi_list_non, isi_list_bl, isi_list_int, isi_list_str, isi_list_lst, isi_list_tup, isi_tuple_non, isi_tuple_bl, isi_tuple_int, isi_tuple_str, isi_tuple_lst, isi_tuple_tup, isi_dict_non, isi_dict_bl, isi_dict_int, isi_dict_str, isi_dict_lst, isi_dict_tup, isi_list_tuple_non, isi_list_tuple_bl, isi_list_tuple_int, isi_list_tuple_str, isi_list_tuple_lst, isi_list_tuple_tup, isi_bool_str_non, isi_bool_str_bl, isi_bool_str_int, isi_bool_str_str, isi_bool_str_lst, isi_bool_str_tup])
        refine w_comp notLet (fun d => d) ?_
        (simp (disch := first | omega | (simp only [List.length_cons, List.length_nil, List.length_append, List.length_map, List.length_take, List.length_drop, List.length_reverse, List.length_set]; omega) | decide) only [wX_ok, wX_exc, wO_some, wO_ite, wIf_true, wIf_false, wIf_not, wF_nx, wF_rt, wF_bk, wF_ct, w_pure, w_bind, w_of, w_m1, w_m2, w_var, w_c, w_truth, w_ite, w_and, w_or, w_not, w_andV, w_orV, w_notV, w_if, w_nil, w_cons, w_tup, w_lst, w_call, w_nx, w_seq, w_drop, w_ret, w_set, w_ifS, w_slot, w_callF, w_callK, w_app2, w_part, w_noPart, w_sl, w_seqOf, w_rng, w_for, w_forL_nil, w_app, w_ixO, w_lenO, w_popAt, w_setIx, w_aug, w_par2, w_par3, w_mbind, w_chain, wX_runF, VL.fill, VL.put, outs, startE, wipeE, backE, bindT_nm, bindT_tt, bindT_tl, bindTs_n, bindTs_c, VL.pick, List.filterMap_cons, List.filterMap_nil, List.map_cons, List.map_nil, List.length_cons, List.length_nil, List.replicate, List.cons_append, List.nil_append, List.getElem?_cons_zero, List.getElem?_cons_succ, List.set_cons_zero, List.set_cons_succ, Option.map_some, Option.bind_some, Option.getD_some, Nat.reduceSub, Nat.reduceAdd, Int.cast_ofNat_Int, Int.reduceLT, Int.reduceLE, Int.reduceNeg, Int.reduceEq, gEq_int, gNe_int, gLt_int, gGt_int, gLe_int, gGe_int, gAdd_int, gSub_int, gMul_l, gMul_r, gMod_int, gFdv_int, gNeg_i, cInt_i, cInt_b, cAbs_i, cLen_l, cLen_t, cTup_l, cTup_t, cLst_l, cLst_t, gIx_l, gIx_t, setI_i, popI_i, gSl_l, gSl_t, gSl_scr, dSeq_l, dSeq_t, dSeq_s, cMin2_i, cMax2_i, cEnum_l, cZip_l, cZip_t, tr_b, tr_i, tr_l, tr_t, tr_n, gIs_n, gIsn_n, isN, lstAt_0, lstAt_s, gAdd_l, gAdd_t, le_sizeP, lt_sizeP, gPow_i, cAll_mb, cAny_mb, w_star, w_tupS, w_lstS, w_star2, dItems_l, dItems_t, gCat_l, starT_c, gRev_ll, gRev_tt, true_and, and_true, Bool.not_true, Bool.not_false, decide_true, decide_false, isi_int_non, isi_int_bl, isi_int_int, isi_int_str, isi_int_lst, isi_int_tup, isi_str_non, isi_str_bl, isi_str_int, isi_str_str, isi_str_lst, isi_str_tup, isi_bool_non, isi_bool_bl, isi_bool_int, isi_bool_str, isi_bool_lst, isi_bool_tup, isi_list_non, isi_list_bl, isi_list_int, isi_list_str, isi_list_lst, isi_list_tup, isi_tuple_non, isi_tuple_bl, isi_tuple_int, isi_tuple_str, isi_tuple_lst, isi_tuple_tup, isi_dict_non, isi_dict_bl, isi_dict_int, isi_dict_str, isi_dict_lst, isi_dict_tup, isi_list_tuple_non, isi_list_tuple_bl, isi_list_tuple_int, isi_list_tuple_str, isi_list_tuple_lst, isi_list_tuple_tup, isi_bool_str_non, isi_bool_str_bl, isi_bool_str_int, isi_bool_str_str, isi_bool_str_lst, isi_bool_str_tup])
        have hlet : s.cps.toList.length ≤ sizeLine := le_size (by show s.length ≤ _; omega)
        refine ⟨by rw [List.length_map]; exact hlet, ?_, ?_⟩
        · intro d hd
          obtain ⟨c, _, rfl⟩ := List.mem_map.mp hd
          (simp (disch := first | omega | (simp only [List.length_cons, List.length_nil, List.length_append, List.length_map, List.length_take, List.length_drop, List.length_reverse, List.length_set]; omega) | decide) only [gNin_let, wX_ok, wX_exc, wO_some, wO_ite, wIf_true, wIf_false, wIf_not, wF_nx, wF_rt, wF_bk, wF_ct, w_pure, w_bind, w_of, w_m1, w_m2, w_var, w_c, w_truth, w_ite, w_and, w_or, w_not, w_andV, w_orV, w_notV, w_if, w_nil, w_cons, w_tup, w_lst, w_call, w_nx, w_seq, w_drop, w_ret, w_set, w_ifS, w_slot, w_callF, w_callK, w_app2, w_part, w_noPart, w_sl, w_seqOf, w_rng, w_for, w_forL_nil, w_app, w_ixO, w_lenO, w_popAt, w_setIx, w_aug, w_par2, w_par3, w_mbind, w_chain, wX_runF, VL.fill, VL.put, outs, startE, wipeE, backE, bindT_nm, bindT_tt, bindT_tl, bindTs_n, bindTs_c, VL.pick, List.filterMap_cons, List.filterMap_nil, List.map_cons, List.map_nil, List.length_cons, List.length_nil, List.replicate, List.cons_append, List.nil_append, List.getElem?_cons_zero, List.getElem?_cons_succ, List.set_cons_zero, List.set_cons_succ, Option.map_some, Option.bind_some, Option.getD_some, Nat.reduceSub, Nat.reduceAdd, Int.cast_ofNat_Int, Int.reduceLT, Int.reduceLE, Int.reduceNeg, Int.reduceEq, gEq_int, gNe_int, gLt_int, gGt_int, gLe_int, gGe_int, gAdd_int, gSub_int, gMul_l, gMul_r, gMod_int, gFdv_int, gNeg_i, cInt_i, cInt_b, cAbs_i, cLen_l, cLen_t, cTup_l, cTup_t, cLst_l, cLst_t, gIx_l, gIx_t, setI_i, popI_i, gSl_l, gSl_t, gSl_scr, dSeq_l, dSeq_t, dSeq_s, cMin2_i, cMax2_i, cEnum_l, cZip_l, cZip_t, tr_b, tr_i, tr_l, tr_t, tr_n, gIs_n, gIsn_n, isN, lstAt_0, lstAt_s, gAdd_l, gAdd_t, le_sizeP, lt_sizeP, gPow_i, cAll_mb, cAny_mb, w_star, w_tupS, w_lstS, w_star2, dItems_l, dItems_t, gCat_l, starT_c, gRev_ll, gRev_tt, true_and, and_true, Bool.not_true, Bool.not_false, decide_true, decide_false, isi_int_non, isi_int_bl, isi_int_int, isi_int_str, isi_int_lst, isi_int_tup, isi_str_non, isi_str_bl, isi_str_int, isi_str_str, isi_str_lst, isi_str_tup, isi_bool_non, isi_bool_bl, isi_bool_int, isi_bool_str, isi_bool_lst, isi_bool_tup, isi_list_non, isi_list_bl, isi_list_int, isi_list_str, isi_list_lst, isi_list_tup, isi_tuple_non, isi_tuple_bl, isi_tuple_int, isi_tuple_str, isi_tuple_lst, isi_tuple_tup, isi_dict_non, isi_dict_bl, isi_dict_int, isi_dict_str, isi_dict_lst, isi_dict_tup, isi_list_tuple_non, isi_list_tuple_bl, isi_list_tuple_int, isi_list_tuple_str, isi_list_tuple_lst, isi_list_tuple_tup, isi_bool_str_non, isi_bool_str_bl, isi_bool_str_int, isi_bool_str_str, isi_bool_str_lst, isi_bool_str_tup])
          refine ⟨rfl, ?_⟩
          exact wIf_in (fun _ => rfl) fun _ => by (simp (disch := first | omega | (simp only [List.length_cons, List.length_nil, List.length_append, List.length_map, List.length_take, List.length_drop, List.length_reverse, List.length_set]; omega) | decide) only [wX_ok, wX_exc, wO_some, wO_ite, wIf_true, wIf_false, wIf_not, wF_nx, wF_rt, wF_bk, wF_ct, w_pure, w_bind, w_of, w_m1, w_m2, w_var, w_c, w_truth, w_ite, w_and, w_or, w_not, w_andV, w_orV, w_notV, w_if, w_nil, w_cons, w_tup, w_lst, w_call, w_nx, w_seq, w_drop, w_ret, w_set, w_ifS, w_slot, w_callF, w_callK, w_app2, w_part, w_noPart, w_sl, w_seqOf, w_rng, w_for, w_forL_nil, w_app, w_ixO, w_lenO, w_popAt, w_setIx, w_aug, w_par2, w_par3, w_mbind, w_chain, wX_runF, VL.fill, VL.put, outs, startE, wipeE, backE, bindT_nm, bindT_tt, bindT_tl, bindTs_n, bindTs_c, VL.pick, List.filterMap_cons, List.filterMap_nil, List.map_cons, List.map_nil, List.length_cons, List.length_nil, List.replicate, List.cons_append, List.nil_append, List.getElem?_cons_zero, List.getElem?_cons_succ, List.set_cons_zero, List.set_cons_succ, Option.map_some, Option.bind_some, Option.getD_some, Nat.reduceSub, Nat.reduceAdd, Int.cast_ofNat_Int, Int.reduceLT, Int.reduceLE, Int.reduceNeg, Int.reduceEq, gEq_int, gNe_int, gLt_int, gGt_int, gLe_int, gGe_int, gAdd_int, gSub_int, gMul_l, gMul_r, gMod_int, gFdv_int, gNeg_i, cInt_i, cInt_b, cAbs_i, cLen_l, cLen_t, cTup_l, cTup_t, cLst_l, cLst_t, gIx_l, gIx_t, setI_i, popI_i, gSl_l, gSl_t, gSl_scr, dSeq_l, dSeq_t, dSeq_s, cMin2_i, cMax2_i, cEnum_l, cZip_l, cZip_t, tr_b, tr_i, tr_l, tr_t, tr_n, gIs_n, gIsn_n, isN, lstAt_0, lstAt_s, gAdd_l, gAdd_t, le_sizeP, lt_sizeP, gPow_i, cAll_mb, cAny_mb, w_star, w_tupS, w_lstS, w_star2, dItems_l, dItems_t, gCat_l, starT_c, gRev_ll, gRev_tt, true_and, and_true, Bool.not_true, Bool.not_false, decide_true, decide_false, isi_int_non, isi_int_bl, isi_int_int, isi_int_str, isi_int_lst, isi_int_tup, isi_str_non, isi_str_bl, isi_str_int, isi_str_str, isi_str_lst, isi_str_tup, isi_bool_non, isi_bool_bl, isi_bool_int, isi_bool_str, isi_bool_lst, isi_bool_tup, isi_list_non, isi_list_bl, isi_list_int, isi_list_str, isi_list_lst, isi_list_tup, isi_tuple_non, isi_tuple_bl, isi_tuple_int, isi_tuple_str, isi_tuple_lst, isi_tuple_tup, isi_dict_non, isi_dict_bl, isi_dict_int, isi_dict_str, isi_dict_lst, isi_dict_tup, isi_list_tuple_non, isi_list_tuple_bl, isi_list_tuple_int, isi_list_tuple_str, isi_list_tuple_lst, isi_list_tuple_tup, isi_bool_str_non, isi_bool_str_bl, isi_bool_str_int, isi_bool_str_str, isi_bool_str_lst, isi_bool_str_tup])
        · have hp : PyData.plainAll (List.map (fun d => d) (List.filter notLet (List.map (fun c => PyData.str { cps := #[c] }) s.cps.toList))) = true := plainAll_of fun x hx => by
            rw [List.map_id'] at hx
            obtain ⟨c, _, rfl⟩ := List.mem_map.mp (List.mem_filter.mp hx).1
            rfl
          rw [gEq_nil hp, wO_some, wO_some, List.map_id']
          show _ = (PyData.bool (isNam s), [])
          unfold isNam
          rw [decide_eq_true (by omega : 1 ≤ s.length), decide_eq_true (by omega : s.length ≤ 8), Bool.true_and, Bool.true_and]
          rw [isEmpty_let]
      · (simp (disch := first | omega | (simp only [List.length_cons, List.length_nil, List.length_append, List.length_map, List.length_take, List.length_drop, List.length_reverse, List.length_set]; omega) | decide) only [wX_ok, wX_exc, wO_some, wO_ite, wIf_true, wIf_false, wIf_not, wF_nx, wF_rt, wF_bk, wF_ct, w_pure, w_bind, w_of, w_m1, w_m2, w_var, w_c, w_truth, w_ite, w_and, w_or, w_not, w_andV, w_orV, w_notV, w_if, w_nil, w_cons, w_tup, w_lst, w_call, w_nx, w_seq, w_drop, w_ret, w_set, w_ifS, w_slot, w_callF, w_callK, w_app2, w_part, w_noPart, w_sl, w_seqOf, w_rng, w_for, w_forL_nil, w_app, w_ixO, w_lenO, w_popAt, w_setIx, w_aug, w_par2, w_par3, w_mbind, w_chain, wX_runF, VL.fill, VL.put, outs, startE, wipeE, backE, bindT_nm, bindT_tt, bindT_tl, bindTs_n, bindTs_c, VL.pick, List.filterMap_cons, List.filterMap_nil, List.map_cons, List.map_nil, List.length_cons, List.length_nil, List.replicate, List.cons_append, List.nil_append, List.getElem?_cons_zero, List.getElem?_cons_succ, List.set_cons_zero, List.set_cons_succ, Option.map_some, Option.bind_some, Option.getD_some, Nat.reduceSub, Nat.reduceAdd, Int.cast_ofNat_Int, Int.reduceLT, Int.reduceLE, Int.reduceNeg, Int.reduceEq, gEq_int, gNe_int, gLt_int, gGt_int, gLe_int, gGe_int, gAdd_int, gSub_int, gMul_l, gMul_r, gMod_int, gFdv_int, gNeg_i, cInt_i, cInt_b, cAbs_i, cLen_l, cLen_t, cTup_l, cTup_t, cLst_l, cLst_t, gIx_l, gIx_t, setI_i, popI_i, gSl_l, gSl_t, gSl_scr, dSeq_l, dSeq_t, dSeq_s, cMin2_i, cMax2_i, cEnum_l, cZip_l, cZip_t, tr_b, tr_i, tr_l, tr_t, tr_n, gIs_n, gIsn_n, isN, lstAt_0, lstAt_s, gAdd_l, gAdd_t, le_sizeP, lt_sizeP, gPow_i, cAll_mb, cAny_mb, w_star, w_tupS, w_lstS, w_star2, dItems_l, dItems_t, gCat_l, starT_c, gRev_ll, gRev_tt, true_and, and_true, Bool.not_true, Bool.not_false, decide_true, decide_false, isi_int_non, isi_int_bl, isi_int_int, isi_int_str, isi_int_lst, isi_int_tup, isi_str_non, isi_str_bl, isi_str_int, isi_str_str, isi_str_lst, isi_str_tup, isi_bool_non, isi_bool_bl, isi_bool_int, isi_bool_str, isi_bool_lst, isi_bool_tup, isi_list_non, isi_list_bl, isi_list_int, isi_list_str, isi_list_lst, isi_list_tup, isi_tuple_non, isi_tuple_bl, isi_tuple_int, isi_tuple_str, isi_tuple_lst, isi_tuple_tup, isi_dict_non, isi_dict_bl, isi_dict_int, isi_dict_str, isi_dict_lst, isi_dict_tup, isi_list_tuple_non, isi_list_tuple_bl, isi_list_tuple_int, isi_list_tuple_str, isi_list_tuple_lst, isi_list_tuple_tup, isi_bool_str_non, isi_bool_str_bl, isi_bool_str_int, isi_bool_str_str, isi_bool_str_lst, isi_bool_str_tup])
        show _ = (PyData.bool (isNam s), [])
        unfold isNam
        rw [decide_eq_false (by omega : ¬ (s.length ≤ 8)), decide_eq_false h2]
        simp
    · (simp (disch := first | omega | (simp only [List.length_cons, List.length_nil, List.length_append, List.length_map, List.length_take, List.length_drop, List.length_reverse, List.length_set]; omega) | decide) only [wX_ok, wX_exc, wO_some, wO_ite, wIf_true, wIf_false, wIf_not, wF_nx, wF_rt, wF_bk, wF_ct, w_pure, w_bind, w_of, w_m1, w_m2, w_var, w_c, w_truth, w_ite, w_and, w_or, w_not, w_andV, w_orV, w_notV, w_if, w_nil, w_cons, w_tup, w_lst, w_call, w_nx, w_seq, w_drop, w_ret, w_set, w_ifS, w_slot, w_callF, w_callK, w_app2, w_part, w_noPart, w_sl, w_seqOf, w_rng, w_for, w_forL_nil, w_app, w_ixO, w_lenO, w_popAt, w_setIx, w_aug, w_par2, w_par3, w_mbind, w_chain, wX_runF, VL.fill, VL.put, outs, startE, wipeE, backE, bindT_nm, bindT_tt, bindT_tl, bindTs_n, bindTs_c, VL.pick, List.filterMap_cons, List.filterMap_nil, List.map_cons, List.map_nil, List.length_cons, List.length_nil, List.replicate, List.cons_append, List.nil_append, List.getElem?_cons_zero, List.getElem?_cons_succ, List.set_cons_zero, List.set_cons_succ, Option.map_some, Option.bind_some, Option.getD_some, Nat.reduceSub, Nat.reduceAdd, Int.cast_ofNat_Int, Int.reduceLT, Int.reduceLE, Int.reduceNeg, Int.reduceEq, gEq_int, gNe_int, gLt_int, gGt_int, gLe_int, gGe_int, gAdd_int, gSub_int, gMul_l, gMul_r, gMod_int, gFdv_int, gNeg_i, cInt_i, cInt_b, cAbs_i, cLen_l, cLen_t, cTup_l, cTup_t, cLst_l, cLst_t, gIx_l, gIx_t, setI_i, popI_i, gSl_l, gSl_t, gSl_scr, dSeq_l, dSeq_t, dSeq_s, cMin2_i, cMax2_i, cEnum_l, cZip_l, cZip_t, tr_b, tr_i, tr_l, tr_t, tr_n, gIs_n, gIsn_n, isN, lstAt_0, lstAt_s, gAdd_l, gAdd_t, le_sizeP, lt_sizeP, gPow_i, cAll_mb, cAny_mb, w_star, w_tupS, w_lstS, w_star2, dItems_l, dItems_t, gCat_l, starT_c, gRev_ll, gRev_tt, true_and, and_true, Bool.not_true, Bool.not_false, decide_true, decide_false, isi_int_non, isi_int_bl, isi_int_int, isi_int_str, isi_int_lst, isi_int_tup, isi_str_non, isi_str_bl, isi_str_int, isi_str_str, isi_str_lst, isi_str_tup, isi_bool_non, isi_bool_bl, isi_bool_int, isi_bool_str, isi_bool_lst, isi_bool_tup, isi_list_non, isi_list_bl, isi_list_int, isi_list_str, isi_list_lst, isi_list_tup, isi_tuple_non, isi_tuple_bl, isi_tuple_int, isi_tuple_str, isi_tuple_lst, isi_tuple_tup, isi_dict_non, isi_dict_bl, isi_dict_int, isi_dict_str, isi_dict_lst, isi_dict_tup, isi_list_tuple_non, isi_list_tuple_bl, isi_list_tuple_int, isi_list_tuple_str, isi_list_tuple_lst, isi_list_tuple_tup, isi_bool_str_non, isi_bool_str_bl, isi_bool_str_int, isi_bool_str_str, isi_bool_str_lst, isi_bool_str_tup])
      show _ = (PyData.bool (isNam s), [])
      unfold isNam
      rw [decide_eq_false (by omega : ¬ (1 ≤ s.length))]
      simp
  | _ => rfl
/-! ### things spoilt -/
mutual
def szB (n : Nat) : D → Bool
  | .none => true
  | .bool _ => true
  | .int _ => true
  | .str s => decide (s.length ≤ 100)
  | .list xs => decide (xs.length ≤ n) && szAll n xs
  | .tuple xs => decide (xs.length ≤ n) && szAll n xs
  | .dict _ => false
def szAll (n : Nat) : List D → Bool
  | [] => true
  | x :: xs => szB n x && szAll n xs
end
mutual
theorem szB_ok {n : Nat} : ∀ {d : D}, szB n d = true → Sz n d
  | .none, _ => .non
  | .bool b, _ => .bl b
  | .int i, _ => .int i
  | .str s, h => .str (by simpa [szB] using h)
  | .list xs, h => by
    rw [szB, Bool.and_eq_true] at h
    exact .lst (of_decide_eq_true h.1) (szAll_ok h.2)
  | .tuple xs, h => by
    rw [szB, Bool.and_eq_true] at h
    exact .tup (of_decide_eq_true h.1) (szAll_ok h.2)
theorem szAll_ok {n : Nat} : ∀ {ds : List D}, szAll n ds = true → ∀ x ∈ ds, Sz n x
  | [], _, x, hx => by cases hx
  | d :: ds, h, x, hx => by
    rw [szAll, Bool.and_eq_true] at h
    rcases List.mem_cons.mp hx with e | hx
    · rw [e]; exact szB_ok h.1
    · exact szAll_ok h.2 x hx
end
theorem Sz.items {n : Nat} {xs : List D} : Sz n (.list xs) ∨ Sz n (.tuple xs) → xs.length ≤ n ∧ ∀ x ∈ xs, Sz n x
  | .inl (.lst h a) => ⟨h, a⟩
  | .inr (.tup h a) => ⟨h, a⟩
theorem same_bool (b : Bool) : f__law_same 16 [.bool b, .bool b] = .ok (.bool true, []) := by cases b <;> rfl
theorem stp_sz {N : Nat} (hN : 3 ≤ N) {st : Stp} {ts : List Str} (h : ∀ x ∈ st.nam, x ∈ ts) (ht : ∀ x ∈ ts, x.length ≤ 100) : Sz N (stpD st) := by
  have a2 : Sz N (.str "up") := .str (by decide)
  have a3 : Sz N (.str "most") := .str (by decide)
  have a5 : Sz N (.str "least") := .str (by decide)
  cases st with
  | up n =>
    refine .tup (by simp; omega) fun x hx => ?_
    simp only [List.mem_cons, List.not_mem_nil, or_false] at hx
    rcases hx with rfl | rfl
    · exact a2
    · exact .int _
  | most y n =>
    refine .tup (by simp; omega) fun x hx => ?_
    simp only [List.mem_cons, List.not_mem_nil, or_false] at hx
    rcases hx with rfl | rfl | rfl
    · exact a3
    · exact .str (ht y (h y (List.mem_singleton.mpr rfl)))
    · exact .int _
  | least y n =>
    refine .tup (by simp; omega) fun x hx => ?_
    simp only [List.mem_cons, List.not_mem_nil, or_false] at hx
    rcases hx with rfl | rfl | rfl
    · exact a5
    · exact .str (ht y (h y (List.mem_singleton.mpr rfl)))
    · exact .int _
theorem pool_short : ∀ x ∈ poolS, x.length ≤ 100 := by decide
theorem bools_true : ∀ n, bools (List.replicate n (.bool true)) = some (List.replicate n true)
  | 0 => rfl
  | n + 1 => by rw [List.replicate_succ, bools, bools_true n]; rfl
theorem cAll_true (n : Nat) : cAll [.list (List.replicate n (.bool true))] = some (.bool true) := by
  show (bools _).map _ = _
  rw [bools_true]
  show some (PyData.bool ((List.replicate n true).all id)) = _
  rw [show (List.replicate n true).all id = true by rw [List.all_eq_true]; intro x hx; exact List.eq_of_mem_replicate hx]
end LL
end

section
set_option Elab.async false
set_option linter.all false
set_option maxRecDepth 100000
set_option maxHeartbeats 1000000
namespace LL
open PySem VL
/-! ### the same of the same -/
inductive Dp : Nat → D → Prop
  | non {k : Nat} : Dp k .none
  | bl {k : Nat} (b : Bool) : Dp k (.bool b)
  | int {k : Nat} (i : Int) : Dp k (.int i)
  | str {k : Nat} (s : Str) : Dp k (.str s)
  | lst {k : Nat} {xs : List D} (h : xs.length ≤ 1000) (a : ∀ x ∈ xs, Dp k x) : Dp (k + 1) (.list xs)
  | tup {k : Nat} {xs : List D} (h : xs.length ≤ 1000) (a : ∀ x ∈ xs, Dp k x) : Dp (k + 1) (.tuple xs)
theorem Dp.mono {k k' : Nat} {d : D} (h : Dp k d) (l : k ≤ k') : Dp k' d := by
  induction h generalizing k' with
  | non => exact .non
  | bl b => exact .bl b
  | int i => exact .int i
  | str s => exact .str s
  | lst h _ ih =>
    obtain ⟨j, rfl⟩ : ∃ j, k' = j + 1 := ⟨k' - 1, by omega⟩
    exact .lst h fun x hx => ih x hx (by omega)
  | tup h _ ih =>
    obtain ⟨j, rfl⟩ : ∃ j, k' = j + 1 := ⟨k' - 1, by omega⟩
    exact .tup h fun x hx => ih x hx (by omega)
theorem zip_len : ∀ xs : List D, (zipL xs xs).length = xs.length
  | [] => rfl
  | x :: xs => congrArg (· + 1) (zip_len xs)
theorem zip_mem : ∀ {xs : List D} {d : D}, d ∈ zipL xs xs → ∃ x ∈ xs, d = .tuple [x, x]
  | x :: xs, d, h => by
    rcases List.mem_cons.mp h with rfl | h
    · exact ⟨x, List.mem_cons_self .., rfl⟩
    · obtain ⟨y, hy, e⟩ := zip_mem h
      exact ⟨y, List.mem_cons_of_mem _ hy, e⟩
def allT : D → Bool := fun _ => true
theorem all_allT (l : List D) : l.all allT = true := by induction l <;> simp_all [allT]
theorem gNe_tt : gNe (.bool true) (.bool true) = some (.bool false) := rfl
theorem gNe_ff : gNe (.bool false) (.bool false) = some (.bool false) := rfl
theorem gEq_tt : gEq (.bool true) (.bool true) = some (.bool true) := rfl
theorem gEq_ff : gEq (.bool false) (.bool false) = some (.bool true) := rfl
theorem str_self (s : Str) : (s == s) = true := by simp
theorem same_refl {k : Nat} {d : D} (h : Dp k d) : ∀ m, k < m → f__law_same m [d, d] = .ok (.bool true, []) := by
  induction h with
  | non => rintro (_ | m) hm <;> first | omega | rfl
  | bl b => rintro (_ | m) hm <;> first | omega | (cases b <;> rfl)
  | int i =>
    rintro (_ | m) hm
    · omega
    apply wX_eq
    unfold f__law_same
    (simp (disch := first | omega | (simp only [List.length_cons, List.length_nil, List.length_append, List.length_map, List.length_take, List.length_drop, List.length_reverse, List.length_set]; omega) | decide) only [wX_ok, wX_exc, wO_some, wO_ite, wIf_true, wIf_false, wIf_not, wF_nx, wF_rt, wF_bk, wF_ct, w_pure, w_bind, w_of, w_m1, w_m2, w_var, w_c, w_truth, w_ite, w_and, w_or, w_not, w_andV, w_orV, w_notV, w_if, w_nil, w_cons, w_tup, w_lst, w_call, w_nx, w_seq, w_drop, w_ret, w_set, w_ifS, w_slot, w_callF, w_callK, w_app2, w_part, w_noPart, w_sl, w_seqOf, w_rng, w_for, w_forL_nil, w_app, w_ixO, w_lenO, w_popAt, w_setIx, w_aug, w_par2, w_par3, w_mbind, w_chain, wX_runF, VL.fill, VL.put, outs, startE, wipeE, backE, bindT_nm, bindT_tt, bindT_tl, bindTs_n, bindTs_c, VL.pick, List.filterMap_cons, List.filterMap_nil, List.map_cons, List.map_nil, List.length_cons, List.length_nil, List.replicate, List.cons_append, List.nil_append, List.getElem?_cons_zero, List.getElem?_cons_succ, List.set_cons_zero, List.set_cons_succ, Option.map_some, Option.bind_some, Option.getD_some, Nat.reduceSub, Nat.reduceAdd, Int.cast_ofNat_Int, Int.reduceLT, Int.reduceLE, Int.reduceNeg, Int.reduceEq, gEq_int, gNe_int, gLt_int, gGt_int, gLe_int, gGe_int, gAdd_int, gSub_int, gMul_l, gMul_r, gMod_int, gFdv_int, gNeg_i, cInt_i, cInt_b, cAbs_i, cLen_l, cLen_t, cTup_l, cTup_t, cLst_l, cLst_t, gIx_l, gIx_t, setI_i, popI_i, gSl_l, gSl_t, gSl_scr, dSeq_l, dSeq_t, dSeq_s, cMin2_i, cMax2_i, cEnum_l, cZip_l, cZip_t, tr_b, tr_i, tr_l, tr_t, tr_n, gIs_n, gIsn_n, isN, lstAt_0, lstAt_s, gAdd_l, gAdd_t, le_sizeP, lt_sizeP, gPow_i, cAll_mb, cAny_mb, w_star, w_tupS, w_lstS, w_star2, dItems_l, dItems_t, gCat_l, starT_c, gRev_ll, gRev_tt, true_and, and_true, Bool.not_true, Bool.not_false, decide_true, decide_false, isi_int_non, isi_int_bl, isi_int_int, isi_int_str, isi_int_lst, isi_int_tup, isi_str_non, isi_str_bl, isi_str_int, isi_str_str, isi_str_lst, isi_str_tup, isi_bool_non, isi_bool_bl, isi_bool_int, isi_bool_str, isi_bool_lst, isi_bool_tup, isi_list_non, isi_list_bl, isi_list_int, isi_list_str, isi_list_lst, isi_list_tup, isi_tuple_non, isi_tuple_bl, isi_tuple_int, isi_tuple_str, isi_tuple_lst, isi_tuple_tup, isi_dict_non, isi_dict_bl, isi_dict_int, isi_dict_str, isi_dict_lst, isi_dict_tup, isi_list_tuple_non, isi_list_tuple_bl, isi_list_tuple_int, isi_list_tuple_str, isi_list_tuple_lst, isi_list_tuple_tup, isi_bool_str_non, isi_bool_str_bl, isi_bool_str_int, isi_bool_str_str, isi_bool_str_lst, isi_bool_str_tup])
  | str s =>
    rintro (_ | m) hm
    · omega
    apply wX_eq
    unfold f__law_same
    (simp (disch := first | omega | (simp only [List.length_cons, List.length_nil, List.length_append, List.length_map, List.length_take, List.length_drop, List.length_reverse, List.length_set]; omega) | decide) only [gEq_str, str_self, gEq_tt, gEq_ff, wX_ok, wX_exc, wO_some, wO_ite, wIf_true, wIf_false, wIf_not, wF_nx, wF_rt, wF_bk, wF_ct, w_pure, w_bind, w_of, w_m1, w_m2, w_var, w_c, w_truth, w_ite, w_and, w_or, w_not, w_andV, w_orV, w_notV, w_if, w_nil, w_cons, w_tup, w_lst, w_call, w_nx, w_seq, w_drop, w_ret, w_set, w_ifS, w_slot, w_callF, w_callK, w_app2, w_part, w_noPart, w_sl, w_seqOf, w_rng, w_for, w_forL_nil, w_app, w_ixO, w_lenO, w_popAt, w_setIx, w_aug, w_par2, w_par3, w_mbind, w_chain, wX_runF, VL.fill, VL.put, outs, startE, wipeE, backE, bindT_nm, bindT_tt, bindT_tl, bindTs_n, bindTs_c, VL.pick, List.filterMap_cons, List.filterMap_nil, List.map_cons, List.map_nil, List.length_cons, List.length_nil, List.replicate, List.cons_append, List.nil_append, List.getElem?_cons_zero, List.getElem?_cons_succ, List.set_cons_zero, List.set_cons_succ, Option.map_some, Option.bind_some, Option.getD_some, Nat.reduceSub, Nat.reduceAdd, Int.cast_ofNat_Int, Int.reduceLT, Int.reduceLE, Int.reduceNeg, Int.reduceEq, gEq_int, gNe_int, gLt_int, gGt_int, gLe_int, gGe_int, gAdd_int, gSub_int, gMul_l, gMul_r, gMod_int, gFdv_int, gNeg_i, cInt_i, cInt_b, cAbs_i, cLen_l, cLen_t, cTup_l, cTup_t, cLst_l, cLst_t, gIx_l, gIx_t, setI_i, popI_i, gSl_l, gSl_t, gSl_scr, dSeq_l, dSeq_t, dSeq_s, cMin2_i, cMax2_i, cEnum_l, cZip_l, cZip_t, tr_b, tr_i, tr_l, tr_t, tr_n, gIs_n, gIsn_n, isN, lstAt_0, lstAt_s, gAdd_l, gAdd_t, le_sizeP, lt_sizeP, gPow_i, cAll_mb, cAny_mb, w_star, w_tupS, w_lstS, w_star2, dItems_l, dItems_t, gCat_l, starT_c, gRev_ll, gRev_tt, true_and, and_true, Bool.not_true, Bool.not_false, decide_true, decide_false, isi_int_non, isi_int_bl, isi_int_int, isi_int_str, isi_int_lst, isi_int_tup, isi_str_non, isi_str_bl, isi_str_int, isi_str_str, isi_str_lst, isi_str_tup, isi_bool_non, isi_bool_bl, isi_bool_int, isi_bool_str, isi_bool_lst, isi_bool_tup, isi_list_non, isi_list_bl, isi_list_int, isi_list_str, isi_list_lst, isi_list_tup, isi_tuple_non, isi_tuple_bl, isi_tuple_int, isi_tuple_str, isi_tuple_lst, isi_tuple_tup, isi_dict_non, isi_dict_bl, isi_dict_int, isi_dict_str, isi_dict_lst, isi_dict_tup, isi_list_tuple_non, isi_list_tuple_bl, isi_list_tuple_int, isi_list_tuple_str, isi_list_tuple_lst, isi_list_tuple_tup, isi_bool_str_non, isi_bool_str_bl, isi_bool_str_int, isi_bool_str_str, isi_bool_str_lst, isi_bool_str_tup])
  | @lst k xs h a ih0 =>
    rintro (_ | m) hm
    · omega
    have ih := fun x hx => ih0 x hx m (by omega)
    apply wX_eq
    unfold f__law_same
    (simp (disch := first | omega | (simp only [List.length_cons, List.length_nil, List.length_append, List.length_map, List.length_take, List.length_drop, List.length_reverse, List.length_set]; omega) | decide) only [gNe_tt, gNe_ff, wX_ok, wX_exc, wO_some, wO_ite, wIf_true, wIf_false, wIf_not, wF_nx, wF_rt, wF_bk, wF_ct, w_pure, w_bind, w_of, w_m1, w_m2, w_var, w_c, w_truth, w_ite, w_and, w_or, w_not, w_andV, w_orV, w_notV, w_if, w_nil, w_cons, w_tup, w_lst, w_call, w_nx, w_seq, w_drop, w_ret, w_set, w_ifS, w_slot, w_callF, w_callK, w_app2, w_part, w_noPart, w_sl, w_seqOf, w_rng, w_for, w_forL_nil, w_app, w_ixO, w_lenO, w_popAt, w_setIx, w_aug, w_par2, w_par3, w_mbind, w_chain, wX_runF, VL.fill, VL.put, outs, startE, wipeE, backE, bindT_nm, bindT_tt, bindT_tl, bindTs_n, bindTs_c, VL.pick, List.filterMap_cons, List.filterMap_nil, List.map_cons, List.map_nil, List.length_cons, List.length_nil, List.replicate, List.cons_append, List.nil_append, List.getElem?_cons_zero, List.getElem?_cons_succ, List.set_cons_zero, List.set_cons_succ, Option.map_some, Option.bind_some, Option.getD_some, Nat.reduceSub, Nat.reduceAdd, Int.cast_ofNat_Int, Int.reduceLT, Int.reduceLE, Int.reduceNeg, Int.reduceEq, gEq_int, gNe_int, gLt_int, gGt_int, gLe_int, gGe_int, gAdd_int, gSub_int, gMul_l, gMul_r, gMod_int, gFdv_int, gNeg_i, cInt_i, cInt_b, cAbs_i, cLen_l, cLen_t, cTup_l, cTup_t, cLst_l, cLst_t, gIx_l, gIx_t, setI_i, popI_i, gSl_l, gSl_t, gSl_scr, dSeq_l, dSeq_t, dSeq_s, cMin2_i, cMax2_i, cEnum_l, cZip_l, cZip_t, tr_b, tr_i, tr_l, tr_t, tr_n, gIs_n, gIsn_n, isN, lstAt_0, lstAt_s, gAdd_l, gAdd_t, le_sizeP, lt_sizeP, gPow_i, cAll_mb, cAny_mb, w_star, w_tupS, w_lstS, w_star2, dItems_l, dItems_t, gCat_l, starT_c, gRev_ll, gRev_tt, true_and, and_true, Bool.not_true, Bool.not_false, decide_true, decide_false, isi_int_non, isi_int_bl, isi_int_int, isi_int_str, isi_int_lst, isi_int_tup, isi_str_non, isi_str_bl, isi_str_int, isi_str_str, isi_str_lst, isi_str_tup, isi_bool_non, isi_bool_bl, isi_bool_int, isi_bool_str, isi_bool_lst, isi_bool_tup, isi_list_non, isi_list_bl, isi_list_int, isi_list_str, isi_list_lst, isi_list_tup, isi_tuple_non, isi_tuple_bl, isi_tuple_int, isi_tuple_str, isi_tuple_lst, isi_tuple_tup, isi_dict_non, isi_dict_bl, isi_dict_int, isi_dict_str, isi_dict_lst, isi_dict_tup, isi_list_tuple_non, isi_list_tuple_bl, isi_list_tuple_int, isi_list_tuple_str, isi_list_tuple_lst, isi_list_tuple_tup, isi_bool_str_non, isi_bool_str_bl, isi_bool_str_int, isi_bool_str_str, isi_bool_str_lst, isi_bool_str_tup])
    refine w_map (fun d => .bool (allT d)) ?_
    have hz := zip_len xs
    (simp (disch := first | omega | (simp only [List.length_cons, List.length_nil, List.length_append, List.length_map, List.length_take, List.length_drop, List.length_reverse, List.length_set]; omega) | decide) only [cZip_l, wX_ok, wX_exc, wO_some, wO_ite, wIf_true, wIf_false, wIf_not, wF_nx, wF_rt, wF_bk, wF_ct, w_pure, w_bind, w_of, w_m1, w_m2, w_var, w_c, w_truth, w_ite, w_and, w_or, w_not, w_andV, w_orV, w_notV, w_if, w_nil, w_cons, w_tup, w_lst, w_call, w_nx, w_seq, w_drop, w_ret, w_set, w_ifS, w_slot, w_callF, w_callK, w_app2, w_part, w_noPart, w_sl, w_seqOf, w_rng, w_for, w_forL_nil, w_app, w_ixO, w_lenO, w_popAt, w_setIx, w_aug, w_par2, w_par3, w_mbind, w_chain, wX_runF, VL.fill, VL.put, outs, startE, wipeE, backE, bindT_nm, bindT_tt, bindT_tl, bindTs_n, bindTs_c, VL.pick, List.filterMap_cons, List.filterMap_nil, List.map_cons, List.map_nil, List.length_cons, List.length_nil, List.replicate, List.cons_append, List.nil_append, List.getElem?_cons_zero, List.getElem?_cons_succ, List.set_cons_zero, List.set_cons_succ, Option.map_some, Option.bind_some, Option.getD_some, Nat.reduceSub, Nat.reduceAdd, Int.cast_ofNat_Int, Int.reduceLT, Int.reduceLE, Int.reduceNeg, Int.reduceEq, gEq_int, gNe_int, gLt_int, gGt_int, gLe_int, gGe_int, gAdd_int, gSub_int, gMul_l, gMul_r, gMod_int, gFdv_int, gNeg_i, cInt_i, cInt_b, cAbs_i, cLen_l, cLen_t, cTup_l, cTup_t, cLst_l, cLst_t, gIx_l, gIx_t, setI_i, popI_i, gSl_l, gSl_t, gSl_scr, dSeq_l, dSeq_t, dSeq_s, cMin2_i, cMax2_i, cEnum_l, cZip_l, cZip_t, tr_b, tr_i, tr_l, tr_t, tr_n, gIs_n, gIsn_n, isN, lstAt_0, lstAt_s, gAdd_l, gAdd_t, le_sizeP, lt_sizeP, gPow_i, cAll_mb, cAny_mb, w_star, w_tupS, w_lstS, w_star2, dItems_l, dItems_t, gCat_l, starT_c, gRev_ll, gRev_tt, true_and, and_true, Bool.not_true, Bool.not_false, decide_true, decide_false, isi_int_non, isi_int_bl, isi_int_int, isi_int_str, isi_int_lst, isi_int_tup, isi_str_non, isi_str_bl, isi_str_int, isi_str_str, isi_str_lst, isi_str_tup, isi_bool_non, isi_bool_bl, isi_bool_int, isi_bool_str, isi_bool_lst, isi_bool_tup, isi_list_non, isi_list_bl, isi_list_int, isi_list_str, isi_list_lst, isi_list_tup, isi_tuple_non, isi_tuple_bl, isi_tuple_int, isi_tuple_str, isi_tuple_lst, isi_tuple_tup, isi_dict_non, isi_dict_bl, isi_dict_int, isi_dict_str, isi_dict_lst, isi_dict_tup, isi_list_tuple_non, isi_list_tuple_bl, isi_list_tuple_int, isi_list_tuple_str, isi_list_tuple_lst, isi_list_tuple_tup, isi_bool_str_non, isi_bool_str_bl, isi_bool_str_int, isi_bool_str_str, isi_bool_str_lst, isi_bool_str_tup])
    refine ⟨fun y hy => ?_, ?_⟩
    · obtain ⟨x, hx, rfl⟩ := zip_mem hy
      (simp (disch := first | omega | (simp only [List.length_cons, List.length_nil, List.length_append, List.length_map, List.length_take, List.length_drop, List.length_reverse, List.length_set]; omega) | decide) only [ih x hx, wX_ok, wX_exc, wO_some, wO_ite, wIf_true, wIf_false, wIf_not, wF_nx, wF_rt, wF_bk, wF_ct, w_pure, w_bind, w_of, w_m1, w_m2, w_var, w_c, w_truth, w_ite, w_and, w_or, w_not, w_andV, w_orV, w_notV, w_if, w_nil, w_cons, w_tup, w_lst, w_call, w_nx, w_seq, w_drop, w_ret, w_set, w_ifS, w_slot, w_callF, w_callK, w_app2, w_part, w_noPart, w_sl, w_seqOf, w_rng, w_for, w_forL_nil, w_app, w_ixO, w_lenO, w_popAt, w_setIx, w_aug, w_par2, w_par3, w_mbind, w_chain, wX_runF, VL.fill, VL.put, outs, startE, wipeE, backE, bindT_nm, bindT_tt, bindT_tl, bindTs_n, bindTs_c, VL.pick, List.filterMap_cons, List.filterMap_nil, List.map_cons, List.map_nil, List.length_cons, List.length_nil, List.replicate, List.cons_append, List.nil_append, List.getElem?_cons_zero, List.getElem?_cons_succ, List.set_cons_zero, List.set_cons_succ, Option.map_some, Option.bind_some, Option.getD_some, Nat.reduceSub, Nat.reduceAdd, Int.cast_ofNat_Int, Int.reduceLT, Int.reduceLE, Int.reduceNeg, Int.reduceEq, gEq_int, gNe_int, gLt_int, gGt_int, gLe_int, gGe_int, gAdd_int, gSub_int, gMul_l, gMul_r, gMod_int, gFdv_int, gNeg_i, cInt_i, cInt_b, cAbs_i, cLen_l, cLen_t, cTup_l, cTup_t, cLst_l, cLst_t, gIx_l, gIx_t, setI_i, popI_i, gSl_l, gSl_t, gSl_scr, dSeq_l, dSeq_t, dSeq_s, cMin2_i, cMax2_i, cEnum_l, cZip_l, cZip_t, tr_b, tr_i, tr_l, tr_t, tr_n, gIs_n, gIsn_n, isN, lstAt_0, lstAt_s, gAdd_l, gAdd_t, le_sizeP, lt_sizeP, gPow_i, cAll_mb, cAny_mb, w_star, w_tupS, w_lstS, w_star2, dItems_l, dItems_t, gCat_l, starT_c, gRev_ll, gRev_tt, true_and, and_true, Bool.not_true, Bool.not_false, decide_true, decide_false, isi_int_non, isi_int_bl, isi_int_int, isi_int_str, isi_int_lst, isi_int_tup, isi_str_non, isi_str_bl, isi_str_int, isi_str_str, isi_str_lst, isi_str_tup, isi_bool_non, isi_bool_bl, isi_bool_int, isi_bool_str, isi_bool_lst, isi_bool_tup, isi_list_non, isi_list_bl, isi_list_int, isi_list_str, isi_list_lst, isi_list_tup, isi_tuple_non, isi_tuple_bl, isi_tuple_int, isi_tuple_str, isi_tuple_lst, isi_tuple_tup, isi_dict_non, isi_dict_bl, isi_dict_int, isi_dict_str, isi_dict_lst, isi_dict_tup, isi_list_tuple_non, isi_list_tuple_bl, isi_list_tuple_int, isi_list_tuple_str, isi_list_tuple_lst, isi_list_tuple_tup, isi_bool_str_non, isi_bool_str_bl, isi_bool_str_int, isi_bool_str_str, isi_bool_str_lst, isi_bool_str_tup])
      rfl
    · (simp (disch := first | omega | (simp only [List.length_cons, List.length_nil, List.length_append, List.length_map, List.length_take, List.length_drop, List.length_reverse, List.length_set]; omega) | decide) only [cAll_mb, all_allT, wX_ok, wX_exc, wO_some, wO_ite, wIf_true, wIf_false, wIf_not, wF_nx, wF_rt, wF_bk, wF_ct, w_pure, w_bind, w_of, w_m1, w_m2, w_var, w_c, w_truth, w_ite, w_and, w_or, w_not, w_andV, w_orV, w_notV, w_if, w_nil, w_cons, w_tup, w_lst, w_call, w_nx, w_seq, w_drop, w_ret, w_set, w_ifS, w_slot, w_callF, w_callK, w_app2, w_part, w_noPart, w_sl, w_seqOf, w_rng, w_for, w_forL_nil, w_app, w_ixO, w_lenO, w_popAt, w_setIx, w_aug, w_par2, w_par3, w_mbind, w_chain, wX_runF, VL.fill, VL.put, outs, startE, wipeE, backE, bindT_nm, bindT_tt, bindT_tl, bindTs_n, bindTs_c, VL.pick, List.filterMap_cons, List.filterMap_nil, List.map_cons, List.map_nil, List.length_cons, List.length_nil, List.replicate, List.cons_append, List.nil_append, List.getElem?_cons_zero, List.getElem?_cons_succ, List.set_cons_zero, List.set_cons_succ, Option.map_some, Option.bind_some, Option.getD_some, Nat.reduceSub, Nat.reduceAdd, Int.cast_ofNat_Int, Int.reduceLT, Int.reduceLE, Int.reduceNeg, Int.reduceEq, gEq_int, gNe_int, gLt_int, gGt_int, gLe_int, gGe_int, gAdd_int, gSub_int, gMul_l, gMul_r, gMod_int, gFdv_int, gNeg_i, cInt_i, cInt_b, cAbs_i, cLen_l, cLen_t, cTup_l, cTup_t, cLst_l, cLst_t, gIx_l, gIx_t, setI_i, popI_i, gSl_l, gSl_t, gSl_scr, dSeq_l, dSeq_t, dSeq_s, cMin2_i, cMax2_i, cEnum_l, cZip_l, cZip_t, tr_b, tr_i, tr_l, tr_t, tr_n, gIs_n, gIsn_n, isN, lstAt_0, lstAt_s, gAdd_l, gAdd_t, le_sizeP, lt_sizeP, gPow_i, cAll_mb, cAny_mb, w_star, w_tupS, w_lstS, w_star2, dItems_l, dItems_t, gCat_l, starT_c, gRev_ll, gRev_tt, true_and, and_true, Bool.not_true, Bool.not_false, decide_true, decide_false, isi_int_non, isi_int_bl, isi_int_int, isi_int_str, isi_int_lst, isi_int_tup, isi_str_non, isi_str_bl, isi_str_int, isi_str_str, isi_str_lst, isi_str_tup, isi_bool_non, isi_bool_bl, isi_bool_int, isi_bool_str, isi_bool_lst, isi_bool_tup, isi_list_non, isi_list_bl, isi_list_int, isi_list_str, isi_list_lst, isi_list_tup, isi_tuple_non, isi_tuple_bl, isi_tuple_int, isi_tuple_str, isi_tuple_lst, isi_tuple_tup, isi_dict_non, isi_dict_bl, isi_dict_int, isi_dict_str, isi_dict_lst, isi_dict_tup, isi_list_tuple_non, isi_list_tuple_bl, isi_list_tuple_int, isi_list_tuple_str, isi_list_tuple_lst, isi_list_tuple_tup, isi_bool_str_non, isi_bool_str_bl, isi_bool_str_int, isi_bool_str_str, isi_bool_str_lst, isi_bool_str_tup])
  | @tup k xs h a ih0 =>
    rintro (_ | m) hm
    · omega
    have ih := fun x hx => ih0 x hx m (by omega)
    apply wX_eq
    unfold f__law_same
    (simp (disch := first | omega | (simp only [List.length_cons, List.length_nil, List.length_append, List.length_map, List.length_take, List.length_drop, List.length_reverse, List.length_set]; omega) | decide) only [gNe_tt, gNe_ff, wX_ok, wX_exc, wO_some, wO_ite, wIf_true, wIf_false, wIf_not, wF_nx, wF_rt, wF_bk, wF_ct, w_pure, w_bind, w_of, w_m1, w_m2, w_var, w_c, w_truth, w_ite, w_and, w_or, w_not, w_andV, w_orV, w_notV, w_if, w_nil, w_cons, w_tup, w_lst, w_call, w_nx, w_seq, w_drop, w_ret, w_set, w_ifS, w_slot, w_callF, w_callK, w_app2, w_part, w_noPart, w_sl, w_seqOf, w_rng, w_for, w_forL_nil, w_app, w_ixO, w_lenO, w_popAt, w_setIx, w_aug, w_par2, w_par3, w_mbind, w_chain, wX_runF, VL.fill, VL.put, outs, startE, wipeE, backE, bindT_nm, bindT_tt, bindT_tl, bindTs_n, bindTs_c, VL.pick, List.filterMap_cons, List.filterMap_nil, List.map_cons, List.map_nil, List.length_cons, List.length_nil, List.replicate, List.cons_append, List.nil_append, List.getElem?_cons_zero, List.getElem?_cons_succ, List.set_cons_zero, List.set_cons_succ, Option.map_some, Option.bind_some, Option.getD_some, Nat.reduceSub, Nat.reduceAdd, Int.cast_ofNat_Int, Int.reduceLT, Int.reduceLE, Int.reduceNeg, Int.reduceEq, gEq_int, gNe_int, gLt_int, gGt_int, gLe_int, gGe_int, gAdd_int, gSub_int, gMul_l, gMul_r, gMod_int, gFdv_int, gNeg_i, cInt_i, cInt_b, cAbs_i, cLen_l, cLen_t, cTup_l, cTup_t, cLst_l, cLst_t, gIx_l, gIx_t, setI_i, popI_i, gSl_l, gSl_t, gSl_scr, dSeq_l, dSeq_t, dSeq_s, cMin2_i, cMax2_i, cEnum_l, cZip_l, cZip_t, tr_b, tr_i, tr_l, tr_t, tr_n, gIs_n, gIsn_n, isN, lstAt_0, lstAt_s, gAdd_l, gAdd_t, le_sizeP, lt_sizeP, gPow_i, cAll_mb, cAny_mb, w_star, w_tupS, w_lstS, w_star2, dItems_l, dItems_t, gCat_l, starT_c, gRev_ll, gRev_tt, true_and, and_true, Bool.not_true, Bool.not_false, decide_true, decide_false, isi_int_non, isi_int_bl, isi_int_int, isi_int_str, isi_int_lst, isi_int_tup, isi_str_non, isi_str_bl, isi_str_int, isi_str_str, isi_str_lst, isi_str_tup, isi_bool_non, isi_bool_bl, isi_bool_int, isi_bool_str, isi_bool_lst, isi_bool_tup, isi_list_non, isi_list_bl, isi_list_int, isi_list_str, isi_list_lst, isi_list_tup, isi_tuple_non, isi_tuple_bl, isi_tuple_int, isi_tuple_str, isi_tuple_lst, isi_tuple_tup, isi_dict_non, isi_dict_bl, isi_dict_int, isi_dict_str, isi_dict_lst, isi_dict_tup, isi_list_tuple_non, isi_list_tuple_bl, isi_list_tuple_int, isi_list_tuple_str, isi_list_tuple_lst, isi_list_tuple_tup, isi_bool_str_non, isi_bool_str_bl, isi_bool_str_int, isi_bool_str_str, isi_bool_str_lst, isi_bool_str_tup])
    refine w_map (fun d => .bool (allT d)) ?_
    have hz := zip_len xs
    (simp (disch := first | omega | (simp only [List.length_cons, List.length_nil, List.length_append, List.length_map, List.length_take, List.length_drop, List.length_reverse, List.length_set]; omega) | decide) only [cZip_t, wX_ok, wX_exc, wO_some, wO_ite, wIf_true, wIf_false, wIf_not, wF_nx, wF_rt, wF_bk, wF_ct, w_pure, w_bind, w_of, w_m1, w_m2, w_var, w_c, w_truth, w_ite, w_and, w_or, w_not, w_andV, w_orV, w_notV, w_if, w_nil, w_cons, w_tup, w_lst, w_call, w_nx, w_seq, w_drop, w_ret, w_set, w_ifS, w_slot, w_callF, w_callK, w_app2, w_part, w_noPart, w_sl, w_seqOf, w_rng, w_for, w_forL_nil, w_app, w_ixO, w_lenO, w_popAt, w_setIx, w_aug, w_par2, w_par3, w_mbind, w_chain, wX_runF, VL.fill, VL.put, outs, startE, wipeE, backE, bindT_nm, bindT_tt, bindT_tl, bindTs_n, bindTs_c, VL.pick, List.filterMap_cons, List.filterMap_nil, List.map_cons, List.map_nil, List.length_cons, List.length_nil, List.replicate, List.cons_append, List.nil_append, List.getElem?_cons_zero, List.getElem?_cons_succ, List.set_cons_zero, List.set_cons_succ, Option.map_some, Option.bind_some, Option.getD_some, Nat.reduceSub, Nat.reduceAdd, Int.cast_ofNat_Int, Int.reduceLT, Int.reduceLE, Int.reduceNeg, Int.reduceEq, gEq_int, gNe_int, gLt_int, gGt_int, gLe_int, gGe_int, gAdd_int, gSub_int, gMul_l, gMul_r, gMod_int, gFdv_int, gNeg_i, cInt_i, cInt_b, cAbs_i, cLen_l, cLen_t, cTup_l, cTup_t, cLst_l, cLst_t, gIx_l, gIx_t, setI_i, popI_i, gSl_l, gSl_t, gSl_scr, dSeq_l, dSeq_t, dSeq_s, cMin2_i, cMax2_i, cEnum_l, cZip_l, cZip_t, tr_b, tr_i, tr_l, tr_t, tr_n, gIs_n, gIsn_n, isN, lstAt_0, lstAt_s, gAdd_l, gAdd_t, le_sizeP, lt_sizeP, gPow_i, cAll_mb, cAny_mb, w_star, w_tupS, w_lstS, w_star2, dItems_l, dItems_t, gCat_l, starT_c, gRev_ll, gRev_tt, true_and, and_true, Bool.not_true, Bool.not_false, decide_true, decide_false, isi_int_non, isi_int_bl, isi_int_int, isi_int_str, isi_int_lst, isi_int_tup, isi_str_non, isi_str_bl, isi_str_int, isi_str_str, isi_str_lst, isi_str_tup, isi_bool_non, isi_bool_bl, isi_bool_int, isi_bool_str, isi_bool_lst, isi_bool_tup, isi_list_non, isi_list_bl, isi_list_int, isi_list_str, isi_list_lst, isi_list_tup, isi_tuple_non, isi_tuple_bl, isi_tuple_int, isi_tuple_str, isi_tuple_lst, isi_tuple_tup, isi_dict_non, isi_dict_bl, isi_dict_int, isi_dict_str, isi_dict_lst, isi_dict_tup, isi_list_tuple_non, isi_list_tuple_bl, isi_list_tuple_int, isi_list_tuple_str, isi_list_tuple_lst, isi_list_tuple_tup, isi_bool_str_non, isi_bool_str_bl, isi_bool_str_int, isi_bool_str_str, isi_bool_str_lst, isi_bool_str_tup])
    refine ⟨fun y hy => ?_, ?_⟩
    · obtain ⟨x, hx, rfl⟩ := zip_mem hy
      (simp (disch := first | omega | (simp only [List.length_cons, List.length_nil, List.length_append, List.length_map, List.length_take, List.length_drop, List.length_reverse, List.length_set]; omega) | decide) only [ih x hx, wX_ok, wX_exc, wO_some, wO_ite, wIf_true, wIf_false, wIf_not, wF_nx, wF_rt, wF_bk, wF_ct, w_pure, w_bind, w_of, w_m1, w_m2, w_var, w_c, w_truth, w_ite, w_and, w_or, w_not, w_andV, w_orV, w_notV, w_if, w_nil, w_cons, w_tup, w_lst, w_call, w_nx, w_seq, w_drop, w_ret, w_set, w_ifS, w_slot, w_callF, w_callK, w_app2, w_part, w_noPart, w_sl, w_seqOf, w_rng, w_for, w_forL_nil, w_app, w_ixO, w_lenO, w_popAt, w_setIx, w_aug, w_par2, w_par3, w_mbind, w_chain, wX_runF, VL.fill, VL.put, outs, startE, wipeE, backE, bindT_nm, bindT_tt, bindT_tl, bindTs_n, bindTs_c, VL.pick, List.filterMap_cons, List.filterMap_nil, List.map_cons, List.map_nil, List.length_cons, List.length_nil, List.replicate, List.cons_append, List.nil_append, List.getElem?_cons_zero, List.getElem?_cons_succ, List.set_cons_zero, List.set_cons_succ, Option.map_some, Option.bind_some, Option.getD_some, Nat.reduceSub, Nat.reduceAdd, Int.cast_ofNat_Int, Int.reduceLT, Int.reduceLE, Int.reduceNeg, Int.reduceEq, gEq_int, gNe_int, gLt_int, gGt_int, gLe_int, gGe_int, gAdd_int, gSub_int, gMul_l, gMul_r, gMod_int, gFdv_int, gNeg_i, cInt_i, cInt_b, cAbs_i, cLen_l, cLen_t, cTup_l, cTup_t, cLst_l, cLst_t, gIx_l, gIx_t, setI_i, popI_i, gSl_l, gSl_t, gSl_scr, dSeq_l, dSeq_t, dSeq_s, cMin2_i, cMax2_i, cEnum_l, cZip_l, cZip_t, tr_b, tr_i, tr_l, tr_t, tr_n, gIs_n, gIsn_n, isN, lstAt_0, lstAt_s, gAdd_l, gAdd_t, le_sizeP, lt_sizeP, gPow_i, cAll_mb, cAny_mb, w_star, w_tupS, w_lstS, w_star2, dItems_l, dItems_t, gCat_l, starT_c, gRev_ll, gRev_tt, true_and, and_true, Bool.not_true, Bool.not_false, decide_true, decide_false, isi_int_non, isi_int_bl, isi_int_int, isi_int_str, isi_int_lst, isi_int_tup, isi_str_non, isi_str_bl, isi_str_int, isi_str_str, isi_str_lst, isi_str_tup, isi_bool_non, isi_bool_bl, isi_bool_int, isi_bool_str, isi_bool_lst, isi_bool_tup, isi_list_non, isi_list_bl, isi_list_int, isi_list_str, isi_list_lst, isi_list_tup, isi_tuple_non, isi_tuple_bl, isi_tuple_int, isi_tuple_str, isi_tuple_lst, isi_tuple_tup, isi_dict_non, isi_dict_bl, isi_dict_int, isi_dict_str, isi_dict_lst, isi_dict_tup, isi_list_tuple_non, isi_list_tuple_bl, isi_list_tuple_int, isi_list_tuple_str, isi_list_tuple_lst, isi_list_tuple_tup, isi_bool_str_non, isi_bool_str_bl, isi_bool_str_int, isi_bool_str_str, isi_bool_str_lst, isi_bool_str_tup])
      rfl
    · (simp (disch := first | omega | (simp only [List.length_cons, List.length_nil, List.length_append, List.length_map, List.length_take, List.length_drop, List.length_reverse, List.length_set]; omega) | decide) only [cAll_mb, all_allT, wX_ok, wX_exc, wO_some, wO_ite, wIf_true, wIf_false, wIf_not, wF_nx, wF_rt, wF_bk, wF_ct, w_pure, w_bind, w_of, w_m1, w_m2, w_var, w_c, w_truth, w_ite, w_and, w_or, w_not, w_andV, w_orV, w_notV, w_if, w_nil, w_cons, w_tup, w_lst, w_call, w_nx, w_seq, w_drop, w_ret, w_set, w_ifS, w_slot, w_callF, w_callK, w_app2, w_part, w_noPart, w_sl, w_seqOf, w_rng, w_for, w_forL_nil, w_app, w_ixO, w_lenO, w_popAt, w_setIx, w_aug, w_par2, w_par3, w_mbind, w_chain, wX_runF, VL.fill, VL.put, outs, startE, wipeE, backE, bindT_nm, bindT_tt, bindT_tl, bindTs_n, bindTs_c, VL.pick, List.filterMap_cons, List.filterMap_nil, List.map_cons, List.map_nil, List.length_cons, List.length_nil, List.replicate, List.cons_append, List.nil_append, List.getElem?_cons_zero, List.getElem?_cons_succ, List.set_cons_zero, List.set_cons_succ, Option.map_some, Option.bind_some, Option.getD_some, Nat.reduceSub, Nat.reduceAdd, Int.cast_ofNat_Int, Int.reduceLT, Int.reduceLE, Int.reduceNeg, Int.reduceEq, gEq_int, gNe_int, gLt_int, gGt_int, gLe_int, gGe_int, gAdd_int, gSub_int, gMul_l, gMul_r, gMod_int, gFdv_int, gNeg_i, cInt_i, cInt_b, cAbs_i, cLen_l, cLen_t, cTup_l, cTup_t, cLst_l, cLst_t, gIx_l, gIx_t, setI_i, popI_i, gSl_l, gSl_t, gSl_scr, dSeq_l, dSeq_t, dSeq_s, cMin2_i, cMax2_i, cEnum_l, cZip_l, cZip_t, tr_b, tr_i, tr_l, tr_t, tr_n, gIs_n, gIsn_n, isN, lstAt_0, lstAt_s, gAdd_l, gAdd_t, le_sizeP, lt_sizeP, gPow_i, cAll_mb, cAny_mb, w_star, w_tupS, w_lstS, w_star2, dItems_l, dItems_t, gCat_l, starT_c, gRev_ll, gRev_tt, true_and, and_true, Bool.not_true, Bool.not_false, decide_true, decide_false, isi_int_non, isi_int_bl, isi_int_int, isi_int_str, isi_int_lst, isi_int_tup, isi_str_non, isi_str_bl, isi_str_int, isi_str_str, isi_str_lst, isi_str_tup, isi_bool_non, isi_bool_bl, isi_bool_int, isi_bool_str, isi_bool_lst, isi_bool_tup, isi_list_non, isi_list_bl, isi_list_int, isi_list_str, isi_list_lst, isi_list_tup, isi_tuple_non, isi_tuple_bl, isi_tuple_int, isi_tuple_str, isi_tuple_lst, isi_tuple_tup, isi_dict_non, isi_dict_bl, isi_dict_int, isi_dict_str, isi_dict_lst, isi_dict_tup, isi_list_tuple_non, isi_list_tuple_bl, isi_list_tuple_int, isi_list_tuple_str, isi_list_tuple_lst, isi_list_tuple_tup, isi_bool_str_non, isi_bool_str_bl, isi_bool_str_int, isi_bool_str_str, isi_bool_str_lst, isi_bool_str_tup])
/-! ### rows as lists and as tuples -/
def stpL : Stp → D
  | .up n => .list [.str "up", .int n]
  | .most x n => .list [.str "most", .str x, .int n]
  | .least x n => .list [.str "least", .str x, .int n]
theorem lists_step (n : Nat) (st : Stp) : f__law_lists (n + 2) [stpD st] = .ok (stpL st, []) := by cases st <;> rfl
theorem tupled_step (n : Nat) (st : Stp) : f_tupled (n + 2) [stpD st] = .ok (stpD st, []) := by cases st <;> rfl
theorem tupled_stepL (n : Nat) (st : Stp) : f_tupled (n + 2) [stpL st] = .ok (stpD st, []) := by cases st <;> rfl
def unD : D → Stp
  | .tuple [_, .int n] => .up n
  | .tuple [.str s, .str x, .int n] => if s == "most" then .most x n else .least x n
  | .list [_, .int n] => .up n
  | .list [.str s, .str x, .int n] => if s == "most" then .most x n else .least x n
  | _ => .up 0
theorem unD_D (st : Stp) : unD (stpD st) = st := by cases st <;> rfl
theorem unD_L (st : Stp) : unD (stpL st) = st := by cases st <;> rfl
theorem lists_row (n : Nat) {sts : List Stp} (hl : sts.length ≤ 1000) : f__law_lists (n + 3) [.tuple (sts.map stpD)] = .ok (.list (sts.map stpL), []) := by
  apply wX_eq
  unfold f__law_lists
  (simp (disch := first | omega | (simp only [List.length_cons, List.length_nil, List.length_append, List.length_map, List.length_take, List.length_drop, List.length_reverse, List.length_set]; omega) | decide) only [wX_ok, wX_exc, wO_some, wO_ite, wIf_true, wIf_false, wIf_not, wF_nx, wF_rt, wF_bk, wF_ct, w_pure, w_bind, w_of, w_m1, w_m2, w_var, w_c, w_truth, w_ite, w_and, w_or, w_not, w_andV, w_orV, w_notV, w_if, w_nil, w_cons, w_tup, w_lst, w_call, w_nx, w_seq, w_drop, w_ret, w_set, w_ifS, w_slot, w_callF, w_callK, w_app2, w_part, w_noPart, w_sl, w_seqOf, w_rng, w_for, w_forL_nil, w_app, w_ixO, w_lenO, w_popAt, w_setIx, w_aug, w_par2, w_par3, w_mbind, w_chain, wX_runF, VL.fill, VL.put, outs, startE, wipeE, backE, bindT_nm, bindT_tt, bindT_tl, bindTs_n, bindTs_c, VL.pick, List.filterMap_cons, List.filterMap_nil, List.map_cons, List.map_nil, List.length_cons, List.length_nil, List.replicate, List.cons_append, List.nil_append, List.getElem?_cons_zero, List.getElem?_cons_succ, List.set_cons_zero, List.set_cons_succ, Option.map_some, Option.bind_some, Option.getD_some, Nat.reduceSub, Nat.reduceAdd, Int.cast_ofNat_Int, Int.reduceLT, Int.reduceLE, Int.reduceNeg, Int.reduceEq, gEq_int, gNe_int, gLt_int, gGt_int, gLe_int, gGe_int, gAdd_int, gSub_int, gMul_l, gMul_r, gMod_int, gFdv_int, gNeg_i, cInt_i, cInt_b, cAbs_i, cLen_l, cLen_t, cTup_l, cTup_t, cLst_l, cLst_t, gIx_l, gIx_t, setI_i, popI_i, gSl_l, gSl_t, gSl_scr, dSeq_l, dSeq_t, dSeq_s, cMin2_i, cMax2_i, cEnum_l, cZip_l, cZip_t, tr_b, tr_i, tr_l, tr_t, tr_n, gIs_n, gIsn_n, isN, lstAt_0, lstAt_s, gAdd_l, gAdd_t, le_sizeP, lt_sizeP, gPow_i, cAll_mb, cAny_mb, w_star, w_tupS, w_lstS, w_star2, dItems_l, dItems_t, gCat_l, starT_c, gRev_ll, gRev_tt, true_and, and_true, Bool.not_true, Bool.not_false, decide_true, decide_false, isi_int_non, isi_int_bl, isi_int_int, isi_int_str, isi_int_lst, isi_int_tup, isi_str_non, isi_str_bl, isi_str_int, isi_str_str, isi_str_lst, isi_str_tup, isi_bool_non, isi_bool_bl, isi_bool_int, isi_bool_str, isi_bool_lst, isi_bool_tup, isi_list_non, isi_list_bl, isi_list_int, isi_list_str, isi_list_lst, isi_list_tup, isi_tuple_non, isi_tuple_bl, isi_tuple_int, isi_tuple_str, isi_tuple_lst, isi_tuple_tup, isi_dict_non, isi_dict_bl, isi_dict_int, isi_dict_str, isi_dict_lst, isi_dict_tup, isi_list_tuple_non, isi_list_tuple_bl, isi_list_tuple_int, isi_list_tuple_str, isi_list_tuple_lst, isi_list_tuple_tup, isi_bool_str_non, isi_bool_str_bl, isi_bool_str_int, isi_bool_str_str, isi_bool_str_lst, isi_bool_str_tup])
  refine w_map (fun d => stpL (unD d)) ?_
  have hz : (sts.map stpD).length ≤ 1000 := by rw [List.length_map]; exact hl
  (simp (disch := first | omega | (simp only [List.length_cons, List.length_nil, List.length_append, List.length_map, List.length_take, List.length_drop, List.length_reverse, List.length_set]; omega) | decide) only [wX_ok, wX_exc, wO_some, wO_ite, wIf_true, wIf_false, wIf_not, wF_nx, wF_rt, wF_bk, wF_ct, w_pure, w_bind, w_of, w_m1, w_m2, w_var, w_c, w_truth, w_ite, w_and, w_or, w_not, w_andV, w_orV, w_notV, w_if, w_nil, w_cons, w_tup, w_lst, w_call, w_nx, w_seq, w_drop, w_ret, w_set, w_ifS, w_slot, w_callF, w_callK, w_app2, w_part, w_noPart, w_sl, w_seqOf, w_rng, w_for, w_forL_nil, w_app, w_ixO, w_lenO, w_popAt, w_setIx, w_aug, w_par2, w_par3, w_mbind, w_chain, wX_runF, VL.fill, VL.put, outs, startE, wipeE, backE, bindT_nm, bindT_tt, bindT_tl, bindTs_n, bindTs_c, VL.pick, List.filterMap_cons, List.filterMap_nil, List.map_cons, List.map_nil, List.length_cons, List.length_nil, List.replicate, List.cons_append, List.nil_append, List.getElem?_cons_zero, List.getElem?_cons_succ, List.set_cons_zero, List.set_cons_succ, Option.map_some, Option.bind_some, Option.getD_some, Nat.reduceSub, Nat.reduceAdd, Int.cast_ofNat_Int, Int.reduceLT, Int.reduceLE, Int.reduceNeg, Int.reduceEq, gEq_int, gNe_int, gLt_int, gGt_int, gLe_int, gGe_int, gAdd_int, gSub_int, gMul_l, gMul_r, gMod_int, gFdv_int, gNeg_i, cInt_i, cInt_b, cAbs_i, cLen_l, cLen_t, cTup_l, cTup_t, cLst_l, cLst_t, gIx_l, gIx_t, setI_i, popI_i, gSl_l, gSl_t, gSl_scr, dSeq_l, dSeq_t, dSeq_s, cMin2_i, cMax2_i, cEnum_l, cZip_l, cZip_t, tr_b, tr_i, tr_l, tr_t, tr_n, gIs_n, gIsn_n, isN, lstAt_0, lstAt_s, gAdd_l, gAdd_t, le_sizeP, lt_sizeP, gPow_i, cAll_mb, cAny_mb, w_star, w_tupS, w_lstS, w_star2, dItems_l, dItems_t, gCat_l, starT_c, gRev_ll, gRev_tt, true_and, and_true, Bool.not_true, Bool.not_false, decide_true, decide_false, isi_int_non, isi_int_bl, isi_int_int, isi_int_str, isi_int_lst, isi_int_tup, isi_str_non, isi_str_bl, isi_str_int, isi_str_str, isi_str_lst, isi_str_tup, isi_bool_non, isi_bool_bl, isi_bool_int, isi_bool_str, isi_bool_lst, isi_bool_tup, isi_list_non, isi_list_bl, isi_list_int, isi_list_str, isi_list_lst, isi_list_tup, isi_tuple_non, isi_tuple_bl, isi_tuple_int, isi_tuple_str, isi_tuple_lst, isi_tuple_tup, isi_dict_non, isi_dict_bl, isi_dict_int, isi_dict_str, isi_dict_lst, isi_dict_tup, isi_list_tuple_non, isi_list_tuple_bl, isi_list_tuple_int, isi_list_tuple_str, isi_list_tuple_lst, isi_list_tuple_tup, isi_bool_str_non, isi_bool_str_bl, isi_bool_str_int, isi_bool_str_str, isi_bool_str_lst, isi_bool_str_tup])
  refine ⟨fun y hy => ?_, ?_⟩
  · obtain ⟨st, _, rfl⟩ := List.mem_map.mp hy
    (simp (disch := first | omega | (simp only [List.length_cons, List.length_nil, List.length_append, List.length_map, List.length_take, List.length_drop, List.length_reverse, List.length_set]; omega) | decide) only [lists_step, unD_D, wX_ok, wX_exc, wO_some, wO_ite, wIf_true, wIf_false, wIf_not, wF_nx, wF_rt, wF_bk, wF_ct, w_pure, w_bind, w_of, w_m1, w_m2, w_var, w_c, w_truth, w_ite, w_and, w_or, w_not, w_andV, w_orV, w_notV, w_if, w_nil, w_cons, w_tup, w_lst, w_call, w_nx, w_seq, w_drop, w_ret, w_set, w_ifS, w_slot, w_callF, w_callK, w_app2, w_part, w_noPart, w_sl, w_seqOf, w_rng, w_for, w_forL_nil, w_app, w_ixO, w_lenO, w_popAt, w_setIx, w_aug, w_par2, w_par3, w_mbind, w_chain, wX_runF, VL.fill, VL.put, outs, startE, wipeE, backE, bindT_nm, bindT_tt, bindT_tl, bindTs_n, bindTs_c, VL.pick, List.filterMap_cons, List.filterMap_nil, List.map_cons, List.map_nil, List.length_cons, List.length_nil, List.replicate, List.cons_append, List.nil_append, List.getElem?_cons_zero, List.getElem?_cons_succ, List.set_cons_zero, List.set_cons_succ, Option.map_some, Option.bind_some, Option.getD_some, Nat.reduceSub, Nat.reduceAdd, Int.cast_ofNat_Int, Int.reduceLT, Int.reduceLE, Int.reduceNeg, Int.reduceEq, gEq_int, gNe_int, gLt_int, gGt_int, gLe_int, gGe_int, gAdd_int, gSub_int, gMul_l, gMul_r, gMod_int, gFdv_int, gNeg_i, cInt_i, cInt_b, cAbs_i, cLen_l, cLen_t, cTup_l, cTup_t, cLst_l, cLst_t, gIx_l, gIx_t, setI_i, popI_i, gSl_l, gSl_t, gSl_scr, dSeq_l, dSeq_t, dSeq_s, cMin2_i, cMax2_i, cEnum_l, cZip_l, cZip_t, tr_b, tr_i, tr_l, tr_t, tr_n, gIs_n, gIsn_n, isN, lstAt_0, lstAt_s, gAdd_l, gAdd_t, le_sizeP, lt_sizeP, gPow_i, cAll_mb, cAny_mb, w_star, w_tupS, w_lstS, w_star2, dItems_l, dItems_t, gCat_l, starT_c, gRev_ll, gRev_tt, true_and, and_true, Bool.not_true, Bool.not_false, decide_true, decide_false, isi_int_non, isi_int_bl, isi_int_int, isi_int_str, isi_int_lst, isi_int_tup, isi_str_non, isi_str_bl, isi_str_int, isi_str_str, isi_str_lst, isi_str_tup, isi_bool_non, isi_bool_bl, isi_bool_int, isi_bool_str, isi_bool_lst, isi_bool_tup, isi_list_non, isi_list_bl, isi_list_int, isi_list_str, isi_list_lst, isi_list_tup, isi_tuple_non, isi_tuple_bl, isi_tuple_int, isi_tuple_str, isi_tuple_lst, isi_tuple_tup, isi_dict_non, isi_dict_bl, isi_dict_int, isi_dict_str, isi_dict_lst, isi_dict_tup, isi_list_tuple_non, isi_list_tuple_bl, isi_list_tuple_int, isi_list_tuple_str, isi_list_tuple_lst, isi_list_tuple_tup, isi_bool_str_non, isi_bool_str_bl, isi_bool_str_int, isi_bool_str_str, isi_bool_str_lst, isi_bool_str_tup])
  · rw [List.map_map]
    exact congrArg (fun l => (PyData.list l, ([] : List D))) (List.map_congr_left fun st _ => congrArg stpL (unD_D st))
theorem tupled_row (n : Nat) {sts : List Stp} (hl : sts.length ≤ 1000) : f_tupled (n + 3) [.tuple (sts.map stpD)] = .ok (.tuple (sts.map stpD), []) := by
  apply wX_eq
  unfold f_tupled
  (simp (disch := first | omega | (simp only [List.length_cons, List.length_nil, List.length_append, List.length_map, List.length_take, List.length_drop, List.length_reverse, List.length_set]; omega) | decide) only [wX_ok, wX_exc, wO_some, wO_ite, wIf_true, wIf_false, wIf_not, wF_nx, wF_rt, wF_bk, wF_ct, w_pure, w_bind, w_of, w_m1, w_m2, w_var, w_c, w_truth, w_ite, w_and, w_or, w_not, w_andV, w_orV, w_notV, w_if, w_nil, w_cons, w_tup, w_lst, w_call, w_nx, w_seq, w_drop, w_ret, w_set, w_ifS, w_slot, w_callF, w_callK, w_app2, w_part, w_noPart, w_sl, w_seqOf, w_rng, w_for, w_forL_nil, w_app, w_ixO, w_lenO, w_popAt, w_setIx, w_aug, w_par2, w_par3, w_mbind, w_chain, wX_runF, VL.fill, VL.put, outs, startE, wipeE, backE, bindT_nm, bindT_tt, bindT_tl, bindTs_n, bindTs_c, VL.pick, List.filterMap_cons, List.filterMap_nil, List.map_cons, List.map_nil, List.length_cons, List.length_nil, List.replicate, List.cons_append, List.nil_append, List.getElem?_cons_zero, List.getElem?_cons_succ, List.set_cons_zero, List.set_cons_succ, Option.map_some, Option.bind_some, Option.getD_some, Nat.reduceSub, Nat.reduceAdd, Int.cast_ofNat_Int, Int.reduceLT, Int.reduceLE, Int.reduceNeg, Int.reduceEq, gEq_int, gNe_int, gLt_int, gGt_int, gLe_int, gGe_int, gAdd_int, gSub_int, gMul_l, gMul_r, gMod_int, gFdv_int, gNeg_i, cInt_i, cInt_b, cAbs_i, cLen_l, cLen_t, cTup_l, cTup_t, cLst_l, cLst_t, gIx_l, gIx_t, setI_i, popI_i, gSl_l, gSl_t, gSl_scr, dSeq_l, dSeq_t, dSeq_s, cMin2_i, cMax2_i, cEnum_l, cZip_l, cZip_t, tr_b, tr_i, tr_l, tr_t, tr_n, gIs_n, gIsn_n, isN, lstAt_0, lstAt_s, gAdd_l, gAdd_t, le_sizeP, lt_sizeP, gPow_i, cAll_mb, cAny_mb, w_star, w_tupS, w_lstS, w_star2, dItems_l, dItems_t, gCat_l, starT_c, gRev_ll, gRev_tt, true_and, and_true, Bool.not_true, Bool.not_false, decide_true, decide_false, isi_int_non, isi_int_bl, isi_int_int, isi_int_str, isi_int_lst, isi_int_tup, isi_str_non, isi_str_bl, isi_str_int, isi_str_str, isi_str_lst, isi_str_tup, isi_bool_non, isi_bool_bl, isi_bool_int, isi_bool_str, isi_bool_lst, isi_bool_tup, isi_list_non, isi_list_bl, isi_list_int, isi_list_str, isi_list_lst, isi_list_tup, isi_tuple_non, isi_tuple_bl, isi_tuple_int, isi_tuple_str, isi_tuple_lst, isi_tuple_tup, isi_dict_non, isi_dict_bl, isi_dict_int, isi_dict_str, isi_dict_lst, isi_dict_tup, isi_list_tuple_non, isi_list_tuple_bl, isi_list_tuple_int, isi_list_tuple_str, isi_list_tuple_lst, isi_list_tuple_tup, isi_bool_str_non, isi_bool_str_bl, isi_bool_str_int, isi_bool_str_str, isi_bool_str_lst, isi_bool_str_tup])
  refine w_map (fun d => stpD (unD d)) ?_
  have hz : (sts.map stpD).length ≤ 1000 := by rw [List.length_map]; exact hl
  (simp (disch := first | omega | (simp only [List.length_cons, List.length_nil, List.length_append, List.length_map, List.length_take, List.length_drop, List.length_reverse, List.length_set]; omega) | decide) only [wX_ok, wX_exc, wO_some, wO_ite, wIf_true, wIf_false, wIf_not, wF_nx, wF_rt, wF_bk, wF_ct, w_pure, w_bind, w_of, w_m1, w_m2, w_var, w_c, w_truth, w_ite, w_and, w_or, w_not, w_andV, w_orV, w_notV, w_if, w_nil, w_cons, w_tup, w_lst, w_call, w_nx, w_seq, w_drop, w_ret, w_set, w_ifS, w_slot, w_callF, w_callK, w_app2, w_part, w_noPart, w_sl, w_seqOf, w_rng, w_for, w_forL_nil, w_app, w_ixO, w_lenO, w_popAt, w_setIx, w_aug, w_par2, w_par3, w_mbind, w_chain, wX_runF, VL.fill, VL.put, outs, startE, wipeE, backE, bindT_nm, bindT_tt, bindT_tl, bindTs_n, bindTs_c, VL.pick, List.filterMap_cons, List.filterMap_nil, List.map_cons, List.map_nil, List.length_cons, List.length_nil, List.replicate, List.cons_append, List.nil_append, List.getElem?_cons_zero, List.getElem?_cons_succ, List.set_cons_zero, List.set_cons_succ, Option.map_some, Option.bind_some, Option.getD_some, Nat.reduceSub, Nat.reduceAdd, Int.cast_ofNat_Int, Int.reduceLT, Int.reduceLE, Int.reduceNeg, Int.reduceEq, gEq_int, gNe_int, gLt_int, gGt_int, gLe_int, gGe_int, gAdd_int, gSub_int, gMul_l, gMul_r, gMod_int, gFdv_int, gNeg_i, cInt_i, cInt_b, cAbs_i, cLen_l, cLen_t, cTup_l, cTup_t, cLst_l, cLst_t, gIx_l, gIx_t, setI_i, popI_i, gSl_l, gSl_t, gSl_scr, dSeq_l, dSeq_t, dSeq_s, cMin2_i, cMax2_i, cEnum_l, cZip_l, cZip_t, tr_b, tr_i, tr_l, tr_t, tr_n, gIs_n, gIsn_n, isN, lstAt_0, lstAt_s, gAdd_l, gAdd_t, le_sizeP, lt_sizeP, gPow_i, cAll_mb, cAny_mb, w_star, w_tupS, w_lstS, w_star2, dItems_l, dItems_t, gCat_l, starT_c, gRev_ll, gRev_tt, true_and, and_true, Bool.not_true, Bool.not_false, decide_true, decide_false, isi_int_non, isi_int_bl, isi_int_int, isi_int_str, isi_int_lst, isi_int_tup, isi_str_non, isi_str_bl, isi_str_int, isi_str_str, isi_str_lst, isi_str_tup, isi_bool_non, isi_bool_bl, isi_bool_int, isi_bool_str, isi_bool_lst, isi_bool_tup, isi_list_non, isi_list_bl, isi_list_int, isi_list_str, isi_list_lst, isi_list_tup, isi_tuple_non, isi_tuple_bl, isi_tuple_int, isi_tuple_str, isi_tuple_lst, isi_tuple_tup, isi_dict_non, isi_dict_bl, isi_dict_int, isi_dict_str, isi_dict_lst, isi_dict_tup, isi_list_tuple_non, isi_list_tuple_bl, isi_list_tuple_int, isi_list_tuple_str, isi_list_tuple_lst, isi_list_tuple_tup, isi_bool_str_non, isi_bool_str_bl, isi_bool_str_int, isi_bool_str_str, isi_bool_str_lst, isi_bool_str_tup])
  refine ⟨fun y hy => ?_, ?_⟩
  · obtain ⟨st, _, rfl⟩ := List.mem_map.mp hy
    (simp (disch := first | omega | (simp only [List.length_cons, List.length_nil, List.length_append, List.length_map, List.length_take, List.length_drop, List.length_reverse, List.length_set]; omega) | decide) only [tupled_step, unD_D, wX_ok, wX_exc, wO_some, wO_ite, wIf_true, wIf_false, wIf_not, wF_nx, wF_rt, wF_bk, wF_ct, w_pure, w_bind, w_of, w_m1, w_m2, w_var, w_c, w_truth, w_ite, w_and, w_or, w_not, w_andV, w_orV, w_notV, w_if, w_nil, w_cons, w_tup, w_lst, w_call, w_nx, w_seq, w_drop, w_ret, w_set, w_ifS, w_slot, w_callF, w_callK, w_app2, w_part, w_noPart, w_sl, w_seqOf, w_rng, w_for, w_forL_nil, w_app, w_ixO, w_lenO, w_popAt, w_setIx, w_aug, w_par2, w_par3, w_mbind, w_chain, wX_runF, VL.fill, VL.put, outs, startE, wipeE, backE, bindT_nm, bindT_tt, bindT_tl, bindTs_n, bindTs_c, VL.pick, List.filterMap_cons, List.filterMap_nil, List.map_cons, List.map_nil, List.length_cons, List.length_nil, List.replicate, List.cons_append, List.nil_append, List.getElem?_cons_zero, List.getElem?_cons_succ, List.set_cons_zero, List.set_cons_succ, Option.map_some, Option.bind_some, Option.getD_some, Nat.reduceSub, Nat.reduceAdd, Int.cast_ofNat_Int, Int.reduceLT, Int.reduceLE, Int.reduceNeg, Int.reduceEq, gEq_int, gNe_int, gLt_int, gGt_int, gLe_int, gGe_int, gAdd_int, gSub_int, gMul_l, gMul_r, gMod_int, gFdv_int, gNeg_i, cInt_i, cInt_b, cAbs_i, cLen_l, cLen_t, cTup_l, cTup_t, cLst_l, cLst_t, gIx_l, gIx_t, setI_i, popI_i, gSl_l, gSl_t, gSl_scr, dSeq_l, dSeq_t, dSeq_s, cMin2_i, cMax2_i, cEnum_l, cZip_l, cZip_t, tr_b, tr_i, tr_l, tr_t, tr_n, gIs_n, gIsn_n, isN, lstAt_0, lstAt_s, gAdd_l, gAdd_t, le_sizeP, lt_sizeP, gPow_i, cAll_mb, cAny_mb, w_star, w_tupS, w_lstS, w_star2, dItems_l, dItems_t, gCat_l, starT_c, gRev_ll, gRev_tt, true_and, and_true, Bool.not_true, Bool.not_false, decide_true, decide_false, isi_int_non, isi_int_bl, isi_int_int, isi_int_str, isi_int_lst, isi_int_tup, isi_str_non, isi_str_bl, isi_str_int, isi_str_str, isi_str_lst, isi_str_tup, isi_bool_non, isi_bool_bl, isi_bool_int, isi_bool_str, isi_bool_lst, isi_bool_tup, isi_list_non, isi_list_bl, isi_list_int, isi_list_str, isi_list_lst, isi_list_tup, isi_tuple_non, isi_tuple_bl, isi_tuple_int, isi_tuple_str, isi_tuple_lst, isi_tuple_tup, isi_dict_non, isi_dict_bl, isi_dict_int, isi_dict_str, isi_dict_lst, isi_dict_tup, isi_list_tuple_non, isi_list_tuple_bl, isi_list_tuple_int, isi_list_tuple_str, isi_list_tuple_lst, isi_list_tuple_tup, isi_bool_str_non, isi_bool_str_bl, isi_bool_str_int, isi_bool_str_str, isi_bool_str_lst, isi_bool_str_tup])
  · rw [List.map_map]
    have e : List.map ((fun d => stpD (unD d)) ∘ stpD) sts = sts.map stpD := List.map_congr_left fun st _ => congrArg stpD (unD_D st)
    rw [e]
theorem tupled_rowL (n : Nat) {sts : List Stp} (hl : sts.length ≤ 1000) : f_tupled (n + 3) [.list (sts.map stpL)] = .ok (.tuple (sts.map stpD), []) := by
  apply wX_eq
  unfold f_tupled
  (simp (disch := first | omega | (simp only [List.length_cons, List.length_nil, List.length_append, List.length_map, List.length_take, List.length_drop, List.length_reverse, List.length_set]; omega) | decide) only [wX_ok, wX_exc, wO_some, wO_ite, wIf_true, wIf_false, wIf_not, wF_nx, wF_rt, wF_bk, wF_ct, w_pure, w_bind, w_of, w_m1, w_m2, w_var, w_c, w_truth, w_ite, w_and, w_or, w_not, w_andV, w_orV, w_notV, w_if, w_nil, w_cons, w_tup, w_lst, w_call, w_nx, w_seq, w_drop, w_ret, w_set, w_ifS, w_slot, w_callF, w_callK, w_app2, w_part, w_noPart, w_sl, w_seqOf, w_rng, w_for, w_forL_nil, w_app, w_ixO, w_lenO, w_popAt, w_setIx, w_aug, w_par2, w_par3, w_mbind, w_chain, wX_runF, VL.fill, VL.put, outs, startE, wipeE, backE, bindT_nm, bindT_tt, bindT_tl, bindTs_n, bindTs_c, VL.pick, List.filterMap_cons, List.filterMap_nil, List.map_cons, List.map_nil, List.length_cons, List.length_nil, List.replicate, List.cons_append, List.nil_append, List.getElem?_cons_zero, List.getElem?_cons_succ, List.set_cons_zero, List.set_cons_succ, Option.map_some, Option.bind_some, Option.getD_some, Nat.reduceSub, Nat.reduceAdd, Int.cast_ofNat_Int, Int.reduceLT, Int.reduceLE, Int.reduceNeg, Int.reduceEq, gEq_int, gNe_int, gLt_int, gGt_int, gLe_int, gGe_int, gAdd_int, gSub_int, gMul_l, gMul_r, gMod_int, gFdv_int, gNeg_i, cInt_i, cInt_b, cAbs_i, cLen_l, cLen_t, cTup_l, cTup_t, cLst_l, cLst_t, gIx_l, gIx_t, setI_i, popI_i, gSl_l, gSl_t, gSl_scr, dSeq_l, dSeq_t, dSeq_s, cMin2_i, cMax2_i, cEnum_l, cZip_l, cZip_t, tr_b, tr_i, tr_l, tr_t, tr_n, gIs_n, gIsn_n, isN, lstAt_0, lstAt_s, gAdd_l, gAdd_t, le_sizeP, lt_sizeP, gPow_i, cAll_mb, cAny_mb, w_star, w_tupS, w_lstS, w_star2, dItems_l, dItems_t, gCat_l, starT_c, gRev_ll, gRev_tt, true_and, and_true, Bool.not_true, Bool.not_false, decide_true, decide_false, isi_int_non, isi_int_bl, isi_int_int, isi_int_str, isi_int_lst, isi_int_tup, isi_str_non, isi_str_bl, isi_str_int, isi_str_str, isi_str_lst, isi_str_tup, isi_bool_non, isi_bool_bl, isi_bool_int, isi_bool_str, isi_bool_lst, isi_bool_tup, isi_list_non, isi_list_bl, isi_list_int, isi_list_str, isi_list_lst, isi_list_tup, isi_tuple_non, isi_tuple_bl, isi_tuple_int, isi_tuple_str, isi_tuple_lst, isi_tuple_tup, isi_dict_non, isi_dict_bl, isi_dict_int, isi_dict_str, isi_dict_lst, isi_dict_tup, isi_list_tuple_non, isi_list_tuple_bl, isi_list_tuple_int, isi_list_tuple_str, isi_list_tuple_lst, isi_list_tuple_tup, isi_bool_str_non, isi_bool_str_bl, isi_bool_str_int, isi_bool_str_str, isi_bool_str_lst, isi_bool_str_tup])
  refine w_map (fun d => stpD (unD d)) ?_
  have hz : (sts.map stpL).length ≤ 1000 := by rw [List.length_map]; exact hl
  (simp (disch := first | omega | (simp only [List.length_cons, List.length_nil, List.length_append, List.length_map, List.length_take, List.length_drop, List.length_reverse, List.length_set]; omega) | decide) only [wX_ok, wX_exc, wO_some, wO_ite, wIf_true, wIf_false, wIf_not, wF_nx, wF_rt, wF_bk, wF_ct, w_pure, w_bind, w_of, w_m1, w_m2, w_var, w_c, w_truth, w_ite, w_and, w_or, w_not, w_andV, w_orV, w_notV, w_if, w_nil, w_cons, w_tup, w_lst, w_call, w_nx, w_seq, w_drop, w_ret, w_set, w_ifS, w_slot, w_callF, w_callK, w_app2, w_part, w_noPart, w_sl, w_seqOf, w_rng, w_for, w_forL_nil, w_app, w_ixO, w_lenO, w_popAt, w_setIx, w_aug, w_par2, w_par3, w_mbind, w_chain, wX_runF, VL.fill, VL.put, outs, startE, wipeE, backE, bindT_nm, bindT_tt, bindT_tl, bindTs_n, bindTs_c, VL.pick, List.filterMap_cons, List.filterMap_nil, List.map_cons, List.map_nil, List.length_cons, List.length_nil, List.replicate, List.cons_append, List.nil_append, List.getElem?_cons_zero, List.getElem?_cons_succ, List.set_cons_zero, List.set_cons_succ, Option.map_some, Option.bind_some, Option.getD_some, Nat.reduceSub, Nat.reduceAdd, Int.cast_ofNat_Int, Int.reduceLT, Int.reduceLE, Int.reduceNeg, Int.reduceEq, gEq_int, gNe_int, gLt_int, gGt_int, gLe_int, gGe_int, gAdd_int, gSub_int, gMul_l, gMul_r, gMod_int, gFdv_int, gNeg_i, cInt_i, cInt_b, cAbs_i, cLen_l, cLen_t, cTup_l, cTup_t, cLst_l, cLst_t, gIx_l, gIx_t, setI_i, popI_i, gSl_l, gSl_t, gSl_scr, dSeq_l, dSeq_t, dSeq_s, cMin2_i, cMax2_i, cEnum_l, cZip_l, cZip_t, tr_b, tr_i, tr_l, tr_t, tr_n, gIs_n, gIsn_n, isN, lstAt_0, lstAt_s, gAdd_l, gAdd_t, le_sizeP, lt_sizeP, gPow_i, cAll_mb, cAny_mb, w_star, w_tupS, w_lstS, w_star2, dItems_l, dItems_t, gCat_l, starT_c, gRev_ll, gRev_tt, true_and, and_true, Bool.not_true, Bool.not_false, decide_true, decide_false, isi_int_non, isi_int_bl, isi_int_int, isi_int_str, isi_int_lst, isi_int_tup, isi_str_non, isi_str_bl, isi_str_int, isi_str_str, isi_str_lst, isi_str_tup, isi_bool_non, isi_bool_bl, isi_bool_int, isi_bool_str, isi_bool_lst, isi_bool_tup, isi_list_non, isi_list_bl, isi_list_int, isi_list_str, isi_list_lst, isi_list_tup, isi_tuple_non, isi_tuple_bl, isi_tuple_int, isi_tuple_str, isi_tuple_lst, isi_tuple_tup, isi_dict_non, isi_dict_bl, isi_dict_int, isi_dict_str, isi_dict_lst, isi_dict_tup, isi_list_tuple_non, isi_list_tuple_bl, isi_list_tuple_int, isi_list_tuple_str, isi_list_tuple_lst, isi_list_tuple_tup, isi_bool_str_non, isi_bool_str_bl, isi_bool_str_int, isi_bool_str_str, isi_bool_str_lst, isi_bool_str_tup])
  refine ⟨fun y hy => ?_, ?_⟩
  · obtain ⟨st, _, rfl⟩ := List.mem_map.mp hy
    (simp (disch := first | omega | (simp only [List.length_cons, List.length_nil, List.length_append, List.length_map, List.length_take, List.length_drop, List.length_reverse, List.length_set]; omega) | decide) only [tupled_stepL, unD_L, wX_ok, wX_exc, wO_some, wO_ite, wIf_true, wIf_false, wIf_not, wF_nx, wF_rt, wF_bk, wF_ct, w_pure, w_bind, w_of, w_m1, w_m2, w_var, w_c, w_truth, w_ite, w_and, w_or, w_not, w_andV, w_orV, w_notV, w_if, w_nil, w_cons, w_tup, w_lst, w_call, w_nx, w_seq, w_drop, w_ret, w_set, w_ifS, w_slot, w_callF, w_callK, w_app2, w_part, w_noPart, w_sl, w_seqOf, w_rng, w_for, w_forL_nil, w_app, w_ixO, w_lenO, w_popAt, w_setIx, w_aug, w_par2, w_par3, w_mbind, w_chain, wX_runF, VL.fill, VL.put, outs, startE, wipeE, backE, bindT_nm, bindT_tt, bindT_tl, bindTs_n, bindTs_c, VL.pick, List.filterMap_cons, List.filterMap_nil, List.map_cons, List.map_nil, List.length_cons, List.length_nil, List.replicate, List.cons_append, List.nil_append, List.getElem?_cons_zero, List.getElem?_cons_succ, List.set_cons_zero, List.set_cons_succ, Option.map_some, Option.bind_some, Option.getD_some, Nat.reduceSub, Nat.reduceAdd, Int.cast_ofNat_Int, Int.reduceLT, Int.reduceLE, Int.reduceNeg, Int.reduceEq, gEq_int, gNe_int, gLt_int, gGt_int, gLe_int, gGe_int, gAdd_int, gSub_int, gMul_l, gMul_r, gMod_int, gFdv_int, gNeg_i, cInt_i, cInt_b, cAbs_i, cLen_l, cLen_t, cTup_l, cTup_t, cLst_l, cLst_t, gIx_l, gIx_t, setI_i, popI_i, gSl_l, gSl_t, gSl_scr, dSeq_l, dSeq_t, dSeq_s, cMin2_i, cMax2_i, cEnum_l, cZip_l, cZip_t, tr_b, tr_i, tr_l, tr_t, tr_n, gIs_n, gIsn_n, isN, lstAt_0, lstAt_s, gAdd_l, gAdd_t, le_sizeP, lt_sizeP, gPow_i, cAll_mb, cAny_mb, w_star, w_tupS, w_lstS, w_star2, dItems_l, dItems_t, gCat_l, starT_c, gRev_ll, gRev_tt, true_and, and_true, Bool.not_true, Bool.not_false, decide_true, decide_false, isi_int_non, isi_int_bl, isi_int_int, isi_int_str, isi_int_lst, isi_int_tup, isi_str_non, isi_str_bl, isi_str_int, isi_str_str, isi_str_lst, isi_str_tup, isi_bool_non, isi_bool_bl, isi_bool_int, isi_bool_str, isi_bool_lst, isi_bool_tup, isi_list_non, isi_list_bl, isi_list_int, isi_list_str, isi_list_lst, isi_list_tup, isi_tuple_non, isi_tuple_bl, isi_tuple_int, isi_tuple_str, isi_tuple_lst, isi_tuple_tup, isi_dict_non, isi_dict_bl, isi_dict_int, isi_dict_str, isi_dict_lst, isi_dict_tup, isi_list_tuple_non, isi_list_tuple_bl, isi_list_tuple_int, isi_list_tuple_str, isi_list_tuple_lst, isi_list_tuple_tup, isi_bool_str_non, isi_bool_str_bl, isi_bool_str_int, isi_bool_str_str, isi_bool_str_lst, isi_bool_str_tup])
  · rw [List.map_map]
    have e : List.map ((fun d => stpD (unD d)) ∘ stpL) sts = sts.map stpD := List.map_congr_left fun st _ => congrArg stpD (unD_L st)
    rw [e]
end LL
end

section
set_option Elab.async false
set_option linter.all false
set_option maxRecDepth 100000
set_option maxHeartbeats 1000000
namespace LL
open PySem VL
theorem seq_uu : (("up" : Str) == "up") = true := by decide
theorem seq_mu : (("most" : Str) == "up") = false := by decide
theorem seq_lu : (("least" : Str) == "up") = false := by decide
theorem seq_mm : (("most" : Str) == "most") = true := by decide
theorem seq_lm : (("least" : Str) == "most") = false := by decide
theorem gNe_str (a b : Str) : gNe (.str a) (.str b) = some (.bool (!(a == b))) := rfl
theorem kix_m : gKix [("most", "least"), ("least", "most")] (.str "most") = some (.str "least") := by rfl
theorem kix_l : gKix [("most", "least"), ("least", "most")] (.str "least") = some (.str "most") := by rfl
theorem cut1 {α : Type} (x : α) (xs : List α) : cutD (x :: xs) (some (1 : Int)) none = xs := cut_from (x :: xs) 1
theorem at3 {α : Type} (a b c d : α) (l : List α) : L2.atI (a :: b :: c :: d :: l) 3 = some d := atI_nat (xs := a :: b :: c :: d :: l) (i := 3) (x := d) rfl
/-! ### what a row tells -/
def ups : List Stp → Int
  | [] => 0
  | .up n :: r => ups r + n
  | .most _ _ :: r => ups r
  | .least _ _ :: r => ups r
def trm : List Stp → List D
  | [] => []
  | .up _ :: r => trm r
  | .most x n :: r => .tuple [.str "most", .str x, .int (n + ups r)] :: trm r
  | .least x n :: r => .tuple [.str "least", .str x, .int (n + ups r)] :: trm r
def trk : Nat → List Stp → List D
  | _, [] => []
  | i, .up _ :: r => trk (i + 1) r
  | i, .most x n :: r => .tuple [.int i, .str "most", .str x, .int (n + ups r)] :: trk (i + 1) r
  | i, .least x n :: r => .tuple [.int i, .str "least", .str x, .int (n + ups r)] :: trk (i + 1) r
def nms : List Stp → List Str
  | [] => []
  | .up _ :: r => nms r
  | .most x _ :: r => x :: nms r
  | .least x _ :: r => x :: nms r
def oppS : Stp → Stp
  | .up n => .up (-n)
  | .most x n => .least x (-n)
  | .least x n => .most x (-n)
theorem oppS_oppS (st : Stp) : oppS (oppS st) = st := by cases st <;> simp [oppS]
theorem trm_len : ∀ l : List Stp, (trm l).length ≤ l.length
  | [] => Nat.le_refl _
  | .up _ :: r => by have := trm_len r; simp only [trm, List.length_cons]; omega
  | .most _ _ :: r => by have := trm_len r; simp only [trm, List.length_cons]; omega
  | .least _ _ :: r => by have := trm_len r; simp only [trm, List.length_cons]; omega
theorem trk_len : ∀ (i : Nat) (l : List Stp), (trk i l).length ≤ l.length
  | _, [] => Nat.le_refl _
  | i, .up _ :: r => by have := trk_len (i + 1) r; simp only [trk, List.length_cons]; omega
  | i, .most _ _ :: r => by have := trk_len (i + 1) r; simp only [trk, List.length_cons]; omega
  | i, .least _ _ :: r => by have := trk_len (i + 1) r; simp only [trk, List.length_cons]; omega
theorem nms_len : ∀ l : List Stp, (nms l).length ≤ l.length
  | [] => Nat.le_refl _
  | .up _ :: r => by have := nms_len r; simp only [nms, List.length_cons]; omega
  | .most _ _ :: r => by have := nms_len r; simp only [nms, List.length_cons]; omega
  | .least _ _ :: r => by have := nms_len r; simp only [nms, List.length_cons]; omega
def third : D → D
  | .tuple [_, _, z, _] => z
  | _ => .none
def rest1 : D → D
  | .tuple (_ :: r) => .tuple r
  | x => x
theorem trk_third : ∀ (i : Nat) (l : List Stp), (trk i l).map third = (nms l).map .str
  | _, [] => rfl
  | i, .up _ :: r => trk_third (i + 1) r
  | i, .most x _ :: r => congrArg (PyData.str x :: ·) (trk_third (i + 1) r)
  | i, .least x _ :: r => congrArg (PyData.str x :: ·) (trk_third (i + 1) r)
theorem trk_rest : ∀ (i : Nat) (l : List Stp), (trk i l).map rest1 = trm l
  | _, [] => rfl
  | i, .up _ :: r => trk_rest (i + 1) r
  | i, .most x n :: r => congrArg (PyData.tuple [.str "most", .str x, .int (n + ups r)] :: ·) (trk_rest (i + 1) r)
  | i, .least x n :: r => congrArg (PyData.tuple [.str "least", .str x, .int (n + ups r)] :: ·) (trk_rest (i + 1) r)
theorem trk_mem : ∀ {i : Nat} {l : List Stp} {d : D}, d ∈ trk i l → ∃ (k : Nat) (s x : Str) (n : Int), d = .tuple [.int k, .str s, .str x, .int n]
  | i, .up _ :: r, d, h => trk_mem (i := i + 1) (l := r) h
  | i, .most x n :: r, d, h => by
    rcases List.mem_cons.mp h with rfl | h
    · exact ⟨_, _, _, _, rfl⟩
    · exact trk_mem (i := i + 1) (l := r) h
  | i, .least x n :: r, d, h => by
    rcases List.mem_cons.mp h with rfl | h
    · exact ⟨_, _, _, _, rfl⟩
    · exact trk_mem (i := i + 1) (l := r) h
theorem drop_get {α : Type} {l : List α} {j : Nat} (h : j < l.length) : ∃ x, l[l.length - 1 - j]? = some x ∧ l.drop (l.length - (j + 1)) = x :: l.drop (l.length - j) := by
  have hk : l.length - 1 - j < l.length := by omega
  refine ⟨l[l.length - 1 - j], List.getElem?_eq_getElem hk, ?_⟩
  have e1 : l.length - (j + 1) = l.length - 1 - j := by omega
  have e2 : l.length - j = (l.length - 1 - j) + 1 := by omega
  rw [e1, e2]
  exact List.drop_eq_getElem_cons hk
theorem terms_eq {x : D} {sts : List Stp} (hl : sts.length ≤ 100) (hx : f_tupled 16 [x] = .ok (.tuple (sts.map stpD), [])) : f_terms [x] = .ok (.tuple (.tuple [.str "start", .str "start", .int (ups sts)] :: trm sts), []) := by
  apply wX_eq
  unfold f_terms
  (simp (disch := first | omega | (simp only [List.length_cons, List.length_nil, List.length_append, List.length_map, List.length_take, List.length_drop, List.length_reverse, List.length_set]; omega) | decide) only [hx, wX_ok, wX_exc, wO_some, wO_ite, wIf_true, wIf_false, wIf_not, wF_nx, wF_rt, wF_bk, wF_ct, w_pure, w_bind, w_of, w_m1, w_m2, w_var, w_c, w_truth, w_ite, w_and, w_or, w_not, w_andV, w_orV, w_notV, w_if, w_nil, w_cons, w_tup, w_lst, w_call, w_nx, w_seq, w_drop, w_ret, w_set, w_ifS, w_slot, w_callF, w_callK, w_app2, w_part, w_noPart, w_sl, w_seqOf, w_rng, w_for, w_forL_nil, w_app, w_ixO, w_lenO, w_popAt, w_setIx, w_aug, w_par2, w_par3, w_mbind, w_chain, wX_runF, VL.fill, VL.put, outs, startE, wipeE, backE, bindT_nm, bindT_tt, bindT_tl, bindTs_n, bindTs_c, VL.pick, List.filterMap_cons, List.filterMap_nil, List.map_cons, List.map_nil, List.length_cons, List.length_nil, List.replicate, List.cons_append, List.nil_append, List.getElem?_cons_zero, List.getElem?_cons_succ, List.set_cons_zero, List.set_cons_succ, Option.map_some, Option.bind_some, Option.getD_some, Nat.reduceSub, Nat.reduceAdd, Int.cast_ofNat_Int, Int.reduceLT, Int.reduceLE, Int.reduceNeg, Int.reduceEq, gEq_int, gNe_int, gLt_int, gGt_int, gLe_int, gGe_int, gAdd_int, gSub_int, gMul_l, gMul_r, gMod_int, gFdv_int, gNeg_i, cInt_i, cInt_b, cAbs_i, cLen_l, cLen_t, cTup_l, cTup_t, cLst_l, cLst_t, gIx_l, gIx_t, setI_i, popI_i, gSl_l, gSl_t, gSl_scr, dSeq_l, dSeq_t, dSeq_s, cMin2_i, cMax2_i, cEnum_l, cZip_l, cZip_t, tr_b, tr_i, tr_l, tr_t, tr_n, gIs_n, gIsn_n, isN, lstAt_0, lstAt_s, gAdd_l, gAdd_t, le_sizeP, lt_sizeP, gPow_i, cAll_mb, cAny_mb, w_star, w_tupS, w_lstS, w_star2, dItems_l, dItems_t, gCat_l, starT_c, gRev_ll, gRev_tt, true_and, and_true, Bool.not_true, Bool.not_false, decide_true, decide_false, isi_int_non, isi_int_bl, isi_int_int, isi_int_str, isi_int_lst, isi_int_tup, isi_str_non, isi_str_bl, isi_str_int, isi_str_str, isi_str_lst, isi_str_tup, isi_bool_non, isi_bool_bl, isi_bool_int, isi_bool_str, isi_bool_lst, isi_bool_tup, isi_list_non, isi_list_bl, isi_list_int, isi_list_str, isi_list_lst, isi_list_tup, isi_tuple_non, isi_tuple_bl, isi_tuple_int, isi_tuple_str, isi_tuple_lst, isi_tuple_tup, isi_dict_non, isi_dict_bl, isi_dict_int, isi_dict_str, isi_dict_lst, isi_dict_tup, isi_list_tuple_non, isi_list_tuple_bl, isi_list_tuple_int, isi_list_tuple_str, isi_list_tuple_lst, isi_list_tuple_tup, isi_bool_str_non, isi_bool_str_bl, isi_bool_str_int, isi_bool_str_str, isi_bool_str_lst, isi_bool_str_tup])
  refine w_forI (k := 0) (fun j ρ => ∃ a, ρ = [some x, some (.list (trm (sts.drop (sts.length - j))).reverse), some (.int (ups (sts.drop (sts.length - j)))), a]) ⟨none, by rw [Nat.sub_zero, List.drop_length]; rfl⟩ ?_ ?_
  · rintro j y ρ hj ⟨a, rfl⟩
    rw [Nat.zero_add] at *
    have hjl : j < sts.length := by
      obtain ⟨w, _⟩ := List.getElem?_eq_some_iff.mp hj
      simpa using w
    obtain ⟨st, h1, h2⟩ := drop_get hjl
    have hy : y = stpD st := by
      rw [List.getElem?_reverse (by simpa using hjl), List.length_map, List.getElem?_map, h1] at hj
      exact (Option.some.inj hj).symm
    subst hy
    rw [h2]
    have hz : (trm (sts.drop (sts.length - j))).length ≤ 100 := Nat.le_trans (trm_len _) (by rw [List.length_drop]; omega)
    generalize hD : sts.drop (sts.length - j) = r at *
    cases st with
    | up n =>
      (simp (disch := first | omega | (simp only [List.length_cons, List.length_nil, List.length_append, List.length_map, List.length_take, List.length_drop, List.length_reverse, List.length_set]; omega) | decide) only [stpD, at0, at1, gEq_str, seq_uu, wX_ok, wX_exc, wO_some, wO_ite, wIf_true, wIf_false, wIf_not, wF_nx, wF_rt, wF_bk, wF_ct, w_pure, w_bind, w_of, w_m1, w_m2, w_var, w_c, w_truth, w_ite, w_and, w_or, w_not, w_andV, w_orV, w_notV, w_if, w_nil, w_cons, w_tup, w_lst, w_call, w_nx, w_seq, w_drop, w_ret, w_set, w_ifS, w_slot, w_callF, w_callK, w_app2, w_part, w_noPart, w_sl, w_seqOf, w_rng, w_for, w_forL_nil, w_app, w_ixO, w_lenO, w_popAt, w_setIx, w_aug, w_par2, w_par3, w_mbind, w_chain, wX_runF, VL.fill, VL.put, outs, startE, wipeE, backE, bindT_nm, bindT_tt, bindT_tl, bindTs_n, bindTs_c, VL.pick, List.filterMap_cons, List.filterMap_nil, List.map_cons, List.map_nil, List.length_cons, List.length_nil, List.replicate, List.cons_append, List.nil_append, List.getElem?_cons_zero, List.getElem?_cons_succ, List.set_cons_zero, List.set_cons_succ, Option.map_some, Option.bind_some, Option.getD_some, Nat.reduceSub, Nat.reduceAdd, Int.cast_ofNat_Int, Int.reduceLT, Int.reduceLE, Int.reduceNeg, Int.reduceEq, gEq_int, gNe_int, gLt_int, gGt_int, gLe_int, gGe_int, gAdd_int, gSub_int, gMul_l, gMul_r, gMod_int, gFdv_int, gNeg_i, cInt_i, cInt_b, cAbs_i, cLen_l, cLen_t, cTup_l, cTup_t, cLst_l, cLst_t, gIx_l, gIx_t, setI_i, popI_i, gSl_l, gSl_t, gSl_scr, dSeq_l, dSeq_t, dSeq_s, cMin2_i, cMax2_i, cEnum_l, cZip_l, cZip_t, tr_b, tr_i, tr_l, tr_t, tr_n, gIs_n, gIsn_n, isN, lstAt_0, lstAt_s, gAdd_l, gAdd_t, le_sizeP, lt_sizeP, gPow_i, cAll_mb, cAny_mb, w_star, w_tupS, w_lstS, w_star2, dItems_l, dItems_t, gCat_l, starT_c, gRev_ll, gRev_tt, true_and, and_true, Bool.not_true, Bool.not_false, decide_true, decide_false, isi_int_non, isi_int_bl, isi_int_int, isi_int_str, isi_int_lst, isi_int_tup, isi_str_non, isi_str_bl, isi_str_int, isi_str_str, isi_str_lst, isi_str_tup, isi_bool_non, isi_bool_bl, isi_bool_int, isi_bool_str, isi_bool_lst, isi_bool_tup, isi_list_non, isi_list_bl, isi_list_int, isi_list_str, isi_list_lst, isi_list_tup, isi_tuple_non, isi_tuple_bl, isi_tuple_int, isi_tuple_str, isi_tuple_lst, isi_tuple_tup, isi_dict_non, isi_dict_bl, isi_dict_int, isi_dict_str, isi_dict_lst, isi_dict_tup, isi_list_tuple_non, isi_list_tuple_bl, isi_list_tuple_int, isi_list_tuple_str, isi_list_tuple_lst, isi_list_tuple_tup, isi_bool_str_non, isi_bool_str_bl, isi_bool_str_int, isi_bool_str_str, isi_bool_str_lst, isi_bool_str_tup])
      exact ⟨_, rfl⟩
    | most z n =>
      (simp (disch := first | omega | (simp only [List.length_cons, List.length_nil, List.length_append, List.length_map, List.length_take, List.length_drop, List.length_reverse, List.length_set]; omega) | decide) only [stpD, at0, at1, at2, gEq_str, seq_mu, wX_ok, wX_exc, wO_some, wO_ite, wIf_true, wIf_false, wIf_not, wF_nx, wF_rt, wF_bk, wF_ct, w_pure, w_bind, w_of, w_m1, w_m2, w_var, w_c, w_truth, w_ite, w_and, w_or, w_not, w_andV, w_orV, w_notV, w_if, w_nil, w_cons, w_tup, w_lst, w_call, w_nx, w_seq, w_drop, w_ret, w_set, w_ifS, w_slot, w_callF, w_callK, w_app2, w_part, w_noPart, w_sl, w_seqOf, w_rng, w_for, w_forL_nil, w_app, w_ixO, w_lenO, w_popAt, w_setIx, w_aug, w_par2, w_par3, w_mbind, w_chain, wX_runF, VL.fill, VL.put, outs, startE, wipeE, backE, bindT_nm, bindT_tt, bindT_tl, bindTs_n, bindTs_c, VL.pick, List.filterMap_cons, List.filterMap_nil, List.map_cons, List.map_nil, List.length_cons, List.length_nil, List.replicate, List.cons_append, List.nil_append, List.getElem?_cons_zero, List.getElem?_cons_succ, List.set_cons_zero, List.set_cons_succ, Option.map_some, Option.bind_some, Option.getD_some, Nat.reduceSub, Nat.reduceAdd, Int.cast_ofNat_Int, Int.reduceLT, Int.reduceLE, Int.reduceNeg, Int.reduceEq, gEq_int, gNe_int, gLt_int, gGt_int, gLe_int, gGe_int, gAdd_int, gSub_int, gMul_l, gMul_r, gMod_int, gFdv_int, gNeg_i, cInt_i, cInt_b, cAbs_i, cLen_l, cLen_t, cTup_l, cTup_t, cLst_l, cLst_t, gIx_l, gIx_t, setI_i, popI_i, gSl_l, gSl_t, gSl_scr, dSeq_l, dSeq_t, dSeq_s, cMin2_i, cMax2_i, cEnum_l, cZip_l, cZip_t, tr_b, tr_i, tr_l, tr_t, tr_n, gIs_n, gIsn_n, isN, lstAt_0, lstAt_s, gAdd_l, gAdd_t, le_sizeP, lt_sizeP, gPow_i, cAll_mb, cAny_mb, w_star, w_tupS, w_lstS, w_star2, dItems_l, dItems_t, gCat_l, starT_c, gRev_ll, gRev_tt, true_and, and_true, Bool.not_true, Bool.not_false, decide_true, decide_false, isi_int_non, isi_int_bl, isi_int_int, isi_int_str, isi_int_lst, isi_int_tup, isi_str_non, isi_str_bl, isi_str_int, isi_str_str, isi_str_lst, isi_str_tup, isi_bool_non, isi_bool_bl, isi_bool_int, isi_bool_str, isi_bool_lst, isi_bool_tup, isi_list_non, isi_list_bl, isi_list_int, isi_list_str, isi_list_lst, isi_list_tup, isi_tuple_non, isi_tuple_bl, isi_tuple_int, isi_tuple_str, isi_tuple_lst, isi_tuple_tup, isi_dict_non, isi_dict_bl, isi_dict_int, isi_dict_str, isi_dict_lst, isi_dict_tup, isi_list_tuple_non, isi_list_tuple_bl, isi_list_tuple_int, isi_list_tuple_str, isi_list_tuple_lst, isi_list_tuple_tup, isi_bool_str_non, isi_bool_str_bl, isi_bool_str_int, isi_bool_str_str, isi_bool_str_lst, isi_bool_str_tup])
      exact ⟨_, by rw [trm, List.reverse_cons]; rfl⟩
    | least z n =>
      (simp (disch := first | omega | (simp only [List.length_cons, List.length_nil, List.length_append, List.length_map, List.length_take, List.length_drop, List.length_reverse, List.length_set]; omega) | decide) only [stpD, at0, at1, at2, gEq_str, seq_lu, wX_ok, wX_exc, wO_some, wO_ite, wIf_true, wIf_false, wIf_not, wF_nx, wF_rt, wF_bk, wF_ct, w_pure, w_bind, w_of, w_m1, w_m2, w_var, w_c, w_truth, w_ite, w_and, w_or, w_not, w_andV, w_orV, w_notV, w_if, w_nil, w_cons, w_tup, w_lst, w_call, w_nx, w_seq, w_drop, w_ret, w_set, w_ifS, w_slot, w_callF, w_callK, w_app2, w_part, w_noPart, w_sl, w_seqOf, w_rng, w_for, w_forL_nil, w_app, w_ixO, w_lenO, w_popAt, w_setIx, w_aug, w_par2, w_par3, w_mbind, w_chain, wX_runF, VL.fill, VL.put, outs, startE, wipeE, backE, bindT_nm, bindT_tt, bindT_tl, bindTs_n, bindTs_c, VL.pick, List.filterMap_cons, List.filterMap_nil, List.map_cons, List.map_nil, List.length_cons, List.length_nil, List.replicate, List.cons_append, List.nil_append, List.getElem?_cons_zero, List.getElem?_cons_succ, List.set_cons_zero, List.set_cons_succ, Option.map_some, Option.bind_some, Option.getD_some, Nat.reduceSub, Nat.reduceAdd, Int.cast_ofNat_Int, Int.reduceLT, Int.reduceLE, Int.reduceNeg, Int.reduceEq, gEq_int, gNe_int, gLt_int, gGt_int, gLe_int, gGe_int, gAdd_int, gSub_int, gMul_l, gMul_r, gMod_int, gFdv_int, gNeg_i, cInt_i, cInt_b, cAbs_i, cLen_l, cLen_t, cTup_l, cTup_t, cLst_l, cLst_t, gIx_l, gIx_t, setI_i, popI_i, gSl_l, gSl_t, gSl_scr, dSeq_l, dSeq_t, dSeq_s, cMin2_i, cMax2_i, cEnum_l, cZip_l, cZip_t, tr_b, tr_i, tr_l, tr_t, tr_n, gIs_n, gIsn_n, isN, lstAt_0, lstAt_s, gAdd_l, gAdd_t, le_sizeP, lt_sizeP, gPow_i, cAll_mb, cAny_mb, w_star, w_tupS, w_lstS, w_star2, dItems_l, dItems_t, gCat_l, starT_c, gRev_ll, gRev_tt, true_and, and_true, Bool.not_true, Bool.not_false, decide_true, decide_false, isi_int_non, isi_int_bl, isi_int_int, isi_int_str, isi_int_lst, isi_int_tup, isi_str_non, isi_str_bl, isi_str_int, isi_str_str, isi_str_lst, isi_str_tup, isi_bool_non, isi_bool_bl, isi_bool_int, isi_bool_str, isi_bool_lst, isi_bool_tup, isi_list_non, isi_list_bl, isi_list_int, isi_list_str, isi_list_lst, isi_list_tup, isi_tuple_non, isi_tuple_bl, isi_tuple_int, isi_tuple_str, isi_tuple_lst, isi_tuple_tup, isi_dict_non, isi_dict_bl, isi_dict_int, isi_dict_str, isi_dict_lst, isi_dict_tup, isi_list_tuple_non, isi_list_tuple_bl, isi_list_tuple_int, isi_list_tuple_str, isi_list_tuple_lst, isi_list_tuple_tup, isi_bool_str_non, isi_bool_str_bl, isi_bool_str_int, isi_bool_str_str, isi_bool_str_lst, isi_bool_str_tup])
      exact ⟨_, by rw [trm, List.reverse_cons]; rfl⟩
  · rintro ρ' ⟨a, rfl⟩
    have e : sts.length - (0 + (sts.map stpD).reverse.length) = 0 := by simp
    have hz : (trm sts).length ≤ 100 := Nat.le_trans (trm_len _) hl
    rw [e, List.drop_zero]
    (simp (disch := first | omega | (simp only [List.length_cons, List.length_nil, List.length_append, List.length_map, List.length_take, List.length_drop, List.length_reverse, List.length_set]; omega) | decide) only [List.reverse_reverse, List.append_nil, wX_ok, wX_exc, wO_some, wO_ite, wIf_true, wIf_false, wIf_not, wF_nx, wF_rt, wF_bk, wF_ct, w_pure, w_bind, w_of, w_m1, w_m2, w_var, w_c, w_truth, w_ite, w_and, w_or, w_not, w_andV, w_orV, w_notV, w_if, w_nil, w_cons, w_tup, w_lst, w_call, w_nx, w_seq, w_drop, w_ret, w_set, w_ifS, w_slot, w_callF, w_callK, w_app2, w_part, w_noPart, w_sl, w_seqOf, w_rng, w_for, w_forL_nil, w_app, w_ixO, w_lenO, w_popAt, w_setIx, w_aug, w_par2, w_par3, w_mbind, w_chain, wX_runF, VL.fill, VL.put, outs, startE, wipeE, backE, bindT_nm, bindT_tt, bindT_tl, bindTs_n, bindTs_c, VL.pick, List.filterMap_cons, List.filterMap_nil, List.map_cons, List.map_nil, List.length_cons, List.length_nil, List.replicate, List.cons_append, List.nil_append, List.getElem?_cons_zero, List.getElem?_cons_succ, List.set_cons_zero, List.set_cons_succ, Option.map_some, Option.bind_some, Option.getD_some, Nat.reduceSub, Nat.reduceAdd, Int.cast_ofNat_Int, Int.reduceLT, Int.reduceLE, Int.reduceNeg, Int.reduceEq, gEq_int, gNe_int, gLt_int, gGt_int, gLe_int, gGe_int, gAdd_int, gSub_int, gMul_l, gMul_r, gMod_int, gFdv_int, gNeg_i, cInt_i, cInt_b, cAbs_i, cLen_l, cLen_t, cTup_l, cTup_t, cLst_l, cLst_t, gIx_l, gIx_t, setI_i, popI_i, gSl_l, gSl_t, gSl_scr, dSeq_l, dSeq_t, dSeq_s, cMin2_i, cMax2_i, cEnum_l, cZip_l, cZip_t, tr_b, tr_i, tr_l, tr_t, tr_n, gIs_n, gIsn_n, isN, lstAt_0, lstAt_s, gAdd_l, gAdd_t, le_sizeP, lt_sizeP, gPow_i, cAll_mb, cAny_mb, w_star, w_tupS, w_lstS, w_star2, dItems_l, dItems_t, gCat_l, starT_c, gRev_ll, gRev_tt, true_and, and_true, Bool.not_true, Bool.not_false, decide_true, decide_false, isi_int_non, isi_int_bl, isi_int_int, isi_int_str, isi_int_lst, isi_int_tup, isi_str_non, isi_str_bl, isi_str_int, isi_str_str, isi_str_lst, isi_str_tup, isi_bool_non, isi_bool_bl, isi_bool_int, isi_bool_str, isi_bool_lst, isi_bool_tup, isi_list_non, isi_list_bl, isi_list_int, isi_list_str, isi_list_lst, isi_list_tup, isi_tuple_non, isi_tuple_bl, isi_tuple_int, isi_tuple_str, isi_tuple_lst, isi_tuple_tup, isi_dict_non, isi_dict_bl, isi_dict_int, isi_dict_str, isi_dict_lst, isi_dict_tup, isi_list_tuple_non, isi_list_tuple_bl, isi_list_tuple_int, isi_list_tuple_str, isi_list_tuple_lst, isi_list_tuple_tup, isi_bool_str_non, isi_bool_str_bl, isi_bool_str_int, isi_bool_str_str, isi_bool_str_lst, isi_bool_str_tup])
theorem leveled_eq {x : D} {sts : List Stp} (hl : sts.length ≤ 100) (hx : f_tupled 16 [x] = .ok (.tuple (sts.map stpD), [])) : f_leveled [x] = .ok (.tuple (.tuple [.str "up", .int (ups sts)] :: trm sts), []) := by
  apply wX_eq
  unfold f_leveled
  have hz : (trm sts).length ≤ 100 := Nat.le_trans (trm_len _) hl
  (simp (disch := first | omega | (simp only [List.length_cons, List.length_nil, List.length_append, List.length_map, List.length_take, List.length_drop, List.length_reverse, List.length_set]; omega) | decide) only [terms_eq hl hx, at2, List.append_nil, wX_ok, wX_exc, wO_some, wO_ite, wIf_true, wIf_false, wIf_not, wF_nx, wF_rt, wF_bk, wF_ct, w_pure, w_bind, w_of, w_m1, w_m2, w_var, w_c, w_truth, w_ite, w_and, w_or, w_not, w_andV, w_orV, w_notV, w_if, w_nil, w_cons, w_tup, w_lst, w_call, w_nx, w_seq, w_drop, w_ret, w_set, w_ifS, w_slot, w_callF, w_callK, w_app2, w_part, w_noPart, w_sl, w_seqOf, w_rng, w_for, w_forL_nil, w_app, w_ixO, w_lenO, w_popAt, w_setIx, w_aug, w_par2, w_par3, w_mbind, w_chain, wX_runF, VL.fill, VL.put, outs, startE, wipeE, backE, bindT_nm, bindT_tt, bindT_tl, bindTs_n, bindTs_c, VL.pick, List.filterMap_cons, List.filterMap_nil, List.map_cons, List.map_nil, List.length_cons, List.length_nil, List.replicate, List.cons_append, List.nil_append, List.getElem?_cons_zero, List.getElem?_cons_succ, List.set_cons_zero, List.set_cons_succ, Option.map_some, Option.bind_some, Option.getD_some, Nat.reduceSub, Nat.reduceAdd, Int.cast_ofNat_Int, Int.reduceLT, Int.reduceLE, Int.reduceNeg, Int.reduceEq, gEq_int, gNe_int, gLt_int, gGt_int, gLe_int, gGe_int, gAdd_int, gSub_int, gMul_l, gMul_r, gMod_int, gFdv_int, gNeg_i, cInt_i, cInt_b, cAbs_i, cLen_l, cLen_t, cTup_l, cTup_t, cLst_l, cLst_t, gIx_l, gIx_t, setI_i, popI_i, gSl_l, gSl_t, gSl_scr, dSeq_l, dSeq_t, dSeq_s, cMin2_i, cMax2_i, cEnum_l, cZip_l, cZip_t, tr_b, tr_i, tr_l, tr_t, tr_n, gIs_n, gIsn_n, isN, lstAt_0, lstAt_s, gAdd_l, gAdd_t, le_sizeP, lt_sizeP, gPow_i, cAll_mb, cAny_mb, w_star, w_tupS, w_lstS, w_star2, dItems_l, dItems_t, gCat_l, starT_c, gRev_ll, gRev_tt, true_and, and_true, Bool.not_true, Bool.not_false, decide_true, decide_false, isi_int_non, isi_int_bl, isi_int_int, isi_int_str, isi_int_lst, isi_int_tup, isi_str_non, isi_str_bl, isi_str_int, isi_str_str, isi_str_lst, isi_str_tup, isi_bool_non, isi_bool_bl, isi_bool_int, isi_bool_str, isi_bool_lst, isi_bool_tup, isi_list_non, isi_list_bl, isi_list_int, isi_list_str, isi_list_lst, isi_list_tup, isi_tuple_non, isi_tuple_bl, isi_tuple_int, isi_tuple_str, isi_tuple_lst, isi_tuple_tup, isi_dict_non, isi_dict_bl, isi_dict_int, isi_dict_str, isi_dict_lst, isi_dict_tup, isi_list_tuple_non, isi_list_tuple_bl, isi_list_tuple_int, isi_list_tuple_str, isi_list_tuple_lst, isi_list_tuple_tup, isi_bool_str_non, isi_bool_str_bl, isi_bool_str_int, isi_bool_str_str, isi_bool_str_lst, isi_bool_str_tup])
theorem moved_eq {x : D} {sts : List Stp} {k : Int} (hl : sts.length ≤ 100) (hx : f_tupled 16 [x] = .ok (.tuple (sts.map stpD), [])) : f_moved [x, .int k] = .ok (.tuple (sts.map stpD ++ [.tuple [.str "up", .int k]]), []) := by
  apply wX_eq
  unfold f_moved
  (simp (disch := first | omega | (simp only [List.length_cons, List.length_nil, List.length_append, List.length_map, List.length_take, List.length_drop, List.length_reverse, List.length_set]; omega) | decide) only [hx, List.append_nil, wX_ok, wX_exc, wO_some, wO_ite, wIf_true, wIf_false, wIf_not, wF_nx, wF_rt, wF_bk, wF_ct, w_pure, w_bind, w_of, w_m1, w_m2, w_var, w_c, w_truth, w_ite, w_and, w_or, w_not, w_andV, w_orV, w_notV, w_if, w_nil, w_cons, w_tup, w_lst, w_call, w_nx, w_seq, w_drop, w_ret, w_set, w_ifS, w_slot, w_callF, w_callK, w_app2, w_part, w_noPart, w_sl, w_seqOf, w_rng, w_for, w_forL_nil, w_app, w_ixO, w_lenO, w_popAt, w_setIx, w_aug, w_par2, w_par3, w_mbind, w_chain, wX_runF, VL.fill, VL.put, outs, startE, wipeE, backE, bindT_nm, bindT_tt, bindT_tl, bindTs_n, bindTs_c, VL.pick, List.filterMap_cons, List.filterMap_nil, List.map_cons, List.map_nil, List.length_cons, List.length_nil, List.replicate, List.cons_append, List.nil_append, List.getElem?_cons_zero, List.getElem?_cons_succ, List.set_cons_zero, List.set_cons_succ, Option.map_some, Option.bind_some, Option.getD_some, Nat.reduceSub, Nat.reduceAdd, Int.cast_ofNat_Int, Int.reduceLT, Int.reduceLE, Int.reduceNeg, Int.reduceEq, gEq_int, gNe_int, gLt_int, gGt_int, gLe_int, gGe_int, gAdd_int, gSub_int, gMul_l, gMul_r, gMod_int, gFdv_int, gNeg_i, cInt_i, cInt_b, cAbs_i, cLen_l, cLen_t, cTup_l, cTup_t, cLst_l, cLst_t, gIx_l, gIx_t, setI_i, popI_i, gSl_l, gSl_t, gSl_scr, dSeq_l, dSeq_t, dSeq_s, cMin2_i, cMax2_i, cEnum_l, cZip_l, cZip_t, tr_b, tr_i, tr_l, tr_t, tr_n, gIs_n, gIsn_n, isN, lstAt_0, lstAt_s, gAdd_l, gAdd_t, le_sizeP, lt_sizeP, gPow_i, cAll_mb, cAny_mb, w_star, w_tupS, w_lstS, w_star2, dItems_l, dItems_t, gCat_l, starT_c, gRev_ll, gRev_tt, true_and, and_true, Bool.not_true, Bool.not_false, decide_true, decide_false, isi_int_non, isi_int_bl, isi_int_int, isi_int_str, isi_int_lst, isi_int_tup, isi_str_non, isi_str_bl, isi_str_int, isi_str_str, isi_str_lst, isi_str_tup, isi_bool_non, isi_bool_bl, isi_bool_int, isi_bool_str, isi_bool_lst, isi_bool_tup, isi_list_non, isi_list_bl, isi_list_int, isi_list_str, isi_list_lst, isi_list_tup, isi_tuple_non, isi_tuple_bl, isi_tuple_int, isi_tuple_str, isi_tuple_lst, isi_tuple_tup, isi_dict_non, isi_dict_bl, isi_dict_int, isi_dict_str, isi_dict_lst, isi_dict_tup, isi_list_tuple_non, isi_list_tuple_bl, isi_list_tuple_int, isi_list_tuple_str, isi_list_tuple_lst, isi_list_tuple_tup, isi_bool_str_non, isi_bool_str_bl, isi_bool_str_int, isi_bool_str_str, isi_bool_str_lst, isi_bool_str_tup])
theorem put_behind_eq {x y : D} {sts sts' : List Stp} (hl : sts.length ≤ 100) (hl' : sts'.length ≤ 100) (hx : f_tupled 16 [x] = .ok (.tuple (sts.map stpD), [])) (hy : f_tupled 16 [y] = .ok (.tuple (sts'.map stpD), [])) : f_put_behind [x, y] = .ok (.tuple (sts.map stpD ++ sts'.map stpD), []) := by
  apply wX_eq
  unfold f_put_behind
  (simp (disch := first | omega | (simp only [List.length_cons, List.length_nil, List.length_append, List.length_map, List.length_take, List.length_drop, List.length_reverse, List.length_set]; omega) | decide) only [hx, hy, List.append_nil, wX_ok, wX_exc, wO_some, wO_ite, wIf_true, wIf_false, wIf_not, wF_nx, wF_rt, wF_bk, wF_ct, w_pure, w_bind, w_of, w_m1, w_m2, w_var, w_c, w_truth, w_ite, w_and, w_or, w_not, w_andV, w_orV, w_notV, w_if, w_nil, w_cons, w_tup, w_lst, w_call, w_nx, w_seq, w_drop, w_ret, w_set, w_ifS, w_slot, w_callF, w_callK, w_app2, w_part, w_noPart, w_sl, w_seqOf, w_rng, w_for, w_forL_nil, w_app, w_ixO, w_lenO, w_popAt, w_setIx, w_aug, w_par2, w_par3, w_mbind, w_chain, wX_runF, VL.fill, VL.put, outs, startE, wipeE, backE, bindT_nm, bindT_tt, bindT_tl, bindTs_n, bindTs_c, VL.pick, List.filterMap_cons, List.filterMap_nil, List.map_cons, List.map_nil, List.length_cons, List.length_nil, List.replicate, List.cons_append, List.nil_append, List.getElem?_cons_zero, List.getElem?_cons_succ, List.set_cons_zero, List.set_cons_succ, Option.map_some, Option.bind_some, Option.getD_some, Nat.reduceSub, Nat.reduceAdd, Int.cast_ofNat_Int, Int.reduceLT, Int.reduceLE, Int.reduceNeg, Int.reduceEq, gEq_int, gNe_int, gLt_int, gGt_int, gLe_int, gGe_int, gAdd_int, gSub_int, gMul_l, gMul_r, gMod_int, gFdv_int, gNeg_i, cInt_i, cInt_b, cAbs_i, cLen_l, cLen_t, cTup_l, cTup_t, cLst_l, cLst_t, gIx_l, gIx_t, setI_i, popI_i, gSl_l, gSl_t, gSl_scr, dSeq_l, dSeq_t, dSeq_s, cMin2_i, cMax2_i, cEnum_l, cZip_l, cZip_t, tr_b, tr_i, tr_l, tr_t, tr_n, gIs_n, gIsn_n, isN, lstAt_0, lstAt_s, gAdd_l, gAdd_t, le_sizeP, lt_sizeP, gPow_i, cAll_mb, cAny_mb, w_star, w_tupS, w_lstS, w_star2, dItems_l, dItems_t, gCat_l, starT_c, gRev_ll, gRev_tt, true_and, and_true, Bool.not_true, Bool.not_false, decide_true, decide_false, isi_int_non, isi_int_bl, isi_int_int, isi_int_str, isi_int_lst, isi_int_tup, isi_str_non, isi_str_bl, isi_str_int, isi_str_str, isi_str_lst, isi_str_tup, isi_bool_non, isi_bool_bl, isi_bool_int, isi_bool_str, isi_bool_lst, isi_bool_tup, isi_list_non, isi_list_bl, isi_list_int, isi_list_str, isi_list_lst, isi_list_tup, isi_tuple_non, isi_tuple_bl, isi_tuple_int, isi_tuple_str, isi_tuple_lst, isi_tuple_tup, isi_dict_non, isi_dict_bl, isi_dict_int, isi_dict_str, isi_dict_lst, isi_dict_tup, isi_list_tuple_non, isi_list_tuple_bl, isi_list_tuple_int, isi_list_tuple_str, isi_list_tuple_lst, isi_list_tuple_tup, isi_bool_str_non, isi_bool_str_bl, isi_bool_str_int, isi_bool_str_str, isi_bool_str_lst, isi_bool_str_tup])
theorem take_snoc {α : Type} {l : List α} {j : Nat} {x : α} (h : l[j]? = some x) : l.take (j + 1) = l.take j ++ [x] := by
  rw [List.take_add_one, h]; rfl
theorem opposite_eq {x : D} {sts : List Stp} (hl : sts.length ≤ 100) (hx : f_tupled 16 [x] = .ok (.tuple (sts.map stpD), [])) : f_opposite [x] = .ok (.tuple ((sts.map oppS).map stpD), []) := by
  apply wX_eq
  unfold f_opposite
  (simp (disch := first | omega | (simp only [List.length_cons, List.length_nil, List.length_append, List.length_map, List.length_take, List.length_drop, List.length_reverse, List.length_set]; omega) | decide) only [hx, wX_ok, wX_exc, wO_some, wO_ite, wIf_true, wIf_false, wIf_not, wF_nx, wF_rt, wF_bk, wF_ct, w_pure, w_bind, w_of, w_m1, w_m2, w_var, w_c, w_truth, w_ite, w_and, w_or, w_not, w_andV, w_orV, w_notV, w_if, w_nil, w_cons, w_tup, w_lst, w_call, w_nx, w_seq, w_drop, w_ret, w_set, w_ifS, w_slot, w_callF, w_callK, w_app2, w_part, w_noPart, w_sl, w_seqOf, w_rng, w_for, w_forL_nil, w_app, w_ixO, w_lenO, w_popAt, w_setIx, w_aug, w_par2, w_par3, w_mbind, w_chain, wX_runF, VL.fill, VL.put, outs, startE, wipeE, backE, bindT_nm, bindT_tt, bindT_tl, bindTs_n, bindTs_c, VL.pick, List.filterMap_cons, List.filterMap_nil, List.map_cons, List.map_nil, List.length_cons, List.length_nil, List.replicate, List.cons_append, List.nil_append, List.getElem?_cons_zero, List.getElem?_cons_succ, List.set_cons_zero, List.set_cons_succ, Option.map_some, Option.bind_some, Option.getD_some, Nat.reduceSub, Nat.reduceAdd, Int.cast_ofNat_Int, Int.reduceLT, Int.reduceLE, Int.reduceNeg, Int.reduceEq, gEq_int, gNe_int, gLt_int, gGt_int, gLe_int, gGe_int, gAdd_int, gSub_int, gMul_l, gMul_r, gMod_int, gFdv_int, gNeg_i, cInt_i, cInt_b, cAbs_i, cLen_l, cLen_t, cTup_l, cTup_t, cLst_l, cLst_t, gIx_l, gIx_t, setI_i, popI_i, gSl_l, gSl_t, gSl_scr, dSeq_l, dSeq_t, dSeq_s, cMin2_i, cMax2_i, cEnum_l, cZip_l, cZip_t, tr_b, tr_i, tr_l, tr_t, tr_n, gIs_n, gIsn_n, isN, lstAt_0, lstAt_s, gAdd_l, gAdd_t, le_sizeP, lt_sizeP, gPow_i, cAll_mb, cAny_mb, w_star, w_tupS, w_lstS, w_star2, dItems_l, dItems_t, gCat_l, starT_c, gRev_ll, gRev_tt, true_and, and_true, Bool.not_true, Bool.not_false, decide_true, decide_false, isi_int_non, isi_int_bl, isi_int_int, isi_int_str, isi_int_lst, isi_int_tup, isi_str_non, isi_str_bl, isi_str_int, isi_str_str, isi_str_lst, isi_str_tup, isi_bool_non, isi_bool_bl, isi_bool_int, isi_bool_str, isi_bool_lst, isi_bool_tup, isi_list_non, isi_list_bl, isi_list_int, isi_list_str, isi_list_lst, isi_list_tup, isi_tuple_non, isi_tuple_bl, isi_tuple_int, isi_tuple_str, isi_tuple_lst, isi_tuple_tup, isi_dict_non, isi_dict_bl, isi_dict_int, isi_dict_str, isi_dict_lst, isi_dict_tup, isi_list_tuple_non, isi_list_tuple_bl, isi_list_tuple_int, isi_list_tuple_str, isi_list_tuple_lst, isi_list_tuple_tup, isi_bool_str_non, isi_bool_str_bl, isi_bool_str_int, isi_bool_str_str, isi_bool_str_lst, isi_bool_str_tup])
  refine w_forI (k := 0) (fun j ρ => ∃ a, ρ = [some x, some (.list (((sts.take j).map oppS).map stpD)), a]) ⟨none, rfl⟩ ?_ ?_
  · rintro j y ρ hj ⟨a, rfl⟩
    rw [Nat.zero_add] at *
    rw [List.getElem?_map] at hj
    obtain ⟨st, h1, rfl⟩ := Option.map_eq_some_iff.mp hj
    rw [take_snoc h1, List.map_append, List.map_append]
    have hz : (((sts.take j).map oppS).map stpD).length ≤ 100 := by rw [List.length_map, List.length_map, List.length_take]; omega
    cases st with
    | up n =>
      (simp (disch := first | omega | (simp only [List.length_cons, List.length_nil, List.length_append, List.length_map, List.length_take, List.length_drop, List.length_reverse, List.length_set]; omega) | decide) only [stpD, at0, at1, gEq_str, seq_uu, wX_ok, wX_exc, wO_some, wO_ite, wIf_true, wIf_false, wIf_not, wF_nx, wF_rt, wF_bk, wF_ct, w_pure, w_bind, w_of, w_m1, w_m2, w_var, w_c, w_truth, w_ite, w_and, w_or, w_not, w_andV, w_orV, w_notV, w_if, w_nil, w_cons, w_tup, w_lst, w_call, w_nx, w_seq, w_drop, w_ret, w_set, w_ifS, w_slot, w_callF, w_callK, w_app2, w_part, w_noPart, w_sl, w_seqOf, w_rng, w_for, w_forL_nil, w_app, w_ixO, w_lenO, w_popAt, w_setIx, w_aug, w_par2, w_par3, w_mbind, w_chain, wX_runF, VL.fill, VL.put, outs, startE, wipeE, backE, bindT_nm, bindT_tt, bindT_tl, bindTs_n, bindTs_c, VL.pick, List.filterMap_cons, List.filterMap_nil, List.map_cons, List.map_nil, List.length_cons, List.length_nil, List.replicate, List.cons_append, List.nil_append, List.getElem?_cons_zero, List.getElem?_cons_succ, List.set_cons_zero, List.set_cons_succ, Option.map_some, Option.bind_some, Option.getD_some, Nat.reduceSub, Nat.reduceAdd, Int.cast_ofNat_Int, Int.reduceLT, Int.reduceLE, Int.reduceNeg, Int.reduceEq, gEq_int, gNe_int, gLt_int, gGt_int, gLe_int, gGe_int, gAdd_int, gSub_int, gMul_l, gMul_r, gMod_int, gFdv_int, gNeg_i, cInt_i, cInt_b, cAbs_i, cLen_l, cLen_t, cTup_l, cTup_t, cLst_l, cLst_t, gIx_l, gIx_t, setI_i, popI_i, gSl_l, gSl_t, gSl_scr, dSeq_l, dSeq_t, dSeq_s, cMin2_i, cMax2_i, cEnum_l, cZip_l, cZip_t, tr_b, tr_i, tr_l, tr_t, tr_n, gIs_n, gIsn_n, isN, lstAt_0, lstAt_s, gAdd_l, gAdd_t, le_sizeP, lt_sizeP, gPow_i, cAll_mb, cAny_mb, w_star, w_tupS, w_lstS, w_star2, dItems_l, dItems_t, gCat_l, starT_c, gRev_ll, gRev_tt, true_and, and_true, Bool.not_true, Bool.not_false, decide_true, decide_false, isi_int_non, isi_int_bl, isi_int_int, isi_int_str, isi_int_lst, isi_int_tup, isi_str_non, isi_str_bl, isi_str_int, isi_str_str, isi_str_lst, isi_str_tup, isi_bool_non, isi_bool_bl, isi_bool_int, isi_bool_str, isi_bool_lst, isi_bool_tup, isi_list_non, isi_list_bl, isi_list_int, isi_list_str, isi_list_lst, isi_list_tup, isi_tuple_non, isi_tuple_bl, isi_tuple_int, isi_tuple_str, isi_tuple_lst, isi_tuple_tup, isi_dict_non, isi_dict_bl, isi_dict_int, isi_dict_str, isi_dict_lst, isi_dict_tup, isi_list_tuple_non, isi_list_tuple_bl, isi_list_tuple_int, isi_list_tuple_str, isi_list_tuple_lst, isi_list_tuple_tup, isi_bool_str_non, isi_bool_str_bl, isi_bool_str_int, isi_bool_str_str, isi_bool_str_lst, isi_bool_str_tup])
      exact ⟨_, rfl⟩
    | most z n =>
      (simp (disch := first | omega | (simp only [List.length_cons, List.length_nil, List.length_append, List.length_map, List.length_take, List.length_drop, List.length_reverse, List.length_set]; omega) | decide) only [stpD, at0, at1, at2, gEq_str, seq_mu, kix_m, wX_ok, wX_exc, wO_some, wO_ite, wIf_true, wIf_false, wIf_not, wF_nx, wF_rt, wF_bk, wF_ct, w_pure, w_bind, w_of, w_m1, w_m2, w_var, w_c, w_truth, w_ite, w_and, w_or, w_not, w_andV, w_orV, w_notV, w_if, w_nil, w_cons, w_tup, w_lst, w_call, w_nx, w_seq, w_drop, w_ret, w_set, w_ifS, w_slot, w_callF, w_callK, w_app2, w_part, w_noPart, w_sl, w_seqOf, w_rng, w_for, w_forL_nil, w_app, w_ixO, w_lenO, w_popAt, w_setIx, w_aug, w_par2, w_par3, w_mbind, w_chain, wX_runF, VL.fill, VL.put, outs, startE, wipeE, backE, bindT_nm, bindT_tt, bindT_tl, bindTs_n, bindTs_c, VL.pick, List.filterMap_cons, List.filterMap_nil, List.map_cons, List.map_nil, List.length_cons, List.length_nil, List.replicate, List.cons_append, List.nil_append, List.getElem?_cons_zero, List.getElem?_cons_succ, List.set_cons_zero, List.set_cons_succ, Option.map_some, Option.bind_some, Option.getD_some, Nat.reduceSub, Nat.reduceAdd, Int.cast_ofNat_Int, Int.reduceLT, Int.reduceLE, Int.reduceNeg, Int.reduceEq, gEq_int, gNe_int, gLt_int, gGt_int, gLe_int, gGe_int, gAdd_int, gSub_int, gMul_l, gMul_r, gMod_int, gFdv_int, gNeg_i, cInt_i, cInt_b, cAbs_i, cLen_l, cLen_t, cTup_l, cTup_t, cLst_l, cLst_t, gIx_l, gIx_t, setI_i, popI_i, gSl_l, gSl_t, gSl_scr, dSeq_l, dSeq_t, dSeq_s, cMin2_i, cMax2_i, cEnum_l, cZip_l, cZip_t, tr_b, tr_i, tr_l, tr_t, tr_n, gIs_n, gIsn_n, isN, lstAt_0, lstAt_s, gAdd_l, gAdd_t, le_sizeP, lt_sizeP, gPow_i, cAll_mb, cAny_mb, w_star, w_tupS, w_lstS, w_star2, dItems_l, dItems_t, gCat_l, starT_c, gRev_ll, gRev_tt, true_and, and_true, Bool.not_true, Bool.not_false, decide_true, decide_false, isi_int_non, isi_int_bl, isi_int_int, isi_int_str, isi_int_lst, isi_int_tup, isi_str_non, isi_str_bl, isi_str_int, isi_str_str, isi_str_lst, isi_str_tup, isi_bool_non, isi_bool_bl, isi_bool_int, isi_bool_str, isi_bool_lst, isi_bool_tup, isi_list_non, isi_list_bl, isi_list_int, isi_list_str, isi_list_lst, isi_list_tup, isi_tuple_non, isi_tuple_bl, isi_tuple_int, isi_tuple_str, isi_tuple_lst, isi_tuple_tup, isi_dict_non, isi_dict_bl, isi_dict_int, isi_dict_str, isi_dict_lst, isi_dict_tup, isi_list_tuple_non, isi_list_tuple_bl, isi_list_tuple_int, isi_list_tuple_str, isi_list_tuple_lst, isi_list_tuple_tup, isi_bool_str_non, isi_bool_str_bl, isi_bool_str_int, isi_bool_str_str, isi_bool_str_lst, isi_bool_str_tup])
      exact ⟨_, rfl⟩
    | least z n =>
      (simp (disch := first | omega | (simp only [List.length_cons, List.length_nil, List.length_append, List.length_map, List.length_take, List.length_drop, List.length_reverse, List.length_set]; omega) | decide) only [stpD, at0, at1, at2, gEq_str, seq_lu, kix_l, wX_ok, wX_exc, wO_some, wO_ite, wIf_true, wIf_false, wIf_not, wF_nx, wF_rt, wF_bk, wF_ct, w_pure, w_bind, w_of, w_m1, w_m2, w_var, w_c, w_truth, w_ite, w_and, w_or, w_not, w_andV, w_orV, w_notV, w_if, w_nil, w_cons, w_tup, w_lst, w_call, w_nx, w_seq, w_drop, w_ret, w_set, w_ifS, w_slot, w_callF, w_callK, w_app2, w_part, w_noPart, w_sl, w_seqOf, w_rng, w_for, w_forL_nil, w_app, w_ixO, w_lenO, w_popAt, w_setIx, w_aug, w_par2, w_par3, w_mbind, w_chain, wX_runF, VL.fill, VL.put, outs, startE, wipeE, backE, bindT_nm, bindT_tt, bindT_tl, bindTs_n, bindTs_c, VL.pick, List.filterMap_cons, List.filterMap_nil, List.map_cons, List.map_nil, List.length_cons, List.length_nil, List.replicate, List.cons_append, List.nil_append, List.getElem?_cons_zero, List.getElem?_cons_succ, List.set_cons_zero, List.set_cons_succ, Option.map_some, Option.bind_some, Option.getD_some, Nat.reduceSub, Nat.reduceAdd, Int.cast_ofNat_Int, Int.reduceLT, Int.reduceLE, Int.reduceNeg, Int.reduceEq, gEq_int, gNe_int, gLt_int, gGt_int, gLe_int, gGe_int, gAdd_int, gSub_int, gMul_l, gMul_r, gMod_int, gFdv_int, gNeg_i, cInt_i, cInt_b, cAbs_i, cLen_l, cLen_t, cTup_l, cTup_t, cLst_l, cLst_t, gIx_l, gIx_t, setI_i, popI_i, gSl_l, gSl_t, gSl_scr, dSeq_l, dSeq_t, dSeq_s, cMin2_i, cMax2_i, cEnum_l, cZip_l, cZip_t, tr_b, tr_i, tr_l, tr_t, tr_n, gIs_n, gIsn_n, isN, lstAt_0, lstAt_s, gAdd_l, gAdd_t, le_sizeP, lt_sizeP, gPow_i, cAll_mb, cAny_mb, w_star, w_tupS, w_lstS, w_star2, dItems_l, dItems_t, gCat_l, starT_c, gRev_ll, gRev_tt, true_and, and_true, Bool.not_true, Bool.not_false, decide_true, decide_false, isi_int_non, isi_int_bl, isi_int_int, isi_int_str, isi_int_lst, isi_int_tup, isi_str_non, isi_str_bl, isi_str_int, isi_str_str, isi_str_lst, isi_str_tup, isi_bool_non, isi_bool_bl, isi_bool_int, isi_bool_str, isi_bool_lst, isi_bool_tup, isi_list_non, isi_list_bl, isi_list_int, isi_list_str, isi_list_lst, isi_list_tup, isi_tuple_non, isi_tuple_bl, isi_tuple_int, isi_tuple_str, isi_tuple_lst, isi_tuple_tup, isi_dict_non, isi_dict_bl, isi_dict_int, isi_dict_str, isi_dict_lst, isi_dict_tup, isi_list_tuple_non, isi_list_tuple_bl, isi_list_tuple_int, isi_list_tuple_str, isi_list_tuple_lst, isi_list_tuple_tup, isi_bool_str_non, isi_bool_str_bl, isi_bool_str_int, isi_bool_str_str, isi_bool_str_lst, isi_bool_str_tup])
      exact ⟨_, rfl⟩
  · rintro ρ' ⟨a, rfl⟩
    rw [List.length_map, Nat.zero_add, List.take_length]
    (simp (disch := first | omega | (simp only [List.length_cons, List.length_nil, List.length_append, List.length_map, List.length_take, List.length_drop, List.length_reverse, List.length_set]; omega) | decide) only [wX_ok, wX_exc, wO_some, wO_ite, wIf_true, wIf_false, wIf_not, wF_nx, wF_rt, wF_bk, wF_ct, w_pure, w_bind, w_of, w_m1, w_m2, w_var, w_c, w_truth, w_ite, w_and, w_or, w_not, w_andV, w_orV, w_notV, w_if, w_nil, w_cons, w_tup, w_lst, w_call, w_nx, w_seq, w_drop, w_ret, w_set, w_ifS, w_slot, w_callF, w_callK, w_app2, w_part, w_noPart, w_sl, w_seqOf, w_rng, w_for, w_forL_nil, w_app, w_ixO, w_lenO, w_popAt, w_setIx, w_aug, w_par2, w_par3, w_mbind, w_chain, wX_runF, VL.fill, VL.put, outs, startE, wipeE, backE, bindT_nm, bindT_tt, bindT_tl, bindTs_n, bindTs_c, VL.pick, List.filterMap_cons, List.filterMap_nil, List.map_cons, List.map_nil, List.length_cons, List.length_nil, List.replicate, List.cons_append, List.nil_append, List.getElem?_cons_zero, List.getElem?_cons_succ, List.set_cons_zero, List.set_cons_succ, Option.map_some, Option.bind_some, Option.getD_some, Nat.reduceSub, Nat.reduceAdd, Int.cast_ofNat_Int, Int.reduceLT, Int.reduceLE, Int.reduceNeg, Int.reduceEq, gEq_int, gNe_int, gLt_int, gGt_int, gLe_int, gGe_int, gAdd_int, gSub_int, gMul_l, gMul_r, gMod_int, gFdv_int, gNeg_i, cInt_i, cInt_b, cAbs_i, cLen_l, cLen_t, cTup_l, cTup_t, cLst_l, cLst_t, gIx_l, gIx_t, setI_i, popI_i, gSl_l, gSl_t, gSl_scr, dSeq_l, dSeq_t, dSeq_s, cMin2_i, cMax2_i, cEnum_l, cZip_l, cZip_t, tr_b, tr_i, tr_l, tr_t, tr_n, gIs_n, gIsn_n, isN, lstAt_0, lstAt_s, gAdd_l, gAdd_t, le_sizeP, lt_sizeP, gPow_i, cAll_mb, cAny_mb, w_star, w_tupS, w_lstS, w_star2, dItems_l, dItems_t, gCat_l, starT_c, gRev_ll, gRev_tt, true_and, and_true, Bool.not_true, Bool.not_false, decide_true, decide_false, isi_int_non, isi_int_bl, isi_int_int, isi_int_str, isi_int_lst, isi_int_tup, isi_str_non, isi_str_bl, isi_str_int, isi_str_str, isi_str_lst, isi_str_tup, isi_bool_non, isi_bool_bl, isi_bool_int, isi_bool_str, isi_bool_lst, isi_bool_tup, isi_list_non, isi_list_bl, isi_list_int, isi_list_str, isi_list_lst, isi_list_tup, isi_tuple_non, isi_tuple_bl, isi_tuple_int, isi_tuple_str, isi_tuple_lst, isi_tuple_tup, isi_dict_non, isi_dict_bl, isi_dict_int, isi_dict_str, isi_dict_lst, isi_dict_tup, isi_list_tuple_non, isi_list_tuple_bl, isi_list_tuple_int, isi_list_tuple_str, isi_list_tuple_lst, isi_list_tuple_tup, isi_bool_str_non, isi_bool_str_bl, isi_bool_str_int, isi_bool_str_str, isi_bool_str_lst, isi_bool_str_tup])
theorem about_eq {sts : List Stp} (hl : sts.length ≤ 100) : f__law_about [.tuple (sts.map stpD)] = .ok (.tuple ((sts.map oppS).map stpD), []) := by
  apply wX_eq
  unfold f__law_about
  (simp (disch := first | omega | (simp only [List.length_cons, List.length_nil, List.length_append, List.length_map, List.length_take, List.length_drop, List.length_reverse, List.length_set]; omega) | decide) only [wX_ok, wX_exc, wO_some, wO_ite, wIf_true, wIf_false, wIf_not, wF_nx, wF_rt, wF_bk, wF_ct, w_pure, w_bind, w_of, w_m1, w_m2, w_var, w_c, w_truth, w_ite, w_and, w_or, w_not, w_andV, w_orV, w_notV, w_if, w_nil, w_cons, w_tup, w_lst, w_call, w_nx, w_seq, w_drop, w_ret, w_set, w_ifS, w_slot, w_callF, w_callK, w_app2, w_part, w_noPart, w_sl, w_seqOf, w_rng, w_for, w_forL_nil, w_app, w_ixO, w_lenO, w_popAt, w_setIx, w_aug, w_par2, w_par3, w_mbind, w_chain, wX_runF, VL.fill, VL.put, outs, startE, wipeE, backE, bindT_nm, bindT_tt, bindT_tl, bindTs_n, bindTs_c, VL.pick, List.filterMap_cons, List.filterMap_nil, List.map_cons, List.map_nil, List.length_cons, List.length_nil, List.replicate, List.cons_append, List.nil_append, List.getElem?_cons_zero, List.getElem?_cons_succ, List.set_cons_zero, List.set_cons_succ, Option.map_some, Option.bind_some, Option.getD_some, Nat.reduceSub, Nat.reduceAdd, Int.cast_ofNat_Int, Int.reduceLT, Int.reduceLE, Int.reduceNeg, Int.reduceEq, gEq_int, gNe_int, gLt_int, gGt_int, gLe_int, gGe_int, gAdd_int, gSub_int, gMul_l, gMul_r, gMod_int, gFdv_int, gNeg_i, cInt_i, cInt_b, cAbs_i, cLen_l, cLen_t, cTup_l, cTup_t, cLst_l, cLst_t, gIx_l, gIx_t, setI_i, popI_i, gSl_l, gSl_t, gSl_scr, dSeq_l, dSeq_t, dSeq_s, cMin2_i, cMax2_i, cEnum_l, cZip_l, cZip_t, tr_b, tr_i, tr_l, tr_t, tr_n, gIs_n, gIsn_n, isN, lstAt_0, lstAt_s, gAdd_l, gAdd_t, le_sizeP, lt_sizeP, gPow_i, cAll_mb, cAny_mb, w_star, w_tupS, w_lstS, w_star2, dItems_l, dItems_t, gCat_l, starT_c, gRev_ll, gRev_tt, true_and, and_true, Bool.not_true, Bool.not_false, decide_true, decide_false, isi_int_non, isi_int_bl, isi_int_int, isi_int_str, isi_int_lst, isi_int_tup, isi_str_non, isi_str_bl, isi_str_int, isi_str_str, isi_str_lst, isi_str_tup, isi_bool_non, isi_bool_bl, isi_bool_int, isi_bool_str, isi_bool_lst, isi_bool_tup, isi_list_non, isi_list_bl, isi_list_int, isi_list_str, isi_list_lst, isi_list_tup, isi_tuple_non, isi_tuple_bl, isi_tuple_int, isi_tuple_str, isi_tuple_lst, isi_tuple_tup, isi_dict_non, isi_dict_bl, isi_dict_int, isi_dict_str, isi_dict_lst, isi_dict_tup, isi_list_tuple_non, isi_list_tuple_bl, isi_list_tuple_int, isi_list_tuple_str, isi_list_tuple_lst, isi_list_tuple_tup, isi_bool_str_non, isi_bool_str_bl, isi_bool_str_int, isi_bool_str_str, isi_bool_str_lst, isi_bool_str_tup])
  refine w_forI (k := 0) (fun j ρ => ∃ a, ρ = [some (.tuple (sts.map stpD)), some (.list (((sts.take j).map oppS).map stpD)), a]) ⟨none, rfl⟩ ?_ ?_
  · rintro j y ρ hj ⟨a, rfl⟩
    rw [Nat.zero_add] at *
    rw [List.getElem?_map] at hj
    obtain ⟨st, h1, rfl⟩ := Option.map_eq_some_iff.mp hj
    rw [take_snoc h1, List.map_append, List.map_append]
    have hz : (((sts.take j).map oppS).map stpD).length ≤ 100 := by rw [List.length_map, List.length_map, List.length_take]; omega
    cases st with
    | up n =>
      (simp (disch := first | omega | (simp only [List.length_cons, List.length_nil, List.length_append, List.length_map, List.length_take, List.length_drop, List.length_reverse, List.length_set]; omega) | decide) only [stpD, at0, at1, gEq_str, seq_uu, wX_ok, wX_exc, wO_some, wO_ite, wIf_true, wIf_false, wIf_not, wF_nx, wF_rt, wF_bk, wF_ct, w_pure, w_bind, w_of, w_m1, w_m2, w_var, w_c, w_truth, w_ite, w_and, w_or, w_not, w_andV, w_orV, w_notV, w_if, w_nil, w_cons, w_tup, w_lst, w_call, w_nx, w_seq, w_drop, w_ret, w_set, w_ifS, w_slot, w_callF, w_callK, w_app2, w_part, w_noPart, w_sl, w_seqOf, w_rng, w_for, w_forL_nil, w_app, w_ixO, w_lenO, w_popAt, w_setIx, w_aug, w_par2, w_par3, w_mbind, w_chain, wX_runF, VL.fill, VL.put, outs, startE, wipeE, backE, bindT_nm, bindT_tt, bindT_tl, bindTs_n, bindTs_c, VL.pick, List.filterMap_cons, List.filterMap_nil, List.map_cons, List.map_nil, List.length_cons, List.length_nil, List.replicate, List.cons_append, List.nil_append, List.getElem?_cons_zero, List.getElem?_cons_succ, List.set_cons_zero, List.set_cons_succ, Option.map_some, Option.bind_some, Option.getD_some, Nat.reduceSub, Nat.reduceAdd, Int.cast_ofNat_Int, Int.reduceLT, Int.reduceLE, Int.reduceNeg, Int.reduceEq, gEq_int, gNe_int, gLt_int, gGt_int, gLe_int, gGe_int, gAdd_int, gSub_int, gMul_l, gMul_r, gMod_int, gFdv_int, gNeg_i, cInt_i, cInt_b, cAbs_i, cLen_l, cLen_t, cTup_l, cTup_t, cLst_l, cLst_t, gIx_l, gIx_t, setI_i, popI_i, gSl_l, gSl_t, gSl_scr, dSeq_l, dSeq_t, dSeq_s, cMin2_i, cMax2_i, cEnum_l, cZip_l, cZip_t, tr_b, tr_i, tr_l, tr_t, tr_n, gIs_n, gIsn_n, isN, lstAt_0, lstAt_s, gAdd_l, gAdd_t, le_sizeP, lt_sizeP, gPow_i, cAll_mb, cAny_mb, w_star, w_tupS, w_lstS, w_star2, dItems_l, dItems_t, gCat_l, starT_c, gRev_ll, gRev_tt, true_and, and_true, Bool.not_true, Bool.not_false, decide_true, decide_false, isi_int_non, isi_int_bl, isi_int_int, isi_int_str, isi_int_lst, isi_int_tup, isi_str_non, isi_str_bl, isi_str_int, isi_str_str, isi_str_lst, isi_str_tup, isi_bool_non, isi_bool_bl, isi_bool_int, isi_bool_str, isi_bool_lst, isi_bool_tup, isi_list_non, isi_list_bl, isi_list_int, isi_list_str, isi_list_lst, isi_list_tup, isi_tuple_non, isi_tuple_bl, isi_tuple_int, isi_tuple_str, isi_tuple_lst, isi_tuple_tup, isi_dict_non, isi_dict_bl, isi_dict_int, isi_dict_str, isi_dict_lst, isi_dict_tup, isi_list_tuple_non, isi_list_tuple_bl, isi_list_tuple_int, isi_list_tuple_str, isi_list_tuple_lst, isi_list_tuple_tup, isi_bool_str_non, isi_bool_str_bl, isi_bool_str_int, isi_bool_str_str, isi_bool_str_lst, isi_bool_str_tup])
      exact ⟨_, by rw [Int.zero_sub]; rfl⟩
    | most z n =>
      (simp (disch := first | omega | (simp only [List.length_cons, List.length_nil, List.length_append, List.length_map, List.length_take, List.length_drop, List.length_reverse, List.length_set]; omega) | decide) only [stpD, at0, at1, at2, gEq_str, seq_mu, seq_mm, wX_ok, wX_exc, wO_some, wO_ite, wIf_true, wIf_false, wIf_not, wF_nx, wF_rt, wF_bk, wF_ct, w_pure, w_bind, w_of, w_m1, w_m2, w_var, w_c, w_truth, w_ite, w_and, w_or, w_not, w_andV, w_orV, w_notV, w_if, w_nil, w_cons, w_tup, w_lst, w_call, w_nx, w_seq, w_drop, w_ret, w_set, w_ifS, w_slot, w_callF, w_callK, w_app2, w_part, w_noPart, w_sl, w_seqOf, w_rng, w_for, w_forL_nil, w_app, w_ixO, w_lenO, w_popAt, w_setIx, w_aug, w_par2, w_par3, w_mbind, w_chain, wX_runF, VL.fill, VL.put, outs, startE, wipeE, backE, bindT_nm, bindT_tt, bindT_tl, bindTs_n, bindTs_c, VL.pick, List.filterMap_cons, List.filterMap_nil, List.map_cons, List.map_nil, List.length_cons, List.length_nil, List.replicate, List.cons_append, List.nil_append, List.getElem?_cons_zero, List.getElem?_cons_succ, List.set_cons_zero, List.set_cons_succ, Option.map_some, Option.bind_some, Option.getD_some, Nat.reduceSub, Nat.reduceAdd, Int.cast_ofNat_Int, Int.reduceLT, Int.reduceLE, Int.reduceNeg, Int.reduceEq, gEq_int, gNe_int, gLt_int, gGt_int, gLe_int, gGe_int, gAdd_int, gSub_int, gMul_l, gMul_r, gMod_int, gFdv_int, gNeg_i, cInt_i, cInt_b, cAbs_i, cLen_l, cLen_t, cTup_l, cTup_t, cLst_l, cLst_t, gIx_l, gIx_t, setI_i, popI_i, gSl_l, gSl_t, gSl_scr, dSeq_l, dSeq_t, dSeq_s, cMin2_i, cMax2_i, cEnum_l, cZip_l, cZip_t, tr_b, tr_i, tr_l, tr_t, tr_n, gIs_n, gIsn_n, isN, lstAt_0, lstAt_s, gAdd_l, gAdd_t, le_sizeP, lt_sizeP, gPow_i, cAll_mb, cAny_mb, w_star, w_tupS, w_lstS, w_star2, dItems_l, dItems_t, gCat_l, starT_c, gRev_ll, gRev_tt, true_and, and_true, Bool.not_true, Bool.not_false, decide_true, decide_false, isi_int_non, isi_int_bl, isi_int_int, isi_int_str, isi_int_lst, isi_int_tup, isi_str_non, isi_str_bl, isi_str_int, isi_str_str, isi_str_lst, isi_str_tup, isi_bool_non, isi_bool_bl, isi_bool_int, isi_bool_str, isi_bool_lst, isi_bool_tup, isi_list_non, isi_list_bl, isi_list_int, isi_list_str, isi_list_lst, isi_list_tup, isi_tuple_non, isi_tuple_bl, isi_tuple_int, isi_tuple_str, isi_tuple_lst, isi_tuple_tup, isi_dict_non, isi_dict_bl, isi_dict_int, isi_dict_str, isi_dict_lst, isi_dict_tup, isi_list_tuple_non, isi_list_tuple_bl, isi_list_tuple_int, isi_list_tuple_str, isi_list_tuple_lst, isi_list_tuple_tup, isi_bool_str_non, isi_bool_str_bl, isi_bool_str_int, isi_bool_str_str, isi_bool_str_lst, isi_bool_str_tup])
      exact ⟨_, by rw [Int.zero_sub]; rfl⟩
    | least z n =>
      (simp (disch := first | omega | (simp only [List.length_cons, List.length_nil, List.length_append, List.length_map, List.length_take, List.length_drop, List.length_reverse, List.length_set]; omega) | decide) only [stpD, at0, at1, at2, gEq_str, seq_lu, seq_lm, wX_ok, wX_exc, wO_some, wO_ite, wIf_true, wIf_false, wIf_not, wF_nx, wF_rt, wF_bk, wF_ct, w_pure, w_bind, w_of, w_m1, w_m2, w_var, w_c, w_truth, w_ite, w_and, w_or, w_not, w_andV, w_orV, w_notV, w_if, w_nil, w_cons, w_tup, w_lst, w_call, w_nx, w_seq, w_drop, w_ret, w_set, w_ifS, w_slot, w_callF, w_callK, w_app2, w_part, w_noPart, w_sl, w_seqOf, w_rng, w_for, w_forL_nil, w_app, w_ixO, w_lenO, w_popAt, w_setIx, w_aug, w_par2, w_par3, w_mbind, w_chain, wX_runF, VL.fill, VL.put, outs, startE, wipeE, backE, bindT_nm, bindT_tt, bindT_tl, bindTs_n, bindTs_c, VL.pick, List.filterMap_cons, List.filterMap_nil, List.map_cons, List.map_nil, List.length_cons, List.length_nil, List.replicate, List.cons_append, List.nil_append, List.getElem?_cons_zero, List.getElem?_cons_succ, List.set_cons_zero, List.set_cons_succ, Option.map_some, Option.bind_some, Option.getD_some, Nat.reduceSub, Nat.reduceAdd, Int.cast_ofNat_Int, Int.reduceLT, Int.reduceLE, Int.reduceNeg, Int.reduceEq, gEq_int, gNe_int, gLt_int, gGt_int, gLe_int, gGe_int, gAdd_int, gSub_int, gMul_l, gMul_r, gMod_int, gFdv_int, gNeg_i, cInt_i, cInt_b, cAbs_i, cLen_l, cLen_t, cTup_l, cTup_t, cLst_l, cLst_t, gIx_l, gIx_t, setI_i, popI_i, gSl_l, gSl_t, gSl_scr, dSeq_l, dSeq_t, dSeq_s, cMin2_i, cMax2_i, cEnum_l, cZip_l, cZip_t, tr_b, tr_i, tr_l, tr_t, tr_n, gIs_n, gIsn_n, isN, lstAt_0, lstAt_s, gAdd_l, gAdd_t, le_sizeP, lt_sizeP, gPow_i, cAll_mb, cAny_mb, w_star, w_tupS, w_lstS, w_star2, dItems_l, dItems_t, gCat_l, starT_c, gRev_ll, gRev_tt, true_and, and_true, Bool.not_true, Bool.not_false, decide_true, decide_false, isi_int_non, isi_int_bl, isi_int_int, isi_int_str, isi_int_lst, isi_int_tup, isi_str_non, isi_str_bl, isi_str_int, isi_str_str, isi_str_lst, isi_str_tup, isi_bool_non, isi_bool_bl, isi_bool_int, isi_bool_str, isi_bool_lst, isi_bool_tup, isi_list_non, isi_list_bl, isi_list_int, isi_list_str, isi_list_lst, isi_list_tup, isi_tuple_non, isi_tuple_bl, isi_tuple_int, isi_tuple_str, isi_tuple_lst, isi_tuple_tup, isi_dict_non, isi_dict_bl, isi_dict_int, isi_dict_str, isi_dict_lst, isi_dict_tup, isi_list_tuple_non, isi_list_tuple_bl, isi_list_tuple_int, isi_list_tuple_str, isi_list_tuple_lst, isi_list_tuple_tup, isi_bool_str_non, isi_bool_str_bl, isi_bool_str_int, isi_bool_str_str, isi_bool_str_lst, isi_bool_str_tup])
      exact ⟨_, by rw [Int.zero_sub]; rfl⟩
  · rintro ρ' ⟨a, rfl⟩
    rw [List.length_map, Nat.zero_add, List.take_length]
    (simp (disch := first | omega | (simp only [List.length_cons, List.length_nil, List.length_append, List.length_map, List.length_take, List.length_drop, List.length_reverse, List.length_set]; omega) | decide) only [wX_ok, wX_exc, wO_some, wO_ite, wIf_true, wIf_false, wIf_not, wF_nx, wF_rt, wF_bk, wF_ct, w_pure, w_bind, w_of, w_m1, w_m2, w_var, w_c, w_truth, w_ite, w_and, w_or, w_not, w_andV, w_orV, w_notV, w_if, w_nil, w_cons, w_tup, w_lst, w_call, w_nx, w_seq, w_drop, w_ret, w_set, w_ifS, w_slot, w_callF, w_callK, w_app2, w_part, w_noPart, w_sl, w_seqOf, w_rng, w_for, w_forL_nil, w_app, w_ixO, w_lenO, w_popAt, w_setIx, w_aug, w_par2, w_par3, w_mbind, w_chain, wX_runF, VL.fill, VL.put, outs, startE, wipeE, backE, bindT_nm, bindT_tt, bindT_tl, bindTs_n, bindTs_c, VL.pick, List.filterMap_cons, List.filterMap_nil, List.map_cons, List.map_nil, List.length_cons, List.length_nil, List.replicate, List.cons_append, List.nil_append, List.getElem?_cons_zero, List.getElem?_cons_succ, List.set_cons_zero, List.set_cons_succ, Option.map_some, Option.bind_some, Option.getD_some, Nat.reduceSub, Nat.reduceAdd, Int.cast_ofNat_Int, Int.reduceLT, Int.reduceLE, Int.reduceNeg, Int.reduceEq, gEq_int, gNe_int, gLt_int, gGt_int, gLe_int, gGe_int, gAdd_int, gSub_int, gMul_l, gMul_r, gMod_int, gFdv_int, gNeg_i, cInt_i, cInt_b, cAbs_i, cLen_l, cLen_t, cTup_l, cTup_t, cLst_l, cLst_t, gIx_l, gIx_t, setI_i, popI_i, gSl_l, gSl_t, gSl_scr, dSeq_l, dSeq_t, dSeq_s, cMin2_i, cMax2_i, cEnum_l, cZip_l, cZip_t, tr_b, tr_i, tr_l, tr_t, tr_n, gIs_n, gIsn_n, isN, lstAt_0, lstAt_s, gAdd_l, gAdd_t, le_sizeP, lt_sizeP, gPow_i, cAll_mb, cAny_mb, w_star, w_tupS, w_lstS, w_star2, dItems_l, dItems_t, gCat_l, starT_c, gRev_ll, gRev_tt, true_and, and_true, Bool.not_true, Bool.not_false, decide_true, decide_false, isi_int_non, isi_int_bl, isi_int_int, isi_int_str, isi_int_lst, isi_int_tup, isi_str_non, isi_str_bl, isi_str_int, isi_str_str, isi_str_lst, isi_str_tup, isi_bool_non, isi_bool_bl, isi_bool_int, isi_bool_str, isi_bool_lst, isi_bool_tup, isi_list_non, isi_list_bl, isi_list_int, isi_list_str, isi_list_lst, isi_list_tup, isi_tuple_non, isi_tuple_bl, isi_tuple_int, isi_tuple_str, isi_tuple_lst, isi_tuple_tup, isi_dict_non, isi_dict_bl, isi_dict_int, isi_dict_str, isi_dict_lst, isi_dict_tup, isi_list_tuple_non, isi_list_tuple_bl, isi_list_tuple_int, isi_list_tuple_str, isi_list_tuple_lst, isi_list_tuple_tup, isi_bool_str_non, isi_bool_str_bl, isi_bool_str_int, isi_bool_str_str, isi_bool_str_lst, isi_bool_str_tup])

theorem rng3_len {L : Nat} (h : L ≤ 1000) : rng3 [.int ((L : Int) - 1), .int (-1), .int (-1)] = some (rngDn ((L : Int) - 1) L) := by
  have e : ((L : Int) - 1 - -1).toNat = L := by omega
  have e2 : lim62 ((L : Int) - 1) = true := by unfold lim62; simp; omega
  show (if (decide ((-1 : Int) = -1) && lim62 ((L : Int) - 1) && lim62 (-1)) = true then some (rngDn ((L : Int) - 1) ((L : Int) - 1 - -1).toNat) else none) = _
  rw [e, e2]
  rfl
theorem rngDn_get {i : Int} {k j : Nat} {d : D} (h : (rngDn i k)[j]? = some d) : j < k ∧ d = .int (i + (j : Nat) * (-1)) := by
  unfold rngDn at h
  rw [List.getElem?_map] at h
  obtain ⟨m, h1, rfl⟩ := Option.map_eq_some_iff.mp h
  obtain ⟨w, h2⟩ := List.getElem?_eq_some_iff.mp h1
  rw [List.length_range] at w
  rw [List.getElem_range] at h2
  exact ⟨w, by rw [h2]⟩
theorem rngDn_len (i : Int) (k : Nat) : (rngDn i k).length = k := by unfold rngDn; simp
theorem law_terms_eq {sts : List Stp} (hl : sts.length ≤ 100) : f__law_terms [.tuple (sts.map stpD)] = .ok (.list (.tuple [.int (-1), .str "start", .str "start", .int (ups sts)] :: trk 0 sts), []) := by
  have hL : (sts.map stpD).length ≤ 1000 := by rw [List.length_map]; omega
  apply wX_eq
  unfold f__law_terms
  (simp (disch := first | omega | (simp only [List.length_cons, List.length_nil, List.length_append, List.length_map, List.length_take, List.length_drop, List.length_reverse, List.length_set]; omega) | decide) only [rng3_len hL, wX_ok, wX_exc, wO_some, wO_ite, wIf_true, wIf_false, wIf_not, wF_nx, wF_rt, wF_bk, wF_ct, w_pure, w_bind, w_of, w_m1, w_m2, w_var, w_c, w_truth, w_ite, w_and, w_or, w_not, w_andV, w_orV, w_notV, w_if, w_nil, w_cons, w_tup, w_lst, w_call, w_nx, w_seq, w_drop, w_ret, w_set, w_ifS, w_slot, w_callF, w_callK, w_app2, w_part, w_noPart, w_sl, w_seqOf, w_rng, w_for, w_forL_nil, w_app, w_ixO, w_lenO, w_popAt, w_setIx, w_aug, w_par2, w_par3, w_mbind, w_chain, wX_runF, VL.fill, VL.put, outs, startE, wipeE, backE, bindT_nm, bindT_tt, bindT_tl, bindTs_n, bindTs_c, VL.pick, List.filterMap_cons, List.filterMap_nil, List.map_cons, List.map_nil, List.length_cons, List.length_nil, List.replicate, List.cons_append, List.nil_append, List.getElem?_cons_zero, List.getElem?_cons_succ, List.set_cons_zero, List.set_cons_succ, Option.map_some, Option.bind_some, Option.getD_some, Nat.reduceSub, Nat.reduceAdd, Int.cast_ofNat_Int, Int.reduceLT, Int.reduceLE, Int.reduceNeg, Int.reduceEq, gEq_int, gNe_int, gLt_int, gGt_int, gLe_int, gGe_int, gAdd_int, gSub_int, gMul_l, gMul_r, gMod_int, gFdv_int, gNeg_i, cInt_i, cInt_b, cAbs_i, cLen_l, cLen_t, cTup_l, cTup_t, cLst_l, cLst_t, gIx_l, gIx_t, setI_i, popI_i, gSl_l, gSl_t, gSl_scr, dSeq_l, dSeq_t, dSeq_s, cMin2_i, cMax2_i, cEnum_l, cZip_l, cZip_t, tr_b, tr_i, tr_l, tr_t, tr_n, gIs_n, gIsn_n, isN, lstAt_0, lstAt_s, gAdd_l, gAdd_t, le_sizeP, lt_sizeP, gPow_i, cAll_mb, cAny_mb, w_star, w_tupS, w_lstS, w_star2, dItems_l, dItems_t, gCat_l, starT_c, gRev_ll, gRev_tt, true_and, and_true, Bool.not_true, Bool.not_false, decide_true, decide_false, isi_int_non, isi_int_bl, isi_int_int, isi_int_str, isi_int_lst, isi_int_tup, isi_str_non, isi_str_bl, isi_str_int, isi_str_str, isi_str_lst, isi_str_tup, isi_bool_non, isi_bool_bl, isi_bool_int, isi_bool_str, isi_bool_lst, isi_bool_tup, isi_list_non, isi_list_bl, isi_list_int, isi_list_str, isi_list_lst, isi_list_tup, isi_tuple_non, isi_tuple_bl, isi_tuple_int, isi_tuple_str, isi_tuple_lst, isi_tuple_tup, isi_dict_non, isi_dict_bl, isi_dict_int, isi_dict_str, isi_dict_lst, isi_dict_tup, isi_list_tuple_non, isi_list_tuple_bl, isi_list_tuple_int, isi_list_tuple_str, isi_list_tuple_lst, isi_list_tuple_tup, isi_bool_str_non, isi_bool_str_bl, isi_bool_str_int, isi_bool_str_str, isi_bool_str_lst, isi_bool_str_tup])
  refine w_forI (k := 0) (fun j ρ => ∃ a, ρ = [some (.tuple (sts.map stpD)), some (.list (trk (sts.length - j) (sts.drop (sts.length - j))).reverse), some (.int (ups (sts.drop (sts.length - j)))), a]) ⟨none, by rw [Nat.sub_zero, List.drop_length]; rfl⟩ ?_ ?_
  · rintro j y ρ hj ⟨a, rfl⟩
    rw [Nat.zero_add] at *
    obtain ⟨hjl, rfl⟩ := rngDn_get hj
    have hjl : j < sts.length := by simpa using hjl
    obtain ⟨st, h1, h2⟩ := drop_get hjl
    have hg : (sts.map stpD)[sts.length - 1 - j]? = some (stpD st) := by rw [List.getElem?_map, h1]; rfl
    have ek : ((sts.map stpD).length : Int) - 1 + (j : Int) * -1 = ((sts.length - 1 - j : Nat) : Int) := by rw [List.length_map]; omega
    rw [h2]
    have e1 : sts.length - (j + 1) = sts.length - 1 - j := by omega
    have e2 : sts.length - j = sts.length - 1 - j + 1 := by omega
    have hz : (trk (sts.length - j) (sts.drop (sts.length - j))).length ≤ 100 := Nat.le_trans (trk_len _ _) (by rw [List.length_drop]; omega)
    rw [e1]
    rw [e2] at hz ⊢
    generalize hK : sts.length - 1 - j = K at *
    generalize hD : sts.drop (K + 1) = r at *
    cases st with
    | up n =>
      have hg1 : L2.atI (sts.map stpD) (K : Int) = some (.tuple [.str "up", .int n]) := atI_nat hg
      (simp (disch := first | omega | (simp only [List.length_cons, List.length_nil, List.length_append, List.length_map, List.length_take, List.length_drop, List.length_reverse, List.length_set]; omega) | decide) only [ek, hg1, at0, at1, gEq_str, seq_uu, wX_ok, wX_exc, wO_some, wO_ite, wIf_true, wIf_false, wIf_not, wF_nx, wF_rt, wF_bk, wF_ct, w_pure, w_bind, w_of, w_m1, w_m2, w_var, w_c, w_truth, w_ite, w_and, w_or, w_not, w_andV, w_orV, w_notV, w_if, w_nil, w_cons, w_tup, w_lst, w_call, w_nx, w_seq, w_drop, w_ret, w_set, w_ifS, w_slot, w_callF, w_callK, w_app2, w_part, w_noPart, w_sl, w_seqOf, w_rng, w_for, w_forL_nil, w_app, w_ixO, w_lenO, w_popAt, w_setIx, w_aug, w_par2, w_par3, w_mbind, w_chain, wX_runF, VL.fill, VL.put, outs, startE, wipeE, backE, bindT_nm, bindT_tt, bindT_tl, bindTs_n, bindTs_c, VL.pick, List.filterMap_cons, List.filterMap_nil, List.map_cons, List.map_nil, List.length_cons, List.length_nil, List.replicate, List.cons_append, List.nil_append, List.getElem?_cons_zero, List.getElem?_cons_succ, List.set_cons_zero, List.set_cons_succ, Option.map_some, Option.bind_some, Option.getD_some, Nat.reduceSub, Nat.reduceAdd, Int.cast_ofNat_Int, Int.reduceLT, Int.reduceLE, Int.reduceNeg, Int.reduceEq, gEq_int, gNe_int, gLt_int, gGt_int, gLe_int, gGe_int, gAdd_int, gSub_int, gMul_l, gMul_r, gMod_int, gFdv_int, gNeg_i, cInt_i, cInt_b, cAbs_i, cLen_l, cLen_t, cTup_l, cTup_t, cLst_l, cLst_t, gIx_l, gIx_t, setI_i, popI_i, gSl_l, gSl_t, gSl_scr, dSeq_l, dSeq_t, dSeq_s, cMin2_i, cMax2_i, cEnum_l, cZip_l, cZip_t, tr_b, tr_i, tr_l, tr_t, tr_n, gIs_n, gIsn_n, isN, lstAt_0, lstAt_s, gAdd_l, gAdd_t, le_sizeP, lt_sizeP, gPow_i, cAll_mb, cAny_mb, w_star, w_tupS, w_lstS, w_star2, dItems_l, dItems_t, gCat_l, starT_c, gRev_ll, gRev_tt, true_and, and_true, Bool.not_true, Bool.not_false, decide_true, decide_false, isi_int_non, isi_int_bl, isi_int_int, isi_int_str, isi_int_lst, isi_int_tup, isi_str_non, isi_str_bl, isi_str_int, isi_str_str, isi_str_lst, isi_str_tup, isi_bool_non, isi_bool_bl, isi_bool_int, isi_bool_str, isi_bool_lst, isi_bool_tup, isi_list_non, isi_list_bl, isi_list_int, isi_list_str, isi_list_lst, isi_list_tup, isi_tuple_non, isi_tuple_bl, isi_tuple_int, isi_tuple_str, isi_tuple_lst, isi_tuple_tup, isi_dict_non, isi_dict_bl, isi_dict_int, isi_dict_str, isi_dict_lst, isi_dict_tup, isi_list_tuple_non, isi_list_tuple_bl, isi_list_tuple_int, isi_list_tuple_str, isi_list_tuple_lst, isi_list_tuple_tup, isi_bool_str_non, isi_bool_str_bl, isi_bool_str_int, isi_bool_str_str, isi_bool_str_lst, isi_bool_str_tup])
      exact ⟨_, rfl⟩
    | most z n =>
      have hg1 : L2.atI (sts.map stpD) (K : Int) = some (.tuple [.str "most", .str z, .int n]) := atI_nat hg
      (simp (disch := first | omega | (simp only [List.length_cons, List.length_nil, List.length_append, List.length_map, List.length_take, List.length_drop, List.length_reverse, List.length_set]; omega) | decide) only [ek, hg1, at0, at1, at2, gEq_str, seq_mu, wX_ok, wX_exc, wO_some, wO_ite, wIf_true, wIf_false, wIf_not, wF_nx, wF_rt, wF_bk, wF_ct, w_pure, w_bind, w_of, w_m1, w_m2, w_var, w_c, w_truth, w_ite, w_and, w_or, w_not, w_andV, w_orV, w_notV, w_if, w_nil, w_cons, w_tup, w_lst, w_call, w_nx, w_seq, w_drop, w_ret, w_set, w_ifS, w_slot, w_callF, w_callK, w_app2, w_part, w_noPart, w_sl, w_seqOf, w_rng, w_for, w_forL_nil, w_app, w_ixO, w_lenO, w_popAt, w_setIx, w_aug, w_par2, w_par3, w_mbind, w_chain, wX_runF, VL.fill, VL.put, outs, startE, wipeE, backE, bindT_nm, bindT_tt, bindT_tl, bindTs_n, bindTs_c, VL.pick, List.filterMap_cons, List.filterMap_nil, List.map_cons, List.map_nil, List.length_cons, List.length_nil, List.replicate, List.cons_append, List.nil_append, List.getElem?_cons_zero, List.getElem?_cons_succ, List.set_cons_zero, List.set_cons_succ, Option.map_some, Option.bind_some, Option.getD_some, Nat.reduceSub, Nat.reduceAdd, Int.cast_ofNat_Int, Int.reduceLT, Int.reduceLE, Int.reduceNeg, Int.reduceEq, gEq_int, gNe_int, gLt_int, gGt_int, gLe_int, gGe_int, gAdd_int, gSub_int, gMul_l, gMul_r, gMod_int, gFdv_int, gNeg_i, cInt_i, cInt_b, cAbs_i, cLen_l, cLen_t, cTup_l, cTup_t, cLst_l, cLst_t, gIx_l, gIx_t, setI_i, popI_i, gSl_l, gSl_t, gSl_scr, dSeq_l, dSeq_t, dSeq_s, cMin2_i, cMax2_i, cEnum_l, cZip_l, cZip_t, tr_b, tr_i, tr_l, tr_t, tr_n, gIs_n, gIsn_n, isN, lstAt_0, lstAt_s, gAdd_l, gAdd_t, le_sizeP, lt_sizeP, gPow_i, cAll_mb, cAny_mb, w_star, w_tupS, w_lstS, w_star2, dItems_l, dItems_t, gCat_l, starT_c, gRev_ll, gRev_tt, true_and, and_true, Bool.not_true, Bool.not_false, decide_true, decide_false, isi_int_non, isi_int_bl, isi_int_int, isi_int_str, isi_int_lst, isi_int_tup, isi_str_non, isi_str_bl, isi_str_int, isi_str_str, isi_str_lst, isi_str_tup, isi_bool_non, isi_bool_bl, isi_bool_int, isi_bool_str, isi_bool_lst, isi_bool_tup, isi_list_non, isi_list_bl, isi_list_int, isi_list_str, isi_list_lst, isi_list_tup, isi_tuple_non, isi_tuple_bl, isi_tuple_int, isi_tuple_str, isi_tuple_lst, isi_tuple_tup, isi_dict_non, isi_dict_bl, isi_dict_int, isi_dict_str, isi_dict_lst, isi_dict_tup, isi_list_tuple_non, isi_list_tuple_bl, isi_list_tuple_int, isi_list_tuple_str, isi_list_tuple_lst, isi_list_tuple_tup, isi_bool_str_non, isi_bool_str_bl, isi_bool_str_int, isi_bool_str_str, isi_bool_str_lst, isi_bool_str_tup])
      exact ⟨_, by rw [trk, List.reverse_cons]; rfl⟩
    | least z n =>
      have hg1 : L2.atI (sts.map stpD) (K : Int) = some (.tuple [.str "least", .str z, .int n]) := atI_nat hg
      (simp (disch := first | omega | (simp only [List.length_cons, List.length_nil, List.length_append, List.length_map, List.length_take, List.length_drop, List.length_reverse, List.length_set]; omega) | decide) only [ek, hg1, at0, at1, at2, gEq_str, seq_lu, wX_ok, wX_exc, wO_some, wO_ite, wIf_true, wIf_false, wIf_not, wF_nx, wF_rt, wF_bk, wF_ct, w_pure, w_bind, w_of, w_m1, w_m2, w_var, w_c, w_truth, w_ite, w_and, w_or, w_not, w_andV, w_orV, w_notV, w_if, w_nil, w_cons, w_tup, w_lst, w_call, w_nx, w_seq, w_drop, w_ret, w_set, w_ifS, w_slot, w_callF, w_callK, w_app2, w_part, w_noPart, w_sl, w_seqOf, w_rng, w_for, w_forL_nil, w_app, w_ixO, w_lenO, w_popAt, w_setIx, w_aug, w_par2, w_par3, w_mbind, w_chain, wX_runF, VL.fill, VL.put, outs, startE, wipeE, backE, bindT_nm, bindT_tt, bindT_tl, bindTs_n, bindTs_c, VL.pick, List.filterMap_cons, List.filterMap_nil, List.map_cons, List.map_nil, List.length_cons, List.length_nil, List.replicate, List.cons_append, List.nil_append, List.getElem?_cons_zero, List.getElem?_cons_succ, List.set_cons_zero, List.set_cons_succ, Option.map_some, Option.bind_some, Option.getD_some, Nat.reduceSub, Nat.reduceAdd, Int.cast_ofNat_Int, Int.reduceLT, Int.reduceLE, Int.reduceNeg, Int.reduceEq, gEq_int, gNe_int, gLt_int, gGt_int, gLe_int, gGe_int, gAdd_int, gSub_int, gMul_l, gMul_r, gMod_int, gFdv_int, gNeg_i, cInt_i, cInt_b, cAbs_i, cLen_l, cLen_t, cTup_l, cTup_t, cLst_l, cLst_t, gIx_l, gIx_t, setI_i, popI_i, gSl_l, gSl_t, gSl_scr, dSeq_l, dSeq_t, dSeq_s, cMin2_i, cMax2_i, cEnum_l, cZip_l, cZip_t, tr_b, tr_i, tr_l, tr_t, tr_n, gIs_n, gIsn_n, isN, lstAt_0, lstAt_s, gAdd_l, gAdd_t, le_sizeP, lt_sizeP, gPow_i, cAll_mb, cAny_mb, w_star, w_tupS, w_lstS, w_star2, dItems_l, dItems_t, gCat_l, starT_c, gRev_ll, gRev_tt, true_and, and_true, Bool.not_true, Bool.not_false, decide_true, decide_false, isi_int_non, isi_int_bl, isi_int_int, isi_int_str, isi_int_lst, isi_int_tup, isi_str_non, isi_str_bl, isi_str_int, isi_str_str, isi_str_lst, isi_str_tup, isi_bool_non, isi_bool_bl, isi_bool_int, isi_bool_str, isi_bool_lst, isi_bool_tup, isi_list_non, isi_list_bl, isi_list_int, isi_list_str, isi_list_lst, isi_list_tup, isi_tuple_non, isi_tuple_bl, isi_tuple_int, isi_tuple_str, isi_tuple_lst, isi_tuple_tup, isi_dict_non, isi_dict_bl, isi_dict_int, isi_dict_str, isi_dict_lst, isi_dict_tup, isi_list_tuple_non, isi_list_tuple_bl, isi_list_tuple_int, isi_list_tuple_str, isi_list_tuple_lst, isi_list_tuple_tup, isi_bool_str_non, isi_bool_str_bl, isi_bool_str_int, isi_bool_str_str, isi_bool_str_lst, isi_bool_str_tup])
      exact ⟨_, by rw [trk, List.reverse_cons]; rfl⟩
  · rintro ρ' ⟨a, rfl⟩
    have e : sts.length - (0 + (rngDn (((sts.map stpD).length : Int) - 1) (sts.map stpD).length).length) = 0 := by rw [rngDn_len]; simp
    have hz : (trk 0 sts).length ≤ 100 := Nat.le_trans (trk_len _ _) hl
    rw [e, List.drop_zero]
    (simp (disch := first | omega | (simp only [List.length_cons, List.length_nil, List.length_append, List.length_map, List.length_take, List.length_drop, List.length_reverse, List.length_set]; omega) | decide) only [List.reverse_reverse, wX_ok, wX_exc, wO_some, wO_ite, wIf_true, wIf_false, wIf_not, wF_nx, wF_rt, wF_bk, wF_ct, w_pure, w_bind, w_of, w_m1, w_m2, w_var, w_c, w_truth, w_ite, w_and, w_or, w_not, w_andV, w_orV, w_notV, w_if, w_nil, w_cons, w_tup, w_lst, w_call, w_nx, w_seq, w_drop, w_ret, w_set, w_ifS, w_slot, w_callF, w_callK, w_app2, w_part, w_noPart, w_sl, w_seqOf, w_rng, w_for, w_forL_nil, w_app, w_ixO, w_lenO, w_popAt, w_setIx, w_aug, w_par2, w_par3, w_mbind, w_chain, wX_runF, VL.fill, VL.put, outs, startE, wipeE, backE, bindT_nm, bindT_tt, bindT_tl, bindTs_n, bindTs_c, VL.pick, List.filterMap_cons, List.filterMap_nil, List.map_cons, List.map_nil, List.length_cons, List.length_nil, List.replicate, List.cons_append, List.nil_append, List.getElem?_cons_zero, List.getElem?_cons_succ, List.set_cons_zero, List.set_cons_succ, Option.map_some, Option.bind_some, Option.getD_some, Nat.reduceSub, Nat.reduceAdd, Int.cast_ofNat_Int, Int.reduceLT, Int.reduceLE, Int.reduceNeg, Int.reduceEq, gEq_int, gNe_int, gLt_int, gGt_int, gLe_int, gGe_int, gAdd_int, gSub_int, gMul_l, gMul_r, gMod_int, gFdv_int, gNeg_i, cInt_i, cInt_b, cAbs_i, cLen_l, cLen_t, cTup_l, cTup_t, cLst_l, cLst_t, gIx_l, gIx_t, setI_i, popI_i, gSl_l, gSl_t, gSl_scr, dSeq_l, dSeq_t, dSeq_s, cMin2_i, cMax2_i, cEnum_l, cZip_l, cZip_t, tr_b, tr_i, tr_l, tr_t, tr_n, gIs_n, gIsn_n, isN, lstAt_0, lstAt_s, gAdd_l, gAdd_t, le_sizeP, lt_sizeP, gPow_i, cAll_mb, cAny_mb, w_star, w_tupS, w_lstS, w_star2, dItems_l, dItems_t, gCat_l, starT_c, gRev_ll, gRev_tt, true_and, and_true, Bool.not_true, Bool.not_false, decide_true, decide_false, isi_int_non, isi_int_bl, isi_int_int, isi_int_str, isi_int_lst, isi_int_tup, isi_str_non, isi_str_bl, isi_str_int, isi_str_str, isi_str_lst, isi_str_tup, isi_bool_non, isi_bool_bl, isi_bool_int, isi_bool_str, isi_bool_lst, isi_bool_tup, isi_list_non, isi_list_bl, isi_list_int, isi_list_str, isi_list_lst, isi_list_tup, isi_tuple_non, isi_tuple_bl, isi_tuple_int, isi_tuple_str, isi_tuple_lst, isi_tuple_tup, isi_dict_non, isi_dict_bl, isi_dict_int, isi_dict_str, isi_dict_lst, isi_dict_tup, isi_list_tuple_non, isi_list_tuple_bl, isi_list_tuple_int, isi_list_tuple_str, isi_list_tuple_lst, isi_list_tuple_tup, isi_bool_str_non, isi_bool_str_bl, isi_bool_str_int, isi_bool_str_str, isi_bool_str_lst, isi_bool_str_tup])
def isUpD (d : D) : Bool := match unD d with | .up _ => true | _ => false
def noUpD (d : D) : Bool := !isUpD d
def numD (d : D) : D := .int (unD d).num
def namD (d : D) : D := match unD d with | .most x _ => .str x | .least x _ => .str x | .up _ => .none
def upl : List Stp → List Int
  | [] => []
  | .up n :: r => n :: upl r
  | .most _ _ :: r => upl r
  | .least _ _ :: r => upl r
theorem upl_sum : ∀ l, (upl l).sum = ups l
  | [] => rfl
  | .up n :: r => by rw [upl, List.sum_cons, upl_sum r, ups, Int.add_comm]
  | .most _ _ :: r => upl_sum r
  | .least _ _ :: r => upl_sum r
theorem upl_map : ∀ l : List Stp, ((l.map stpL).filter isUpD).map numD = (upl l).map .int
  | [] => rfl
  | .up n :: r => by
    rw [List.map_cons, List.filter_cons_of_pos (by rfl), List.map_cons, upl_map r]; rfl
  | .most x n :: r => by
    rw [List.map_cons, List.filter_cons_of_neg (by show ¬ (false = true); decide), upl_map r]; rfl
  | .least x n :: r => by
    rw [List.map_cons, List.filter_cons_of_neg (by show ¬ (false = true); decide), upl_map r]; rfl
theorem nms_map : ∀ l : List Stp, ((l.map stpD).filter noUpD).map namD = (nms l).map .str
  | [] => rfl
  | .up n :: r => by
    rw [List.map_cons, List.filter_cons_of_neg (by show ¬ (false = true); decide), nms_map r]; rfl
  | .most x n :: r => by
    rw [List.map_cons, List.filter_cons_of_pos (by rfl), List.map_cons, nms_map r]; rfl
  | .least x n :: r => by
    rw [List.map_cons, List.filter_cons_of_pos (by rfl), List.map_cons, nms_map r]; rfl
theorem intsD_map : ∀ l : List Int, intsD (l.map .int) = some l
  | [] => rfl
  | i :: l => by
    have := intsD_map l
    simp only [List.map_cons, intsD, this]
    rfl
theorem cSum_map (l : List Int) : cSum [.list (l.map .int)] = some (.int l.sum) := by
  show (intsD (l.map .int)).map (fun is => PyData.int is.sum) = _
  rw [intsD_map]
  rfl
theorem all_ups_eq {sts : List Stp} (hl : sts.length ≤ 100) : f_all_ups [.list (sts.map stpL)] = .ok (.int (ups sts), []) := by
  apply wX_eq
  unfold f_all_ups
  (simp (disch := first | omega | (simp only [List.length_cons, List.length_nil, List.length_append, List.length_map, List.length_take, List.length_drop, List.length_reverse, List.length_set]; omega) | decide) only [wX_ok, wX_exc, wO_some, wO_ite, wIf_true, wIf_false, wIf_not, wF_nx, wF_rt, wF_bk, wF_ct, w_pure, w_bind, w_of, w_m1, w_m2, w_var, w_c, w_truth, w_ite, w_and, w_or, w_not, w_andV, w_orV, w_notV, w_if, w_nil, w_cons, w_tup, w_lst, w_call, w_nx, w_seq, w_drop, w_ret, w_set, w_ifS, w_slot, w_callF, w_callK, w_app2, w_part, w_noPart, w_sl, w_seqOf, w_rng, w_for, w_forL_nil, w_app, w_ixO, w_lenO, w_popAt, w_setIx, w_aug, w_par2, w_par3, w_mbind, w_chain, wX_runF, VL.fill, VL.put, outs, startE, wipeE, backE, bindT_nm, bindT_tt, bindT_tl, bindTs_n, bindTs_c, VL.pick, List.filterMap_cons, List.filterMap_nil, List.map_cons, List.map_nil, List.length_cons, List.length_nil, List.replicate, List.cons_append, List.nil_append, List.getElem?_cons_zero, List.getElem?_cons_succ, List.set_cons_zero, List.set_cons_succ, Option.map_some, Option.bind_some, Option.getD_some, Nat.reduceSub, Nat.reduceAdd, Int.cast_ofNat_Int, Int.reduceLT, Int.reduceLE, Int.reduceNeg, Int.reduceEq, gEq_int, gNe_int, gLt_int, gGt_int, gLe_int, gGe_int, gAdd_int, gSub_int, gMul_l, gMul_r, gMod_int, gFdv_int, gNeg_i, cInt_i, cInt_b, cAbs_i, cLen_l, cLen_t, cTup_l, cTup_t, cLst_l, cLst_t, gIx_l, gIx_t, setI_i, popI_i, gSl_l, gSl_t, gSl_scr, dSeq_l, dSeq_t, dSeq_s, cMin2_i, cMax2_i, cEnum_l, cZip_l, cZip_t, tr_b, tr_i, tr_l, tr_t, tr_n, gIs_n, gIsn_n, isN, lstAt_0, lstAt_s, gAdd_l, gAdd_t, le_sizeP, lt_sizeP, gPow_i, cAll_mb, cAny_mb, w_star, w_tupS, w_lstS, w_star2, dItems_l, dItems_t, gCat_l, starT_c, gRev_ll, gRev_tt, true_and, and_true, Bool.not_true, Bool.not_false, decide_true, decide_false, isi_int_non, isi_int_bl, isi_int_int, isi_int_str, isi_int_lst, isi_int_tup, isi_str_non, isi_str_bl, isi_str_int, isi_str_str, isi_str_lst, isi_str_tup, isi_bool_non, isi_bool_bl, isi_bool_int, isi_bool_str, isi_bool_lst, isi_bool_tup, isi_list_non, isi_list_bl, isi_list_int, isi_list_str, isi_list_lst, isi_list_tup, isi_tuple_non, isi_tuple_bl, isi_tuple_int, isi_tuple_str, isi_tuple_lst, isi_tuple_tup, isi_dict_non, isi_dict_bl, isi_dict_int, isi_dict_str, isi_dict_lst, isi_dict_tup, isi_list_tuple_non, isi_list_tuple_bl, isi_list_tuple_int, isi_list_tuple_str, isi_list_tuple_lst, isi_list_tuple_tup, isi_bool_str_non, isi_bool_str_bl, isi_bool_str_int, isi_bool_str_str, isi_bool_str_lst, isi_bool_str_tup])
  refine w_comp isUpD numD ?_
  (simp (disch := first | omega | (simp only [List.length_cons, List.length_nil, List.length_append, List.length_map, List.length_take, List.length_drop, List.length_reverse, List.length_set]; omega) | decide) only [wX_ok, wX_exc, wO_some, wO_ite, wIf_true, wIf_false, wIf_not, wF_nx, wF_rt, wF_bk, wF_ct, w_pure, w_bind, w_of, w_m1, w_m2, w_var, w_c, w_truth, w_ite, w_and, w_or, w_not, w_andV, w_orV, w_notV, w_if, w_nil, w_cons, w_tup, w_lst, w_call, w_nx, w_seq, w_drop, w_ret, w_set, w_ifS, w_slot, w_callF, w_callK, w_app2, w_part, w_noPart, w_sl, w_seqOf, w_rng, w_for, w_forL_nil, w_app, w_ixO, w_lenO, w_popAt, w_setIx, w_aug, w_par2, w_par3, w_mbind, w_chain, wX_runF, VL.fill, VL.put, outs, startE, wipeE, backE, bindT_nm, bindT_tt, bindT_tl, bindTs_n, bindTs_c, VL.pick, List.filterMap_cons, List.filterMap_nil, List.map_cons, List.map_nil, List.length_cons, List.length_nil, List.replicate, List.cons_append, List.nil_append, List.getElem?_cons_zero, List.getElem?_cons_succ, List.set_cons_zero, List.set_cons_succ, Option.map_some, Option.bind_some, Option.getD_some, Nat.reduceSub, Nat.reduceAdd, Int.cast_ofNat_Int, Int.reduceLT, Int.reduceLE, Int.reduceNeg, Int.reduceEq, gEq_int, gNe_int, gLt_int, gGt_int, gLe_int, gGe_int, gAdd_int, gSub_int, gMul_l, gMul_r, gMod_int, gFdv_int, gNeg_i, cInt_i, cInt_b, cAbs_i, cLen_l, cLen_t, cTup_l, cTup_t, cLst_l, cLst_t, gIx_l, gIx_t, setI_i, popI_i, gSl_l, gSl_t, gSl_scr, dSeq_l, dSeq_t, dSeq_s, cMin2_i, cMax2_i, cEnum_l, cZip_l, cZip_t, tr_b, tr_i, tr_l, tr_t, tr_n, gIs_n, gIsn_n, isN, lstAt_0, lstAt_s, gAdd_l, gAdd_t, le_sizeP, lt_sizeP, gPow_i, cAll_mb, cAny_mb, w_star, w_tupS, w_lstS, w_star2, dItems_l, dItems_t, gCat_l, starT_c, gRev_ll, gRev_tt, true_and, and_true, Bool.not_true, Bool.not_false, decide_true, decide_false, isi_int_non, isi_int_bl, isi_int_int, isi_int_str, isi_int_lst, isi_int_tup, isi_str_non, isi_str_bl, isi_str_int, isi_str_str, isi_str_lst, isi_str_tup, isi_bool_non, isi_bool_bl, isi_bool_int, isi_bool_str, isi_bool_lst, isi_bool_tup, isi_list_non, isi_list_bl, isi_list_int, isi_list_str, isi_list_lst, isi_list_tup, isi_tuple_non, isi_tuple_bl, isi_tuple_int, isi_tuple_str, isi_tuple_lst, isi_tuple_tup, isi_dict_non, isi_dict_bl, isi_dict_int, isi_dict_str, isi_dict_lst, isi_dict_tup, isi_list_tuple_non, isi_list_tuple_bl, isi_list_tuple_int, isi_list_tuple_str, isi_list_tuple_lst, isi_list_tuple_tup, isi_bool_str_non, isi_bool_str_bl, isi_bool_str_int, isi_bool_str_str, isi_bool_str_lst, isi_bool_str_tup])
  refine ⟨fun y hy => ?_, ?_⟩
  · obtain ⟨st, _, rfl⟩ := List.mem_map.mp hy
    cases st with
    | up n =>
      (simp (disch := first | omega | (simp only [List.length_cons, List.length_nil, List.length_append, List.length_map, List.length_take, List.length_drop, List.length_reverse, List.length_set]; omega) | decide) only [stpL, at0, at1, gEq_str, seq_uu, wX_ok, wX_exc, wO_some, wO_ite, wIf_true, wIf_false, wIf_not, wF_nx, wF_rt, wF_bk, wF_ct, w_pure, w_bind, w_of, w_m1, w_m2, w_var, w_c, w_truth, w_ite, w_and, w_or, w_not, w_andV, w_orV, w_notV, w_if, w_nil, w_cons, w_tup, w_lst, w_call, w_nx, w_seq, w_drop, w_ret, w_set, w_ifS, w_slot, w_callF, w_callK, w_app2, w_part, w_noPart, w_sl, w_seqOf, w_rng, w_for, w_forL_nil, w_app, w_ixO, w_lenO, w_popAt, w_setIx, w_aug, w_par2, w_par3, w_mbind, w_chain, wX_runF, VL.fill, VL.put, outs, startE, wipeE, backE, bindT_nm, bindT_tt, bindT_tl, bindTs_n, bindTs_c, VL.pick, List.filterMap_cons, List.filterMap_nil, List.map_cons, List.map_nil, List.length_cons, List.length_nil, List.replicate, List.cons_append, List.nil_append, List.getElem?_cons_zero, List.getElem?_cons_succ, List.set_cons_zero, List.set_cons_succ, Option.map_some, Option.bind_some, Option.getD_some, Nat.reduceSub, Nat.reduceAdd, Int.cast_ofNat_Int, Int.reduceLT, Int.reduceLE, Int.reduceNeg, Int.reduceEq, gEq_int, gNe_int, gLt_int, gGt_int, gLe_int, gGe_int, gAdd_int, gSub_int, gMul_l, gMul_r, gMod_int, gFdv_int, gNeg_i, cInt_i, cInt_b, cAbs_i, cLen_l, cLen_t, cTup_l, cTup_t, cLst_l, cLst_t, gIx_l, gIx_t, setI_i, popI_i, gSl_l, gSl_t, gSl_scr, dSeq_l, dSeq_t, dSeq_s, cMin2_i, cMax2_i, cEnum_l, cZip_l, cZip_t, tr_b, tr_i, tr_l, tr_t, tr_n, gIs_n, gIsn_n, isN, lstAt_0, lstAt_s, gAdd_l, gAdd_t, le_sizeP, lt_sizeP, gPow_i, cAll_mb, cAny_mb, w_star, w_tupS, w_lstS, w_star2, dItems_l, dItems_t, gCat_l, starT_c, gRev_ll, gRev_tt, true_and, and_true, Bool.not_true, Bool.not_false, decide_true, decide_false, isi_int_non, isi_int_bl, isi_int_int, isi_int_str, isi_int_lst, isi_int_tup, isi_str_non, isi_str_bl, isi_str_int, isi_str_str, isi_str_lst, isi_str_tup, isi_bool_non, isi_bool_bl, isi_bool_int, isi_bool_str, isi_bool_lst, isi_bool_tup, isi_list_non, isi_list_bl, isi_list_int, isi_list_str, isi_list_lst, isi_list_tup, isi_tuple_non, isi_tuple_bl, isi_tuple_int, isi_tuple_str, isi_tuple_lst, isi_tuple_tup, isi_dict_non, isi_dict_bl, isi_dict_int, isi_dict_str, isi_dict_lst, isi_dict_tup, isi_list_tuple_non, isi_list_tuple_bl, isi_list_tuple_int, isi_list_tuple_str, isi_list_tuple_lst, isi_list_tuple_tup, isi_bool_str_non, isi_bool_str_bl, isi_bool_str_int, isi_bool_str_str, isi_bool_str_lst, isi_bool_str_tup])
      exact ⟨rfl, rfl⟩
    | most z n =>
      (simp (disch := first | omega | (simp only [List.length_cons, List.length_nil, List.length_append, List.length_map, List.length_take, List.length_drop, List.length_reverse, List.length_set]; omega) | decide) only [stpL, at0, at1, gEq_str, seq_mu, wX_ok, wX_exc, wO_some, wO_ite, wIf_true, wIf_false, wIf_not, wF_nx, wF_rt, wF_bk, wF_ct, w_pure, w_bind, w_of, w_m1, w_m2, w_var, w_c, w_truth, w_ite, w_and, w_or, w_not, w_andV, w_orV, w_notV, w_if, w_nil, w_cons, w_tup, w_lst, w_call, w_nx, w_seq, w_drop, w_ret, w_set, w_ifS, w_slot, w_callF, w_callK, w_app2, w_part, w_noPart, w_sl, w_seqOf, w_rng, w_for, w_forL_nil, w_app, w_ixO, w_lenO, w_popAt, w_setIx, w_aug, w_par2, w_par3, w_mbind, w_chain, wX_runF, VL.fill, VL.put, outs, startE, wipeE, backE, bindT_nm, bindT_tt, bindT_tl, bindTs_n, bindTs_c, VL.pick, List.filterMap_cons, List.filterMap_nil, List.map_cons, List.map_nil, List.length_cons, List.length_nil, List.replicate, List.cons_append, List.nil_append, List.getElem?_cons_zero, List.getElem?_cons_succ, List.set_cons_zero, List.set_cons_succ, Option.map_some, Option.bind_some, Option.getD_some, Nat.reduceSub, Nat.reduceAdd, Int.cast_ofNat_Int, Int.reduceLT, Int.reduceLE, Int.reduceNeg, Int.reduceEq, gEq_int, gNe_int, gLt_int, gGt_int, gLe_int, gGe_int, gAdd_int, gSub_int, gMul_l, gMul_r, gMod_int, gFdv_int, gNeg_i, cInt_i, cInt_b, cAbs_i, cLen_l, cLen_t, cTup_l, cTup_t, cLst_l, cLst_t, gIx_l, gIx_t, setI_i, popI_i, gSl_l, gSl_t, gSl_scr, dSeq_l, dSeq_t, dSeq_s, cMin2_i, cMax2_i, cEnum_l, cZip_l, cZip_t, tr_b, tr_i, tr_l, tr_t, tr_n, gIs_n, gIsn_n, isN, lstAt_0, lstAt_s, gAdd_l, gAdd_t, le_sizeP, lt_sizeP, gPow_i, cAll_mb, cAny_mb, w_star, w_tupS, w_lstS, w_star2, dItems_l, dItems_t, gCat_l, starT_c, gRev_ll, gRev_tt, true_and, and_true, Bool.not_true, Bool.not_false, decide_true, decide_false, isi_int_non, isi_int_bl, isi_int_int, isi_int_str, isi_int_lst, isi_int_tup, isi_str_non, isi_str_bl, isi_str_int, isi_str_str, isi_str_lst, isi_str_tup, isi_bool_non, isi_bool_bl, isi_bool_int, isi_bool_str, isi_bool_lst, isi_bool_tup, isi_list_non, isi_list_bl, isi_list_int, isi_list_str, isi_list_lst, isi_list_tup, isi_tuple_non, isi_tuple_bl, isi_tuple_int, isi_tuple_str, isi_tuple_lst, isi_tuple_tup, isi_dict_non, isi_dict_bl, isi_dict_int, isi_dict_str, isi_dict_lst, isi_dict_tup, isi_list_tuple_non, isi_list_tuple_bl, isi_list_tuple_int, isi_list_tuple_str, isi_list_tuple_lst, isi_list_tuple_tup, isi_bool_str_non, isi_bool_str_bl, isi_bool_str_int, isi_bool_str_str, isi_bool_str_lst, isi_bool_str_tup])
      rfl
    | least z n =>
      (simp (disch := first | omega | (simp only [List.length_cons, List.length_nil, List.length_append, List.length_map, List.length_take, List.length_drop, List.length_reverse, List.length_set]; omega) | decide) only [stpL, at0, at1, gEq_str, seq_lu, wX_ok, wX_exc, wO_some, wO_ite, wIf_true, wIf_false, wIf_not, wF_nx, wF_rt, wF_bk, wF_ct, w_pure, w_bind, w_of, w_m1, w_m2, w_var, w_c, w_truth, w_ite, w_and, w_or, w_not, w_andV, w_orV, w_notV, w_if, w_nil, w_cons, w_tup, w_lst, w_call, w_nx, w_seq, w_drop, w_ret, w_set, w_ifS, w_slot, w_callF, w_callK, w_app2, w_part, w_noPart, w_sl, w_seqOf, w_rng, w_for, w_forL_nil, w_app, w_ixO, w_lenO, w_popAt, w_setIx, w_aug, w_par2, w_par3, w_mbind, w_chain, wX_runF, VL.fill, VL.put, outs, startE, wipeE, backE, bindT_nm, bindT_tt, bindT_tl, bindTs_n, bindTs_c, VL.pick, List.filterMap_cons, List.filterMap_nil, List.map_cons, List.map_nil, List.length_cons, List.length_nil, List.replicate, List.cons_append, List.nil_append, List.getElem?_cons_zero, List.getElem?_cons_succ, List.set_cons_zero, List.set_cons_succ, Option.map_some, Option.bind_some, Option.getD_some, Nat.reduceSub, Nat.reduceAdd, Int.cast_ofNat_Int, Int.reduceLT, Int.reduceLE, Int.reduceNeg, Int.reduceEq, gEq_int, gNe_int, gLt_int, gGt_int, gLe_int, gGe_int, gAdd_int, gSub_int, gMul_l, gMul_r, gMod_int, gFdv_int, gNeg_i, cInt_i, cInt_b, cAbs_i, cLen_l, cLen_t, cTup_l, cTup_t, cLst_l, cLst_t, gIx_l, gIx_t, setI_i, popI_i, gSl_l, gSl_t, gSl_scr, dSeq_l, dSeq_t, dSeq_s, cMin2_i, cMax2_i, cEnum_l, cZip_l, cZip_t, tr_b, tr_i, tr_l, tr_t, tr_n, gIs_n, gIsn_n, isN, lstAt_0, lstAt_s, gAdd_l, gAdd_t, le_sizeP, lt_sizeP, gPow_i, cAll_mb, cAny_mb, w_star, w_tupS, w_lstS, w_star2, dItems_l, dItems_t, gCat_l, starT_c, gRev_ll, gRev_tt, true_and, and_true, Bool.not_true, Bool.not_false, decide_true, decide_false, isi_int_non, isi_int_bl, isi_int_int, isi_int_str, isi_int_lst, isi_int_tup, isi_str_non, isi_str_bl, isi_str_int, isi_str_str, isi_str_lst, isi_str_tup, isi_bool_non, isi_bool_bl, isi_bool_int, isi_bool_str, isi_bool_lst, isi_bool_tup, isi_list_non, isi_list_bl, isi_list_int, isi_list_str, isi_list_lst, isi_list_tup, isi_tuple_non, isi_tuple_bl, isi_tuple_int, isi_tuple_str, isi_tuple_lst, isi_tuple_tup, isi_dict_non, isi_dict_bl, isi_dict_int, isi_dict_str, isi_dict_lst, isi_dict_tup, isi_list_tuple_non, isi_list_tuple_bl, isi_list_tuple_int, isi_list_tuple_str, isi_list_tuple_lst, isi_list_tuple_tup, isi_bool_str_non, isi_bool_str_bl, isi_bool_str_int, isi_bool_str_str, isi_bool_str_lst, isi_bool_str_tup])
      rfl
  · rw [upl_map]
    (simp (disch := first | omega | (simp only [List.length_cons, List.length_nil, List.length_append, List.length_map, List.length_take, List.length_drop, List.length_reverse, List.length_set]; omega) | decide) only [cSum_map, upl_sum, wX_ok, wX_exc, wO_some, wO_ite, wIf_true, wIf_false, wIf_not, wF_nx, wF_rt, wF_bk, wF_ct, w_pure, w_bind, w_of, w_m1, w_m2, w_var, w_c, w_truth, w_ite, w_and, w_or, w_not, w_andV, w_orV, w_notV, w_if, w_nil, w_cons, w_tup, w_lst, w_call, w_nx, w_seq, w_drop, w_ret, w_set, w_ifS, w_slot, w_callF, w_callK, w_app2, w_part, w_noPart, w_sl, w_seqOf, w_rng, w_for, w_forL_nil, w_app, w_ixO, w_lenO, w_popAt, w_setIx, w_aug, w_par2, w_par3, w_mbind, w_chain, wX_runF, VL.fill, VL.put, outs, startE, wipeE, backE, bindT_nm, bindT_tt, bindT_tl, bindTs_n, bindTs_c, VL.pick, List.filterMap_cons, List.filterMap_nil, List.map_cons, List.map_nil, List.length_cons, List.length_nil, List.replicate, List.cons_append, List.nil_append, List.getElem?_cons_zero, List.getElem?_cons_succ, List.set_cons_zero, List.set_cons_succ, Option.map_some, Option.bind_some, Option.getD_some, Nat.reduceSub, Nat.reduceAdd, Int.cast_ofNat_Int, Int.reduceLT, Int.reduceLE, Int.reduceNeg, Int.reduceEq, gEq_int, gNe_int, gLt_int, gGt_int, gLe_int, gGe_int, gAdd_int, gSub_int, gMul_l, gMul_r, gMod_int, gFdv_int, gNeg_i, cInt_i, cInt_b, cAbs_i, cLen_l, cLen_t, cTup_l, cTup_t, cLst_l, cLst_t, gIx_l, gIx_t, setI_i, popI_i, gSl_l, gSl_t, gSl_scr, dSeq_l, dSeq_t, dSeq_s, cMin2_i, cMax2_i, cEnum_l, cZip_l, cZip_t, tr_b, tr_i, tr_l, tr_t, tr_n, gIs_n, gIsn_n, isN, lstAt_0, lstAt_s, gAdd_l, gAdd_t, le_sizeP, lt_sizeP, gPow_i, cAll_mb, cAny_mb, w_star, w_tupS, w_lstS, w_star2, dItems_l, dItems_t, gCat_l, starT_c, gRev_ll, gRev_tt, true_and, and_true, Bool.not_true, Bool.not_false, decide_true, decide_false, isi_int_non, isi_int_bl, isi_int_int, isi_int_str, isi_int_lst, isi_int_tup, isi_str_non, isi_str_bl, isi_str_int, isi_str_str, isi_str_lst, isi_str_tup, isi_bool_non, isi_bool_bl, isi_bool_int, isi_bool_str, isi_bool_lst, isi_bool_tup, isi_list_non, isi_list_bl, isi_list_int, isi_list_str, isi_list_lst, isi_list_tup, isi_tuple_non, isi_tuple_bl, isi_tuple_int, isi_tuple_str, isi_tuple_lst, isi_tuple_tup, isi_dict_non, isi_dict_bl, isi_dict_int, isi_dict_str, isi_dict_lst, isi_dict_tup, isi_list_tuple_non, isi_list_tuple_bl, isi_list_tuple_int, isi_list_tuple_str, isi_list_tuple_lst, isi_list_tuple_tup, isi_bool_str_non, isi_bool_str_bl, isi_bool_str_int, isi_bool_str_str, isi_bool_str_lst, isi_bool_str_tup])
theorem okSet_str {l : List Str} (h : l.length ≤ 1000) : gSSet (.list (l.map .str)) = some (.list (sortD (dedupD (l.map .str)))) := by
  show (if okSet (l.map .str) = true then some (PyData.list (sortD (dedupD (l.map .str)))) else none) = _
  rw [if_pos]
  unfold okSet
  rw [Bool.and_eq_true, Bool.or_eq_true]
  refine ⟨.inl (List.all_eq_true.mpr fun x hx => ?_), decide_eq_true (by rw [List.length_map]; omega)⟩
  obtain ⟨s, _, rfl⟩ := List.mem_map.mp hx
  rfl
theorem dedup_sub : ∀ {l : List D} {x : D}, x ∈ dedupD l → x ∈ l
  | y :: l, x, h => by
    unfold dedupD at h
    split at h
    · exact List.mem_cons_of_mem _ (dedup_sub h)
    · rcases List.mem_cons.mp h with rfl | h
      · exact List.mem_cons_self ..
      · exact List.mem_cons_of_mem _ (dedup_sub h)
theorem dedup_len : ∀ l : List D, (dedupD l).length ≤ l.length
  | [] => Nat.le_refl _
  | y :: l => by
    have := dedup_len l
    unfold dedupD
    split <;> simp only [List.length_cons] <;> omega
def nmsD (l : List Str) : List D := sortD (dedupD (l.map .str))
theorem nmsD_len (l : List Str) : (nmsD l).length ≤ l.length := by
  unfold nmsD
  rw [(sortD_permD _).length_eq]
  exact Nat.le_trans (dedup_len _) (by rw [List.length_map]; exact Nat.le_refl _)
theorem nmsD_mem {l : List Str} {x : D} (h : x ∈ nmsD l) : ∃ s, x = .str s := by
  have := dedup_sub ((sortD_permD _).mem_iff.mp h)
  obtain ⟨s, _, rfl⟩ := List.mem_map.mp this
  exact ⟨s, rfl⟩
theorem okSet_nms {l : List Str} (h : l.length ≤ 1000) : gSSet (.list (l.map .str)) = some (.list (nmsD l)) := okSet_str h
theorem set_of_eq {l : List Str} (h : l.length ≤ 1000) : f_set_of [.list (l.map .str)] = .ok (.tuple (nmsD l), []) := by
  apply wX_eq
  unfold f_set_of
  have hz := nmsD_len l
  (simp (disch := first | omega | (simp only [List.length_cons, List.length_nil, List.length_append, List.length_map, List.length_take, List.length_drop, List.length_reverse, List.length_set]; omega) | decide) only [okSet_nms h, wX_ok, wX_exc, wO_some, wO_ite, wIf_true, wIf_false, wIf_not, wF_nx, wF_rt, wF_bk, wF_ct, w_pure, w_bind, w_of, w_m1, w_m2, w_var, w_c, w_truth, w_ite, w_and, w_or, w_not, w_andV, w_orV, w_notV, w_if, w_nil, w_cons, w_tup, w_lst, w_call, w_nx, w_seq, w_drop, w_ret, w_set, w_ifS, w_slot, w_callF, w_callK, w_app2, w_part, w_noPart, w_sl, w_seqOf, w_rng, w_for, w_forL_nil, w_app, w_ixO, w_lenO, w_popAt, w_setIx, w_aug, w_par2, w_par3, w_mbind, w_chain, wX_runF, VL.fill, VL.put, outs, startE, wipeE, backE, bindT_nm, bindT_tt, bindT_tl, bindTs_n, bindTs_c, VL.pick, List.filterMap_cons, List.filterMap_nil, List.map_cons, List.map_nil, List.length_cons, List.length_nil, List.replicate, List.cons_append, List.nil_append, List.getElem?_cons_zero, List.getElem?_cons_succ, List.set_cons_zero, List.set_cons_succ, Option.map_some, Option.bind_some, Option.getD_some, Nat.reduceSub, Nat.reduceAdd, Int.cast_ofNat_Int, Int.reduceLT, Int.reduceLE, Int.reduceNeg, Int.reduceEq, gEq_int, gNe_int, gLt_int, gGt_int, gLe_int, gGe_int, gAdd_int, gSub_int, gMul_l, gMul_r, gMod_int, gFdv_int, gNeg_i, cInt_i, cInt_b, cAbs_i, cLen_l, cLen_t, cTup_l, cTup_t, cLst_l, cLst_t, gIx_l, gIx_t, setI_i, popI_i, gSl_l, gSl_t, gSl_scr, dSeq_l, dSeq_t, dSeq_s, cMin2_i, cMax2_i, cEnum_l, cZip_l, cZip_t, tr_b, tr_i, tr_l, tr_t, tr_n, gIs_n, gIsn_n, isN, lstAt_0, lstAt_s, gAdd_l, gAdd_t, le_sizeP, lt_sizeP, gPow_i, cAll_mb, cAny_mb, w_star, w_tupS, w_lstS, w_star2, dItems_l, dItems_t, gCat_l, starT_c, gRev_ll, gRev_tt, true_and, and_true, Bool.not_true, Bool.not_false, decide_true, decide_false, isi_int_non, isi_int_bl, isi_int_int, isi_int_str, isi_int_lst, isi_int_tup, isi_str_non, isi_str_bl, isi_str_int, isi_str_str, isi_str_lst, isi_str_tup, isi_bool_non, isi_bool_bl, isi_bool_int, isi_bool_str, isi_bool_lst, isi_bool_tup, isi_list_non, isi_list_bl, isi_list_int, isi_list_str, isi_list_lst, isi_list_tup, isi_tuple_non, isi_tuple_bl, isi_tuple_int, isi_tuple_str, isi_tuple_lst, isi_tuple_tup, isi_dict_non, isi_dict_bl, isi_dict_int, isi_dict_str, isi_dict_lst, isi_dict_tup, isi_list_tuple_non, isi_list_tuple_bl, isi_list_tuple_int, isi_list_tuple_str, isi_list_tuple_lst, isi_list_tuple_tup, isi_bool_str_non, isi_bool_str_bl, isi_bool_str_int, isi_bool_str_str, isi_bool_str_lst, isi_bool_str_tup])
theorem names_in_eq {sts : List Stp} (hl : sts.length ≤ 100) : f_names_in [.tuple (sts.map stpD)] = .ok (.tuple (nmsD (nms sts)), []) := by
  have hz : (nms sts).length ≤ 1000 := Nat.le_trans (nms_len _) (by omega)
  apply wX_eq
  unfold f_names_in
  (simp (disch := first | omega | (simp only [List.length_cons, List.length_nil, List.length_append, List.length_map, List.length_take, List.length_drop, List.length_reverse, List.length_set]; omega) | decide) only [wX_ok, wX_exc, wO_some, wO_ite, wIf_true, wIf_false, wIf_not, wF_nx, wF_rt, wF_bk, wF_ct, w_pure, w_bind, w_of, w_m1, w_m2, w_var, w_c, w_truth, w_ite, w_and, w_or, w_not, w_andV, w_orV, w_notV, w_if, w_nil, w_cons, w_tup, w_lst, w_call, w_nx, w_seq, w_drop, w_ret, w_set, w_ifS, w_slot, w_callF, w_callK, w_app2, w_part, w_noPart, w_sl, w_seqOf, w_rng, w_for, w_forL_nil, w_app, w_ixO, w_lenO, w_popAt, w_setIx, w_aug, w_par2, w_par3, w_mbind, w_chain, wX_runF, VL.fill, VL.put, outs, startE, wipeE, backE, bindT_nm, bindT_tt, bindT_tl, bindTs_n, bindTs_c, VL.pick, List.filterMap_cons, List.filterMap_nil, List.map_cons, List.map_nil, List.length_cons, List.length_nil, List.replicate, List.cons_append, List.nil_append, List.getElem?_cons_zero, List.getElem?_cons_succ, List.set_cons_zero, List.set_cons_succ, Option.map_some, Option.bind_some, Option.getD_some, Nat.reduceSub, Nat.reduceAdd, Int.cast_ofNat_Int, Int.reduceLT, Int.reduceLE, Int.reduceNeg, Int.reduceEq, gEq_int, gNe_int, gLt_int, gGt_int, gLe_int, gGe_int, gAdd_int, gSub_int, gMul_l, gMul_r, gMod_int, gFdv_int, gNeg_i, cInt_i, cInt_b, cAbs_i, cLen_l, cLen_t, cTup_l, cTup_t, cLst_l, cLst_t, gIx_l, gIx_t, setI_i, popI_i, gSl_l, gSl_t, gSl_scr, dSeq_l, dSeq_t, dSeq_s, cMin2_i, cMax2_i, cEnum_l, cZip_l, cZip_t, tr_b, tr_i, tr_l, tr_t, tr_n, gIs_n, gIsn_n, isN, lstAt_0, lstAt_s, gAdd_l, gAdd_t, le_sizeP, lt_sizeP, gPow_i, cAll_mb, cAny_mb, w_star, w_tupS, w_lstS, w_star2, dItems_l, dItems_t, gCat_l, starT_c, gRev_ll, gRev_tt, true_and, and_true, Bool.not_true, Bool.not_false, decide_true, decide_false, isi_int_non, isi_int_bl, isi_int_int, isi_int_str, isi_int_lst, isi_int_tup, isi_str_non, isi_str_bl, isi_str_int, isi_str_str, isi_str_lst, isi_str_tup, isi_bool_non, isi_bool_bl, isi_bool_int, isi_bool_str, isi_bool_lst, isi_bool_tup, isi_list_non, isi_list_bl, isi_list_int, isi_list_str, isi_list_lst, isi_list_tup, isi_tuple_non, isi_tuple_bl, isi_tuple_int, isi_tuple_str, isi_tuple_lst, isi_tuple_tup, isi_dict_non, isi_dict_bl, isi_dict_int, isi_dict_str, isi_dict_lst, isi_dict_tup, isi_list_tuple_non, isi_list_tuple_bl, isi_list_tuple_int, isi_list_tuple_str, isi_list_tuple_lst, isi_list_tuple_tup, isi_bool_str_non, isi_bool_str_bl, isi_bool_str_int, isi_bool_str_str, isi_bool_str_lst, isi_bool_str_tup])
  refine w_comp noUpD namD ?_
  (simp (disch := first | omega | (simp only [List.length_cons, List.length_nil, List.length_append, List.length_map, List.length_take, List.length_drop, List.length_reverse, List.length_set]; omega) | decide) only [wX_ok, wX_exc, wO_some, wO_ite, wIf_true, wIf_false, wIf_not, wF_nx, wF_rt, wF_bk, wF_ct, w_pure, w_bind, w_of, w_m1, w_m2, w_var, w_c, w_truth, w_ite, w_and, w_or, w_not, w_andV, w_orV, w_notV, w_if, w_nil, w_cons, w_tup, w_lst, w_call, w_nx, w_seq, w_drop, w_ret, w_set, w_ifS, w_slot, w_callF, w_callK, w_app2, w_part, w_noPart, w_sl, w_seqOf, w_rng, w_for, w_forL_nil, w_app, w_ixO, w_lenO, w_popAt, w_setIx, w_aug, w_par2, w_par3, w_mbind, w_chain, wX_runF, VL.fill, VL.put, outs, startE, wipeE, backE, bindT_nm, bindT_tt, bindT_tl, bindTs_n, bindTs_c, VL.pick, List.filterMap_cons, List.filterMap_nil, List.map_cons, List.map_nil, List.length_cons, List.length_nil, List.replicate, List.cons_append, List.nil_append, List.getElem?_cons_zero, List.getElem?_cons_succ, List.set_cons_zero, List.set_cons_succ, Option.map_some, Option.bind_some, Option.getD_some, Nat.reduceSub, Nat.reduceAdd, Int.cast_ofNat_Int, Int.reduceLT, Int.reduceLE, Int.reduceNeg, Int.reduceEq, gEq_int, gNe_int, gLt_int, gGt_int, gLe_int, gGe_int, gAdd_int, gSub_int, gMul_l, gMul_r, gMod_int, gFdv_int, gNeg_i, cInt_i, cInt_b, cAbs_i, cLen_l, cLen_t, cTup_l, cTup_t, cLst_l, cLst_t, gIx_l, gIx_t, setI_i, popI_i, gSl_l, gSl_t, gSl_scr, dSeq_l, dSeq_t, dSeq_s, cMin2_i, cMax2_i, cEnum_l, cZip_l, cZip_t, tr_b, tr_i, tr_l, tr_t, tr_n, gIs_n, gIsn_n, isN, lstAt_0, lstAt_s, gAdd_l, gAdd_t, le_sizeP, lt_sizeP, gPow_i, cAll_mb, cAny_mb, w_star, w_tupS, w_lstS, w_star2, dItems_l, dItems_t, gCat_l, starT_c, gRev_ll, gRev_tt, true_and, and_true, Bool.not_true, Bool.not_false, decide_true, decide_false, isi_int_non, isi_int_bl, isi_int_int, isi_int_str, isi_int_lst, isi_int_tup, isi_str_non, isi_str_bl, isi_str_int, isi_str_str, isi_str_lst, isi_str_tup, isi_bool_non, isi_bool_bl, isi_bool_int, isi_bool_str, isi_bool_lst, isi_bool_tup, isi_list_non, isi_list_bl, isi_list_int, isi_list_str, isi_list_lst, isi_list_tup, isi_tuple_non, isi_tuple_bl, isi_tuple_int, isi_tuple_str, isi_tuple_lst, isi_tuple_tup, isi_dict_non, isi_dict_bl, isi_dict_int, isi_dict_str, isi_dict_lst, isi_dict_tup, isi_list_tuple_non, isi_list_tuple_bl, isi_list_tuple_int, isi_list_tuple_str, isi_list_tuple_lst, isi_list_tuple_tup, isi_bool_str_non, isi_bool_str_bl, isi_bool_str_int, isi_bool_str_str, isi_bool_str_lst, isi_bool_str_tup])
  refine ⟨fun y hy => ?_, ?_⟩
  · obtain ⟨st, _, rfl⟩ := List.mem_map.mp hy
    cases st with
    | up n =>
      (simp (disch := first | omega | (simp only [List.length_cons, List.length_nil, List.length_append, List.length_map, List.length_take, List.length_drop, List.length_reverse, List.length_set]; omega) | decide) only [stpD, at0, at1, gNe_str, seq_uu, wX_ok, wX_exc, wO_some, wO_ite, wIf_true, wIf_false, wIf_not, wF_nx, wF_rt, wF_bk, wF_ct, w_pure, w_bind, w_of, w_m1, w_m2, w_var, w_c, w_truth, w_ite, w_and, w_or, w_not, w_andV, w_orV, w_notV, w_if, w_nil, w_cons, w_tup, w_lst, w_call, w_nx, w_seq, w_drop, w_ret, w_set, w_ifS, w_slot, w_callF, w_callK, w_app2, w_part, w_noPart, w_sl, w_seqOf, w_rng, w_for, w_forL_nil, w_app, w_ixO, w_lenO, w_popAt, w_setIx, w_aug, w_par2, w_par3, w_mbind, w_chain, wX_runF, VL.fill, VL.put, outs, startE, wipeE, backE, bindT_nm, bindT_tt, bindT_tl, bindTs_n, bindTs_c, VL.pick, List.filterMap_cons, List.filterMap_nil, List.map_cons, List.map_nil, List.length_cons, List.length_nil, List.replicate, List.cons_append, List.nil_append, List.getElem?_cons_zero, List.getElem?_cons_succ, List.set_cons_zero, List.set_cons_succ, Option.map_some, Option.bind_some, Option.getD_some, Nat.reduceSub, Nat.reduceAdd, Int.cast_ofNat_Int, Int.reduceLT, Int.reduceLE, Int.reduceNeg, Int.reduceEq, gEq_int, gNe_int, gLt_int, gGt_int, gLe_int, gGe_int, gAdd_int, gSub_int, gMul_l, gMul_r, gMod_int, gFdv_int, gNeg_i, cInt_i, cInt_b, cAbs_i, cLen_l, cLen_t, cTup_l, cTup_t, cLst_l, cLst_t, gIx_l, gIx_t, setI_i, popI_i, gSl_l, gSl_t, gSl_scr, dSeq_l, dSeq_t, dSeq_s, cMin2_i, cMax2_i, cEnum_l, cZip_l, cZip_t, tr_b, tr_i, tr_l, tr_t, tr_n, gIs_n, gIsn_n, isN, lstAt_0, lstAt_s, gAdd_l, gAdd_t, le_sizeP, lt_sizeP, gPow_i, cAll_mb, cAny_mb, w_star, w_tupS, w_lstS, w_star2, dItems_l, dItems_t, gCat_l, starT_c, gRev_ll, gRev_tt, true_and, and_true, Bool.not_true, Bool.not_false, decide_true, decide_false, isi_int_non, isi_int_bl, isi_int_int, isi_int_str, isi_int_lst, isi_int_tup, isi_str_non, isi_str_bl, isi_str_int, isi_str_str, isi_str_lst, isi_str_tup, isi_bool_non, isi_bool_bl, isi_bool_int, isi_bool_str, isi_bool_lst, isi_bool_tup, isi_list_non, isi_list_bl, isi_list_int, isi_list_str, isi_list_lst, isi_list_tup, isi_tuple_non, isi_tuple_bl, isi_tuple_int, isi_tuple_str, isi_tuple_lst, isi_tuple_tup, isi_dict_non, isi_dict_bl, isi_dict_int, isi_dict_str, isi_dict_lst, isi_dict_tup, isi_list_tuple_non, isi_list_tuple_bl, isi_list_tuple_int, isi_list_tuple_str, isi_list_tuple_lst, isi_list_tuple_tup, isi_bool_str_non, isi_bool_str_bl, isi_bool_str_int, isi_bool_str_str, isi_bool_str_lst, isi_bool_str_tup])
      rfl
    | most z n =>
      (simp (disch := first | omega | (simp only [List.length_cons, List.length_nil, List.length_append, List.length_map, List.length_take, List.length_drop, List.length_reverse, List.length_set]; omega) | decide) only [stpD, at0, at1, gNe_str, seq_mu, wX_ok, wX_exc, wO_some, wO_ite, wIf_true, wIf_false, wIf_not, wF_nx, wF_rt, wF_bk, wF_ct, w_pure, w_bind, w_of, w_m1, w_m2, w_var, w_c, w_truth, w_ite, w_and, w_or, w_not, w_andV, w_orV, w_notV, w_if, w_nil, w_cons, w_tup, w_lst, w_call, w_nx, w_seq, w_drop, w_ret, w_set, w_ifS, w_slot, w_callF, w_callK, w_app2, w_part, w_noPart, w_sl, w_seqOf, w_rng, w_for, w_forL_nil, w_app, w_ixO, w_lenO, w_popAt, w_setIx, w_aug, w_par2, w_par3, w_mbind, w_chain, wX_runF, VL.fill, VL.put, outs, startE, wipeE, backE, bindT_nm, bindT_tt, bindT_tl, bindTs_n, bindTs_c, VL.pick, List.filterMap_cons, List.filterMap_nil, List.map_cons, List.map_nil, List.length_cons, List.length_nil, List.replicate, List.cons_append, List.nil_append, List.getElem?_cons_zero, List.getElem?_cons_succ, List.set_cons_zero, List.set_cons_succ, Option.map_some, Option.bind_some, Option.getD_some, Nat.reduceSub, Nat.reduceAdd, Int.cast_ofNat_Int, Int.reduceLT, Int.reduceLE, Int.reduceNeg, Int.reduceEq, gEq_int, gNe_int, gLt_int, gGt_int, gLe_int, gGe_int, gAdd_int, gSub_int, gMul_l, gMul_r, gMod_int, gFdv_int, gNeg_i, cInt_i, cInt_b, cAbs_i, cLen_l, cLen_t, cTup_l, cTup_t, cLst_l, cLst_t, gIx_l, gIx_t, setI_i, popI_i, gSl_l, gSl_t, gSl_scr, dSeq_l, dSeq_t, dSeq_s, cMin2_i, cMax2_i, cEnum_l, cZip_l, cZip_t, tr_b, tr_i, tr_l, tr_t, tr_n, gIs_n, gIsn_n, isN, lstAt_0, lstAt_s, gAdd_l, gAdd_t, le_sizeP, lt_sizeP, gPow_i, cAll_mb, cAny_mb, w_star, w_tupS, w_lstS, w_star2, dItems_l, dItems_t, gCat_l, starT_c, gRev_ll, gRev_tt, true_and, and_true, Bool.not_true, Bool.not_false, decide_true, decide_false, isi_int_non, isi_int_bl, isi_int_int, isi_int_str, isi_int_lst, isi_int_tup, isi_str_non, isi_str_bl, isi_str_int, isi_str_str, isi_str_lst, isi_str_tup, isi_bool_non, isi_bool_bl, isi_bool_int, isi_bool_str, isi_bool_lst, isi_bool_tup, isi_list_non, isi_list_bl, isi_list_int, isi_list_str, isi_list_lst, isi_list_tup, isi_tuple_non, isi_tuple_bl, isi_tuple_int, isi_tuple_str, isi_tuple_lst, isi_tuple_tup, isi_dict_non, isi_dict_bl, isi_dict_int, isi_dict_str, isi_dict_lst, isi_dict_tup, isi_list_tuple_non, isi_list_tuple_bl, isi_list_tuple_int, isi_list_tuple_str, isi_list_tuple_lst, isi_list_tuple_tup, isi_bool_str_non, isi_bool_str_bl, isi_bool_str_int, isi_bool_str_str, isi_bool_str_lst, isi_bool_str_tup])
      exact ⟨rfl, rfl⟩
    | least z n =>
      (simp (disch := first | omega | (simp only [List.length_cons, List.length_nil, List.length_append, List.length_map, List.length_take, List.length_drop, List.length_reverse, List.length_set]; omega) | decide) only [stpD, at0, at1, gNe_str, seq_lu, wX_ok, wX_exc, wO_some, wO_ite, wIf_true, wIf_false, wIf_not, wF_nx, wF_rt, wF_bk, wF_ct, w_pure, w_bind, w_of, w_m1, w_m2, w_var, w_c, w_truth, w_ite, w_and, w_or, w_not, w_andV, w_orV, w_notV, w_if, w_nil, w_cons, w_tup, w_lst, w_call, w_nx, w_seq, w_drop, w_ret, w_set, w_ifS, w_slot, w_callF, w_callK, w_app2, w_part, w_noPart, w_sl, w_seqOf, w_rng, w_for, w_forL_nil, w_app, w_ixO, w_lenO, w_popAt, w_setIx, w_aug, w_par2, w_par3, w_mbind, w_chain, wX_runF, VL.fill, VL.put, outs, startE, wipeE, backE, bindT_nm, bindT_tt, bindT_tl, bindTs_n, bindTs_c, VL.pick, List.filterMap_cons, List.filterMap_nil, List.map_cons, List.map_nil, List.length_cons, List.length_nil, List.replicate, List.cons_append, List.nil_append, List.getElem?_cons_zero, List.getElem?_cons_succ, List.set_cons_zero, List.set_cons_succ, Option.map_some, Option.bind_some, Option.getD_some, Nat.reduceSub, Nat.reduceAdd, Int.cast_ofNat_Int, Int.reduceLT, Int.reduceLE, Int.reduceNeg, Int.reduceEq, gEq_int, gNe_int, gLt_int, gGt_int, gLe_int, gGe_int, gAdd_int, gSub_int, gMul_l, gMul_r, gMod_int, gFdv_int, gNeg_i, cInt_i, cInt_b, cAbs_i, cLen_l, cLen_t, cTup_l, cTup_t, cLst_l, cLst_t, gIx_l, gIx_t, setI_i, popI_i, gSl_l, gSl_t, gSl_scr, dSeq_l, dSeq_t, dSeq_s, cMin2_i, cMax2_i, cEnum_l, cZip_l, cZip_t, tr_b, tr_i, tr_l, tr_t, tr_n, gIs_n, gIsn_n, isN, lstAt_0, lstAt_s, gAdd_l, gAdd_t, le_sizeP, lt_sizeP, gPow_i, cAll_mb, cAny_mb, w_star, w_tupS, w_lstS, w_star2, dItems_l, dItems_t, gCat_l, starT_c, gRev_ll, gRev_tt, true_and, and_true, Bool.not_true, Bool.not_false, decide_true, decide_false, isi_int_non, isi_int_bl, isi_int_int, isi_int_str, isi_int_lst, isi_int_tup, isi_str_non, isi_str_bl, isi_str_int, isi_str_str, isi_str_lst, isi_str_tup, isi_bool_non, isi_bool_bl, isi_bool_int, isi_bool_str, isi_bool_lst, isi_bool_tup, isi_list_non, isi_list_bl, isi_list_int, isi_list_str, isi_list_lst, isi_list_tup, isi_tuple_non, isi_tuple_bl, isi_tuple_int, isi_tuple_str, isi_tuple_lst, isi_tuple_tup, isi_dict_non, isi_dict_bl, isi_dict_int, isi_dict_str, isi_dict_lst, isi_dict_tup, isi_list_tuple_non, isi_list_tuple_bl, isi_list_tuple_int, isi_list_tuple_str, isi_list_tuple_lst, isi_list_tuple_tup, isi_bool_str_non, isi_bool_str_bl, isi_bool_str_int, isi_bool_str_str, isi_bool_str_lst, isi_bool_str_tup])
      exact ⟨rfl, rfl⟩
  · rw [nms_map]
    (simp (disch := first | omega | (simp only [List.length_cons, List.length_nil, List.length_append, List.length_map, List.length_take, List.length_drop, List.length_reverse, List.length_set]; omega) | decide) only [set_of_eq hz, wX_ok, wX_exc, wO_some, wO_ite, wIf_true, wIf_false, wIf_not, wF_nx, wF_rt, wF_bk, wF_ct, w_pure, w_bind, w_of, w_m1, w_m2, w_var, w_c, w_truth, w_ite, w_and, w_or, w_not, w_andV, w_orV, w_notV, w_if, w_nil, w_cons, w_tup, w_lst, w_call, w_nx, w_seq, w_drop, w_ret, w_set, w_ifS, w_slot, w_callF, w_callK, w_app2, w_part, w_noPart, w_sl, w_seqOf, w_rng, w_for, w_forL_nil, w_app, w_ixO, w_lenO, w_popAt, w_setIx, w_aug, w_par2, w_par3, w_mbind, w_chain, wX_runF, VL.fill, VL.put, outs, startE, wipeE, backE, bindT_nm, bindT_tt, bindT_tl, bindTs_n, bindTs_c, VL.pick, List.filterMap_cons, List.filterMap_nil, List.map_cons, List.map_nil, List.length_cons, List.length_nil, List.replicate, List.cons_append, List.nil_append, List.getElem?_cons_zero, List.getElem?_cons_succ, List.set_cons_zero, List.set_cons_succ, Option.map_some, Option.bind_some, Option.getD_some, Nat.reduceSub, Nat.reduceAdd, Int.cast_ofNat_Int, Int.reduceLT, Int.reduceLE, Int.reduceNeg, Int.reduceEq, gEq_int, gNe_int, gLt_int, gGt_int, gLe_int, gGe_int, gAdd_int, gSub_int, gMul_l, gMul_r, gMod_int, gFdv_int, gNeg_i, cInt_i, cInt_b, cAbs_i, cLen_l, cLen_t, cTup_l, cTup_t, cLst_l, cLst_t, gIx_l, gIx_t, setI_i, popI_i, gSl_l, gSl_t, gSl_scr, dSeq_l, dSeq_t, dSeq_s, cMin2_i, cMax2_i, cEnum_l, cZip_l, cZip_t, tr_b, tr_i, tr_l, tr_t, tr_n, gIs_n, gIsn_n, isN, lstAt_0, lstAt_s, gAdd_l, gAdd_t, le_sizeP, lt_sizeP, gPow_i, cAll_mb, cAny_mb, w_star, w_tupS, w_lstS, w_star2, dItems_l, dItems_t, gCat_l, starT_c, gRev_ll, gRev_tt, true_and, and_true, Bool.not_true, Bool.not_false, decide_true, decide_false, isi_int_non, isi_int_bl, isi_int_int, isi_int_str, isi_int_lst, isi_int_tup, isi_str_non, isi_str_bl, isi_str_int, isi_str_str, isi_str_lst, isi_str_tup, isi_bool_non, isi_bool_bl, isi_bool_int, isi_bool_str, isi_bool_lst, isi_bool_tup, isi_list_non, isi_list_bl, isi_list_int, isi_list_str, isi_list_lst, isi_list_tup, isi_tuple_non, isi_tuple_bl, isi_tuple_int, isi_tuple_str, isi_tuple_lst, isi_tuple_tup, isi_dict_non, isi_dict_bl, isi_dict_int, isi_dict_str, isi_dict_lst, isi_dict_tup, isi_list_tuple_non, isi_list_tuple_bl, isi_list_tuple_int, isi_list_tuple_str, isi_list_tuple_lst, isi_list_tuple_tup, isi_bool_str_non, isi_bool_str_bl, isi_bool_str_int, isi_bool_str_str, isi_bool_str_lst, isi_bool_str_tup])

theorem stpD_dp {k : Nat} (st : Stp) : Dp (k + 1) (stpD st) := by
  cases st with
  | up n => exact .tup (by show 2 ≤ _; omega) fun x hx => by simp only [List.mem_cons, List.not_mem_nil, or_false] at hx; rcases hx with rfl | rfl <;> constructor
  | most y n => exact .tup (by show 3 ≤ _; omega) fun x hx => by simp only [List.mem_cons, List.not_mem_nil, or_false] at hx; rcases hx with rfl | rfl | rfl <;> constructor
  | least y n => exact .tup (by show 3 ≤ _; omega) fun x hx => by simp only [List.mem_cons, List.not_mem_nil, or_false] at hx; rcases hx with rfl | rfl | rfl <;> constructor
theorem stpL_dp {k : Nat} (st : Stp) : Dp (k + 1) (stpL st) := by
  cases st with
  | up n => exact .lst (by show 2 ≤ _; omega) fun x hx => by simp only [List.mem_cons, List.not_mem_nil, or_false] at hx; rcases hx with rfl | rfl <;> constructor
  | most y n => exact .lst (by show 3 ≤ _; omega) fun x hx => by simp only [List.mem_cons, List.not_mem_nil, or_false] at hx; rcases hx with rfl | rfl | rfl <;> constructor
  | least y n => exact .lst (by show 3 ≤ _; omega) fun x hx => by simp only [List.mem_cons, List.not_mem_nil, or_false] at hx; rcases hx with rfl | rfl | rfl <;> constructor
theorem t3_dp {k : Nat} (a b : Str) (n : Int) : Dp (k + 1) (.tuple [.str a, .str b, .int n]) :=
  .tup (by show 3 ≤ _; omega) fun x hx => by simp only [List.mem_cons, List.not_mem_nil, or_false] at hx; rcases hx with rfl | rfl | rfl <;> constructor
theorem t2_dp {k : Nat} (a : Str) (n : Int) : Dp (k + 1) (.tuple [.str a, .int n]) :=
  .tup (by show 2 ≤ _; omega) fun x hx => by simp only [List.mem_cons, List.not_mem_nil, or_false] at hx; rcases hx with rfl | rfl <;> constructor
theorem row_dp {k : Nat} {sts : List Stp} {d : D} (h : d ∈ sts.map stpD) : Dp (k + 1) d := by
  obtain ⟨st, _, rfl⟩ := List.mem_map.mp h
  exact stpD_dp st
theorem rowL_dp {k : Nat} {sts : List Stp} {d : D} (h : d ∈ sts.map stpL) : Dp (k + 1) d := by
  obtain ⟨st, _, rfl⟩ := List.mem_map.mp h
  exact stpL_dp st
theorem trm_dp {k : Nat} : ∀ {sts : List Stp} {d : D}, d ∈ trm sts → Dp (k + 1) d
  | .up _ :: r, d, h => trm_dp (sts := r) h
  | .most x n :: r, d, h => by
    rcases List.mem_cons.mp h with rfl | h
    · exact t3_dp _ _ _
    · exact trm_dp (sts := r) h
  | .least x n :: r, d, h => by
    rcases List.mem_cons.mp h with rfl | h
    · exact t3_dp _ _ _
    · exact trm_dp (sts := r) h
def dueD (a b : List Stp) (m : Int) : D := .list [.tuple (nmsD (nms a)), .int (ups a), .tuple (.tuple [.str "start", .str "start", .int (ups a)] :: trm a), .tuple (.tuple [.str "up", .int (ups a)] :: trm a), .tuple ((a.map oppS).map stpD), .tuple (a.map stpD ++ [.tuple [.str "up", .int m]]), .tuple (a.map stpD ++ b.map stpD), .tuple (a.map stpD), .list (a.map stpL), .list (b.map stpL)]
theorem dueD_dp {a b : List Stp} {m : Int} (ha : a.length ≤ 9) (hb : b.length ≤ 5) : Dp 3 (dueD a b m) := by
  have l1 := nms_len a
  have l2 := nmsD_len (nms a)
  have l3 := trm_len a
  refine .lst (by show 10 ≤ _; omega) fun x hx => ?_
  simp only [List.mem_cons, List.not_mem_nil, or_false] at hx
  rcases hx with rfl | rfl | rfl | rfl | rfl | rfl | rfl | rfl | rfl | rfl
  · refine .tup (by omega) fun x hx => ?_
    obtain ⟨s, rfl⟩ := nmsD_mem hx
    exact .str s
  · exact .int _
  · refine .tup (by rw [List.length_cons]; omega) fun x hx => ?_
    rcases List.mem_cons.mp hx with rfl | h
    · exact t3_dp _ _ _
    · exact trm_dp h
  · refine .tup (by rw [List.length_cons]; omega) fun x hx => ?_
    rcases List.mem_cons.mp hx with rfl | h
    · exact t2_dp _ _
    · exact trm_dp h
  · exact .tup (by rw [List.length_map, List.length_map]; omega) fun x hx => row_dp hx
  · refine .tup (by rw [List.length_append, List.length_map, List.length_singleton]; omega) fun x hx => ?_
    rcases List.mem_append.mp hx with h | h
    · exact row_dp h
    · rw [List.mem_singleton.mp h]; exact t2_dp _ _
  · refine .tup (by rw [List.length_append, List.length_map, List.length_map]; omega) fun x hx => ?_
    rcases List.mem_append.mp hx with h | h
    · exact row_dp h
    · exact row_dp h
  · exact .tup (by rw [List.length_map]; omega) fun x hx => row_dp hx
  · exact .lst (by rw [List.length_map]; omega) fun x hx => rowL_dp hx
  · exact .lst (by rw [List.length_map]; omega) fun x hx => rowL_dp hx
theorem box_sp9 {ms : List Int} {k : Nat} (hk : k < ms.length) (hk3 : k < 10) : wX (f__law_box_v9 [.list (ms.map .int), .int k]) (fun p => p.2 = [] ∧ Bx 0 p.1) E0 := by
  unfold f__law_box_v9
  have hlt : ((k : Int) < ((ms.map PyData.int).length : Int)) := by rw [List.length_map]; omega
  have hg : (ms.map PyData.int)[k]? = some (.int ms[k]) := by rw [List.getElem?_map, List.getElem?_eq_getElem hk]; rfl
  (simp (disch := first | omega | (simp only [List.length_cons, List.length_nil, List.length_append, List.length_map, List.length_take, List.length_drop, List.length_reverse, List.length_set]; omega) | decide) only [hlt, atI_nat hg, wX_ok, wX_exc, wO_some, wO_ite, wIf_true, wIf_false, wIf_not, wF_nx, wF_rt, wF_bk, wF_ct, w_pure, w_bind, w_of, w_m1, w_m2, w_var, w_c, w_truth, w_ite, w_and, w_or, w_not, w_andV, w_orV, w_notV, w_if, w_nil, w_cons, w_tup, w_lst, w_call, w_nx, w_seq, w_drop, w_ret, w_set, w_ifS, w_slot, w_callF, w_callK, w_app2, w_part, w_noPart, w_sl, w_seqOf, w_rng, w_for, w_forL_nil, w_app, w_ixO, w_lenO, w_popAt, w_setIx, w_aug, w_par2, w_par3, w_mbind, w_chain, wX_runF, VL.fill, VL.put, outs, startE, wipeE, backE, bindT_nm, bindT_tt, bindT_tl, bindTs_n, bindTs_c, VL.pick, List.filterMap_cons, List.filterMap_nil, List.map_cons, List.map_nil, List.length_cons, List.length_nil, List.replicate, List.cons_append, List.nil_append, List.getElem?_cons_zero, List.getElem?_cons_succ, List.set_cons_zero, List.set_cons_succ, Option.map_some, Option.bind_some, Option.getD_some, Nat.reduceSub, Nat.reduceAdd, Int.cast_ofNat_Int, Int.reduceLT, Int.reduceLE, Int.reduceNeg, Int.reduceEq, gEq_int, gNe_int, gLt_int, gGt_int, gLe_int, gGe_int, gAdd_int, gSub_int, gMul_l, gMul_r, gMod_int, gFdv_int, gNeg_i, cInt_i, cInt_b, cAbs_i, cLen_l, cLen_t, cTup_l, cTup_t, cLst_l, cLst_t, gIx_l, gIx_t, setI_i, popI_i, gSl_l, gSl_t, gSl_scr, dSeq_l, dSeq_t, dSeq_s, cMin2_i, cMax2_i, cEnum_l, cZip_l, cZip_t, tr_b, tr_i, tr_l, tr_t, tr_n, gIs_n, gIsn_n, isN, lstAt_0, lstAt_s, gAdd_l, gAdd_t, le_sizeP, lt_sizeP, gPow_i, cAll_mb, cAny_mb, w_star, w_tupS, w_lstS, w_star2, dItems_l, dItems_t, gCat_l, starT_c, gRev_ll, gRev_tt, true_and, and_true, Bool.not_true, Bool.not_false, decide_true, decide_false, isi_int_non, isi_int_bl, isi_int_int, isi_int_str, isi_int_lst, isi_int_tup, isi_str_non, isi_str_bl, isi_str_int, isi_str_str, isi_str_lst, isi_str_tup, isi_bool_non, isi_bool_bl, isi_bool_int, isi_bool_str, isi_bool_lst, isi_bool_tup, isi_list_non, isi_list_bl, isi_list_int, isi_list_str, isi_list_lst, isi_list_tup, isi_tuple_non, isi_tuple_bl, isi_tuple_int, isi_tuple_str, isi_tuple_lst, isi_tuple_tup, isi_dict_non, isi_dict_bl, isi_dict_int, isi_dict_str, isi_dict_lst, isi_dict_tup, isi_list_tuple_non, isi_list_tuple_bl, isi_list_tuple_int, isi_list_tuple_str, isi_list_tuple_lst, isi_list_tuple_tup, isi_bool_str_non, isi_bool_str_bl, isi_bool_str_int, isi_bool_str_str, isi_bool_str_lst, isi_bool_str_tup])
  generalize ms[k] = x
  have h1 := Int.emod_nonneg x (by decide : (2305843009213693951 : Int) ≠ 0)
  have h2 := Int.emod_lt_of_pos x (by decide : (0 : Int) < 2305843009213693951)
  refine ⟨_, _, _, rfl, ?_, by omega, by omega, by omega, by omega⟩
  split <;> split <;> omega
theorem hand9 : f__law_hand_right_v9 [] = .ok (.bool true, []) := by kernel_rfl
end LL
end

section
set_option Elab.async false
set_option linter.all false
set_option maxRecDepth 100000
set_option maxHeartbeats 1000000
namespace LL
open PySem VL
theorem right_sp {n : Nat} {d : D} (hb : Bx n d) (hn : n < 2 ^ 59) : wX (f__law_right_v9 [d]) (fun p => p.1 = .bool true ∧ ∃ d', p.2 = [d']) E0 := by
  unfold f__law_right_v9
  have e15 : rng1 [.int 15] = some (rng 0 15) := rfl
  (simp (disch := first | omega | (simp only [List.length_cons, List.length_nil, List.length_append, List.length_map, List.length_take, List.length_drop, List.length_reverse, List.length_set]; omega) | decide) only [e15, wX_ok, wX_exc, wO_some, wO_ite, wIf_true, wIf_false, wIf_not, wF_nx, wF_rt, wF_bk, wF_ct, w_pure, w_bind, w_of, w_m1, w_m2, w_var, w_c, w_truth, w_ite, w_and, w_or, w_not, w_andV, w_orV, w_notV, w_if, w_nil, w_cons, w_tup, w_lst, w_call, w_nx, w_seq, w_drop, w_ret, w_set, w_ifS, w_slot, w_callF, w_callK, w_app2, w_part, w_noPart, w_sl, w_seqOf, w_rng, w_for, w_forL_nil, w_app, w_ixO, w_lenO, w_popAt, w_setIx, w_aug, w_par2, w_par3, w_mbind, w_chain, wX_runF, VL.fill, VL.put, outs, startE, wipeE, backE, bindT_nm, bindT_tt, bindT_tl, bindTs_n, bindTs_c, VL.pick, List.filterMap_cons, List.filterMap_nil, List.map_cons, List.map_nil, List.length_cons, List.length_nil, List.replicate, List.cons_append, List.nil_append, List.getElem?_cons_zero, List.getElem?_cons_succ, List.set_cons_zero, List.set_cons_succ, Option.map_some, Option.bind_some, Option.getD_some, Nat.reduceSub, Nat.reduceAdd, Int.cast_ofNat_Int, Int.reduceLT, Int.reduceLE, Int.reduceNeg, Int.reduceEq, gEq_int, gNe_int, gLt_int, gGt_int, gLe_int, gGe_int, gAdd_int, gSub_int, gMul_l, gMul_r, gMod_int, gFdv_int, gNeg_i, cInt_i, cInt_b, cAbs_i, cLen_l, cLen_t, cTup_l, cTup_t, cLst_l, cLst_t, gIx_l, gIx_t, setI_i, popI_i, gSl_l, gSl_t, gSl_scr, dSeq_l, dSeq_t, dSeq_s, cMin2_i, cMax2_i, cEnum_l, cZip_l, cZip_t, tr_b, tr_i, tr_l, tr_t, tr_n, gIs_n, gIsn_n, isN, lstAt_0, lstAt_s, gAdd_l, gAdd_t, le_sizeP, lt_sizeP, gPow_i, cAll_mb, cAny_mb, w_star, w_tupS, w_lstS, w_star2, dItems_l, dItems_t, gCat_l, starT_c, gRev_ll, gRev_tt, true_and, and_true, Bool.not_true, Bool.not_false, decide_true, decide_false, isi_int_non, isi_int_bl, isi_int_int, isi_int_str, isi_int_lst, isi_int_tup, isi_str_non, isi_str_bl, isi_str_int, isi_str_str, isi_str_lst, isi_str_tup, isi_bool_non, isi_bool_bl, isi_bool_int, isi_bool_str, isi_bool_lst, isi_bool_tup, isi_list_non, isi_list_bl, isi_list_int, isi_list_str, isi_list_lst, isi_list_tup, isi_tuple_non, isi_tuple_bl, isi_tuple_int, isi_tuple_str, isi_tuple_lst, isi_tuple_tup, isi_dict_non, isi_dict_bl, isi_dict_int, isi_dict_str, isi_dict_lst, isi_dict_tup, isi_list_tuple_non, isi_list_tuple_bl, isi_list_tuple_int, isi_list_tuple_str, isi_list_tuple_lst, isi_list_tuple_tup, isi_bool_str_non, isi_bool_str_bl, isi_bool_str_int, isi_bool_str_str, isi_bool_str_lst, isi_bool_str_tup])
  refine w_forI (k := 0) (fun j ρ => ∃ d' a b c e f g h i k l, ρ = [some d', a, b, c, e, f, g, h, i, k, l, none] ∧ Bx (n + 100 * j) d') ⟨d, _, _, _, _, _, _, _, _, _, _, rfl, hb⟩ ?_ ?_
  · rintro j x ρ hj ⟨d1, a, b, c, e, f, g, h, i, k, l, rfl, hb1⟩
    obtain ⟨hj15, rfl⟩ := rng_get hj
    rw [Nat.zero_add] at hb1
    (simp (disch := first | omega | (simp only [List.length_cons, List.length_nil, List.length_append, List.length_map, List.length_take, List.length_drop, List.length_reverse, List.length_set]; omega) | decide) only [wX_ok, wX_exc, wO_some, wO_ite, wIf_true, wIf_false, wIf_not, wF_nx, wF_rt, wF_bk, wF_ct, w_pure, w_bind, w_of, w_m1, w_m2, w_var, w_c, w_truth, w_ite, w_and, w_or, w_not, w_andV, w_orV, w_notV, w_if, w_nil, w_cons, w_tup, w_lst, w_call, w_nx, w_seq, w_drop, w_ret, w_set, w_ifS, w_slot, w_callF, w_callK, w_app2, w_part, w_noPart, w_sl, w_seqOf, w_rng, w_for, w_forL_nil, w_app, w_ixO, w_lenO, w_popAt, w_setIx, w_aug, w_par2, w_par3, w_mbind, w_chain, wX_runF, VL.fill, VL.put, outs, startE, wipeE, backE, bindT_nm, bindT_tt, bindT_tl, bindTs_n, bindTs_c, VL.pick, List.filterMap_cons, List.filterMap_nil, List.map_cons, List.map_nil, List.length_cons, List.length_nil, List.replicate, List.cons_append, List.nil_append, List.getElem?_cons_zero, List.getElem?_cons_succ, List.set_cons_zero, List.set_cons_succ, Option.map_some, Option.bind_some, Option.getD_some, Nat.reduceSub, Nat.reduceAdd, Int.cast_ofNat_Int, Int.reduceLT, Int.reduceLE, Int.reduceNeg, Int.reduceEq, gEq_int, gNe_int, gLt_int, gGt_int, gLe_int, gGe_int, gAdd_int, gSub_int, gMul_l, gMul_r, gMod_int, gFdv_int, gNeg_i, cInt_i, cInt_b, cAbs_i, cLen_l, cLen_t, cTup_l, cTup_t, cLst_l, cLst_t, gIx_l, gIx_t, setI_i, popI_i, gSl_l, gSl_t, gSl_scr, dSeq_l, dSeq_t, dSeq_s, cMin2_i, cMax2_i, cEnum_l, cZip_l, cZip_t, tr_b, tr_i, tr_l, tr_t, tr_n, gIs_n, gIsn_n, isN, lstAt_0, lstAt_s, gAdd_l, gAdd_t, le_sizeP, lt_sizeP, gPow_i, cAll_mb, cAny_mb, w_star, w_tupS, w_lstS, w_star2, dItems_l, dItems_t, gCat_l, starT_c, gRev_ll, gRev_tt, true_and, and_true, Bool.not_true, Bool.not_false, decide_true, decide_false, isi_int_non, isi_int_bl, isi_int_int, isi_int_str, isi_int_lst, isi_int_tup, isi_str_non, isi_str_bl, isi_str_int, isi_str_str, isi_str_lst, isi_str_tup, isi_bool_non, isi_bool_bl, isi_bool_int, isi_bool_str, isi_bool_lst, isi_bool_tup, isi_list_non, isi_list_bl, isi_list_int, isi_list_str, isi_list_lst, isi_list_tup, isi_tuple_non, isi_tuple_bl, isi_tuple_int, isi_tuple_str, isi_tuple_lst, isi_tuple_tup, isi_dict_non, isi_dict_bl, isi_dict_int, isi_dict_str, isi_dict_lst, isi_dict_tup, isi_list_tuple_non, isi_list_tuple_bl, isi_list_tuple_int, isi_list_tuple_str, isi_list_tuple_lst, isi_list_tuple_tup, isi_bool_str_non, isi_bool_str_bl, isi_bool_str_int, isi_bool_str_str, isi_bool_str_lst, isi_bool_str_tup])
    refine wX_imp (tags_sp hb1 (by omega) (by decide)) ?_
    rintro ⟨_, _⟩ ⟨ts, rest, rfl, hp, hl, d2, rfl, hb2⟩
    have hlen : (sortS ts).length = 4 := by show (isort leS ts).length = 4; rw [(isort_perm leS ts).length_eq, hl]; rfl
    (simp (disch := first | omega | (simp only [List.length_cons, List.length_nil, List.length_append, List.length_map, List.length_take, List.length_drop, List.length_reverse, List.length_set]; omega) | decide) only [wX_ok, wX_exc, wO_some, wO_ite, wIf_true, wIf_false, wIf_not, wF_nx, wF_rt, wF_bk, wF_ct, w_pure, w_bind, w_of, w_m1, w_m2, w_var, w_c, w_truth, w_ite, w_and, w_or, w_not, w_andV, w_orV, w_notV, w_if, w_nil, w_cons, w_tup, w_lst, w_call, w_nx, w_seq, w_drop, w_ret, w_set, w_ifS, w_slot, w_callF, w_callK, w_app2, w_part, w_noPart, w_sl, w_seqOf, w_rng, w_for, w_forL_nil, w_app, w_ixO, w_lenO, w_popAt, w_setIx, w_aug, w_par2, w_par3, w_mbind, w_chain, wX_runF, VL.fill, VL.put, outs, startE, wipeE, backE, bindT_nm, bindT_tt, bindT_tl, bindTs_n, bindTs_c, VL.pick, List.filterMap_cons, List.filterMap_nil, List.map_cons, List.map_nil, List.length_cons, List.length_nil, List.replicate, List.cons_append, List.nil_append, List.getElem?_cons_zero, List.getElem?_cons_succ, List.set_cons_zero, List.set_cons_succ, Option.map_some, Option.bind_some, Option.getD_some, Nat.reduceSub, Nat.reduceAdd, Int.cast_ofNat_Int, Int.reduceLT, Int.reduceLE, Int.reduceNeg, Int.reduceEq, gEq_int, gNe_int, gLt_int, gGt_int, gLe_int, gGe_int, gAdd_int, gSub_int, gMul_l, gMul_r, gMod_int, gFdv_int, gNeg_i, cInt_i, cInt_b, cAbs_i, cLen_l, cLen_t, cTup_l, cTup_t, cLst_l, cLst_t, gIx_l, gIx_t, setI_i, popI_i, gSl_l, gSl_t, gSl_scr, dSeq_l, dSeq_t, dSeq_s, cMin2_i, cMax2_i, cEnum_l, cZip_l, cZip_t, tr_b, tr_i, tr_l, tr_t, tr_n, gIs_n, gIsn_n, isN, lstAt_0, lstAt_s, gAdd_l, gAdd_t, le_sizeP, lt_sizeP, gPow_i, cAll_mb, cAny_mb, w_star, w_tupS, w_lstS, w_star2, dItems_l, dItems_t, gCat_l, starT_c, gRev_ll, gRev_tt, true_and, and_true, Bool.not_true, Bool.not_false, decide_true, decide_false, isi_int_non, isi_int_bl, isi_int_int, isi_int_str, isi_int_lst, isi_int_tup, isi_str_non, isi_str_bl, isi_str_int, isi_str_str, isi_str_lst, isi_str_tup, isi_bool_non, isi_bool_bl, isi_bool_int, isi_bool_str, isi_bool_lst, isi_bool_tup, isi_list_non, isi_list_bl, isi_list_int, isi_list_str, isi_list_lst, isi_list_tup, isi_tuple_non, isi_tuple_bl, isi_tuple_int, isi_tuple_str, isi_tuple_lst, isi_tuple_tup, isi_dict_non, isi_dict_bl, isi_dict_int, isi_dict_str, isi_dict_lst, isi_dict_tup, isi_list_tuple_non, isi_list_tuple_bl, isi_list_tuple_int, isi_list_tuple_str, isi_list_tuple_lst, isi_list_tuple_tup, isi_bool_str_non, isi_bool_str_bl, isi_bool_str_int, isi_bool_str_str, isi_bool_str_lst, isi_bool_str_tup])
    refine wX_imp (row_sp (m := 9) (.inr rfl) hb2 (by omega) (fun h => by rw [h] at hlen; simp at hlen) (by omega) (by decide) (by decide)) ?_
    rintro ⟨_, _⟩ ⟨as, rfl, hal, _, d3, rfl, hb3⟩
    (simp (disch := first | omega | (simp only [List.length_cons, List.length_nil, List.length_append, List.length_map, List.length_take, List.length_drop, List.length_reverse, List.length_set]; omega) | decide) only [wX_ok, wX_exc, wO_some, wO_ite, wIf_true, wIf_false, wIf_not, wF_nx, wF_rt, wF_bk, wF_ct, w_pure, w_bind, w_of, w_m1, w_m2, w_var, w_c, w_truth, w_ite, w_and, w_or, w_not, w_andV, w_orV, w_notV, w_if, w_nil, w_cons, w_tup, w_lst, w_call, w_nx, w_seq, w_drop, w_ret, w_set, w_ifS, w_slot, w_callF, w_callK, w_app2, w_part, w_noPart, w_sl, w_seqOf, w_rng, w_for, w_forL_nil, w_app, w_ixO, w_lenO, w_popAt, w_setIx, w_aug, w_par2, w_par3, w_mbind, w_chain, wX_runF, VL.fill, VL.put, outs, startE, wipeE, backE, bindT_nm, bindT_tt, bindT_tl, bindTs_n, bindTs_c, VL.pick, List.filterMap_cons, List.filterMap_nil, List.map_cons, List.map_nil, List.length_cons, List.length_nil, List.replicate, List.cons_append, List.nil_append, List.getElem?_cons_zero, List.getElem?_cons_succ, List.set_cons_zero, List.set_cons_succ, Option.map_some, Option.bind_some, Option.getD_some, Nat.reduceSub, Nat.reduceAdd, Int.cast_ofNat_Int, Int.reduceLT, Int.reduceLE, Int.reduceNeg, Int.reduceEq, gEq_int, gNe_int, gLt_int, gGt_int, gLe_int, gGe_int, gAdd_int, gSub_int, gMul_l, gMul_r, gMod_int, gFdv_int, gNeg_i, cInt_i, cInt_b, cAbs_i, cLen_l, cLen_t, cTup_l, cTup_t, cLst_l, cLst_t, gIx_l, gIx_t, setI_i, popI_i, gSl_l, gSl_t, gSl_scr, dSeq_l, dSeq_t, dSeq_s, cMin2_i, cMax2_i, cEnum_l, cZip_l, cZip_t, tr_b, tr_i, tr_l, tr_t, tr_n, gIs_n, gIsn_n, isN, lstAt_0, lstAt_s, gAdd_l, gAdd_t, le_sizeP, lt_sizeP, gPow_i, cAll_mb, cAny_mb, w_star, w_tupS, w_lstS, w_star2, dItems_l, dItems_t, gCat_l, starT_c, gRev_ll, gRev_tt, true_and, and_true, Bool.not_true, Bool.not_false, decide_true, decide_false, isi_int_non, isi_int_bl, isi_int_int, isi_int_str, isi_int_lst, isi_int_tup, isi_str_non, isi_str_bl, isi_str_int, isi_str_str, isi_str_lst, isi_str_tup, isi_bool_non, isi_bool_bl, isi_bool_int, isi_bool_str, isi_bool_lst, isi_bool_tup, isi_list_non, isi_list_bl, isi_list_int, isi_list_str, isi_list_lst, isi_list_tup, isi_tuple_non, isi_tuple_bl, isi_tuple_int, isi_tuple_str, isi_tuple_lst, isi_tuple_tup, isi_dict_non, isi_dict_bl, isi_dict_int, isi_dict_str, isi_dict_lst, isi_dict_tup, isi_list_tuple_non, isi_list_tuple_bl, isi_list_tuple_int, isi_list_tuple_str, isi_list_tuple_lst, isi_list_tuple_tup, isi_bool_str_non, isi_bool_str_bl, isi_bool_str_int, isi_bool_str_str, isi_bool_str_lst, isi_bool_str_tup])
    refine wX_imp (row_sp (m := 5) (.inr rfl) hb3 (by omega) (fun h => by rw [h] at hlen; simp at hlen) (by omega) (by decide) (by decide)) ?_
    rintro ⟨_, _⟩ ⟨bs, rfl, hbl, _, d4, rfl, hb4⟩
    (simp (disch := first | omega | (simp only [List.length_cons, List.length_nil, List.length_append, List.length_map, List.length_take, List.length_drop, List.length_reverse, List.length_set]; omega) | decide) only [wX_ok, wX_exc, wO_some, wO_ite, wIf_true, wIf_false, wIf_not, wF_nx, wF_rt, wF_bk, wF_ct, w_pure, w_bind, w_of, w_m1, w_m2, w_var, w_c, w_truth, w_ite, w_and, w_or, w_not, w_andV, w_orV, w_notV, w_if, w_nil, w_cons, w_tup, w_lst, w_call, w_nx, w_seq, w_drop, w_ret, w_set, w_ifS, w_slot, w_callF, w_callK, w_app2, w_part, w_noPart, w_sl, w_seqOf, w_rng, w_for, w_forL_nil, w_app, w_ixO, w_lenO, w_popAt, w_setIx, w_aug, w_par2, w_par3, w_mbind, w_chain, wX_runF, VL.fill, VL.put, outs, startE, wipeE, backE, bindT_nm, bindT_tt, bindT_tl, bindTs_n, bindTs_c, VL.pick, List.filterMap_cons, List.filterMap_nil, List.map_cons, List.map_nil, List.length_cons, List.length_nil, List.replicate, List.cons_append, List.nil_append, List.getElem?_cons_zero, List.getElem?_cons_succ, List.set_cons_zero, List.set_cons_succ, Option.map_some, Option.bind_some, Option.getD_some, Nat.reduceSub, Nat.reduceAdd, Int.cast_ofNat_Int, Int.reduceLT, Int.reduceLE, Int.reduceNeg, Int.reduceEq, gEq_int, gNe_int, gLt_int, gGt_int, gLe_int, gGe_int, gAdd_int, gSub_int, gMul_l, gMul_r, gMod_int, gFdv_int, gNeg_i, cInt_i, cInt_b, cAbs_i, cLen_l, cLen_t, cTup_l, cTup_t, cLst_l, cLst_t, gIx_l, gIx_t, setI_i, popI_i, gSl_l, gSl_t, gSl_scr, dSeq_l, dSeq_t, dSeq_s, cMin2_i, cMax2_i, cEnum_l, cZip_l, cZip_t, tr_b, tr_i, tr_l, tr_t, tr_n, gIs_n, gIsn_n, isN, lstAt_0, lstAt_s, gAdd_l, gAdd_t, le_sizeP, lt_sizeP, gPow_i, cAll_mb, cAny_mb, w_star, w_tupS, w_lstS, w_star2, dItems_l, dItems_t, gCat_l, starT_c, gRev_ll, gRev_tt, true_and, and_true, Bool.not_true, Bool.not_false, decide_true, decide_false, isi_int_non, isi_int_bl, isi_int_int, isi_int_str, isi_int_lst, isi_int_tup, isi_str_non, isi_str_bl, isi_str_int, isi_str_str, isi_str_lst, isi_str_tup, isi_bool_non, isi_bool_bl, isi_bool_int, isi_bool_str, isi_bool_lst, isi_bool_tup, isi_list_non, isi_list_bl, isi_list_int, isi_list_str, isi_list_lst, isi_list_tup, isi_tuple_non, isi_tuple_bl, isi_tuple_int, isi_tuple_str, isi_tuple_lst, isi_tuple_tup, isi_dict_non, isi_dict_bl, isi_dict_int, isi_dict_str, isi_dict_lst, isi_dict_tup, isi_list_tuple_non, isi_list_tuple_bl, isi_list_tuple_int, isi_list_tuple_str, isi_list_tuple_lst, isi_list_tuple_tup, isi_bool_str_non, isi_bool_str_bl, isi_bool_str_int, isi_bool_str_str, isi_bool_str_lst, isi_bool_str_tup])
    refine wX_imp (take_sp hb4 (by omega) (by decide) (by decide)) ?_
    rintro ⟨_, _⟩ ⟨q, rfl, hq, d5, rfl, hb5⟩
    have hb6 : Bx (n + 100 * (0 + j + 1)) d5 := hb5.mono (by omega)
    clear hb1 hb2 hb3 hb4 hb5 hp hl hlen hq
    have la : as.length ≤ 100 := by omega
    have lb : bs.length ≤ 100 := by omega
    have q1 := lists_row 13 (sts := as) (by omega)
    have q2 := lists_row 13 (sts := bs) (by omega)
    have u1 := tupled_row 13 (sts := as) (by omega)
    have u2 := tupled_rowL 13 (sts := as) (by omega)
    have u3 := tupled_rowL 13 (sts := bs) (by omega)
    have u4 := tupled_row 13 (sts := as.map oppS) (by rw [List.length_map]; omega)
    have eo : (as.map oppS).map oppS = as := by rw [List.map_map]; exact (List.map_congr_left fun st _ => oppS_oppS st).trans (List.map_id as)
    have o2 : f_opposite [.tuple ((as.map oppS).map stpD)] = .ok (.tuple (as.map stpD), []) := by
      have := opposite_eq (sts := as.map oppS) (by rw [List.length_map]; omega) u4
      rw [eo] at this
      exact this
    have l1 := nms_len as
    have l2 := nmsD_len (nms as)
    have l3 := trm_len as
    have l4 := trk_len 0 as
    have z : (nms as).length ≤ 1000 := by omega
    (simp (disch := first | omega | (simp only [List.length_cons, List.length_nil, List.length_append, List.length_map, List.length_take, List.length_drop, List.length_reverse, List.length_set]; omega) | decide) only [q1, q2, law_terms_eq la, names_in_eq la, all_ups_eq la, terms_eq la u1, leveled_eq la u2, opposite_eq la u1, moved_eq la u2, put_behind_eq la lb u1 u3, cut1, wX_ok, wX_exc, wO_some, wO_ite, wIf_true, wIf_false, wIf_not, wF_nx, wF_rt, wF_bk, wF_ct, w_pure, w_bind, w_of, w_m1, w_m2, w_var, w_c, w_truth, w_ite, w_and, w_or, w_not, w_andV, w_orV, w_notV, w_if, w_nil, w_cons, w_tup, w_lst, w_call, w_nx, w_seq, w_drop, w_ret, w_set, w_ifS, w_slot, w_callF, w_callK, w_app2, w_part, w_noPart, w_sl, w_seqOf, w_rng, w_for, w_forL_nil, w_app, w_ixO, w_lenO, w_popAt, w_setIx, w_aug, w_par2, w_par3, w_mbind, w_chain, wX_runF, VL.fill, VL.put, outs, startE, wipeE, backE, bindT_nm, bindT_tt, bindT_tl, bindTs_n, bindTs_c, VL.pick, List.filterMap_cons, List.filterMap_nil, List.map_cons, List.map_nil, List.length_cons, List.length_nil, List.replicate, List.cons_append, List.nil_append, List.getElem?_cons_zero, List.getElem?_cons_succ, List.set_cons_zero, List.set_cons_succ, Option.map_some, Option.bind_some, Option.getD_some, Nat.reduceSub, Nat.reduceAdd, Int.cast_ofNat_Int, Int.reduceLT, Int.reduceLE, Int.reduceNeg, Int.reduceEq, gEq_int, gNe_int, gLt_int, gGt_int, gLe_int, gGe_int, gAdd_int, gSub_int, gMul_l, gMul_r, gMod_int, gFdv_int, gNeg_i, cInt_i, cInt_b, cAbs_i, cLen_l, cLen_t, cTup_l, cTup_t, cLst_l, cLst_t, gIx_l, gIx_t, setI_i, popI_i, gSl_l, gSl_t, gSl_scr, dSeq_l, dSeq_t, dSeq_s, cMin2_i, cMax2_i, cEnum_l, cZip_l, cZip_t, tr_b, tr_i, tr_l, tr_t, tr_n, gIs_n, gIsn_n, isN, lstAt_0, lstAt_s, gAdd_l, gAdd_t, le_sizeP, lt_sizeP, gPow_i, cAll_mb, cAny_mb, w_star, w_tupS, w_lstS, w_star2, dItems_l, dItems_t, gCat_l, starT_c, gRev_ll, gRev_tt, true_and, and_true, Bool.not_true, Bool.not_false, decide_true, decide_false, isi_int_non, isi_int_bl, isi_int_int, isi_int_str, isi_int_lst, isi_int_tup, isi_str_non, isi_str_bl, isi_str_int, isi_str_str, isi_str_lst, isi_str_tup, isi_bool_non, isi_bool_bl, isi_bool_int, isi_bool_str, isi_bool_lst, isi_bool_tup, isi_list_non, isi_list_bl, isi_list_int, isi_list_str, isi_list_lst, isi_list_tup, isi_tuple_non, isi_tuple_bl, isi_tuple_int, isi_tuple_str, isi_tuple_lst, isi_tuple_tup, isi_dict_non, isi_dict_bl, isi_dict_int, isi_dict_str, isi_dict_lst, isi_dict_tup, isi_list_tuple_non, isi_list_tuple_bl, isi_list_tuple_int, isi_list_tuple_str, isi_list_tuple_lst, isi_list_tuple_tup, isi_bool_str_non, isi_bool_str_bl, isi_bool_str_int, isi_bool_str_str, isi_bool_str_lst, isi_bool_str_tup])
    refine w_map third ?_
    (simp (disch := first | omega | (simp only [List.length_cons, List.length_nil, List.length_append, List.length_map, List.length_take, List.length_drop, List.length_reverse, List.length_set]; omega) | decide) only [cut1, wX_ok, wX_exc, wO_some, wO_ite, wIf_true, wIf_false, wIf_not, wF_nx, wF_rt, wF_bk, wF_ct, w_pure, w_bind, w_of, w_m1, w_m2, w_var, w_c, w_truth, w_ite, w_and, w_or, w_not, w_andV, w_orV, w_notV, w_if, w_nil, w_cons, w_tup, w_lst, w_call, w_nx, w_seq, w_drop, w_ret, w_set, w_ifS, w_slot, w_callF, w_callK, w_app2, w_part, w_noPart, w_sl, w_seqOf, w_rng, w_for, w_forL_nil, w_app, w_ixO, w_lenO, w_popAt, w_setIx, w_aug, w_par2, w_par3, w_mbind, w_chain, wX_runF, VL.fill, VL.put, outs, startE, wipeE, backE, bindT_nm, bindT_tt, bindT_tl, bindTs_n, bindTs_c, VL.pick, List.filterMap_cons, List.filterMap_nil, List.map_cons, List.map_nil, List.length_cons, List.length_nil, List.replicate, List.cons_append, List.nil_append, List.getElem?_cons_zero, List.getElem?_cons_succ, List.set_cons_zero, List.set_cons_succ, Option.map_some, Option.bind_some, Option.getD_some, Nat.reduceSub, Nat.reduceAdd, Int.cast_ofNat_Int, Int.reduceLT, Int.reduceLE, Int.reduceNeg, Int.reduceEq, gEq_int, gNe_int, gLt_int, gGt_int, gLe_int, gGe_int, gAdd_int, gSub_int, gMul_l, gMul_r, gMod_int, gFdv_int, gNeg_i, cInt_i, cInt_b, cAbs_i, cLen_l, cLen_t, cTup_l, cTup_t, cLst_l, cLst_t, gIx_l, gIx_t, setI_i, popI_i, gSl_l, gSl_t, gSl_scr, dSeq_l, dSeq_t, dSeq_s, cMin2_i, cMax2_i, cEnum_l, cZip_l, cZip_t, tr_b, tr_i, tr_l, tr_t, tr_n, gIs_n, gIsn_n, isN, lstAt_0, lstAt_s, gAdd_l, gAdd_t, le_sizeP, lt_sizeP, gPow_i, cAll_mb, cAny_mb, w_star, w_tupS, w_lstS, w_star2, dItems_l, dItems_t, gCat_l, starT_c, gRev_ll, gRev_tt, true_and, and_true, Bool.not_true, Bool.not_false, decide_true, decide_false, isi_int_non, isi_int_bl, isi_int_int, isi_int_str, isi_int_lst, isi_int_tup, isi_str_non, isi_str_bl, isi_str_int, isi_str_str, isi_str_lst, isi_str_tup, isi_bool_non, isi_bool_bl, isi_bool_int, isi_bool_str, isi_bool_lst, isi_bool_tup, isi_list_non, isi_list_bl, isi_list_int, isi_list_str, isi_list_lst, isi_list_tup, isi_tuple_non, isi_tuple_bl, isi_tuple_int, isi_tuple_str, isi_tuple_lst, isi_tuple_tup, isi_dict_non, isi_dict_bl, isi_dict_int, isi_dict_str, isi_dict_lst, isi_dict_tup, isi_list_tuple_non, isi_list_tuple_bl, isi_list_tuple_int, isi_list_tuple_str, isi_list_tuple_lst, isi_list_tuple_tup, isi_bool_str_non, isi_bool_str_bl, isi_bool_str_int, isi_bool_str_str, isi_bool_str_lst, isi_bool_str_tup])
    refine ⟨fun y hy => ?_, ?_⟩
    · obtain ⟨k, s, x, n, rfl⟩ := trk_mem hy
      (simp (disch := first | omega | (simp only [List.length_cons, List.length_nil, List.length_append, List.length_map, List.length_take, List.length_drop, List.length_reverse, List.length_set]; omega) | decide) only [at2, wX_ok, wX_exc, wO_some, wO_ite, wIf_true, wIf_false, wIf_not, wF_nx, wF_rt, wF_bk, wF_ct, w_pure, w_bind, w_of, w_m1, w_m2, w_var, w_c, w_truth, w_ite, w_and, w_or, w_not, w_andV, w_orV, w_notV, w_if, w_nil, w_cons, w_tup, w_lst, w_call, w_nx, w_seq, w_drop, w_ret, w_set, w_ifS, w_slot, w_callF, w_callK, w_app2, w_part, w_noPart, w_sl, w_seqOf, w_rng, w_for, w_forL_nil, w_app, w_ixO, w_lenO, w_popAt, w_setIx, w_aug, w_par2, w_par3, w_mbind, w_chain, wX_runF, VL.fill, VL.put, outs, startE, wipeE, backE, bindT_nm, bindT_tt, bindT_tl, bindTs_n, bindTs_c, VL.pick, List.filterMap_cons, List.filterMap_nil, List.map_cons, List.map_nil, List.length_cons, List.length_nil, List.replicate, List.cons_append, List.nil_append, List.getElem?_cons_zero, List.getElem?_cons_succ, List.set_cons_zero, List.set_cons_succ, Option.map_some, Option.bind_some, Option.getD_some, Nat.reduceSub, Nat.reduceAdd, Int.cast_ofNat_Int, Int.reduceLT, Int.reduceLE, Int.reduceNeg, Int.reduceEq, gEq_int, gNe_int, gLt_int, gGt_int, gLe_int, gGe_int, gAdd_int, gSub_int, gMul_l, gMul_r, gMod_int, gFdv_int, gNeg_i, cInt_i, cInt_b, cAbs_i, cLen_l, cLen_t, cTup_l, cTup_t, cLst_l, cLst_t, gIx_l, gIx_t, setI_i, popI_i, gSl_l, gSl_t, gSl_scr, dSeq_l, dSeq_t, dSeq_s, cMin2_i, cMax2_i, cEnum_l, cZip_l, cZip_t, tr_b, tr_i, tr_l, tr_t, tr_n, gIs_n, gIsn_n, isN, lstAt_0, lstAt_s, gAdd_l, gAdd_t, le_sizeP, lt_sizeP, gPow_i, cAll_mb, cAny_mb, w_star, w_tupS, w_lstS, w_star2, dItems_l, dItems_t, gCat_l, starT_c, gRev_ll, gRev_tt, true_and, and_true, Bool.not_true, Bool.not_false, decide_true, decide_false, isi_int_non, isi_int_bl, isi_int_int, isi_int_str, isi_int_lst, isi_int_tup, isi_str_non, isi_str_bl, isi_str_int, isi_str_str, isi_str_lst, isi_str_tup, isi_bool_non, isi_bool_bl, isi_bool_int, isi_bool_str, isi_bool_lst, isi_bool_tup, isi_list_non, isi_list_bl, isi_list_int, isi_list_str, isi_list_lst, isi_list_tup, isi_tuple_non, isi_tuple_bl, isi_tuple_int, isi_tuple_str, isi_tuple_lst, isi_tuple_tup, isi_dict_non, isi_dict_bl, isi_dict_int, isi_dict_str, isi_dict_lst, isi_dict_tup, isi_list_tuple_non, isi_list_tuple_bl, isi_list_tuple_int, isi_list_tuple_str, isi_list_tuple_lst, isi_list_tuple_tup, isi_bool_str_non, isi_bool_str_bl, isi_bool_str_int, isi_bool_str_str, isi_bool_str_lst, isi_bool_str_tup])
      rfl
    rw [trk_third]
    (simp (disch := first | omega | (simp only [List.length_cons, List.length_nil, List.length_append, List.length_map, List.length_take, List.length_drop, List.length_reverse, List.length_set]; omega) | decide) only [okSet_nms z, at0, at3, wX_ok, wX_exc, wO_some, wO_ite, wIf_true, wIf_false, wIf_not, wF_nx, wF_rt, wF_bk, wF_ct, w_pure, w_bind, w_of, w_m1, w_m2, w_var, w_c, w_truth, w_ite, w_and, w_or, w_not, w_andV, w_orV, w_notV, w_if, w_nil, w_cons, w_tup, w_lst, w_call, w_nx, w_seq, w_drop, w_ret, w_set, w_ifS, w_slot, w_callF, w_callK, w_app2, w_part, w_noPart, w_sl, w_seqOf, w_rng, w_for, w_forL_nil, w_app, w_ixO, w_lenO, w_popAt, w_setIx, w_aug, w_par2, w_par3, w_mbind, w_chain, wX_runF, VL.fill, VL.put, outs, startE, wipeE, backE, bindT_nm, bindT_tt, bindT_tl, bindTs_n, bindTs_c, VL.pick, List.filterMap_cons, List.filterMap_nil, List.map_cons, List.map_nil, List.length_cons, List.length_nil, List.replicate, List.cons_append, List.nil_append, List.getElem?_cons_zero, List.getElem?_cons_succ, List.set_cons_zero, List.set_cons_succ, Option.map_some, Option.bind_some, Option.getD_some, Nat.reduceSub, Nat.reduceAdd, Int.cast_ofNat_Int, Int.reduceLT, Int.reduceLE, Int.reduceNeg, Int.reduceEq, gEq_int, gNe_int, gLt_int, gGt_int, gLe_int, gGe_int, gAdd_int, gSub_int, gMul_l, gMul_r, gMod_int, gFdv_int, gNeg_i, cInt_i, cInt_b, cAbs_i, cLen_l, cLen_t, cTup_l, cTup_t, cLst_l, cLst_t, gIx_l, gIx_t, setI_i, popI_i, gSl_l, gSl_t, gSl_scr, dSeq_l, dSeq_t, dSeq_s, cMin2_i, cMax2_i, cEnum_l, cZip_l, cZip_t, tr_b, tr_i, tr_l, tr_t, tr_n, gIs_n, gIsn_n, isN, lstAt_0, lstAt_s, gAdd_l, gAdd_t, le_sizeP, lt_sizeP, gPow_i, cAll_mb, cAny_mb, w_star, w_tupS, w_lstS, w_star2, dItems_l, dItems_t, gCat_l, starT_c, gRev_ll, gRev_tt, true_and, and_true, Bool.not_true, Bool.not_false, decide_true, decide_false, isi_int_non, isi_int_bl, isi_int_int, isi_int_str, isi_int_lst, isi_int_tup, isi_str_non, isi_str_bl, isi_str_int, isi_str_str, isi_str_lst, isi_str_tup, isi_bool_non, isi_bool_bl, isi_bool_int, isi_bool_str, isi_bool_lst, isi_bool_tup, isi_list_non, isi_list_bl, isi_list_int, isi_list_str, isi_list_lst, isi_list_tup, isi_tuple_non, isi_tuple_bl, isi_tuple_int, isi_tuple_str, isi_tuple_lst, isi_tuple_tup, isi_dict_non, isi_dict_bl, isi_dict_int, isi_dict_str, isi_dict_lst, isi_dict_tup, isi_list_tuple_non, isi_list_tuple_bl, isi_list_tuple_int, isi_list_tuple_str, isi_list_tuple_lst, isi_list_tuple_tup, isi_bool_str_non, isi_bool_str_bl, isi_bool_str_int, isi_bool_str_str, isi_bool_str_lst, isi_bool_str_tup])
    refine w_map rest1 ?_
    (simp (disch := first | omega | (simp only [List.length_cons, List.length_nil, List.length_append, List.length_map, List.length_take, List.length_drop, List.length_reverse, List.length_set]; omega) | decide) only [wX_ok, wX_exc, wO_some, wO_ite, wIf_true, wIf_false, wIf_not, wF_nx, wF_rt, wF_bk, wF_ct, w_pure, w_bind, w_of, w_m1, w_m2, w_var, w_c, w_truth, w_ite, w_and, w_or, w_not, w_andV, w_orV, w_notV, w_if, w_nil, w_cons, w_tup, w_lst, w_call, w_nx, w_seq, w_drop, w_ret, w_set, w_ifS, w_slot, w_callF, w_callK, w_app2, w_part, w_noPart, w_sl, w_seqOf, w_rng, w_for, w_forL_nil, w_app, w_ixO, w_lenO, w_popAt, w_setIx, w_aug, w_par2, w_par3, w_mbind, w_chain, wX_runF, VL.fill, VL.put, outs, startE, wipeE, backE, bindT_nm, bindT_tt, bindT_tl, bindTs_n, bindTs_c, VL.pick, List.filterMap_cons, List.filterMap_nil, List.map_cons, List.map_nil, List.length_cons, List.length_nil, List.replicate, List.cons_append, List.nil_append, List.getElem?_cons_zero, List.getElem?_cons_succ, List.set_cons_zero, List.set_cons_succ, Option.map_some, Option.bind_some, Option.getD_some, Nat.reduceSub, Nat.reduceAdd, Int.cast_ofNat_Int, Int.reduceLT, Int.reduceLE, Int.reduceNeg, Int.reduceEq, gEq_int, gNe_int, gLt_int, gGt_int, gLe_int, gGe_int, gAdd_int, gSub_int, gMul_l, gMul_r, gMod_int, gFdv_int, gNeg_i, cInt_i, cInt_b, cAbs_i, cLen_l, cLen_t, cTup_l, cTup_t, cLst_l, cLst_t, gIx_l, gIx_t, setI_i, popI_i, gSl_l, gSl_t, gSl_scr, dSeq_l, dSeq_t, dSeq_s, cMin2_i, cMax2_i, cEnum_l, cZip_l, cZip_t, tr_b, tr_i, tr_l, tr_t, tr_n, gIs_n, gIsn_n, isN, lstAt_0, lstAt_s, gAdd_l, gAdd_t, le_sizeP, lt_sizeP, gPow_i, cAll_mb, cAny_mb, w_star, w_tupS, w_lstS, w_star2, dItems_l, dItems_t, gCat_l, starT_c, gRev_ll, gRev_tt, true_and, and_true, Bool.not_true, Bool.not_false, decide_true, decide_false, isi_int_non, isi_int_bl, isi_int_int, isi_int_str, isi_int_lst, isi_int_tup, isi_str_non, isi_str_bl, isi_str_int, isi_str_str, isi_str_lst, isi_str_tup, isi_bool_non, isi_bool_bl, isi_bool_int, isi_bool_str, isi_bool_lst, isi_bool_tup, isi_list_non, isi_list_bl, isi_list_int, isi_list_str, isi_list_lst, isi_list_tup, isi_tuple_non, isi_tuple_bl, isi_tuple_int, isi_tuple_str, isi_tuple_lst, isi_tuple_tup, isi_dict_non, isi_dict_bl, isi_dict_int, isi_dict_str, isi_dict_lst, isi_dict_tup, isi_list_tuple_non, isi_list_tuple_bl, isi_list_tuple_int, isi_list_tuple_str, isi_list_tuple_lst, isi_list_tuple_tup, isi_bool_str_non, isi_bool_str_bl, isi_bool_str_int, isi_bool_str_str, isi_bool_str_lst, isi_bool_str_tup])
    refine ⟨fun y hy => ?_, ?_⟩
    · rcases List.mem_cons.mp hy with rfl | hy
      · (simp (disch := first | omega | (simp only [List.length_cons, List.length_nil, List.length_append, List.length_map, List.length_take, List.length_drop, List.length_reverse, List.length_set]; omega) | decide) only [cut1, wX_ok, wX_exc, wO_some, wO_ite, wIf_true, wIf_false, wIf_not, wF_nx, wF_rt, wF_bk, wF_ct, w_pure, w_bind, w_of, w_m1, w_m2, w_var, w_c, w_truth, w_ite, w_and, w_or, w_not, w_andV, w_orV, w_notV, w_if, w_nil, w_cons, w_tup, w_lst, w_call, w_nx, w_seq, w_drop, w_ret, w_set, w_ifS, w_slot, w_callF, w_callK, w_app2, w_part, w_noPart, w_sl, w_seqOf, w_rng, w_for, w_forL_nil, w_app, w_ixO, w_lenO, w_popAt, w_setIx, w_aug, w_par2, w_par3, w_mbind, w_chain, wX_runF, VL.fill, VL.put, outs, startE, wipeE, backE, bindT_nm, bindT_tt, bindT_tl, bindTs_n, bindTs_c, VL.pick, List.filterMap_cons, List.filterMap_nil, List.map_cons, List.map_nil, List.length_cons, List.length_nil, List.replicate, List.cons_append, List.nil_append, List.getElem?_cons_zero, List.getElem?_cons_succ, List.set_cons_zero, List.set_cons_succ, Option.map_some, Option.bind_some, Option.getD_some, Nat.reduceSub, Nat.reduceAdd, Int.cast_ofNat_Int, Int.reduceLT, Int.reduceLE, Int.reduceNeg, Int.reduceEq, gEq_int, gNe_int, gLt_int, gGt_int, gLe_int, gGe_int, gAdd_int, gSub_int, gMul_l, gMul_r, gMod_int, gFdv_int, gNeg_i, cInt_i, cInt_b, cAbs_i, cLen_l, cLen_t, cTup_l, cTup_t, cLst_l, cLst_t, gIx_l, gIx_t, setI_i, popI_i, gSl_l, gSl_t, gSl_scr, dSeq_l, dSeq_t, dSeq_s, cMin2_i, cMax2_i, cEnum_l, cZip_l, cZip_t, tr_b, tr_i, tr_l, tr_t, tr_n, gIs_n, gIsn_n, isN, lstAt_0, lstAt_s, gAdd_l, gAdd_t, le_sizeP, lt_sizeP, gPow_i, cAll_mb, cAny_mb, w_star, w_tupS, w_lstS, w_star2, dItems_l, dItems_t, gCat_l, starT_c, gRev_ll, gRev_tt, true_and, and_true, Bool.not_true, Bool.not_false, decide_true, decide_false, isi_int_non, isi_int_bl, isi_int_int, isi_int_str, isi_int_lst, isi_int_tup, isi_str_non, isi_str_bl, isi_str_int, isi_str_str, isi_str_lst, isi_str_tup, isi_bool_non, isi_bool_bl, isi_bool_int, isi_bool_str, isi_bool_lst, isi_bool_tup, isi_list_non, isi_list_bl, isi_list_int, isi_list_str, isi_list_lst, isi_list_tup, isi_tuple_non, isi_tuple_bl, isi_tuple_int, isi_tuple_str, isi_tuple_lst, isi_tuple_tup, isi_dict_non, isi_dict_bl, isi_dict_int, isi_dict_str, isi_dict_lst, isi_dict_tup, isi_list_tuple_non, isi_list_tuple_bl, isi_list_tuple_int, isi_list_tuple_str, isi_list_tuple_lst, isi_list_tuple_tup, isi_bool_str_non, isi_bool_str_bl, isi_bool_str_int, isi_bool_str_str, isi_bool_str_lst, isi_bool_str_tup])
        rfl
      · obtain ⟨k, s, x, n, rfl⟩ := trk_mem hy
        (simp (disch := first | omega | (simp only [List.length_cons, List.length_nil, List.length_append, List.length_map, List.length_take, List.length_drop, List.length_reverse, List.length_set]; omega) | decide) only [cut1, wX_ok, wX_exc, wO_some, wO_ite, wIf_true, wIf_false, wIf_not, wF_nx, wF_rt, wF_bk, wF_ct, w_pure, w_bind, w_of, w_m1, w_m2, w_var, w_c, w_truth, w_ite, w_and, w_or, w_not, w_andV, w_orV, w_notV, w_if, w_nil, w_cons, w_tup, w_lst, w_call, w_nx, w_seq, w_drop, w_ret, w_set, w_ifS, w_slot, w_callF, w_callK, w_app2, w_part, w_noPart, w_sl, w_seqOf, w_rng, w_for, w_forL_nil, w_app, w_ixO, w_lenO, w_popAt, w_setIx, w_aug, w_par2, w_par3, w_mbind, w_chain, wX_runF, VL.fill, VL.put, outs, startE, wipeE, backE, bindT_nm, bindT_tt, bindT_tl, bindTs_n, bindTs_c, VL.pick, List.filterMap_cons, List.filterMap_nil, List.map_cons, List.map_nil, List.length_cons, List.length_nil, List.replicate, List.cons_append, List.nil_append, List.getElem?_cons_zero, List.getElem?_cons_succ, List.set_cons_zero, List.set_cons_succ, Option.map_some, Option.bind_some, Option.getD_some, Nat.reduceSub, Nat.reduceAdd, Int.cast_ofNat_Int, Int.reduceLT, Int.reduceLE, Int.reduceNeg, Int.reduceEq, gEq_int, gNe_int, gLt_int, gGt_int, gLe_int, gGe_int, gAdd_int, gSub_int, gMul_l, gMul_r, gMod_int, gFdv_int, gNeg_i, cInt_i, cInt_b, cAbs_i, cLen_l, cLen_t, cTup_l, cTup_t, cLst_l, cLst_t, gIx_l, gIx_t, setI_i, popI_i, gSl_l, gSl_t, gSl_scr, dSeq_l, dSeq_t, dSeq_s, cMin2_i, cMax2_i, cEnum_l, cZip_l, cZip_t, tr_b, tr_i, tr_l, tr_t, tr_n, gIs_n, gIsn_n, isN, lstAt_0, lstAt_s, gAdd_l, gAdd_t, le_sizeP, lt_sizeP, gPow_i, cAll_mb, cAny_mb, w_star, w_tupS, w_lstS, w_star2, dItems_l, dItems_t, gCat_l, starT_c, gRev_ll, gRev_tt, true_and, and_true, Bool.not_true, Bool.not_false, decide_true, decide_false, isi_int_non, isi_int_bl, isi_int_int, isi_int_str, isi_int_lst, isi_int_tup, isi_str_non, isi_str_bl, isi_str_int, isi_str_str, isi_str_lst, isi_str_tup, isi_bool_non, isi_bool_bl, isi_bool_int, isi_bool_str, isi_bool_lst, isi_bool_tup, isi_list_non, isi_list_bl, isi_list_int, isi_list_str, isi_list_lst, isi_list_tup, isi_tuple_non, isi_tuple_bl, isi_tuple_int, isi_tuple_str, isi_tuple_lst, isi_tuple_tup, isi_dict_non, isi_dict_bl, isi_dict_int, isi_dict_str, isi_dict_lst, isi_dict_tup, isi_list_tuple_non, isi_list_tuple_bl, isi_list_tuple_int, isi_list_tuple_str, isi_list_tuple_lst, isi_list_tuple_tup, isi_bool_str_non, isi_bool_str_bl, isi_bool_str_int, isi_bool_str_str, isi_bool_str_lst, isi_bool_str_tup])
        rfl
    have er : rest1 (.tuple [.int (-1), .str "start", .str "start", .int (ups as)]) = .tuple [.str "start", .str "start", .int (ups as)] := rfl
    rw [trk_rest]
    (simp (disch := first | omega | (simp only [List.length_cons, List.length_nil, List.length_append, List.length_map, List.length_take, List.length_drop, List.length_reverse, List.length_set]; omega) | decide) only [er, at0, at3, cut1, wX_ok, wX_exc, wO_some, wO_ite, wIf_true, wIf_false, wIf_not, wF_nx, wF_rt, wF_bk, wF_ct, w_pure, w_bind, w_of, w_m1, w_m2, w_var, w_c, w_truth, w_ite, w_and, w_or, w_not, w_andV, w_orV, w_notV, w_if, w_nil, w_cons, w_tup, w_lst, w_call, w_nx, w_seq, w_drop, w_ret, w_set, w_ifS, w_slot, w_callF, w_callK, w_app2, w_part, w_noPart, w_sl, w_seqOf, w_rng, w_for, w_forL_nil, w_app, w_ixO, w_lenO, w_popAt, w_setIx, w_aug, w_par2, w_par3, w_mbind, w_chain, wX_runF, VL.fill, VL.put, outs, startE, wipeE, backE, bindT_nm, bindT_tt, bindT_tl, bindTs_n, bindTs_c, VL.pick, List.filterMap_cons, List.filterMap_nil, List.map_cons, List.map_nil, List.length_cons, List.length_nil, List.replicate, List.cons_append, List.nil_append, List.getElem?_cons_zero, List.getElem?_cons_succ, List.set_cons_zero, List.set_cons_succ, Option.map_some, Option.bind_some, Option.getD_some, Nat.reduceSub, Nat.reduceAdd, Int.cast_ofNat_Int, Int.reduceLT, Int.reduceLE, Int.reduceNeg, Int.reduceEq, gEq_int, gNe_int, gLt_int, gGt_int, gLe_int, gGe_int, gAdd_int, gSub_int, gMul_l, gMul_r, gMod_int, gFdv_int, gNeg_i, cInt_i, cInt_b, cAbs_i, cLen_l, cLen_t, cTup_l, cTup_t, cLst_l, cLst_t, gIx_l, gIx_t, setI_i, popI_i, gSl_l, gSl_t, gSl_scr, dSeq_l, dSeq_t, dSeq_s, cMin2_i, cMax2_i, cEnum_l, cZip_l, cZip_t, tr_b, tr_i, tr_l, tr_t, tr_n, gIs_n, gIsn_n, isN, lstAt_0, lstAt_s, gAdd_l, gAdd_t, le_sizeP, lt_sizeP, gPow_i, cAll_mb, cAny_mb, w_star, w_tupS, w_lstS, w_star2, dItems_l, dItems_t, gCat_l, starT_c, gRev_ll, gRev_tt, true_and, and_true, Bool.not_true, Bool.not_false, decide_true, decide_false, isi_int_non, isi_int_bl, isi_int_int, isi_int_str, isi_int_lst, isi_int_tup, isi_str_non, isi_str_bl, isi_str_int, isi_str_str, isi_str_lst, isi_str_tup, isi_bool_non, isi_bool_bl, isi_bool_int, isi_bool_str, isi_bool_lst, isi_bool_tup, isi_list_non, isi_list_bl, isi_list_int, isi_list_str, isi_list_lst, isi_list_tup, isi_tuple_non, isi_tuple_bl, isi_tuple_int, isi_tuple_str, isi_tuple_lst, isi_tuple_tup, isi_dict_non, isi_dict_bl, isi_dict_int, isi_dict_str, isi_dict_lst, isi_dict_tup, isi_list_tuple_non, isi_list_tuple_bl, isi_list_tuple_int, isi_list_tuple_str, isi_list_tuple_lst, isi_list_tuple_tup, isi_bool_str_non, isi_bool_str_bl, isi_bool_str_int, isi_bool_str_str, isi_bool_str_lst, isi_bool_str_tup])
    refine w_map rest1 ?_
    (simp (disch := first | omega | (simp only [List.length_cons, List.length_nil, List.length_append, List.length_map, List.length_take, List.length_drop, List.length_reverse, List.length_set]; omega) | decide) only [cut1, wX_ok, wX_exc, wO_some, wO_ite, wIf_true, wIf_false, wIf_not, wF_nx, wF_rt, wF_bk, wF_ct, w_pure, w_bind, w_of, w_m1, w_m2, w_var, w_c, w_truth, w_ite, w_and, w_or, w_not, w_andV, w_orV, w_notV, w_if, w_nil, w_cons, w_tup, w_lst, w_call, w_nx, w_seq, w_drop, w_ret, w_set, w_ifS, w_slot, w_callF, w_callK, w_app2, w_part, w_noPart, w_sl, w_seqOf, w_rng, w_for, w_forL_nil, w_app, w_ixO, w_lenO, w_popAt, w_setIx, w_aug, w_par2, w_par3, w_mbind, w_chain, wX_runF, VL.fill, VL.put, outs, startE, wipeE, backE, bindT_nm, bindT_tt, bindT_tl, bindTs_n, bindTs_c, VL.pick, List.filterMap_cons, List.filterMap_nil, List.map_cons, List.map_nil, List.length_cons, List.length_nil, List.replicate, List.cons_append, List.nil_append, List.getElem?_cons_zero, List.getElem?_cons_succ, List.set_cons_zero, List.set_cons_succ, Option.map_some, Option.bind_some, Option.getD_some, Nat.reduceSub, Nat.reduceAdd, Int.cast_ofNat_Int, Int.reduceLT, Int.reduceLE, Int.reduceNeg, Int.reduceEq, gEq_int, gNe_int, gLt_int, gGt_int, gLe_int, gGe_int, gAdd_int, gSub_int, gMul_l, gMul_r, gMod_int, gFdv_int, gNeg_i, cInt_i, cInt_b, cAbs_i, cLen_l, cLen_t, cTup_l, cTup_t, cLst_l, cLst_t, gIx_l, gIx_t, setI_i, popI_i, gSl_l, gSl_t, gSl_scr, dSeq_l, dSeq_t, dSeq_s, cMin2_i, cMax2_i, cEnum_l, cZip_l, cZip_t, tr_b, tr_i, tr_l, tr_t, tr_n, gIs_n, gIsn_n, isN, lstAt_0, lstAt_s, gAdd_l, gAdd_t, le_sizeP, lt_sizeP, gPow_i, cAll_mb, cAny_mb, w_star, w_tupS, w_lstS, w_star2, dItems_l, dItems_t, gCat_l, starT_c, gRev_ll, gRev_tt, true_and, and_true, Bool.not_true, Bool.not_false, decide_true, decide_false, isi_int_non, isi_int_bl, isi_int_int, isi_int_str, isi_int_lst, isi_int_tup, isi_str_non, isi_str_bl, isi_str_int, isi_str_str, isi_str_lst, isi_str_tup, isi_bool_non, isi_bool_bl, isi_bool_int, isi_bool_str, isi_bool_lst, isi_bool_tup, isi_list_non, isi_list_bl, isi_list_int, isi_list_str, isi_list_lst, isi_list_tup, isi_tuple_non, isi_tuple_bl, isi_tuple_int, isi_tuple_str, isi_tuple_lst, isi_tuple_tup, isi_dict_non, isi_dict_bl, isi_dict_int, isi_dict_str, isi_dict_lst, isi_dict_tup, isi_list_tuple_non, isi_list_tuple_bl, isi_list_tuple_int, isi_list_tuple_str, isi_list_tuple_lst, isi_list_tuple_tup, isi_bool_str_non, isi_bool_str_bl, isi_bool_str_int, isi_bool_str_str, isi_bool_str_lst, isi_bool_str_tup])
    refine ⟨fun y hy => ?_, ?_⟩
    · obtain ⟨k, s, x, n, rfl⟩ := trk_mem hy
      (simp (disch := first | omega | (simp only [List.length_cons, List.length_nil, List.length_append, List.length_map, List.length_take, List.length_drop, List.length_reverse, List.length_set]; omega) | decide) only [cut1, wX_ok, wX_exc, wO_some, wO_ite, wIf_true, wIf_false, wIf_not, wF_nx, wF_rt, wF_bk, wF_ct, w_pure, w_bind, w_of, w_m1, w_m2, w_var, w_c, w_truth, w_ite, w_and, w_or, w_not, w_andV, w_orV, w_notV, w_if, w_nil, w_cons, w_tup, w_lst, w_call, w_nx, w_seq, w_drop, w_ret, w_set, w_ifS, w_slot, w_callF, w_callK, w_app2, w_part, w_noPart, w_sl, w_seqOf, w_rng, w_for, w_forL_nil, w_app, w_ixO, w_lenO, w_popAt, w_setIx, w_aug, w_par2, w_par3, w_mbind, w_chain, wX_runF, VL.fill, VL.put, outs, startE, wipeE, backE, bindT_nm, bindT_tt, bindT_tl, bindTs_n, bindTs_c, VL.pick, List.filterMap_cons, List.filterMap_nil, List.map_cons, List.map_nil, List.length_cons, List.length_nil, List.replicate, List.cons_append, List.nil_append, List.getElem?_cons_zero, List.getElem?_cons_succ, List.set_cons_zero, List.set_cons_succ, Option.map_some, Option.bind_some, Option.getD_some, Nat.reduceSub, Nat.reduceAdd, Int.cast_ofNat_Int, Int.reduceLT, Int.reduceLE, Int.reduceNeg, Int.reduceEq, gEq_int, gNe_int, gLt_int, gGt_int, gLe_int, gGe_int, gAdd_int, gSub_int, gMul_l, gMul_r, gMod_int, gFdv_int, gNeg_i, cInt_i, cInt_b, cAbs_i, cLen_l, cLen_t, cTup_l, cTup_t, cLst_l, cLst_t, gIx_l, gIx_t, setI_i, popI_i, gSl_l, gSl_t, gSl_scr, dSeq_l, dSeq_t, dSeq_s, cMin2_i, cMax2_i, cEnum_l, cZip_l, cZip_t, tr_b, tr_i, tr_l, tr_t, tr_n, gIs_n, gIsn_n, isN, lstAt_0, lstAt_s, gAdd_l, gAdd_t, le_sizeP, lt_sizeP, gPow_i, cAll_mb, cAny_mb, w_star, w_tupS, w_lstS, w_star2, dItems_l, dItems_t, gCat_l, starT_c, gRev_ll, gRev_tt, true_and, and_true, Bool.not_true, Bool.not_false, decide_true, decide_false, isi_int_non, isi_int_bl, isi_int_int, isi_int_str, isi_int_lst, isi_int_tup, isi_str_non, isi_str_bl, isi_str_int, isi_str_str, isi_str_lst, isi_str_tup, isi_bool_non, isi_bool_bl, isi_bool_int, isi_bool_str, isi_bool_lst, isi_bool_tup, isi_list_non, isi_list_bl, isi_list_int, isi_list_str, isi_list_lst, isi_list_tup, isi_tuple_non, isi_tuple_bl, isi_tuple_int, isi_tuple_str, isi_tuple_lst, isi_tuple_tup, isi_dict_non, isi_dict_bl, isi_dict_int, isi_dict_str, isi_dict_lst, isi_dict_tup, isi_list_tuple_non, isi_list_tuple_bl, isi_list_tuple_int, isi_list_tuple_str, isi_list_tuple_lst, isi_list_tuple_tup, isi_bool_str_non, isi_bool_str_bl, isi_bool_str_int, isi_bool_str_str, isi_bool_str_lst, isi_bool_str_tup])
      rfl
    rw [trk_rest]
    (simp (disch := first | omega | (simp only [List.length_cons, List.length_nil, List.length_append, List.length_map, List.length_take, List.length_drop, List.length_reverse, List.length_set]; omega) | decide) only [about_eq la, q1, q2, opposite_eq la u2, o2, wX_ok, wX_exc, wO_some, wO_ite, wIf_true, wIf_false, wIf_not, wF_nx, wF_rt, wF_bk, wF_ct, w_pure, w_bind, w_of, w_m1, w_m2, w_var, w_c, w_truth, w_ite, w_and, w_or, w_not, w_andV, w_orV, w_notV, w_if, w_nil, w_cons, w_tup, w_lst, w_call, w_nx, w_seq, w_drop, w_ret, w_set, w_ifS, w_slot, w_callF, w_callK, w_app2, w_part, w_noPart, w_sl, w_seqOf, w_rng, w_for, w_forL_nil, w_app, w_ixO, w_lenO, w_popAt, w_setIx, w_aug, w_par2, w_par3, w_mbind, w_chain, wX_runF, VL.fill, VL.put, outs, startE, wipeE, backE, bindT_nm, bindT_tt, bindT_tl, bindTs_n, bindTs_c, VL.pick, List.filterMap_cons, List.filterMap_nil, List.map_cons, List.map_nil, List.length_cons, List.length_nil, List.replicate, List.cons_append, List.nil_append, List.getElem?_cons_zero, List.getElem?_cons_succ, List.set_cons_zero, List.set_cons_succ, Option.map_some, Option.bind_some, Option.getD_some, Nat.reduceSub, Nat.reduceAdd, Int.cast_ofNat_Int, Int.reduceLT, Int.reduceLE, Int.reduceNeg, Int.reduceEq, gEq_int, gNe_int, gLt_int, gGt_int, gLe_int, gGe_int, gAdd_int, gSub_int, gMul_l, gMul_r, gMod_int, gFdv_int, gNeg_i, cInt_i, cInt_b, cAbs_i, cLen_l, cLen_t, cTup_l, cTup_t, cLst_l, cLst_t, gIx_l, gIx_t, setI_i, popI_i, gSl_l, gSl_t, gSl_scr, dSeq_l, dSeq_t, dSeq_s, cMin2_i, cMax2_i, cEnum_l, cZip_l, cZip_t, tr_b, tr_i, tr_l, tr_t, tr_n, gIs_n, gIsn_n, isN, lstAt_0, lstAt_s, gAdd_l, gAdd_t, le_sizeP, lt_sizeP, gPow_i, cAll_mb, cAny_mb, w_star, w_tupS, w_lstS, w_star2, dItems_l, dItems_t, gCat_l, starT_c, gRev_ll, gRev_tt, true_and, and_true, Bool.not_true, Bool.not_false, decide_true, decide_false, isi_int_non, isi_int_bl, isi_int_int, isi_int_str, isi_int_lst, isi_int_tup, isi_str_non, isi_str_bl, isi_str_int, isi_str_str, isi_str_lst, isi_str_tup, isi_bool_non, isi_bool_bl, isi_bool_int, isi_bool_str, isi_bool_lst, isi_bool_tup, isi_list_non, isi_list_bl, isi_list_int, isi_list_str, isi_list_lst, isi_list_tup, isi_tuple_non, isi_tuple_bl, isi_tuple_int, isi_tuple_str, isi_tuple_lst, isi_tuple_tup, isi_dict_non, isi_dict_bl, isi_dict_int, isi_dict_str, isi_dict_lst, isi_dict_tup, isi_list_tuple_non, isi_list_tuple_bl, isi_list_tuple_int, isi_list_tuple_str, isi_list_tuple_lst, isi_list_tuple_tup, isi_bool_str_non, isi_bool_str_bl, isi_bool_str_int, isi_bool_str_str, isi_bool_str_lst, isi_bool_str_tup])
    have hs := same_refl (dueD_dp (m := (q : Int) - 4) hal hbl) 16 (by decide)
    unfold dueD at hs
    (simp (disch := first | omega | (simp only [List.length_cons, List.length_nil, List.length_append, List.length_map, List.length_take, List.length_drop, List.length_reverse, List.length_set]; omega) | decide) only [hs, wX_ok, wX_exc, wO_some, wO_ite, wIf_true, wIf_false, wIf_not, wF_nx, wF_rt, wF_bk, wF_ct, w_pure, w_bind, w_of, w_m1, w_m2, w_var, w_c, w_truth, w_ite, w_and, w_or, w_not, w_andV, w_orV, w_notV, w_if, w_nil, w_cons, w_tup, w_lst, w_call, w_nx, w_seq, w_drop, w_ret, w_set, w_ifS, w_slot, w_callF, w_callK, w_app2, w_part, w_noPart, w_sl, w_seqOf, w_rng, w_for, w_forL_nil, w_app, w_ixO, w_lenO, w_popAt, w_setIx, w_aug, w_par2, w_par3, w_mbind, w_chain, wX_runF, VL.fill, VL.put, outs, startE, wipeE, backE, bindT_nm, bindT_tt, bindT_tl, bindTs_n, bindTs_c, VL.pick, List.filterMap_cons, List.filterMap_nil, List.map_cons, List.map_nil, List.length_cons, List.length_nil, List.replicate, List.cons_append, List.nil_append, List.getElem?_cons_zero, List.getElem?_cons_succ, List.set_cons_zero, List.set_cons_succ, Option.map_some, Option.bind_some, Option.getD_some, Nat.reduceSub, Nat.reduceAdd, Int.cast_ofNat_Int, Int.reduceLT, Int.reduceLE, Int.reduceNeg, Int.reduceEq, gEq_int, gNe_int, gLt_int, gGt_int, gLe_int, gGe_int, gAdd_int, gSub_int, gMul_l, gMul_r, gMod_int, gFdv_int, gNeg_i, cInt_i, cInt_b, cAbs_i, cLen_l, cLen_t, cTup_l, cTup_t, cLst_l, cLst_t, gIx_l, gIx_t, setI_i, popI_i, gSl_l, gSl_t, gSl_scr, dSeq_l, dSeq_t, dSeq_s, cMin2_i, cMax2_i, cEnum_l, cZip_l, cZip_t, tr_b, tr_i, tr_l, tr_t, tr_n, gIs_n, gIsn_n, isN, lstAt_0, lstAt_s, gAdd_l, gAdd_t, le_sizeP, lt_sizeP, gPow_i, cAll_mb, cAny_mb, w_star, w_tupS, w_lstS, w_star2, dItems_l, dItems_t, gCat_l, starT_c, gRev_ll, gRev_tt, true_and, and_true, Bool.not_true, Bool.not_false, decide_true, decide_false, isi_int_non, isi_int_bl, isi_int_int, isi_int_str, isi_int_lst, isi_int_tup, isi_str_non, isi_str_bl, isi_str_int, isi_str_str, isi_str_lst, isi_str_tup, isi_bool_non, isi_bool_bl, isi_bool_int, isi_bool_str, isi_bool_lst, isi_bool_tup, isi_list_non, isi_list_bl, isi_list_int, isi_list_str, isi_list_lst, isi_list_tup, isi_tuple_non, isi_tuple_bl, isi_tuple_int, isi_tuple_str, isi_tuple_lst, isi_tuple_tup, isi_dict_non, isi_dict_bl, isi_dict_int, isi_dict_str, isi_dict_lst, isi_dict_tup, isi_list_tuple_non, isi_list_tuple_bl, isi_list_tuple_int, isi_list_tuple_str, isi_list_tuple_lst, isi_list_tuple_tup, isi_bool_str_non, isi_bool_str_bl, isi_bool_str_int, isi_bool_str_str, isi_bool_str_lst, isi_bool_str_tup])
    exact ⟨d5, _, _, _, _, _, _, _, _, _, _, rfl, hb6⟩
  · rintro ρ' ⟨d', a, b, c, e, f, g, h, i, k, l, rfl, hb'⟩
    (simp (disch := first | omega | (simp only [List.length_cons, List.length_nil, List.length_append, List.length_map, List.length_take, List.length_drop, List.length_reverse, List.length_set]; omega) | decide) only [wX_ok, wX_exc, wO_some, wO_ite, wIf_true, wIf_false, wIf_not, wF_nx, wF_rt, wF_bk, wF_ct, w_pure, w_bind, w_of, w_m1, w_m2, w_var, w_c, w_truth, w_ite, w_and, w_or, w_not, w_andV, w_orV, w_notV, w_if, w_nil, w_cons, w_tup, w_lst, w_call, w_nx, w_seq, w_drop, w_ret, w_set, w_ifS, w_slot, w_callF, w_callK, w_app2, w_part, w_noPart, w_sl, w_seqOf, w_rng, w_for, w_forL_nil, w_app, w_ixO, w_lenO, w_popAt, w_setIx, w_aug, w_par2, w_par3, w_mbind, w_chain, wX_runF, VL.fill, VL.put, outs, startE, wipeE, backE, bindT_nm, bindT_tt, bindT_tl, bindTs_n, bindTs_c, VL.pick, List.filterMap_cons, List.filterMap_nil, List.map_cons, List.map_nil, List.length_cons, List.length_nil, List.replicate, List.cons_append, List.nil_append, List.getElem?_cons_zero, List.getElem?_cons_succ, List.set_cons_zero, List.set_cons_succ, Option.map_some, Option.bind_some, Option.getD_some, Nat.reduceSub, Nat.reduceAdd, Int.cast_ofNat_Int, Int.reduceLT, Int.reduceLE, Int.reduceNeg, Int.reduceEq, gEq_int, gNe_int, gLt_int, gGt_int, gLe_int, gGe_int, gAdd_int, gSub_int, gMul_l, gMul_r, gMod_int, gFdv_int, gNeg_i, cInt_i, cInt_b, cAbs_i, cLen_l, cLen_t, cTup_l, cTup_t, cLst_l, cLst_t, gIx_l, gIx_t, setI_i, popI_i, gSl_l, gSl_t, gSl_scr, dSeq_l, dSeq_t, dSeq_s, cMin2_i, cMax2_i, cEnum_l, cZip_l, cZip_t, tr_b, tr_i, tr_l, tr_t, tr_n, gIs_n, gIsn_n, isN, lstAt_0, lstAt_s, gAdd_l, gAdd_t, le_sizeP, lt_sizeP, gPow_i, cAll_mb, cAny_mb, w_star, w_tupS, w_lstS, w_star2, dItems_l, dItems_t, gCat_l, starT_c, gRev_ll, gRev_tt, true_and, and_true, Bool.not_true, Bool.not_false, decide_true, decide_false, isi_int_non, isi_int_bl, isi_int_int, isi_int_str, isi_int_lst, isi_int_tup, isi_str_non, isi_str_bl, isi_str_int, isi_str_str, isi_str_lst, isi_str_tup, isi_bool_non, isi_bool_bl, isi_bool_int, isi_bool_str, isi_bool_lst, isi_bool_tup, isi_list_non, isi_list_bl, isi_list_int, isi_list_str, isi_list_lst, isi_list_tup, isi_tuple_non, isi_tuple_bl, isi_tuple_int, isi_tuple_str, isi_tuple_lst, isi_tuple_tup, isi_dict_non, isi_dict_bl, isi_dict_int, isi_dict_str, isi_dict_lst, isi_dict_tup, isi_list_tuple_non, isi_list_tuple_bl, isi_list_tuple_int, isi_list_tuple_str, isi_list_tuple_lst, isi_list_tuple_tup, isi_bool_str_non, isi_bool_str_bl, isi_bool_str_int, isi_bool_str_str, isi_bool_str_lst, isi_bool_str_tup])
    exact ⟨d', rfl⟩
theorem law_true (ns : List Int) (hl : ns.length ≤ 63) : f_law_v9 [scr (ns.map .int)] = .ok (.bool true, []) := by
  apply wX_eq
  unfold f_law_v9
  (simp (disch := first | omega | (simp only [List.length_cons, List.length_nil, List.length_append, List.length_map, List.length_take, List.length_drop, List.length_reverse, List.length_set]; omega) | decide) only [hand9, wX_ok, wX_exc, wO_some, wO_ite, wIf_true, wIf_false, wIf_not, wF_nx, wF_rt, wF_bk, wF_ct, w_pure, w_bind, w_of, w_m1, w_m2, w_var, w_c, w_truth, w_ite, w_and, w_or, w_not, w_andV, w_orV, w_notV, w_if, w_nil, w_cons, w_tup, w_lst, w_call, w_nx, w_seq, w_drop, w_ret, w_set, w_ifS, w_slot, w_callF, w_callK, w_app2, w_part, w_noPart, w_sl, w_seqOf, w_rng, w_for, w_forL_nil, w_app, w_ixO, w_lenO, w_popAt, w_setIx, w_aug, w_par2, w_par3, w_mbind, w_chain, wX_runF, VL.fill, VL.put, outs, startE, wipeE, backE, bindT_nm, bindT_tt, bindT_tl, bindTs_n, bindTs_c, VL.pick, List.filterMap_cons, List.filterMap_nil, List.map_cons, List.map_nil, List.length_cons, List.length_nil, List.replicate, List.cons_append, List.nil_append, List.getElem?_cons_zero, List.getElem?_cons_succ, List.set_cons_zero, List.set_cons_succ, Option.map_some, Option.bind_some, Option.getD_some, Nat.reduceSub, Nat.reduceAdd, Int.cast_ofNat_Int, Int.reduceLT, Int.reduceLE, Int.reduceNeg, Int.reduceEq, gEq_int, gNe_int, gLt_int, gGt_int, gLe_int, gGe_int, gAdd_int, gSub_int, gMul_l, gMul_r, gMod_int, gFdv_int, gNeg_i, cInt_i, cInt_b, cAbs_i, cLen_l, cLen_t, cTup_l, cTup_t, cLst_l, cLst_t, gIx_l, gIx_t, setI_i, popI_i, gSl_l, gSl_t, gSl_scr, dSeq_l, dSeq_t, dSeq_s, cMin2_i, cMax2_i, cEnum_l, cZip_l, cZip_t, tr_b, tr_i, tr_l, tr_t, tr_n, gIs_n, gIsn_n, isN, lstAt_0, lstAt_s, gAdd_l, gAdd_t, le_sizeP, lt_sizeP, gPow_i, cAll_mb, cAny_mb, w_star, w_tupS, w_lstS, w_star2, dItems_l, dItems_t, gCat_l, starT_c, gRev_ll, gRev_tt, true_and, and_true, Bool.not_true, Bool.not_false, decide_true, decide_false, isi_int_non, isi_int_bl, isi_int_int, isi_int_str, isi_int_lst, isi_int_tup, isi_str_non, isi_str_bl, isi_str_int, isi_str_str, isi_str_lst, isi_str_tup, isi_bool_non, isi_bool_bl, isi_bool_int, isi_bool_str, isi_bool_lst, isi_bool_tup, isi_list_non, isi_list_bl, isi_list_int, isi_list_str, isi_list_lst, isi_list_tup, isi_tuple_non, isi_tuple_bl, isi_tuple_int, isi_tuple_str, isi_tuple_lst, isi_tuple_tup, isi_dict_non, isi_dict_bl, isi_dict_int, isi_dict_str, isi_dict_lst, isi_dict_tup, isi_list_tuple_non, isi_list_tuple_bl, isi_list_tuple_int, isi_list_tuple_str, isi_list_tuple_lst, isi_list_tuple_tup, isi_bool_str_non, isi_bool_str_bl, isi_bool_str_int, isi_bool_str_str, isi_bool_str_lst, isi_bool_str_tup])
  refine wX_imp (cells_sp (m := 3) hl (by decide)) ?_
  rintro ⟨_, _⟩ ⟨rfl, ms, rfl, hne, hms⟩
  (simp (disch := first | omega | (simp only [List.length_cons, List.length_nil, List.length_append, List.length_map, List.length_take, List.length_drop, List.length_reverse, List.length_set]; omega) | decide) only [rng1_nat (k := (ms.map PyData.int).length) (by rw [List.length_map]; omega), wX_ok, wX_exc, wO_some, wO_ite, wIf_true, wIf_false, wIf_not, wF_nx, wF_rt, wF_bk, wF_ct, w_pure, w_bind, w_of, w_m1, w_m2, w_var, w_c, w_truth, w_ite, w_and, w_or, w_not, w_andV, w_orV, w_notV, w_if, w_nil, w_cons, w_tup, w_lst, w_call, w_nx, w_seq, w_drop, w_ret, w_set, w_ifS, w_slot, w_callF, w_callK, w_app2, w_part, w_noPart, w_sl, w_seqOf, w_rng, w_for, w_forL_nil, w_app, w_ixO, w_lenO, w_popAt, w_setIx, w_aug, w_par2, w_par3, w_mbind, w_chain, wX_runF, VL.fill, VL.put, outs, startE, wipeE, backE, bindT_nm, bindT_tt, bindT_tl, bindTs_n, bindTs_c, VL.pick, List.filterMap_cons, List.filterMap_nil, List.map_cons, List.map_nil, List.length_cons, List.length_nil, List.replicate, List.cons_append, List.nil_append, List.getElem?_cons_zero, List.getElem?_cons_succ, List.set_cons_zero, List.set_cons_succ, Option.map_some, Option.bind_some, Option.getD_some, Nat.reduceSub, Nat.reduceAdd, Int.cast_ofNat_Int, Int.reduceLT, Int.reduceLE, Int.reduceNeg, Int.reduceEq, gEq_int, gNe_int, gLt_int, gGt_int, gLe_int, gGe_int, gAdd_int, gSub_int, gMul_l, gMul_r, gMod_int, gFdv_int, gNeg_i, cInt_i, cInt_b, cAbs_i, cLen_l, cLen_t, cTup_l, cTup_t, cLst_l, cLst_t, gIx_l, gIx_t, setI_i, popI_i, gSl_l, gSl_t, gSl_scr, dSeq_l, dSeq_t, dSeq_s, cMin2_i, cMax2_i, cEnum_l, cZip_l, cZip_t, tr_b, tr_i, tr_l, tr_t, tr_n, gIs_n, gIsn_n, isN, lstAt_0, lstAt_s, gAdd_l, gAdd_t, le_sizeP, lt_sizeP, gPow_i, cAll_mb, cAny_mb, w_star, w_tupS, w_lstS, w_star2, dItems_l, dItems_t, gCat_l, starT_c, gRev_ll, gRev_tt, true_and, and_true, Bool.not_true, Bool.not_false, decide_true, decide_false, isi_int_non, isi_int_bl, isi_int_int, isi_int_str, isi_int_lst, isi_int_tup, isi_str_non, isi_str_bl, isi_str_int, isi_str_str, isi_str_lst, isi_str_tup, isi_bool_non, isi_bool_bl, isi_bool_int, isi_bool_str, isi_bool_lst, isi_bool_tup, isi_list_non, isi_list_bl, isi_list_int, isi_list_str, isi_list_lst, isi_list_tup, isi_tuple_non, isi_tuple_bl, isi_tuple_int, isi_tuple_str, isi_tuple_lst, isi_tuple_tup, isi_dict_non, isi_dict_bl, isi_dict_int, isi_dict_str, isi_dict_lst, isi_dict_tup, isi_list_tuple_non, isi_list_tuple_bl, isi_list_tuple_int, isi_list_tuple_str, isi_list_tuple_lst, isi_list_tuple_tup, isi_bool_str_non, isi_bool_str_bl, isi_bool_str_int, isi_bool_str_str, isi_bool_str_lst, isi_bool_str_tup])
  rw [w_lc]
  (simp (disch := first | omega | (simp only [List.length_cons, List.length_nil, List.length_append, List.length_map, List.length_take, List.length_drop, List.length_reverse, List.length_set]; omega) | decide) only [rng1_nat (k := (ms.map PyData.int).length) (by rw [List.length_map]; omega), rng_len, wX_ok, wX_exc, wO_some, wO_ite, wIf_true, wIf_false, wIf_not, wF_nx, wF_rt, wF_bk, wF_ct, w_pure, w_bind, w_of, w_m1, w_m2, w_var, w_c, w_truth, w_ite, w_and, w_or, w_not, w_andV, w_orV, w_notV, w_if, w_nil, w_cons, w_tup, w_lst, w_call, w_nx, w_seq, w_drop, w_ret, w_set, w_ifS, w_slot, w_callF, w_callK, w_app2, w_part, w_noPart, w_sl, w_seqOf, w_rng, w_for, w_forL_nil, w_app, w_ixO, w_lenO, w_popAt, w_setIx, w_aug, w_par2, w_par3, w_mbind, w_chain, wX_runF, VL.fill, VL.put, outs, startE, wipeE, backE, bindT_nm, bindT_tt, bindT_tl, bindTs_n, bindTs_c, VL.pick, List.filterMap_cons, List.filterMap_nil, List.map_cons, List.map_nil, List.length_cons, List.length_nil, List.replicate, List.cons_append, List.nil_append, List.getElem?_cons_zero, List.getElem?_cons_succ, List.set_cons_zero, List.set_cons_succ, Option.map_some, Option.bind_some, Option.getD_some, Nat.reduceSub, Nat.reduceAdd, Int.cast_ofNat_Int, Int.reduceLT, Int.reduceLE, Int.reduceNeg, Int.reduceEq, gEq_int, gNe_int, gLt_int, gGt_int, gLe_int, gGe_int, gAdd_int, gSub_int, gMul_l, gMul_r, gMod_int, gFdv_int, gNeg_i, cInt_i, cInt_b, cAbs_i, cLen_l, cLen_t, cTup_l, cTup_t, cLst_l, cLst_t, gIx_l, gIx_t, setI_i, popI_i, gSl_l, gSl_t, gSl_scr, dSeq_l, dSeq_t, dSeq_s, cMin2_i, cMax2_i, cEnum_l, cZip_l, cZip_t, tr_b, tr_i, tr_l, tr_t, tr_n, gIs_n, gIsn_n, isN, lstAt_0, lstAt_s, gAdd_l, gAdd_t, le_sizeP, lt_sizeP, gPow_i, cAll_mb, cAny_mb, w_star, w_tupS, w_lstS, w_star2, dItems_l, dItems_t, gCat_l, starT_c, gRev_ll, gRev_tt, true_and, and_true, Bool.not_true, Bool.not_false, decide_true, decide_false, isi_int_non, isi_int_bl, isi_int_int, isi_int_str, isi_int_lst, isi_int_tup, isi_str_non, isi_str_bl, isi_str_int, isi_str_str, isi_str_lst, isi_str_tup, isi_bool_non, isi_bool_bl, isi_bool_int, isi_bool_str, isi_bool_lst, isi_bool_tup, isi_list_non, isi_list_bl, isi_list_int, isi_list_str, isi_list_lst, isi_list_tup, isi_tuple_non, isi_tuple_bl, isi_tuple_int, isi_tuple_str, isi_tuple_lst, isi_tuple_tup, isi_dict_non, isi_dict_bl, isi_dict_int, isi_dict_str, isi_dict_lst, isi_dict_tup, isi_list_tuple_non, isi_list_tuple_bl, isi_list_tuple_int, isi_list_tuple_str, isi_list_tuple_lst, isi_list_tuple_tup, isi_bool_str_non, isi_bool_str_bl, isi_bool_str_int, isi_bool_str_str, isi_bool_str_lst, isi_bool_str_tup])
  refine w_lcI (k := 0) (fun j acc ρ => ρ = [some (scr (ns.map .int)), some (.list (ms.map .int)), none] ∧ acc = List.replicate j (.bool true)) ⟨rfl, rfl⟩ ?_ ?_
  · rintro j d acc ρ hj ⟨rfl, rfl⟩
    obtain ⟨hjl, rfl⟩ := rng_get hj
    rw [List.length_map] at hjl
    have e0 : (0 : Int) + (j : Int) = (j : Int) := by omega
    (simp (disch := first | omega | (simp only [List.length_cons, List.length_nil, List.length_append, List.length_map, List.length_take, List.length_drop, List.length_reverse, List.length_set]; omega) | decide) only [e0, wX_ok, wX_exc, wO_some, wO_ite, wIf_true, wIf_false, wIf_not, wF_nx, wF_rt, wF_bk, wF_ct, w_pure, w_bind, w_of, w_m1, w_m2, w_var, w_c, w_truth, w_ite, w_and, w_or, w_not, w_andV, w_orV, w_notV, w_if, w_nil, w_cons, w_tup, w_lst, w_call, w_nx, w_seq, w_drop, w_ret, w_set, w_ifS, w_slot, w_callF, w_callK, w_app2, w_part, w_noPart, w_sl, w_seqOf, w_rng, w_for, w_forL_nil, w_app, w_ixO, w_lenO, w_popAt, w_setIx, w_aug, w_par2, w_par3, w_mbind, w_chain, wX_runF, VL.fill, VL.put, outs, startE, wipeE, backE, bindT_nm, bindT_tt, bindT_tl, bindTs_n, bindTs_c, VL.pick, List.filterMap_cons, List.filterMap_nil, List.map_cons, List.map_nil, List.length_cons, List.length_nil, List.replicate, List.cons_append, List.nil_append, List.getElem?_cons_zero, List.getElem?_cons_succ, List.set_cons_zero, List.set_cons_succ, Option.map_some, Option.bind_some, Option.getD_some, Nat.reduceSub, Nat.reduceAdd, Int.cast_ofNat_Int, Int.reduceLT, Int.reduceLE, Int.reduceNeg, Int.reduceEq, gEq_int, gNe_int, gLt_int, gGt_int, gLe_int, gGe_int, gAdd_int, gSub_int, gMul_l, gMul_r, gMod_int, gFdv_int, gNeg_i, cInt_i, cInt_b, cAbs_i, cLen_l, cLen_t, cTup_l, cTup_t, cLst_l, cLst_t, gIx_l, gIx_t, setI_i, popI_i, gSl_l, gSl_t, gSl_scr, dSeq_l, dSeq_t, dSeq_s, cMin2_i, cMax2_i, cEnum_l, cZip_l, cZip_t, tr_b, tr_i, tr_l, tr_t, tr_n, gIs_n, gIsn_n, isN, lstAt_0, lstAt_s, gAdd_l, gAdd_t, le_sizeP, lt_sizeP, gPow_i, cAll_mb, cAny_mb, w_star, w_tupS, w_lstS, w_star2, dItems_l, dItems_t, gCat_l, starT_c, gRev_ll, gRev_tt, true_and, and_true, Bool.not_true, Bool.not_false, decide_true, decide_false, isi_int_non, isi_int_bl, isi_int_int, isi_int_str, isi_int_lst, isi_int_tup, isi_str_non, isi_str_bl, isi_str_int, isi_str_str, isi_str_lst, isi_str_tup, isi_bool_non, isi_bool_bl, isi_bool_int, isi_bool_str, isi_bool_lst, isi_bool_tup, isi_list_non, isi_list_bl, isi_list_int, isi_list_str, isi_list_lst, isi_list_tup, isi_tuple_non, isi_tuple_bl, isi_tuple_int, isi_tuple_str, isi_tuple_lst, isi_tuple_tup, isi_dict_non, isi_dict_bl, isi_dict_int, isi_dict_str, isi_dict_lst, isi_dict_tup, isi_list_tuple_non, isi_list_tuple_bl, isi_list_tuple_int, isi_list_tuple_str, isi_list_tuple_lst, isi_list_tuple_tup, isi_bool_str_non, isi_bool_str_bl, isi_bool_str_int, isi_bool_str_str, isi_bool_str_lst, isi_bool_str_tup])
    refine wX_imp (box_sp9 hjl (by omega)) ?_
    rintro ⟨b, _⟩ ⟨rfl, hb⟩
    (simp (disch := first | omega | (simp only [List.length_cons, List.length_nil, List.length_append, List.length_map, List.length_take, List.length_drop, List.length_reverse, List.length_set]; omega) | decide) only [wX_ok, wX_exc, wO_some, wO_ite, wIf_true, wIf_false, wIf_not, wF_nx, wF_rt, wF_bk, wF_ct, w_pure, w_bind, w_of, w_m1, w_m2, w_var, w_c, w_truth, w_ite, w_and, w_or, w_not, w_andV, w_orV, w_notV, w_if, w_nil, w_cons, w_tup, w_lst, w_call, w_nx, w_seq, w_drop, w_ret, w_set, w_ifS, w_slot, w_callF, w_callK, w_app2, w_part, w_noPart, w_sl, w_seqOf, w_rng, w_for, w_forL_nil, w_app, w_ixO, w_lenO, w_popAt, w_setIx, w_aug, w_par2, w_par3, w_mbind, w_chain, wX_runF, VL.fill, VL.put, outs, startE, wipeE, backE, bindT_nm, bindT_tt, bindT_tl, bindTs_n, bindTs_c, VL.pick, List.filterMap_cons, List.filterMap_nil, List.map_cons, List.map_nil, List.length_cons, List.length_nil, List.replicate, List.cons_append, List.nil_append, List.getElem?_cons_zero, List.getElem?_cons_succ, List.set_cons_zero, List.set_cons_succ, Option.map_some, Option.bind_some, Option.getD_some, Nat.reduceSub, Nat.reduceAdd, Int.cast_ofNat_Int, Int.reduceLT, Int.reduceLE, Int.reduceNeg, Int.reduceEq, gEq_int, gNe_int, gLt_int, gGt_int, gLe_int, gGe_int, gAdd_int, gSub_int, gMul_l, gMul_r, gMod_int, gFdv_int, gNeg_i, cInt_i, cInt_b, cAbs_i, cLen_l, cLen_t, cTup_l, cTup_t, cLst_l, cLst_t, gIx_l, gIx_t, setI_i, popI_i, gSl_l, gSl_t, gSl_scr, dSeq_l, dSeq_t, dSeq_s, cMin2_i, cMax2_i, cEnum_l, cZip_l, cZip_t, tr_b, tr_i, tr_l, tr_t, tr_n, gIs_n, gIsn_n, isN, lstAt_0, lstAt_s, gAdd_l, gAdd_t, le_sizeP, lt_sizeP, gPow_i, cAll_mb, cAny_mb, w_star, w_tupS, w_lstS, w_star2, dItems_l, dItems_t, gCat_l, starT_c, gRev_ll, gRev_tt, true_and, and_true, Bool.not_true, Bool.not_false, decide_true, decide_false, isi_int_non, isi_int_bl, isi_int_int, isi_int_str, isi_int_lst, isi_int_tup, isi_str_non, isi_str_bl, isi_str_int, isi_str_str, isi_str_lst, isi_str_tup, isi_bool_non, isi_bool_bl, isi_bool_int, isi_bool_str, isi_bool_lst, isi_bool_tup, isi_list_non, isi_list_bl, isi_list_int, isi_list_str, isi_list_lst, isi_list_tup, isi_tuple_non, isi_tuple_bl, isi_tuple_int, isi_tuple_str, isi_tuple_lst, isi_tuple_tup, isi_dict_non, isi_dict_bl, isi_dict_int, isi_dict_str, isi_dict_lst, isi_dict_tup, isi_list_tuple_non, isi_list_tuple_bl, isi_list_tuple_int, isi_list_tuple_str, isi_list_tuple_lst, isi_list_tuple_tup, isi_bool_str_non, isi_bool_str_bl, isi_bool_str_int, isi_bool_str_str, isi_bool_str_lst, isi_bool_str_tup])
    refine wX_imp (right_sp hb (by decide)) ?_
    rintro ⟨_, o⟩ ⟨rfl, d', rfl⟩
    (simp (disch := first | omega | (simp only [List.length_cons, List.length_nil, List.length_append, List.length_map, List.length_take, List.length_drop, List.length_reverse, List.length_set]; omega) | decide) only [wX_ok, wX_exc, wO_some, wO_ite, wIf_true, wIf_false, wIf_not, wF_nx, wF_rt, wF_bk, wF_ct, w_pure, w_bind, w_of, w_m1, w_m2, w_var, w_c, w_truth, w_ite, w_and, w_or, w_not, w_andV, w_orV, w_notV, w_if, w_nil, w_cons, w_tup, w_lst, w_call, w_nx, w_seq, w_drop, w_ret, w_set, w_ifS, w_slot, w_callF, w_callK, w_app2, w_part, w_noPart, w_sl, w_seqOf, w_rng, w_for, w_forL_nil, w_app, w_ixO, w_lenO, w_popAt, w_setIx, w_aug, w_par2, w_par3, w_mbind, w_chain, wX_runF, VL.fill, VL.put, outs, startE, wipeE, backE, bindT_nm, bindT_tt, bindT_tl, bindTs_n, bindTs_c, VL.pick, List.filterMap_cons, List.filterMap_nil, List.map_cons, List.map_nil, List.length_cons, List.length_nil, List.replicate, List.cons_append, List.nil_append, List.getElem?_cons_zero, List.getElem?_cons_succ, List.set_cons_zero, List.set_cons_succ, Option.map_some, Option.bind_some, Option.getD_some, Nat.reduceSub, Nat.reduceAdd, Int.cast_ofNat_Int, Int.reduceLT, Int.reduceLE, Int.reduceNeg, Int.reduceEq, gEq_int, gNe_int, gLt_int, gGt_int, gLe_int, gGe_int, gAdd_int, gSub_int, gMul_l, gMul_r, gMod_int, gFdv_int, gNeg_i, cInt_i, cInt_b, cAbs_i, cLen_l, cLen_t, cTup_l, cTup_t, cLst_l, cLst_t, gIx_l, gIx_t, setI_i, popI_i, gSl_l, gSl_t, gSl_scr, dSeq_l, dSeq_t, dSeq_s, cMin2_i, cMax2_i, cEnum_l, cZip_l, cZip_t, tr_b, tr_i, tr_l, tr_t, tr_n, gIs_n, gIsn_n, isN, lstAt_0, lstAt_s, gAdd_l, gAdd_t, le_sizeP, lt_sizeP, gPow_i, cAll_mb, cAny_mb, w_star, w_tupS, w_lstS, w_star2, dItems_l, dItems_t, gCat_l, starT_c, gRev_ll, gRev_tt, true_and, and_true, Bool.not_true, Bool.not_false, decide_true, decide_false, isi_int_non, isi_int_bl, isi_int_int, isi_int_str, isi_int_lst, isi_int_tup, isi_str_non, isi_str_bl, isi_str_int, isi_str_str, isi_str_lst, isi_str_tup, isi_bool_non, isi_bool_bl, isi_bool_int, isi_bool_str, isi_bool_lst, isi_bool_tup, isi_list_non, isi_list_bl, isi_list_int, isi_list_str, isi_list_lst, isi_list_tup, isi_tuple_non, isi_tuple_bl, isi_tuple_int, isi_tuple_str, isi_tuple_lst, isi_tuple_tup, isi_dict_non, isi_dict_bl, isi_dict_int, isi_dict_str, isi_dict_lst, isi_dict_tup, isi_list_tuple_non, isi_list_tuple_bl, isi_list_tuple_int, isi_list_tuple_str, isi_list_tuple_lst, isi_list_tuple_tup, isi_bool_str_non, isi_bool_str_bl, isi_bool_str_int, isi_bool_str_str, isi_bool_str_lst, isi_bool_str_tup])
    rw [← List.replicate_succ', List.replicate_succ]
  · rintro acc ρ ⟨rfl, rfl⟩
    (simp (disch := first | omega | (simp only [List.length_cons, List.length_nil, List.length_append, List.length_map, List.length_take, List.length_drop, List.length_reverse, List.length_set]; omega) | decide) only [cAll_true, wX_ok, wX_exc, wO_some, wO_ite, wIf_true, wIf_false, wIf_not, wF_nx, wF_rt, wF_bk, wF_ct, w_pure, w_bind, w_of, w_m1, w_m2, w_var, w_c, w_truth, w_ite, w_and, w_or, w_not, w_andV, w_orV, w_notV, w_if, w_nil, w_cons, w_tup, w_lst, w_call, w_nx, w_seq, w_drop, w_ret, w_set, w_ifS, w_slot, w_callF, w_callK, w_app2, w_part, w_noPart, w_sl, w_seqOf, w_rng, w_for, w_forL_nil, w_app, w_ixO, w_lenO, w_popAt, w_setIx, w_aug, w_par2, w_par3, w_mbind, w_chain, wX_runF, VL.fill, VL.put, outs, startE, wipeE, backE, bindT_nm, bindT_tt, bindT_tl, bindTs_n, bindTs_c, VL.pick, List.filterMap_cons, List.filterMap_nil, List.map_cons, List.map_nil, List.length_cons, List.length_nil, List.replicate, List.cons_append, List.nil_append, List.getElem?_cons_zero, List.getElem?_cons_succ, List.set_cons_zero, List.set_cons_succ, Option.map_some, Option.bind_some, Option.getD_some, Nat.reduceSub, Nat.reduceAdd, Int.cast_ofNat_Int, Int.reduceLT, Int.reduceLE, Int.reduceNeg, Int.reduceEq, gEq_int, gNe_int, gLt_int, gGt_int, gLe_int, gGe_int, gAdd_int, gSub_int, gMul_l, gMul_r, gMod_int, gFdv_int, gNeg_i, cInt_i, cInt_b, cAbs_i, cLen_l, cLen_t, cTup_l, cTup_t, cLst_l, cLst_t, gIx_l, gIx_t, setI_i, popI_i, gSl_l, gSl_t, gSl_scr, dSeq_l, dSeq_t, dSeq_s, cMin2_i, cMax2_i, cEnum_l, cZip_l, cZip_t, tr_b, tr_i, tr_l, tr_t, tr_n, gIs_n, gIsn_n, isN, lstAt_0, lstAt_s, gAdd_l, gAdd_t, le_sizeP, lt_sizeP, gPow_i, cAll_mb, cAny_mb, w_star, w_tupS, w_lstS, w_star2, dItems_l, dItems_t, gCat_l, starT_c, gRev_ll, gRev_tt, true_and, and_true, Bool.not_true, Bool.not_false, decide_true, decide_false, isi_int_non, isi_int_bl, isi_int_int, isi_int_str, isi_int_lst, isi_int_tup, isi_str_non, isi_str_bl, isi_str_int, isi_str_str, isi_str_lst, isi_str_tup, isi_bool_non, isi_bool_bl, isi_bool_int, isi_bool_str, isi_bool_lst, isi_bool_tup, isi_list_non, isi_list_bl, isi_list_int, isi_list_str, isi_list_lst, isi_list_tup, isi_tuple_non, isi_tuple_bl, isi_tuple_int, isi_tuple_str, isi_tuple_lst, isi_tuple_tup, isi_dict_non, isi_dict_bl, isi_dict_int, isi_dict_str, isi_dict_lst, isi_dict_tup, isi_list_tuple_non, isi_list_tuple_bl, isi_list_tuple_int, isi_list_tuple_str, isi_list_tuple_lst, isi_list_tuple_tup, isi_bool_str_non, isi_bool_str_bl, isi_bool_str_int, isi_bool_str_str, isi_bool_str_lst, isi_bool_str_tup])
end LL
end

set_option Elab.async false
set_option maxRecDepth 100000
set_option maxHeartbeats 0
open PySem PySem.W PySem.Calls PyProof.Rows
theorem PySem.Challenge.cw_lastlimit_k08_what_lists_tell_holds : PySem.Challenge.rw_lastlimit_k08_what_lists_tell.Holds := by
  w_on; o_law
  refine HandSHeadRun.head_any (r := OpenLaw.row PySem.Challenge.rw_lastlimit_k08_what_lists_tell) (q := view (OpenLaw.row PySem.Challenge.rw_lastlimit_k08_what_lists_tell).prog [31]) (H := K08.hk) (ob := K08.hob) (M := 1500) (loose := K08.hnames) (d := HandSHeadRun.topDef (OpenLaw.row PySem.Challenge.rw_lastlimit_k08_what_lists_tell).prog 31) (kwd := []) K08.hob_eq
    (by kernel_rfl) (fun s => by kernel_rfl) K08.hrun (by kernel_rfl) (by kernel_rfl) (by kernel_rfl) (by rfl) (by first | assumption | decide +kernel) (by decide +kernel) ⟨rfl, rfl, rfl, rfl, rfl, by decide +kernel⟩ ?hw ?hc
  case hw => w_witness2
  case hc =>
    refine VL.walk_V (l := PySem.Challenge.rw_lastlimit_k08_what_lists_tell) (n := 63) (k := 21) (x := "_law_script") rfl (by decide) (by kernel_rfl) ⟨rfl, by decide, by decide⟩ ?F
    intro w mg fa h Y G hmg0
    obtain ⟨K, KX, c⟩ := Y
    have hmg : mg ("law" : PySem.Str) = some (.ref fa) := by
      have e : (HandSHeadRun.topDef (OpenLaw.row PySem.Challenge.rw_lastlimit_k08_what_lists_tell).prog 31).name = ("law" : PySem.Str) := by kernel_rfl
      rw [← e]
      exact hmg0
    obtain ⟨a0, fd0, _, hm0, F0, _⟩ := (K08.facts KX G c h).ex
    have ea : fa = a0 := by
      rw [hmg] at hm0
      cases hm0
      rfl
    subst ea
    have b := L2.FunD.bindsA (ps := ["_law_script"]) F0 fun _ _ _ _ _ _ us hl => match us, hl with | [_], _ => rfl
    refine ⟨K, fd0, VL.spV K K08.B0 [false] false LL.f_law_v9, KX, fun s v => b s [v] rfl, fun H a ns hl _ hS => VL.law_sp (LL.law_true ns hl) hS, fun base hK hns => ?_⟩
    obtain ⟨a1, fd1, ok1, hm1, F1, _⟩ := (K08.facts KX G c base).ex
    have ea : fa = a1 := by
      rw [hmg] at hm1
      cases hm1
      rfl
    subst ea
    have ef : fd0 = fd1 := by
      obtain ⟨_, _, _, _, _, _, _, _, _, _, e0, l0, _⟩ := F0.ex
      obtain ⟨_, _, _, _, _, _, _, _, _, _, e1, l1, _⟩ := F1.ex
      rw [l0] at l1
      cases l1
      rfl
    subst ef
    exact ok1

